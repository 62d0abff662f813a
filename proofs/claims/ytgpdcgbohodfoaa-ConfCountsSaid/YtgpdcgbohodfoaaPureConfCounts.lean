/- The statement over numbers and lists that is left of the law ConfCounts. -/
import Derived.Test.YtgpdcgbohodfoaaStConfCounts
import Derived.Test.YtgpdcgbohodfoaaSCf
namespace Go.Proofs.Ytgpdcgbohodfoaa.Pure
open Go.RowKit Go.Proofs.YtgpdcgbohodfoaaW.PrintWords Go.Proofs.YtgpdcgbohodfoaaW.PrintLast Go.Proofs.YtgpdcgbohodfoaaW.PrintMore Go.Proofs.Ytgpdcgbohodfoaa.P
set_option linter.unusedSimpArgs false
theorem awakeCC : Ev (fun k => jackstaylaw06_awake.f k) true := Ev.of jackstaylaw06_awake.mono (k := 1500) (by decide +kernel)
def low (x : Int) : Int := if 0 < x then x else 0
theorem ConfCounts_l3 (a b x y : Nat) (ha : a ≤ 40) (hb : b ≤ 40) (hx : x ≤ 30) (hy : y ≤ 40) : ∀ (d i : Nat), d + i = y → 
    Ev (fun k => jackstaylaw06_ConfCounts.l3 k (a : Int) (b : Int) (x : Int) (y : Int) (y : Int) (i : Int) (low (8 * (x : Int) - (i : Int))) (low ((a : Int) - (b : Int))) false 0 0) true
  | 0, i, h => by
    have hi : i = y := by omega
    subst hi
    refine Ev.next ?_
    simp only [jackstaylaw06_ConfCounts.l3]
    have e1 : low ((a : Int) - (b : Int)) = mx (wrap64 ((a : Int) - (b : Int))) 0 := by rw [w64 (by omega) (by omega), mx_0]; rfl
    have e2 : low (8 * (x : Int) - (i : Int)) = mx (wrap64 (wrap64 (8 * (x : Int)) - (i : Int))) 0 := by rw [w64 (x := 8 * (x : Int)) (by omega) (by omega), w64 (by omega) (by omega), mx_0]; rfl
    refine Ev.neg (by omega) (Ev.pos e1 (Ev.pos e2 (Ev.neg (by decide) ?_)))
    have b1 : 0 ≤ low ((a : Int) - (b : Int)) ∧ low ((a : Int) - (b : Int)) ≤ 40 := by unfold low; split <;> omega
    have b2 : 0 ≤ low (8 * (x : Int) - (i : Int)) ∧ low (8 * (x : Int) - (i : Int)) ≤ 240 := by unfold low; split <;> omega
    refine Ev.bind (conf_Mode.on b2.1 (by omega) b1.1 (by omega)) (Ev.pos ?_ (Ev.bind awakeCC (Ev.now true)))
    by_cases hc : low (8 * (x : Int) - (i : Int)) > 127
    · rw [if_pos (.inl hc), decide_eq_true hc]; rfl
    · rw [if_neg (by omega), decide_eq_false hc]; rfl
  | d + 1, i, h => by
    refine Ev.next ?_
    simp only [jackstaylaw06_ConfCounts.l3]
    have b1 : 0 ≤ low ((a : Int) - (b : Int)) ∧ low ((a : Int) - (b : Int)) ≤ 40 := by unfold low; split <;> omega
    have b2 : 0 ≤ low (8 * (x : Int) - (i : Int)) ∧ low (8 * (x : Int) - (i : Int)) ≤ 240 := by unfold low; split <;> omega
    refine Ev.pos (by omega) (Ev.bind (conf_Event.on b2.1 (by omega) b1.1 (by omega) (by decide)) ?_)
    have e : (evOn (low (8 * (x : Int) - (i : Int))) (low ((a : Int) - (b : Int))) 8) = (low (8 * (x : Int) - ((i + 1 : Nat) : Int)), low ((a : Int) - (b : Int)), false) := by
      show ((if 0 < low (8 * (x : Int) - (i : Int)) then low (8 * (x : Int) - (i : Int)) - 1 else 0), low ((a : Int) - (b : Int)), false) = _
      congr 1
      unfold low
      (repeat' split) <;> omega
    rw [e, w64 (by omega) (by omega), show (i : Int) + 1 = ((i + 1 : Nat) : Int) by omega]
    exact ConfCounts_l3 a b x y ha hb hx hy d (i + 1) (by omega)
theorem ConfCounts_l2 (a b x y : Nat) (ha : a ≤ 40) (hb : b ≤ 40) (hx : x ≤ 30) (hy : y ≤ 40) : ∀ (d i : Nat), d + i = x → 
    Ev (fun k => jackstaylaw06_ConfCounts.l2 k (a : Int) (b : Int) (x : Int) (y : Int) (x : Int) (i : Int) (8 * (i : Int)) (low ((a : Int) - (b : Int))) false 0 0) true
  | 0, i, h => by
    have hi : i = x := by omega
    subst hi
    refine Ev.next ?_
    simp only [jackstaylaw06_ConfCounts.l2]
    refine Ev.neg (by omega) ?_
    have := ConfCounts_l3 a b i y ha hb hx hy y 0 (by omega)
    rwa [show low (8 * (i : Int) - ((0 : Nat) : Int)) = 8 * (i : Int) by unfold low; split <;> omega] at this
  | d + 1, i, h => by
    refine Ev.next ?_
    simp only [jackstaylaw06_ConfCounts.l2]
    have b1 : 0 ≤ low ((a : Int) - (b : Int)) ∧ low ((a : Int) - (b : Int)) ≤ 40 := by unfold low; split <;> omega
    refine Ev.pos (by omega) (Ev.bind (conf_Event.on (by omega) (by omega) b1.1 (by omega) (by decide)) ?_)
    have e : (evOn (8 * (i : Int)) (low ((a : Int) - (b : Int))) 5) = (8 * ((i + 1 : Nat) : Int), low ((a : Int) - (b : Int)), false) := by
      show (8 * (i : Int) + 8, low ((a : Int) - (b : Int)), decide (255 < 8 * (i : Int) + 8)) = _
      rw [decide_eq_false (by omega), show 8 * (i : Int) + 8 = 8 * ((i + 1 : Nat) : Int) by omega]
    rw [e, w64 (by omega) (by omega), show (i : Int) + 1 = ((i + 1 : Nat) : Int) by omega]
    exact ConfCounts_l2 a b x y ha hb hx hy d (i + 1) (by omega)
theorem ConfCounts_l1 (a b x y : Nat) (ha : a ≤ 40) (hb : b ≤ 40) (hx : x ≤ 30) (hy : y ≤ 40) : ∀ (d i : Nat), d + i = b → 
    Ev (fun k => jackstaylaw06_ConfCounts.l1 k (a : Int) (b : Int) (x : Int) (y : Int) (b : Int) (i : Int) 0 (low ((a : Int) - (i : Int))) false 0 0) true
  | 0, i, h => by
    have hi : i = b := by omega
    subst hi
    refine Ev.next ?_
    simp only [jackstaylaw06_ConfCounts.l1]
    exact Ev.neg (by omega) (ConfCounts_l2 a i x y ha hb hx hy x 0 (by omega))
  | d + 1, i, h => by
    refine Ev.next ?_
    simp only [jackstaylaw06_ConfCounts.l1]
    have b1 : 0 ≤ low ((a : Int) - (i : Int)) ∧ low ((a : Int) - (i : Int)) ≤ 40 := by unfold low; split <;> omega
    refine Ev.pos (by omega) (Ev.bind (conf_Event.on (by omega) (by omega) b1.1 (by omega) (by decide)) ?_)
    have e : (evOn 0 (low ((a : Int) - (i : Int))) 9) = (0, low ((a : Int) - ((i + 1 : Nat) : Int)), false) := by
      show ((0 : Int), (if 127 < low ((a : Int) - (i : Int)) then 119 else if 0 < low ((a : Int) - (i : Int)) then low ((a : Int) - (i : Int)) - 1 else 0), false) = _
      rw [if_neg (by omega)]
      congr 2
      unfold low
      (repeat' split) <;> omega
    rw [e, w64 (by omega) (by omega), show (i : Int) + 1 = ((i + 1 : Nat) : Int) by omega]
    exact ConfCounts_l1 a b x y ha hb hx hy d (i + 1) (by omega)
theorem ConfCounts_l0 (a b x y : Nat) (ha : a ≤ 40) (hb : b ≤ 40) (hx : x ≤ 30) (hy : y ≤ 40) : ∀ (d i : Nat), d + i = a → 
    Ev (fun k => jackstaylaw06_ConfCounts.l0 k (a : Int) (b : Int) (x : Int) (y : Int) (a : Int) (i : Int) 0 (i : Int) false 0 0) true
  | 0, i, h => by
    have hi : i = a := by omega
    subst hi
    refine Ev.next ?_
    simp only [jackstaylaw06_ConfCounts.l0]
    refine Ev.neg (by omega) ?_
    have := ConfCounts_l1 i b x y ha hb hx hy b 0 (by omega)
    rwa [show low ((i : Int) - ((0 : Nat) : Int)) = (i : Int) by unfold low; split <;> omega] at this
  | d + 1, i, h => by
    refine Ev.next ?_
    simp only [jackstaylaw06_ConfCounts.l0]
    refine Ev.pos (by omega) (Ev.bind (conf_Event.on (by omega) (by omega) (by omega) (by omega) (by decide)) ?_)
    have e : (evOn 0 (i : Int) 1) = (0, ((i + 1 : Nat) : Int), false) := by
      show ((0 : Int), (if 255 < (i : Int) + 1 then 255 else (i : Int) + 1), false) = _
      rw [if_neg (by omega), show (i : Int) + 1 = ((i + 1 : Nat) : Int) by omega]
    rw [e, w64 (by omega) (by omega), show (i : Int) + 1 = ((i + 1 : Nat) : Int) by omega]
    exact ConfCounts_l0 a b x y ha hb hx hy d (i + 1) (by omega)
theorem tmodNat {x : Int} (h : 0 ≤ x ∧ x ≤ 255) (n : Nat) (hn : 0 < n ∧ n ≤ 255) : ∃ m : Nat, m < n ∧ wrap64 (Int.tmod x (n : Int)) = (m : Int) := by
  have h1 := Int.tmod_nonneg (n : Int) h.1
  have h2 := Int.tmod_lt_of_pos x (show (0 : Int) < (n : Int) by omega)
  exact ⟨(Int.tmod x (n : Int)).toNat, by omega, by rw [w64 (by omega) (by omega)]; omega⟩
theorem ConfCounts : jackstaylaw06_ConfCounts.Pure := by
  intro x0 x1 x2 x3 h0 h1 h2 h3
  refine Ev.rounds ?_
  simp only [jackstaylaw06_ConfCounts.f]
  obtain ⟨a, ha, ea⟩ := tmodNat (wf_u8 h0) 41 (by decide)
  obtain ⟨b, hb, eb⟩ := tmodNat (wf_u8 h1) 41 (by decide)
  obtain ⟨x, hx, ex⟩ := tmodNat (wf_u8 h2) 31 (by decide)
  obtain ⟨y, hy, ey⟩ := tmodNat (wf_u8 h3) 41 (by decide)
  rw [show wrap64 (Int.tmod x0 41) = (a : Int) from ea, show wrap64 (Int.tmod x1 41) = (b : Int) from eb, show wrap64 (Int.tmod x2 31) = (x : Int) from ex, show wrap64 (Int.tmod x3 41) = (y : Int) from ey]
  exact ConfCounts_l0 a b x y (by omega) (by omega) (by omega) (by omega) a 0 (by omega)
end Go.Proofs.Ytgpdcgbohodfoaa.Pure
