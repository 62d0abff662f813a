/- The statement over numbers and lists that is left of the law ConfBalance. -/
import Derived.Test.YtgpdcgbohodfoaaStConfBalance
import Derived.Test.YtgpdcgbohodfoaaSCf
namespace Go.Proofs.Ytgpdcgbohodfoaa.Pure
open Go.RowKit Go.Proofs.YtgpdcgbohodfoaaW.PrintWords Go.Proofs.YtgpdcgbohodfoaaW.PrintLast Go.Proofs.YtgpdcgbohodfoaaW.PrintMore Go.Proofs.Ytgpdcgbohodfoaa.P
set_option linter.unusedSimpArgs false
theorem awakeCB : Ev (fun k => jackstaylaw06_awake.f k) true := Ev.of jackstaylaw06_awake.mono (k := 1500) (by decide +kernel)
theorem rd_mem (l : List Int) (i : Nat) (h : i < l.length) : ∃ x ∈ l, rd l (i : Int) = x := by
  refine ⟨l[i], List.getElem_mem h, ?_⟩
  simp [rd, List.getD_eq_getElem?_getD, h]
def lowB (x : Int) : Int := if 0 < x then x else 0
theorem ConfBalance_l1a (l : List Int) (n : Int) (i : Int) (H : Ev (fun k => jackstaylaw06_ConfBalance.l0 k l n (wrap64 (i + 1)) 0 0 false 0 0) true) : ∀ (d j : Nat), d + j = 8 →
    Ev (fun k => jackstaylaw06_ConfBalance.l1 k 8 l n i (j : Int) (8 - (j : Int)) 0 false 0 0) true
  | 0, j, h => by
    have hj : j = 8 := by omega
    subst hj
    refine Ev.next ?_
    simp only [jackstaylaw06_ConfBalance.l1]
    exact Ev.neg (by decide) H
  | d + 1, j, h => by
    refine Ev.next ?_
    simp only [jackstaylaw06_ConfBalance.l1]
    refine Ev.pos (by omega) (Ev.bind (conf_Event.on (by omega) (by omega) (by omega) (by omega) (by decide)) ?_)
    have e : (evOn (8 - (j : Int)) 0 8) = (8 - ((j + 1 : Nat) : Int), 0, false) := by
      show ((if 0 < 8 - (j : Int) then 8 - (j : Int) - 1 else 0), (0 : Int), false) = _
      rw [if_pos (by omega), show 8 - (j : Int) - 1 = 8 - ((j + 1 : Nat) : Int) by omega]
    rw [e, w64 (by omega) (by omega), show (j : Int) + 1 = ((j + 1 : Nat) : Int) by omega]
    exact ConfBalance_l1a l n i H d (j + 1) (by omega)
theorem ConfBalance_l1b (l : List Int) (n : Int) (i : Int) (H : Ev (fun k => jackstaylaw06_ConfBalance.l0 k l n (wrap64 (i + 1)) 0 0 false 0 0) true) (q : Int) (hq : 0 ≤ q ∧ q ≤ 8) : ∀ (d j : Nat), d + j = 8 →
    Ev (fun k => jackstaylaw06_ConfBalance.l1 k 9 l n i (j : Int) 0 (lowB (q - (j : Int))) false 0 0) true
  | 0, j, h => by
    have hj : j = 8 := by omega
    subst hj
    refine Ev.next ?_
    simp only [jackstaylaw06_ConfBalance.l1]
    rw [show lowB (q - ((8 : Nat) : Int)) = 0 by unfold lowB; rw [if_neg (by omega)]]
    exact Ev.neg (by decide) H
  | d + 1, j, h => by
    have hb : 0 ≤ lowB (q - (j : Int)) ∧ lowB (q - (j : Int)) ≤ 8 := by unfold lowB; split <;> omega
    refine Ev.next ?_
    simp only [jackstaylaw06_ConfBalance.l1]
    refine Ev.pos (by omega) (Ev.bind (conf_Event.on (by omega) (by omega) (by omega) (by omega) (by decide)) ?_)
    have e : (evOn 0 (lowB (q - (j : Int))) 9) = (0, lowB (q - ((j + 1 : Nat) : Int)), false) := by
      show ((0 : Int), (if 127 < lowB (q - (j : Int)) then 119 else if 0 < lowB (q - (j : Int)) then lowB (q - (j : Int)) - 1 else 0), false) = _
      rw [if_neg (by omega)]
      congr 2
      unfold lowB
      (repeat' split) <;> omega
    rw [e, w64 (by omega) (by omega), show (j : Int) + 1 = ((j + 1 : Nat) : Int) by omega]
    exact ConfBalance_l1b l n i H q hq d (j + 1) (by omega)
theorem ConfBalance_l0 (l : List Int) (hx : ∀ x ∈ l, 0 ≤ x ∧ x ≤ 255) (hl : l.length ≤ 200) : ∀ (d i : Nat), d + i = l.length →
    Ev (fun k => jackstaylaw06_ConfBalance.l0 k l (l.length : Int) (i : Int) 0 0 false 0 0) true
  | 0, i, h => by
    refine Ev.next ?_
    simp only [jackstaylaw06_ConfBalance.l0]
    exact Ev.neg (by omega) (Ev.pos rfl (Ev.bind awakeCB (Ev.now true)))
  | d + 1, i, h => by
    have H : Ev (fun k => jackstaylaw06_ConfBalance.l0 k l (l.length : Int) (wrap64 ((i : Int) + 1)) 0 0 false 0 0) true := by
      rw [w64 (by omega) (by omega), show (i : Int) + 1 = ((i + 1 : Nat) : Int) by omega]
      exact ConfBalance_l0 l hx hl d (i + 1) (by omega)
    refine Ev.next ?_
    simp only [jackstaylaw06_ConfBalance.l0]
    obtain ⟨x, hm, hr⟩ := rd_mem l i (by omega)
    rw [hr]
    have a1 := Int.tmod_nonneg (7 : Int) (hx x hm).1
    have a2 := Int.tmod_lt_of_pos x (show (0 : Int) < 7 by decide)
    obtain ⟨w, hw, hw1, hw2⟩ : ∃ w : Int, (1 + Int.tmod x 7) % 256 = w ∧ 1 ≤ w ∧ w ≤ 7 := ⟨_, rfl, by omega, by omega⟩
    rw [hw]
    refine Ev.pos (by omega) (Ev.pos (by omega) (Ev.pos (by omega) ?_))
    refine Ev.bind (conf_Event.on (t := 0) (r := 0) (by decide) (by decide) (by decide) (by decide) (by omega)) ?_
    have e : ∃ t r : Int, evOn 0 0 w = (t, r, false) ∧ ((5 ≤ w ∧ t = 8 ∧ r = 0) ∨ (w < 5 ∧ t = 0 ∧ 0 ≤ r ∧ r ≤ 8)) := by
      rcases nine (show 1 ≤ w ∧ w ≤ 9 by omega) with rfl | rfl | rfl | rfl | rfl | rfl | rfl | rfl | rfl
      · exact ⟨0, 1, rfl, .inr (by decide)⟩
      · exact ⟨0, 8, rfl, .inr (by decide)⟩
      · exact ⟨0, 8, rfl, .inr (by decide)⟩
      · exact ⟨0, 8, rfl, .inr (by decide)⟩
      · exact ⟨8, 0, rfl, .inl (by decide)⟩
      · exact ⟨8, 0, rfl, .inl (by decide)⟩
      · exact ⟨8, 0, rfl, .inl (by decide)⟩
      · omega
      · omega
    obtain ⟨t, r, e, hc⟩ := e
    rw [e]
    simp only
    refine Ev.neg (by omega) (Ev.neg (by omega) (Ev.bind (conf_Mode.on (by omega) (by omega) (by omega) (by omega)) ?_))
    rw [if_neg (by omega)]
    refine Ev.next ?_
    simp only [jackstaylaw06_ConfBalance.j1]
    refine Ev.neg (by decide) ?_
    rcases hc with ⟨h5, rfl, rfl⟩ | ⟨h5, rfl, hr1⟩
    · refine Ev.pos (by omega) (Ev.next ?_)
      simp only [jackstaylaw06_ConfBalance.j2]
      exact ConfBalance_l1a l _ _ H 8 0 rfl
    · refine Ev.neg (by omega) (Ev.next ?_)
      simp only [jackstaylaw06_ConfBalance.j2]
      have := ConfBalance_l1b l _ _ H r hr1 8 0 rfl
      rwa [show lowB (r - ((0 : Nat) : Int)) = r by unfold lowB; split <;> omega] at this
theorem ConfBalance : jackstaylaw06_ConfBalance.Pure := by
  rintro l ⟨h1, -⟩
  refine Ev.rounds ?_
  simp only [jackstaylaw06_ConfBalance.f]
  have hmn : 0 ≤ mn (l.length : Int) 200 ∧ mn (l.length : Int) 200 ≤ (l.length : Int) ∧ mn (l.length : Int) 200 ≤ 200 := by unfold mn; split <;> omega
  refine Ev.pos hmn.1 (Ev.pos hmn.2.1 ?_)
  exact ConfBalance_l0 _ (fun x hx => wf_u8 (h1 x (List.mem_of_mem_take hx))) (by rw [List.length_take]; omega) _ 0 (Nat.add_zero _)
end Go.Proofs.Ytgpdcgbohodfoaa.Pure
