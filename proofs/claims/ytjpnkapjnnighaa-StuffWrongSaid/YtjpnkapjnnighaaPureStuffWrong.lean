/- The statement over numbers and lists that is left of the law StuffWrong: what is read is right up to the first six bits alike, and no further. -/
import Derived.Test.YtjpnkapjnnighaaStStuffWrong
import Derived.Test.YtjpnkapjnnighaaSS
import Derived.Test.YtjpnkapjnnighaaSL
namespace Go.Proofs.Ytjpnkapjnnighaa.Pure
open Go.RowKit Go.Proofs.YtjpnkapjnnighaaW.PrintWords Go.Proofs.YtjpnkapjnnighaaW.PrintLast Go.Proofs.YtjpnkapjnnighaaW.PrintMore Go.Proofs.Ytjpnkapjnnighaa.L Go.Proofs.Ytjpnkapjnnighaa.P
set_option linter.unusedSimpArgs false
theorem awakeSW : Ev (fun k => jackstaylaw02_awake.f k) true := Ev.of jackstaylaw02_awake.mono (k := 60) (by decide +kernel)
theorem take_long (l : List Bool) : ∀ r, (takeS r l).1.length ≤ l.length := by
  induction l with
  | nil => intro r; simp [takeS]
  | cons x l ih =>
    intro r
    have := ih (stN r x).1
    unfold takeS
    split <;> simp <;> omega
theorem StuffWrong_j1 (l : List Bool) (hl : l.length ≤ 400) (c : Nat) (hc : c ≤ l.length) (part : List Bool) (hp : part.length ≤ 400) (e : List Bool) (he : e.length ≤ 1) (hput : putS (false, 0) part = l.take c ++ e) :
    Ev (fun k => jackstaylaw02_StuffWrong.j1 k l (c : Int) part false) true := by
  refine Ev.next ?_
  simp only [jackstaylaw02_StuffWrong.j1]
  refine Ev.neg (by decide) (Ev.bind (stuff_Put.ev part (by omega)) ?_)
  rw [hput]
  have hlen : (l.take c ++ e).length = c + e.length := by rw [List.length_append, List.length_take]; omega
  have htk : (l.take c ++ e).take c = l.take c := by rw [List.take_append_of_le_length (by rw [List.length_take]; omega), List.take_take, Nat.min_self]
  have hw : wrap64 ((c : Int) + 1) = ((c + 1 : Nat) : Int) := by rw [w64 (by omega) (by omega)]; omega
  have hend : Ev (fun k => (jackstaylow_Same.f k ((l.take c ++ e).take (c : Int).toNat) (l.take (c : Int).toNat)).bind fun t272 => (if t272 = true then ((jackstaylaw02_awake.f k).bind fun t273 => (some t273)) else (some false))) true := by
    rw [Int.toNat_natCast, htk]
    exact Ev.bind (jackstaylow_Same.yes (l.take c) (by rw [List.length_take]; omega)) (Ev.pos (by first | rfl | trivial) (Ev.bind awakeSW (Ev.now true)))
  refine Ev.ite (fun _ => Ev.pos (by omega) (Ev.pos (by omega) (Ev.pos (by omega) hend))) (fun hn => ?_)
  refine Ev.pos (by rw [hw]; omega) (Ev.pos (by omega) (Ev.pos (by omega) (Ev.pos (by omega) hend)))
theorem StuffWrong_j0 (l : List Bool) (hl : l.length ≤ 400) (x1 : Int) (h1 : 0 ≤ x1 ∧ x1 ≤ 65535) (m : Nat) (hm : m ≤ l.length) (hT : ∀ n, (takeS (false, 0) l).2 = some n → m ≤ n) :
    Ev (fun k => jackstaylaw02_StuffWrong.j0 k l x1 (takeS (false, 0) l).1 (m : Int)) true := by
  refine Ev.next ?_
  simp only [jackstaylaw02_StuffWrong.j0]
  rw [w64 (x := (m : Int) + 1) (by omega) (by omega), w64 (x := x1) (by omega) (by omega)]
  obtain ⟨c, hc⟩ : ∃ c : Nat, (c : Int) = Int.tmod x1 ((m : Int) + 1) := ⟨(Int.tmod x1 ((m : Int) + 1)).toNat, by have := Int.tmod_nonneg ((m : Int) + 1) h1.1; omega⟩
  have hcl : (c : Int) < (m : Int) + 1 := by rw [hc]; exact Int.tmod_lt_of_pos _ (by omega)
  rw [← hc]
  obtain ⟨hn, hpre⟩ := take_cut l (false, 0) c (fun n hn => by have := hT n hn; omega)
  refine Ev.neg (by omega) (Ev.pos (by omega) (Ev.pos (by omega) ?_))
  rw [Int.toNat_natCast]
  have htl : (l.take c).length = c := by rw [List.length_take]; omega
  refine Ev.bind (stuff_Take.ev (l.take c) (by omega)) ?_
  have hput := put_take (l.take c) (false, 0) (show (0 : Nat) ≤ 5 by decide) hn
  have ho : owes (false, 0) = [] := rfl
  have hb : behind (false, 0) = (false, 0) := rfl
  rw [ho, hb, List.nil_append] at hput
  have hlong := take_long (l.take c) (false, 0)
  have hple := hpre.length_le
  simp only [hn]
  refine Ev.pos (by rfl) (Ev.neg (by omega) (Ev.pos (by omega) (Ev.pos (by omega) ?_)))
  rw [Int.toNat_natCast, List.prefix_iff_eq_take.mp hpre |>.symm]
  refine Ev.bind (jackstaylow_Same.yes _ (by omega)) ?_
  refine StuffWrong_j1 l hl c (by omega) _ (by omega) _ ?_ hput
  unfold owes
  split <;> simp
theorem StuffWrong : jackstaylaw02_StuffWrong.Pure := by
  rintro l x1 - h1
  have h1 := wf_u16 h1
  refine Ev.rounds ?_
  simp only [jackstaylaw02_StuffWrong.f]
  refine Ev.ite (fun _ => Ev.bind awakeSW (Ev.now true)) (fun c0 => ?_)
  refine Ev.bind (stuff_Take.ev l (by omega)) ?_
  cases hT : (takeS (false, 0) l).2 with
  | none =>
    refine Ev.pos (by rfl) ?_
    exact StuffWrong_j0 l (by omega) x1 h1 l.length (Nat.le_refl _) (fun n hn => by rw [hT] at hn; cases hn)
  | some n =>
    obtain ⟨h2, h3, b, h4⟩ := take_wrong l [] (false, 0) (show (0 : Nat) ≤ 5 by decide) (show (0 : Nat) ≤ 0 by decide) (fun j hj => absurd hj (Nat.not_lt_zero _)) n hT
    simp only [List.length_nil, Nat.zero_add, List.nil_append] at h3 h4
    have hg : ∀ j, j ≤ 5 → rdOf false l ((n - j : Nat) : Int) = b := fun j hj => by
      rw [rdOf_atS l (n - j) (by omega)]
      have := h4 j hj
      rw [List.getElem?_eq_getElem (by omega)] at this
      exact Option.some.inj this
    have e0 : atI (some n) 0 = ((n : Nat) : Int) := rfl
    simp only [e0]
    have w1 : wrap64 ((n : Int) - 1) = ((n - 1 : Nat) : Int) := by rw [w64 (by omega) (by omega)]; omega
    have w5 : wrap64 ((n : Int) - 5) = ((n - 5 : Nat) : Int) := by rw [w64 (by omega) (by omega)]; omega
    rw [w1, w5, hg 1 (by omega), hg 5 (by omega), show rdOf false l (n : Int) = b from hg 0 (by omega)]
    refine Ev.neg (by omega) (Ev.neg (by omega) (Ev.neg (by omega) (Ev.pos (by omega) (Ev.pos (by omega) (Ev.pos (by omega) (Ev.pos (by omega) (Ev.neg (by simp) (Ev.pos (by omega) (Ev.pos (by omega) (Ev.neg (by simp) ?_))))))))))
    exact StuffWrong_j0 l (by omega) x1 h1 n (by omega) (fun m hm => by rw [hT] at hm; cases hm; exact Nat.le_refl _)
end Go.Proofs.Ytjpnkapjnnighaa.Pure
