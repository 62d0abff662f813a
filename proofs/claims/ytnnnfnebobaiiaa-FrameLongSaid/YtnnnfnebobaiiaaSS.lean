/- Printed by the kit and by programs of this work for the claim of aaRowFrameLong, without what the claim does not name. -/
import Derived.Test.YtnnnfnebobaiiaaPx8
import Derived.Test.YtnnnfnebobaiiaaPx9
import Derived.Test.YtnnnfnebobaiiaaLS
import Derived.Test.YtnnnfnebobaiiaaEV
namespace Go.Proofs.Ytnnnfnebobaiiaa.P
open Go.RowKit Go.Proofs.YtnnnfnebobaiiaaW.PrintWords Go.Proofs.YtnnnfnebobaiiaaW.PrintLast Go.Proofs.YtnnnfnebobaiiaaW.PrintMore Go.Proofs.Ytnnnfnebobaiiaa.L
set_option linter.unusedSimpArgs false
theorem rdOf_atS (l : List Bool) (i : Nat) (hi : i < l.length) : rdOf false l (i : Int) = l[i] := by simp [rdOf, List.getD_eq_getElem?_getD, hi]
theorem stuff_right.is (r : Row) (h : rowOk r) : stuff_right.f r.1 (r.2 : Int) = some true := by
  obtain ⟨h1, h2⟩ := h
  unfold stuff_right.f
  rw [if_pos (by omega)]
  split
  · rfl
  · have h0 : r.2 = 0 := by omega
    rw [h2 h0, h0]
    rfl
theorem stuff_Owed.is (r : Row) : stuff_Owed.f r.1 (r.2 : Int) = some (if r.2 = 5 then (!r.1, true) else (false, false)) := by
  unfold stuff_Owed.f
  by_cases h : r.2 = 5
  · rw [if_pos (by omega), if_pos h]
  · rw [if_neg (by omega), if_neg h]
theorem stuff_Next.ev (r : Row) (h : rowOk r) (x : Bool) : Ev (fun k => stuff_Next.f k r.1 (r.2 : Int) x) ((stN r x).1.1, ((stN r x).1.2 : Int), ((stN r x).2 : Int)) := by
  obtain ⟨a, n⟩ := r
  simp only [stuff_Next.f]
  have ho := stuff_Owed.is (a, n)
  simp only at ho
  refine Ev.bind (Ev.const (stuff_right.is (a, n) h)) ?_
  refine Ev.pos (by first | rfl | trivial) ?_
  refine Ev.bind (Ev.const ho) ?_
  by_cases h5 : n = 5
  · subst h5
    simp only [if_true]
    refine Ev.next ?_
    simp only [stuff_Next.j0]
    by_cases hx : x = a
    · subst hx
      refine Ev.pos (by cases x <;> rfl) ?_
      exact (Ev.now _).eq (by simp [stN])
    · refine Ev.neg (by revert hx; cases x <;> cases a <;> simp) (Ev.pos (by first | rfl | trivial) ?_)
      exact (Ev.now _).eq (by simp [stN, hx])
  · simp only [if_neg h5]
    refine Ev.neg (by decide) ?_
    refine Ev.next ?_
    simp only [stuff_Next.j0]
    refine Ev.neg (by decide) (Ev.neg (by decide) ?_)
    have h5' : n ≤ 5 := h.1
    refine Ev.ite (fun h0 => Ev.ite (fun hx => ?_) (fun hx => ?_)) (fun h0 => ?_)
    · have hx' : a = x := by simpa using hx
      have h0' : 0 < n := by omega
      refine (Ev.now _).eq ?_
      simp only [stN, if_neg h5, if_pos (And.intro h0' hx')]
      refine Prod.ext rfl (Prod.ext ?_ rfl)
      simp only
      omega
    · have hx' : ¬ a = x := by simpa using hx
      refine (Ev.now _).eq ?_
      simp only [stN, if_neg h5, if_neg (show ¬ (0 < n ∧ a = x) from fun h => hx' h.2)]
      rfl
    · refine (Ev.now _).eq ?_
      simp only [stN, if_neg h5, if_neg (show ¬ (0 < n ∧ a = x) from fun h => h0 (by omega))]
      rfl
theorem stN_rowOk {r : Row} (h : rowOk r) (x : Bool) : rowOk (stN r x).1 := by
  have := stN_ok h.1 x
  exact ⟨this.1, fun h0 => by omega⟩
theorem stuff_Put.l0_ev (l : List Bool) (hl : l.length ≤ 1000000) : ∀ (d i : Nat) (acc : List Bool) (r : Row), d + i = l.length → rowOk r → r.2 < 5 → acc.length ≤ 2 * i →
    Ev (fun k => stuff_Put.l0 k acc l (l.length : Int) (i : Int) r.1 (r.2 : Int)) (acc ++ putS r (l.drop i))
  | 0, i, acc, r, h, hr, h5, ha => by
    refine Ev.next ?_
    simp only [stuff_Put.l0]
    refine Ev.neg (by omega) ?_
    rw [List.drop_of_length_le (by omega)]
    exact (Ev.now _).eq (by simp [putS])
  | d + 1, i, acc, r, h, hr, h5, ha => by
    have hi : i < l.length := by omega
    refine Ev.next ?_
    simp only [stuff_Put.l0]
    refine Ev.pos (by omega) (Ev.pos (by omega) (Ev.pos (by omega) ?_))
    rw [rdOf_atS l i hi, show l.drop i = l[i] :: l.drop (i + 1) from (List.getElem_cons_drop (h := hi)).symm]
    refine Ev.bind (stuff_Next.ev r hr l[i]) ?_
    have hok := stN_rowOk hr l[i]
    have hla := stN_last r l[i]
    have ew : wrap64 ((i : Int) + 1) = ((i + 1 : Nat) : Int) := by rw [w64 (by omega) (by omega)]; omega
    refine Ev.pos (by omega) (Ev.some_bind ?_)
    refine Ev.bind (Ev.const (stuff_Owed.is (stN r l[i]).1)) ?_
    unfold putS
    by_cases h6 : (stN r l[i]).1.2 = 5
    · simp only [if_pos h6]
      refine Ev.pos (by first | rfl | trivial) ?_
      refine Ev.bind (stuff_Next.ev (stN r l[i]).1 hok (!(stN r l[i]).1.1)) ?_
      rw [stN_five h6, if_neg (by cases (stN r l[i]).1.1 <;> simp)]
      refine Ev.pos (by simp; omega) ?_
      rw [ew, hla]
      refine (stuff_Put.l0_ev l hl d (i + 1) _ (!l[i], 1) (by omega) ⟨show (1 : Nat) ≤ 5 by decide, fun h => by cases h⟩ (show (1 : Nat) < 5 by decide) (by simp; omega)).eq ?_
      simp
    · simp only [if_neg h6]
      refine Ev.neg (by decide) ?_
      rw [ew]
      refine (stuff_Put.l0_ev l hl d (i + 1) _ (stN r l[i]).1 (by omega) hok (by have := hok.1; omega) (by simp; omega)).eq ?_
      simp
theorem stuff_Put.ev (l : List Bool) (hl : l.length ≤ 1000000) : Ev (fun k => stuff_Put.f k l) (putS (false, 0) l) := by
  simp only [stuff_Put.f]
  exact (stuff_Put.l0_ev l hl l.length 0 [] (false, 0) (by omega) ⟨by decide, fun _ => rfl⟩ (show (0 : Nat) < 5 by decide) (by simp)).eq (by simp)
end Go.Proofs.Ytnnnfnebobaiiaa.P
