/- The statement over numbers and lists that is left of the law StuffRows: a row goes on bit by bit as all bits say. -/
import Derived.Test.YtjpnkapjnnighaaStStuffRows
import Derived.Test.YtjpnkapjnnighaaSS
import Derived.Test.YtjpnkapjnnighaaSL
namespace Go.Proofs.Ytjpnkapjnnighaa.Pure
open Go.RowKit Go.Proofs.YtjpnkapjnnighaaW.PrintWords Go.Proofs.YtjpnkapjnnighaaW.PrintLast Go.Proofs.YtjpnkapjnnighaaW.PrintMore Go.Proofs.Ytjpnkapjnnighaa.L Go.Proofs.Ytjpnkapjnnighaa.P
set_option linter.unusedSimpArgs false
theorem awakeSR : Ev (fun k => jackstaylaw02_awake.f k) true := Ev.of jackstaylaw02_awake.mono (k := 60) (by decide +kernel)
theorem StuffRows_l0 (l : List Bool) (hl : l.length ≤ 400) : ∀ (d i : Nat) (acc : List Bool) (r : Row), d + i = l.length → rowOk r → acc.length ≤ i →
    (takeS (false, 0) l).1 = acc ++ (takeS r (l.drop i)).1 → atI (takeS (false, 0) l).2 0 = atI (takeS r (l.drop i)).2 i →
    Ev (fun k => jackstaylaw02_StuffRows.l0 k l acc (-1) l (l.length : Int) (i : Int) r.1 (r.2 : Int)) true
  | 0, i, acc, r, h, hr, ha, h1, h2 => by
    rw [List.drop_of_length_le (by omega)] at h1 h2
    simp only [takeS, List.append_nil] at h1 h2
    refine Ev.next ?_
    simp only [jackstaylaw02_StuffRows.l0]
    refine Ev.neg (by omega) (Ev.bind (stuff_Take.ev l (by omega)) ?_)
    refine Ev.pos (by rw [h2]; rfl) ?_
    rw [h1]
    exact Ev.bind (jackstaylow_Same.yes acc (by omega)) (Ev.pos (by first | rfl | trivial) (Ev.bind awakeSR (Ev.now true)))
  | d + 1, i, acc, r, h, hr, ha, h1, h2 => by
    have hi : i < l.length := by omega
    rw [show l.drop i = l[i] :: l.drop (i + 1) from (List.getElem_cons_drop (h := hi)).symm] at h1 h2
    have hok := stN_rowOk hr l[i]
    have hla := stN_last r l[i]
    have hb := stN_ok hr.1 l[i]
    have ew : wrap64 ((i : Int) + 1) = ((i + 1 : Nat) : Int) := by rw [w64 (by omega) (by omega)]; omega
    refine Ev.next ?_
    simp only [jackstaylaw02_StuffRows.l0]
    refine Ev.pos (by omega) (Ev.pos (by omega) (Ev.pos (by omega) ?_))
    rw [rdOf_atS l i hi]
    refine Ev.bind (Ev.const (stuff_Owed.is r)) (Ev.bind (stuff_Next.ev r hr l[i]) ?_)
    by_cases h5 : r.2 = 5
    · simp only [if_pos h5]
      by_cases hx : l[i] = r.1
      · have hs : stN r l[i] = (r, 2) := by rw [stN_five h5, if_pos hx]
        simp only [takeS, hs, List.append_nil] at h1 h2
        simp only [hs]
        refine Ev.neg (by decide) (Ev.neg (by decide) (Ev.pos (by first | rfl | trivial) ?_))
        refine Ev.next ?_
        simp only [jackstaylaw02_StuffRows.j1]
        refine Ev.neg (by rw [hx]; cases r.1 <;> decide) (Ev.pos (by first | rfl | trivial) ?_)
        refine Ev.bind (stuff_Take.ev l (by omega)) (Ev.pos (by rw [h2]; simp [atI]) ?_)
        rw [h1]
        exact Ev.bind (jackstaylow_Same.yes acc (by omega)) (Ev.pos (by first | rfl | trivial) (Ev.bind awakeSR (Ev.now true)))
      · have hs : stN r l[i] = ((l[i], 1), 1) := by rw [stN_five h5, if_neg hx]
        simp only [takeS, hs] at h1 h2
        simp only [hs]
        refine Ev.pos (by first | rfl | trivial) (Ev.neg (by decide) (Ev.pos (by first | rfl | trivial) ?_))
        refine Ev.next ?_
        simp only [jackstaylaw02_StuffRows.j1]
        refine Ev.neg (by revert hx; cases l[i] <;> cases r.1 <;> decide) (Ev.neg (by decide) (Ev.neg (by decide) (Ev.neg (by simp) (Ev.neg (by decide) (Ev.neg (by decide) ?_)))))
        rw [ew]
        rw [atI_succ] at h2
        exact StuffRows_l0 l hl d (i + 1) acc (l[i], 1) (by omega) ⟨show (1 : Nat) ≤ 5 by decide, fun h => by cases h⟩ (by omega) h1 h2
    · have h0 := stN_less h5 l[i]
      simp only [takeS, h0] at h1 h2
      simp only [if_neg h5, h0]
      refine Ev.neg (by decide) (Ev.neg (by decide) (Ev.neg (by decide) ?_))
      refine Ev.next ?_
      simp only [jackstaylaw02_StuffRows.j1]
      refine Ev.neg (by decide) (Ev.neg (by decide) (Ev.pos (by first | rfl | trivial) (Ev.pos (by omega) (Ev.neg (by rw [hla]; simp) (Ev.neg (by omega) (Ev.neg (by omega) ?_))))))
      rw [ew]
      rw [atI_succ] at h2
      exact StuffRows_l0 l hl d (i + 1) (acc ++ [l[i]]) _ (by omega) hok (by simp; omega) (by rw [h1]; simp) h2
theorem StuffRows : jackstaylaw02_StuffRows.Pure := by
  rintro l -
  refine Ev.rounds ?_
  simp only [jackstaylaw02_StuffRows.f]
  refine Ev.ite (fun _ => Ev.bind awakeSR (Ev.now true)) (fun c0 => ?_)
  exact StuffRows_l0 l (by omega) l.length 0 [] (false, 0) (by omega) ⟨by decide, fun _ => rfl⟩ (by simp) (by simp) rfl
end Go.Proofs.Ytjpnkapjnnighaa.Pure
