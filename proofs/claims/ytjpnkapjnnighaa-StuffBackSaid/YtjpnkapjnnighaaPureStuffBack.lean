/- The statement over numbers and lists that is left of the law StuffBack: what was put is taken, and nothing is wrong in it: no six bits of it are alike; it has at most a quarter more bits. -/
import Derived.Test.YtjpnkapjnnighaaStStuffBack
import Derived.Test.YtjpnkapjnnighaaSS
import Derived.Test.YtjpnkapjnnighaaSL
namespace Go.Proofs.Ytjpnkapjnnighaa.Pure
open Go.RowKit Go.Proofs.YtjpnkapjnnighaaW.PrintWords Go.Proofs.YtjpnkapjnnighaaW.PrintLast Go.Proofs.YtjpnkapjnnighaaW.PrintMore Go.Proofs.Ytjpnkapjnnighaa.L Go.Proofs.Ytjpnkapjnnighaa.P
set_option linter.unusedSimpArgs false
theorem awakeSB : Ev (fun k => jackstaylaw02_awake.f k) true := Ev.of jackstaylaw02_awake.mono (k := 60) (by decide +kernel)
/-- The row ahead of place i of m: the bit ahead of it, and how many were alike. -/
def Ahead (m : List Bool) (i : Nat) (r : Row) : Prop := (i = 0 → r.2 = 0) ∧ (0 < i → 0 < r.2 ∧ m[i - 1]? = some r.1)
theorem StuffBack_l0 (m : List Bool) (hm : m.length ≤ 100000) : ∀ (d i : Nat) (r : Row), d + i = m.length → r.2 ≤ 5 → Ahead m i r → runs r (m.drop i) →
    Ev (fun k => jackstaylaw02_StuffBack.l0 k m (r.2 : Int) m (m.length : Int) (i : Int)) true
  | 0, i, r, h, h5, ha, hr => by
    refine Ev.next ?_
    simp only [jackstaylaw02_StuffBack.l0]
    exact Ev.neg (by omega) (Ev.bind awakeSB (Ev.now true))
  | d + 1, i, r, h, h5, ha, hr => by
    have hi : i < m.length := by omega
    rw [show m.drop i = m[i] :: m.drop (i + 1) from (List.getElem_cons_drop (h := hi)).symm] at hr
    obtain ⟨hle, hr2⟩ := hr
    have ew : wrap64 ((i : Int) + 1) = ((i + 1 : Nat) : Int) := by rw [w64 (by omega) (by omega)]; omega
    have goOn : ∀ q : Nat, q = (if 0 < r.2 ∧ r.1 = m[i] then r.2 + 1 else 1) → Ev (fun k => jackstaylaw02_StuffBack.l0 k m (q : Int) m (m.length : Int) (wrap64 ((i : Int) + 1))) true := by
      intro q hq
      rw [ew]
      subst hq
      refine StuffBack_l0 m hm d (i + 1) (m[i], _) (by omega) hle ⟨fun h => by omega, fun _ => ⟨?_, ?_⟩⟩ hr2
      · show 0 < (if 0 < r.2 ∧ r.1 = m[i] then r.2 + 1 else 1)
        split <;> omega
      · simp [hi]
    have j2 : ∀ x : Bool, x = decide (0 < r.2 ∧ r.1 = m[i]) → Ev (fun k => jackstaylaw02_StuffBack.j2 k m (r.2 : Int) m (m.length : Int) (i : Int) x) true := by
      intro x hx
      refine Ev.next ?_
      simp only [jackstaylaw02_StuffBack.j2]
      by_cases hc : 0 < r.2 ∧ r.1 = m[i]
      · rw [hx, decide_eq_true hc]
        have e2 : wrap64 ((r.2 : Int) + 1) = ((r.2 + 1 : Nat) : Int) := by rw [w64 (by omega) (by omega)]; omega
        rw [if_pos hc] at hle
        rw [e2]
        exact Ev.pos (by first | rfl | trivial) (Ev.neg (by omega) (goOn _ (by rw [if_pos hc])))
      · rw [hx, decide_eq_false hc]
        exact Ev.neg (by simp) (goOn 1 (by rw [if_neg hc]))
    refine Ev.next ?_
    simp only [jackstaylaw02_StuffBack.l0]
    refine Ev.pos (by omega) (Ev.pos (by omega) (Ev.pos (by omega) ?_))
    refine Ev.ite (fun h0 => ?_) (fun h0 => ?_)
    · have em : wrap64 ((i : Int) - 1) = ((i - 1 : Nat) : Int) := by rw [w64 (by omega) (by omega)]; omega
      rw [em]
      refine Ev.pos (by omega) (Ev.pos (by omega) ?_)
      rw [rdOf_atS m i hi, rdOf_atS m (i - 1) (by omega)]
      refine j2 _ ?_
      obtain ⟨h1, h2⟩ := ha.2 (by omega)
      rw [List.getElem?_eq_getElem (by omega)] at h2
      have h3 := Option.some.inj h2
      rw [h3, Bool.eq_iff_iff, beq_iff_eq, decide_eq_true_iff]
      exact ⟨fun h => ⟨h1, h.symm⟩, fun h => h.2.symm⟩
    · refine j2 false ?_
      have := ha.1 (by omega)
      rw [decide_eq_false (fun h => by omega)]
theorem StuffBack : jackstaylaw02_StuffBack.Pure := by
  rintro l -
  refine Ev.rounds ?_
  simp only [jackstaylaw02_StuffBack.f]
  refine Ev.ite (fun _ => Ev.bind awakeSB (Ev.now true)) (fun c0 => ?_)
  have hl : l.length ≤ 400 := by omega
  obtain ⟨h1, h2⟩ := put_long l (false, 0) (show (0 : Nat) < 5 by decide)
  have h3 := take_put l (false, 0) (show (0 : Nat) < 5 by decide)
  have h4 := put_runs l (false, 0) (show (0 : Nat) < 5 by decide)
  refine Ev.bind (stuff_Put.ev l (by omega)) ?_
  generalize putS (false, 0) l = m at *
  simp only at h2
  refine Ev.bind (stuff_Take.ev m (by omega)) ?_
  simp only [h3]
  refine Ev.pos (by first | rfl | trivial) ?_
  refine Ev.bind (jackstaylow_Same.yes l (by omega)) ?_
  refine Ev.pos (by first | rfl | trivial) (Ev.neg (by omega) ?_)
  refine Ev.next ?_
  simp only [jackstaylaw02_StuffBack.j0]
  have e1 : wrap64 ((m.length : Int) - (l.length : Int)) = ((m.length - l.length : Nat) : Int) := by rw [w64 (by omega) (by omega)]; omega
  have e2 : wrap64 ((l.length : Int) / 4) = ((l.length / 4 : Nat) : Int) := by rw [w64 (by omega) (by omega)]; omega
  rw [e1, e2]
  refine Ev.neg (by rw [decide_eq_true_iff]; omega) ?_
  exact StuffBack_l0 m (by omega) m.length 0 (false, 0) (by omega) (show (0 : Nat) ≤ 5 by decide) ⟨fun _ => rfl, fun h => by omega⟩ h4
end Go.Proofs.Ytjpnkapjnnighaa.Pure
