/- Printed by the kit and by programs of this work for the claim of aaRowFrameLong, without what the claim does not name. -/
import Derived.Test.YtnnnfnebobaiiaaStFrameLong
import Derived.Test.YtnnnfnebobaiiaaSFw
namespace Go.Proofs.Ytnnnfnebobaiiaa.Pure
open Go.RowKit Go.Proofs.YtnnnfnebobaiiaaW.PrintWords Go.Proofs.YtnnnfnebobaiiaaW.PrintLast Go.Proofs.YtnnnfnebobaiiaaW.PrintMore Go.Proofs.Ytnnnfnebobaiiaa.L Go.Proofs.Ytnnnfnebobaiiaa.P
set_option linter.unusedSimpArgs false
theorem awakeF : Ev (fun _ => jackstaylaw04_awake.f) true := Ev.const rfl
theorem awake1 : Ev (fun _ => (jackstaylaw04_awake.f).bind fun t => some t) true := Ev.bind awakeF (Ev.now _)
theorem FrameLong_l0 (p q : List Bool) (hp : p.length < 1000) : ∀ (d i a : Nat) (r : Bool), d + i = p.length → runs (r, a) (p.drop i) → (i = 0 → a = 0) → (0 < i → 1 ≤ a ∧ p.getD (i - 1) false = r) → a ≤ 5 →
    Ev (fun k => jackstaylaw04_FrameLong.l0 k (p ++ q) (a : Int) p (p.length : Int) (i : Int)) true
  | 0, i, a, r, h, _, _, _, _ => by
    refine Ev.next ?_
    simp only [jackstaylaw04_FrameLong.l0]
    exact Ev.neg (by omega) awake1
  | d + 1, i, a, r, h, hr, h0, h1, h5 => by
    refine Ev.next ?_
    simp only [jackstaylaw04_FrameLong.l0]
    have hi : i < p.length := by omega
    rw [← List.getElem_cons_drop (h := hi)] at hr
    obtain ⟨hr1, hr2⟩ := hr
    simp only at hr1 hr2
    refine Ev.pos (by omega) (Ev.pos (by omega) (Ev.pos (by omega) ?_))
    rw [w64 (x := (a : Int) + 1) (by omega) (by omega), show (a : Int) + 1 = ((a + 1 : Nat) : Int) by omega]
    have hn : wrap64 ((i : Int) + 1) = ((i + 1 : Nat) : Int) := by rw [w64 (by omega) (by omega)]; omega
    by_cases hz : i = 0
    · subst hz
      have ha := h0 rfl
      subst ha
      rw [if_neg (by omega)] at hr2
      refine Ev.neg (by omega) ?_
      refine Ev.next ?_
      simp only [jackstaylaw04_FrameLong.j3]
      refine Ev.neg (by simp) (Ev.neg (by decide) ?_)
      rw [hn]
      refine FrameLong_l0 p q hp d 1 1 p[0] (by omega) hr2 (by simp) (fun _ => ⟨Nat.le_refl _, ?_⟩) (by decide)
      rw [List.getD_eq_getElem?_getD, List.getElem?_eq_getElem (by omega)]
      rfl
    · obtain ⟨h2, h3⟩ := h1 (by omega)
      refine Ev.pos (by omega) ?_
      have hw : wrap64 ((i : Int) - 1) = ((i - 1 : Nat) : Int) := by rw [w64 (by omega) (by omega)]; omega
      rw [hw]
      refine Ev.pos (by omega) (Ev.pos (by rw [List.length_append]; omega) ?_)
      have e1 : rdOf false (p ++ q) ((i - 1 : Nat) : Int) = r := by rw [rdOf_getN, getD_append_left (by omega), h3]
      have e2 : p.getD i false = p[i] := by rw [List.getD_eq_getElem?_getD, List.getElem?_eq_getElem hi]; rfl
      rw [e1, rdOf_getN, e2]
      refine Ev.next ?_
      simp only [jackstaylaw04_FrameLong.j3]
      rw [hn]
      by_cases hx : r = p[i]
      · rw [if_pos ⟨by omega, hx⟩] at hr1 hr2
        refine Ev.neg (by rw [hx]; simp) (Ev.neg (by omega) ?_)
        exact FrameLong_l0 p q hp d (i + 1) (a + 1) p[i] (by omega) hr2 (by omega) (fun _ => ⟨by omega, by rw [Nat.add_sub_cancel]; exact e2⟩) hr1
      · rw [if_neg (fun hc => hx hc.2)] at hr1 hr2
        refine Ev.pos (by simpa using hx) ?_
        exact FrameLong_l0 p q hp d (i + 1) 1 p[i] (by omega) hr2 (by omega) (fun _ => ⟨Nat.le_refl _, by rw [Nat.add_sub_cancel]; exact e2⟩) (by decide)
theorem FrameLong : jackstaylaw04_FrameLong.Pure := by
  rintro ⟨a, e, r, d, l⟩ ⟨h0, _, _, h3, h4⟩
  obtain ⟨f, hM, rfl, rfl, rfl, rfl, rfl⟩ := fr_open e r h0 h3 h4
  refine Ev.rounds (r := true) ?_
  simp only [jackstaylaw04_FrameLong.f]
  refine Ev.bind (frame_Wire.ev hM) ?_
  unfold wireE
  cases hr : f.right with
  | false =>
    refine Ev.neg (by simp) ?_
    refine Ev.bind ((frame_Right.ev hM).eq hr) ?_
    exact Ev.neg (by simp) awake1
  | true =>
    have hR := (Fr.right_iff f).1 hr
    refine Ev.pos rfl ?_
    refine Ev.bind (Ev.const (frame_Long.is hM.dlc _)) ?_
    have hlong := f.long_le
    have hb := bodyN_length f
    rw [hR.len] at hb
    have hput := put_long (bodyN f) (false, 0) (by decide)
    have hruns := put_runs (bodyN f) (false, 0) (by decide)
    simp only [if_true]
    have hw : (wireN f).length = (putS (false, 0) (bodyN f)).length + 10 := by unfold wireN; simp
    have j0 : Ev (fun k => jackstaylaw04_FrameLong.j0 k (wireN f) (((bodyN f).length : Nat) : Int)) true := by
      refine Ev.next ?_
      simp only [jackstaylaw04_FrameLong.j0]
      have hh : headL f.ext ≤ 39 ∧ 19 ≤ headL f.ext ∧ headL f.ext % 4 = 3 := by unfold headL; split <;> decide
      have e1 : wrap64 (((wireN f).length : Int) - 10) = (((putS (false, 0) (bodyN f)).length : Nat) : Int) := by rw [hw, w64 (by omega) (by omega)]; omega
      rw [e1, w64 (x := (((bodyN f).length : Nat) : Int) - 1) (by omega) (by omega), Int.tdiv_eq_ediv_of_nonneg (by omega)]
      rw [w64 (x := ((((bodyN f).length : Nat) : Int) - 1) / 4) (by omega) (by omega), w64 (by omega) (by omega)]
      simp only at hput
      refine Ev.neg (by omega) (Ev.neg (by omega) ?_)
      rw [decide_eq_false (by omega)]
      refine Ev.next ?_
      simp only [jackstaylaw04_FrameLong.j1]
      refine Ev.neg (by simp) (Ev.pos (by omega) (Ev.pos (by omega) (Ev.some_bind ?_)))
      rw [Int.toNat_natCast]
      have e2 : (wireN f).take (putS (false, 0) (bodyN f)).length = putS (false, 0) (bodyN f) := by unfold wireN; exact List.take_left' rfl
      rw [e2]
      exact FrameLong_l0 (putS (false, 0) (bodyN f)) _ (by omega) (putS (false, 0) (bodyN f)).length 0 0 false (by omega) (by simpa using hruns) (fun _ => rfl) (fun h => absurd h (by decide)) (by decide)
    have e3 : wrap64 (8 * (f.long : Int)) = ((8 * f.long : Nat) : Int) := by rw [w64 (by omega) (by omega)]; omega
    rw [e3, w64 (x := 34 + ((8 * f.long : Nat) : Int)) (by omega) (by omega)]
    refine Ev.ite (fun hx => ?_) (fun hx => ?_)
    · rw [w64 (by omega) (by omega)]
      have hz : (34 + ((8 * f.long : Nat) : Int) + 20) = (((bodyN f).length : Nat) : Int) := by
        rw [hb]; unfold headL; rw [if_pos hx]; omega
      rw [hz]
      exact j0
    · have hz : (34 + ((8 * f.long : Nat) : Int)) = (((bodyN f).length : Nat) : Int) := by
        rw [hb]; unfold headL; rw [if_neg hx]; omega
      rw [hz]
      exact j0
end Go.Proofs.Ytnnnfnebobaiiaa.Pure
