/- Printed by the kit and by programs of this work for the claim of aaRowFrameHead, without what the claim does not name. -/
import Derived.Test.YtnnnfnebobaiiaaStFrameHead
import Derived.Test.YtnnnfnebobaiiaaSF
namespace Go.Proofs.Ytnnnfnebobaiiaa.Pure
open Go.RowKit Go.Proofs.YtnnnfnebobaiiaaW.PrintWords Go.Proofs.YtnnnfnebobaiiaaW.PrintLast Go.Proofs.YtnnnfnebobaiiaaW.PrintMore Go.Proofs.Ytnnnfnebobaiiaa.L Go.Proofs.Ytnnnfnebobaiiaa.P
set_option linter.unusedSimpArgs false
theorem awakeF : Ev (fun _ => jackstaylaw04_awake.f) true := Ev.const rfl
theorem FrameHead_l0 {f : Fr} (hM : f.Mach) (hR : f.Right) (m : List Bool) (hm : m.length ≤ 100) : ∀ (d i : Nat), d + i = headL f.ext →
    Ev (fun k => jackstaylaw04_FrameHead.l0 k m (bodyN f) (headL f.ext : Int) (headL f.ext : Int) (i : Int) (f.id : Int) f.ext f.rem (f.dlc : Int) (ints f.data)) true
  | 0, i, h => by
    refine Ev.next ?_
    simp only [jackstaylaw04_FrameHead.l0]
    have hb := bodyN_length f
    have hlong := f.long_le
    have hh : headL f.ext ≤ 39 := by unfold headL; split <;> decide
    refine Ev.neg (by omega) (Ev.pos (by omega) (Ev.pos (by omega) ?_))
    rw [Int.toNat_natCast]
    have e : (bodyN f).take (headL f.ext) = headN f := by rw [body_head]; exact List.take_left' (headN_length f)
    rw [e]
    refine Ev.bind (jackstaylow_Anew.ev _ (by rw [headN_length]; omega)) ?_
    refine Ev.pos (by rw [headN_length]; omega) ?_
    refine Ev.bind (frame_Head.ev _ (by rw [List.length_append, headN_length]; omega)) ?_
    rw [head_len hR]
    refine Ev.pos rfl (Ev.pos ?_ ?_)
    · rw [hb, hR.len]
    · refine Ev.bind (Ev.const (frame_Long.is hM.dlc _)) ?_
      refine Ev.pos ?_ (Ev.bind awakeF (Ev.now _))
      rw [w64 (x := 8 * _) (by omega) (by omega), w64 (x := (headL f.ext : Int) + _) (by omega) (by omega), w64 (by omega) (by omega)]
      simp only
      omega
  | d + 1, i, h => by
    refine Ev.next ?_
    simp only [jackstaylaw04_FrameHead.l0]
    have hb := bodyN_length f
    have hh : headL f.ext ≤ 39 := by unfold headL; split <;> decide
    refine Ev.pos (by omega) (Ev.pos (by omega) (Ev.pos (by omega) ?_))
    rw [Int.toNat_natCast]
    refine Ev.bind (frame_Head.ev _ (by rw [List.length_take]; omega)) ?_
    have e : lenN ((bodyN f).take i) = (0, false) := by rw [body_head]; exact head_short f _ i (by omega)
    rw [e]
    refine Ev.neg (by simp) (Ev.pos rfl ?_)
    rw [w64 (by omega) (by omega), show (i : Int) + 1 = ((i + 1 : Nat) : Int) by omega]
    exact FrameHead_l0 hM hR m hm d (i + 1) (by omega)
theorem FrameHead : jackstaylaw04_FrameHead.Pure := by
  rintro ⟨a, e, r, d, l⟩ m ⟨h0, _, _, h3, h4⟩ _
  obtain ⟨f, hM, rfl, rfl, rfl, rfl, rfl⟩ := fr_open e r h0 h3 h4
  refine Ev.rounds (r := true) ?_
  simp only [jackstaylaw04_FrameHead.f]
  have aw : ∀ x5 : List Bool, Ev (fun k => jackstaylaw04_FrameHead.j0 k m x5 true (f.id : Int) f.ext f.rem (f.dlc : Int) (ints f.data)) true := fun x5 => by
    refine Ev.next ?_
    simp only [jackstaylaw04_FrameHead.j0]
    exact Ev.pos (by simp) (Ev.bind awakeF (Ev.now _))
  refine Ev.bind (frame_Body.ev hM) ?_
  unfold bodyE
  cases hr : f.right with
  | false => exact Ev.neg (by simp) (aw _)
  | true =>
    have hR := (Fr.right_iff f).1 hr
    have hle := bodyN_le hR
    refine Ev.pos rfl ?_
    by_cases hm : m.length ≤ 100
    · rw [decide_eq_false (by omega)]
      refine Ev.next ?_
      simp only [jackstaylaw04_FrameHead.j0, if_true]
      refine Ev.neg (by simp) (Ev.neg (by omega) ?_)
      have j1 : Ev (fun k => jackstaylaw04_FrameHead.j1 k m (bodyN f) false (f.id : Int) f.ext f.rem (f.dlc : Int) (ints f.data)) true := by
        refine Ev.next ?_
        simp only [jackstaylaw04_FrameHead.j1]
        refine Ev.neg (by simp) ?_
        have l0 := FrameHead_l0 hM hR m hm (headL f.ext) 0 rfl
        unfold headL at l0
        refine Ev.ite (fun hx => ?_) (fun hx => ?_)
        · rw [if_pos hx] at l0
          refine Ev.next ?_
          simp only [jackstaylaw04_FrameHead.j2]
          exact l0
        · rw [if_neg hx] at l0
          refine Ev.next ?_
          simp only [jackstaylaw04_FrameHead.j2]
          exact l0
      refine Ev.ite (fun hx => ?_) (fun hx => j1)
      have := hle.2.2 hx
      rw [decide_eq_false (by omega)]
      exact j1
    · rw [decide_eq_true (by omega)]
      exact aw _
end Go.Proofs.Ytnnnfnebobaiiaa.Pure
