/- What Go functions of this seat answer: their contracts, printed by a program of this session's; Lean checks each. -/
import Derived.Test.YtgpdcgbohodfoaaPx0
import Derived.Test.YtgpdcgbohodfoaaPx12
namespace Go.Proofs.Ytgpdcgbohodfoaa.P
open Go.RowKit Go.Proofs.YtgpdcgbohodfoaaW.PrintWords Go.Proofs.YtgpdcgbohodfoaaW.PrintLast Go.Proofs.YtgpdcgbohodfoaaW.PrintMore
attribute [local go_sem] max2_int min2_int max_two min_two max_three min_three max_four min_four   -- for this text's walks alone
set_option linter.unusedVariables false
set_option linter.unusedSimpArgs false

/-! ### jackstayref06_Event: function 11 -/
mutual
def jackstayref06_Event.j0 : Nat → Int → Bool → Int → Int → Bool → Int → Int → Option (Int × Int × Bool × Int × Int × Int)
  | 0, _, _, _, _, _, _, _ => none
  | k + 1, x1, x16, x112000, x112001, x112002, x112003, x112004 => if x16 = true then (some (x112000, x112001, x112002, x112003, x112004, 60)) else (if x112002 = true then (some (x112000, x112001, x112002, x112003, x112004, 0)) else (if x1 = 1 then (jackstayref06_Event.j1 k x1 x112000 (wrap64 (x112001 + 1)) x112002 x112003 x112004) else (jackstayref06_Event.j1 k x1 x112000 x112001 x112002 x112003 x112004)))
def jackstayref06_Event.j1 : Nat → Int → Int → Int → Bool → Int → Int → Option (Int × Int × Bool × Int × Int × Int)
  | 0, _, _, _, _, _, _ => none
  | k + 1, x1, x112000, x112001, x112002, x112003, x112004 => if x1 ≥ 2 then (jackstayref06_Event.j2 k x1 (decide (x1 ≤ 4)) x112000 x112001 x112002 x112003 x112004) else (jackstayref06_Event.j2 k x1 false x112000 x112001 x112002 x112003 x112004)
def jackstayref06_Event.j2 : Nat → Int → Bool → Int → Int → Bool → Int → Int → Option (Int × Int × Bool × Int × Int × Int)
  | 0, _, _, _, _, _, _, _ => none
  | k + 1, x1, x32, x112000, x112001, x112002, x112003, x112004 => if x32 = true then (jackstayref06_Event.j3 k x1 x112000 (wrap64 (x112001 + 8)) x112002 x112003 x112004) else (jackstayref06_Event.j3 k x1 x112000 x112001 x112002 x112003 x112004)
def jackstayref06_Event.j3 : Nat → Int → Int → Int → Bool → Int → Int → Option (Int × Int × Bool × Int × Int × Int)
  | 0, _, _, _, _, _, _ => none
  | k + 1, x1, x112000, x112001, x112002, x112003, x112004 => if x1 ≥ 5 then (jackstayref06_Event.j4 k x1 (decide (x1 ≤ 7)) x112000 x112001 x112002 x112003 x112004) else (jackstayref06_Event.j4 k x1 false x112000 x112001 x112002 x112003 x112004)
def jackstayref06_Event.j4 : Nat → Int → Bool → Int → Int → Bool → Int → Int → Option (Int × Int × Bool × Int × Int × Int)
  | 0, _, _, _, _, _, _, _ => none
  | k + 1, x1, x42, x112000, x112001, x112002, x112003, x112004 => if x42 = true then (jackstayref06_Event.j5 k x1 (wrap64 (x112000 + 8)) x112001 x112002 x112003 x112004) else (jackstayref06_Event.j5 k x1 x112000 x112001 x112002 x112003 x112004)
def jackstayref06_Event.j5 : Nat → Int → Int → Int → Bool → Int → Int → Option (Int × Int × Bool × Int × Int × Int)
  | 0, _, _, _, _, _, _ => none
  | k + 1, x1, x112000, x112001, x112002, x112003, x112004 => if x1 = 8 then (jackstayref06_Event.j6 k x1 (decide (x112000 > 0)) x112000 x112001 x112002 x112003 x112004) else (jackstayref06_Event.j6 k x1 false x112000 x112001 x112002 x112003 x112004)
def jackstayref06_Event.j6 : Nat → Int → Bool → Int → Int → Bool → Int → Int → Option (Int × Int × Bool × Int × Int × Int)
  | 0, _, _, _, _, _, _, _ => none
  | k + 1, x1, x53, x112000, x112001, x112002, x112003, x112004 => if x53 = true then (jackstayref06_Event.j7 k x1 (wrap64 (x112000 - 1)) x112001 x112002 x112003 x112004) else (jackstayref06_Event.j7 k x1 x112000 x112001 x112002 x112003 x112004)
def jackstayref06_Event.j7 : Nat → Int → Int → Int → Bool → Int → Int → Option (Int × Int × Bool × Int × Int × Int)
  | 0, _, _, _, _, _, _ => none
  | k + 1, x1, x112000, x112001, x112002, x112003, x112004 => if x1 = 9 then (jackstayref06_Event.j8 k x1 (decide (x112001 > 127)) x112000 x112001 x112002 x112003 x112004) else (jackstayref06_Event.j8 k x1 false x112000 x112001 x112002 x112003 x112004)
def jackstayref06_Event.j8 : Nat → Int → Bool → Int → Int → Bool → Int → Int → Option (Int × Int × Bool × Int × Int × Int)
  | 0, _, _, _, _, _, _, _ => none
  | k + 1, x1, x64, x112000, x112001, x112002, x112003, x112004 => if x64 = true then (some (x112000, 119, decide (x112000 > 255), x112003, x112004, 0)) else (if x1 = 9 then (jackstayref06_Event.j9 k (decide (x112001 > 0)) x112000 x112001 x112002 x112003 x112004) else (jackstayref06_Event.j9 k false x112000 x112001 x112002 x112003 x112004))
def jackstayref06_Event.j9 : Nat → Bool → Int → Int → Bool → Int → Int → Option (Int × Int × Bool × Int × Int × Int)
  | 0, _, _, _, _, _, _ => none
  | k + 1, x72, x112000, x112001, x112002, x112003, x112004 => if x72 = true then (if (wrap64 (x112001 - 1)) > 255 then (some (x112000, 255, decide (x112000 > 255), x112003, x112004, 0)) else (some (x112000, wrap64 (x112001 - 1), decide (x112000 > 255), x112003, x112004, 0))) else (if x112001 > 255 then (some (x112000, 255, decide (x112000 > 255), x112003, x112004, 0)) else (some (x112000, x112001, decide (x112000 > 255), x112003, x112004, 0)))
end
def jackstayref06_Event.f (k : Nat) (a0_0 : Int) (a0_1 : Int) (a0_2 : Bool) (a0_3 : Int) (a0_4 : Int) (a1 : Int) : Option (Int × Int × Bool × Int × Int × Int) := (jackstayref06_Right.f k a0_0 a0_1 a0_2 a0_3 a0_4).bind fun t113 => (if t113 = true then (if a1 < 1 then (jackstayref06_Event.j0 k a1 true a0_0 a0_1 a0_2 a0_3 a0_4) else (jackstayref06_Event.j0 k a1 (decide (a1 > 9)) a0_0 a0_1 a0_2 a0_3 a0_4)) else (jackstayref06_Event.j0 k a1 true a0_0 a0_1 a0_2 a0_3 a0_4))
theorem jackstayref06_Event.mono_l : ∀ k, (∀ y0 y1 y2 y3 y4 y5 y6, LeO (jackstayref06_Event.j0 k y0 y1 y2 y3 y4 y5 y6) (jackstayref06_Event.j0 (k + 1) y0 y1 y2 y3 y4 y5 y6)) ∧ (∀ y0 y1 y2 y3 y4 y5, LeO (jackstayref06_Event.j1 k y0 y1 y2 y3 y4 y5) (jackstayref06_Event.j1 (k + 1) y0 y1 y2 y3 y4 y5)) ∧ (∀ y0 y1 y2 y3 y4 y5 y6, LeO (jackstayref06_Event.j2 k y0 y1 y2 y3 y4 y5 y6) (jackstayref06_Event.j2 (k + 1) y0 y1 y2 y3 y4 y5 y6)) ∧ (∀ y0 y1 y2 y3 y4 y5, LeO (jackstayref06_Event.j3 k y0 y1 y2 y3 y4 y5) (jackstayref06_Event.j3 (k + 1) y0 y1 y2 y3 y4 y5)) ∧ (∀ y0 y1 y2 y3 y4 y5 y6, LeO (jackstayref06_Event.j4 k y0 y1 y2 y3 y4 y5 y6) (jackstayref06_Event.j4 (k + 1) y0 y1 y2 y3 y4 y5 y6)) ∧ (∀ y0 y1 y2 y3 y4 y5, LeO (jackstayref06_Event.j5 k y0 y1 y2 y3 y4 y5) (jackstayref06_Event.j5 (k + 1) y0 y1 y2 y3 y4 y5)) ∧ (∀ y0 y1 y2 y3 y4 y5 y6, LeO (jackstayref06_Event.j6 k y0 y1 y2 y3 y4 y5 y6) (jackstayref06_Event.j6 (k + 1) y0 y1 y2 y3 y4 y5 y6)) ∧ (∀ y0 y1 y2 y3 y4 y5, LeO (jackstayref06_Event.j7 k y0 y1 y2 y3 y4 y5) (jackstayref06_Event.j7 (k + 1) y0 y1 y2 y3 y4 y5)) ∧ (∀ y0 y1 y2 y3 y4 y5 y6, LeO (jackstayref06_Event.j8 k y0 y1 y2 y3 y4 y5 y6) (jackstayref06_Event.j8 (k + 1) y0 y1 y2 y3 y4 y5 y6)) ∧ (∀ y0 y1 y2 y3 y4 y5, LeO (jackstayref06_Event.j9 k y0 y1 y2 y3 y4 y5) (jackstayref06_Event.j9 (k + 1) y0 y1 y2 y3 y4 y5))
  | 0 => ⟨fun _ _ _ _ _ _ _ r h => by simp [jackstayref06_Event.j0] at h, fun _ _ _ _ _ _ r h => by simp [jackstayref06_Event.j1] at h, fun _ _ _ _ _ _ _ r h => by simp [jackstayref06_Event.j2] at h, fun _ _ _ _ _ _ r h => by simp [jackstayref06_Event.j3] at h, fun _ _ _ _ _ _ _ r h => by simp [jackstayref06_Event.j4] at h, fun _ _ _ _ _ _ r h => by simp [jackstayref06_Event.j5] at h, fun _ _ _ _ _ _ _ r h => by simp [jackstayref06_Event.j6] at h, fun _ _ _ _ _ _ r h => by simp [jackstayref06_Event.j7] at h, fun _ _ _ _ _ _ _ r h => by simp [jackstayref06_Event.j8] at h, fun _ _ _ _ _ _ r h => by simp [jackstayref06_Event.j9] at h⟩
  | k + 1 => by
    obtain ⟨ih0, ih1, ih2, ih3, ih4, ih5, ih6, ih7, ih8, ih9⟩ := jackstayref06_Event.mono_l k
    refine ⟨?_, ?_, ?_, ?_, ?_, ?_, ?_, ?_, ?_, ?_⟩
    · intro y0 y1 y2 y3 y4 y5 y6
      unfold jackstayref06_Event.j0
      repeat' first
      | (with_reducible exact ih0 _ _ _ _ _ _ _)
      | (with_reducible exact ih1 _ _ _ _ _ _)
      | (with_reducible exact ih2 _ _ _ _ _ _ _)
      | (with_reducible exact ih3 _ _ _ _ _ _)
      | (with_reducible exact ih4 _ _ _ _ _ _ _)
      | (with_reducible exact ih5 _ _ _ _ _ _)
      | (with_reducible exact ih6 _ _ _ _ _ _ _)
      | (with_reducible exact ih7 _ _ _ _ _ _)
      | (with_reducible exact ih8 _ _ _ _ _ _ _)
      | (with_reducible exact ih9 _ _ _ _ _ _)
      | (with_reducible exact jackstayref06_Right.mono _ _ _ _ _ _)
      | (with_reducible exact LeO.refl _)
      | (with_reducible exact LeO.none _)
      | (with_reducible refine LeO.ite ?_ ?_)
      | (with_reducible refine LeO.bind ?_ (fun _ => ?_))
      | exact ih0 _ _ _ _ _ _ _
      | exact ih1 _ _ _ _ _ _
      | exact ih2 _ _ _ _ _ _ _
      | exact ih3 _ _ _ _ _ _
      | exact ih4 _ _ _ _ _ _ _
      | exact ih5 _ _ _ _ _ _
      | exact ih6 _ _ _ _ _ _ _
      | exact ih7 _ _ _ _ _ _
      | exact ih8 _ _ _ _ _ _ _
      | exact ih9 _ _ _ _ _ _
      | exact jackstayref06_Right.mono _ _ _ _ _ _
      | exact LeO.none _
      | refine LeO.ite ?_ ?_
      | refine LeO.bind ?_ (fun _ => ?_)
    · intro y0 y1 y2 y3 y4 y5
      unfold jackstayref06_Event.j1
      repeat' first
      | (with_reducible exact ih0 _ _ _ _ _ _ _)
      | (with_reducible exact ih1 _ _ _ _ _ _)
      | (with_reducible exact ih2 _ _ _ _ _ _ _)
      | (with_reducible exact ih3 _ _ _ _ _ _)
      | (with_reducible exact ih4 _ _ _ _ _ _ _)
      | (with_reducible exact ih5 _ _ _ _ _ _)
      | (with_reducible exact ih6 _ _ _ _ _ _ _)
      | (with_reducible exact ih7 _ _ _ _ _ _)
      | (with_reducible exact ih8 _ _ _ _ _ _ _)
      | (with_reducible exact ih9 _ _ _ _ _ _)
      | (with_reducible exact jackstayref06_Right.mono _ _ _ _ _ _)
      | (with_reducible exact LeO.refl _)
      | (with_reducible exact LeO.none _)
      | (with_reducible refine LeO.ite ?_ ?_)
      | (with_reducible refine LeO.bind ?_ (fun _ => ?_))
      | exact ih0 _ _ _ _ _ _ _
      | exact ih1 _ _ _ _ _ _
      | exact ih2 _ _ _ _ _ _ _
      | exact ih3 _ _ _ _ _ _
      | exact ih4 _ _ _ _ _ _ _
      | exact ih5 _ _ _ _ _ _
      | exact ih6 _ _ _ _ _ _ _
      | exact ih7 _ _ _ _ _ _
      | exact ih8 _ _ _ _ _ _ _
      | exact ih9 _ _ _ _ _ _
      | exact jackstayref06_Right.mono _ _ _ _ _ _
      | exact LeO.none _
      | refine LeO.ite ?_ ?_
      | refine LeO.bind ?_ (fun _ => ?_)
    · intro y0 y1 y2 y3 y4 y5 y6
      unfold jackstayref06_Event.j2
      repeat' first
      | (with_reducible exact ih0 _ _ _ _ _ _ _)
      | (with_reducible exact ih1 _ _ _ _ _ _)
      | (with_reducible exact ih2 _ _ _ _ _ _ _)
      | (with_reducible exact ih3 _ _ _ _ _ _)
      | (with_reducible exact ih4 _ _ _ _ _ _ _)
      | (with_reducible exact ih5 _ _ _ _ _ _)
      | (with_reducible exact ih6 _ _ _ _ _ _ _)
      | (with_reducible exact ih7 _ _ _ _ _ _)
      | (with_reducible exact ih8 _ _ _ _ _ _ _)
      | (with_reducible exact ih9 _ _ _ _ _ _)
      | (with_reducible exact jackstayref06_Right.mono _ _ _ _ _ _)
      | (with_reducible exact LeO.refl _)
      | (with_reducible exact LeO.none _)
      | (with_reducible refine LeO.ite ?_ ?_)
      | (with_reducible refine LeO.bind ?_ (fun _ => ?_))
      | exact ih0 _ _ _ _ _ _ _
      | exact ih1 _ _ _ _ _ _
      | exact ih2 _ _ _ _ _ _ _
      | exact ih3 _ _ _ _ _ _
      | exact ih4 _ _ _ _ _ _ _
      | exact ih5 _ _ _ _ _ _
      | exact ih6 _ _ _ _ _ _ _
      | exact ih7 _ _ _ _ _ _
      | exact ih8 _ _ _ _ _ _ _
      | exact ih9 _ _ _ _ _ _
      | exact jackstayref06_Right.mono _ _ _ _ _ _
      | exact LeO.none _
      | refine LeO.ite ?_ ?_
      | refine LeO.bind ?_ (fun _ => ?_)
    · intro y0 y1 y2 y3 y4 y5
      unfold jackstayref06_Event.j3
      repeat' first
      | (with_reducible exact ih0 _ _ _ _ _ _ _)
      | (with_reducible exact ih1 _ _ _ _ _ _)
      | (with_reducible exact ih2 _ _ _ _ _ _ _)
      | (with_reducible exact ih3 _ _ _ _ _ _)
      | (with_reducible exact ih4 _ _ _ _ _ _ _)
      | (with_reducible exact ih5 _ _ _ _ _ _)
      | (with_reducible exact ih6 _ _ _ _ _ _ _)
      | (with_reducible exact ih7 _ _ _ _ _ _)
      | (with_reducible exact ih8 _ _ _ _ _ _ _)
      | (with_reducible exact ih9 _ _ _ _ _ _)
      | (with_reducible exact jackstayref06_Right.mono _ _ _ _ _ _)
      | (with_reducible exact LeO.refl _)
      | (with_reducible exact LeO.none _)
      | (with_reducible refine LeO.ite ?_ ?_)
      | (with_reducible refine LeO.bind ?_ (fun _ => ?_))
      | exact ih0 _ _ _ _ _ _ _
      | exact ih1 _ _ _ _ _ _
      | exact ih2 _ _ _ _ _ _ _
      | exact ih3 _ _ _ _ _ _
      | exact ih4 _ _ _ _ _ _ _
      | exact ih5 _ _ _ _ _ _
      | exact ih6 _ _ _ _ _ _ _
      | exact ih7 _ _ _ _ _ _
      | exact ih8 _ _ _ _ _ _ _
      | exact ih9 _ _ _ _ _ _
      | exact jackstayref06_Right.mono _ _ _ _ _ _
      | exact LeO.none _
      | refine LeO.ite ?_ ?_
      | refine LeO.bind ?_ (fun _ => ?_)
    · intro y0 y1 y2 y3 y4 y5 y6
      unfold jackstayref06_Event.j4
      repeat' first
      | (with_reducible exact ih0 _ _ _ _ _ _ _)
      | (with_reducible exact ih1 _ _ _ _ _ _)
      | (with_reducible exact ih2 _ _ _ _ _ _ _)
      | (with_reducible exact ih3 _ _ _ _ _ _)
      | (with_reducible exact ih4 _ _ _ _ _ _ _)
      | (with_reducible exact ih5 _ _ _ _ _ _)
      | (with_reducible exact ih6 _ _ _ _ _ _ _)
      | (with_reducible exact ih7 _ _ _ _ _ _)
      | (with_reducible exact ih8 _ _ _ _ _ _ _)
      | (with_reducible exact ih9 _ _ _ _ _ _)
      | (with_reducible exact jackstayref06_Right.mono _ _ _ _ _ _)
      | (with_reducible exact LeO.refl _)
      | (with_reducible exact LeO.none _)
      | (with_reducible refine LeO.ite ?_ ?_)
      | (with_reducible refine LeO.bind ?_ (fun _ => ?_))
      | exact ih0 _ _ _ _ _ _ _
      | exact ih1 _ _ _ _ _ _
      | exact ih2 _ _ _ _ _ _ _
      | exact ih3 _ _ _ _ _ _
      | exact ih4 _ _ _ _ _ _ _
      | exact ih5 _ _ _ _ _ _
      | exact ih6 _ _ _ _ _ _ _
      | exact ih7 _ _ _ _ _ _
      | exact ih8 _ _ _ _ _ _ _
      | exact ih9 _ _ _ _ _ _
      | exact jackstayref06_Right.mono _ _ _ _ _ _
      | exact LeO.none _
      | refine LeO.ite ?_ ?_
      | refine LeO.bind ?_ (fun _ => ?_)
    · intro y0 y1 y2 y3 y4 y5
      unfold jackstayref06_Event.j5
      repeat' first
      | (with_reducible exact ih0 _ _ _ _ _ _ _)
      | (with_reducible exact ih1 _ _ _ _ _ _)
      | (with_reducible exact ih2 _ _ _ _ _ _ _)
      | (with_reducible exact ih3 _ _ _ _ _ _)
      | (with_reducible exact ih4 _ _ _ _ _ _ _)
      | (with_reducible exact ih5 _ _ _ _ _ _)
      | (with_reducible exact ih6 _ _ _ _ _ _ _)
      | (with_reducible exact ih7 _ _ _ _ _ _)
      | (with_reducible exact ih8 _ _ _ _ _ _ _)
      | (with_reducible exact ih9 _ _ _ _ _ _)
      | (with_reducible exact jackstayref06_Right.mono _ _ _ _ _ _)
      | (with_reducible exact LeO.refl _)
      | (with_reducible exact LeO.none _)
      | (with_reducible refine LeO.ite ?_ ?_)
      | (with_reducible refine LeO.bind ?_ (fun _ => ?_))
      | exact ih0 _ _ _ _ _ _ _
      | exact ih1 _ _ _ _ _ _
      | exact ih2 _ _ _ _ _ _ _
      | exact ih3 _ _ _ _ _ _
      | exact ih4 _ _ _ _ _ _ _
      | exact ih5 _ _ _ _ _ _
      | exact ih6 _ _ _ _ _ _ _
      | exact ih7 _ _ _ _ _ _
      | exact ih8 _ _ _ _ _ _ _
      | exact ih9 _ _ _ _ _ _
      | exact jackstayref06_Right.mono _ _ _ _ _ _
      | exact LeO.none _
      | refine LeO.ite ?_ ?_
      | refine LeO.bind ?_ (fun _ => ?_)
    · intro y0 y1 y2 y3 y4 y5 y6
      unfold jackstayref06_Event.j6
      repeat' first
      | (with_reducible exact ih0 _ _ _ _ _ _ _)
      | (with_reducible exact ih1 _ _ _ _ _ _)
      | (with_reducible exact ih2 _ _ _ _ _ _ _)
      | (with_reducible exact ih3 _ _ _ _ _ _)
      | (with_reducible exact ih4 _ _ _ _ _ _ _)
      | (with_reducible exact ih5 _ _ _ _ _ _)
      | (with_reducible exact ih6 _ _ _ _ _ _ _)
      | (with_reducible exact ih7 _ _ _ _ _ _)
      | (with_reducible exact ih8 _ _ _ _ _ _ _)
      | (with_reducible exact ih9 _ _ _ _ _ _)
      | (with_reducible exact jackstayref06_Right.mono _ _ _ _ _ _)
      | (with_reducible exact LeO.refl _)
      | (with_reducible exact LeO.none _)
      | (with_reducible refine LeO.ite ?_ ?_)
      | (with_reducible refine LeO.bind ?_ (fun _ => ?_))
      | exact ih0 _ _ _ _ _ _ _
      | exact ih1 _ _ _ _ _ _
      | exact ih2 _ _ _ _ _ _ _
      | exact ih3 _ _ _ _ _ _
      | exact ih4 _ _ _ _ _ _ _
      | exact ih5 _ _ _ _ _ _
      | exact ih6 _ _ _ _ _ _ _
      | exact ih7 _ _ _ _ _ _
      | exact ih8 _ _ _ _ _ _ _
      | exact ih9 _ _ _ _ _ _
      | exact jackstayref06_Right.mono _ _ _ _ _ _
      | exact LeO.none _
      | refine LeO.ite ?_ ?_
      | refine LeO.bind ?_ (fun _ => ?_)
    · intro y0 y1 y2 y3 y4 y5
      unfold jackstayref06_Event.j7
      repeat' first
      | (with_reducible exact ih0 _ _ _ _ _ _ _)
      | (with_reducible exact ih1 _ _ _ _ _ _)
      | (with_reducible exact ih2 _ _ _ _ _ _ _)
      | (with_reducible exact ih3 _ _ _ _ _ _)
      | (with_reducible exact ih4 _ _ _ _ _ _ _)
      | (with_reducible exact ih5 _ _ _ _ _ _)
      | (with_reducible exact ih6 _ _ _ _ _ _ _)
      | (with_reducible exact ih7 _ _ _ _ _ _)
      | (with_reducible exact ih8 _ _ _ _ _ _ _)
      | (with_reducible exact ih9 _ _ _ _ _ _)
      | (with_reducible exact jackstayref06_Right.mono _ _ _ _ _ _)
      | (with_reducible exact LeO.refl _)
      | (with_reducible exact LeO.none _)
      | (with_reducible refine LeO.ite ?_ ?_)
      | (with_reducible refine LeO.bind ?_ (fun _ => ?_))
      | exact ih0 _ _ _ _ _ _ _
      | exact ih1 _ _ _ _ _ _
      | exact ih2 _ _ _ _ _ _ _
      | exact ih3 _ _ _ _ _ _
      | exact ih4 _ _ _ _ _ _ _
      | exact ih5 _ _ _ _ _ _
      | exact ih6 _ _ _ _ _ _ _
      | exact ih7 _ _ _ _ _ _
      | exact ih8 _ _ _ _ _ _ _
      | exact ih9 _ _ _ _ _ _
      | exact jackstayref06_Right.mono _ _ _ _ _ _
      | exact LeO.none _
      | refine LeO.ite ?_ ?_
      | refine LeO.bind ?_ (fun _ => ?_)
    · intro y0 y1 y2 y3 y4 y5 y6
      unfold jackstayref06_Event.j8
      repeat' first
      | (with_reducible exact ih0 _ _ _ _ _ _ _)
      | (with_reducible exact ih1 _ _ _ _ _ _)
      | (with_reducible exact ih2 _ _ _ _ _ _ _)
      | (with_reducible exact ih3 _ _ _ _ _ _)
      | (with_reducible exact ih4 _ _ _ _ _ _ _)
      | (with_reducible exact ih5 _ _ _ _ _ _)
      | (with_reducible exact ih6 _ _ _ _ _ _ _)
      | (with_reducible exact ih7 _ _ _ _ _ _)
      | (with_reducible exact ih8 _ _ _ _ _ _ _)
      | (with_reducible exact ih9 _ _ _ _ _ _)
      | (with_reducible exact jackstayref06_Right.mono _ _ _ _ _ _)
      | (with_reducible exact LeO.refl _)
      | (with_reducible exact LeO.none _)
      | (with_reducible refine LeO.ite ?_ ?_)
      | (with_reducible refine LeO.bind ?_ (fun _ => ?_))
      | exact ih0 _ _ _ _ _ _ _
      | exact ih1 _ _ _ _ _ _
      | exact ih2 _ _ _ _ _ _ _
      | exact ih3 _ _ _ _ _ _
      | exact ih4 _ _ _ _ _ _ _
      | exact ih5 _ _ _ _ _ _
      | exact ih6 _ _ _ _ _ _ _
      | exact ih7 _ _ _ _ _ _
      | exact ih8 _ _ _ _ _ _ _
      | exact ih9 _ _ _ _ _ _
      | exact jackstayref06_Right.mono _ _ _ _ _ _
      | exact LeO.none _
      | refine LeO.ite ?_ ?_
      | refine LeO.bind ?_ (fun _ => ?_)
    · intro y0 y1 y2 y3 y4 y5
      unfold jackstayref06_Event.j9
      repeat' first
      | (with_reducible exact ih0 _ _ _ _ _ _ _)
      | (with_reducible exact ih1 _ _ _ _ _ _)
      | (with_reducible exact ih2 _ _ _ _ _ _ _)
      | (with_reducible exact ih3 _ _ _ _ _ _)
      | (with_reducible exact ih4 _ _ _ _ _ _ _)
      | (with_reducible exact ih5 _ _ _ _ _ _)
      | (with_reducible exact ih6 _ _ _ _ _ _ _)
      | (with_reducible exact ih7 _ _ _ _ _ _)
      | (with_reducible exact ih8 _ _ _ _ _ _ _)
      | (with_reducible exact ih9 _ _ _ _ _ _)
      | (with_reducible exact jackstayref06_Right.mono _ _ _ _ _ _)
      | (with_reducible exact LeO.refl _)
      | (with_reducible exact LeO.none _)
      | (with_reducible refine LeO.ite ?_ ?_)
      | (with_reducible refine LeO.bind ?_ (fun _ => ?_))
      | exact ih0 _ _ _ _ _ _ _
      | exact ih1 _ _ _ _ _ _
      | exact ih2 _ _ _ _ _ _ _
      | exact ih3 _ _ _ _ _ _
      | exact ih4 _ _ _ _ _ _ _
      | exact ih5 _ _ _ _ _ _
      | exact ih6 _ _ _ _ _ _ _
      | exact ih7 _ _ _ _ _ _
      | exact ih8 _ _ _ _ _ _ _
      | exact ih9 _ _ _ _ _ _
      | exact jackstayref06_Right.mono _ _ _ _ _ _
      | exact LeO.none _
      | refine LeO.ite ?_ ?_
      | refine LeO.bind ?_ (fun _ => ?_)
theorem jackstayref06_Event.mono : ∀ a0 a1 a2 a3 a4 a5 k, LeO (jackstayref06_Event.f k a0 a1 a2 a3 a4 a5) (jackstayref06_Event.f (k + 1) a0 a1 a2 a3 a4 a5) := by
  intro a0 a1 a2 a3 a4 a5 k
  obtain ⟨ih0, ih1, ih2, ih3, ih4, ih5, ih6, ih7, ih8, ih9⟩ := jackstayref06_Event.mono_l k
  unfold jackstayref06_Event.f
  repeat' first
      | (with_reducible exact ih0 _ _ _ _ _ _ _)
      | (with_reducible exact ih1 _ _ _ _ _ _)
      | (with_reducible exact ih2 _ _ _ _ _ _ _)
      | (with_reducible exact ih3 _ _ _ _ _ _)
      | (with_reducible exact ih4 _ _ _ _ _ _ _)
      | (with_reducible exact ih5 _ _ _ _ _ _)
      | (with_reducible exact ih6 _ _ _ _ _ _ _)
      | (with_reducible exact ih7 _ _ _ _ _ _)
      | (with_reducible exact ih8 _ _ _ _ _ _ _)
      | (with_reducible exact ih9 _ _ _ _ _ _)
      | (with_reducible exact jackstayref06_Right.mono _ _ _ _ _ _)
      | (with_reducible exact LeO.refl _)
      | (with_reducible exact LeO.none _)
      | (with_reducible refine LeO.ite ?_ ?_)
      | (with_reducible refine LeO.bind ?_ (fun _ => ?_))
      | exact ih0 _ _ _ _ _ _ _
      | exact ih1 _ _ _ _ _ _
      | exact ih2 _ _ _ _ _ _ _
      | exact ih3 _ _ _ _ _ _
      | exact ih4 _ _ _ _ _ _ _
      | exact ih5 _ _ _ _ _ _
      | exact ih6 _ _ _ _ _ _ _
      | exact ih7 _ _ _ _ _ _
      | exact ih8 _ _ _ _ _ _ _
      | exact ih9 _ _ _ _ _ _
      | exact jackstayref06_Right.mono _ _ _ _ _ _
      | exact LeO.none _
      | refine LeO.ite ?_ ?_
      | refine LeO.bind ?_ (fun _ => ?_)
set_option maxHeartbeats 8000000 in
set_option maxRecDepth 100000 in
theorem jackstayref06_Event.calls (k : Nat) (a0_0 : Int) (a0_1 : Int) (a0_2 : Bool) (a0_3 : Int) (a0_4 : Int) (a1 : Int) (r1 : Int) (r2 : Int) (r3 : Bool) (r4 : Int) (r5 : Int) (r6 : Int) (w : World) (h : jackstayref06_Event.f k a0_0 a0_1 a0_2 a0_3 a0_4 a1 = some (r1, r2, r3, r4, r5, r6)) :
    Calls Try.prog 11 #[.agg #[.int .i64 a0_0, .int .i64 a0_1, .bool a0_2, .int .i64 a0_3, .int .i64 a0_4], .int .u8 a1] w fun e w' => e = .returned (.tuple #[.agg #[.int .i64 r1, .int .i64 r2, .bool r3, .int .i64 r4, .int .i64 r5], .int .i64 r6]) ∧ Below w.heap.size w w' := by
  have hu23 := Try.underlying23
  have HB := Aside0.mk (Below.refl w.heap.size w)
  have H : ((jackstayref06_Right.f k a0_0 a0_1 a0_2 a0_3 a0_4).bind fun t113 => (if t113 = true then (if a1 < 1 then (jackstayref06_Event.j0 k a1 true a0_0 a0_1 a0_2 a0_3 a0_4) else (jackstayref06_Event.j0 k a1 (decide (a1 > 9)) a0_0 a0_1 a0_2 a0_3 a0_4)) else (jackstayref06_Event.j0 k a1 true a0_0 a0_1 a0_2 a0_3 a0_4))) = some (r1, r2, r3, r4, r5, r6) := h
  clear h
  have HC3 := Aside0.mk H
  clear H
  go_enter Try.func11, Try.ntmps11
  go_upto_region 1 with (first | ((with_reducible refine gate_dst (N := 2) rfl ?_); refine box_event ?hg (N := 2) ?hd (cs := #[.int .i64 a0_0, .int .i64 a0_1, .bool a0_2, .int .i64 a0_3, .int .i64 a0_4]) (t := 23) ?hr ?_; (case hd => rfl); (case hg => rfl); (case hr => first | (go_simp; done) | (go_simp; rfl)); intro gb111 hg w4 hbox hb; have n0_ := Aside0.mk (below_step (by repeat (first | (with_reducible first | exact HB.out | apply below_alloc | apply pw_below_drewN | apply below_drew1) | exact HB.out)) hb); have n1_ := Aside0.mk (hbox); have n2_ := Aside0.mk ((by rw [hg]; exact (below_size (by repeat (first | (with_reducible first | exact HB.out | apply below_alloc | apply pw_below_drewN | apply below_drew1) | exact HB.out))) : w.heap.size ≤ gb111)); have n3_ := Aside0.mk ((by rw [hg]; exact (below_size (by repeat (first | (with_reducible first | exact HB.out | apply below_alloc | apply pw_below_drewN | apply below_drew1) | exact HB.out))) : w.heap.size ≤ gb111)); clear HB; have HB := n0_; have BK111 := n1_; have GW111 := n2_; have GE111 := n3_; clear n0_ n1_ n2_ n3_; clear hb hbox hg) | ((with_reducible refine gate_dst (N := 4) rfl ?_); refine box_event ?hg (N := 4) ?hd (cs := #[.int .i64 0, .int .i64 0, .bool false, .int .i64 0, .int .i64 0]) (t := 23) ?hr ?_; (case hd => rfl); (case hg => rfl); (case hr => first | (go_simp; done) | (go_simp; rfl)); intro gb112 hg w5 hbox hb; have n0_ := Aside0.mk (blk_below (g := gb111) (o := .cells #[.int .i64 a0_0, .int .i64 a0_1, .bool a0_2, .int .i64 a0_3, .int .i64 a0_4] 23 (0, 0)) (by (with_reducible repeat (first | refine blk_drewN ?_ _ | refine blk_drew ?_ | refine blk_alloc ?_ _)); exact BK111.out) hb); have n1_ := Aside0.mk (below_step (by repeat (first | (with_reducible first | exact HB.out | apply below_alloc | apply pw_below_drewN | apply below_drew1 | refine below_set ?_ GE111.out) | exact HB.out)) hb); have n2_ := Aside0.mk (hbox); have n3_ := Aside0.mk ((by rw [hg]; exact (below_size (by repeat (first | (with_reducible first | exact HB.out | apply below_alloc | apply pw_below_drewN | apply below_drew1 | refine below_set ?_ GE111.out) | exact HB.out))) : w.heap.size ≤ gb112)); have n4_ := Aside0.mk ((by rw [hg]; exact (below_size (by repeat (first | (with_reducible first | exact HB.out | apply below_alloc | apply pw_below_drewN | apply below_drew1 | refine below_set ?_ GE111.out) | exact HB.out))) : w.heap.size ≤ gb112)); have n5_ := Aside0.mk ((by rw [hg]; exact Nat.ne_of_lt (blk_lt (g := gb111) (o := .cells #[.int .i64 a0_0, .int .i64 a0_1, .bool a0_2, .int .i64 a0_3, .int .i64 a0_4] 23 (0, 0)) (by (with_reducible repeat (first | refine blk_drewN ?_ _ | refine blk_drew ?_ | refine blk_alloc ?_ _)); exact BK111.out)) : gb111 ≠ gb112)); have n6_ := Aside0.mk ((by rw [hg]; exact Nat.ne_of_gt (blk_lt (g := gb111) (o := .cells #[.int .i64 a0_0, .int .i64 a0_1, .bool a0_2, .int .i64 a0_3, .int .i64 a0_4] 23 (0, 0)) (by (with_reducible repeat (first | refine blk_drewN ?_ _ | refine blk_drew ?_ | refine blk_alloc ?_ _)); exact BK111.out)) : gb112 ≠ gb111)); clear BK111; clear HB; have BK111 := n0_; have HB := n1_; have BK112 := n2_; have GW112 := n3_; have GE112 := n4_; have NB111_112 := n5_; have NB112_111 := n6_; clear n0_ n1_ n2_ n3_ n4_ n5_ n6_; clear hb hbox hg))
  (try simp only [Act.put, List.setIfInBounds_toArray, List.set_cons_zero, List.set_cons_succ])
  go_cut [16] (fun v16 wc => ∃ (kq : Nat) (x16_2 : Bool), v16 = .bool x16_2 ∧ Aside0 (jackstayref06_Event.j0 kq a1 x16_2 a0_0 a0_1 a0_2 a0_3 a0_4 = some (r1, r2, r3, r4, r5, r6)) ∧ Aside0 (kq ≤ k) ∧ Aside0 (wc.heap[gb111]? = some (.cells #[.int .i64 a0_0, .int .i64 a0_1, .bool a0_2, .int .i64 a0_3, .int .i64 a0_4] 23 (0, 0))) ∧ Aside0 (wc.heap[gb112]? = some (.cells #[.int .i64 0, .int .i64 0, .bool false, .int .i64 0, .int .i64 0] 23 (0, 0))) ∧ Aside0 (Below w.heap.size w wc))
  case first =>
    have H := HC3.out
    clear HC3
    replace H := Option.bind_eq_some_iff.mp H
    obtain ⟨t113, A60, H⟩ := H
    replace H : (if t113 = true then (if a1 < 1 then (jackstayref06_Event.j0 k a1 true a0_0 a0_1 a0_2 a0_3 a0_4) else (jackstayref06_Event.j0 k a1 (decide (a1 > 9)) a0_0 a0_1 a0_2 a0_3 a0_4)) else (jackstayref06_Event.j0 k a1 true a0_0 a0_1 a0_2 a0_3 a0_4)) = some (r1, r2, r3, r4, r5, r6) := H
    have A6 := Aside0.mk A60
    clear A60
    by_cases c7 : t113 = true
    · subst c7
      have H1 : (if a1 < 1 then (jackstayref06_Event.j0 k a1 true a0_0 a0_1 a0_2 a0_3 a0_4) else (jackstayref06_Event.j0 k a1 (decide (a1 > 9)) a0_0 a0_1 a0_2 a0_3 a0_4)) = some (r1, r2, r3, r4, r5, r6) := by rw [if_pos rfl] at H; exact H
      clear H
      have H := H1
      clear H1
      by_cases c8 : a1 < 1
      · rw [if_pos c8] at H
        have c8b0 : decide (a1 < 1) = true := decide_eq_true c8
        clear c8
        (first | rw [c8b0] | (simp only [i64_w, i32_w]; rw [c8b0]) | skip)
        have H' := Aside0.mk H
        clear H
        have hnb9 := NB111_112.out
        have hnc9 := NB112_111.out
        have hcz10_0 : w5.cell? ⟨gb111, 0, none⟩ = some (.int .i64 a0_0) := (blk_cell BK111.out 0).trans rfl
        have hcz10_1 : w5.cell? ⟨gb111, 1, none⟩ = some (.int .i64 a0_1) := (blk_cell BK111.out 1).trans rfl
        have hcz10_2 : w5.cell? ⟨gb111, 2, none⟩ = some (.bool a0_2) := (blk_cell BK111.out 2).trans rfl
        have hcz10_3 : w5.cell? ⟨gb111, 3, none⟩ = some (.int .i64 a0_3) := (blk_cell BK111.out 3).trans rfl
        have hcz10_4 : w5.cell? ⟨gb111, 4, none⟩ = some (.int .i64 a0_4) := (blk_cell BK111.out 4).trans rfl
        have hfz10_0 := blk_frozen BK111.out 0
        have hfz10_1 := blk_frozen BK111.out 1
        have hfz10_2 := blk_frozen BK111.out 2
        have hfz10_3 := blk_frozen BK111.out 3
        have hfz10_4 := blk_frozen BK111.out 4
        go_wp2_with (first | ((with_reducible refine gate_callee (f := 13) rfl ?_); refine goesL_ (some 7) rfl rfl Try.func13 (by kernel_rfl) rfl #[.agg #[.int .i64 a0_0, .int .i64 a0_1, .bool a0_2, .int .i64 a0_3, .int .i64 a0_4]] rfl (by (try simp only [List.map_toArray, List.map_cons, List.map_nil]); first | done | rfl | (simp only [List.length_drop, List.length_take]; rfl)) ?_; (with_reducible refine (jackstayref06_Right.calls k a0_0 a0_1 a0_2 a0_3 a0_4 true _ A6.out).mono ?_); rintro e w11 ⟨rfl, hb⟩; refine ⟨_, rfl, ?_⟩; have n0_ := Aside0.mk (blk_below (g := gb111) (o := .cells #[.int .i64 a0_0, .int .i64 a0_1, .bool a0_2, .int .i64 a0_3, .int .i64 a0_4] 23 (0, 0)) (by (with_reducible repeat (first | refine blk_drewN ?_ _ | refine blk_drew ?_ | refine blk_alloc ?_ _)); exact BK111.out) hb); have n1_ := Aside0.mk (blk_below (g := gb112) (o := .cells #[.int .i64 0, .int .i64 0, .bool false, .int .i64 0, .int .i64 0] 23 (0, 0)) (by (with_reducible repeat (first | refine blk_drewN ?_ _ | refine blk_drew ?_ | refine blk_alloc ?_ _)); exact BK112.out) hb); have n2_ := Aside0.mk (below_step (by repeat (first | (with_reducible first | exact HB.out | apply below_alloc | apply pw_below_drewN | apply below_drew1 | refine below_set ?_ GE111.out | refine below_set ?_ GE112.out) | exact HB.out)) hb); clear BK111; clear BK112; clear HB; have BK111 := n0_; have BK112 := n1_; have HB := n2_; clear n0_ n1_ n2_; (try clear hb); (try clear hb2); (try clear hk); (try clear hi)))
        go_meet
        case rel => exact ⟨_, (true), (by first | rfl | (simp; done) | (simp [*]; done)), H', ⟨by first | omega | exact Nat.le_refl _⟩, ⟨by (with_reducible repeat (first | refine blk_drewN ?_ _ | refine blk_drew ?_ | refine blk_alloc ?_ _)); exact BK111.out⟩, ⟨by (with_reducible repeat (first | refine blk_drewN ?_ _ | refine blk_drew ?_ | refine blk_alloc ?_ _)); exact BK112.out⟩, ⟨by repeat (first | (with_reducible first | exact HB.out | apply below_alloc | apply pw_below_drewN | apply below_drew1 | refine below_set ?_ GE111.out | refine below_set ?_ GE112.out) | exact HB.out)⟩⟩
      · rw [if_neg c8] at H
        have c8b0 : decide (a1 < 1) = false := decide_eq_false c8
        clear c8
        (first | rw [c8b0] | (simp only [i64_w, i32_w]; rw [c8b0]) | skip)
        have H' := Aside0.mk H
        clear H
        have hnb12 := NB111_112.out
        have hnc12 := NB112_111.out
        have hcz13_0 : w5.cell? ⟨gb111, 0, none⟩ = some (.int .i64 a0_0) := (blk_cell BK111.out 0).trans rfl
        have hcz13_1 : w5.cell? ⟨gb111, 1, none⟩ = some (.int .i64 a0_1) := (blk_cell BK111.out 1).trans rfl
        have hcz13_2 : w5.cell? ⟨gb111, 2, none⟩ = some (.bool a0_2) := (blk_cell BK111.out 2).trans rfl
        have hcz13_3 : w5.cell? ⟨gb111, 3, none⟩ = some (.int .i64 a0_3) := (blk_cell BK111.out 3).trans rfl
        have hcz13_4 : w5.cell? ⟨gb111, 4, none⟩ = some (.int .i64 a0_4) := (blk_cell BK111.out 4).trans rfl
        have hfz13_0 := blk_frozen BK111.out 0
        have hfz13_1 := blk_frozen BK111.out 1
        have hfz13_2 := blk_frozen BK111.out 2
        have hfz13_3 := blk_frozen BK111.out 3
        have hfz13_4 := blk_frozen BK111.out 4
        go_wp2_with (first | ((with_reducible refine gate_callee (f := 13) rfl ?_); refine goesL_ (some 7) rfl rfl Try.func13 (by kernel_rfl) rfl #[.agg #[.int .i64 a0_0, .int .i64 a0_1, .bool a0_2, .int .i64 a0_3, .int .i64 a0_4]] rfl (by (try simp only [List.map_toArray, List.map_cons, List.map_nil]); first | done | rfl | (simp only [List.length_drop, List.length_take]; rfl)) ?_; (with_reducible refine (jackstayref06_Right.calls k a0_0 a0_1 a0_2 a0_3 a0_4 true _ A6.out).mono ?_); rintro e w14 ⟨rfl, hb⟩; refine ⟨_, rfl, ?_⟩; have n0_ := Aside0.mk (blk_below (g := gb111) (o := .cells #[.int .i64 a0_0, .int .i64 a0_1, .bool a0_2, .int .i64 a0_3, .int .i64 a0_4] 23 (0, 0)) (by (with_reducible repeat (first | refine blk_drewN ?_ _ | refine blk_drew ?_ | refine blk_alloc ?_ _)); exact BK111.out) hb); have n1_ := Aside0.mk (blk_below (g := gb112) (o := .cells #[.int .i64 0, .int .i64 0, .bool false, .int .i64 0, .int .i64 0] 23 (0, 0)) (by (with_reducible repeat (first | refine blk_drewN ?_ _ | refine blk_drew ?_ | refine blk_alloc ?_ _)); exact BK112.out) hb); have n2_ := Aside0.mk (below_step (by repeat (first | (with_reducible first | exact HB.out | apply below_alloc | apply pw_below_drewN | apply below_drew1 | refine below_set ?_ GE111.out | refine below_set ?_ GE112.out) | exact HB.out)) hb); clear BK111; clear BK112; clear HB; have BK111 := n0_; have BK112 := n1_; have HB := n2_; clear n0_ n1_ n2_; (try clear hb); (try clear hb2); (try clear hk); (try clear hi)))
        go_meet
        case rel => exact ⟨_, (decide (a1 > 9)), (by first | rfl | (simp; done) | (simp [*]; done)), H', ⟨by first | omega | exact Nat.le_refl _⟩, ⟨by (with_reducible repeat (first | refine blk_drewN ?_ _ | refine blk_drew ?_ | refine blk_alloc ?_ _)); exact BK111.out⟩, ⟨by (with_reducible repeat (first | refine blk_drewN ?_ _ | refine blk_drew ?_ | refine blk_alloc ?_ _)); exact BK112.out⟩, ⟨by repeat (first | (with_reducible first | exact HB.out | apply below_alloc | apply pw_below_drewN | apply below_drew1 | refine below_set ?_ GE111.out | refine below_set ?_ GE112.out) | exact HB.out)⟩⟩
    · replace c7 := Bool.eq_false_iff.mpr c7
      subst c7
      have H1 : (jackstayref06_Event.j0 k a1 true a0_0 a0_1 a0_2 a0_3 a0_4) = some (r1, r2, r3, r4, r5, r6) := by rw [if_neg (show ¬ (false = true) by decide)] at H; exact H
      clear H
      have H := H1
      clear H1
      have H' := Aside0.mk H
      clear H
      have hnb15 := NB111_112.out
      have hnc15 := NB112_111.out
      have hcz16_0 : w5.cell? ⟨gb111, 0, none⟩ = some (.int .i64 a0_0) := (blk_cell BK111.out 0).trans rfl
      have hcz16_1 : w5.cell? ⟨gb111, 1, none⟩ = some (.int .i64 a0_1) := (blk_cell BK111.out 1).trans rfl
      have hcz16_2 : w5.cell? ⟨gb111, 2, none⟩ = some (.bool a0_2) := (blk_cell BK111.out 2).trans rfl
      have hcz16_3 : w5.cell? ⟨gb111, 3, none⟩ = some (.int .i64 a0_3) := (blk_cell BK111.out 3).trans rfl
      have hcz16_4 : w5.cell? ⟨gb111, 4, none⟩ = some (.int .i64 a0_4) := (blk_cell BK111.out 4).trans rfl
      have hfz16_0 := blk_frozen BK111.out 0
      have hfz16_1 := blk_frozen BK111.out 1
      have hfz16_2 := blk_frozen BK111.out 2
      have hfz16_3 := blk_frozen BK111.out 3
      have hfz16_4 := blk_frozen BK111.out 4
      go_wp2_with (first | ((with_reducible refine gate_callee (f := 13) rfl ?_); refine goesL_ (some 7) rfl rfl Try.func13 (by kernel_rfl) rfl #[.agg #[.int .i64 a0_0, .int .i64 a0_1, .bool a0_2, .int .i64 a0_3, .int .i64 a0_4]] rfl (by (try simp only [List.map_toArray, List.map_cons, List.map_nil]); first | done | rfl | (simp only [List.length_drop, List.length_take]; rfl)) ?_; (with_reducible refine (jackstayref06_Right.calls k a0_0 a0_1 a0_2 a0_3 a0_4 false _ A6.out).mono ?_); rintro e w17 ⟨rfl, hb⟩; refine ⟨_, rfl, ?_⟩; have n0_ := Aside0.mk (blk_below (g := gb111) (o := .cells #[.int .i64 a0_0, .int .i64 a0_1, .bool a0_2, .int .i64 a0_3, .int .i64 a0_4] 23 (0, 0)) (by (with_reducible repeat (first | refine blk_drewN ?_ _ | refine blk_drew ?_ | refine blk_alloc ?_ _)); exact BK111.out) hb); have n1_ := Aside0.mk (blk_below (g := gb112) (o := .cells #[.int .i64 0, .int .i64 0, .bool false, .int .i64 0, .int .i64 0] 23 (0, 0)) (by (with_reducible repeat (first | refine blk_drewN ?_ _ | refine blk_drew ?_ | refine blk_alloc ?_ _)); exact BK112.out) hb); have n2_ := Aside0.mk (below_step (by repeat (first | (with_reducible first | exact HB.out | apply below_alloc | apply pw_below_drewN | apply below_drew1 | refine below_set ?_ GE111.out | refine below_set ?_ GE112.out) | exact HB.out)) hb); clear BK111; clear BK112; clear HB; have BK111 := n0_; have BK112 := n1_; have HB := n2_; clear n0_ n1_ n2_; (try clear hb); (try clear hb2); (try clear hk); (try clear hi)))
      go_meet
      case rel => exact ⟨_, (true), (by first | rfl | (simp; done) | (simp [*]; done)), H', ⟨by first | omega | exact Nat.le_refl _⟩, ⟨by (with_reducible repeat (first | refine blk_drewN ?_ _ | refine blk_drew ?_ | refine blk_alloc ?_ _)); exact BK111.out⟩, ⟨by (with_reducible repeat (first | refine blk_drewN ?_ _ | refine blk_drew ?_ | refine blk_alloc ?_ _)); exact BK112.out⟩, ⟨by repeat (first | (with_reducible first | exact HB.out | apply below_alloc | apply pw_below_drewN | apply below_drew1 | refine below_set ?_ GE111.out | refine below_set ?_ GE112.out) | exact HB.out)⟩⟩
  case rest =>
    clear HC3
    try clear c1
    try clear p2
    try clear c7
    try clear c8
    try clear c8b0
    try clear c9
    try clear c11
    try clear c12
    try clear c13
    try clear c15
    try clear hcz10_0
    try clear hcz10_1
    try clear hcz10_2
    try clear hcz10_3
    try clear hcz10_4
    try clear hcz13_0
    try clear hcz13_1
    try clear hcz13_2
    try clear hcz13_3
    try clear hcz13_4
    try clear hcz16_0
    try clear hcz16_1
    try clear hcz16_2
    try clear hcz16_3
    try clear hcz16_4
    try clear hfz10_0
    try clear hfz10_1
    try clear hfz10_2
    try clear hfz10_3
    try clear hfz10_4
    try clear hfz13_0
    try clear hfz13_1
    try clear hfz13_2
    try clear hfz13_3
    try clear hfz13_4
    try clear hfz16_0
    try clear hfz16_1
    try clear hfz16_2
    try clear hfz16_3
    try clear hfz16_4
    obtain ⟨kq, x16_2, rfl, HA, HJ2, BK111, BK112, HB⟩ := hcut
    cases kq with
    | zero => exact absurd HA.out (by simp [jackstayref06_Event.j0])
    | succ kj2 =>
      have H := HA.out
      clear HA
      simp only [jackstayref06_Event.j0] at H
      by_cases c18 : x16_2 = true
      · subst c18
        have H1 : (some (a0_0, a0_1, a0_2, a0_3, a0_4, 60)) = some (r1, r2, r3, r4, r5, r6) := by rw [if_pos rfl] at H; exact H
        clear H
        have H := H1
        clear H1
        simp only [Option.some.injEq, Prod.mk.injEq] at H
        obtain ⟨rfl, rfl, rfl, rfl, rfl, rfl⟩ := H
        have hnb19 := NB111_112.out
        have hnc19 := NB112_111.out
        have hcz20_0 : wc.cell? ⟨gb111, 0, none⟩ = some (.int .i64 a0_0) := (blk_cell BK111.out 0).trans rfl
        have hcz20_1 : wc.cell? ⟨gb111, 1, none⟩ = some (.int .i64 a0_1) := (blk_cell BK111.out 1).trans rfl
        have hcz20_2 : wc.cell? ⟨gb111, 2, none⟩ = some (.bool a0_2) := (blk_cell BK111.out 2).trans rfl
        have hcz20_3 : wc.cell? ⟨gb111, 3, none⟩ = some (.int .i64 a0_3) := (blk_cell BK111.out 3).trans rfl
        have hcz20_4 : wc.cell? ⟨gb111, 4, none⟩ = some (.int .i64 a0_4) := (blk_cell BK111.out 4).trans rfl
        have hfz20_0 := blk_frozen BK111.out 0
        have hfz20_1 := blk_frozen BK111.out 1
        have hfz20_2 := blk_frozen BK111.out 2
        have hfz20_3 := blk_frozen BK111.out 3
        have hfz20_4 := blk_frozen BK111.out 4
        have hcz21_0 : wc.cell? ⟨gb112, 0, none⟩ = some (.int .i64 0) := (blk_cell BK112.out 0).trans rfl
        have hcz21_1 : wc.cell? ⟨gb112, 1, none⟩ = some (.int .i64 0) := (blk_cell BK112.out 1).trans rfl
        have hcz21_2 : wc.cell? ⟨gb112, 2, none⟩ = some (.bool false) := (blk_cell BK112.out 2).trans rfl
        have hcz21_3 : wc.cell? ⟨gb112, 3, none⟩ = some (.int .i64 0) := (blk_cell BK112.out 3).trans rfl
        have hcz21_4 : wc.cell? ⟨gb112, 4, none⟩ = some (.int .i64 0) := (blk_cell BK112.out 4).trans rfl
        have hfz21_0 := blk_frozen BK112.out 0
        have hfz21_1 := blk_frozen BK112.out 1
        have hfz21_2 := blk_frozen BK112.out 2
        have hfz21_3 := blk_frozen BK112.out 3
        have hfz21_4 := blk_frozen BK112.out 4
        go_wp2
        refine bodyPost_ret (results_ct rfl _ _ gb112 23 #[.int .i64 a0_0, .int .i64 a0_1, .bool a0_2, .int .i64 a0_3, .int .i64 a0_4] (0, 0) _ rfl (by (with_reducible repeat (first | refine blk_drewN ?_ _ | refine blk_drew ?_ | refine blk_alloc ?_ _)); refine blk_put (cs := #[.int .i64 a0_0, .int .i64 a0_1, .bool a0_2, .int .i64 a0_3, .int .i64 0]) ?_ 4 _ rfl; (with_reducible repeat (first | refine blk_drewN ?_ _ | refine blk_drew ?_ | refine blk_alloc ?_ _)); refine blk_put (cs := #[.int .i64 a0_0, .int .i64 a0_1, .bool a0_2, .int .i64 0, .int .i64 0]) ?_ 3 _ rfl; (with_reducible repeat (first | refine blk_drewN ?_ _ | refine blk_drew ?_ | refine blk_alloc ?_ _)); refine blk_put (cs := #[.int .i64 a0_0, .int .i64 a0_1, .bool false, .int .i64 0, .int .i64 0]) ?_ 2 _ rfl; (with_reducible repeat (first | refine blk_drewN ?_ _ | refine blk_drew ?_ | refine blk_alloc ?_ _)); refine blk_put (cs := #[.int .i64 a0_0, .int .i64 0, .bool false, .int .i64 0, .int .i64 0]) ?_ 1 _ rfl; (with_reducible repeat (first | refine blk_drewN ?_ _ | refine blk_drew ?_ | refine blk_alloc ?_ _)); refine blk_put (cs := #[.int .i64 0, .int .i64 0, .bool false, .int .i64 0, .int .i64 0]) ?_ 0 _ rfl; (with_reducible repeat (first | refine blk_drewN ?_ _ | refine blk_drew ?_ | refine blk_alloc ?_ _)); exact BK112.out) Try.underlying23 rfl (by kernel_rfl)) rfl ?_
        exact ⟨by first | rfl | (simp [errW_none, errW_some] <;> rfl) | (simp [*, errW_none, errW_some] <;> rfl), by repeat (first | (with_reducible first | exact HB.out | apply below_alloc | apply pw_below_drewN | apply below_drew1 | refine below_set ?_ GE111.out | refine below_set ?_ GE112.out) | exact HB.out)⟩
      · replace c18 := Bool.eq_false_iff.mpr c18
        subst c18
        have H1 : (if a0_2 = true then (some (a0_0, a0_1, a0_2, a0_3, a0_4, 0)) else (if a1 = 1 then (jackstayref06_Event.j1 kj2 a1 a0_0 (wrap64 (a0_1 + 1)) a0_2 a0_3 a0_4) else (jackstayref06_Event.j1 kj2 a1 a0_0 a0_1 a0_2 a0_3 a0_4))) = some (r1, r2, r3, r4, r5, r6) := by rw [if_neg (show ¬ (false = true) by decide)] at H; exact H
        clear H
        have H := H1
        clear H1
        by_cases c22 : a0_2 = true
        · subst c22
          have H1 : (some (a0_0, a0_1, true, a0_3, a0_4, 0)) = some (r1, r2, r3, r4, r5, r6) := by rw [if_pos rfl] at H; exact H
          clear H
          have H := H1
          clear H1
          simp only [Option.some.injEq, Prod.mk.injEq] at H
          obtain ⟨rfl, rfl, rfl, rfl, rfl, rfl⟩ := H
          have hnb23 := NB111_112.out
          have hnc23 := NB112_111.out
          have hcz24_0 : wc.cell? ⟨gb111, 0, none⟩ = some (.int .i64 a0_0) := (blk_cell BK111.out 0).trans rfl
          have hcz24_1 : wc.cell? ⟨gb111, 1, none⟩ = some (.int .i64 a0_1) := (blk_cell BK111.out 1).trans rfl
          have hcz24_2 : wc.cell? ⟨gb111, 2, none⟩ = some (.bool true) := (blk_cell BK111.out 2).trans rfl
          have hcz24_3 : wc.cell? ⟨gb111, 3, none⟩ = some (.int .i64 a0_3) := (blk_cell BK111.out 3).trans rfl
          have hcz24_4 : wc.cell? ⟨gb111, 4, none⟩ = some (.int .i64 a0_4) := (blk_cell BK111.out 4).trans rfl
          have hfz24_0 := blk_frozen BK111.out 0
          have hfz24_1 := blk_frozen BK111.out 1
          have hfz24_2 := blk_frozen BK111.out 2
          have hfz24_3 := blk_frozen BK111.out 3
          have hfz24_4 := blk_frozen BK111.out 4
          have hcz25_0 : wc.cell? ⟨gb112, 0, none⟩ = some (.int .i64 0) := (blk_cell BK112.out 0).trans rfl
          have hcz25_1 : wc.cell? ⟨gb112, 1, none⟩ = some (.int .i64 0) := (blk_cell BK112.out 1).trans rfl
          have hcz25_2 : wc.cell? ⟨gb112, 2, none⟩ = some (.bool false) := (blk_cell BK112.out 2).trans rfl
          have hcz25_3 : wc.cell? ⟨gb112, 3, none⟩ = some (.int .i64 0) := (blk_cell BK112.out 3).trans rfl
          have hcz25_4 : wc.cell? ⟨gb112, 4, none⟩ = some (.int .i64 0) := (blk_cell BK112.out 4).trans rfl
          have hfz25_0 := blk_frozen BK112.out 0
          have hfz25_1 := blk_frozen BK112.out 1
          have hfz25_2 := blk_frozen BK112.out 2
          have hfz25_3 := blk_frozen BK112.out 3
          have hfz25_4 := blk_frozen BK112.out 4
          go_wp2
          refine bodyPost_ret (results_ct rfl _ _ gb112 23 #[.int .i64 a0_0, .int .i64 a0_1, .bool true, .int .i64 a0_3, .int .i64 a0_4] (0, 0) _ rfl (by (with_reducible repeat (first | refine blk_drewN ?_ _ | refine blk_drew ?_ | refine blk_alloc ?_ _)); refine blk_put (cs := #[.int .i64 a0_0, .int .i64 a0_1, .bool true, .int .i64 a0_3, .int .i64 0]) ?_ 4 _ rfl; (with_reducible repeat (first | refine blk_drewN ?_ _ | refine blk_drew ?_ | refine blk_alloc ?_ _)); refine blk_put (cs := #[.int .i64 a0_0, .int .i64 a0_1, .bool true, .int .i64 0, .int .i64 0]) ?_ 3 _ rfl; (with_reducible repeat (first | refine blk_drewN ?_ _ | refine blk_drew ?_ | refine blk_alloc ?_ _)); refine blk_put (cs := #[.int .i64 a0_0, .int .i64 a0_1, .bool false, .int .i64 0, .int .i64 0]) ?_ 2 _ rfl; (with_reducible repeat (first | refine blk_drewN ?_ _ | refine blk_drew ?_ | refine blk_alloc ?_ _)); refine blk_put (cs := #[.int .i64 a0_0, .int .i64 0, .bool false, .int .i64 0, .int .i64 0]) ?_ 1 _ rfl; (with_reducible repeat (first | refine blk_drewN ?_ _ | refine blk_drew ?_ | refine blk_alloc ?_ _)); refine blk_put (cs := #[.int .i64 0, .int .i64 0, .bool false, .int .i64 0, .int .i64 0]) ?_ 0 _ rfl; (with_reducible repeat (first | refine blk_drewN ?_ _ | refine blk_drew ?_ | refine blk_alloc ?_ _)); exact BK112.out) Try.underlying23 rfl (by kernel_rfl)) rfl ?_
          exact ⟨by first | rfl | (simp [errW_none, errW_some] <;> rfl) | (simp [*, errW_none, errW_some] <;> rfl), by repeat (first | (with_reducible first | exact HB.out | apply below_alloc | apply pw_below_drewN | apply below_drew1 | refine below_set ?_ GE111.out | refine below_set ?_ GE112.out) | exact HB.out)⟩
        · replace c22 := Bool.eq_false_iff.mpr c22
          subst c22
          have H1 : (if a1 = 1 then (jackstayref06_Event.j1 kj2 a1 a0_0 (wrap64 (a0_1 + 1)) false a0_3 a0_4) else (jackstayref06_Event.j1 kj2 a1 a0_0 a0_1 false a0_3 a0_4)) = some (r1, r2, r3, r4, r5, r6) := by rw [if_neg (show ¬ (false = true) by decide)] at H; exact H
          clear H
          have H := H1
          clear H1
          have HC26 := Aside0.mk H
          clear H
          have hnb27 := NB111_112.out
          have hnc27 := NB112_111.out
          have hcz28_0 : wc.cell? ⟨gb111, 0, none⟩ = some (.int .i64 a0_0) := (blk_cell BK111.out 0).trans rfl
          have hcz28_1 : wc.cell? ⟨gb111, 1, none⟩ = some (.int .i64 a0_1) := (blk_cell BK111.out 1).trans rfl
          have hcz28_2 : wc.cell? ⟨gb111, 2, none⟩ = some (.bool false) := (blk_cell BK111.out 2).trans rfl
          have hcz28_3 : wc.cell? ⟨gb111, 3, none⟩ = some (.int .i64 a0_3) := (blk_cell BK111.out 3).trans rfl
          have hcz28_4 : wc.cell? ⟨gb111, 4, none⟩ = some (.int .i64 a0_4) := (blk_cell BK111.out 4).trans rfl
          have hfz28_0 := blk_frozen BK111.out 0
          have hfz28_1 := blk_frozen BK111.out 1
          have hfz28_2 := blk_frozen BK111.out 2
          have hfz28_3 := blk_frozen BK111.out 3
          have hfz28_4 := blk_frozen BK111.out 4
          go_upto_if 22 with (fail)
          go_cut [] (fun wc => ∃ (kq : Nat) (x112001_25 : Int), Aside0 (jackstayref06_Event.j1 kq a1 a0_0 x112001_25 false a0_3 a0_4 = some (r1, r2, r3, r4, r5, r6)) ∧ Aside0 (kq ≤ kj2) ∧ Aside0 (wc.heap[gb111]? = some (.cells #[.int .i64 a0_0, .int .i64 x112001_25, .bool false, .int .i64 a0_3, .int .i64 a0_4] 23 (0, 0))) ∧ Aside0 (wc.heap[gb112]? = some (.cells #[.int .i64 0, .int .i64 0, .bool false, .int .i64 0, .int .i64 0] 23 (0, 0))) ∧ Aside0 (Below w.heap.size w wc))
          case first =>
            have H := HC26.out
            clear HC26
            by_cases c29 : a1 = 1
            · rw [if_pos c29] at H
              have c29b0 : (a1 == 1) = true := beq_iff_eq.mpr c29
              have c29b1 : (a1 != 1) = false := bne_eq_false_iff_eq.mpr c29
              clear c29
              (first | rw [c29b0] | (simp only [i64_w, i32_w]; rw [c29b0]) | skip)
              have H' := Aside0.mk H
              clear H
              have hnb30 := NB111_112.out
              have hnc30 := NB112_111.out
              have hcz31_0 : wc.cell? ⟨gb111, 0, none⟩ = some (.int .i64 a0_0) := (blk_cell BK111.out 0).trans rfl
              have hcz31_1 : wc.cell? ⟨gb111, 1, none⟩ = some (.int .i64 a0_1) := (blk_cell BK111.out 1).trans rfl
              have hcz31_2 : wc.cell? ⟨gb111, 2, none⟩ = some (.bool false) := (blk_cell BK111.out 2).trans rfl
              have hcz31_3 : wc.cell? ⟨gb111, 3, none⟩ = some (.int .i64 a0_3) := (blk_cell BK111.out 3).trans rfl
              have hcz31_4 : wc.cell? ⟨gb111, 4, none⟩ = some (.int .i64 a0_4) := (blk_cell BK111.out 4).trans rfl
              have hfz31_0 := blk_frozen BK111.out 0
              have hfz31_1 := blk_frozen BK111.out 1
              have hfz31_2 := blk_frozen BK111.out 2
              have hfz31_3 := blk_frozen BK111.out 3
              have hfz31_4 := blk_frozen BK111.out 4
              go_wp2
              go_meet
              case rel => exact ⟨_, (wrap64 (a0_1 + 1)), H', ⟨by have := HJ2.out; first | omega | exact Nat.le_refl _⟩, ⟨by (with_reducible repeat (first | refine blk_drewN ?_ _ | refine blk_drew ?_ | refine blk_alloc ?_ _)); refine blk_put (cs := #[.int .i64 a0_0, .int .i64 a0_1, .bool false, .int .i64 a0_3, .int .i64 a0_4]) ?_ 1 _ rfl; (with_reducible repeat (first | refine blk_drewN ?_ _ | refine blk_drew ?_ | refine blk_alloc ?_ _)); exact BK111.out⟩, ⟨by (with_reducible repeat (first | refine blk_drewN ?_ _ | refine blk_drew ?_ | refine blk_alloc ?_ _)); refine blk_far ?_ NB112_111.out _; (with_reducible repeat (first | refine blk_drewN ?_ _ | refine blk_drew ?_ | refine blk_alloc ?_ _)); exact BK112.out⟩, ⟨by repeat (first | (with_reducible first | exact HB.out | apply below_alloc | apply pw_below_drewN | apply below_drew1 | refine below_set ?_ GE111.out | refine below_set ?_ GE112.out) | exact HB.out)⟩⟩
            · rw [if_neg c29] at H
              have c29b0 : (a1 == 1) = false := beq_eq_false_iff_ne.mpr c29
              have c29b1 : (a1 != 1) = true := bne_iff_ne.mpr c29
              (first | rw [c29b0] | (simp only [i64_w, i32_w]; rw [c29b0]) | skip)
              have H' := Aside0.mk H
              clear H
              go_wp2
              go_meet
              case rel => exact ⟨_, (a0_1), H', ⟨by have := HJ2.out; first | omega | exact Nat.le_refl _⟩, ⟨by (with_reducible repeat (first | refine blk_drewN ?_ _ | refine blk_drew ?_ | refine blk_alloc ?_ _)); exact BK111.out⟩, ⟨by (with_reducible repeat (first | refine blk_drewN ?_ _ | refine blk_drew ?_ | refine blk_alloc ?_ _)); exact BK112.out⟩, ⟨by repeat (first | (with_reducible first | exact HB.out | apply below_alloc | apply pw_below_drewN | apply below_drew1 | refine below_set ?_ GE111.out | refine below_set ?_ GE112.out) | exact HB.out)⟩⟩
          case rest =>
            clear HC26
            try clear c1
            try clear c2
            try clear p2
            try clear c3
            try clear p6
            try clear c7
            try clear c8
            try clear c8b0
            try clear c9
            try clear c11
            try clear c12
            try clear c13
            try clear c15
            try clear c18
            try clear c19
            try clear c22
            try clear c23
            try clear c27
            try clear c29
            try clear c29b0
            try clear c29b1
            try clear c30
            try clear hcz10_0
            try clear hcz10_1
            try clear hcz10_2
            try clear hcz10_3
            try clear hcz10_4
            try clear hcz13_0
            try clear hcz13_1
            try clear hcz13_2
            try clear hcz13_3
            try clear hcz13_4
            try clear hcz16_0
            try clear hcz16_1
            try clear hcz16_2
            try clear hcz16_3
            try clear hcz16_4
            try clear hcz20_0
            try clear hcz20_1
            try clear hcz20_2
            try clear hcz20_3
            try clear hcz20_4
            try clear hcz21_0
            try clear hcz21_1
            try clear hcz21_2
            try clear hcz21_3
            try clear hcz21_4
            try clear hcz24_0
            try clear hcz24_1
            try clear hcz24_2
            try clear hcz24_3
            try clear hcz24_4
            try clear hcz25_0
            try clear hcz25_1
            try clear hcz25_2
            try clear hcz25_3
            try clear hcz25_4
            try clear hcz28_0
            try clear hcz28_1
            try clear hcz28_2
            try clear hcz28_3
            try clear hcz28_4
            try clear hcz31_0
            try clear hcz31_1
            try clear hcz31_2
            try clear hcz31_3
            try clear hcz31_4
            try clear hfz10_0
            try clear hfz10_1
            try clear hfz10_2
            try clear hfz10_3
            try clear hfz10_4
            try clear hfz13_0
            try clear hfz13_1
            try clear hfz13_2
            try clear hfz13_3
            try clear hfz13_4
            try clear hfz16_0
            try clear hfz16_1
            try clear hfz16_2
            try clear hfz16_3
            try clear hfz16_4
            try clear hfz20_0
            try clear hfz20_1
            try clear hfz20_2
            try clear hfz20_3
            try clear hfz20_4
            try clear hfz21_0
            try clear hfz21_1
            try clear hfz21_2
            try clear hfz21_3
            try clear hfz21_4
            try clear hfz24_0
            try clear hfz24_1
            try clear hfz24_2
            try clear hfz24_3
            try clear hfz24_4
            try clear hfz25_0
            try clear hfz25_1
            try clear hfz25_2
            try clear hfz25_3
            try clear hfz25_4
            try clear hfz28_0
            try clear hfz28_1
            try clear hfz28_2
            try clear hfz28_3
            try clear hfz28_4
            try clear hfz31_0
            try clear hfz31_1
            try clear hfz31_2
            try clear hfz31_3
            try clear hfz31_4
            try clear p2
            obtain ⟨kq, x112001_25, HA, HJ25, BK111, BK112, HB⟩ := hcut
            cases kq with
            | zero => exact absurd HA.out (by simp [jackstayref06_Event.j1])
            | succ kj25 =>
              have H := HA.out
              clear HA
              simp only [jackstayref06_Event.j1] at H
              have HC32 := Aside0.mk H
              clear H
              go_upto_region 7 with (fail)
              go_cut [32] (fun v32 wc => ∃ (kq : Nat) (x32_31 : Bool), v32 = .bool x32_31 ∧ Aside0 (jackstayref06_Event.j2 kq a1 x32_31 a0_0 x112001_25 false a0_3 a0_4 = some (r1, r2, r3, r4, r5, r6)) ∧ Aside0 (kq ≤ kj25) ∧ Aside0 (wc.heap[gb111]? = some (.cells #[.int .i64 a0_0, .int .i64 x112001_25, .bool false, .int .i64 a0_3, .int .i64 a0_4] 23 (0, 0))) ∧ Aside0 (wc.heap[gb112]? = some (.cells #[.int .i64 0, .int .i64 0, .bool false, .int .i64 0, .int .i64 0] 23 (0, 0))) ∧ Aside0 (Below w.heap.size w wc))
              case first =>
                have H := HC32.out
                clear HC32
                by_cases c33 : a1 ≥ 2
                · rw [if_pos c33] at H
                  have c33b0 : decide (2 ≤ a1) = true := decide_eq_true c33
                  clear c33
                  (first | rw [c33b0] | (simp only [i64_w, i32_w]; rw [c33b0]) | skip)
                  have H' := Aside0.mk H
                  clear H
                  go_wp2
                  go_meet
                  case rel => exact ⟨_, (decide (a1 ≤ 4)), (by first | rfl | (simp; done) | (simp [*]; done)), H', ⟨by have := HJ2.out; have := HJ25.out; first | omega | exact Nat.le_refl _⟩, ⟨by (with_reducible repeat (first | refine blk_drewN ?_ _ | refine blk_drew ?_ | refine blk_alloc ?_ _)); exact BK111.out⟩, ⟨by (with_reducible repeat (first | refine blk_drewN ?_ _ | refine blk_drew ?_ | refine blk_alloc ?_ _)); exact BK112.out⟩, ⟨by repeat (first | (with_reducible first | exact HB.out | apply below_alloc | apply pw_below_drewN | apply below_drew1 | refine below_set ?_ GE111.out | refine below_set ?_ GE112.out) | exact HB.out)⟩⟩
                · rw [if_neg c33] at H
                  have c33b0 : decide (2 ≤ a1) = false := decide_eq_false c33
                  clear c33
                  (first | rw [c33b0] | (simp only [i64_w, i32_w]; rw [c33b0]) | skip)
                  have H' := Aside0.mk H
                  clear H
                  go_wp2
                  go_meet
                  case rel => exact ⟨_, (false), (by first | rfl | (simp; done) | (simp [*]; done)), H', ⟨by have := HJ2.out; have := HJ25.out; first | omega | exact Nat.le_refl _⟩, ⟨by (with_reducible repeat (first | refine blk_drewN ?_ _ | refine blk_drew ?_ | refine blk_alloc ?_ _)); exact BK111.out⟩, ⟨by (with_reducible repeat (first | refine blk_drewN ?_ _ | refine blk_drew ?_ | refine blk_alloc ?_ _)); exact BK112.out⟩, ⟨by repeat (first | (with_reducible first | exact HB.out | apply below_alloc | apply pw_below_drewN | apply below_drew1 | refine below_set ?_ GE111.out | refine below_set ?_ GE112.out) | exact HB.out)⟩⟩
              case rest =>
                clear HC32
                try clear c1
                try clear c2
                try clear p2
                try clear c3
                try clear p6
                try clear c7
                try clear c8
                try clear c8b0
                try clear c9
                try clear c11
                try clear c12
                try clear c13
                try clear c15
                try clear c18
                try clear c19
                try clear c22
                try clear c23
                try clear c27
                try clear c29
                try clear c29b0
                try clear c29b1
                try clear c30
                try clear c33
                try clear c33b0
                try clear hcz10_0
                try clear hcz10_1
                try clear hcz10_2
                try clear hcz10_3
                try clear hcz10_4
                try clear hcz13_0
                try clear hcz13_1
                try clear hcz13_2
                try clear hcz13_3
                try clear hcz13_4
                try clear hcz16_0
                try clear hcz16_1
                try clear hcz16_2
                try clear hcz16_3
                try clear hcz16_4
                try clear hcz20_0
                try clear hcz20_1
                try clear hcz20_2
                try clear hcz20_3
                try clear hcz20_4
                try clear hcz21_0
                try clear hcz21_1
                try clear hcz21_2
                try clear hcz21_3
                try clear hcz21_4
                try clear hcz24_0
                try clear hcz24_1
                try clear hcz24_2
                try clear hcz24_3
                try clear hcz24_4
                try clear hcz25_0
                try clear hcz25_1
                try clear hcz25_2
                try clear hcz25_3
                try clear hcz25_4
                try clear hcz28_0
                try clear hcz28_1
                try clear hcz28_2
                try clear hcz28_3
                try clear hcz28_4
                try clear hcz31_0
                try clear hcz31_1
                try clear hcz31_2
                try clear hcz31_3
                try clear hcz31_4
                try clear hfz10_0
                try clear hfz10_1
                try clear hfz10_2
                try clear hfz10_3
                try clear hfz10_4
                try clear hfz13_0
                try clear hfz13_1
                try clear hfz13_2
                try clear hfz13_3
                try clear hfz13_4
                try clear hfz16_0
                try clear hfz16_1
                try clear hfz16_2
                try clear hfz16_3
                try clear hfz16_4
                try clear hfz20_0
                try clear hfz20_1
                try clear hfz20_2
                try clear hfz20_3
                try clear hfz20_4
                try clear hfz21_0
                try clear hfz21_1
                try clear hfz21_2
                try clear hfz21_3
                try clear hfz21_4
                try clear hfz24_0
                try clear hfz24_1
                try clear hfz24_2
                try clear hfz24_3
                try clear hfz24_4
                try clear hfz25_0
                try clear hfz25_1
                try clear hfz25_2
                try clear hfz25_3
                try clear hfz25_4
                try clear hfz28_0
                try clear hfz28_1
                try clear hfz28_2
                try clear hfz28_3
                try clear hfz28_4
                try clear hfz31_0
                try clear hfz31_1
                try clear hfz31_2
                try clear hfz31_3
                try clear hfz31_4
                try clear p2
                try clear p6
                obtain ⟨kq, x32_31, rfl, HA, HJ31, BK111, BK112, HB⟩ := hcut
                cases kq with
                | zero => exact absurd HA.out (by simp [jackstayref06_Event.j2])
                | succ kj31 =>
                  have H := HA.out
                  clear HA
                  simp only [jackstayref06_Event.j2] at H
                  have HC34 := Aside0.mk H
                  clear H
                  go_upto_if 32 with (fail)
                  go_cut [] (fun wc => ∃ (kq : Nat) (x112001_33 : Int), Aside0 (jackstayref06_Event.j3 kq a1 a0_0 x112001_33 false a0_3 a0_4 = some (r1, r2, r3, r4, r5, r6)) ∧ Aside0 (kq ≤ kj31) ∧ Aside0 (wc.heap[gb111]? = some (.cells #[.int .i64 a0_0, .int .i64 x112001_33, .bool false, .int .i64 a0_3, .int .i64 a0_4] 23 (0, 0))) ∧ Aside0 (wc.heap[gb112]? = some (.cells #[.int .i64 0, .int .i64 0, .bool false, .int .i64 0, .int .i64 0] 23 (0, 0))) ∧ Aside0 (Below w.heap.size w wc))
                  case first =>
                    have H := HC34.out
                    clear HC34
                    by_cases c35 : x32_31 = true
                    · subst c35
                      have H1 : (jackstayref06_Event.j3 kj31 a1 a0_0 (wrap64 (x112001_25 + 8)) false a0_3 a0_4) = some (r1, r2, r3, r4, r5, r6) := by rw [if_pos rfl] at H; exact H
                      clear H
                      have H := H1
                      clear H1
                      have H' := Aside0.mk H
                      clear H
                      have hnb36 := NB111_112.out
                      have hnc36 := NB112_111.out
                      have hcz37_0 : wc.cell? ⟨gb111, 0, none⟩ = some (.int .i64 a0_0) := (blk_cell BK111.out 0).trans rfl
                      have hcz37_1 : wc.cell? ⟨gb111, 1, none⟩ = some (.int .i64 x112001_25) := (blk_cell BK111.out 1).trans rfl
                      have hcz37_2 : wc.cell? ⟨gb111, 2, none⟩ = some (.bool false) := (blk_cell BK111.out 2).trans rfl
                      have hcz37_3 : wc.cell? ⟨gb111, 3, none⟩ = some (.int .i64 a0_3) := (blk_cell BK111.out 3).trans rfl
                      have hcz37_4 : wc.cell? ⟨gb111, 4, none⟩ = some (.int .i64 a0_4) := (blk_cell BK111.out 4).trans rfl
                      have hfz37_0 := blk_frozen BK111.out 0
                      have hfz37_1 := blk_frozen BK111.out 1
                      have hfz37_2 := blk_frozen BK111.out 2
                      have hfz37_3 := blk_frozen BK111.out 3
                      have hfz37_4 := blk_frozen BK111.out 4
                      go_wp2
                      go_meet
                      case rel => exact ⟨_, (wrap64 (x112001_25 + 8)), H', ⟨by have := HJ2.out; have := HJ25.out; have := HJ31.out; first | omega | exact Nat.le_refl _⟩, ⟨by (with_reducible repeat (first | refine blk_drewN ?_ _ | refine blk_drew ?_ | refine blk_alloc ?_ _)); refine blk_put (cs := #[.int .i64 a0_0, .int .i64 x112001_25, .bool false, .int .i64 a0_3, .int .i64 a0_4]) ?_ 1 _ rfl; (with_reducible repeat (first | refine blk_drewN ?_ _ | refine blk_drew ?_ | refine blk_alloc ?_ _)); exact BK111.out⟩, ⟨by (with_reducible repeat (first | refine blk_drewN ?_ _ | refine blk_drew ?_ | refine blk_alloc ?_ _)); refine blk_far ?_ NB112_111.out _; (with_reducible repeat (first | refine blk_drewN ?_ _ | refine blk_drew ?_ | refine blk_alloc ?_ _)); exact BK112.out⟩, ⟨by repeat (first | (with_reducible first | exact HB.out | apply below_alloc | apply pw_below_drewN | apply below_drew1 | refine below_set ?_ GE111.out | refine below_set ?_ GE112.out) | exact HB.out)⟩⟩
                    · replace c35 := Bool.eq_false_iff.mpr c35
                      subst c35
                      have H1 : (jackstayref06_Event.j3 kj31 a1 a0_0 x112001_25 false a0_3 a0_4) = some (r1, r2, r3, r4, r5, r6) := by rw [if_neg (show ¬ (false = true) by decide)] at H; exact H
                      clear H
                      have H := H1
                      clear H1
                      have H' := Aside0.mk H
                      clear H
                      go_wp2
                      go_meet
                      case rel => exact ⟨_, (x112001_25), H', ⟨by have := HJ2.out; have := HJ25.out; have := HJ31.out; first | omega | exact Nat.le_refl _⟩, ⟨by (with_reducible repeat (first | refine blk_drewN ?_ _ | refine blk_drew ?_ | refine blk_alloc ?_ _)); exact BK111.out⟩, ⟨by (with_reducible repeat (first | refine blk_drewN ?_ _ | refine blk_drew ?_ | refine blk_alloc ?_ _)); exact BK112.out⟩, ⟨by repeat (first | (with_reducible first | exact HB.out | apply below_alloc | apply pw_below_drewN | apply below_drew1 | refine below_set ?_ GE111.out | refine below_set ?_ GE112.out) | exact HB.out)⟩⟩
                  case rest =>
                    clear HC34
                    try clear c1
                    try clear c2
                    try clear p2
                    try clear c3
                    try clear p6
                    try clear c7
                    try clear c8
                    try clear c8b0
                    try clear c9
                    try clear c11
                    try clear c12
                    try clear c13
                    try clear c15
                    try clear c18
                    try clear c19
                    try clear c22
                    try clear c23
                    try clear c27
                    try clear c29
                    try clear c29b0
                    try clear c29b1
                    try clear c30
                    try clear c33
                    try clear c33b0
                    try clear c35
                    try clear c36
                    try clear hcz10_0
                    try clear hcz10_1
                    try clear hcz10_2
                    try clear hcz10_3
                    try clear hcz10_4
                    try clear hcz13_0
                    try clear hcz13_1
                    try clear hcz13_2
                    try clear hcz13_3
                    try clear hcz13_4
                    try clear hcz16_0
                    try clear hcz16_1
                    try clear hcz16_2
                    try clear hcz16_3
                    try clear hcz16_4
                    try clear hcz20_0
                    try clear hcz20_1
                    try clear hcz20_2
                    try clear hcz20_3
                    try clear hcz20_4
                    try clear hcz21_0
                    try clear hcz21_1
                    try clear hcz21_2
                    try clear hcz21_3
                    try clear hcz21_4
                    try clear hcz24_0
                    try clear hcz24_1
                    try clear hcz24_2
                    try clear hcz24_3
                    try clear hcz24_4
                    try clear hcz25_0
                    try clear hcz25_1
                    try clear hcz25_2
                    try clear hcz25_3
                    try clear hcz25_4
                    try clear hcz28_0
                    try clear hcz28_1
                    try clear hcz28_2
                    try clear hcz28_3
                    try clear hcz28_4
                    try clear hcz31_0
                    try clear hcz31_1
                    try clear hcz31_2
                    try clear hcz31_3
                    try clear hcz31_4
                    try clear hcz37_0
                    try clear hcz37_1
                    try clear hcz37_2
                    try clear hcz37_3
                    try clear hcz37_4
                    try clear hfz10_0
                    try clear hfz10_1
                    try clear hfz10_2
                    try clear hfz10_3
                    try clear hfz10_4
                    try clear hfz13_0
                    try clear hfz13_1
                    try clear hfz13_2
                    try clear hfz13_3
                    try clear hfz13_4
                    try clear hfz16_0
                    try clear hfz16_1
                    try clear hfz16_2
                    try clear hfz16_3
                    try clear hfz16_4
                    try clear hfz20_0
                    try clear hfz20_1
                    try clear hfz20_2
                    try clear hfz20_3
                    try clear hfz20_4
                    try clear hfz21_0
                    try clear hfz21_1
                    try clear hfz21_2
                    try clear hfz21_3
                    try clear hfz21_4
                    try clear hfz24_0
                    try clear hfz24_1
                    try clear hfz24_2
                    try clear hfz24_3
                    try clear hfz24_4
                    try clear hfz25_0
                    try clear hfz25_1
                    try clear hfz25_2
                    try clear hfz25_3
                    try clear hfz25_4
                    try clear hfz28_0
                    try clear hfz28_1
                    try clear hfz28_2
                    try clear hfz28_3
                    try clear hfz28_4
                    try clear hfz31_0
                    try clear hfz31_1
                    try clear hfz31_2
                    try clear hfz31_3
                    try clear hfz31_4
                    try clear hfz37_0
                    try clear hfz37_1
                    try clear hfz37_2
                    try clear hfz37_3
                    try clear hfz37_4
                    try clear p2
                    try clear p6
                    obtain ⟨kq, x112001_33, HA, HJ33, BK111, BK112, HB⟩ := hcut
                    cases kq with
                    | zero => exact absurd HA.out (by simp [jackstayref06_Event.j3])
                    | succ kj33 =>
                      have H := HA.out
                      clear HA
                      simp only [jackstayref06_Event.j3] at H
                      have HC38 := Aside0.mk H
                      clear H
                      go_upto_region 9 with (fail)
                      go_cut [42] (fun v42 wc => ∃ (kq : Nat) (x42_37 : Bool), v42 = .bool x42_37 ∧ Aside0 (jackstayref06_Event.j4 kq a1 x42_37 a0_0 x112001_33 false a0_3 a0_4 = some (r1, r2, r3, r4, r5, r6)) ∧ Aside0 (kq ≤ kj33) ∧ Aside0 (wc.heap[gb111]? = some (.cells #[.int .i64 a0_0, .int .i64 x112001_33, .bool false, .int .i64 a0_3, .int .i64 a0_4] 23 (0, 0))) ∧ Aside0 (wc.heap[gb112]? = some (.cells #[.int .i64 0, .int .i64 0, .bool false, .int .i64 0, .int .i64 0] 23 (0, 0))) ∧ Aside0 (Below w.heap.size w wc))
                      case first =>
                        have H := HC38.out
                        clear HC38
                        by_cases c39 : a1 ≥ 5
                        · rw [if_pos c39] at H
                          have c39b0 : decide (5 ≤ a1) = true := decide_eq_true c39
                          clear c39
                          (first | rw [c39b0] | (simp only [i64_w, i32_w]; rw [c39b0]) | skip)
                          have H' := Aside0.mk H
                          clear H
                          go_wp2
                          go_meet
                          case rel => exact ⟨_, (decide (a1 ≤ 7)), (by first | rfl | (simp; done) | (simp [*]; done)), H', ⟨by have := HJ2.out; have := HJ25.out; have := HJ31.out; have := HJ33.out; first | omega | exact Nat.le_refl _⟩, ⟨by (with_reducible repeat (first | refine blk_drewN ?_ _ | refine blk_drew ?_ | refine blk_alloc ?_ _)); exact BK111.out⟩, ⟨by (with_reducible repeat (first | refine blk_drewN ?_ _ | refine blk_drew ?_ | refine blk_alloc ?_ _)); exact BK112.out⟩, ⟨by repeat (first | (with_reducible first | exact HB.out | apply below_alloc | apply pw_below_drewN | apply below_drew1 | refine below_set ?_ GE111.out | refine below_set ?_ GE112.out) | exact HB.out)⟩⟩
                        · rw [if_neg c39] at H
                          have c39b0 : decide (5 ≤ a1) = false := decide_eq_false c39
                          clear c39
                          (first | rw [c39b0] | (simp only [i64_w, i32_w]; rw [c39b0]) | skip)
                          have H' := Aside0.mk H
                          clear H
                          go_wp2
                          go_meet
                          case rel => exact ⟨_, (false), (by first | rfl | (simp; done) | (simp [*]; done)), H', ⟨by have := HJ2.out; have := HJ25.out; have := HJ31.out; have := HJ33.out; first | omega | exact Nat.le_refl _⟩, ⟨by (with_reducible repeat (first | refine blk_drewN ?_ _ | refine blk_drew ?_ | refine blk_alloc ?_ _)); exact BK111.out⟩, ⟨by (with_reducible repeat (first | refine blk_drewN ?_ _ | refine blk_drew ?_ | refine blk_alloc ?_ _)); exact BK112.out⟩, ⟨by repeat (first | (with_reducible first | exact HB.out | apply below_alloc | apply pw_below_drewN | apply below_drew1 | refine below_set ?_ GE111.out | refine below_set ?_ GE112.out) | exact HB.out)⟩⟩
                      case rest =>
                        clear HC38
                        try clear c1
                        try clear c2
                        try clear p2
                        try clear c3
                        try clear p6
                        try clear c7
                        try clear c8
                        try clear c8b0
                        try clear c9
                        try clear c11
                        try clear c12
                        try clear c13
                        try clear c15
                        try clear c18
                        try clear c19
                        try clear c22
                        try clear c23
                        try clear c27
                        try clear c29
                        try clear c29b0
                        try clear c29b1
                        try clear c30
                        try clear c33
                        try clear c33b0
                        try clear c35
                        try clear c36
                        try clear c39
                        try clear c39b0
                        try clear hcz10_0
                        try clear hcz10_1
                        try clear hcz10_2
                        try clear hcz10_3
                        try clear hcz10_4
                        try clear hcz13_0
                        try clear hcz13_1
                        try clear hcz13_2
                        try clear hcz13_3
                        try clear hcz13_4
                        try clear hcz16_0
                        try clear hcz16_1
                        try clear hcz16_2
                        try clear hcz16_3
                        try clear hcz16_4
                        try clear hcz20_0
                        try clear hcz20_1
                        try clear hcz20_2
                        try clear hcz20_3
                        try clear hcz20_4
                        try clear hcz21_0
                        try clear hcz21_1
                        try clear hcz21_2
                        try clear hcz21_3
                        try clear hcz21_4
                        try clear hcz24_0
                        try clear hcz24_1
                        try clear hcz24_2
                        try clear hcz24_3
                        try clear hcz24_4
                        try clear hcz25_0
                        try clear hcz25_1
                        try clear hcz25_2
                        try clear hcz25_3
                        try clear hcz25_4
                        try clear hcz28_0
                        try clear hcz28_1
                        try clear hcz28_2
                        try clear hcz28_3
                        try clear hcz28_4
                        try clear hcz31_0
                        try clear hcz31_1
                        try clear hcz31_2
                        try clear hcz31_3
                        try clear hcz31_4
                        try clear hcz37_0
                        try clear hcz37_1
                        try clear hcz37_2
                        try clear hcz37_3
                        try clear hcz37_4
                        try clear hfz10_0
                        try clear hfz10_1
                        try clear hfz10_2
                        try clear hfz10_3
                        try clear hfz10_4
                        try clear hfz13_0
                        try clear hfz13_1
                        try clear hfz13_2
                        try clear hfz13_3
                        try clear hfz13_4
                        try clear hfz16_0
                        try clear hfz16_1
                        try clear hfz16_2
                        try clear hfz16_3
                        try clear hfz16_4
                        try clear hfz20_0
                        try clear hfz20_1
                        try clear hfz20_2
                        try clear hfz20_3
                        try clear hfz20_4
                        try clear hfz21_0
                        try clear hfz21_1
                        try clear hfz21_2
                        try clear hfz21_3
                        try clear hfz21_4
                        try clear hfz24_0
                        try clear hfz24_1
                        try clear hfz24_2
                        try clear hfz24_3
                        try clear hfz24_4
                        try clear hfz25_0
                        try clear hfz25_1
                        try clear hfz25_2
                        try clear hfz25_3
                        try clear hfz25_4
                        try clear hfz28_0
                        try clear hfz28_1
                        try clear hfz28_2
                        try clear hfz28_3
                        try clear hfz28_4
                        try clear hfz31_0
                        try clear hfz31_1
                        try clear hfz31_2
                        try clear hfz31_3
                        try clear hfz31_4
                        try clear hfz37_0
                        try clear hfz37_1
                        try clear hfz37_2
                        try clear hfz37_3
                        try clear hfz37_4
                        try clear p2
                        try clear p6
                        obtain ⟨kq, x42_37, rfl, HA, HJ37, BK111, BK112, HB⟩ := hcut
                        cases kq with
                        | zero => exact absurd HA.out (by simp [jackstayref06_Event.j4])
                        | succ kj37 =>
                          have H := HA.out
                          clear HA
                          simp only [jackstayref06_Event.j4] at H
                          have HC40 := Aside0.mk H
                          clear H
                          go_upto_if 42 with (fail)
                          go_cut [] (fun wc => ∃ (kq : Nat) (x112000_39 : Int), Aside0 (jackstayref06_Event.j5 kq a1 x112000_39 x112001_33 false a0_3 a0_4 = some (r1, r2, r3, r4, r5, r6)) ∧ Aside0 (kq ≤ kj37) ∧ Aside0 (wc.heap[gb111]? = some (.cells #[.int .i64 x112000_39, .int .i64 x112001_33, .bool false, .int .i64 a0_3, .int .i64 a0_4] 23 (0, 0))) ∧ Aside0 (wc.heap[gb112]? = some (.cells #[.int .i64 0, .int .i64 0, .bool false, .int .i64 0, .int .i64 0] 23 (0, 0))) ∧ Aside0 (Below w.heap.size w wc))
                          case first =>
                            have H := HC40.out
                            clear HC40
                            by_cases c41 : x42_37 = true
                            · subst c41
                              have H1 : (jackstayref06_Event.j5 kj37 a1 (wrap64 (a0_0 + 8)) x112001_33 false a0_3 a0_4) = some (r1, r2, r3, r4, r5, r6) := by rw [if_pos rfl] at H; exact H
                              clear H
                              have H := H1
                              clear H1
                              have H' := Aside0.mk H
                              clear H
                              have hnb42 := NB111_112.out
                              have hnc42 := NB112_111.out
                              have hcz43_0 : wc.cell? ⟨gb111, 0, none⟩ = some (.int .i64 a0_0) := (blk_cell BK111.out 0).trans rfl
                              have hcz43_1 : wc.cell? ⟨gb111, 1, none⟩ = some (.int .i64 x112001_33) := (blk_cell BK111.out 1).trans rfl
                              have hcz43_2 : wc.cell? ⟨gb111, 2, none⟩ = some (.bool false) := (blk_cell BK111.out 2).trans rfl
                              have hcz43_3 : wc.cell? ⟨gb111, 3, none⟩ = some (.int .i64 a0_3) := (blk_cell BK111.out 3).trans rfl
                              have hcz43_4 : wc.cell? ⟨gb111, 4, none⟩ = some (.int .i64 a0_4) := (blk_cell BK111.out 4).trans rfl
                              have hfz43_0 := blk_frozen BK111.out 0
                              have hfz43_1 := blk_frozen BK111.out 1
                              have hfz43_2 := blk_frozen BK111.out 2
                              have hfz43_3 := blk_frozen BK111.out 3
                              have hfz43_4 := blk_frozen BK111.out 4
                              go_wp2
                              go_meet
                              case rel => exact ⟨_, (wrap64 (a0_0 + 8)), H', ⟨by have := HJ2.out; have := HJ25.out; have := HJ31.out; have := HJ33.out; have := HJ37.out; first | omega | exact Nat.le_refl _⟩, ⟨by (with_reducible repeat (first | refine blk_drewN ?_ _ | refine blk_drew ?_ | refine blk_alloc ?_ _)); refine blk_put (cs := #[.int .i64 a0_0, .int .i64 x112001_33, .bool false, .int .i64 a0_3, .int .i64 a0_4]) ?_ 0 _ rfl; (with_reducible repeat (first | refine blk_drewN ?_ _ | refine blk_drew ?_ | refine blk_alloc ?_ _)); exact BK111.out⟩, ⟨by (with_reducible repeat (first | refine blk_drewN ?_ _ | refine blk_drew ?_ | refine blk_alloc ?_ _)); refine blk_far ?_ NB112_111.out _; (with_reducible repeat (first | refine blk_drewN ?_ _ | refine blk_drew ?_ | refine blk_alloc ?_ _)); exact BK112.out⟩, ⟨by repeat (first | (with_reducible first | exact HB.out | apply below_alloc | apply pw_below_drewN | apply below_drew1 | refine below_set ?_ GE111.out | refine below_set ?_ GE112.out) | exact HB.out)⟩⟩
                            · replace c41 := Bool.eq_false_iff.mpr c41
                              subst c41
                              have H1 : (jackstayref06_Event.j5 kj37 a1 a0_0 x112001_33 false a0_3 a0_4) = some (r1, r2, r3, r4, r5, r6) := by rw [if_neg (show ¬ (false = true) by decide)] at H; exact H
                              clear H
                              have H := H1
                              clear H1
                              have H' := Aside0.mk H
                              clear H
                              go_wp2
                              go_meet
                              case rel => exact ⟨_, (a0_0), H', ⟨by have := HJ2.out; have := HJ25.out; have := HJ31.out; have := HJ33.out; have := HJ37.out; first | omega | exact Nat.le_refl _⟩, ⟨by (with_reducible repeat (first | refine blk_drewN ?_ _ | refine blk_drew ?_ | refine blk_alloc ?_ _)); exact BK111.out⟩, ⟨by (with_reducible repeat (first | refine blk_drewN ?_ _ | refine blk_drew ?_ | refine blk_alloc ?_ _)); exact BK112.out⟩, ⟨by repeat (first | (with_reducible first | exact HB.out | apply below_alloc | apply pw_below_drewN | apply below_drew1 | refine below_set ?_ GE111.out | refine below_set ?_ GE112.out) | exact HB.out)⟩⟩
                          case rest =>
                            clear HC40
                            try clear c1
                            try clear c2
                            try clear p2
                            try clear c3
                            try clear c4
                            try clear p6
                            try clear c7
                            try clear c8
                            try clear c8b0
                            try clear c9
                            try clear c11
                            try clear c12
                            try clear c13
                            try clear c15
                            try clear c18
                            try clear c19
                            try clear c22
                            try clear c23
                            try clear c27
                            try clear c29
                            try clear c29b0
                            try clear c29b1
                            try clear c30
                            try clear c33
                            try clear c33b0
                            try clear c35
                            try clear c36
                            try clear c39
                            try clear c39b0
                            try clear c41
                            try clear c42
                            try clear hcz10_0
                            try clear hcz10_1
                            try clear hcz10_2
                            try clear hcz10_3
                            try clear hcz10_4
                            try clear hcz13_0
                            try clear hcz13_1
                            try clear hcz13_2
                            try clear hcz13_3
                            try clear hcz13_4
                            try clear hcz16_0
                            try clear hcz16_1
                            try clear hcz16_2
                            try clear hcz16_3
                            try clear hcz16_4
                            try clear hcz20_0
                            try clear hcz20_1
                            try clear hcz20_2
                            try clear hcz20_3
                            try clear hcz20_4
                            try clear hcz21_0
                            try clear hcz21_1
                            try clear hcz21_2
                            try clear hcz21_3
                            try clear hcz21_4
                            try clear hcz24_0
                            try clear hcz24_1
                            try clear hcz24_2
                            try clear hcz24_3
                            try clear hcz24_4
                            try clear hcz25_0
                            try clear hcz25_1
                            try clear hcz25_2
                            try clear hcz25_3
                            try clear hcz25_4
                            try clear hcz28_0
                            try clear hcz28_1
                            try clear hcz28_2
                            try clear hcz28_3
                            try clear hcz28_4
                            try clear hcz31_0
                            try clear hcz31_1
                            try clear hcz31_2
                            try clear hcz31_3
                            try clear hcz31_4
                            try clear hcz37_0
                            try clear hcz37_1
                            try clear hcz37_2
                            try clear hcz37_3
                            try clear hcz37_4
                            try clear hcz43_0
                            try clear hcz43_1
                            try clear hcz43_2
                            try clear hcz43_3
                            try clear hcz43_4
                            try clear hfz10_0
                            try clear hfz10_1
                            try clear hfz10_2
                            try clear hfz10_3
                            try clear hfz10_4
                            try clear hfz13_0
                            try clear hfz13_1
                            try clear hfz13_2
                            try clear hfz13_3
                            try clear hfz13_4
                            try clear hfz16_0
                            try clear hfz16_1
                            try clear hfz16_2
                            try clear hfz16_3
                            try clear hfz16_4
                            try clear hfz20_0
                            try clear hfz20_1
                            try clear hfz20_2
                            try clear hfz20_3
                            try clear hfz20_4
                            try clear hfz21_0
                            try clear hfz21_1
                            try clear hfz21_2
                            try clear hfz21_3
                            try clear hfz21_4
                            try clear hfz24_0
                            try clear hfz24_1
                            try clear hfz24_2
                            try clear hfz24_3
                            try clear hfz24_4
                            try clear hfz25_0
                            try clear hfz25_1
                            try clear hfz25_2
                            try clear hfz25_3
                            try clear hfz25_4
                            try clear hfz28_0
                            try clear hfz28_1
                            try clear hfz28_2
                            try clear hfz28_3
                            try clear hfz28_4
                            try clear hfz31_0
                            try clear hfz31_1
                            try clear hfz31_2
                            try clear hfz31_3
                            try clear hfz31_4
                            try clear hfz37_0
                            try clear hfz37_1
                            try clear hfz37_2
                            try clear hfz37_3
                            try clear hfz37_4
                            try clear hfz43_0
                            try clear hfz43_1
                            try clear hfz43_2
                            try clear hfz43_3
                            try clear hfz43_4
                            try clear p2
                            try clear p6
                            obtain ⟨kq, x112000_39, HA, HJ39, BK111, BK112, HB⟩ := hcut
                            cases kq with
                            | zero => exact absurd HA.out (by simp [jackstayref06_Event.j5])
                            | succ kj39 =>
                              have H := HA.out
                              clear HA
                              simp only [jackstayref06_Event.j5] at H
                              have HC44 := Aside0.mk H
                              clear H
                              go_upto_region 11 with (fail)
                              go_cut [53] (fun v53 wc => ∃ (kq : Nat) (x53_43 : Bool), v53 = .bool x53_43 ∧ Aside0 (jackstayref06_Event.j6 kq a1 x53_43 x112000_39 x112001_33 false a0_3 a0_4 = some (r1, r2, r3, r4, r5, r6)) ∧ Aside0 (kq ≤ kj39) ∧ Aside0 (wc.heap[gb111]? = some (.cells #[.int .i64 x112000_39, .int .i64 x112001_33, .bool false, .int .i64 a0_3, .int .i64 a0_4] 23 (0, 0))) ∧ Aside0 (wc.heap[gb112]? = some (.cells #[.int .i64 0, .int .i64 0, .bool false, .int .i64 0, .int .i64 0] 23 (0, 0))) ∧ Aside0 (Below w.heap.size w wc))
                              case first =>
                                have H := HC44.out
                                clear HC44
                                by_cases c45 : a1 = 8
                                · rw [if_pos c45] at H
                                  have c45b0 : (a1 == 8) = true := beq_iff_eq.mpr c45
                                  have c45b1 : (a1 != 8) = false := bne_eq_false_iff_eq.mpr c45
                                  clear c45
                                  (first | rw [c45b0] | (simp only [i64_w, i32_w]; rw [c45b0]) | skip)
                                  have H' := Aside0.mk H
                                  clear H
                                  have hnb46 := NB111_112.out
                                  have hnc46 := NB112_111.out
                                  have hcz47_0 : wc.cell? ⟨gb111, 0, none⟩ = some (.int .i64 x112000_39) := (blk_cell BK111.out 0).trans rfl
                                  have hcz47_1 : wc.cell? ⟨gb111, 1, none⟩ = some (.int .i64 x112001_33) := (blk_cell BK111.out 1).trans rfl
                                  have hcz47_2 : wc.cell? ⟨gb111, 2, none⟩ = some (.bool false) := (blk_cell BK111.out 2).trans rfl
                                  have hcz47_3 : wc.cell? ⟨gb111, 3, none⟩ = some (.int .i64 a0_3) := (blk_cell BK111.out 3).trans rfl
                                  have hcz47_4 : wc.cell? ⟨gb111, 4, none⟩ = some (.int .i64 a0_4) := (blk_cell BK111.out 4).trans rfl
                                  have hfz47_0 := blk_frozen BK111.out 0
                                  have hfz47_1 := blk_frozen BK111.out 1
                                  have hfz47_2 := blk_frozen BK111.out 2
                                  have hfz47_3 := blk_frozen BK111.out 3
                                  have hfz47_4 := blk_frozen BK111.out 4
                                  go_wp2
                                  go_meet
                                  case rel => exact ⟨_, (decide (x112000_39 > 0)), (by first | rfl | (simp; done) | (simp [*]; done)), H', ⟨by have := HJ2.out; have := HJ25.out; have := HJ31.out; have := HJ33.out; have := HJ37.out; have := HJ39.out; first | omega | exact Nat.le_refl _⟩, ⟨by (with_reducible repeat (first | refine blk_drewN ?_ _ | refine blk_drew ?_ | refine blk_alloc ?_ _)); exact BK111.out⟩, ⟨by (with_reducible repeat (first | refine blk_drewN ?_ _ | refine blk_drew ?_ | refine blk_alloc ?_ _)); exact BK112.out⟩, ⟨by repeat (first | (with_reducible first | exact HB.out | apply below_alloc | apply pw_below_drewN | apply below_drew1 | refine below_set ?_ GE111.out | refine below_set ?_ GE112.out) | exact HB.out)⟩⟩
                                · rw [if_neg c45] at H
                                  have c45b0 : (a1 == 8) = false := beq_eq_false_iff_ne.mpr c45
                                  have c45b1 : (a1 != 8) = true := bne_iff_ne.mpr c45
                                  (first | rw [c45b0] | (simp only [i64_w, i32_w]; rw [c45b0]) | skip)
                                  have H' := Aside0.mk H
                                  clear H
                                  go_wp2
                                  go_meet
                                  case rel => exact ⟨_, (false), (by first | rfl | (simp; done) | (simp [*]; done)), H', ⟨by have := HJ2.out; have := HJ25.out; have := HJ31.out; have := HJ33.out; have := HJ37.out; have := HJ39.out; first | omega | exact Nat.le_refl _⟩, ⟨by (with_reducible repeat (first | refine blk_drewN ?_ _ | refine blk_drew ?_ | refine blk_alloc ?_ _)); exact BK111.out⟩, ⟨by (with_reducible repeat (first | refine blk_drewN ?_ _ | refine blk_drew ?_ | refine blk_alloc ?_ _)); exact BK112.out⟩, ⟨by repeat (first | (with_reducible first | exact HB.out | apply below_alloc | apply pw_below_drewN | apply below_drew1 | refine below_set ?_ GE111.out | refine below_set ?_ GE112.out) | exact HB.out)⟩⟩
                              case rest =>
                                clear HC44
                                try clear c1
                                try clear c2
                                try clear p2
                                try clear c3
                                try clear c4
                                try clear p6
                                try clear c7
                                try clear c8
                                try clear c8b0
                                try clear c9
                                try clear c11
                                try clear c12
                                try clear c13
                                try clear c15
                                try clear c18
                                try clear c19
                                try clear c22
                                try clear c23
                                try clear c27
                                try clear c29
                                try clear c29b0
                                try clear c29b1
                                try clear c30
                                try clear c33
                                try clear c33b0
                                try clear c35
                                try clear c36
                                try clear c39
                                try clear c39b0
                                try clear c41
                                try clear c42
                                try clear c45
                                try clear c45b0
                                try clear c45b1
                                try clear c46
                                try clear hcz10_0
                                try clear hcz10_1
                                try clear hcz10_2
                                try clear hcz10_3
                                try clear hcz10_4
                                try clear hcz13_0
                                try clear hcz13_1
                                try clear hcz13_2
                                try clear hcz13_3
                                try clear hcz13_4
                                try clear hcz16_0
                                try clear hcz16_1
                                try clear hcz16_2
                                try clear hcz16_3
                                try clear hcz16_4
                                try clear hcz20_0
                                try clear hcz20_1
                                try clear hcz20_2
                                try clear hcz20_3
                                try clear hcz20_4
                                try clear hcz21_0
                                try clear hcz21_1
                                try clear hcz21_2
                                try clear hcz21_3
                                try clear hcz21_4
                                try clear hcz24_0
                                try clear hcz24_1
                                try clear hcz24_2
                                try clear hcz24_3
                                try clear hcz24_4
                                try clear hcz25_0
                                try clear hcz25_1
                                try clear hcz25_2
                                try clear hcz25_3
                                try clear hcz25_4
                                try clear hcz28_0
                                try clear hcz28_1
                                try clear hcz28_2
                                try clear hcz28_3
                                try clear hcz28_4
                                try clear hcz31_0
                                try clear hcz31_1
                                try clear hcz31_2
                                try clear hcz31_3
                                try clear hcz31_4
                                try clear hcz37_0
                                try clear hcz37_1
                                try clear hcz37_2
                                try clear hcz37_3
                                try clear hcz37_4
                                try clear hcz43_0
                                try clear hcz43_1
                                try clear hcz43_2
                                try clear hcz43_3
                                try clear hcz43_4
                                try clear hcz47_0
                                try clear hcz47_1
                                try clear hcz47_2
                                try clear hcz47_3
                                try clear hcz47_4
                                try clear hfz10_0
                                try clear hfz10_1
                                try clear hfz10_2
                                try clear hfz10_3
                                try clear hfz10_4
                                try clear hfz13_0
                                try clear hfz13_1
                                try clear hfz13_2
                                try clear hfz13_3
                                try clear hfz13_4
                                try clear hfz16_0
                                try clear hfz16_1
                                try clear hfz16_2
                                try clear hfz16_3
                                try clear hfz16_4
                                try clear hfz20_0
                                try clear hfz20_1
                                try clear hfz20_2
                                try clear hfz20_3
                                try clear hfz20_4
                                try clear hfz21_0
                                try clear hfz21_1
                                try clear hfz21_2
                                try clear hfz21_3
                                try clear hfz21_4
                                try clear hfz24_0
                                try clear hfz24_1
                                try clear hfz24_2
                                try clear hfz24_3
                                try clear hfz24_4
                                try clear hfz25_0
                                try clear hfz25_1
                                try clear hfz25_2
                                try clear hfz25_3
                                try clear hfz25_4
                                try clear hfz28_0
                                try clear hfz28_1
                                try clear hfz28_2
                                try clear hfz28_3
                                try clear hfz28_4
                                try clear hfz31_0
                                try clear hfz31_1
                                try clear hfz31_2
                                try clear hfz31_3
                                try clear hfz31_4
                                try clear hfz37_0
                                try clear hfz37_1
                                try clear hfz37_2
                                try clear hfz37_3
                                try clear hfz37_4
                                try clear hfz43_0
                                try clear hfz43_1
                                try clear hfz43_2
                                try clear hfz43_3
                                try clear hfz43_4
                                try clear hfz47_0
                                try clear hfz47_1
                                try clear hfz47_2
                                try clear hfz47_3
                                try clear hfz47_4
                                try clear p2
                                try clear p6
                                obtain ⟨kq, x53_43, rfl, HA, HJ43, BK111, BK112, HB⟩ := hcut
                                cases kq with
                                | zero => exact absurd HA.out (by simp [jackstayref06_Event.j6])
                                | succ kj43 =>
                                  have H := HA.out
                                  clear HA
                                  simp only [jackstayref06_Event.j6] at H
                                  have HC48 := Aside0.mk H
                                  clear H
                                  go_upto_if 53 with (fail)
                                  go_cut [] (fun wc => ∃ (kq : Nat) (x112000_47 : Int), Aside0 (jackstayref06_Event.j7 kq a1 x112000_47 x112001_33 false a0_3 a0_4 = some (r1, r2, r3, r4, r5, r6)) ∧ Aside0 (kq ≤ kj43) ∧ Aside0 (wc.heap[gb111]? = some (.cells #[.int .i64 x112000_47, .int .i64 x112001_33, .bool false, .int .i64 a0_3, .int .i64 a0_4] 23 (0, 0))) ∧ Aside0 (wc.heap[gb112]? = some (.cells #[.int .i64 0, .int .i64 0, .bool false, .int .i64 0, .int .i64 0] 23 (0, 0))) ∧ Aside0 (Below w.heap.size w wc))
                                  case first =>
                                    have H := HC48.out
                                    clear HC48
                                    by_cases c49 : x53_43 = true
                                    · subst c49
                                      have H1 : (jackstayref06_Event.j7 kj43 a1 (wrap64 (x112000_39 - 1)) x112001_33 false a0_3 a0_4) = some (r1, r2, r3, r4, r5, r6) := by rw [if_pos rfl] at H; exact H
                                      clear H
                                      have H := H1
                                      clear H1
                                      have H' := Aside0.mk H
                                      clear H
                                      have hnb50 := NB111_112.out
                                      have hnc50 := NB112_111.out
                                      have hcz51_0 : wc.cell? ⟨gb111, 0, none⟩ = some (.int .i64 x112000_39) := (blk_cell BK111.out 0).trans rfl
                                      have hcz51_1 : wc.cell? ⟨gb111, 1, none⟩ = some (.int .i64 x112001_33) := (blk_cell BK111.out 1).trans rfl
                                      have hcz51_2 : wc.cell? ⟨gb111, 2, none⟩ = some (.bool false) := (blk_cell BK111.out 2).trans rfl
                                      have hcz51_3 : wc.cell? ⟨gb111, 3, none⟩ = some (.int .i64 a0_3) := (blk_cell BK111.out 3).trans rfl
                                      have hcz51_4 : wc.cell? ⟨gb111, 4, none⟩ = some (.int .i64 a0_4) := (blk_cell BK111.out 4).trans rfl
                                      have hfz51_0 := blk_frozen BK111.out 0
                                      have hfz51_1 := blk_frozen BK111.out 1
                                      have hfz51_2 := blk_frozen BK111.out 2
                                      have hfz51_3 := blk_frozen BK111.out 3
                                      have hfz51_4 := blk_frozen BK111.out 4
                                      go_wp2
                                      go_meet
                                      case rel => exact ⟨_, (wrap64 (x112000_39 - 1)), H', ⟨by have := HJ2.out; have := HJ25.out; have := HJ31.out; have := HJ33.out; have := HJ37.out; have := HJ39.out; have := HJ43.out; first | omega | exact Nat.le_refl _⟩, ⟨by (with_reducible repeat (first | refine blk_drewN ?_ _ | refine blk_drew ?_ | refine blk_alloc ?_ _)); refine blk_put (cs := #[.int .i64 x112000_39, .int .i64 x112001_33, .bool false, .int .i64 a0_3, .int .i64 a0_4]) ?_ 0 _ rfl; (with_reducible repeat (first | refine blk_drewN ?_ _ | refine blk_drew ?_ | refine blk_alloc ?_ _)); exact BK111.out⟩, ⟨by (with_reducible repeat (first | refine blk_drewN ?_ _ | refine blk_drew ?_ | refine blk_alloc ?_ _)); refine blk_far ?_ NB112_111.out _; (with_reducible repeat (first | refine blk_drewN ?_ _ | refine blk_drew ?_ | refine blk_alloc ?_ _)); exact BK112.out⟩, ⟨by repeat (first | (with_reducible first | exact HB.out | apply below_alloc | apply pw_below_drewN | apply below_drew1 | refine below_set ?_ GE111.out | refine below_set ?_ GE112.out) | exact HB.out)⟩⟩
                                    · replace c49 := Bool.eq_false_iff.mpr c49
                                      subst c49
                                      have H1 : (jackstayref06_Event.j7 kj43 a1 x112000_39 x112001_33 false a0_3 a0_4) = some (r1, r2, r3, r4, r5, r6) := by rw [if_neg (show ¬ (false = true) by decide)] at H; exact H
                                      clear H
                                      have H := H1
                                      clear H1
                                      have H' := Aside0.mk H
                                      clear H
                                      go_wp2
                                      go_meet
                                      case rel => exact ⟨_, (x112000_39), H', ⟨by have := HJ2.out; have := HJ25.out; have := HJ31.out; have := HJ33.out; have := HJ37.out; have := HJ39.out; have := HJ43.out; first | omega | exact Nat.le_refl _⟩, ⟨by (with_reducible repeat (first | refine blk_drewN ?_ _ | refine blk_drew ?_ | refine blk_alloc ?_ _)); exact BK111.out⟩, ⟨by (with_reducible repeat (first | refine blk_drewN ?_ _ | refine blk_drew ?_ | refine blk_alloc ?_ _)); exact BK112.out⟩, ⟨by repeat (first | (with_reducible first | exact HB.out | apply below_alloc | apply pw_below_drewN | apply below_drew1 | refine below_set ?_ GE111.out | refine below_set ?_ GE112.out) | exact HB.out)⟩⟩
                                  case rest =>
                                    clear HC48
                                    try clear c1
                                    try clear c2
                                    try clear p2
                                    try clear c3
                                    try clear c4
                                    try clear c5
                                    try clear p6
                                    try clear c7
                                    try clear c8
                                    try clear c8b0
                                    try clear c9
                                    try clear c11
                                    try clear c12
                                    try clear c13
                                    try clear c15
                                    try clear c18
                                    try clear c19
                                    try clear c22
                                    try clear c23
                                    try clear c27
                                    try clear c29
                                    try clear c29b0
                                    try clear c29b1
                                    try clear c30
                                    try clear c33
                                    try clear c33b0
                                    try clear c35
                                    try clear c36
                                    try clear c39
                                    try clear c39b0
                                    try clear c41
                                    try clear c42
                                    try clear c45
                                    try clear c45b0
                                    try clear c45b1
                                    try clear c46
                                    try clear c49
                                    try clear c50
                                    try clear hcz10_0
                                    try clear hcz10_1
                                    try clear hcz10_2
                                    try clear hcz10_3
                                    try clear hcz10_4
                                    try clear hcz13_0
                                    try clear hcz13_1
                                    try clear hcz13_2
                                    try clear hcz13_3
                                    try clear hcz13_4
                                    try clear hcz16_0
                                    try clear hcz16_1
                                    try clear hcz16_2
                                    try clear hcz16_3
                                    try clear hcz16_4
                                    try clear hcz20_0
                                    try clear hcz20_1
                                    try clear hcz20_2
                                    try clear hcz20_3
                                    try clear hcz20_4
                                    try clear hcz21_0
                                    try clear hcz21_1
                                    try clear hcz21_2
                                    try clear hcz21_3
                                    try clear hcz21_4
                                    try clear hcz24_0
                                    try clear hcz24_1
                                    try clear hcz24_2
                                    try clear hcz24_3
                                    try clear hcz24_4
                                    try clear hcz25_0
                                    try clear hcz25_1
                                    try clear hcz25_2
                                    try clear hcz25_3
                                    try clear hcz25_4
                                    try clear hcz28_0
                                    try clear hcz28_1
                                    try clear hcz28_2
                                    try clear hcz28_3
                                    try clear hcz28_4
                                    try clear hcz31_0
                                    try clear hcz31_1
                                    try clear hcz31_2
                                    try clear hcz31_3
                                    try clear hcz31_4
                                    try clear hcz37_0
                                    try clear hcz37_1
                                    try clear hcz37_2
                                    try clear hcz37_3
                                    try clear hcz37_4
                                    try clear hcz43_0
                                    try clear hcz43_1
                                    try clear hcz43_2
                                    try clear hcz43_3
                                    try clear hcz43_4
                                    try clear hcz47_0
                                    try clear hcz47_1
                                    try clear hcz47_2
                                    try clear hcz47_3
                                    try clear hcz47_4
                                    try clear hcz51_0
                                    try clear hcz51_1
                                    try clear hcz51_2
                                    try clear hcz51_3
                                    try clear hcz51_4
                                    try clear hfz10_0
                                    try clear hfz10_1
                                    try clear hfz10_2
                                    try clear hfz10_3
                                    try clear hfz10_4
                                    try clear hfz13_0
                                    try clear hfz13_1
                                    try clear hfz13_2
                                    try clear hfz13_3
                                    try clear hfz13_4
                                    try clear hfz16_0
                                    try clear hfz16_1
                                    try clear hfz16_2
                                    try clear hfz16_3
                                    try clear hfz16_4
                                    try clear hfz20_0
                                    try clear hfz20_1
                                    try clear hfz20_2
                                    try clear hfz20_3
                                    try clear hfz20_4
                                    try clear hfz21_0
                                    try clear hfz21_1
                                    try clear hfz21_2
                                    try clear hfz21_3
                                    try clear hfz21_4
                                    try clear hfz24_0
                                    try clear hfz24_1
                                    try clear hfz24_2
                                    try clear hfz24_3
                                    try clear hfz24_4
                                    try clear hfz25_0
                                    try clear hfz25_1
                                    try clear hfz25_2
                                    try clear hfz25_3
                                    try clear hfz25_4
                                    try clear hfz28_0
                                    try clear hfz28_1
                                    try clear hfz28_2
                                    try clear hfz28_3
                                    try clear hfz28_4
                                    try clear hfz31_0
                                    try clear hfz31_1
                                    try clear hfz31_2
                                    try clear hfz31_3
                                    try clear hfz31_4
                                    try clear hfz37_0
                                    try clear hfz37_1
                                    try clear hfz37_2
                                    try clear hfz37_3
                                    try clear hfz37_4
                                    try clear hfz43_0
                                    try clear hfz43_1
                                    try clear hfz43_2
                                    try clear hfz43_3
                                    try clear hfz43_4
                                    try clear hfz47_0
                                    try clear hfz47_1
                                    try clear hfz47_2
                                    try clear hfz47_3
                                    try clear hfz47_4
                                    try clear hfz51_0
                                    try clear hfz51_1
                                    try clear hfz51_2
                                    try clear hfz51_3
                                    try clear hfz51_4
                                    try clear p2
                                    try clear p6
                                    obtain ⟨kq, x112000_47, HA, HJ47, BK111, BK112, HB⟩ := hcut
                                    cases kq with
                                    | zero => exact absurd HA.out (by simp [jackstayref06_Event.j7])
                                    | succ kj47 =>
                                      have H := HA.out
                                      clear HA
                                      simp only [jackstayref06_Event.j7] at H
                                      have HC52 := Aside0.mk H
                                      clear H
                                      go_upto_region 13 with (fail)
                                      go_cut [64] (fun v64 wc => ∃ (kq : Nat) (x64_51 : Bool), v64 = .bool x64_51 ∧ Aside0 (jackstayref06_Event.j8 kq a1 x64_51 x112000_47 x112001_33 false a0_3 a0_4 = some (r1, r2, r3, r4, r5, r6)) ∧ Aside0 (kq ≤ kj47) ∧ Aside0 (wc.heap[gb111]? = some (.cells #[.int .i64 x112000_47, .int .i64 x112001_33, .bool false, .int .i64 a0_3, .int .i64 a0_4] 23 (0, 0))) ∧ Aside0 (wc.heap[gb112]? = some (.cells #[.int .i64 0, .int .i64 0, .bool false, .int .i64 0, .int .i64 0] 23 (0, 0))) ∧ Aside0 (Below w.heap.size w wc))
                                      case first =>
                                        have H := HC52.out
                                        clear HC52
                                        by_cases c53 : a1 = 9
                                        · rw [if_pos c53] at H
                                          have c53b0 : (a1 == 9) = true := beq_iff_eq.mpr c53
                                          have c53b1 : (a1 != 9) = false := bne_eq_false_iff_eq.mpr c53
                                          clear c53
                                          (first | rw [c53b0] | (simp only [i64_w, i32_w]; rw [c53b0]) | skip)
                                          have H' := Aside0.mk H
                                          clear H
                                          have hnb54 := NB111_112.out
                                          have hnc54 := NB112_111.out
                                          have hcz55_0 : wc.cell? ⟨gb111, 0, none⟩ = some (.int .i64 x112000_47) := (blk_cell BK111.out 0).trans rfl
                                          have hcz55_1 : wc.cell? ⟨gb111, 1, none⟩ = some (.int .i64 x112001_33) := (blk_cell BK111.out 1).trans rfl
                                          have hcz55_2 : wc.cell? ⟨gb111, 2, none⟩ = some (.bool false) := (blk_cell BK111.out 2).trans rfl
                                          have hcz55_3 : wc.cell? ⟨gb111, 3, none⟩ = some (.int .i64 a0_3) := (blk_cell BK111.out 3).trans rfl
                                          have hcz55_4 : wc.cell? ⟨gb111, 4, none⟩ = some (.int .i64 a0_4) := (blk_cell BK111.out 4).trans rfl
                                          have hfz55_0 := blk_frozen BK111.out 0
                                          have hfz55_1 := blk_frozen BK111.out 1
                                          have hfz55_2 := blk_frozen BK111.out 2
                                          have hfz55_3 := blk_frozen BK111.out 3
                                          have hfz55_4 := blk_frozen BK111.out 4
                                          go_wp2
                                          go_meet
                                          case rel => exact ⟨_, (decide (x112001_33 > 127)), (by first | rfl | (simp; done) | (simp [*]; done)), H', ⟨by have := HJ2.out; have := HJ25.out; have := HJ31.out; have := HJ33.out; have := HJ37.out; have := HJ39.out; have := HJ43.out; have := HJ47.out; first | omega | exact Nat.le_refl _⟩, ⟨by (with_reducible repeat (first | refine blk_drewN ?_ _ | refine blk_drew ?_ | refine blk_alloc ?_ _)); exact BK111.out⟩, ⟨by (with_reducible repeat (first | refine blk_drewN ?_ _ | refine blk_drew ?_ | refine blk_alloc ?_ _)); exact BK112.out⟩, ⟨by repeat (first | (with_reducible first | exact HB.out | apply below_alloc | apply pw_below_drewN | apply below_drew1 | refine below_set ?_ GE111.out | refine below_set ?_ GE112.out) | exact HB.out)⟩⟩
                                        · rw [if_neg c53] at H
                                          have c53b0 : (a1 == 9) = false := beq_eq_false_iff_ne.mpr c53
                                          have c53b1 : (a1 != 9) = true := bne_iff_ne.mpr c53
                                          (first | rw [c53b0] | (simp only [i64_w, i32_w]; rw [c53b0]) | skip)
                                          have H' := Aside0.mk H
                                          clear H
                                          go_wp2
                                          go_meet
                                          case rel => exact ⟨_, (false), (by first | rfl | (simp; done) | (simp [*]; done)), H', ⟨by have := HJ2.out; have := HJ25.out; have := HJ31.out; have := HJ33.out; have := HJ37.out; have := HJ39.out; have := HJ43.out; have := HJ47.out; first | omega | exact Nat.le_refl _⟩, ⟨by (with_reducible repeat (first | refine blk_drewN ?_ _ | refine blk_drew ?_ | refine blk_alloc ?_ _)); exact BK111.out⟩, ⟨by (with_reducible repeat (first | refine blk_drewN ?_ _ | refine blk_drew ?_ | refine blk_alloc ?_ _)); exact BK112.out⟩, ⟨by repeat (first | (with_reducible first | exact HB.out | apply below_alloc | apply pw_below_drewN | apply below_drew1 | refine below_set ?_ GE111.out | refine below_set ?_ GE112.out) | exact HB.out)⟩⟩
                                      case rest =>
                                        clear HC52
                                        try clear c1
                                        try clear c2
                                        try clear p2
                                        try clear c3
                                        try clear c4
                                        try clear c5
                                        try clear p6
                                        try clear c7
                                        try clear c8
                                        try clear c8b0
                                        try clear c9
                                        try clear c11
                                        try clear c12
                                        try clear c13
                                        try clear c15
                                        try clear c18
                                        try clear c19
                                        try clear c22
                                        try clear c23
                                        try clear c27
                                        try clear c29
                                        try clear c29b0
                                        try clear c29b1
                                        try clear c30
                                        try clear c33
                                        try clear c33b0
                                        try clear c35
                                        try clear c36
                                        try clear c39
                                        try clear c39b0
                                        try clear c41
                                        try clear c42
                                        try clear c45
                                        try clear c45b0
                                        try clear c45b1
                                        try clear c46
                                        try clear c49
                                        try clear c50
                                        try clear c53
                                        try clear c53b0
                                        try clear c53b1
                                        try clear c54
                                        try clear hcz10_0
                                        try clear hcz10_1
                                        try clear hcz10_2
                                        try clear hcz10_3
                                        try clear hcz10_4
                                        try clear hcz13_0
                                        try clear hcz13_1
                                        try clear hcz13_2
                                        try clear hcz13_3
                                        try clear hcz13_4
                                        try clear hcz16_0
                                        try clear hcz16_1
                                        try clear hcz16_2
                                        try clear hcz16_3
                                        try clear hcz16_4
                                        try clear hcz20_0
                                        try clear hcz20_1
                                        try clear hcz20_2
                                        try clear hcz20_3
                                        try clear hcz20_4
                                        try clear hcz21_0
                                        try clear hcz21_1
                                        try clear hcz21_2
                                        try clear hcz21_3
                                        try clear hcz21_4
                                        try clear hcz24_0
                                        try clear hcz24_1
                                        try clear hcz24_2
                                        try clear hcz24_3
                                        try clear hcz24_4
                                        try clear hcz25_0
                                        try clear hcz25_1
                                        try clear hcz25_2
                                        try clear hcz25_3
                                        try clear hcz25_4
                                        try clear hcz28_0
                                        try clear hcz28_1
                                        try clear hcz28_2
                                        try clear hcz28_3
                                        try clear hcz28_4
                                        try clear hcz31_0
                                        try clear hcz31_1
                                        try clear hcz31_2
                                        try clear hcz31_3
                                        try clear hcz31_4
                                        try clear hcz37_0
                                        try clear hcz37_1
                                        try clear hcz37_2
                                        try clear hcz37_3
                                        try clear hcz37_4
                                        try clear hcz43_0
                                        try clear hcz43_1
                                        try clear hcz43_2
                                        try clear hcz43_3
                                        try clear hcz43_4
                                        try clear hcz47_0
                                        try clear hcz47_1
                                        try clear hcz47_2
                                        try clear hcz47_3
                                        try clear hcz47_4
                                        try clear hcz51_0
                                        try clear hcz51_1
                                        try clear hcz51_2
                                        try clear hcz51_3
                                        try clear hcz51_4
                                        try clear hcz55_0
                                        try clear hcz55_1
                                        try clear hcz55_2
                                        try clear hcz55_3
                                        try clear hcz55_4
                                        try clear hfz10_0
                                        try clear hfz10_1
                                        try clear hfz10_2
                                        try clear hfz10_3
                                        try clear hfz10_4
                                        try clear hfz13_0
                                        try clear hfz13_1
                                        try clear hfz13_2
                                        try clear hfz13_3
                                        try clear hfz13_4
                                        try clear hfz16_0
                                        try clear hfz16_1
                                        try clear hfz16_2
                                        try clear hfz16_3
                                        try clear hfz16_4
                                        try clear hfz20_0
                                        try clear hfz20_1
                                        try clear hfz20_2
                                        try clear hfz20_3
                                        try clear hfz20_4
                                        try clear hfz21_0
                                        try clear hfz21_1
                                        try clear hfz21_2
                                        try clear hfz21_3
                                        try clear hfz21_4
                                        try clear hfz24_0
                                        try clear hfz24_1
                                        try clear hfz24_2
                                        try clear hfz24_3
                                        try clear hfz24_4
                                        try clear hfz25_0
                                        try clear hfz25_1
                                        try clear hfz25_2
                                        try clear hfz25_3
                                        try clear hfz25_4
                                        try clear hfz28_0
                                        try clear hfz28_1
                                        try clear hfz28_2
                                        try clear hfz28_3
                                        try clear hfz28_4
                                        try clear hfz31_0
                                        try clear hfz31_1
                                        try clear hfz31_2
                                        try clear hfz31_3
                                        try clear hfz31_4
                                        try clear hfz37_0
                                        try clear hfz37_1
                                        try clear hfz37_2
                                        try clear hfz37_3
                                        try clear hfz37_4
                                        try clear hfz43_0
                                        try clear hfz43_1
                                        try clear hfz43_2
                                        try clear hfz43_3
                                        try clear hfz43_4
                                        try clear hfz47_0
                                        try clear hfz47_1
                                        try clear hfz47_2
                                        try clear hfz47_3
                                        try clear hfz47_4
                                        try clear hfz51_0
                                        try clear hfz51_1
                                        try clear hfz51_2
                                        try clear hfz51_3
                                        try clear hfz51_4
                                        try clear hfz55_0
                                        try clear hfz55_1
                                        try clear hfz55_2
                                        try clear hfz55_3
                                        try clear hfz55_4
                                        try clear p2
                                        try clear p6
                                        obtain ⟨kq, x64_51, rfl, HA, HJ51, BK111, BK112, HB⟩ := hcut
                                        cases kq with
                                        | zero => exact absurd HA.out (by simp [jackstayref06_Event.j8])
                                        | succ kj51 =>
                                          have H := HA.out
                                          clear HA
                                          simp only [jackstayref06_Event.j8] at H
                                          by_cases c56 : x64_51 = true
                                          · subst c56
                                            have H1 : (some (x112000_47, 119, decide (x112000_47 > 255), a0_3, a0_4, 0)) = some (r1, r2, r3, r4, r5, r6) := by rw [if_pos rfl] at H; exact H
                                            clear H
                                            have H := H1
                                            clear H1
                                            simp only [Option.some.injEq, Prod.mk.injEq] at H
                                            obtain ⟨rfl, rfl, rfl, rfl, rfl, rfl⟩ := H
                                            have hnb57 := NB111_112.out
                                            have hnc57 := NB112_111.out
                                            have hcz58_0 : wc.cell? ⟨gb111, 0, none⟩ = some (.int .i64 x112000_47) := (blk_cell BK111.out 0).trans rfl
                                            have hcz58_1 : wc.cell? ⟨gb111, 1, none⟩ = some (.int .i64 x112001_33) := (blk_cell BK111.out 1).trans rfl
                                            have hcz58_2 : wc.cell? ⟨gb111, 2, none⟩ = some (.bool false) := (blk_cell BK111.out 2).trans rfl
                                            have hcz58_3 : wc.cell? ⟨gb111, 3, none⟩ = some (.int .i64 a0_3) := (blk_cell BK111.out 3).trans rfl
                                            have hcz58_4 : wc.cell? ⟨gb111, 4, none⟩ = some (.int .i64 a0_4) := (blk_cell BK111.out 4).trans rfl
                                            have hfz58_0 := blk_frozen BK111.out 0
                                            have hfz58_1 := blk_frozen BK111.out 1
                                            have hfz58_2 := blk_frozen BK111.out 2
                                            have hfz58_3 := blk_frozen BK111.out 3
                                            have hfz58_4 := blk_frozen BK111.out 4
                                            have hcz59_0 : wc.cell? ⟨gb112, 0, none⟩ = some (.int .i64 0) := (blk_cell BK112.out 0).trans rfl
                                            have hcz59_1 : wc.cell? ⟨gb112, 1, none⟩ = some (.int .i64 0) := (blk_cell BK112.out 1).trans rfl
                                            have hcz59_2 : wc.cell? ⟨gb112, 2, none⟩ = some (.bool false) := (blk_cell BK112.out 2).trans rfl
                                            have hcz59_3 : wc.cell? ⟨gb112, 3, none⟩ = some (.int .i64 0) := (blk_cell BK112.out 3).trans rfl
                                            have hcz59_4 : wc.cell? ⟨gb112, 4, none⟩ = some (.int .i64 0) := (blk_cell BK112.out 4).trans rfl
                                            have hfz59_0 := blk_frozen BK112.out 0
                                            have hfz59_1 := blk_frozen BK112.out 1
                                            have hfz59_2 := blk_frozen BK112.out 2
                                            have hfz59_3 := blk_frozen BK112.out 3
                                            have hfz59_4 := blk_frozen BK112.out 4
                                            go_wp2
                                            refine bodyPost_ret (results_ct rfl _ _ gb112 23 #[.int .i64 x112000_47, .int .i64 119, .bool (decide (x112000_47 > 255)), .int .i64 a0_3, .int .i64 a0_4] (0, 0) _ rfl (by (with_reducible repeat (first | refine blk_drewN ?_ _ | refine blk_drew ?_ | refine blk_alloc ?_ _)); refine blk_put (cs := #[.int .i64 x112000_47, .int .i64 119, .bool (decide (x112000_47 > 255)), .int .i64 a0_3, .int .i64 0]) ?_ 4 _ rfl; (with_reducible repeat (first | refine blk_drewN ?_ _ | refine blk_drew ?_ | refine blk_alloc ?_ _)); refine blk_put (cs := #[.int .i64 x112000_47, .int .i64 119, .bool (decide (x112000_47 > 255)), .int .i64 0, .int .i64 0]) ?_ 3 _ rfl; (with_reducible repeat (first | refine blk_drewN ?_ _ | refine blk_drew ?_ | refine blk_alloc ?_ _)); refine blk_put (cs := #[.int .i64 x112000_47, .int .i64 119, .bool false, .int .i64 0, .int .i64 0]) ?_ 2 _ rfl; (with_reducible repeat (first | refine blk_drewN ?_ _ | refine blk_drew ?_ | refine blk_alloc ?_ _)); refine blk_put (cs := #[.int .i64 x112000_47, .int .i64 0, .bool false, .int .i64 0, .int .i64 0]) ?_ 1 _ rfl; (with_reducible repeat (first | refine blk_drewN ?_ _ | refine blk_drew ?_ | refine blk_alloc ?_ _)); refine blk_put (cs := #[.int .i64 0, .int .i64 0, .bool false, .int .i64 0, .int .i64 0]) ?_ 0 _ rfl; (with_reducible repeat (first | refine blk_drewN ?_ _ | refine blk_drew ?_ | refine blk_alloc ?_ _)); refine blk_far ?_ NB112_111.out _; (with_reducible repeat (first | refine blk_drewN ?_ _ | refine blk_drew ?_ | refine blk_alloc ?_ _)); refine blk_far ?_ NB112_111.out _; (with_reducible repeat (first | refine blk_drewN ?_ _ | refine blk_drew ?_ | refine blk_alloc ?_ _)); exact BK112.out) Try.underlying23 rfl (by kernel_rfl)) rfl ?_
                                            exact ⟨by first | rfl | (simp [errW_none, errW_some] <;> rfl) | (simp [*, errW_none, errW_some] <;> rfl), by repeat (first | (with_reducible first | exact HB.out | apply below_alloc | apply pw_below_drewN | apply below_drew1 | refine below_set ?_ GE111.out | refine below_set ?_ GE112.out) | exact HB.out)⟩
                                          · replace c56 := Bool.eq_false_iff.mpr c56
                                            subst c56
                                            have H1 : (if a1 = 9 then (jackstayref06_Event.j9 kj51 (decide (x112001_33 > 0)) x112000_47 x112001_33 false a0_3 a0_4) else (jackstayref06_Event.j9 kj51 false x112000_47 x112001_33 false a0_3 a0_4)) = some (r1, r2, r3, r4, r5, r6) := by rw [if_neg (show ¬ (false = true) by decide)] at H; exact H
                                            clear H
                                            have H := H1
                                            clear H1
                                            have HC60 := Aside0.mk H
                                            clear H
                                            go_upto_region 15 with (fail)
                                            go_cut [72] (fun v72 wc => ∃ (kq : Nat) (x72_59 : Bool), v72 = .bool x72_59 ∧ Aside0 (jackstayref06_Event.j9 kq x72_59 x112000_47 x112001_33 false a0_3 a0_4 = some (r1, r2, r3, r4, r5, r6)) ∧ Aside0 (kq ≤ kj51) ∧ Aside0 (wc.heap[gb111]? = some (.cells #[.int .i64 x112000_47, .int .i64 x112001_33, .bool false, .int .i64 a0_3, .int .i64 a0_4] 23 (0, 0))) ∧ Aside0 (wc.heap[gb112]? = some (.cells #[.int .i64 0, .int .i64 0, .bool false, .int .i64 0, .int .i64 0] 23 (0, 0))) ∧ Aside0 (Below w.heap.size w wc))
                                            case first =>
                                              have H := HC60.out
                                              clear HC60
                                              by_cases c61 : a1 = 9
                                              · rw [if_pos c61] at H
                                                have c61b0 : (a1 == 9) = true := beq_iff_eq.mpr c61
                                                have c61b1 : (a1 != 9) = false := bne_eq_false_iff_eq.mpr c61
                                                clear c61
                                                (first | rw [c61b0] | (simp only [i64_w, i32_w]; rw [c61b0]) | skip)
                                                have H' := Aside0.mk H
                                                clear H
                                                have hnb62 := NB111_112.out
                                                have hnc62 := NB112_111.out
                                                have hcz63_0 : wc.cell? ⟨gb111, 0, none⟩ = some (.int .i64 x112000_47) := (blk_cell BK111.out 0).trans rfl
                                                have hcz63_1 : wc.cell? ⟨gb111, 1, none⟩ = some (.int .i64 x112001_33) := (blk_cell BK111.out 1).trans rfl
                                                have hcz63_2 : wc.cell? ⟨gb111, 2, none⟩ = some (.bool false) := (blk_cell BK111.out 2).trans rfl
                                                have hcz63_3 : wc.cell? ⟨gb111, 3, none⟩ = some (.int .i64 a0_3) := (blk_cell BK111.out 3).trans rfl
                                                have hcz63_4 : wc.cell? ⟨gb111, 4, none⟩ = some (.int .i64 a0_4) := (blk_cell BK111.out 4).trans rfl
                                                have hfz63_0 := blk_frozen BK111.out 0
                                                have hfz63_1 := blk_frozen BK111.out 1
                                                have hfz63_2 := blk_frozen BK111.out 2
                                                have hfz63_3 := blk_frozen BK111.out 3
                                                have hfz63_4 := blk_frozen BK111.out 4
                                                go_wp2
                                                go_meet
                                                case rel => exact ⟨_, (decide (x112001_33 > 0)), (by first | rfl | (simp; done) | (simp [*]; done)), H', ⟨by have := HJ2.out; have := HJ25.out; have := HJ31.out; have := HJ33.out; have := HJ37.out; have := HJ39.out; have := HJ43.out; have := HJ47.out; have := HJ51.out; first | omega | exact Nat.le_refl _⟩, ⟨by (with_reducible repeat (first | refine blk_drewN ?_ _ | refine blk_drew ?_ | refine blk_alloc ?_ _)); exact BK111.out⟩, ⟨by (with_reducible repeat (first | refine blk_drewN ?_ _ | refine blk_drew ?_ | refine blk_alloc ?_ _)); exact BK112.out⟩, ⟨by repeat (first | (with_reducible first | exact HB.out | apply below_alloc | apply pw_below_drewN | apply below_drew1 | refine below_set ?_ GE111.out | refine below_set ?_ GE112.out) | exact HB.out)⟩⟩
                                              · rw [if_neg c61] at H
                                                have c61b0 : (a1 == 9) = false := beq_eq_false_iff_ne.mpr c61
                                                have c61b1 : (a1 != 9) = true := bne_iff_ne.mpr c61
                                                (first | rw [c61b0] | (simp only [i64_w, i32_w]; rw [c61b0]) | skip)
                                                have H' := Aside0.mk H
                                                clear H
                                                go_wp2
                                                go_meet
                                                case rel => exact ⟨_, (false), (by first | rfl | (simp; done) | (simp [*]; done)), H', ⟨by have := HJ2.out; have := HJ25.out; have := HJ31.out; have := HJ33.out; have := HJ37.out; have := HJ39.out; have := HJ43.out; have := HJ47.out; have := HJ51.out; first | omega | exact Nat.le_refl _⟩, ⟨by (with_reducible repeat (first | refine blk_drewN ?_ _ | refine blk_drew ?_ | refine blk_alloc ?_ _)); exact BK111.out⟩, ⟨by (with_reducible repeat (first | refine blk_drewN ?_ _ | refine blk_drew ?_ | refine blk_alloc ?_ _)); exact BK112.out⟩, ⟨by repeat (first | (with_reducible first | exact HB.out | apply below_alloc | apply pw_below_drewN | apply below_drew1 | refine below_set ?_ GE111.out | refine below_set ?_ GE112.out) | exact HB.out)⟩⟩
                                            case rest =>
                                              clear HC60
                                              try clear c1
                                              try clear c2
                                              try clear p2
                                              try clear c3
                                              try clear c4
                                              try clear c5
                                              try clear c6
                                              try clear p6
                                              try clear c7
                                              try clear c8
                                              try clear c8b0
                                              try clear c9
                                              try clear c11
                                              try clear c12
                                              try clear c13
                                              try clear c15
                                              try clear c18
                                              try clear c19
                                              try clear c22
                                              try clear c23
                                              try clear c27
                                              try clear c29
                                              try clear c29b0
                                              try clear c29b1
                                              try clear c30
                                              try clear c33
                                              try clear c33b0
                                              try clear c35
                                              try clear c36
                                              try clear c39
                                              try clear c39b0
                                              try clear c41
                                              try clear c42
                                              try clear c45
                                              try clear c45b0
                                              try clear c45b1
                                              try clear c46
                                              try clear c49
                                              try clear c50
                                              try clear c53
                                              try clear c53b0
                                              try clear c53b1
                                              try clear c54
                                              try clear c56
                                              try clear c57
                                              try clear c61
                                              try clear c61b0
                                              try clear c61b1
                                              try clear c62
                                              try clear hcz10_0
                                              try clear hcz10_1
                                              try clear hcz10_2
                                              try clear hcz10_3
                                              try clear hcz10_4
                                              try clear hcz13_0
                                              try clear hcz13_1
                                              try clear hcz13_2
                                              try clear hcz13_3
                                              try clear hcz13_4
                                              try clear hcz16_0
                                              try clear hcz16_1
                                              try clear hcz16_2
                                              try clear hcz16_3
                                              try clear hcz16_4
                                              try clear hcz20_0
                                              try clear hcz20_1
                                              try clear hcz20_2
                                              try clear hcz20_3
                                              try clear hcz20_4
                                              try clear hcz21_0
                                              try clear hcz21_1
                                              try clear hcz21_2
                                              try clear hcz21_3
                                              try clear hcz21_4
                                              try clear hcz24_0
                                              try clear hcz24_1
                                              try clear hcz24_2
                                              try clear hcz24_3
                                              try clear hcz24_4
                                              try clear hcz25_0
                                              try clear hcz25_1
                                              try clear hcz25_2
                                              try clear hcz25_3
                                              try clear hcz25_4
                                              try clear hcz28_0
                                              try clear hcz28_1
                                              try clear hcz28_2
                                              try clear hcz28_3
                                              try clear hcz28_4
                                              try clear hcz31_0
                                              try clear hcz31_1
                                              try clear hcz31_2
                                              try clear hcz31_3
                                              try clear hcz31_4
                                              try clear hcz37_0
                                              try clear hcz37_1
                                              try clear hcz37_2
                                              try clear hcz37_3
                                              try clear hcz37_4
                                              try clear hcz43_0
                                              try clear hcz43_1
                                              try clear hcz43_2
                                              try clear hcz43_3
                                              try clear hcz43_4
                                              try clear hcz47_0
                                              try clear hcz47_1
                                              try clear hcz47_2
                                              try clear hcz47_3
                                              try clear hcz47_4
                                              try clear hcz51_0
                                              try clear hcz51_1
                                              try clear hcz51_2
                                              try clear hcz51_3
                                              try clear hcz51_4
                                              try clear hcz55_0
                                              try clear hcz55_1
                                              try clear hcz55_2
                                              try clear hcz55_3
                                              try clear hcz55_4
                                              try clear hcz58_0
                                              try clear hcz58_1
                                              try clear hcz58_2
                                              try clear hcz58_3
                                              try clear hcz58_4
                                              try clear hcz59_0
                                              try clear hcz59_1
                                              try clear hcz59_2
                                              try clear hcz59_3
                                              try clear hcz59_4
                                              try clear hcz63_0
                                              try clear hcz63_1
                                              try clear hcz63_2
                                              try clear hcz63_3
                                              try clear hcz63_4
                                              try clear hfz10_0
                                              try clear hfz10_1
                                              try clear hfz10_2
                                              try clear hfz10_3
                                              try clear hfz10_4
                                              try clear hfz13_0
                                              try clear hfz13_1
                                              try clear hfz13_2
                                              try clear hfz13_3
                                              try clear hfz13_4
                                              try clear hfz16_0
                                              try clear hfz16_1
                                              try clear hfz16_2
                                              try clear hfz16_3
                                              try clear hfz16_4
                                              try clear hfz20_0
                                              try clear hfz20_1
                                              try clear hfz20_2
                                              try clear hfz20_3
                                              try clear hfz20_4
                                              try clear hfz21_0
                                              try clear hfz21_1
                                              try clear hfz21_2
                                              try clear hfz21_3
                                              try clear hfz21_4
                                              try clear hfz24_0
                                              try clear hfz24_1
                                              try clear hfz24_2
                                              try clear hfz24_3
                                              try clear hfz24_4
                                              try clear hfz25_0
                                              try clear hfz25_1
                                              try clear hfz25_2
                                              try clear hfz25_3
                                              try clear hfz25_4
                                              try clear hfz28_0
                                              try clear hfz28_1
                                              try clear hfz28_2
                                              try clear hfz28_3
                                              try clear hfz28_4
                                              try clear hfz31_0
                                              try clear hfz31_1
                                              try clear hfz31_2
                                              try clear hfz31_3
                                              try clear hfz31_4
                                              try clear hfz37_0
                                              try clear hfz37_1
                                              try clear hfz37_2
                                              try clear hfz37_3
                                              try clear hfz37_4
                                              try clear hfz43_0
                                              try clear hfz43_1
                                              try clear hfz43_2
                                              try clear hfz43_3
                                              try clear hfz43_4
                                              try clear hfz47_0
                                              try clear hfz47_1
                                              try clear hfz47_2
                                              try clear hfz47_3
                                              try clear hfz47_4
                                              try clear hfz51_0
                                              try clear hfz51_1
                                              try clear hfz51_2
                                              try clear hfz51_3
                                              try clear hfz51_4
                                              try clear hfz55_0
                                              try clear hfz55_1
                                              try clear hfz55_2
                                              try clear hfz55_3
                                              try clear hfz55_4
                                              try clear hfz58_0
                                              try clear hfz58_1
                                              try clear hfz58_2
                                              try clear hfz58_3
                                              try clear hfz58_4
                                              try clear hfz59_0
                                              try clear hfz59_1
                                              try clear hfz59_2
                                              try clear hfz59_3
                                              try clear hfz59_4
                                              try clear hfz63_0
                                              try clear hfz63_1
                                              try clear hfz63_2
                                              try clear hfz63_3
                                              try clear hfz63_4
                                              try clear p2
                                              try clear p6
                                              obtain ⟨kq, x72_59, rfl, HA, HJ59, BK111, BK112, HB⟩ := hcut
                                              cases kq with
                                              | zero => exact absurd HA.out (by simp [jackstayref06_Event.j9])
                                              | succ kj59 =>
                                                have H := HA.out
                                                clear HA
                                                simp only [jackstayref06_Event.j9] at H
                                                by_cases c64 : x72_59 = true
                                                · subst c64
                                                  have H1 : (if (wrap64 (x112001_33 - 1)) > 255 then (some (x112000_47, 255, decide (x112000_47 > 255), a0_3, a0_4, 0)) else (some (x112000_47, wrap64 (x112001_33 - 1), decide (x112000_47 > 255), a0_3, a0_4, 0))) = some (r1, r2, r3, r4, r5, r6) := by rw [if_pos rfl] at H; exact H
                                                  clear H
                                                  have H := H1
                                                  clear H1
                                                  by_cases c65 : (wrap64 (x112001_33 - 1)) > 255
                                                  · rw [if_pos c65] at H
                                                    have c65b0 : decide (255 < (wrap64 (x112001_33 - 1))) = true := decide_eq_true c65
                                                    clear c65
                                                    simp only [Option.some.injEq, Prod.mk.injEq] at H
                                                    obtain ⟨rfl, rfl, rfl, rfl, rfl, rfl⟩ := H
                                                    have hnb66 := NB111_112.out
                                                    have hnc66 := NB112_111.out
                                                    have hcz67_0 : wc.cell? ⟨gb111, 0, none⟩ = some (.int .i64 x112000_47) := (blk_cell BK111.out 0).trans rfl
                                                    have hcz67_1 : wc.cell? ⟨gb111, 1, none⟩ = some (.int .i64 x112001_33) := (blk_cell BK111.out 1).trans rfl
                                                    have hcz67_2 : wc.cell? ⟨gb111, 2, none⟩ = some (.bool false) := (blk_cell BK111.out 2).trans rfl
                                                    have hcz67_3 : wc.cell? ⟨gb111, 3, none⟩ = some (.int .i64 a0_3) := (blk_cell BK111.out 3).trans rfl
                                                    have hcz67_4 : wc.cell? ⟨gb111, 4, none⟩ = some (.int .i64 a0_4) := (blk_cell BK111.out 4).trans rfl
                                                    have hfz67_0 := blk_frozen BK111.out 0
                                                    have hfz67_1 := blk_frozen BK111.out 1
                                                    have hfz67_2 := blk_frozen BK111.out 2
                                                    have hfz67_3 := blk_frozen BK111.out 3
                                                    have hfz67_4 := blk_frozen BK111.out 4
                                                    have hcz68_0 : wc.cell? ⟨gb112, 0, none⟩ = some (.int .i64 0) := (blk_cell BK112.out 0).trans rfl
                                                    have hcz68_1 : wc.cell? ⟨gb112, 1, none⟩ = some (.int .i64 0) := (blk_cell BK112.out 1).trans rfl
                                                    have hcz68_2 : wc.cell? ⟨gb112, 2, none⟩ = some (.bool false) := (blk_cell BK112.out 2).trans rfl
                                                    have hcz68_3 : wc.cell? ⟨gb112, 3, none⟩ = some (.int .i64 0) := (blk_cell BK112.out 3).trans rfl
                                                    have hcz68_4 : wc.cell? ⟨gb112, 4, none⟩ = some (.int .i64 0) := (blk_cell BK112.out 4).trans rfl
                                                    have hfz68_0 := blk_frozen BK112.out 0
                                                    have hfz68_1 := blk_frozen BK112.out 1
                                                    have hfz68_2 := blk_frozen BK112.out 2
                                                    have hfz68_3 := blk_frozen BK112.out 3
                                                    have hfz68_4 := blk_frozen BK112.out 4
                                                    go_wp2
                                                    refine bodyPost_ret (results_ct rfl _ _ gb112 23 #[.int .i64 x112000_47, .int .i64 255, .bool (decide (x112000_47 > 255)), .int .i64 a0_3, .int .i64 a0_4] (0, 0) _ rfl (by (with_reducible repeat (first | refine blk_drewN ?_ _ | refine blk_drew ?_ | refine blk_alloc ?_ _)); refine blk_put (cs := #[.int .i64 x112000_47, .int .i64 255, .bool (decide (x112000_47 > 255)), .int .i64 a0_3, .int .i64 0]) ?_ 4 _ rfl; (with_reducible repeat (first | refine blk_drewN ?_ _ | refine blk_drew ?_ | refine blk_alloc ?_ _)); refine blk_put (cs := #[.int .i64 x112000_47, .int .i64 255, .bool (decide (x112000_47 > 255)), .int .i64 0, .int .i64 0]) ?_ 3 _ rfl; (with_reducible repeat (first | refine blk_drewN ?_ _ | refine blk_drew ?_ | refine blk_alloc ?_ _)); refine blk_put (cs := #[.int .i64 x112000_47, .int .i64 255, .bool false, .int .i64 0, .int .i64 0]) ?_ 2 _ rfl; (with_reducible repeat (first | refine blk_drewN ?_ _ | refine blk_drew ?_ | refine blk_alloc ?_ _)); refine blk_put (cs := #[.int .i64 x112000_47, .int .i64 0, .bool false, .int .i64 0, .int .i64 0]) ?_ 1 _ rfl; (with_reducible repeat (first | refine blk_drewN ?_ _ | refine blk_drew ?_ | refine blk_alloc ?_ _)); refine blk_put (cs := #[.int .i64 0, .int .i64 0, .bool false, .int .i64 0, .int .i64 0]) ?_ 0 _ rfl; (with_reducible repeat (first | refine blk_drewN ?_ _ | refine blk_drew ?_ | refine blk_alloc ?_ _)); refine blk_far ?_ NB112_111.out _; (with_reducible repeat (first | refine blk_drewN ?_ _ | refine blk_drew ?_ | refine blk_alloc ?_ _)); refine blk_far ?_ NB112_111.out _; (with_reducible repeat (first | refine blk_drewN ?_ _ | refine blk_drew ?_ | refine blk_alloc ?_ _)); refine blk_far ?_ NB112_111.out _; (with_reducible repeat (first | refine blk_drewN ?_ _ | refine blk_drew ?_ | refine blk_alloc ?_ _)); exact BK112.out) Try.underlying23 rfl (by kernel_rfl)) rfl ?_
                                                    exact ⟨by first | rfl | (simp [errW_none, errW_some] <;> rfl) | (simp [*, errW_none, errW_some] <;> rfl), by repeat (first | (with_reducible first | exact HB.out | apply below_alloc | apply pw_below_drewN | apply below_drew1 | refine below_set ?_ GE111.out | refine below_set ?_ GE112.out) | exact HB.out)⟩
                                                  · rw [if_neg c65] at H
                                                    have c65b0 : decide (255 < (wrap64 (x112001_33 - 1))) = false := decide_eq_false c65
                                                    clear c65
                                                    simp only [Option.some.injEq, Prod.mk.injEq] at H
                                                    obtain ⟨rfl, rfl, rfl, rfl, rfl, rfl⟩ := H
                                                    have hnb69 := NB111_112.out
                                                    have hnc69 := NB112_111.out
                                                    have hcz70_0 : wc.cell? ⟨gb111, 0, none⟩ = some (.int .i64 x112000_47) := (blk_cell BK111.out 0).trans rfl
                                                    have hcz70_1 : wc.cell? ⟨gb111, 1, none⟩ = some (.int .i64 x112001_33) := (blk_cell BK111.out 1).trans rfl
                                                    have hcz70_2 : wc.cell? ⟨gb111, 2, none⟩ = some (.bool false) := (blk_cell BK111.out 2).trans rfl
                                                    have hcz70_3 : wc.cell? ⟨gb111, 3, none⟩ = some (.int .i64 a0_3) := (blk_cell BK111.out 3).trans rfl
                                                    have hcz70_4 : wc.cell? ⟨gb111, 4, none⟩ = some (.int .i64 a0_4) := (blk_cell BK111.out 4).trans rfl
                                                    have hfz70_0 := blk_frozen BK111.out 0
                                                    have hfz70_1 := blk_frozen BK111.out 1
                                                    have hfz70_2 := blk_frozen BK111.out 2
                                                    have hfz70_3 := blk_frozen BK111.out 3
                                                    have hfz70_4 := blk_frozen BK111.out 4
                                                    have hcz71_0 : wc.cell? ⟨gb112, 0, none⟩ = some (.int .i64 0) := (blk_cell BK112.out 0).trans rfl
                                                    have hcz71_1 : wc.cell? ⟨gb112, 1, none⟩ = some (.int .i64 0) := (blk_cell BK112.out 1).trans rfl
                                                    have hcz71_2 : wc.cell? ⟨gb112, 2, none⟩ = some (.bool false) := (blk_cell BK112.out 2).trans rfl
                                                    have hcz71_3 : wc.cell? ⟨gb112, 3, none⟩ = some (.int .i64 0) := (blk_cell BK112.out 3).trans rfl
                                                    have hcz71_4 : wc.cell? ⟨gb112, 4, none⟩ = some (.int .i64 0) := (blk_cell BK112.out 4).trans rfl
                                                    have hfz71_0 := blk_frozen BK112.out 0
                                                    have hfz71_1 := blk_frozen BK112.out 1
                                                    have hfz71_2 := blk_frozen BK112.out 2
                                                    have hfz71_3 := blk_frozen BK112.out 3
                                                    have hfz71_4 := blk_frozen BK112.out 4
                                                    go_wp2
                                                    refine bodyPost_ret (results_ct rfl _ _ gb112 23 #[.int .i64 x112000_47, .int .i64 (wrap64 (x112001_33 - 1)), .bool (decide (x112000_47 > 255)), .int .i64 a0_3, .int .i64 a0_4] (0, 0) _ rfl (by (with_reducible repeat (first | refine blk_drewN ?_ _ | refine blk_drew ?_ | refine blk_alloc ?_ _)); refine blk_put (cs := #[.int .i64 x112000_47, .int .i64 (wrap64 (x112001_33 - 1)), .bool (decide (x112000_47 > 255)), .int .i64 a0_3, .int .i64 0]) ?_ 4 _ rfl; (with_reducible repeat (first | refine blk_drewN ?_ _ | refine blk_drew ?_ | refine blk_alloc ?_ _)); refine blk_put (cs := #[.int .i64 x112000_47, .int .i64 (wrap64 (x112001_33 - 1)), .bool (decide (x112000_47 > 255)), .int .i64 0, .int .i64 0]) ?_ 3 _ rfl; (with_reducible repeat (first | refine blk_drewN ?_ _ | refine blk_drew ?_ | refine blk_alloc ?_ _)); refine blk_put (cs := #[.int .i64 x112000_47, .int .i64 (wrap64 (x112001_33 - 1)), .bool false, .int .i64 0, .int .i64 0]) ?_ 2 _ rfl; (with_reducible repeat (first | refine blk_drewN ?_ _ | refine blk_drew ?_ | refine blk_alloc ?_ _)); refine blk_put (cs := #[.int .i64 x112000_47, .int .i64 0, .bool false, .int .i64 0, .int .i64 0]) ?_ 1 _ rfl; (with_reducible repeat (first | refine blk_drewN ?_ _ | refine blk_drew ?_ | refine blk_alloc ?_ _)); refine blk_put (cs := #[.int .i64 0, .int .i64 0, .bool false, .int .i64 0, .int .i64 0]) ?_ 0 _ rfl; (with_reducible repeat (first | refine blk_drewN ?_ _ | refine blk_drew ?_ | refine blk_alloc ?_ _)); refine blk_far ?_ NB112_111.out _; (with_reducible repeat (first | refine blk_drewN ?_ _ | refine blk_drew ?_ | refine blk_alloc ?_ _)); refine blk_far ?_ NB112_111.out _; (with_reducible repeat (first | refine blk_drewN ?_ _ | refine blk_drew ?_ | refine blk_alloc ?_ _)); exact BK112.out) Try.underlying23 rfl (by kernel_rfl)) rfl ?_
                                                    exact ⟨by first | rfl | (simp [errW_none, errW_some] <;> rfl) | (simp [*, errW_none, errW_some] <;> rfl), by repeat (first | (with_reducible first | exact HB.out | apply below_alloc | apply pw_below_drewN | apply below_drew1 | refine below_set ?_ GE111.out | refine below_set ?_ GE112.out) | exact HB.out)⟩
                                                · replace c64 := Bool.eq_false_iff.mpr c64
                                                  subst c64
                                                  have H1 : (if x112001_33 > 255 then (some (x112000_47, 255, decide (x112000_47 > 255), a0_3, a0_4, 0)) else (some (x112000_47, x112001_33, decide (x112000_47 > 255), a0_3, a0_4, 0))) = some (r1, r2, r3, r4, r5, r6) := by rw [if_neg (show ¬ (false = true) by decide)] at H; exact H
                                                  clear H
                                                  have H := H1
                                                  clear H1
                                                  by_cases c72 : x112001_33 > 255
                                                  · rw [if_pos c72] at H
                                                    have c72b0 : decide (255 < x112001_33) = true := decide_eq_true c72
                                                    clear c72
                                                    simp only [Option.some.injEq, Prod.mk.injEq] at H
                                                    obtain ⟨rfl, rfl, rfl, rfl, rfl, rfl⟩ := H
                                                    have hnb73 := NB111_112.out
                                                    have hnc73 := NB112_111.out
                                                    have hcz74_0 : wc.cell? ⟨gb111, 0, none⟩ = some (.int .i64 x112000_47) := (blk_cell BK111.out 0).trans rfl
                                                    have hcz74_1 : wc.cell? ⟨gb111, 1, none⟩ = some (.int .i64 x112001_33) := (blk_cell BK111.out 1).trans rfl
                                                    have hcz74_2 : wc.cell? ⟨gb111, 2, none⟩ = some (.bool false) := (blk_cell BK111.out 2).trans rfl
                                                    have hcz74_3 : wc.cell? ⟨gb111, 3, none⟩ = some (.int .i64 a0_3) := (blk_cell BK111.out 3).trans rfl
                                                    have hcz74_4 : wc.cell? ⟨gb111, 4, none⟩ = some (.int .i64 a0_4) := (blk_cell BK111.out 4).trans rfl
                                                    have hfz74_0 := blk_frozen BK111.out 0
                                                    have hfz74_1 := blk_frozen BK111.out 1
                                                    have hfz74_2 := blk_frozen BK111.out 2
                                                    have hfz74_3 := blk_frozen BK111.out 3
                                                    have hfz74_4 := blk_frozen BK111.out 4
                                                    have hcz75_0 : wc.cell? ⟨gb112, 0, none⟩ = some (.int .i64 0) := (blk_cell BK112.out 0).trans rfl
                                                    have hcz75_1 : wc.cell? ⟨gb112, 1, none⟩ = some (.int .i64 0) := (blk_cell BK112.out 1).trans rfl
                                                    have hcz75_2 : wc.cell? ⟨gb112, 2, none⟩ = some (.bool false) := (blk_cell BK112.out 2).trans rfl
                                                    have hcz75_3 : wc.cell? ⟨gb112, 3, none⟩ = some (.int .i64 0) := (blk_cell BK112.out 3).trans rfl
                                                    have hcz75_4 : wc.cell? ⟨gb112, 4, none⟩ = some (.int .i64 0) := (blk_cell BK112.out 4).trans rfl
                                                    have hfz75_0 := blk_frozen BK112.out 0
                                                    have hfz75_1 := blk_frozen BK112.out 1
                                                    have hfz75_2 := blk_frozen BK112.out 2
                                                    have hfz75_3 := blk_frozen BK112.out 3
                                                    have hfz75_4 := blk_frozen BK112.out 4
                                                    go_wp2
                                                    refine bodyPost_ret (results_ct rfl _ _ gb112 23 #[.int .i64 x112000_47, .int .i64 255, .bool (decide (x112000_47 > 255)), .int .i64 a0_3, .int .i64 a0_4] (0, 0) _ rfl (by (with_reducible repeat (first | refine blk_drewN ?_ _ | refine blk_drew ?_ | refine blk_alloc ?_ _)); refine blk_put (cs := #[.int .i64 x112000_47, .int .i64 255, .bool (decide (x112000_47 > 255)), .int .i64 a0_3, .int .i64 0]) ?_ 4 _ rfl; (with_reducible repeat (first | refine blk_drewN ?_ _ | refine blk_drew ?_ | refine blk_alloc ?_ _)); refine blk_put (cs := #[.int .i64 x112000_47, .int .i64 255, .bool (decide (x112000_47 > 255)), .int .i64 0, .int .i64 0]) ?_ 3 _ rfl; (with_reducible repeat (first | refine blk_drewN ?_ _ | refine blk_drew ?_ | refine blk_alloc ?_ _)); refine blk_put (cs := #[.int .i64 x112000_47, .int .i64 255, .bool false, .int .i64 0, .int .i64 0]) ?_ 2 _ rfl; (with_reducible repeat (first | refine blk_drewN ?_ _ | refine blk_drew ?_ | refine blk_alloc ?_ _)); refine blk_put (cs := #[.int .i64 x112000_47, .int .i64 0, .bool false, .int .i64 0, .int .i64 0]) ?_ 1 _ rfl; (with_reducible repeat (first | refine blk_drewN ?_ _ | refine blk_drew ?_ | refine blk_alloc ?_ _)); refine blk_put (cs := #[.int .i64 0, .int .i64 0, .bool false, .int .i64 0, .int .i64 0]) ?_ 0 _ rfl; (with_reducible repeat (first | refine blk_drewN ?_ _ | refine blk_drew ?_ | refine blk_alloc ?_ _)); refine blk_far ?_ NB112_111.out _; (with_reducible repeat (first | refine blk_drewN ?_ _ | refine blk_drew ?_ | refine blk_alloc ?_ _)); refine blk_far ?_ NB112_111.out _; (with_reducible repeat (first | refine blk_drewN ?_ _ | refine blk_drew ?_ | refine blk_alloc ?_ _)); exact BK112.out) Try.underlying23 rfl (by kernel_rfl)) rfl ?_
                                                    exact ⟨by first | rfl | (simp [errW_none, errW_some] <;> rfl) | (simp [*, errW_none, errW_some] <;> rfl), by repeat (first | (with_reducible first | exact HB.out | apply below_alloc | apply pw_below_drewN | apply below_drew1 | refine below_set ?_ GE111.out | refine below_set ?_ GE112.out) | exact HB.out)⟩
                                                  · rw [if_neg c72] at H
                                                    have c72b0 : decide (255 < x112001_33) = false := decide_eq_false c72
                                                    clear c72
                                                    simp only [Option.some.injEq, Prod.mk.injEq] at H
                                                    obtain ⟨rfl, rfl, rfl, rfl, rfl, rfl⟩ := H
                                                    have hnb76 := NB111_112.out
                                                    have hnc76 := NB112_111.out
                                                    have hcz77_0 : wc.cell? ⟨gb111, 0, none⟩ = some (.int .i64 x112000_47) := (blk_cell BK111.out 0).trans rfl
                                                    have hcz77_1 : wc.cell? ⟨gb111, 1, none⟩ = some (.int .i64 x112001_33) := (blk_cell BK111.out 1).trans rfl
                                                    have hcz77_2 : wc.cell? ⟨gb111, 2, none⟩ = some (.bool false) := (blk_cell BK111.out 2).trans rfl
                                                    have hcz77_3 : wc.cell? ⟨gb111, 3, none⟩ = some (.int .i64 a0_3) := (blk_cell BK111.out 3).trans rfl
                                                    have hcz77_4 : wc.cell? ⟨gb111, 4, none⟩ = some (.int .i64 a0_4) := (blk_cell BK111.out 4).trans rfl
                                                    have hfz77_0 := blk_frozen BK111.out 0
                                                    have hfz77_1 := blk_frozen BK111.out 1
                                                    have hfz77_2 := blk_frozen BK111.out 2
                                                    have hfz77_3 := blk_frozen BK111.out 3
                                                    have hfz77_4 := blk_frozen BK111.out 4
                                                    have hcz78_0 : wc.cell? ⟨gb112, 0, none⟩ = some (.int .i64 0) := (blk_cell BK112.out 0).trans rfl
                                                    have hcz78_1 : wc.cell? ⟨gb112, 1, none⟩ = some (.int .i64 0) := (blk_cell BK112.out 1).trans rfl
                                                    have hcz78_2 : wc.cell? ⟨gb112, 2, none⟩ = some (.bool false) := (blk_cell BK112.out 2).trans rfl
                                                    have hcz78_3 : wc.cell? ⟨gb112, 3, none⟩ = some (.int .i64 0) := (blk_cell BK112.out 3).trans rfl
                                                    have hcz78_4 : wc.cell? ⟨gb112, 4, none⟩ = some (.int .i64 0) := (blk_cell BK112.out 4).trans rfl
                                                    have hfz78_0 := blk_frozen BK112.out 0
                                                    have hfz78_1 := blk_frozen BK112.out 1
                                                    have hfz78_2 := blk_frozen BK112.out 2
                                                    have hfz78_3 := blk_frozen BK112.out 3
                                                    have hfz78_4 := blk_frozen BK112.out 4
                                                    go_wp2
                                                    refine bodyPost_ret (results_ct rfl _ _ gb112 23 #[.int .i64 x112000_47, .int .i64 x112001_33, .bool (decide (x112000_47 > 255)), .int .i64 a0_3, .int .i64 a0_4] (0, 0) _ rfl (by (with_reducible repeat (first | refine blk_drewN ?_ _ | refine blk_drew ?_ | refine blk_alloc ?_ _)); refine blk_put (cs := #[.int .i64 x112000_47, .int .i64 x112001_33, .bool (decide (x112000_47 > 255)), .int .i64 a0_3, .int .i64 0]) ?_ 4 _ rfl; (with_reducible repeat (first | refine blk_drewN ?_ _ | refine blk_drew ?_ | refine blk_alloc ?_ _)); refine blk_put (cs := #[.int .i64 x112000_47, .int .i64 x112001_33, .bool (decide (x112000_47 > 255)), .int .i64 0, .int .i64 0]) ?_ 3 _ rfl; (with_reducible repeat (first | refine blk_drewN ?_ _ | refine blk_drew ?_ | refine blk_alloc ?_ _)); refine blk_put (cs := #[.int .i64 x112000_47, .int .i64 x112001_33, .bool false, .int .i64 0, .int .i64 0]) ?_ 2 _ rfl; (with_reducible repeat (first | refine blk_drewN ?_ _ | refine blk_drew ?_ | refine blk_alloc ?_ _)); refine blk_put (cs := #[.int .i64 x112000_47, .int .i64 0, .bool false, .int .i64 0, .int .i64 0]) ?_ 1 _ rfl; (with_reducible repeat (first | refine blk_drewN ?_ _ | refine blk_drew ?_ | refine blk_alloc ?_ _)); refine blk_put (cs := #[.int .i64 0, .int .i64 0, .bool false, .int .i64 0, .int .i64 0]) ?_ 0 _ rfl; (with_reducible repeat (first | refine blk_drewN ?_ _ | refine blk_drew ?_ | refine blk_alloc ?_ _)); refine blk_far ?_ NB112_111.out _; (with_reducible repeat (first | refine blk_drewN ?_ _ | refine blk_drew ?_ | refine blk_alloc ?_ _)); exact BK112.out) Try.underlying23 rfl (by kernel_rfl)) rfl ?_
                                                    exact ⟨by first | rfl | (simp [errW_none, errW_some] <;> rfl) | (simp [*, errW_none, errW_some] <;> rfl), by repeat (first | (with_reducible first | exact HB.out | apply below_alloc | apply pw_below_drewN | apply below_drew1 | refine below_set ?_ GE111.out | refine below_set ?_ GE112.out) | exact HB.out)⟩

end Go.Proofs.Ytgpdcgbohodfoaa.P
