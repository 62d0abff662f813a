/- Printed by the kit and by programs of this work for the claim of aaRowFrameLong, without what the claim does not name. -/
import Derived.Test.YtnnnfnebobaiiaaPx0
import Derived.Test.YtnnnfnebobaiiaaPx8
namespace Go.Proofs.Ytnnnfnebobaiiaa.P
open Go.RowKit Go.Proofs.YtnnnfnebobaiiaaW.PrintWords Go.Proofs.YtnnnfnebobaiiaaW.PrintLast Go.Proofs.YtnnnfnebobaiiaaW.PrintMore
attribute [local go_sem] max2_int min2_int max_two min_two max_three min_three max_four min_four
set_option linter.unusedVariables false
set_option linter.unusedSimpArgs false
def stuff_Take.l0 : Nat → List Bool → List Bool → Int → Int → Bool → Int → Option (List Bool × Int)
  | 0, _, _, _, _, _, _ => none
  | k + 1, x4, x10, x11, x12, x745000, x745001 => if x12 < x11 then (if 0 ≤ x12 then (if x12 < (x10.length : Int) then ((stuff_Next.f k x745000 x745001 (rdOf false x10 x12)).bind fun bt746 => (if bt746.2.2 = 2 then (some (x4, x12)) else (if bt746.2.2 = 0 then (if x4.length < 140737488355328 then (stuff_Take.l0 k (x4 ++ [rdOf false x10 x12]) x10 x11 (wrap64 (x12 + 1)) bt746.1 bt746.2.1) else (none)) else (stuff_Take.l0 k x4 x10 x11 (wrap64 (x12 + 1)) bt746.1 bt746.2.1)))) else (none)) else (none)) else (some (x4, (-1)))
def stuff_Take.f (k : Nat) (l0 : List Bool) : Option (List Bool × Int) := stuff_Take.l0 k ([] : List Bool) l0 (l0.length : Int) 0 false 0
theorem stuff_Take.mono_l : ∀ k, (∀ y0 y1 y2 y3 y4 y5, LeO (stuff_Take.l0 k y0 y1 y2 y3 y4 y5) (stuff_Take.l0 (k + 1) y0 y1 y2 y3 y4 y5))
  | 0 => fun _ _ _ _ _ _ r h => by simp [stuff_Take.l0] at h
  | k + 1 => by
    have ih0 := stuff_Take.mono_l k
    · intro y0 y1 y2 y3 y4 y5
      unfold stuff_Take.l0
      repeat' first
      | (with_reducible exact ih0 _ _ _ _ _ _)
      | (with_reducible exact stuff_Next.mono _ _ _ _)
      | (with_reducible exact LeO.refl _)
      | (with_reducible exact LeO.none _)
      | (with_reducible refine LeO.ite ?_ ?_)
      | (with_reducible refine LeO.bind ?_ (fun _ => ?_))
      | exact ih0 _ _ _ _ _ _
      | exact stuff_Next.mono _ _ _ _
      | exact LeO.none _
      | refine LeO.ite ?_ ?_
      | refine LeO.bind ?_ (fun _ => ?_)
theorem stuff_Take.mono : ∀ a0 k, LeO (stuff_Take.f k a0) (stuff_Take.f (k + 1) a0) := by
  intro a0 k
  have ih0 := stuff_Take.mono_l k
  unfold stuff_Take.f
  repeat' first
      | (with_reducible exact ih0 _ _ _ _ _ _)
      | (with_reducible exact stuff_Next.mono _ _ _ _)
      | (with_reducible exact LeO.refl _)
      | (with_reducible exact LeO.none _)
      | (with_reducible refine LeO.ite ?_ ?_)
      | (with_reducible refine LeO.bind ?_ (fun _ => ?_))
      | exact ih0 _ _ _ _ _ _
      | exact stuff_Next.mono _ _ _ _
      | exact LeO.none _
      | refine LeO.ite ?_ ?_
      | refine LeO.bind ?_ (fun _ => ?_)
end Go.Proofs.Ytnnnfnebobaiiaa.P
