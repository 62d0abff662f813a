/- Printed by the kit and by programs of this work for the claim of aaRowFrameLong, without what the claim does not name. -/
import Derived.Test.YtnnnfnebobaiiaaPx19
import Derived.Test.YtnnnfnebobaiiaaSF
import Derived.Test.YtnnnfnebobaiiaaSS
import Derived.Test.YtnnnfnebobaiiaaLFw
namespace Go.Proofs.Ytnnnfnebobaiiaa.P
open Go.RowKit Go.Proofs.YtnnnfnebobaiiaaW.PrintWords Go.Proofs.YtnnnfnebobaiiaaW.PrintLast Go.Proofs.YtnnnfnebobaiiaaW.PrintMore Go.Proofs.Ytnnnfnebobaiiaa.L
set_option linter.unusedSimpArgs false
def wireE (f : Fr) : List Bool × Int := if f.right then (wireN f, 0) else ([], 40)
theorem frame_Wire.ev {f : Fr} (h : f.Mach) : Ev (fun k => frame_Wire.f k (f.id : Int) f.ext f.rem (f.dlc : Int) (ints f.data)) (wireE f) := by
  simp only [frame_Wire.f]
  refine Ev.bind (frame_Body.ev h) ?_
  unfold bodyE wireE
  cases hr : f.right with
  | false => exact Ev.neg (by simp) (Ev.now _)
  | true =>
    have hb := bodyN_le ((Fr.right_iff f).1 hr)
    refine Ev.pos rfl ?_
    simp only [if_true]
    refine Ev.bind (stuff_Put.ev (bodyN f) (by omega)) ?_
    refine Ev.bind (Ev.const (r := List.replicate 10 true) rfl) ?_
    have hp := put_long (bodyN f) (false, 0) (by decide)
    refine Ev.pos (by simp; omega) ?_
    exact Ev.now _
end Go.Proofs.Ytnnnfnebobaiiaa.P
