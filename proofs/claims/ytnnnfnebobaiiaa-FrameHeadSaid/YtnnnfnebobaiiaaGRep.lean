/- Printed by the kit and by programs of this work for the claim of aaRowFrameHead, without what the claim does not name. -/
import Derived.Laws.CopyOwn
import Derived.Test.YtnnnfnebobaiiaaPx0
import Derived.Test.YtnnnfnebobaiiaaXO
namespace Go.Proofs.Ytnnnfnebobaiiaa.P
open Go.RowKit Go.Proofs.YtnnnfnebobaiiaaW.PrintWords Go.Proofs.YtnnnfnebobaiiaaW.PrintLast Go.Proofs.YtnnnfnebobaiiaaW.PrintMore
set_option linter.unusedVariables false
set_option linter.unusedSimpArgs false
def slices_Repeat.f (l0 : List Bool) (n : Int) : Option (List Bool) := if l0 = [true] ∧ n = 10 then some (List.replicate 10 true) else none
end Go.Proofs.Ytnnnfnebobaiiaa.P
