/- Printed by the kit and by programs of this work for the claim of aaRowFrameHead, without what the claim does not name. -/
import Derived.Laws.BytesArg
import Derived.ChangeKeysEq
import Derived.Test.YtnnnfnebobaiiaaPx6
import Derived.Test.YtnnnfnebobaiiaaPx8
import Derived.Test.YtnnnfnebobaiiaaGAnew
import Derived.Test.YtnnnfnebobaiiaaLB
import Derived.Test.YtnnnfnebobaiiaaEV
namespace Go.Proofs.Ytnnnfnebobaiiaa.P
open Go.RowKit Go.Proofs.YtnnnfnebobaiiaaW.PrintWords Go.Proofs.YtnnnfnebobaiiaaW.PrintLast Go.Proofs.YtnnnfnebobaiiaaW.PrintMore Go.Proofs.Ytnnnfnebobaiiaa.L
set_option linter.unusedSimpArgs false
theorem jackstaylow_Anew.ev (a : List Bool) (hl : a.length ≤ 140737488355328) : Ev (fun _ => jackstaylow_Anew.f a) a := Ev.const (by simp [jackstaylow_Anew.f, hl])
end Go.Proofs.Ytnnnfnebobaiiaa.P
