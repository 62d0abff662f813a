/- Printed by the kit and by programs of this work for the claim of aaRowFrameLong, without what the claim does not name. -/
import Derived.Test.YtnnnfnebobaiiaaPx23
import Derived.Test.YtnnnfnebobaiiaaXO
namespace Go.Proofs.Ytnnnfnebobaiiaa.P
open Go.RowKit Go.Proofs.YtnnnfnebobaiiaaW.PrintWords Go.Proofs.YtnnnfnebobaiiaaW.PrintLast Go.Proofs.YtnnnfnebobaiiaaW.PrintMore
def jackstaylaw04_FrameLong.Pure : Prop := ∀ (x0 : S25), (fun x : S25 => (fun n => (Lit.int .u32 n).wf = true) x.f0 ∧ (fun _ => True) x.f1 ∧ (fun _ => True) x.f2 ∧ (fun n => (Lit.int .u8 n).wf = true) x.f3 ∧ (fun xs => (∀ x ∈ xs, (fun n => (Lit.int .u8 n).wf = true) x) ∧ xs.length * 1 ≤ reachBytes) x.f4) x0 → ∃ k, jackstaylaw04_FrameLong.f k x0.f0 x0.f1 x0.f2 x0.f3 x0.f4 = some true
end Go.Proofs.Ytnnnfnebobaiiaa.P
