import Derived.Test.YtjpnkapjnnighaaPx7
import Derived.Test.YtjpnkapjnnighaaXO
namespace Go.Proofs.Ytjpnkapjnnighaa.P
open Go.RowKit Go.Proofs.YtjpnkapjnnighaaW.PrintWords Go.Proofs.YtjpnkapjnnighaaW.PrintLast Go.Proofs.YtjpnkapjnnighaaW.PrintMore
/-- The one statement over numbers and lists that is left of jackstaylaw02_StuffTells. -/
def jackstaylaw02_StuffTells.Pure : Prop := ∀ (x0 : S23) (x1 : Bool) (x2 : List Bool), (fun x : S23 => (fun _ => True) x.f0 ∧ (fun n => (Lit.int .u8 n).wf = true) x.f1) x0 → (fun xs => (∀ x ∈ xs, (fun _ => True) x) ∧ xs.length * 1 ≤ reachBytes) x2 → ∃ k, jackstaylaw02_StuffTells.f k x0.f0 x0.f1 x1 x2 = some true
end Go.Proofs.Ytjpnkapjnnighaa.P
