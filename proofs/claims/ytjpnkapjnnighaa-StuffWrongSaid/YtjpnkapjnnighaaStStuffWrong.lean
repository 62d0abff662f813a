import Derived.Test.YtjpnkapjnnighaaPx9
import Derived.Test.YtjpnkapjnnighaaXO
namespace Go.Proofs.Ytjpnkapjnnighaa.P
open Go.RowKit Go.Proofs.YtjpnkapjnnighaaW.PrintWords Go.Proofs.YtjpnkapjnnighaaW.PrintLast Go.Proofs.YtjpnkapjnnighaaW.PrintMore
/-- The one statement over numbers and lists that is left of jackstaylaw02_StuffWrong. -/
def jackstaylaw02_StuffWrong.Pure : Prop := ∀ (x0 : List Bool) (x1 : Int), (fun xs => (∀ x ∈ xs, (fun _ => True) x) ∧ xs.length * 1 ≤ reachBytes) x0 → (fun n => (Lit.int .u16 n).wf = true) x1 → ∃ k, jackstaylaw02_StuffWrong.f k x0 x1 = some true
end Go.Proofs.Ytjpnkapjnnighaa.P
