import Derived.Test.YtjpnkapjnnighaaPx10
import Derived.Test.YtjpnkapjnnighaaXO
namespace Go.Proofs.Ytjpnkapjnnighaa.P
open Go.RowKit Go.Proofs.YtjpnkapjnnighaaW.PrintWords Go.Proofs.YtjpnkapjnnighaaW.PrintLast Go.Proofs.YtjpnkapjnnighaaW.PrintMore
/-- The one statement over numbers and lists that is left of jackstaylaw02_StuffRows. -/
def jackstaylaw02_StuffRows.Pure : Prop := ∀ (x0 : List Bool), (fun xs => (∀ x ∈ xs, (fun _ => True) x) ∧ xs.length * 1 ≤ reachBytes) x0 → ∃ k, jackstaylaw02_StuffRows.f k x0 = some true
end Go.Proofs.Ytjpnkapjnnighaa.P
