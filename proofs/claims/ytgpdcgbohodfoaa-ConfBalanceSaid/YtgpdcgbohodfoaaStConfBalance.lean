import Derived.Test.YtgpdcgbohodfoaaPx11
import Derived.Test.YtgpdcgbohodfoaaXO
namespace Go.Proofs.Ytgpdcgbohodfoaa.P
open Go.RowKit Go.Proofs.YtgpdcgbohodfoaaW.PrintWords Go.Proofs.YtgpdcgbohodfoaaW.PrintLast Go.Proofs.YtgpdcgbohodfoaaW.PrintMore
/-- The one statement over numbers and lists that is left of jackstaylaw06_ConfBalance. -/
def jackstaylaw06_ConfBalance.Pure : Prop := ∀ (x0 : List Int), (fun xs => (∀ x ∈ xs, (fun n => (Lit.int .u8 n).wf = true) x) ∧ xs.length * 1 ≤ reachBytes) x0 → ∃ k, jackstaylaw06_ConfBalance.f k x0 = some true
end Go.Proofs.Ytgpdcgbohodfoaa.P
