import Derived.Test.YtgpdcgbohodfoaaPx9
import Derived.Test.YtgpdcgbohodfoaaXO
namespace Go.Proofs.Ytgpdcgbohodfoaa.P
open Go.RowKit Go.Proofs.YtgpdcgbohodfoaaW.PrintWords Go.Proofs.YtgpdcgbohodfoaaW.PrintLast Go.Proofs.YtgpdcgbohodfoaaW.PrintMore
/-- The one statement over numbers and lists that is left of jackstaylaw06_ConfCounts. -/
def jackstaylaw06_ConfCounts.Pure : Prop := ∀ (x0 : Int) (x1 : Int) (x2 : Int) (x3 : Int), (fun n => (Lit.int .u8 n).wf = true) x0 → (fun n => (Lit.int .u8 n).wf = true) x1 → (fun n => (Lit.int .u8 n).wf = true) x2 → (fun n => (Lit.int .u8 n).wf = true) x3 → ∃ k, jackstaylaw06_ConfCounts.f k x0 x1 x2 x3 = some true
end Go.Proofs.Ytgpdcgbohodfoaa.P
