import Derived.Test.YtgpdcgbohodfoaaPx10
import Derived.Test.YtgpdcgbohodfoaaXO
namespace Go.Proofs.Ytgpdcgbohodfoaa.P
open Go.RowKit Go.Proofs.YtgpdcgbohodfoaaW.PrintWords Go.Proofs.YtgpdcgbohodfoaaW.PrintLast Go.Proofs.YtgpdcgbohodfoaaW.PrintMore
/-- The one statement over numbers and lists that is left of jackstaylaw06_ConfPassive. -/
def jackstaylaw06_ConfPassive.Pure : Prop := ∀ (x0 : Int) (x1 : Int), (fun n => (Lit.int .u8 n).wf = true) x0 → (fun n => (Lit.int .u8 n).wf = true) x1 → ∃ k, jackstaylaw06_ConfPassive.f k x0 x1 = some true
end Go.Proofs.Ytgpdcgbohodfoaa.P
