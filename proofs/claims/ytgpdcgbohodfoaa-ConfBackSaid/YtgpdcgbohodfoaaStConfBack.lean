import Derived.Test.YtgpdcgbohodfoaaPx7
import Derived.Test.YtgpdcgbohodfoaaXO
namespace Go.Proofs.Ytgpdcgbohodfoaa.P
open Go.RowKit Go.Proofs.YtgpdcgbohodfoaaW.PrintWords Go.Proofs.YtgpdcgbohodfoaaW.PrintLast Go.Proofs.YtgpdcgbohodfoaaW.PrintMore
/-- The one statement over numbers and lists that is left of jackstaylaw06_ConfBack. -/
def jackstaylaw06_ConfBack.Pure : Prop := ∀ (x0 : List (S34)), (fun xs => (∀ x ∈ xs, (fun x : S34 => (fun n => (Lit.int .u8 n).wf = true) x.f0 ∧ (fun _ => True) x.f1 ∧ (fun n => (Lit.int .u8 n).wf = true) x.f2) x) ∧ xs.length * 3 ≤ reachBytes) x0 → ∃ k, jackstaylaw06_ConfBack.f k x0 = some true
end Go.Proofs.Ytgpdcgbohodfoaa.P
