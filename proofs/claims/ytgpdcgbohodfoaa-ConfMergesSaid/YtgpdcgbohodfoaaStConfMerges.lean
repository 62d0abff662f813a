import Derived.Test.YtgpdcgbohodfoaaPx12
import Derived.Test.YtgpdcgbohodfoaaXO
namespace Go.Proofs.Ytgpdcgbohodfoaa.P
open Go.RowKit Go.Proofs.YtgpdcgbohodfoaaW.PrintWords Go.Proofs.YtgpdcgbohodfoaaW.PrintLast Go.Proofs.YtgpdcgbohodfoaaW.PrintMore
/-- The one statement over numbers and lists that is left of jackstaylaw06_ConfMerges. -/
def jackstaylaw06_ConfMerges.Pure : Prop := ∀ (x0 : S23) (x1 : List Int), (fun x : S23 => (fun n => (Lit.int .i64 n).wf = true) x.f0 ∧ (fun n => (Lit.int .i64 n).wf = true) x.f1 ∧ (fun _ => True) x.f2 ∧ (fun n => (Lit.int .i64 n).wf = true) x.f3 ∧ (fun n => (Lit.int .i64 n).wf = true) x.f4) x0 → (fun xs => (∀ x ∈ xs, (fun n => (Lit.int .u8 n).wf = true) x) ∧ xs.length * 1 ≤ reachBytes) x1 → ∃ k, jackstaylaw06_ConfMerges.f k x0.f0 x0.f1 x0.f2 x0.f3 x0.f4 x1 = some true
end Go.Proofs.Ytgpdcgbohodfoaa.P
