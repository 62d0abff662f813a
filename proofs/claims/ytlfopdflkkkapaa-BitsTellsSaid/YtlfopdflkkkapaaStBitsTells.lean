import Derived.Test.YtlfopdflkkkapaaPx4
import Derived.Test.YtlfopdflkkkapaaXO
namespace Go.Proofs.Ytlfopdflkkkapaa.P
open Go.RowKit Go.Proofs.YtlfopdflkkkapaaW.PrintWords Go.Proofs.YtlfopdflkkkapaaW.PrintLast Go.Proofs.YtlfopdflkkkapaaW.PrintMore
/-- The one statement over numbers and lists that is left of jackstaylaw01_BitsTells. -/
def jackstaylaw01_BitsTells.Pure : Prop := ∀ (x0 : Int) (x1 : Int) (x2 : List Int) (x3 : List Bool), (fun n => (Lit.int .u32 n).wf = true) x0 → (fun n => (Lit.int .i64 n).wf = true) x1 → (fun xs => (∀ x ∈ xs, (fun n => (Lit.int .u8 n).wf = true) x) ∧ xs.length * 1 ≤ reachBytes) x2 → (fun xs => (∀ x ∈ xs, (fun _ => True) x) ∧ xs.length * 1 ≤ reachBytes) x3 → ∃ k, jackstaylaw01_BitsTells.f k x0 x1 x2 x3 = some true
end Go.Proofs.Ytlfopdflkkkapaa.P
