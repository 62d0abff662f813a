import Derived.Test.YtlfopdflkkkapaaPx5
import Derived.Test.YtlfopdflkkkapaaXO
namespace Go.Proofs.Ytlfopdflkkkapaa.P
open Go.RowKit Go.Proofs.YtlfopdflkkkapaaW.PrintWords Go.Proofs.YtlfopdflkkkapaaW.PrintLast Go.Proofs.YtlfopdflkkkapaaW.PrintMore
/-- The one statement over numbers and lists that is left of jackstaylaw01_BitsBack. -/
def jackstaylaw01_BitsBack.Pure : Prop := ∀ (x0 : Int) (x1 : Int) (x2 : List Int) (x3 : Int), (fun n => (Lit.int .u32 n).wf = true) x0 → (fun n => (Lit.int .u8 n).wf = true) x1 → (fun xs => (∀ x ∈ xs, (fun n => (Lit.int .u8 n).wf = true) x) ∧ xs.length * 1 ≤ reachBytes) x2 → (fun n => (Lit.int .u8 n).wf = true) x3 → ∃ k, jackstaylaw01_BitsBack.f k x0 x1 x2 x3 = some true
end Go.Proofs.Ytlfopdflkkkapaa.P
