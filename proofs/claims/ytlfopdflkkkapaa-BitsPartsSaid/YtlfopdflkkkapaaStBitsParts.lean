import Derived.Test.YtlfopdflkkkapaaPx2
import Derived.Test.YtlfopdflkkkapaaXO
namespace Go.Proofs.Ytlfopdflkkkapaa.P
open Go.RowKit Go.Proofs.YtlfopdflkkkapaaW.PrintWords Go.Proofs.YtlfopdflkkkapaaW.PrintLast Go.Proofs.YtlfopdflkkkapaaW.PrintMore
/-- The one statement over numbers and lists that is left of jackstaylaw01_BitsParts. -/
def jackstaylaw01_BitsParts.Pure : Prop := ∀ (x0 : List Int) (x1 : List Int) (x2 : Int) (x3 : Int), (fun xs => (∀ x ∈ xs, (fun n => (Lit.int .u8 n).wf = true) x) ∧ xs.length * 1 ≤ reachBytes) x0 → (fun xs => (∀ x ∈ xs, (fun n => (Lit.int .u8 n).wf = true) x) ∧ xs.length * 1 ≤ reachBytes) x1 → (fun n => (Lit.int .u32 n).wf = true) x2 → (fun n => (Lit.int .u8 n).wf = true) x3 → ∃ k, jackstaylaw01_BitsParts.f k x0 x1 x2 x3 = some true
end Go.Proofs.Ytlfopdflkkkapaa.P
