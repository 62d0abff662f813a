import Derived.Test.YtlkeipkehfgogaaPx3
import Derived.Test.YtlkeipkehfgogaaXO
namespace Go.Proofs.Ytlkeipkehfgogaa.P
open Go.RowKit Go.Proofs.YtlkeipkehfgogaaW.PrintWords Go.Proofs.YtlkeipkehfgogaaW.PrintLast Go.Proofs.YtlkeipkehfgogaaW.PrintMore
/-- The one statement over numbers and lists that is left of jackstaylaw03_CrcTells. -/
def jackstaylaw03_CrcTells.Pure : Prop := ∀ (x0 : List Bool) (x1 : Int), (fun xs => (∀ x ∈ xs, (fun _ => True) x) ∧ xs.length * 1 ≤ reachBytes) x0 → (fun n => (Lit.int .u16 n).wf = true) x1 → ∃ k, jackstaylaw03_CrcTells.f k x0 x1 = some true
end Go.Proofs.Ytlkeipkehfgogaa.P
