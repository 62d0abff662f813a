import Derived.Test.YtlkeipkehfgogaaPx6
import Derived.Test.YtlkeipkehfgogaaXO
namespace Go.Proofs.Ytlkeipkehfgogaa.P
open Go.RowKit Go.Proofs.YtlkeipkehfgogaaW.PrintWords Go.Proofs.YtlkeipkehfgogaaW.PrintLast Go.Proofs.YtlkeipkehfgogaaW.PrintMore
/-- The one statement over numbers and lists that is left of jackstaylaw03_CrcFinds. -/
def jackstaylaw03_CrcFinds.Pure : Prop := ∀ (x0 : List Bool) (x1 : Int) (x2 : List Bool) (x3 : List Int), (fun xs => (∀ x ∈ xs, (fun _ => True) x) ∧ xs.length * 1 ≤ reachBytes) x0 → (fun n => (Lit.int .u16 n).wf = true) x1 → (fun xs => (∀ x ∈ xs, (fun _ => True) x) ∧ xs.length * 1 ≤ reachBytes) x2 → (fun xs => (∀ x ∈ xs, (fun n => (Lit.int .u16 n).wf = true) x) ∧ xs.length * 2 ≤ reachBytes) x3 → ∃ k, jackstaylaw03_CrcFinds.f k x0 x1 x2 x3 = some true
end Go.Proofs.Ytlkeipkehfgogaa.P
