/- The statement over numbers and lists that is left of the law CrcTells: the sum of bits, and the bits of a sum, are as the document defines. -/
import Derived.Test.YtlkeipkehfgogaaStCrcTells
import Derived.Test.YtlkeipkehfgogaaGAwake3
import Derived.Test.YtlkeipkehfgogaaSL
import Derived.Test.YtlkeipkehfgogaaSR3
namespace Go.Proofs.Ytlkeipkehfgogaa.Pure
open Go.RowKit Go.Proofs.YtlkeipkehfgogaaW.PrintWords Go.Proofs.YtlkeipkehfgogaaW.PrintLast Go.Proofs.YtlkeipkehfgogaaW.PrintMore Go.Proofs.Ytlkeipkehfgogaa.L Go.Proofs.Ytlkeipkehfgogaa.P
set_option linter.unusedSimpArgs false
theorem awakeA : Ev (fun _ => jackstaylaw03_awake.f) true := Ev.const rfl
theorem CrcTells : jackstaylaw03_CrcTells.Pure := by
  intro l s _ hs
  have hs2 := wf_u16 hs
  obtain ⟨n, rfl⟩ : ∃ n : Nat, s = (n : Int) := ⟨s.toNat, by omega⟩
  refine Ev.rounds (r := true) ?_
  simp only [jackstaylaw03_CrcTells.f]
  refine Ev.ite (fun hc => ?_) (fun hc => ?_)
  · exact Ev.bind awakeA (Ev.now _)
  · refine Ev.bind (crc_Sum.ev l) ?_
    refine Ev.bind (jackstayref03_Sum.ev l (by omega)) ?_
    refine Ev.pos rfl ?_
    refine Ev.bind (crc_Bits.ev n (by omega)) ?_
    refine Ev.bind (jackstayref03_Bits.ev n (by omega)) ?_
    refine Ev.bind (jackstaylow_Same.yes _ (by rw [length_bitsN]; decide)) ?_
    exact Ev.pos rfl (Ev.bind awakeA (Ev.now _))
end Go.Proofs.Ytlkeipkehfgogaa.Pure
