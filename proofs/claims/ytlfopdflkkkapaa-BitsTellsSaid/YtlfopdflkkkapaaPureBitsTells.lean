/- The statement over numbers and lists that is left of the law BitsTells: bits, numbers, bytes and the bus are as the document's answer tells them. -/
import Derived.Test.YtlfopdflkkkapaaStBitsTells
import Derived.Test.YtlfopdflkkkapaaSR1
import Derived.Test.YtlfopdflkkkapaaSL
namespace Go.Proofs.Ytlfopdflkkkapaa.Pure
open Go.RowKit Go.Proofs.YtlfopdflkkkapaaW.PrintWords Go.Proofs.YtlfopdflkkkapaaW.PrintLast Go.Proofs.YtlfopdflkkkapaaW.PrintMore Go.Proofs.Ytlfopdflkkkapaa.L Go.Proofs.Ytlfopdflkkkapaa.P
set_option linter.unusedSimpArgs false
theorem awake_evT : Ev (fun k => jackstaylaw01_awake.f k) true := Ev.of jackstaylaw01_awake.mono (k := 30) (by decide +kernel)
theorem BitsTells : jackstaylaw01_BitsTells.Pure := by
  rintro x0 x1 x2 x3 h0 h1 ⟨h2, -⟩ -
  refine Ev.rounds ?_
  have hA : ∀ (a : List Int), Ev (fun k => jackstaylaw01_BitsTells.j0 k x0 x1 a x3 true) true := fun a => by
    refine Ev.next ?_
    simp only [jackstaylaw01_BitsTells.j0]
    exact Ev.pos (by simp) (Ev.bind awake_evT (Ev.now true))
  simp only [jackstaylaw01_BitsTells.f]
  refine Ev.ite (fun _ => hA _) (fun c0 => ?_)
  by_cases c1 : (x3.length : Int) > 300
  · rw [decide_eq_true c1]; exact hA _
  rw [decide_eq_false c1]
  have w0 := wf_u32 h0
  have w1 := wf_i64 h1
  obtain ⟨n, rfl⟩ := Int.eq_ofNat_of_zero_le w0.1
  obtain ⟨a, rfl, ha⟩ := ints_of x2 256 (fun x hx => by have := wf_u8 (h2 x hx); omega)
  rw [length_ints] at c0
  have ha' : ∀ x ∈ a, x < 256 := fun x hx => by have := ha x hx; omega
  obtain ⟨r, hr⟩ : ∃ r : Nat, (r : Int) = mx 0 (mn x1 64) := ⟨(mx 0 (mn x1 64)).toNat, by unfold mx mn; split <;> split <;> omega⟩
  refine Ev.next ?_
  simp only [jackstaylaw01_BitsTells.j0]
  refine Ev.neg (by decide) (Ev.some_bind ?_)
  refine Ev.pos (by rw [length_ints]; simp; omega) (Ev.some_bind ?_)
  rw [List.nil_append]
  have hr64 : r ≤ 64 := by unfold mx mn at hr; split at hr <;> split at hr <;> omega
  refine Ev.bind (jackstaylow_Anew.ev x3 (by omega)) ?_
  refine Ev.bind (bits_Of.ev n x1 (by omega) r hr) ?_
  refine Ev.bind (jackstayref01_Of.ev n x1 (by omega) r hr) ?_
  refine Ev.bind (jackstaylow_Same.yes _ (by rw [length_bitsN]; omega)) ?_
  refine Ev.pos (by simp) ?_
  refine Ev.bind (bits_Number.ev x3 (by omega)) ?_
  refine Ev.bind (jackstayref01_Number.ev x3 (by omega)) ?_
  refine Ev.next ?_
  simp only [jackstaylaw01_BitsTells.j1]
  refine Ev.neg (by simp) ?_
  refine Ev.bind (bits_OfBytes.ev a ha' (by omega)) ?_
  refine Ev.bind (jackstayref01_OfBytes.ev a ha' (by omega)) ?_
  refine Ev.bind (jackstaylow_Same.yes _ (by rw [length_bitsB]; omega)) ?_
  refine Ev.pos (by simp) ?_
  refine Ev.bind (bits_Bytes.ev x3 (by omega)) ?_
  refine Ev.bind (jackstayref01_Bytes.ev x3 (by omega)) ?_
  have hby : ∀ x ∈ bytesB x3, x < 256 := by
    intro x hx
    simp only [bytesB, List.mem_map] at hx
    obtain ⟨i, _, rfl⟩ := hx
    have h1 := numN_lt ((x3.drop (8 * i)).take 8)
    have h2 : 2 ^ ((x3.drop (8 * i)).take 8).length ≤ 2 ^ 8 := Nat.pow_le_pow_right (by decide) (by rw [List.length_take]; omega)
    omega
  refine Ev.bind (jackstaylow_Alike.ev _ _ hby hby) ?_
  refine Ev.pos (by simp) ?_
  refine Ev.bind (bits_Bus.ev x3 (by omega)) ?_
  refine Ev.bind (jackstayref01_Bus.ev x3 (by omega)) ?_
  refine Ev.next ?_
  simp only [jackstaylaw01_BitsTells.j2]
  refine Ev.neg (by simp) ?_
  refine Ev.bind (jackstaylow_Alike.ev a a ha' ha') ?_
  refine Ev.pos (by simp) ?_
  refine Ev.bind (jackstaylow_Same.yes x3 (by omega)) ?_
  exact Ev.pos (by simp) (Ev.bind awake_evT (Ev.now true))
end Go.Proofs.Ytlfopdflkkkapaa.Pure
