/- The statement over numbers and lists that is left of the law BitsParts: the bits of two rows of bytes are those of both together, and a number's bits are those of its upper and its lower part. -/
import Derived.Test.YtlfopdflkkkapaaStBitsParts
import Derived.Test.YtlfopdflkkkapaaSB
import Derived.Test.YtlfopdflkkkapaaSL
namespace Go.Proofs.Ytlfopdflkkkapaa.Pure
open Go.RowKit Go.Proofs.YtlfopdflkkkapaaW.PrintWords Go.Proofs.YtlfopdflkkkapaaW.PrintLast Go.Proofs.YtlfopdflkkkapaaW.PrintMore Go.Proofs.Ytlfopdflkkkapaa.L Go.Proofs.Ytlfopdflkkkapaa.P
set_option linter.unusedSimpArgs false
theorem awake_ev : Ev (fun k => jackstaylaw01_awake.f k) true := Ev.of jackstaylaw01_awake.mono (k := 30) (by decide +kernel)
theorem BitsParts : jackstaylaw01_BitsParts.Pure := by
  rintro x0 x1 x2 x3 ⟨h0, -⟩ ⟨h1, -⟩ h2 h3
  refine Ev.rounds ?_
  have hA : ∀ (a0 a1 : List Int), Ev (fun k => jackstaylaw01_BitsParts.j0 k a0 a1 x2 x3 true) true := fun a0 a1 => by
    refine Ev.next ?_
    simp only [jackstaylaw01_BitsParts.j0]
    exact Ev.pos (by simp) (Ev.bind awake_ev (Ev.now true))
  simp only [jackstaylaw01_BitsParts.f]
  refine Ev.ite (fun _ => hA _ _) (fun c0 => ?_)
  by_cases c1 : (x1.length : Int) > 50
  · rw [decide_eq_true c1]; exact hA _ _
  rw [decide_eq_false c1]
  obtain ⟨a, rfl, ha⟩ := ints_of x0 256 (fun x hx => by have := wf_u8 (h0 x hx); omega)
  obtain ⟨b, rfl, hb⟩ := ints_of x1 256 (fun x hx => by have := wf_u8 (h1 x hx); omega)
  have w2 : 0 ≤ x2 ∧ x2 < 4294967296 := by have := wf_u32 h2; omega
  have w3 := wf_u8 h3
  obtain ⟨n, rfl⟩ := Int.eq_ofNat_of_zero_le w2.1
  obtain ⟨c, rfl⟩ := Int.eq_ofNat_of_zero_le w3.1
  rw [length_ints] at c0 c1
  have ha' : ∀ x ∈ a, x < 256 := fun x hx => by have := ha x hx; omega
  have hb' : ∀ x ∈ b, x < 256 := fun x hx => by have := hb x hx; omega
  have hk : c % 33 < 33 := Nat.mod_lt _ (by decide)
  have ek : wrap64 (Int.tmod (c : Int) 33) = ((c % 33 : Nat) : Int) := by
    rw [show Int.tmod (c : Int) 33 = ((c % 33 : Nat) : Int) from rfl]
    exact w64 (by omega) (by omega)
  generalize hm : c % 33 = m at *
  refine Ev.next ?_
  simp only [jackstaylaw01_BitsParts.j0]
  refine Ev.neg (by decide) (Ev.some_bind ?_)
  refine Ev.pos (by rw [length_ints]; simp; omega) (Ev.some_bind ?_)
  refine Ev.pos (by rw [List.length_append, length_ints, length_ints]; simp; omega) ?_
  rw [List.nil_append, ← ints_append]
  refine Ev.bind (bits_OfBytes.ev (a ++ b) (fun x hx => (List.mem_append.1 hx).elim (ha' x) (hb' x)) (by rw [List.length_append]; omega)) ?_
  refine Ev.bind (bits_OfBytes.ev a ha' (by omega)) ?_
  refine Ev.bind (jackstaylow_Anew.ev _ (by rw [length_bitsB]; omega)) ?_
  refine Ev.bind (bits_OfBytes.ev b hb' (by omega)) ?_
  refine Ev.pos (by rw [length_bitsB, length_bitsB]; omega) ?_
  rw [bitsB_append]
  refine Ev.bind (jackstaylow_Same.yes _ (by rw [List.length_append, length_bitsB, length_bitsB]; omega)) ?_
  refine Ev.pos (by simp) ?_
  rw [ek]
  refine Ev.pos (by omega) ?_
  have e1 : shr .u64 (IntKind.u64.wrap (n : Int)) (m : Int) % 4294967296 = ((n / 2 ^ m : Nat) : Int) := by
    have hq := Nat.div_le_self n (2 ^ m)
    rw [wu64 (by omega) (by omega)]
    have e : shr .u64 (n : Int) (m : Int) = ((n / 2 ^ m : Nat) : Int) := by
      simp only [shr, Int.toNat_natCast, IntKind.bits, Nat.min_eq_left (show m ≤ 64 by omega)]
      simp
    rw [e]
    generalize n / 2 ^ m = q at *
    omega
  have e2 : wrap64 (32 - (m : Int)) = ((32 - m : Nat) : Int) := by rw [w64 (by omega) (by omega)]; omega
  rw [e1, e2]
  have hq := Nat.div_le_self n (2 ^ m)
  refine Ev.bind (bits_Of.ev' (n / 2 ^ m) (32 - m) (by omega) (by omega)) ?_
  refine Ev.bind (jackstaylow_Anew.ev _ (by rw [length_bitsN]; omega)) ?_
  refine Ev.bind (bits_Of.ev' n m (by omega) (by omega)) ?_
  refine Ev.pos (by rw [length_bitsN, length_bitsN]; omega) ?_
  refine Ev.bind (bits_Of.ev' n 32 (by omega) (by omega)) ?_
  have e3 : bitsN (32 - m) (n / 2 ^ m) ++ bitsN m n = bitsN 32 n := by rw [← bitsN_append, show 32 - m + m = 32 by omega]
  rw [e3]
  refine Ev.bind (jackstaylow_Same.yes _ (by rw [length_bitsN]; omega)) ?_
  exact Ev.pos (by simp) (Ev.bind awake_ev (Ev.now true))
end Go.Proofs.Ytlfopdflkkkapaa.Pure
