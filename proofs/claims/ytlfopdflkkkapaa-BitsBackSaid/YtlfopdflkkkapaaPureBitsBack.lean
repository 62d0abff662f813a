/- The statement over numbers and lists that is left of the law BitsBack: numbers and bytes are told back by their bits; bits more ahead, all dominant, say nothing. -/
import Derived.Test.YtlfopdflkkkapaaStBitsBack
import Derived.Test.YtlfopdflkkkapaaSB
import Derived.Test.YtlfopdflkkkapaaSL
import Derived.Test.YtlfopdflkkkapaaSBy
namespace Go.Proofs.Ytlfopdflkkkapaa.Pure
open Go.RowKit Go.Proofs.YtlfopdflkkkapaaW.PrintWords Go.Proofs.YtlfopdflkkkapaaW.PrintLast Go.Proofs.YtlfopdflkkkapaaW.PrintMore Go.Proofs.Ytlfopdflkkkapaa.L Go.Proofs.Ytlfopdflkkkapaa.P
set_option linter.unusedSimpArgs false
theorem awake_evB : Ev (fun k => jackstaylaw01_awake.f k) true := Ev.of jackstaylaw01_awake.mono (k := 30) (by decide +kernel)
theorem BitsBack_l0 (x0 : List Nat) (c : Nat) (ha : ∀ x ∈ x0, x < 256) (hl : x0.length ≤ 100) (hc : c < 256) (z : Nat) (hz : z ≤ 32) : ∀ (d i : Nat), d + i = z →
    Ev (fun k => jackstaylaw01_BitsBack.l0 k (ints x0) (c : Int) (List.replicate z false) (z : Int) (i : Int)) true
  | 0, i, h => by
    refine Ev.next ?_
    simp only [jackstaylaw01_BitsBack.l0]
    refine Ev.neg (by omega) ?_
    refine Ev.bind (bits_OfBytes.ev x0 ha (by omega)) ?_
    refine Ev.bind (jackstaylow_Anew.ev _ (by rw [length_bitsB]; omega)) ?_
    have e1 : (c : Int) % 4294967296 = (c : Int) := by omega
    have e2 : wrap64 (Int.tmod (c : Int) 8) = ((c % 8 : Nat) : Int) := by
      rw [show Int.tmod (c : Int) 8 = ((c % 8 : Nat) : Int) from rfl]
      exact w64 (by omega) (by omega)
    rw [e1, e2]
    refine Ev.bind (bits_Of.ev' c (c % 8) (by omega) (by omega)) ?_
    refine Ev.pos (by rw [length_bitsN, length_bitsB]; omega) ?_
    rw [length_ints]
    refine Ev.pos (by rw [length_bitsB, w64 (by omega) (by omega)]; omega) ?_
    have b1 : bytesB (bitsB x0) = x0 := by
      have := bytesB_bitsB x0 ha [] (by simp)
      simpa using this
    have b2 : bytesB (bitsB x0 ++ bitsN (c % 8) c) = x0 := bytesB_bitsB x0 ha _ (by rw [length_bitsN]; omega)
    refine Ev.bind (bits_Bytes.ev _ (by rw [length_bitsB]; omega)) ?_
    rw [b1]
    refine Ev.bind (jackstaylow_Alike.ev x0 x0 ha ha) ?_
    refine Ev.pos (by simp) ?_
    refine Ev.bind (bits_Bytes.ev _ (by rw [List.length_append, length_bitsB, length_bitsN]; omega)) ?_
    rw [b2]
    refine Ev.bind (jackstaylow_Alike.ev x0 x0 ha ha) ?_
    exact Ev.pos (by simp) (Ev.bind awake_evB (Ev.now true))
  | d + 1, i, h => by
    refine Ev.next ?_
    simp only [jackstaylaw01_BitsBack.l0]
    refine Ev.pos (by omega) (Ev.pos (by omega) (Ev.pos (by rw [List.length_replicate]; omega) (Ev.neg ?_ ?_)))
    · rw [rdOf_at _ i (by rw [List.length_replicate]; omega)]
      simp
    · rw [w64 (by omega) (by omega), show (i : Int) + 1 = ((i + 1 : Nat) : Int) by omega]
      exact BitsBack_l0 x0 c ha hl hc z hz d (i + 1) (by omega)
theorem BitsBack : jackstaylaw01_BitsBack.Pure := by
  rintro x0 x1 x2 x3 h0 h1 ⟨h2, -⟩ h3
  refine Ev.rounds ?_
  simp only [jackstaylaw01_BitsBack.f]
  refine Ev.ite (fun _ => Ev.bind awake_evB (Ev.now true)) (fun c0 => ?_)
  have w0 := wf_u32 h0
  have w1 := wf_u8 h1
  have w3 := wf_u8 h3
  obtain ⟨n, rfl⟩ := Int.eq_ofNat_of_zero_le w0.1
  obtain ⟨m, rfl⟩ := Int.eq_ofNat_of_zero_le w1.1
  obtain ⟨c, rfl⟩ := Int.eq_ofNat_of_zero_le w3.1
  obtain ⟨a, rfl, ha⟩ := ints_of x2 256 (fun x hx => by have := wf_u8 (h2 x hx); omega)
  rw [length_ints] at c0
  have hm : m % 33 < 33 := Nat.mod_lt _ (by decide)
  have e1 : wrap64 (32 + wrap64 (Int.tmod (m : Int) 33)) = ((m % 33 + 32 : Nat) : Int) := by
    have ei : wrap64 ((m % 33 : Nat) : Int) = ((m % 33 : Nat) : Int) := w64 (by omega) (by omega)
    rw [show Int.tmod (m : Int) 33 = ((m % 33 : Nat) : Int) from rfl, ei, w64 (by omega) (by omega)]
    omega
  rw [e1]
  refine Ev.bind (bits_Of.ev' n (m % 33 + 32) (by omega) (by omega)) ?_
  refine Ev.pos (by rw [length_bitsN]) ?_
  refine Ev.bind (bits_Number.ev _ (by rw [length_bitsN]; omega)) ?_
  have e2 : ((numN (bitsN (m % 33 + 32) n) % 4294967296 : Nat) : Int) = (n : Int) := by
    rw [numN_bitsN, Nat.mod_mod_of_dvd _ (show 4294967296 ∣ 2 ^ (m % 33 + 32) from ⟨2 ^ (m % 33), by rw [Nat.pow_add, Nat.mul_comm]⟩)]
    omega
  rw [e2]
  refine Ev.next ?_
  simp only [jackstaylaw01_BitsBack.j0]
  refine Ev.neg (by simp) ?_
  have e3 : wrap64 (((m % 33 + 32 : Nat) : Int) - 32) = ((m % 33 : Nat) : Int) := by rw [w64 (by omega) (by omega)]; omega
  rw [e3]
  refine Ev.pos (by omega) (Ev.pos (by rw [length_bitsN]; omega) (Ev.some_bind ?_))
  have e4 : (bitsN (m % 33 + 32) n).take (m % 33) = List.replicate (m % 33) false := by
    rw [bitsN_zero 32 n (by omega) (m % 33), List.take_left' (by simp)]
  rw [Int.toNat_natCast, e4, List.length_replicate]
  exact BitsBack_l0 a c (fun x hx => by have := ha x hx; omega) (by omega) (by omega) (m % 33) (by omega) (m % 33) 0 (by omega)
end Go.Proofs.Ytlfopdflkkkapaa.Pure
