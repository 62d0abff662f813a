/- Printed by the kit and by programs of this work for the claim of aaRowFrameLong, without what the claim does not name. -/
import Derived.Test.YtnnnfnebobaiiaaPx4
import Derived.Test.YtnnnfnebobaiiaaPx6
import Derived.Test.YtnnnfnebobaiiaaLB
import Derived.Test.YtnnnfnebobaiiaaEV
namespace Go.Proofs.Ytnnnfnebobaiiaa.P
open Go.RowKit Go.Proofs.YtnnnfnebobaiiaaW.PrintWords Go.Proofs.YtnnnfnebobaiiaaW.PrintLast Go.Proofs.YtnnnfnebobaiiaaW.PrintMore Go.Proofs.Ytnnnfnebobaiiaa.L
set_option linter.unusedSimpArgs false
theorem bit_at (n j : Nat) (hn : n < 2 ^ 32) (hj : j < 64) : ((Go.bits .and .u64 (shr .u64 (IntKind.u64.wrap (n : Int)) (j : Int)) 1) == 1) = n.testBit j := by
  rw [wu64 (by omega) (by omega)]
  have e : shr .u64 (n : Int) (j : Int) = ((n / 2 ^ j : Nat) : Int) := by
    simp only [shr, Int.toNat_natCast, IntKind.bits, Nat.min_eq_left (show j ≤ 64 by omega)]
    simp
  have hq := Nat.div_le_self n (2 ^ j)
  rw [e, Nat.testBit_eq_decide_div_mod_eq]
  generalize n / 2 ^ j = q at *
  rw [and_one _ (by omega) (by omega)]
  rcases Nat.mod_two_eq_zero_or_one q with h | h
  · have : ((q : Int) % 2) = 0 := by omega
    simp [this, h]
  · have : ((q : Int) % 2) = 1 := by omega
    simp [this, h]
theorem bits_Of.l0_ev (n : Nat) (hn : n < 2 ^ 32) : ∀ (j : Nat) (acc : List Bool), j ≤ 64 → acc.length + j < 140737488355328 → Ev (fun k => bits_Of.l0 k n acc ((j : Int) - 1)) (acc ++ bitsN j n)
  | 0, acc, _, _ => by
    refine Ev.next ?_
    simp only [bits_Of.l0]
    refine Ev.neg (by omega) ?_
    simpa [bitsN] using Ev.now acc
  | j + 1, acc, h1, h2 => by
    refine Ev.next ?_
    simp only [bits_Of.l0]
    refine Ev.pos (by omega) (Ev.pos (by omega) (Ev.pos (by omega) ?_))
    have e : ((j + 1 : Nat) : Int) - 1 = (j : Int) := by omega
    rw [e, bit_at n j hn (by omega), w64 (by omega) (by omega)]
    refine (bits_Of.l0_ev n hn j (acc ++ [n.testBit j]) (by omega) (by simp; omega)).eq ?_
    simp [bitsN]
theorem bits_Of.ev (n : Nat) (m : Int) (hn : n < 2 ^ 32) (r : Nat) (hr : (r : Int) = mx 0 (mn m 64)) : Ev (fun k => bits_Of.f k n m) (bitsN r n) := by
  simp only [bits_Of.f]
  rw [← hr]
  have h64 : r ≤ 64 := by unfold mx mn at hr; split at hr <;> split at hr <;> omega
  exact (bits_Of.l0_ev n hn r [] h64 (by simp; omega)).eq (by simp)
theorem bits_Of.ev' (n m : Nat) (hn : n < 2 ^ 32) (hm : m ≤ 64) : Ev (fun k => bits_Of.f k n m) (bitsN m n) :=
  bits_Of.ev n m hn m (by unfold mx mn; split <;> split <;> omega)
theorem rd_nat {l : List Int} {b : List Nat} (h : l = ints b) (i : Nat) (hi : i < b.length) : rd l i = (b[i] : Nat) := by
  subst h
  simp [rd, ints, List.getD_eq_getElem?_getD, hi]
theorem bits_OfBytes.l0_ev (b : List Nat) (hb : ∀ x ∈ b, x < 256) (hl : b.length < 17592186044415) : ∀ (d i : Nat) (acc : List Bool), d + i = b.length → acc.length = 8 * i →
    Ev (fun k => bits_OfBytes.l0 k acc (ints b) (b.length : Int) (i : Int)) (acc ++ bitsB (b.drop i))
  | 0, i, acc, h, ha => by
    refine Ev.next ?_
    simp only [bits_OfBytes.l0]
    refine Ev.neg (by omega) ?_
    rw [List.drop_of_length_le (by omega)]
    simpa [bitsB] using Ev.now acc
  | d + 1, i, acc, h, ha => by
    refine Ev.next ?_
    simp only [bits_OfBytes.l0]
    have hi : i < b.length := by omega
    refine Ev.pos (by omega) (Ev.pos (by omega) (Ev.pos (by rw [length_ints]; omega) ?_))
    rw [rd_nat rfl i hi]
    have hx : b[i] < 256 := hb _ (List.getElem_mem _)
    rw [show ((b[i] : Nat) : Int) % 4294967296 = ((b[i] : Nat) : Int) by omega]
    refine Ev.bind (bits_Of.ev' b[i] 8 (by omega) (by omega)) ?_
    refine Ev.pos (by rw [length_bitsN]; omega) ?_
    rw [w64 (by omega) (by omega), show (i : Int) + 1 = ((i + 1 : Nat) : Int) by omega]
    refine (bits_OfBytes.l0_ev b hb hl d (i + 1) _ (by omega) (by rw [List.length_append, length_bitsN]; omega)).eq ?_
    rw [show b.drop i = b[i] :: b.drop (i + 1) from (List.getElem_cons_drop (h := hi)).symm]
    simp only [bitsB, List.flatMap_cons, List.append_assoc]
theorem bits_OfBytes.ev (b : List Nat) (hb : ∀ x ∈ b, x < 256) (hl : b.length < 17592186044415) : Ev (fun k => bits_OfBytes.f k (ints b)) (bitsB b) := by
  simp only [bits_OfBytes.f, length_ints]
  exact (bits_OfBytes.l0_ev b hb hl b.length 0 [] (by omega) rfl).eq (by simp)
end Go.Proofs.Ytnnnfnebobaiiaa.P
