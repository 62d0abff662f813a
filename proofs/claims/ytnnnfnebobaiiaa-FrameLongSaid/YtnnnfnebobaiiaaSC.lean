/- Printed by the kit and by programs of this work for the claim of aaRowFrameLong, without what the claim does not name. -/
import Derived.Laws.BitsAllLaws
import Derived.Test.YtnnnfnebobaiiaaPx6
import Derived.Test.YtnnnfnebobaiiaaGCrcSum
import Derived.Test.YtnnnfnebobaiiaaLC
import Derived.Test.YtnnnfnebobaiiaaSB
namespace Go.Proofs.Ytnnnfnebobaiiaa.P
open Go.RowKit Go.Proofs.YtnnnfnebobaiiaaW.PrintWords Go.Proofs.YtnnnfnebobaiiaaW.PrintLast Go.Proofs.YtnnnfnebobaiiaaW.PrintMore Go.Proofs.Ytnnnfnebobaiiaa.L
set_option linter.unusedSimpArgs false
theorem u16_wrap (n : Nat) : IntKind.u16.wrap (n : Int) = ((n % 65536 : Nat) : Int) := by
  simp [IntKind.wrap, IntKind.bits, IntKind.signed]
theorem high_bit (s : Nat) (hs : s < 65536) : ((Go.bits .and .u16 ((s : Int) / 16384) 1) == 1) = s.testBit 14 := by
  have e : (s : Int) / 16384 = ((s / 16384 : Nat) : Int) := by omega
  rw [e, show (1 : Int) = ((1 : Nat) : Int) from rfl, u16_and_nat _ _ (by omega) (by decide), Nat.and_one_is_mod, Nat.testBit_eq_decide_div_mod_eq]
  rcases Nat.mod_two_eq_zero_or_one (s / 16384) with h | h
  · rw [show (2 : Nat) ^ 14 = 16384 from rfl, h]; rfl
  · rw [show (2 : Nat) ^ 14 = 16384 from rfl, h]; rfl
theorem crc_Next.is (s : Nat) (hs : s < 65536) (b : Bool) : crc_Next.f (s : Int) b = some ((crcN s b : Nat) : Int) := by
  have e : Go.bits .and .u16 (IntKind.u16.wrap ((s : Int) * 2)) 32767 = ((2 * s % 32768 : Nat) : Int) := by
    rw [show (s : Int) * 2 = ((2 * s : Nat) : Int) by omega, u16_wrap, show (32767 : Int) = ((32767 : Nat) : Int) from rfl, u16_and_nat _ _ (by omega) (by decide), show (32767 : Nat) = 2 ^ 15 - 1 from rfl, Nat.and_two_pow_sub_one_eq_mod]
    omega
  unfold crc_Next.f crcN
  rw [e, high_bit s hs, show (17817 : Int) = ((17817 : Nat) : Int) from rfl, u16_xor_nat _ _ (by omega) (by decide)]
  split <;> rfl
theorem crcNext_is (s : Nat) (hs : s < 65536) (b : Bool) : crcNext (s : Int) b = ((crcN s b : Nat) : Int) := by
  unfold crcNext
  rw [crc_Next.is s hs b]
  rfl
theorem crcFold_is (l : List Bool) : ∀ s : Nat, s < 65536 → l.foldl crcNext (s : Int) = ((sumN s l : Nat) : Int) := by
  induction l with
  | nil => intro s _; rfl
  | cons b l ih =>
    intro s hs
    rw [List.foldl_cons, crcNext_is s hs b]
    exact ih _ (Nat.lt_trans (crcN_lt s b) (by decide))
theorem crc_Sum.is (l : List Bool) : crc_Sum.f l = some ((sumN 0 l : Nat) : Int) := by
  unfold crc_Sum.f crcSum
  rw [show (0 : Int) = ((0 : Nat) : Int) from rfl, crcFold_is l 0 (by decide)]
theorem crc_Sum.ev (l : List Bool) : Ev (fun _ => crc_Sum.f l) ((sumN 0 l : Nat) : Int) := Ev.const (crc_Sum.is l)
theorem crc_Bits.ev (s : Nat) (hs : s < 65536) : Ev (fun k => crc_Bits.f k (s : Int)) (bitsN 15 s) := by
  simp only [crc_Bits.f]
  have e : Go.bits .and .u16 (s : Int) 32767 % 4294967296 = ((s % 2 ^ 15 : Nat) : Int) := by
    rw [show (32767 : Int) = ((32767 : Nat) : Int) from rfl, u16_and_nat _ _ hs (by decide), show (32767 : Nat) = 2 ^ 15 - 1 from rfl, Nat.and_two_pow_sub_one_eq_mod]
    omega
  rw [e]
  refine Ev.bind (bits_Of.ev' (s % 2 ^ 15) 15 (by omega) (by decide)) ?_
  rw [bitsN_mod 15 15 s (Nat.le_refl _)]
  exact Ev.now _
end Go.Proofs.Ytnnnfnebobaiiaa.P
