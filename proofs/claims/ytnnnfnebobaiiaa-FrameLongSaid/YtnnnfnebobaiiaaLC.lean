/- Printed by the kit and by programs of this work for the claim of aaRowFrameLong, without what the claim does not name. -/
import Derived.Test.YtnnnfnebobaiiaaLB
namespace Go.Proofs.Ytnnnfnebobaiiaa.L
def crcN (s : Nat) (b : Bool) : Nat := if (s.testBit 14 != b) = true then (2 * s % 32768) ^^^ 17817 else 2 * s % 32768
def sumN (s : Nat) (l : List Bool) : Nat := l.foldl crcN s
theorem crcN_lt (s : Nat) (b : Bool) : crcN s b < 32768 := by
  unfold crcN
  split
  · exact Nat.xor_lt_two_pow (n := 15) (by omega) (by decide)
  · omega
theorem sumN_lt (l : List Bool) : ∀ s, s < 32768 → sumN s l < 32768 := by
  induction l with
  | nil => exact fun s h => h
  | cons b l ih => exact fun s _ => ih _ (crcN_lt s b)
end Go.Proofs.Ytnnnfnebobaiiaa.L
