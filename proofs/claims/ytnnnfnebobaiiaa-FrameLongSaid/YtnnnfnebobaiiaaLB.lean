/- Printed by the kit and by programs of this work for the claim of aaRowFrameLong, without what the claim does not name. -/
import Derived.Laws.BitsLemmas
namespace Go.Proofs.Ytnnnfnebobaiiaa.L
open Go
def bitsN : Nat → Nat → List Bool
  | 0, _ => []
  | m + 1, n => n.testBit m :: bitsN m n
theorem length_bitsN : ∀ m n, (bitsN m n).length = m
  | 0, _ => rfl
  | m + 1, n => by simp [bitsN, length_bitsN m n]
theorem bitsN_mod (m j n : Nat) (h : m ≤ j) : bitsN m (n % 2 ^ j) = bitsN m n := by
  induction m with
  | zero => rfl
  | succ m ih =>
    show (n % 2 ^ j).testBit m :: bitsN m (n % 2 ^ j) = n.testBit m :: bitsN m n
    rw [ih (by omega), Nat.testBit_mod_two_pow]
    simp [show m < j by omega]
theorem and_one (E : Int) (h0 : 0 ≤ E) (h1 : E < 2 ^ 64) : bits .and .u64 E 1 = E % 2 :=
  bits_mask .u64 64 (by decide) (fun n a b => by simp [IntKind.wrap, IntKind.bits, IntKind.signed]; omega) 1 (by decide) E h0 h1
def bitsB (l : List Nat) : List Bool := l.flatMap (bitsN 8)
theorem length_bitsB (l : List Nat) : (bitsB l).length = 8 * l.length := by
  induction l with
  | nil => rfl
  | cons x l ih => simp only [bitsB, List.flatMap_cons, List.length_append, length_bitsN] at ih ⊢; simp only [List.length_cons]; omega
def ints (b : List Nat) : List Int := b.map fun x : Nat => (x : Int)
theorem length_ints (b : List Nat) : (ints b).length = b.length := by simp [ints]
theorem ints_of (l : List Int) (hi : Int) (h : ∀ x ∈ l, 0 ≤ x ∧ x < hi) : ∃ b : List Nat, l = ints b ∧ ∀ x ∈ b, (x : Int) < hi := by
  refine ⟨l.map Int.toNat, ?_, fun x hx => ?_⟩
  · simp only [ints, List.map_map]
    conv => lhs; rw [← List.map_id l]
    exact List.map_congr_left (fun x hx => by have := h x hx; simp; omega)
  · obtain ⟨y, hy, rfl⟩ := List.mem_map.1 hx
    have := h y hy
    omega
end Go.Proofs.Ytnnnfnebobaiiaa.L
