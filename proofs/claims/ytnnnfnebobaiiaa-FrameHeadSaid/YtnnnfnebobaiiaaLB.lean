/- Printed by the kit and by programs of this work for the claim of aaRowFrameHead, without what the claim does not name. -/
import Derived.Laws.BitsLemmas
namespace Go.Proofs.Ytnnnfnebobaiiaa.L
open Go
def bitsN : Nat → Nat → List Bool
  | 0, _ => []
  | m + 1, n => n.testBit m :: bitsN m n
theorem length_bitsN : ∀ m n, (bitsN m n).length = m
  | 0, _ => rfl
  | m + 1, n => by simp [bitsN, length_bitsN m n]
theorem bitsN_snoc : ∀ m n, bitsN (m + 1) n = bitsN m (n / 2) ++ [n.testBit 0]
  | 0, n => rfl
  | m + 1, n => by
    show n.testBit (m + 1) :: bitsN (m + 1) n = ((n / 2).testBit m :: bitsN m (n / 2)) ++ [n.testBit 0]
    rw [bitsN_snoc m n, Nat.testBit_succ]
    rfl
theorem bitsN_mod (m j n : Nat) (h : m ≤ j) : bitsN m (n % 2 ^ j) = bitsN m n := by
  induction m with
  | zero => rfl
  | succ m ih =>
    show (n % 2 ^ j).testBit m :: bitsN m (n % 2 ^ j) = n.testBit m :: bitsN m n
    rw [ih (by omega), Nat.testBit_mod_two_pow]
    simp [show m < j by omega]
def numN (l : List Bool) : Nat := l.foldl (fun a b => 2 * a + b.toNat) 0
theorem foldl_num (l : List Bool) : ∀ a : Nat, l.foldl (fun a b => 2 * a + b.toNat) a = a * 2 ^ l.length + numN l := by
  induction l with
  | nil => intro a; simp [numN]
  | cons b l ih =>
    intro a
    unfold numN
    rw [List.foldl_cons, List.foldl_cons, ih, ih (2 * 0 + b.toNat)]
    simp only [List.length_cons, Nat.pow_succ]
    rw [Nat.mul_zero, Nat.zero_add, Nat.add_mul]
    have : 2 * a * 2 ^ l.length = a * (2 ^ l.length * 2) := by rw [Nat.mul_comm 2 a, Nat.mul_assoc, Nat.mul_comm 2]
    omega
theorem numN_nil : numN [] = 0 := rfl
theorem numN_cons (b : Bool) (l : List Bool) : numN (b :: l) = b.toNat * 2 ^ l.length + numN l := by
  show List.foldl _ _ (b :: l) = _
  rw [List.foldl_cons, foldl_num]
  simp
theorem numN_append (l m : List Bool) : numN (l ++ m) = numN l * 2 ^ m.length + numN m := by
  show List.foldl _ _ (l ++ m) = _
  rw [List.foldl_append, foldl_num]
  rfl
theorem numN_snoc (l : List Bool) (b : Bool) : numN (l ++ [b]) = 2 * numN l + b.toNat := by
  rw [numN_append, numN_cons]
  simp [numN_nil]
  omega
theorem numN_lt (l : List Bool) : numN l < 2 ^ l.length := by
  induction l with
  | nil => simp [numN_nil]
  | cons b l ih =>
    rw [numN_cons, List.length_cons, Nat.pow_succ]
    cases b <;> simp <;> omega
theorem numN_bitsN (m n : Nat) : numN (bitsN m n) = n % 2 ^ m := by
  induction m generalizing n with
  | zero => simp [bitsN, numN_nil, Nat.mod_one]
  | succ m ih =>
    rw [bitsN_snoc, numN_snoc, ih, Nat.pow_succ, Nat.mul_comm (2 ^ m) 2, Nat.mod_mul]
    rw [Nat.testBit_zero]
    rcases Nat.mod_two_eq_zero_or_one n with h | h <;> simp [h] <;> omega
theorem and_one (E : Int) (h0 : 0 ≤ E) (h1 : E < 2 ^ 64) : bits .and .u64 E 1 = E % 2 :=
  bits_mask .u64 64 (by decide) (fun n a b => by simp [IntKind.wrap, IntKind.bits, IntKind.signed]; omega) 1 (by decide) E h0 h1
theorem or_one_u32 (E : Int) (h0 : 0 ≤ E) (h1 : E < 2 ^ 32) (h2 : E % 2 = 0) : bits .or .u32 E 1 = E + 1 :=
  bits_join .u32 32 (by decide) (fun n a b => by simp [IntKind.wrap, IntKind.bits, IntKind.signed]; omega) 1 E 1 h0 (by simpa using h2) h1 (by decide) (by decide) (by decide)
def bitsB (l : List Nat) : List Bool := l.flatMap (bitsN 8)
theorem length_bitsB (l : List Nat) : (bitsB l).length = 8 * l.length := by
  induction l with
  | nil => rfl
  | cons x l ih => simp only [bitsB, List.flatMap_cons, List.length_append, length_bitsN] at ih ⊢; simp only [List.length_cons]; omega
def ints (b : List Nat) : List Int := b.map fun x : Nat => (x : Int)
theorem length_ints (b : List Nat) : (ints b).length = b.length := by simp [ints]
theorem ints_of (l : List Int) (hi : Int) (h : ∀ x ∈ l, 0 ≤ x ∧ x < hi) : ∃ b : List Nat, l = ints b ∧ ∀ x ∈ b, (x : Int) < hi := by
  refine ⟨l.map Int.toNat, ?_, fun x hx => ?_⟩
  · simp only [ints, List.map_map]
    conv => lhs; rw [← List.map_id l]
    exact List.map_congr_left (fun x hx => by have := h x hx; simp; omega)
  · obtain ⟨y, hy, rfl⟩ := List.mem_map.1 hx
    have := h y hy
    omega
end Go.Proofs.Ytnnnfnebobaiiaa.L
