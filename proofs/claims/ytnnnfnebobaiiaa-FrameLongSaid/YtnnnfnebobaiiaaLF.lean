/- Printed by the kit and by programs of this work for the claim of aaRowFrameLong, without what the claim does not name. -/
import Derived.Test.YtnnnfnebobaiiaaLC
namespace Go.Proofs.Ytnnnfnebobaiiaa.L
structure Fr where
  id : Nat
  ext : Bool
  rem : Bool
  dlc : Nat
  data : List Nat
  deriving DecidableEq
def Fr.long (f : Fr) : Nat := if f.rem then 0 else min f.dlc 8
def Fr.most (f : Fr) : Nat := if f.ext then 536870911 else 2047
structure Fr.Right (f : Fr) : Prop where
  id : f.id ≤ f.most
  dlc : f.dlc ≤ 15
  len : f.data.length = f.long
def Fr.right (f : Fr) : Bool := decide (f.id ≤ f.most) && decide (f.dlc ≤ 15) && decide (f.data.length = f.long)
theorem Fr.right_iff (f : Fr) : f.right = true ↔ f.Right := by
  unfold Fr.right
  simp only [Bool.and_eq_true, decide_eq_true_eq]
  exact ⟨fun h => ⟨h.1.1, h.1.2, h.2⟩, fun h => ⟨⟨h.id, h.dlc⟩, h.len⟩⟩
structure Fr.Mach (f : Fr) : Prop where
  id : f.id < 4294967296
  dlc : f.dlc < 256
  bytes : ∀ x ∈ f.data, x < 256
  len : f.data.length ≤ 140737488355328
theorem Fr.long_le (f : Fr) : f.long ≤ 8 := by unfold Fr.long; split <;> omega
def firstN (f : Fr) : List Bool :=
  if f.ext then false :: (bitsN 11 (f.id / 262144) ++ (true :: true :: (bitsN 18 f.id ++ [f.rem]))) else false :: (bitsN 11 f.id ++ [f.rem, false])
def headN (f : Fr) : List Bool := firstN f ++ (false :: ((if f.ext then [false] else []) ++ bitsN 4 f.dlc))
def plainN (f : Fr) : List Bool := headN f ++ bitsB f.data
def bodyN (f : Fr) : List Bool := plainN f ++ bitsN 15 (sumN 0 (plainN f))
def headL (e : Bool) : Nat := if e then 39 else 19
theorem firstN_length (f : Fr) : (firstN f).length = if f.ext then 33 else 14 := by
  unfold firstN; split <;> simp [length_bitsN]
theorem headN_length (f : Fr) : (headN f).length = headL f.ext := by
  unfold headN headL; rw [List.length_append, firstN_length]; split <;> simp [length_bitsN]
theorem plainN_length (f : Fr) : (plainN f).length = headL f.ext + 8 * f.data.length := by
  unfold plainN; rw [List.length_append, headN_length, length_bitsB]
theorem bodyN_length (f : Fr) : (bodyN f).length = headL f.ext + 8 * f.data.length + 15 := by
  unfold bodyN; rw [List.length_append, plainN_length, length_bitsN]
theorem bodyN_le {f : Fr} (h : f.Right) : 34 ≤ (bodyN f).length ∧ (bodyN f).length ≤ 118 ∧ (f.ext = true → 54 ≤ (bodyN f).length) := by
  rw [bodyN_length, h.len]; have := f.long_le; unfold headL; split <;> simp_all <;> omega
theorem getD_append_left {l m : List Bool} {i : Nat} (h : i < l.length) : (l ++ m).getD i false = l.getD i false := by
  rw [List.getD_eq_getElem?_getD, List.getD_eq_getElem?_getD, List.getElem?_append_left h]
end Go.Proofs.Ytnnnfnebobaiiaa.L
