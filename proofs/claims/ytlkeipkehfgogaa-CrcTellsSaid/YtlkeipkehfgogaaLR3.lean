/- Plain laws: what is left of bits, divided by the polynomial, is their sum bit by bit. No program in sight. -/
import Derived.Test.YtlkeipkehfgogaaLC
namespace Go.Proofs.Ytlkeipkehfgogaa.L
def refPolyL : List Bool := [true, true, false, false, false, true, false, true, true, false, false, true, true, false, false, true]
/-- So many steps of taking the polynomial away from place i on. -/
def refXL (i : Nat) : Nat → List Bool → List Bool
  | 0, r => r
  | k + 1, r => (refXL i k r).set (i + k) ((refXL i k r).getD (i + k) false != refPolyL.getD k false)
/-- What is left after so many places. -/
def refDL : Nat → List Bool → List Bool
  | 0, r => r
  | i + 1, r => if (refDL i r).getD i false = true then refXL i 16 (refDL i r) else refDL i r
theorem refXL_length (i : Nat) : ∀ (k : Nat) (r : List Bool), (refXL i k r).length = r.length
  | 0, _ => rfl
  | k + 1, r => by show (List.set _ _ _).length = _; rw [List.length_set, refXL_length i k r]
theorem refDL_length : ∀ (i : Nat) (r : List Bool), (refDL i r).length = r.length
  | 0, _ => rfl
  | i + 1, r => by
    show (if _ then _ else _ : List Bool).length = _
    split
    · rw [refXL_length, refDL_length i r]
    · exact refDL_length i r
/-- Place by place. -/
theorem refXL_get (i : Nat) : ∀ (k : Nat) (r : List Bool), i + k ≤ r.length → ∀ j, (refXL i k r).getD j false = (if i ≤ j ∧ j < i + k then (r.getD j false != refPolyL.getD (j - i) false) else r.getD j false)
  | 0, r, _, j => by rw [if_neg (by omega)]; rfl
  | k + 1, r, h, j => by
    have ih := refXL_get i k r (by omega)
    show (List.set _ _ _).getD j false = _
    rw [List.getD_eq_getElem?_getD, List.getElem?_set]
    by_cases hj : i + k = j
    · subst hj
      rw [if_pos rfl, if_pos (by rw [refXL_length]; omega), if_pos (by omega)]
      rw [ih (i + k), if_neg (by omega), show i + k - i = k by omega]
      rfl
    · rw [if_neg hj, ← List.getD_eq_getElem?_getD, ih j]
      by_cases hc : i ≤ j ∧ j < i + k
      · rw [if_pos hc, if_pos (by omega)]
      · rw [if_neg hc, if_neg (by omega)]
theorem getD_bitsN : ∀ (m n j : Nat), j < m → (bitsN m n).getD j false = n.testBit (m - 1 - j)
  | 0, _, _, h => absurd h (Nat.not_lt_zero _)
  | m + 1, n, 0, _ => by simp [bitsN]
  | m + 1, n, j + 1, h => by
    show (bitsN m n).getD j false = _
    rw [getD_bitsN m n j (by omega)]
    congr 1
    omega
theorem testBit_big {s k : Nat} (h : s < 32768) (hk : 15 ≤ k) : s.testBit k = false :=
  Nat.testBit_lt_two_pow (Nat.lt_of_lt_of_le h (by rw [show (32768 : Nat) = 2 ^ 15 from rfl]; exact Nat.pow_le_pow_right (by decide) hk))
theorem poly_bits : ∀ k, k < 15 → refPolyL.getD (k + 1) false = (17817 : Nat).testBit (14 - k) := by decide
/-- What stands behind place i after i places: the sum's bits, over what is still to come. -/
theorem refDL_is (l : List Bool) : ∀ i, i ≤ l.length → ∀ j, i ≤ j → (refDL i (l ++ List.replicate 15 false)).getD j false =
    ((if j < i + 15 then (sumN 0 (l.take i)).testBit (14 - (j - i)) else false) != (l ++ List.replicate 15 false).getD j false)
  | 0, _, j, _ => by
    show (l ++ List.replicate 15 false).getD j false = _
    have : (if j < 0 + 15 then (sumN 0 (l.take 0)).testBit (14 - (j - 0)) else false) = false := by split <;> simp [sumN]
    rw [this]
    simp
  | i + 1, hi, j, hj => by
    have ih := refDL_is l i (by omega)
    have hlen : (refDL i (l ++ List.replicate 15 false)).length = l.length + 15 := by rw [refDL_length]; simp
    have ht : l.take (i + 1) = l.take i ++ [l[i]] := (List.take_append_getElem (by omega)).symm
    have hsum : sumN 0 (l.take (i + 1)) = crcN (sumN 0 (l.take i)) l[i] := by rw [ht, sumN_append]; rfl
    have hs : sumN 0 (l.take i) < 32768 := sumN_lt _ 0 (by decide)
    generalize sumN 0 (l.take i) = s at *
    have hl : (l ++ List.replicate 15 false).getD i false = l[i] := by
      rw [List.getD_eq_getElem?_getD, List.getElem?_append_left (by omega), List.getElem?_eq_getElem (by omega)]; rfl
    have hd : (refDL i (l ++ List.replicate 15 false)).getD i false = (s.testBit 14 != l[i]) := by
      rw [ih i (Nat.le_refl _), if_pos (by omega), Nat.sub_self, hl]
    rw [hsum]
    have hsh : ∀ k, k < 15 → (2 * s % 32768).testBit (14 - k) = (if k < 14 then s.testBit (13 - k) else false) := fun k hk => by
      rw [show (32768 : Nat) = 2 ^ 15 from rfl, Nat.testBit_mod_two_pow]
      simp only [show 14 - k < 15 by omega, decide_true, Bool.true_and]
      by_cases h14 : k < 14
      · rw [if_pos h14, show 14 - k = (13 - k) + 1 by omega, Nat.testBit_succ, Nat.mul_div_cancel_left _ (by decide)]
      · rw [if_neg h14, show 14 - k = 0 by omega, Nat.testBit_zero]
        simp
    show (if (refDL i (l ++ List.replicate 15 false)).getD i false = true then refXL i 16 (refDL i (l ++ List.replicate 15 false)) else refDL i (l ++ List.replicate 15 false)).getD j false = _
    rw [hd]
    unfold crcN
    have hsplit : (if j < i + 15 then s.testBit (14 - (j - i)) else false) = (if j - (i + 1) < 14 then s.testBit (13 - (j - (i + 1))) else false) := by
      by_cases h : j < i + 15
      · rw [if_pos h, if_pos (by omega)]; congr 1; omega
      · rw [if_neg h, if_neg (by omega)]
    by_cases hc : (s.testBit 14 != l[i]) = true
    · rw [if_pos hc, if_pos hc, refXL_get i 16 _ (by omega) j, ih j (by omega), hsplit]
      by_cases hb : j < i + 1 + 15
      · rw [if_pos (by omega), if_pos hb, Nat.testBit_xor, hsh (j - (i + 1)) (by omega), ← poly_bits (j - (i + 1)) (by omega), show j - (i + 1) + 1 = j - i by omega]
        generalize refPolyL.getD (j - i) false = p
        generalize (if j - (i + 1) < 14 then s.testBit (13 - (j - (i + 1))) else false) = q
        generalize (l ++ List.replicate 15 false).getD j false = u
        cases p <;> cases q <;> cases u <;> rfl
      · rw [if_neg (by omega), if_neg hb, if_neg (by omega)]
    · rw [if_neg hc, if_neg hc, ih j (by omega), hsplit]
      by_cases hb : j < i + 1 + 15
      · rw [if_pos hb, hsh (j - (i + 1)) (by omega)]
      · rw [if_neg hb, if_neg (by omega)]
theorem refDL_end (l : List Bool) : (refDL l.length (l ++ List.replicate 15 false)).drop l.length = bitsN 15 (sumN 0 l) := by
  have hlen : (refDL l.length (l ++ List.replicate 15 false)).length = l.length + 15 := by rw [refDL_length]; simp
  apply List.ext_getElem
  · rw [List.length_drop, hlen, length_bitsN]; omega
  · intro j h1 h2
    rw [length_bitsN] at h2
    have h := refDL_is l l.length (Nat.le_refl _) (l.length + j) (by omega)
    rw [if_pos (by omega), List.take_length, show l.length + j - l.length = j by omega] at h
    have hz : (l ++ List.replicate 15 false).getD (l.length + j) false = false := by
      rw [List.getD_eq_getElem?_getD, List.getElem?_append_right (by omega), List.getElem?_replicate]
      split <;> rfl
    rw [hz, ← getD_bitsN 15 _ j h2] at h
    rw [List.getElem_drop]
    have e1 : (refDL l.length (l ++ List.replicate 15 false)).getD (l.length + j) false = (refDL l.length (l ++ List.replicate 15 false))[l.length + j] := by
      rw [List.getD_eq_getElem?_getD, List.getElem?_eq_getElem (by omega)]; rfl
    have e2 : (bitsN 15 (sumN 0 l)).getD j false = (bitsN 15 (sumN 0 l))[j]'(by rw [length_bitsN]; omega) := by
      rw [List.getD_eq_getElem?_getD, List.getElem?_eq_getElem (by rw [length_bitsN]; omega)]; rfl
    rw [← e1, ← e2, h]
    simp
end Go.Proofs.Ytlkeipkehfgogaa.L
