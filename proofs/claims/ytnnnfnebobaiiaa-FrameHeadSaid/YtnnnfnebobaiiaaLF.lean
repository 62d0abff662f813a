/- Printed by the kit and by programs of this work for the claim of aaRowFrameHead, without what the claim does not name. -/
import Derived.Test.YtnnnfnebobaiiaaLC
namespace Go.Proofs.Ytnnnfnebobaiiaa.L
structure Fr where
  id : Nat
  ext : Bool
  rem : Bool
  dlc : Nat
  data : List Nat
  deriving DecidableEq
def Fr.long (f : Fr) : Nat := if f.rem then 0 else min f.dlc 8
def Fr.most (f : Fr) : Nat := if f.ext then 536870911 else 2047
structure Fr.Right (f : Fr) : Prop where
  id : f.id ≤ f.most
  dlc : f.dlc ≤ 15
  len : f.data.length = f.long
def Fr.right (f : Fr) : Bool := decide (f.id ≤ f.most) && decide (f.dlc ≤ 15) && decide (f.data.length = f.long)
theorem Fr.right_iff (f : Fr) : f.right = true ↔ f.Right := by
  unfold Fr.right
  simp only [Bool.and_eq_true, decide_eq_true_eq]
  exact ⟨fun h => ⟨h.1.1, h.1.2, h.2⟩, fun h => ⟨⟨h.id, h.dlc⟩, h.len⟩⟩
structure Fr.Mach (f : Fr) : Prop where
  id : f.id < 4294967296
  dlc : f.dlc < 256
  bytes : ∀ x ∈ f.data, x < 256
  len : f.data.length ≤ 140737488355328
theorem Fr.long_le (f : Fr) : f.long ≤ 8 := by unfold Fr.long; split <;> omega
def firstN (f : Fr) : List Bool :=
  if f.ext then false :: (bitsN 11 (f.id / 262144) ++ (true :: true :: (bitsN 18 f.id ++ [f.rem]))) else false :: (bitsN 11 f.id ++ [f.rem, false])
def headN (f : Fr) : List Bool := firstN f ++ (false :: ((if f.ext then [false] else []) ++ bitsN 4 f.dlc))
def plainN (f : Fr) : List Bool := headN f ++ bitsB f.data
def bodyN (f : Fr) : List Bool := plainN f ++ bitsN 15 (sumN 0 (plainN f))
def headL (e : Bool) : Nat := if e then 39 else 19
theorem firstN_length (f : Fr) : (firstN f).length = if f.ext then 33 else 14 := by
  unfold firstN; split <;> simp [length_bitsN]
theorem headN_length (f : Fr) : (headN f).length = headL f.ext := by
  unfold headN headL; rw [List.length_append, firstN_length]; split <;> simp [length_bitsN]
theorem plainN_length (f : Fr) : (plainN f).length = headL f.ext + 8 * f.data.length := by
  unfold plainN; rw [List.length_append, headN_length, length_bitsB]
theorem bodyN_length (f : Fr) : (bodyN f).length = headL f.ext + 8 * f.data.length + 15 := by
  unfold bodyN; rw [List.length_append, plainN_length, length_bitsN]
theorem bodyN_le {f : Fr} (h : f.Right) : 34 ≤ (bodyN f).length ∧ (bodyN f).length ≤ 118 ∧ (f.ext = true → 54 ≤ (bodyN f).length) := by
  rw [bodyN_length, h.len]; have := f.long_le; unfold headL; split <;> simp_all <;> omega
def hlenN (l : List Bool) : Nat := if l.length < 14 then 0 else if l.length < headL (l.getD 13 false) then 0 else headL (l.getD 13 false)
def readN (l : List Bool) : Fr :=
  if l.getD 13 false then { id := numN ((l.drop 1).take 11) * 262144 + numN ((l.drop 14).take 18), ext := true, rem := l.getD 32 false, dlc := numN ((l.drop 35).take 4), data := [] }
  else { id := numN ((l.drop 1).take 11), ext := false, rem := l.getD 12 false, dlc := numN ((l.drop 15).take 4), data := [] }
def lenN (l : List Bool) : Nat × Bool := if hlenN l = 0 then (0, false) else (hlenN l + 8 * (readN l).long + 15, true)
theorem getD_append_right {l m : List Bool} {i : Nat} (h : l.length ≤ i) : (l ++ m).getD i false = m.getD (i - l.length) false := by
  rw [List.getD_eq_getElem?_getD, List.getD_eq_getElem?_getD, List.getElem?_append_right h]
theorem mid_of {a b c : List Bool} {n k : Nat} (hn : a.length = n) (hk : b.length = k) : ((a ++ (b ++ c)).drop n).take k = b := by
  rw [List.drop_left' hn, List.take_left' hk]
theorem head_ext (f : Fr) (m : List Bool) (h : f.ext = true) : headN f ++ m = [false] ++ (bitsN 11 (f.id / 262144) ++ ([true, true] ++ (bitsN 18 f.id ++ ([f.rem] ++ ([false, false] ++ (bitsN 4 f.dlc ++ m)))))) := by
  unfold headN firstN; simp [h]
theorem head_base (f : Fr) (m : List Bool) (h : f.ext = false) : headN f ++ m = [false] ++ (bitsN 11 f.id ++ ([f.rem, false] ++ ([false] ++ (bitsN 4 f.dlc ++ m)))) := by
  unfold headN firstN; simp [h]
theorem getD_mid {a b : List Bool} {x : Bool} {n : Nat} (hn : a.length = n) : (a ++ x :: b).getD n false = x := by
  rw [getD_append_right (by omega), hn, Nat.sub_self]; rfl
theorem head_kind (f : Fr) (m : List Bool) : (headN f ++ m).getD 13 false = f.ext := by
  cases h : f.ext with
  | true =>
    rw [head_ext f m h, ← List.append_assoc, show ∀ l : List Bool, [true, true] ++ l = [true] ++ true :: l from fun _ => rfl, ← List.append_assoc]
    exact getD_mid (by simp [length_bitsN])
  | false =>
    rw [head_base f m h, ← List.append_assoc, show ∀ l : List Bool, [f.rem, false] ++ l = [f.rem] ++ false :: l from fun _ => rfl, ← List.append_assoc]
    exact getD_mid (by simp [length_bitsN])
theorem mod_of {n k : Nat} (h : n < 2 ^ k) : n % 2 ^ k = n := Nat.mod_eq_of_lt h
theorem head_read {f : Fr} (hid : f.id ≤ f.most) (hdlc : f.dlc ≤ 15) (m : List Bool) : readN (headN f ++ m) = { f with data := [] } := by
  unfold readN
  rw [head_kind]
  obtain ⟨id, ext, rem, dlc, data⟩ := f
  cases ext with
  | true =>
    have hid : id ≤ 536870911 := hid
    simp only [if_true]
    rw [head_ext _ m rfl]
    simp only
    have e1 : ((([false] ++ (bitsN 11 (id / 262144) ++ ([true, true] ++ (bitsN 18 id ++ ([rem] ++ ([false, false] ++ (bitsN 4 dlc ++ m))))))).drop 1).take 11) = bitsN 11 (id / 262144) := mid_of rfl (length_bitsN _ _)
    have e2 : ((([false] ++ (bitsN 11 (id / 262144) ++ ([true, true] ++ (bitsN 18 id ++ ([rem] ++ ([false, false] ++ (bitsN 4 dlc ++ m))))))).drop 14).take 18) = bitsN 18 id := by
      rw [← List.append_assoc, ← List.append_assoc]
      exact mid_of (by simp [length_bitsN]) (length_bitsN _ _)
    have e3 : (([false] ++ (bitsN 11 (id / 262144) ++ ([true, true] ++ (bitsN 18 id ++ ([rem] ++ ([false, false] ++ (bitsN 4 dlc ++ m))))))).getD 32 false) = rem := by
      rw [← List.append_assoc, ← List.append_assoc, ← List.append_assoc]
      exact getD_mid (by simp [length_bitsN])
    have e4 : ((([false] ++ (bitsN 11 (id / 262144) ++ ([true, true] ++ (bitsN 18 id ++ ([rem] ++ ([false, false] ++ (bitsN 4 dlc ++ m))))))).drop 35).take 4) = bitsN 4 dlc := by
      rw [← List.append_assoc, ← List.append_assoc, ← List.append_assoc, ← List.append_assoc, ← List.append_assoc]
      exact mid_of (by simp [length_bitsN]) (length_bitsN _ _)
    rw [e1, e2, e3, e4, numN_bitsN, numN_bitsN, numN_bitsN]
    have : id / 262144 % 2 ^ 11 * 262144 + id % 2 ^ 18 = id := by omega
    rw [this, mod_of (show dlc < 2 ^ 4 by have : dlc ≤ 15 := hdlc; omega)]
  | false =>
    have hid : id ≤ 2047 := hid
    simp only [Bool.false_eq_true, if_false]
    rw [head_base _ m rfl]
    simp only
    have e1 : ((([false] ++ (bitsN 11 id ++ ([rem, false] ++ ([false] ++ (bitsN 4 dlc ++ m))))).drop 1).take 11) = bitsN 11 id := mid_of rfl (length_bitsN _ _)
    have e3 : (([false] ++ (bitsN 11 id ++ ([rem, false] ++ ([false] ++ (bitsN 4 dlc ++ m))))).getD 12 false) = rem := by
      rw [← List.append_assoc]
      exact getD_mid (by simp [length_bitsN])
    have e4 : ((([false] ++ (bitsN 11 id ++ ([rem, false] ++ ([false] ++ (bitsN 4 dlc ++ m))))).drop 15).take 4) = bitsN 4 dlc := by
      rw [← List.append_assoc, ← List.append_assoc, ← List.append_assoc]
      exact mid_of (by simp [length_bitsN]) (length_bitsN _ _)
    rw [e1, e3, e4, numN_bitsN, numN_bitsN, mod_of (show id < 2 ^ 11 by omega), mod_of (show dlc < 2 ^ 4 by have : dlc ≤ 15 := hdlc; omega)]
theorem head_hlen (f : Fr) (m : List Bool) : hlenN (headN f ++ m) = headL f.ext := by
  unfold hlenN
  rw [head_kind, List.length_append, headN_length, if_neg (by unfold headL; split <;> omega), if_neg (by omega)]
theorem head_len {f : Fr} (h : f.Right) (m : List Bool) : lenN (headN f ++ m) = (headL f.ext + 8 * f.long + 15, true) := by
  unfold lenN
  rw [head_hlen, if_neg (by unfold headL; split <;> omega), head_read h.id h.dlc]
  rfl
theorem body_head (f : Fr) : bodyN f = headN f ++ (bitsB f.data ++ bitsN 15 (sumN 0 (plainN f))) := by
  unfold bodyN plainN; rw [List.append_assoc]
end Go.Proofs.Ytnnnfnebobaiiaa.L
