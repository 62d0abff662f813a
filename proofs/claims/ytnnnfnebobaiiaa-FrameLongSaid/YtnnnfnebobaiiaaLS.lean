/- Printed by the kit and by programs of this work for the claim of aaRowFrameLong, without what the claim does not name. -/
import Derived.Test.YtnnnfnebobaiiaaLB
namespace Go.Proofs.Ytnnnfnebobaiiaa.L
abbrev Row := Bool × Nat
def stN (r : Row) (x : Bool) : Row × Nat :=
  if r.2 = 5 then (if x = r.1 then (r, 2) else ((x, 1), 1)) else if 0 < r.2 ∧ r.1 = x then ((x, r.2 + 1), 0) else ((x, 1), 0)
def rowOk (r : Row) : Prop := r.2 ≤ 5 ∧ (r.2 = 0 → r.1 = false)
def putS : Row → List Bool → List Bool
  | _, [] => []
  | r, x :: l => if (stN r x).1.2 = 5 then x :: (!x) :: putS (!x, 1) l else x :: putS (stN r x).1 l
theorem stN_ok {r : Row} (h : r.2 ≤ 5) (x : Bool) : (stN r x).1.2 ≤ 5 ∧ 1 ≤ (stN r x).1.2 := by
  unfold stN
  split
  · split <;> simp <;> omega
  · split <;> simp <;> omega
theorem stN_last (r : Row) (x : Bool) : (stN r x).1.1 = x := by
  unfold stN
  split
  · split
    · simp_all
    · rfl
  · split <;> rfl
theorem stN_five {r : Row} (h : r.2 = 5) (x : Bool) : stN r x = if x = r.1 then (r, 2) else ((x, 1), 1) := by unfold stN; rw [if_pos h]
def runs : Row → List Bool → Prop
  | _, [] => True
  | r, x :: l => (if 0 < r.2 ∧ r.1 = x then r.2 + 1 else 1) ≤ 5 ∧ runs (x, if 0 < r.2 ∧ r.1 = x then r.2 + 1 else 1) l
theorem put_runs (l : List Bool) : ∀ r : Row, r.2 < 5 → runs r (putS r l) := by
  induction l with
  | nil => intro r _; trivial
  | cons x l ih =>
    intro r hr
    have e : (stN r x).1 = (x, if 0 < r.2 ∧ r.1 = x then r.2 + 1 else 1) := by
      unfold stN
      rw [if_neg (by omega)]
      split <;> rfl
    have hle : (if 0 < r.2 ∧ r.1 = x then r.2 + 1 else 1) ≤ 5 := by split <;> omega
    unfold putS
    split
    · rename_i h5
      refine ⟨hle, ?_⟩
      rw [e] at h5
      simp only at h5
      rw [h5]
      refine ⟨?_, ?_⟩
      · rw [if_neg (by cases x <;> simp)]; decide
      · rw [if_neg (by cases x <;> simp)]
        exact ih (!x, 1) (show (1 : Nat) < 5 by decide)
    · rename_i h5
      refine ⟨hle, ?_⟩
      rw [← e]
      have := (stN_ok (r := r) (by omega) x).1
      exact ih _ (by omega)
theorem put_long (l : List Bool) : ∀ r : Row, r.2 < 5 → l.length ≤ (putS r l).length ∧ 4 * ((putS r l).length - l.length) ≤ l.length + (r.2 - 1) := by
  induction l with
  | nil => intro r _; simp [putS]
  | cons x l ih =>
    intro r hr
    have e : (stN r x).1 = (x, if 0 < r.2 ∧ r.1 = x then r.2 + 1 else 1) := by
      unfold stN
      rw [if_neg (by omega)]
      split <;> rfl
    unfold putS
    split
    · rename_i h5
      obtain ⟨h1, h2⟩ := ih (!x, 1) (show (1 : Nat) < 5 by decide)
      rw [e] at h5
      simp only at h5
      have : r.2 = 4 := by split at h5 <;> omega
      simp only [List.length_cons] at *
      omega
    · rename_i h5
      have h6 := (stN_ok (r := r) (by omega) x).1
      obtain ⟨h1, h2⟩ := ih (stN r x).1 (by omega)
      rw [e] at h1 h2
      simp only at h1 h2
      rw [e]
      simp only [List.length_cons] at *
      generalize hq : (if 0 < r.2 ∧ r.1 = x then r.2 + 1 else 1) = q at *
      have hq2 : q ≤ r.2 + 1 := by rw [← hq]; split <;> omega
      have hq3 : r.2 = 0 → q = 1 := by intro h; rw [← hq, if_neg (by omega)]
      omega
end Go.Proofs.Ytnnnfnebobaiiaa.L
