/- Plain laws on bit stuffing: what was put is taken; no six bits alike; how many bits more. No program in sight. -/
import Derived.Test.YtjpnkapjnnighaaLB
namespace Go.Proofs.Ytjpnkapjnnighaa.L
abbrev Row := Bool × Nat
/-- The row behind a bit, and its kind: 0 plain, 1 stuff, 2 wrong. -/
def stN (r : Row) (x : Bool) : Row × Nat :=
  if r.2 = 5 then (if x = r.1 then (r, 2) else ((x, 1), 1)) else if 0 < r.2 ∧ r.1 = x then ((x, r.2 + 1), 0) else ((x, 1), 0)
def rowOk (r : Row) : Prop := r.2 ≤ 5 ∧ (r.2 = 0 → r.1 = false)
def putS : Row → List Bool → List Bool
  | _, [] => []
  | r, x :: l => if (stN r x).1.2 = 5 then x :: (!x) :: putS (!x, 1) l else x :: putS (stN r x).1 l
/-- What is taken, and where it is wrong (none: nowhere). -/
def takeS : Row → List Bool → List Bool × Option Nat
  | _, [] => ([], none)
  | r, x :: l =>
    match (stN r x).2 with
    | 0 => (x :: (takeS (stN r x).1 l).1, (takeS (stN r x).1 l).2.map (· + 1))
    | 1 => ((takeS (stN r x).1 l).1, (takeS (stN r x).1 l).2.map (· + 1))
    | _ => ([], some 0)
/-- The row behind bits (as long as none is wrong). -/
def rowS (r : Row) (l : List Bool) : Row := l.foldl (fun a x => (stN a x).1) r
theorem stN_ok {r : Row} (h : r.2 ≤ 5) (x : Bool) : (stN r x).1.2 ≤ 5 ∧ 1 ≤ (stN r x).1.2 := by
  unfold stN
  split
  · split <;> simp <;> omega
  · split <;> simp <;> omega
theorem stN_last (r : Row) (x : Bool) : (stN r x).1.1 = x := by
  unfold stN
  split
  · split
    · simp_all
    · rfl
  · split <;> rfl
theorem stN_five {r : Row} (h : r.2 = 5) (x : Bool) : stN r x = if x = r.1 then (r, 2) else ((x, 1), 1) := by unfold stN; rw [if_pos h]
theorem stN_less {r : Row} (h : r.2 ≠ 5) (x : Bool) : (stN r x).2 = 0 := by unfold stN; rw [if_neg h]; split <;> rfl
theorem stN_stuff (x : Bool) (n : Nat) (h : n = 5) : stN (x, n) (!x) = ((!x, 1), 1) := by
  subst h
  cases x <;> rfl
theorem take_put (l : List Bool) : ∀ r : Row, r.2 < 5 → takeS r (putS r l) = (l, none) := by
  induction l with
  | nil => intro r _; rfl
  | cons x l ih =>
    intro r hr
    have h0 := stN_less (r := r) (by omega) x
    have hok := stN_ok (r := r) (by omega) x
    have hl := stN_last r x
    unfold putS
    split
    · rename_i h5
      have hst : stN (stN r x).1 (!x) = ((!x, 1), 1) := by
        have e : (stN r x).1 = (x, 5) := Prod.ext hl h5
        rw [e]
        exact stN_stuff x 5 rfl
      simp only [takeS, h0, hst]
      rw [ih (!x, 1) (show (1 : Nat) < 5 by decide)]
      rfl
    · rename_i h5
      simp only [takeS, h0]
      rw [ih _ (by omega)]
      rfl
/-- Runs of bits alike, none longer than five. -/
def runs : Row → List Bool → Prop
  | _, [] => True
  | r, x :: l => (if 0 < r.2 ∧ r.1 = x then r.2 + 1 else 1) ≤ 5 ∧ runs (x, if 0 < r.2 ∧ r.1 = x then r.2 + 1 else 1) l
theorem put_runs (l : List Bool) : ∀ r : Row, r.2 < 5 → runs r (putS r l) := by
  induction l with
  | nil => intro r _; trivial
  | cons x l ih =>
    intro r hr
    have e : (stN r x).1 = (x, if 0 < r.2 ∧ r.1 = x then r.2 + 1 else 1) := by
      unfold stN
      rw [if_neg (by omega)]
      split <;> rfl
    have hle : (if 0 < r.2 ∧ r.1 = x then r.2 + 1 else 1) ≤ 5 := by split <;> omega
    unfold putS
    split
    · rename_i h5
      refine ⟨hle, ?_⟩
      rw [e] at h5
      simp only at h5
      rw [h5]
      refine ⟨?_, ?_⟩
      · rw [if_neg (by cases x <;> simp)]; decide
      · rw [if_neg (by cases x <;> simp)]
        exact ih (!x, 1) (show (1 : Nat) < 5 by decide)
    · rename_i h5
      refine ⟨hle, ?_⟩
      rw [← e]
      have := (stN_ok (r := r) (by omega) x).1
      exact ih _ (by omega)
theorem put_long (l : List Bool) : ∀ r : Row, r.2 < 5 → l.length ≤ (putS r l).length ∧ 4 * ((putS r l).length - l.length) ≤ l.length + (r.2 - 1) := by
  induction l with
  | nil => intro r _; simp [putS]
  | cons x l ih =>
    intro r hr
    have e : (stN r x).1 = (x, if 0 < r.2 ∧ r.1 = x then r.2 + 1 else 1) := by
      unfold stN
      rw [if_neg (by omega)]
      split <;> rfl
    unfold putS
    split
    · rename_i h5
      obtain ⟨h1, h2⟩ := ih (!x, 1) (show (1 : Nat) < 5 by decide)
      rw [e] at h5
      simp only at h5
      have : r.2 = 4 := by split at h5 <;> omega
      simp only [List.length_cons] at *
      omega
    · rename_i h5
      have h6 := (stN_ok (r := r) (by omega) x).1
      obtain ⟨h1, h2⟩ := ih (stN r x).1 (by omega)
      rw [e] at h1 h2
      simp only at h1 h2
      rw [e]
      simp only [List.length_cons] at *
      generalize hq : (if 0 < r.2 ∧ r.1 = x then r.2 + 1 else 1) = q at *
      have hq2 : q ≤ r.2 + 1 := by rw [← hq]; split <;> omega
      have hq3 : r.2 = 0 → q = 1 := by intro h; rw [← hq, if_neg (by omega)]
      omega
/-- What a row owes. -/
def owes (r : Row) : List Bool := if r.2 = 5 then [!r.1] else []
def behind (r : Row) : Row := if r.2 = 5 then (!r.1, 1) else r
theorem put_take (m : List Bool) : ∀ (r : Row), r.2 ≤ 5 → (takeS r m).2 = none → owes r ++ putS (behind r) (takeS r m).1 = m ++ owes (rowS r m) := by
  induction m with
  | nil =>
    intro r _ _
    simp [takeS, putS, rowS]
  | cons x m ih =>
    intro r hr hn
    have hok := stN_ok hr x
    have hl := stN_last r x
    show _ = x :: m ++ owes (rowS (stN r x).1 m)
    by_cases h5 : r.2 = 5
    · by_cases hx : x = r.1
      · have hs : stN r x = (r, 2) := by rw [stN_five h5 x, if_pos hx]
        simp [takeS, hs] at hn
      · have hs : stN r x = ((x, 1), 1) := by rw [stN_five h5 x, if_neg hx]
        have hxx : (!r.1) = x := by revert hx; cases x <;> cases r.1 <;> simp
        simp only [takeS, hs] at hn ⊢
        have h := ih (x, 1) (show (1 : Nat) ≤ 5 by decide) (by simpa using hn)
        unfold owes behind at h ⊢
        rw [if_pos h5, if_pos h5, hxx]
        simp only [show ¬ ((1 : Nat) = 5) by decide, if_false, List.nil_append] at h
        simp only [List.cons_append, List.nil_append]
        rw [h]
    · have h0 := stN_less h5 x
      simp only [takeS, h0] at hn ⊢
      have h := ih (stN r x).1 hok.1 (by simpa using hn)
      have ho : owes r = [] := by unfold owes; rw [if_neg h5]
      have hb : behind r = r := by unfold behind; rw [if_neg h5]
      rw [ho, hb]
      unfold putS
      unfold owes behind at h
      split
      · rename_i h6
        rw [if_pos h6, if_pos h6, hl] at h
        simp only [List.nil_append, List.cons_append] at h ⊢
        rw [h]
        rfl
      · rename_i h6
        rw [if_neg h6, if_neg h6] at h
        simp only [List.nil_append, List.cons_append] at h ⊢
        rw [h]
        rfl
/-- Cut ahead of the first wrong bit nothing is wrong, and what is taken is a part of it. -/
theorem take_cut (l : List Bool) : ∀ (r : Row) (k : Nat), (∀ n, (takeS r l).2 = some n → k ≤ n) → (takeS r (l.take k)).2 = none ∧ (takeS r (l.take k)).1 <+: (takeS r l).1 := by
  induction l with
  | nil => intro r k _; simp [takeS]
  | cons x l ih =>
    intro r k hk
    cases k with
    | zero => simp [takeS]
    | succ k =>
      rw [List.take_succ_cons]
      have step : (stN r x).2 = 0 ∨ (stN r x).2 = 1 ∨ (stN r x).2 = 2 := by
        unfold stN
        split
        · split <;> simp
        · split <;> simp
      rcases step with h | h | h
      · simp only [takeS, h] at hk ⊢
        obtain ⟨h1, h2⟩ := ih (stN r x).1 k (fun n hn => by have := hk (n + 1) (by rw [hn]; rfl); omega)
        rw [h1]
        exact ⟨rfl, by simpa using h2⟩
      · simp only [takeS, h] at hk ⊢
        obtain ⟨h1, h2⟩ := ih (stN r x).1 k (fun n hn => by have := hk (n + 1) (by rw [hn]; rfl); omega)
        rw [h1]
        exact ⟨rfl, h2⟩
      · simp only [takeS, h] at hk
        have := hk 0 rfl
        omega
/-- Where it is wrong the five bits ahead are like that one. -/
theorem take_wrong (l : List Bool) : ∀ (p : List Bool) (r : Row), r.2 ≤ 5 → r.2 ≤ p.length → (∀ j, j < r.2 → p[p.length - 1 - j]? = some r.1) → ∀ n, (takeS r l).2 = some n →
    n < l.length ∧ 5 ≤ p.length + n ∧ ∃ b, ∀ j, j ≤ 5 → (p ++ l)[p.length + n - j]? = some b := by
  induction l with
  | nil => intro p r _ _ _ n hn; simp [takeS] at hn
  | cons x l ih =>
    intro p r h5 hp hr n hn
    have hok := stN_ok h5 x
    have step : (stN r x).2 = 0 ∨ (stN r x).2 = 1 ∨ (stN r x).2 = 2 := by
      unfold stN
      split
      · split <;> simp
      · split <;> simp
    have hrow : (stN r x).2 ≠ 2 → ∀ j, j < (stN r x).1.2 → (p ++ [x])[(p ++ [x]).length - 1 - j]? = some (stN r x).1.1 := by
      intro hk j hj
      rw [stN_last]
      simp only [List.length_append, List.length_singleton, Nat.add_sub_cancel]
      cases j with
      | zero => simp
      | succ j =>
        have hc : 0 < r.2 ∧ r.1 = x ∧ (stN r x).1.2 = r.2 + 1 := by
          revert hk hj
          unfold stN
          split
          · split <;> simp
          · split
            · rename_i h; intro _ _; exact ⟨h.1, h.2, rfl⟩
            · simp
        rw [List.getElem?_append_left (by omega)]
        have := hr j (by omega)
        rw [hc.2.1] at this
        rw [← this]
        congr 1
        omega
    have go : (stN r x).2 ≠ 2 → ∀ m, (takeS (stN r x).1 l).2 = some m → n = m + 1 → n < (x :: l).length ∧ 5 ≤ p.length + n ∧ ∃ b, ∀ j, j ≤ 5 → (p ++ x :: l)[p.length + n - j]? = some b := by
      intro hk m hm hnm
      subst hnm
      have hpl : (stN r x).1.2 ≤ (p ++ [x]).length := by
        have h1 : (stN r x).1.2 ≤ r.2 + 1 := by
          unfold stN
          split
          · split <;> simp
          · split <;> simp
        simp; omega
      obtain ⟨h1, h2, b, h3⟩ := ih (p ++ [x]) _ hok.1 hpl (hrow hk) m hm
      simp only [List.length_append, List.length_singleton, List.length_cons, List.length_nil, List.append_assoc, List.singleton_append, Nat.zero_add] at h1 h2 h3 ⊢
      refine ⟨by omega, by omega, b, fun j hj => ?_⟩
      have := h3 j hj
      rw [← this]
      congr 1
      omega
    rcases step with h | h | h
    · simp only [takeS, h, Option.map_eq_some_iff] at hn
      obtain ⟨m, hm, hnm⟩ := hn
      exact go (by omega) m hm hnm.symm
    · simp only [takeS, h, Option.map_eq_some_iff] at hn
      obtain ⟨m, hm, hnm⟩ := hn
      exact go (by omega) m hm hnm.symm
    · simp only [takeS, h, Option.some.injEq] at hn
      subst hn
      have h5' : r.2 = 5 ∧ x = r.1 := by
        revert h
        unfold stN
        split
        · split
          · rename_i a b; intro _; exact ⟨a, b⟩
          · simp
        · split <;> simp
      refine ⟨by simp, by omega, x, fun j hj => ?_⟩
      cases j with
      | zero => simp
      | succ j =>
        have := hr j (by omega)
        rw [List.getElem?_append_left (by omega), h5'.2, ← this]
        congr 1
        omega
end Go.Proofs.Ytjpnkapjnnighaa.L
