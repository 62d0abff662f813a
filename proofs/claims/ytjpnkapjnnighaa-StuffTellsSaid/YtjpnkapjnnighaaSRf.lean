/- What the document's functions on stuffing answer: a row is told by looking back; the same plain terms. -/
import Derived.Test.YtjpnkapjnnighaaPx4
import Derived.Test.YtjpnkapjnnighaaPx5
import Derived.Test.YtjpnkapjnnighaaSS
import Derived.Test.YtjpnkapjnnighaaSL
namespace Go.Proofs.Ytjpnkapjnnighaa.P
open Go.RowKit Go.Proofs.YtjpnkapjnnighaaW.PrintWords Go.Proofs.YtjpnkapjnnighaaW.PrintLast Go.Proofs.YtjpnkapjnnighaaW.PrintMore Go.Proofs.Ytjpnkapjnnighaa.L
set_option linter.unusedSimpArgs false
/-- A row of alike bits, one bit later (five at most are counted). -/
def stepR (r : Row) (x : Bool) : Row := if 0 < r.2 ∧ r.1 = x then (x, if r.2 = 5 then 5 else r.2 + 1) else (x, 1)
/-- The row that bits begin with. -/
def rowV : List Bool → Row
  | [] => (false, 0)
  | x :: t => stepR (rowV t) x
def rowE (l : List Bool) : Row := rowV l.reverse
theorem rowE_snoc (l : List Bool) (x : Bool) : rowE (l ++ [x]) = stepR (rowE l) x := by simp [rowE, rowV]
theorem rowV_char : ∀ (x : Bool) (t : List Bool), (rowV (x :: t)).1 = x ∧ 1 ≤ (rowV (x :: t)).2 ∧ (rowV (x :: t)).2 ≤ 5 ∧ (∀ j, j < (rowV (x :: t)).2 → (x :: t)[j]? = some x) ∧ ((rowV (x :: t)).2 < 5 → (x :: t)[(rowV (x :: t)).2]? ≠ some x)
  | x, [] => by
    have e : rowV [x] = (x, 1) := by simp [rowV, stepR]
    rw [e]
    refine ⟨rfl, Nat.le_refl 1, show (1 : Nat) ≤ 5 by decide, fun j hj => ?_, fun _ => by simp⟩
    have : j = 0 := by simpa using hj
    subst this
    rfl
  | x, y :: t => by
    obtain ⟨h1, h2, h3, h4, h5⟩ := rowV_char y t
    generalize hr : rowV (y :: t) = r at h1 h2 h3 h4 h5
    have e : rowV (x :: y :: t) = stepR r x := by rw [← hr]; rfl
    rw [e]
    unfold stepR
    by_cases hc : 0 < r.2 ∧ r.1 = x
    · rw [if_pos hc]
      have hyx : y = x := by rw [← h1]; exact hc.2
      subst hyx
      refine ⟨rfl, ?_, ?_, fun j hj => ?_, fun hj => ?_⟩
      · show 1 ≤ (if r.2 = 5 then 5 else r.2 + 1); split <;> omega
      · show (if r.2 = 5 then 5 else r.2 + 1) ≤ 5; split <;> omega
      · cases j with
        | zero => rfl
        | succ j =>
          have hj : j + 1 < (if r.2 = 5 then 5 else r.2 + 1) := hj
          rw [List.getElem?_cons_succ]
          exact h4 j (by split at hj <;> omega)
      · have hj : (if r.2 = 5 then 5 else r.2 + 1) < 5 := hj
        show (y :: y :: t)[if r.2 = 5 then 5 else r.2 + 1]? ≠ some y
        by_cases h5' : r.2 = 5
        · rw [if_pos h5'] at hj; omega
        · rw [if_neg h5', List.getElem?_cons_succ]
          exact h5 (by omega)
    · rw [if_neg hc]
      refine ⟨rfl, Nat.le_refl 1, show (1 : Nat) ≤ 5 by decide, fun j hj => ?_, fun _ => ?_⟩
      · have : j = 0 := by have : j < 1 := hj; omega
        subst this
        rfl
      · show (x :: y :: t)[1]? ≠ some x
        intro he
        have : y = x := by simpa using he
        exact hc ⟨by omega, by rw [h1]; exact this⟩
theorem rowE_char (l : List Bool) (hl : 0 < l.length) : (rowE l).1 = l[l.length - 1] ∧ 1 ≤ (rowE l).2 ∧ (rowE l).2 ≤ 5 ∧ (rowE l).2 ≤ l.length ∧ (∀ j (_ : j < (rowE l).2) (hjl : j < l.length), l[l.length - 1 - j] = (rowE l).1) ∧ (∀ (hjl : (rowE l).2 < l.length), (rowE l).2 < 5 → l[l.length - 1 - (rowE l).2] ≠ (rowE l).1) := by
  have hg : ∀ j (hj : j < l.length), l.reverse[j]? = some l[l.length - 1 - j] := fun j hj => by
    rw [List.getElem?_eq_getElem (by simpa using hj), List.getElem_reverse]
  cases hv : l.reverse with
  | nil => have := congrArg List.length hv; simp at this; subst this; simp at hl
  | cons x t =>
    have hlen : l.length = t.length + 1 := by have := congrArg List.length hv; simpa using this
    obtain ⟨h1, h2, h3, h4, h5⟩ := rowV_char x t
    have e : rowE l = rowV (x :: t) := by unfold rowE; rw [hv]
    rw [hv] at hg
    rw [← e] at h1 h2 h3 h4 h5
    have hx : l[l.length - 1] = x := by
      have := hg 0 hl
      simp only [List.getElem?_cons_zero, Nat.sub_zero] at this
      exact (Option.some.inj this).symm
    refine ⟨by rw [h1, hx], h2, h3, ?_, fun j hj hjl => ?_, fun hjl h => ?_⟩
    · by_cases hle : (rowE l).2 ≤ l.length
      · exact hle
      · have := h4 l.length (by omega)
        rw [List.getElem?_eq_none (by simp; omega)] at this
        cases this
    · have := h4 j hj
      rw [hg j hjl] at this
      rw [h1]
      exact Option.some.inj this
    · have := h5 h
      rw [hg _ hjl] at this
      rw [h1]
      intro he
      exact this (by rw [he])
theorem rdOf_I (l : List Bool) (z : Int) (i : Nat) (hz : z = (i : Int)) (hi : i < l.length) : rdOf false l z = l[i] := by
  subst hz
  exact rdOf_atS l i hi
theorem jackstayref02_Row.l0_ev (l : List Bool) (hl : 0 < l.length) (hm : l.length ≤ 1000000) : ∀ (d n : Nat), d + n = (rowE l).2 →
    Ev (fun k => jackstayref02_Row.l0 k l (n : Int) ((l.length : Int) - 1 - (n : Int))) ((rowE l).1, ((rowE l).2 : Int))
  | 0, n, h => by
    obtain ⟨h1, h2, h3, h4, h5, h6⟩ := rowE_char l hl
    have hn : n = (rowE l).2 := by omega
    have el : wrap64 ((l.length : Int) - 1) = (l.length : Int) - 1 := w64 (by omega) (by omega)
    have er : rdOf false l ((l.length : Int) - 1) = (rowE l).1 := by rw [rdOf_I l _ (l.length - 1) (by omega) (by omega), h1]
    have en : ((n : Int)) % 256 = ((rowE l).2 : Int) := by omega
    have fin : Ev (fun k => jackstayref02_Row.j1 k l (n : Int) ((l.length : Int) - 1 - (n : Int)) false) ((rowE l).1, ((rowE l).2 : Int)) := by
      refine Ev.next ?_
      simp only [jackstayref02_Row.j1]
      refine Ev.neg (by decide) (Ev.neg (by omega) ?_)
      rw [el]
      refine Ev.pos (by omega) (Ev.pos (by omega) ?_)
      rw [er, en]
      exact Ev.now _
    refine Ev.next ?_
    simp only [jackstayref02_Row.l0]
    refine Ev.ite (fun hi => ?_) (fun _ => fin)
    by_cases h5' : (rowE l).2 = 5
    · rw [decide_eq_false (by omega)]
      exact fin
    · rw [decide_eq_true (by omega)]
      refine Ev.next ?_
      simp only [jackstayref02_Row.j1]
      rw [el, er]
      have hne := h6 (by omega) (by omega)
      have ei : rdOf false l ((l.length : Int) - 1 - (n : Int)) = l[l.length - 1 - (rowE l).2]'(by omega) := by
        rw [rdOf_I l _ (l.length - 1 - n) (by omega) (by omega)]
        simp only [hn]
      refine Ev.pos (by first | rfl | trivial) (Ev.pos (by omega) (Ev.pos (by omega) (Ev.pos (by omega) (Ev.pos (by omega) (Ev.pos ?_ (Ev.neg (by omega) ?_))))))
      · rw [ei]; simpa using hne
      · rw [en]; exact Ev.now _
  | d + 1, n, h => by
    obtain ⟨h1, h2, h3, h4, h5, h6⟩ := rowE_char l hl
    have el : wrap64 ((l.length : Int) - 1) = (l.length : Int) - 1 := w64 (by omega) (by omega)
    have er : rdOf false l ((l.length : Int) - 1) = (rowE l).1 := by rw [rdOf_I l _ (l.length - 1) (by omega) (by omega), h1]
    refine Ev.next ?_
    simp only [jackstayref02_Row.l0]
    refine Ev.pos (by omega) ?_
    rw [decide_eq_true (by omega)]
    refine Ev.next ?_
    simp only [jackstayref02_Row.j1]
    rw [el, er]
    have ei : rdOf false l ((l.length : Int) - 1 - (n : Int)) = (rowE l).1 := by
      rw [rdOf_I l _ (l.length - 1 - n) (by omega) (by omega)]
      exact h5 n (by omega) (by omega)
    refine Ev.pos (by first | rfl | trivial) (Ev.pos (by omega) (Ev.pos (by omega) (Ev.pos (by omega) (Ev.pos (by omega) (Ev.neg (by rw [ei]; simp) ?_)))))
    rw [w64 (by omega) (by omega), w64 (by omega) (by omega), show (n : Int) + 1 = ((n + 1 : Nat) : Int) by omega, show (l.length : Int) - 1 - (n : Int) - 1 = (l.length : Int) - 1 - ((n + 1 : Nat) : Int) by omega]
    exact jackstayref02_Row.l0_ev l hl hm d (n + 1) (by omega)
theorem jackstayref02_Row.ev (l : List Bool) (hm : l.length ≤ 1000000) : Ev (fun k => jackstayref02_Row.f k l) ((rowE l).1, ((rowE l).2 : Int)) := by
  simp only [jackstayref02_Row.f]
  cases hl : l.length with
  | zero =>
    have hnil : l = [] := List.length_eq_zero_iff.mp hl
    subst hnil
    refine Ev.next ?_
    simp only [jackstayref02_Row.l0]
    refine Ev.neg (by rw [w64 (by omega) (by omega)]; omega) (Ev.next ?_)
    simp only [jackstayref02_Row.j1]
    exact Ev.neg (by decide) (Ev.pos (by first | rfl | trivial) (Ev.now _))
  | succ m =>
    have := jackstayref02_Row.l0_ev l (by omega) hm (rowE l).2 0 (by omega)
    rw [hl] at this
    rw [w64 (by omega) (by omega)]
    simpa using this
theorem jackstayref02_five.ev (l : List Bool) (hm : l.length ≤ 1000000) : Ev (fun k => jackstayref02_five.f k l) (decide ((rowE l).2 = 5)) := by
  simp only [jackstayref02_five.f]
  refine Ev.bind (jackstayref02_Row.ev l hm) ((Ev.now _).eq ?_)
  rw [Bool.eq_iff_iff, beq_iff_eq, decide_eq_true_iff]
  omega
theorem stepR_stN {r : Row} (h : r.2 < 5) (x : Bool) : stepR r x = (stN r x).1 := by
  unfold stepR stN
  rw [if_neg (show ¬ r.2 = 5 by omega), if_neg (show ¬ r.2 = 5 by omega)]
  split <;> rfl
theorem rowV_rep (b : Bool) : ∀ n, n ≤ 5 → 0 < n → rowV (List.replicate n b) = (b, n)
  | 0, _, h => absurd h (by decide)
  | 1, _, _ => by simp [rowV, stepR]
  | n + 2, h, _ => by
    have ih := rowV_rep b (n + 1) (by omega) (by omega)
    show stepR (rowV (List.replicate (n + 1) b)) b = _
    rw [ih]
    unfold stepR
    rw [if_pos ⟨by show 0 < n + 1; omega, rfl⟩, if_neg (by show ¬ n + 1 = 5; omega)]
theorem rowE_rep (r : Row) (h : rowOk r) (h5 : r.2 < 5) : rowE (List.replicate r.2 r.1) = r := by
  unfold rowE
  rw [List.reverse_replicate]
  by_cases h0 : r.2 = 0
  · rw [h0]
    show (false, 0) = r
    exact Prod.ext (h.2 h0).symm h0.symm
  · rw [rowV_rep r.1 r.2 (by omega) (by omega)]
theorem jackstayref02_Next.l0_ev (r : Row) (h : rowOk r) (h5 : r.2 < 5) (x : Bool) : ∀ (d i : Nat), d + i = r.2 →
    Ev (fun k => jackstayref02_Next.l0 k x (List.replicate i r.1) (i : Int) r.1 (r.2 : Int)) ((stN r x).1.1, ((stN r x).1.2 : Int), 0)
  | 0, i, hi => by
    have e : i = r.2 := by omega
    subst e
    refine Ev.next ?_
    simp only [jackstayref02_Next.l0]
    have hrow : rowE (List.replicate r.2 r.1 ++ [x]) = (stN r x).1 := by rw [rowE_snoc, rowE_rep r h h5, stepR_stN h5]
    refine Ev.neg (by rw [w64 (by omega) (by omega)]; omega) (Ev.pos (by simp; omega) (Ev.bind (jackstayref02_Row.ev _ (by simp; omega)) ?_))
    rw [hrow]
    exact Ev.now _
  | d + 1, i, hi => by
    refine Ev.next ?_
    simp only [jackstayref02_Next.l0]
    refine Ev.pos (by rw [w64 (by omega) (by omega)]; omega) (Ev.pos (by simp; omega) ?_)
    rw [w64 (by omega) (by omega), show (i : Int) + 1 = ((i + 1 : Nat) : Int) by omega, show List.replicate i r.1 ++ [r.1] = List.replicate (i + 1) r.1 by rw [List.replicate_succ']]
    exact jackstayref02_Next.l0_ev r h h5 x d (i + 1) (by omega)
theorem jackstayref02_Next.ev (r : Row) (h : rowOk r) (x : Bool) : Ev (fun k => jackstayref02_Next.f k r.1 (r.2 : Int) x) ((stN r x).1.1, ((stN r x).1.2 : Int), ((stN r x).2 : Int)) := by
  simp only [jackstayref02_Next.f]
  have hr5 := h.1
  by_cases h5 : r.2 = 5
  · refine Ev.pos (by omega) (Ev.next ?_)
    simp only [jackstayref02_Next.j0]
    by_cases hx : x = r.1
    · have hs : stN r x = (r, 2) := by rw [stN_five h5, if_pos hx]
      rw [hs]
      exact Ev.pos (by rw [hx]; simp) (Ev.now _)
    · have hs : stN r x = ((x, 1), 1) := by rw [stN_five h5, if_neg hx]
      rw [hs]
      refine Ev.neg (by revert hx; cases x <;> cases r.1 <;> simp) (Ev.pos (by omega) (Ev.now _))
  · refine Ev.neg (by omega) (Ev.next ?_)
    simp only [jackstayref02_Next.j0]
    refine Ev.neg (by decide) (Ev.neg (by omega) ?_)
    rw [stN_less h5 x]
    exact jackstayref02_Next.l0_ev r h (by omega) x r.2 0 (by omega)
theorem jackstayref02_Take.l0_ev (l : List Bool) (hl : l.length ≤ 1000) : ∀ (d i f : Nat) (acc : List Bool) (r : Row), d + i = l.length → f ≤ i → r = rowE ((l.take i).drop f) → acc.length ≤ i →
    Ev (fun k => jackstayref02_Take.l0 k l acc (f : Int) (i : Int)) (acc ++ (takeS r (l.drop i)).1, atI (takeS r (l.drop i)).2 i)
  | 0, i, f, acc, r, h, hf, hr, ha => by
    refine Ev.next ?_
    simp only [jackstayref02_Take.l0]
    rw [show l.drop i = [] from List.drop_of_length_le (by omega)]
    exact Ev.neg (by omega) ((Ev.now _).eq (by simp [takeS, atI]))
  | d + 1, i, f, acc, r, h, hf, hr, ha => by
    have hi : i < l.length := by omega
    refine Ev.next ?_
    simp only [jackstayref02_Take.l0]
    refine Ev.pos (by omega) (Ev.pos (by omega) (Ev.pos (by omega) (Ev.pos (by omega) ?_)))
    rw [Int.toNat_natCast, Int.toNat_natCast, rdOf_atS l i hi, show l.drop i = l[i] :: l.drop (i + 1) from (List.getElem_cons_drop (h := hi)).symm]
    have hseg : ((l.take i).drop f).length = i - f := by rw [List.length_drop, List.length_take]; omega
    have hnext : (l.take (i + 1)).drop f = (l.take i).drop f ++ [l[i]] := by
      rw [← List.take_append_getElem hi, List.drop_append_of_le_length (by rw [List.length_take]; omega)]
    have ew : wrap64 ((i : Int) + 1) = ((i + 1 : Nat) : Int) := by rw [w64 (by omega) (by omega)]; omega
    refine Ev.bind (jackstayref02_five.ev _ (by omega)) ?_
    rw [← hr]
    by_cases h5 : r.2 = 5
    · rw [decide_eq_true h5]
      have hpos : 0 < ((l.take i).drop f).length := by
        rcases Nat.eq_zero_or_pos ((l.take i).drop f).length with hz | hz
        · have : rowE ((l.take i).drop f) = (false, 0) := by rw [List.length_eq_zero_iff.mp hz]; rfl
          rw [this] at hr
          rw [hr] at h5
          cases h5
        · exact hz
      have hlast := (rowE_char _ hpos).1
      rw [← hr] at hlast
      have hl1 : r.1 = l[i - 1]'(by omega) := by
        rw [hlast]
        simp only [List.getElem_drop, List.getElem_take]
        congr 1
        omega
      have em : wrap64 ((i : Int) - 1) = ((i - 1 : Nat) : Int) := by rw [w64 (by omega) (by omega)]; omega
      rw [em]
      refine Ev.pos (by first | rfl | trivial) (Ev.pos (by omega) (Ev.pos (by omega) (Ev.pos (by omega) ?_)))
      rw [rdOf_atS l (i - 1) (by omega), ← hl1]
      by_cases hx : l[i] = r.1
      · have hs : stN r l[i] = (r, 2) := by rw [stN_five h5, if_pos hx]
        simp only [takeS, hs]
        exact Ev.pos (by rw [hx]; simp) ((Ev.now _).eq (by simp [atI]))
      · have hs : stN r l[i] = ((l[i], 1), 1) := by rw [stN_five h5, if_neg hx]
        simp only [takeS, hs]
        refine Ev.neg (by simpa using hx) ?_
        rw [ew, atI_succ]
        refine jackstayref02_Take.l0_ev l hl d (i + 1) i acc (l[i], 1) (by omega) (by omega) ?_ (by omega)
        rw [← List.take_append_getElem hi, List.drop_append_of_le_length (by rw [List.length_take]; omega), List.drop_of_length_le (by rw [List.length_take]; omega)]
        simp [rowE, rowV, stepR]
    · rw [decide_eq_false h5]
      have hr5 : r.2 < 5 := by
        rcases Nat.eq_zero_or_pos ((l.take i).drop f).length with hz | hz
        · have : rowE ((l.take i).drop f) = (false, 0) := by rw [List.length_eq_zero_iff.mp hz]; rfl
          rw [hr, this]
          decide
        · have := (rowE_char _ hz).2.2.1
          rw [← hr] at this
          omega
      simp only [takeS, stN_less h5]
      refine Ev.neg (by decide) (Ev.pos (by omega) (Ev.pos (by omega) ?_))
      rw [ew, atI_succ]
      refine (jackstayref02_Take.l0_ev l hl d (i + 1) f (acc ++ [l[i]]) (stN r l[i]).1 (by omega) (by omega) ?_ (by simp; omega)).eq (by simp)
      rw [hnext, rowE_snoc, ← hr, stepR_stN hr5]
theorem jackstayref02_Take.ev (l : List Bool) (hl : l.length ≤ 1000) : Ev (fun k => jackstayref02_Take.f k l) ((takeS (false, 0) l).1, atI (takeS (false, 0) l).2 0) := by
  simp only [jackstayref02_Take.f]
  exact (jackstayref02_Take.l0_ev l hl l.length 0 0 [] (false, 0) (by omega) (by omega) (by simp [rowE, rowV]) (by simp)).eq (by simp)
theorem jackstayref02_Put.l0_ev (l : List Bool) (hl : l.length ≤ 1000) : ∀ (d i f : Nat) (acc : List Bool) (r : Row), d + i = l.length → f ≤ acc.length → r = rowE (acc.drop f) → r.2 < 5 → acc.length ≤ 2 * i →
    Ev (fun k => jackstayref02_Put.l0 k l acc (f : Int) (i : Int)) (acc ++ putS r (l.drop i))
  | 0, i, f, acc, r, h, hf, hr, h5, ha => by
    refine Ev.next ?_
    simp only [jackstayref02_Put.l0]
    rw [List.drop_of_length_le (by omega)]
    exact Ev.neg (by omega) ((Ev.now _).eq (by simp [putS]))
  | d + 1, i, f, acc, r, h, hf, hr, h5, ha => by
    have hi : i < l.length := by omega
    refine Ev.next ?_
    simp only [jackstayref02_Put.l0]
    refine Ev.pos (by omega) (Ev.pos (by omega) (Ev.pos (by omega) (Ev.some_bind ?_)))
    rw [Int.toNat_natCast, rdOf_atS l i hi, show l.drop i = l[i] :: l.drop (i + 1) from (List.getElem_cons_drop (h := hi)).symm]
    have hla : (acc ++ [l[i]]).length = acc.length + 1 := by simp
    have hrow : rowE ((acc ++ [l[i]]).drop f) = (stN r l[i]).1 := by
      rw [List.drop_append_of_le_length hf, rowE_snoc, ← hr, stepR_stN h5]
    have hok := stN_ok (r := r) (by omega) l[i]
    have ew : wrap64 ((i : Int) + 1) = ((i + 1 : Nat) : Int) := by rw [w64 (by omega) (by omega)]; omega
    refine Ev.pos (by omega) (Ev.pos (by omega) (Ev.bind (jackstayref02_five.ev _ (by rw [List.length_drop]; omega)) ?_))
    rw [hrow, ew]
    unfold putS
    by_cases h6 : (stN r l[i]).1.2 = 5
    · rw [decide_eq_true h6, if_pos h6]
      refine Ev.pos (by first | rfl | trivial) (Ev.pos (by omega) (Ev.some_bind ?_))
      have hlb : (acc ++ [l[i]] ++ [!l[i]]).length = acc.length + 2 := by simp
      have e2 : wrap64 (((acc ++ [l[i]] ++ [!l[i]]).length : Int) - 1) = ((acc.length + 1 : Nat) : Int) := by rw [w64 (by omega) (by omega)]; omega
      rw [e2]
      refine (jackstayref02_Put.l0_ev l hl d (i + 1) (acc.length + 1) _ (!l[i], 1) (by omega) (by omega) ?_ (show (1 : Nat) < 5 by decide) (by omega)).eq (by simp)
      rw [List.drop_append_of_le_length (by omega), List.drop_of_length_le (by omega)]
      simp [rowE, rowV, stepR]
    · rw [decide_eq_false h6, if_neg h6]
      refine Ev.neg (by decide) ?_
      exact (jackstayref02_Put.l0_ev l hl d (i + 1) f _ (stN r l[i]).1 (by omega) (by omega) hrow.symm (by omega) (by omega)).eq (by simp)
theorem jackstayref02_Put.ev (l : List Bool) (hl : l.length ≤ 1000) : Ev (fun k => jackstayref02_Put.f k l) (putS (false, 0) l) := by
  simp only [jackstayref02_Put.f]
  exact (jackstayref02_Put.l0_ev l hl l.length 0 0 [] (false, 0) (by omega) (by simp) (by simp [rowE, rowV]) (show (0 : Nat) < 5 by decide) (by simp)).eq (by simp)
end Go.Proofs.Ytjpnkapjnnighaa.P
