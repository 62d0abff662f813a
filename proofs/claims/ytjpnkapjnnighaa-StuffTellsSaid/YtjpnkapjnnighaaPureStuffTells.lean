/- The statement over numbers and lists that is left of the law StuffTells. -/
import Derived.Test.YtjpnkapjnnighaaStStuffTells
import Derived.Test.YtjpnkapjnnighaaSRf
namespace Go.Proofs.Ytjpnkapjnnighaa.Pure
open Go.RowKit Go.Proofs.YtjpnkapjnnighaaW.PrintWords Go.Proofs.YtjpnkapjnnighaaW.PrintLast Go.Proofs.YtjpnkapjnnighaaW.PrintMore Go.Proofs.Ytjpnkapjnnighaa.L Go.Proofs.Ytjpnkapjnnighaa.P
set_option linter.unusedSimpArgs false
theorem awakeST : Ev (fun k => jackstaylaw02_awake.f k) true := Ev.of jackstaylaw02_awake.mono (k := 60) (by decide +kernel)
theorem take_len (l : List Bool) : ∀ r, (takeS r l).1.length ≤ l.length := by
  induction l with
  | nil => intro r; simp [takeS]
  | cons x l ih =>
    intro r
    have := ih (stN r x).1
    unfold takeS
    split <;> simp <;> omega
theorem StuffTells_j1 (l : List Bool) (hl : l.length ≤ 300) : Ev (fun k => jackstaylaw02_StuffTells.j1 k l) true := by
  refine Ev.next ?_
  simp only [jackstaylaw02_StuffTells.j1]
  have h1 := (put_long l (false, 0) (show (0 : Nat) < 5 by decide)).2
  have h2 := take_len l (false, 0)
  simp only at h1
  refine Ev.bind (jackstaylow_Anew.ev l (by omega)) (Ev.bind (stuff_Take.ev l (by omega)) (Ev.bind (jackstayref02_Take.ev l (by omega)) (Ev.bind (stuff_Put.ev l (by omega)) (Ev.bind (jackstayref02_Put.ev l (by omega)) ?_))))
  refine Ev.bind (jackstaylow_Same.yes _ (by omega)) (Ev.pos (by first | rfl | trivial) ?_)
  refine Ev.bind (jackstaylow_Same.yes (takeS (false, 0) l).1 (by omega)) (Ev.pos (by first | rfl | trivial) (Ev.pos (by first | rfl | trivial) ?_))
  exact Ev.bind (jackstaylow_Same.yes _ (by omega)) (Ev.pos (by first | rfl | trivial) (Ev.bind awakeST (Ev.now true)))
theorem stuff_Next.wrong (a : Bool) (n : Int) (x : Bool) (hn : 5 < n ∨ n = 0 ∧ a = true) : Ev (fun k => stuff_Next.f k a n x) (false, 0, 2) := by
  simp only [stuff_Next.f]
  have hr : stuff_right.f a n = some false := by
    unfold stuff_right.f
    rcases hn with h | ⟨h, ha⟩
    · rw [if_neg (by omega)]
    · subst ha
      rw [if_pos (by omega), if_neg (by omega)]
      rfl
  exact Ev.bind (Ev.const hr) (Ev.neg (by decide) (Ev.now _))
theorem stuff_Owed.not (a : Bool) (n : Int) (h : n ≠ 5) : Ev (fun _ => stuff_Owed.f a n) (false, false) := by
  refine Ev.const ?_
  unfold stuff_Owed.f
  rw [if_neg h]
theorem StuffTells_bad (l : List Bool) (hl : l.length ≤ 300) (x a : Bool) (n : Int) : Ev (fun k => jackstaylaw02_StuffTells.j0 k x l 2 false false true a n false 0) true := by
  refine Ev.next ?_
  simp only [jackstaylaw02_StuffTells.j0]
  exact Ev.pos (by first | rfl | trivial) (Ev.neg (by decide) (Ev.pos (by first | rfl | trivial) (Ev.neg (by decide) (Ev.neg (by decide) (StuffTells_j1 l hl)))))
theorem StuffTells_good (l : List Bool) (hl : l.length ≤ 300) (x : Bool) (r : Row) (h : rowOk r) : Ev (fun k => jackstaylaw02_StuffTells.j0 k x l ((stN r x).2 : Int) (if r.2 = 5 then (!r.1, true) else (false, false)).1 (if r.2 = 5 then (!r.1, true) else (false, false)).2 false r.1 (r.2 : Int) (stN r x).1.1 ((stN r x).1.2 : Int)) true := by
  refine Ev.next ?_
  simp only [jackstaylaw02_StuffTells.j0]
  refine Ev.neg (by decide) (Ev.bind (jackstayref02_Next.ev r h x) ?_)
  refine Ev.neg (by simp) (Ev.pos (by first | rfl | trivial) ?_)
  by_cases h5 : r.2 = 5
  · simp only [if_pos h5]
    refine Ev.neg (by rw [h5]; decide) (Ev.pos (by first | rfl | trivial) (Ev.neg (by simp) (StuffTells_j1 l hl)))
  · simp only [if_neg h5]
    have e : (((r.2 : Nat) : Int) == 5) = false := beq_eq_false_iff_ne.mpr (by omega)
    rw [e]
    exact Ev.neg (by decide) (Ev.neg (by decide) (Ev.neg (by decide) (StuffTells_j1 l hl)))
theorem StuffTells : jackstaylaw02_StuffTells.Pure := by
  rintro ⟨a, n⟩ x l hn -
  have hn : 0 ≤ n ∧ n ≤ 255 := wf_u8 hn.2
  refine Ev.rounds ?_
  simp only [jackstaylaw02_StuffTells.f]
  refine Ev.ite (fun _ => Ev.bind awakeST (Ev.now true)) (fun c0 => ?_)
  have hl : l.length ≤ 300 := by omega
  by_cases hb : 5 < n ∨ n = 0 ∧ a = true
  · refine Ev.bind (stuff_Next.wrong a n x hb) (Ev.bind (stuff_Owed.not a n (by omega)) ?_)
    rcases hb with h | ⟨h, ha⟩
    · exact Ev.pos h (StuffTells_bad l hl x a n)
    · subst ha
      exact Ev.neg (by omega) (Ev.pos h (StuffTells_bad l hl x true n))
  · obtain ⟨m, rfl⟩ : ∃ m : Nat, n = (m : Int) := ⟨n.toNat, by omega⟩
    have hok : rowOk (a, m) := ⟨show m ≤ 5 by omega, fun h0 => by
      have h0 : m = 0 := h0
      cases a
      · rfl
      · exact absurd (Or.inr ⟨by omega, rfl⟩) hb⟩
    refine Ev.bind (stuff_Next.ev (a, m) hok x) (Ev.bind (Ev.const (stuff_Owed.is (a, m))) ?_)
    have hg := StuffTells_good l hl x (a, m) hok
    refine Ev.neg (by omega) (Ev.ite (fun h0 => ?_) (fun h0 => hg))
    have ha : a = false := hok.2 (by show m = 0; omega)
    subst ha
    exact hg
end Go.Proofs.Ytjpnkapjnnighaa.Pure
