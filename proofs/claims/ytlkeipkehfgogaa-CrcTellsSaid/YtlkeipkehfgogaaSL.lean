/- What the printed functions of package jackstaylow on bits and bytes answer. -/
import Derived.Test.YtlkeipkehfgogaaPx1
import Derived.Test.YtlkeipkehfgogaaGAnew
import Derived.Laws.BytesArg
import Derived.ChangeKeysEq
import Derived.Test.YtlkeipkehfgogaaLB
import Derived.Test.YtlkeipkehfgogaaEV
namespace Go.Proofs.Ytlkeipkehfgogaa.P
open Go.RowKit Go.Proofs.YtlkeipkehfgogaaW.PrintWords Go.Proofs.YtlkeipkehfgogaaW.PrintLast Go.Proofs.YtlkeipkehfgogaaW.PrintMore Go.Proofs.Ytlkeipkehfgogaa.L
set_option linter.unusedSimpArgs false
theorem rdOf_at' (l : List Bool) (i : Nat) (hi : i < l.length) : rdOf false l (i : Int) = l[i] := by simp [rdOf, List.getD_eq_getElem?_getD, hi]
theorem jackstaylow_Same.l0_ev (a b : List Bool) (hab : a.length = b.length) (hl : a.length ≤ 9223372036854775806) : ∀ (d i : Nat), d + i = a.length →
    Ev (fun k => jackstaylow_Same.l0 k b a (a.length : Int) (i : Int)) (decide (a.drop i = b.drop i))
  | 0, i, h => by
    refine Ev.next ?_
    simp only [jackstaylow_Same.l0]
    refine Ev.neg (by omega) ?_
    rw [List.drop_of_length_le (by omega), List.drop_of_length_le (by omega)]
    exact (Ev.now true).eq (by simp)
  | d + 1, i, h => by
    refine Ev.next ?_
    simp only [jackstaylow_Same.l0]
    have ha : i < a.length := by omega
    have hb : i < b.length := by omega
    refine Ev.pos (by omega) (Ev.pos (by omega) (Ev.pos (by omega) (Ev.pos (by omega) ?_)))
    rw [rdOf_at' a i ha, rdOf_at' b i hb, show a.drop i = a[i] :: a.drop (i + 1) from (List.getElem_cons_drop (h := ha)).symm, show b.drop i = b[i] :: b.drop (i + 1) from (List.getElem_cons_drop (h := hb)).symm]
    refine Ev.ite (fun hc => ?_) (fun hc => ?_)
    · have hne : ¬ b[i] = a[i] := by simpa using hc
      exact (Ev.now false).eq (decide_eq_false (fun h => hne (by injection h with h1 h2; exact h1.symm))).symm
    · have he : b[i] = a[i] := by simpa using hc
      rw [w64 (by omega) (by omega), show (i : Int) + 1 = ((i + 1 : Nat) : Int) by omega]
      exact (jackstaylow_Same.l0_ev a b hab hl d (i + 1) (by omega)).eq (by simp only [he, List.cons.injEq, true_and])
theorem jackstaylow_Same.ev (a b : List Bool) (hl : a.length ≤ 9223372036854775806) : Ev (fun k => jackstaylow_Same.f k a b) (decide (a = b)) := by
  simp only [jackstaylow_Same.f]
  refine Ev.ite (fun hc => ?_) (fun hc => ?_)
  · exact (jackstaylow_Same.l0_ev a b (by omega) hl a.length 0 (by omega)).eq (by simp)
  · refine (Ev.now false).eq ?_
    have : a ≠ b := fun h => hc (by rw [h])
    simp [this]
theorem jackstaylow_Same.yes (a : List Bool) (hl : a.length ≤ 9223372036854775806) : Ev (fun k => jackstaylow_Same.f k a a) true := (jackstaylow_Same.ev a a hl).eq (by simp)
theorem jackstaylow_Anew.ev (a : List Bool) (hl : a.length ≤ 140737488355328) : Ev (fun _ => jackstaylow_Anew.f a) a := Ev.const (by simp [jackstaylow_Anew.f, hl])
theorem str_inj (a b : List Nat) (ha : ∀ x ∈ a, x < 256) (hb : ∀ x ∈ b, x < 256) : ((strOfNums (ints a)).toList == (strOfNums (ints b)).toList) = decide (a = b) := by
  rw [ByteArray.toList_eq, ByteArray.toList_eq, strOfNums_data, strOfNums_data]
  have key : ∀ (a b : List Nat), (∀ x ∈ a, x < 256) → (∀ x ∈ b, x < 256) → (ints a).map (fun n => UInt8.ofNat n.toNat) = (ints b).map (fun n => UInt8.ofNat n.toNat) → a = b := by
    intro a
    induction a with
    | nil => intro b _ _ h; cases b with
      | nil => rfl
      | cons _ _ => simp [ints] at h
    | cons x a ih =>
      intro b ha hb h
      cases b with
      | nil => simp [ints] at h
      | cons y b =>
        simp only [ints, List.map_cons, List.cons.injEq, Int.toNat_natCast] at h
        have h1 := congrArg UInt8.toNat h.1
        have hx := ha x List.mem_cons_self
        have hy := hb y List.mem_cons_self
        simp at h1
        rw [show x = y by omega, ih b (fun z hz => ha z (List.mem_cons_of_mem _ hz)) (fun z hz => hb z (List.mem_cons_of_mem _ hz)) h.2]
  by_cases h : a = b
  · subst h; simp
  · have : ¬ (ints a).map (fun n => UInt8.ofNat n.toNat) = (ints b).map (fun n => UInt8.ofNat n.toNat) := fun e => h (key a b ha hb e)
    simp only [h, decide_false, beq_eq_false_iff_ne, ne_eq]
    exact this
end Go.Proofs.Ytlkeipkehfgogaa.P
