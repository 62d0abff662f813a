/- The statement over numbers and lists that is left of the law ConfMerges. -/
import Derived.Test.YtgpdcgbohodfoaaStConfMerges
import Derived.Test.YtgpdcgbohodfoaaSCf
namespace Go.Proofs.Ytgpdcgbohodfoaa.Pure
open Go.RowKit Go.Proofs.YtgpdcgbohodfoaaW.PrintWords Go.Proofs.YtgpdcgbohodfoaaW.PrintLast Go.Proofs.YtgpdcgbohodfoaaW.PrintMore Go.Proofs.Ytgpdcgbohodfoaa.P
set_option linter.unusedSimpArgs false
theorem awakeCM : Ev (fun k => jackstaylaw06_awake.f k) true := Ev.of jackstaylaw06_awake.mono (k := 1500) (by decide +kernel)
theorem rd_memM (l : List Int) (i : Nat) (h : i < l.length) : ∃ x ∈ l, rd l (i : Int) = x := by
  refine ⟨l[i], List.getElem_mem h, ?_⟩
  simp [rd, List.getD_eq_getElem?_getD, h]
theorem sends_is (w : Int) : jackstaylaw06_ConfMerges_1.f w = some (decide (5 ≤ w ∧ w ≤ 8)) := by
  unfold jackstaylaw06_ConfMerges_1.f
  by_cases h : w ≥ 5
  · rw [if_pos h]
    congr 1
    rw [decide_eq_decide]
    omega
  · rw [if_neg h, decide_eq_false (by omega)]
/-- What is counted when sending says nothing of the other counter; and the other way round. -/
theorem evOn_sends {w : Int} (h : 5 ≤ w ∧ w ≤ 8) (t : Int) : ∃ t' o', ∀ r, evOn t r w = (t', r, o') := by
  rcases nine (show 1 ≤ w ∧ w ≤ 9 by omega) with rfl | rfl | rfl | rfl | rfl | rfl | rfl | rfl | rfl
  · omega
  · omega
  · omega
  · omega
  · exact ⟨t + 8, decide (255 < t + 8), fun r => rfl⟩
  · exact ⟨t + 8, decide (255 < t + 8), fun r => rfl⟩
  · exact ⟨t + 8, decide (255 < t + 8), fun r => rfl⟩
  · exact ⟨if 0 < t then t - 1 else 0, false, fun r => rfl⟩
  · omega
theorem evOn_takes {w : Int} (h : 1 ≤ w ∧ w ≤ 9) (hn : ¬ (5 ≤ w ∧ w ≤ 8)) (r : Int) : ∃ r', ∀ t, evOn t r w = (t, r', false) := by
  rcases nine h with rfl | rfl | rfl | rfl | rfl | rfl | rfl | rfl | rfl
  · exact ⟨if 255 < r + 1 then 255 else r + 1, fun t => rfl⟩
  · exact ⟨if 255 < r + 8 then 255 else r + 8, fun t => rfl⟩
  · exact ⟨if 255 < r + 8 then 255 else r + 8, fun t => rfl⟩
  · exact ⟨if 255 < r + 8 then 255 else r + 8, fun t => rfl⟩
  · omega
  · omega
  · omega
  · omega
  · exact ⟨if 127 < r then 119 else if 0 < r then r - 1 else 0, fun t => rfl⟩
theorem ConfMerges_l0 (l : List Int) (hx : ∀ x ∈ l, 0 ≤ x ∧ x ≤ 255) (hl : l.length ≤ 60) (t0 r0 : Int) (ht0 : 0 ≤ t0 ∧ t0 ≤ 255) (hr0 : 0 ≤ r0 ∧ r0 ≤ 255) : ∀ (d i : Nat), d + i = l.length → ∀ t r : Int, 0 ≤ t ∧ t ≤ 255 → 0 ≤ r ∧ r ≤ 255 →
    Ev (fun k => jackstaylaw06_ConfMerges.l0 k l (l.length : Int) (i : Int) t0 r0 false 0 0 t r false 0 0 t r0 false 0 0 t0 r false 0 0) true
  | 0, i, h, t, r, ht, hr => by
    refine Ev.next ?_
    simp only [jackstaylaw06_ConfMerges.l0]
    exact Ev.neg (by omega) (Ev.pos (by first | rfl | trivial) (Ev.pos (by first | rfl | trivial) (Ev.pos (by first | rfl | trivial) (Ev.pos (by first | rfl | trivial) (Ev.bind awakeCM (Ev.now true))))))
  | d + 1, i, h, t, r, ht, hr => by
    refine Ev.next ?_
    simp only [jackstaylaw06_ConfMerges.l0]
    obtain ⟨x, hm, hrd⟩ := rd_memM l i (by omega)
    rw [hrd]
    have a1 := Int.tmod_nonneg (9 : Int) (hx x hm).1
    have a2 := Int.tmod_lt_of_pos x (show (0 : Int) < 9 by decide)
    obtain ⟨w, hw, hw1⟩ : ∃ w : Int, (1 + Int.tmod x 9) % 256 = w ∧ (1 ≤ w ∧ w ≤ 9) := ⟨_, rfl, by omega⟩
    rw [hw, w64 (x := (i : Int) + 1) (by omega) (by omega), show (i : Int) + 1 = ((i + 1 : Nat) : Int) by omega]
    refine Ev.pos (by omega) (Ev.pos (by omega) (Ev.pos (by omega) ?_))
    have hv := evOn_ok ht.1 ht.2 hr.1 hr.2 hw1
    refine Ev.bind (conf_Event.on ht.1 ht.2 hr.1 hr.2 hw1) (Ev.bind (Ev.const (sends_is w)) ?_)
    by_cases hs : 5 ≤ w ∧ w ≤ 8
    · rw [decide_eq_true hs]
      refine Ev.pos (by first | rfl | trivial) (Ev.bind (conf_Event.on ht.1 ht.2 hr0.1 hr0.2 hw1) ?_)
      obtain ⟨t', o', he⟩ := evOn_sends hs t
      rw [he r] at hv
      rw [he r, he r0]
      simp only at hv ⊢
      cases o' with
      | true => exact Ev.pos (by first | rfl | trivial) (Ev.pos (by first | rfl | trivial) (Ev.pos (by first | rfl | trivial) (Ev.bind awakeCM (Ev.now true))))
      | false =>
        have h255 : ¬ 255 < t' := by have := hv.2.2.2.2; simpa using this
        exact Ev.neg (by decide) (Ev.neg (by decide) (ConfMerges_l0 l hx hl t0 r0 ht0 hr0 d (i + 1) (by omega) t' r ⟨hv.1, by omega⟩ hr))
    · rw [decide_eq_false hs]
      refine Ev.neg (by decide) (Ev.bind (conf_Event.on ht0.1 ht0.2 hr.1 hr.2 hw1) ?_)
      obtain ⟨r', he⟩ := evOn_takes hw1 hs r
      rw [he t] at hv
      rw [he t, he t0]
      simp only at hv ⊢
      exact Ev.neg (by decide) (Ev.neg (by decide) (ConfMerges_l0 l hx hl t0 r0 ht0 hr0 d (i + 1) (by omega) t r' ht ⟨hv.2.2.1, hv.2.2.2.1⟩))
theorem begunM (t r u m : Int) (o : Bool) : ∃ t' r' u' m' o', Okc t' r' o' u' m' ∧ Ev (fun _ => jackstaylaw06_begun.f t r o u m) (t', r', o', u', m') := by
  unfold jackstaylaw06_begun.f
  by_cases h : Okc t r o u m
  · refine ⟨t, r, u, m, o, h, Ev.const ?_⟩
    rw [conf_Right.is, decide_eq_true h]
    rfl
  · refine ⟨0, 0, 0, 0, false, by decide, Ev.const ?_⟩
    rw [conf_Right.is, decide_eq_false h]
    rfl
theorem ConfMerges : jackstaylaw06_ConfMerges.Pure := by
  rintro ⟨t, r, o, u, m⟩ l - ⟨h1, -⟩
  refine Ev.rounds ?_
  simp only [jackstaylaw06_ConfMerges.f]
  obtain ⟨t', r', u', m', o', hok, hb⟩ := begunM t r u m o
  refine Ev.bind hb ?_
  refine Ev.ite (fun _ => Ev.bind awakeCM (Ev.now true)) (fun ho => ?_)
  obtain ⟨k1, k2, k | k⟩ := hok
  · exact absurd k.1 ho
  obtain ⟨rfl, k3, k4, rfl, rfl⟩ := k
  have hmn : 0 ≤ mn (l.length : Int) 60 ∧ mn (l.length : Int) 60 ≤ (l.length : Int) ∧ mn (l.length : Int) 60 ≤ 60 := by unfold mn; split <;> omega
  refine Ev.pos hmn.1 (Ev.pos hmn.2.1 ?_)
  exact ConfMerges_l0 _ (fun x hx => wf_u8 (h1 x (List.mem_of_mem_take hx))) (by rw [List.length_take]; omega) t' r' ⟨k3, k4⟩ ⟨k1, k2⟩ _ 0 (Nat.add_zero _) t' r' ⟨k3, k4⟩ ⟨k1, k2⟩
end Go.Proofs.Ytgpdcgbohodfoaa.Pure
