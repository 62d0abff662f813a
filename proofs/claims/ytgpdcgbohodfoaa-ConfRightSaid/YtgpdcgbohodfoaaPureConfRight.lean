/- The statement over numbers and lists that is left of the law ConfRight. -/
import Derived.Test.YtgpdcgbohodfoaaStConfRight
import Derived.Test.YtgpdcgbohodfoaaSCf
namespace Go.Proofs.Ytgpdcgbohodfoaa.Pure
open Go.RowKit Go.Proofs.YtgpdcgbohodfoaaW.PrintWords Go.Proofs.YtgpdcgbohodfoaaW.PrintLast Go.Proofs.YtgpdcgbohodfoaaW.PrintMore Go.Proofs.Ytgpdcgbohodfoaa.P
set_option linter.unusedSimpArgs false
theorem awakeCR : Ev (fun k => jackstaylaw06_awake.f k) true := Ev.of jackstaylaw06_awake.mono (k := 1500) (by decide +kernel)
theorem rdR_mem (l : List S34) (i : Nat) (h : i < l.length) : ∃ x ∈ l, rd_T34 l (i : Int) = x := by
  refine ⟨l[i], List.getElem_mem h, ?_⟩
  simp [rd_T34, List.getD_eq_getElem?_getD, h]
theorem modeR {t r u m : Int} {o : Bool} (h : Okc t r o u m) : (modeS t r o u m == 2) = o := by
  unfold modeS
  cases o
  · rw [if_neg (fun hc => hc.elim (fun h => by cases h) (fun h2 => h2 h))]
    split <;> rfl
  · rw [if_pos (.inl rfl)]; rfl
theorem bitR {t r u m : Int} {o : Bool} (h : Okc t r o u m) (x : Bool) : Okc (bitS t r o u m x).1 (bitS t r o u m x).2.1 (bitS t r o u m x).2.2.1 (bitS t r o u m x).2.2.2.1 (bitS t r o u m x).2.2.2.2 := by
  unfold bitS
  split
  · exact h
  · rename_i hc
    have ho : o = true := by cases o <;> simp_all
    subst ho
    obtain ⟨h1, h2, h | h⟩ := h
    · split
      · exact ⟨h1, h2, .inl ⟨rfl, h.2.1, h.2.2.1, show (0 : Int) ≤ 0 by decide, show (0 : Int) ≤ 10 by decide, h.2.2.2.2.2⟩⟩
      · split
        · split
          · decide
          · exact ⟨h1, h2, .inl ⟨rfl, h.2.1, h.2.2.1, show (0 : Int) ≤ 0 by decide, show (0 : Int) ≤ 10 by decide, show 0 ≤ m + 1 by omega, show m + 1 ≤ 127 by omega⟩⟩
        · exact ⟨h1, h2, .inl ⟨rfl, h.2.1, h.2.2.1, show 0 ≤ u + 1 by omega, show u + 1 ≤ 10 by omega, h.2.2.2.2.2⟩⟩
    · exact absurd h.1 (by decide)
theorem ConfRight_j2 (l : List S34) (n i : Int) (H : ∀ (t r u m : Int) (o : Bool), Okc t r o u m → Ev (fun k => jackstaylaw06_ConfRight.l0 k l n (wrap64 (i + 1)) t r o u m) true) (t r u m : Int) (o : Bool) (h : Okc t r o u m) :
    Ev (fun k => jackstaylaw06_ConfRight.j2 k l n i t r o u m) true := by
  refine Ev.next ?_
  simp only [jackstaylaw06_ConfRight.j2]
  refine Ev.bind (conf_Right.yes h) (Ev.pos rfl (Ev.bind (conf_Mode.ev t r u m o) (Ev.neg ?_ (H t r u m o h))))
  rw [modeR h]
  simp
theorem ConfRight_l0 (l : List S34) (hl : l.length ≤ 100) (hw : ∀ x ∈ l, 0 ≤ x.f0 ∧ x.f0 ≤ 255) : ∀ (d i : Nat), d + i = l.length → ∀ (t r u m : Int) (o : Bool), Okc t r o u m →
    Ev (fun k => jackstaylaw06_ConfRight.l0 k l (l.length : Int) (i : Int) t r o u m) true
  | 0, i, h, t, r, u, m, o, hok => by
    refine Ev.next ?_
    simp only [jackstaylaw06_ConfRight.l0]
    exact Ev.neg (by omega) (Ev.bind awakeCR (Ev.now true))
  | d + 1, i, h, t, r, u, m, o, hok => by
    have H : ∀ (t r u m : Int) (o : Bool), Okc t r o u m → Ev (fun k => jackstaylaw06_ConfRight.l0 k l (l.length : Int) (wrap64 ((i : Int) + 1)) t r o u m) true := by
      rw [w64 (by omega) (by omega), show (i : Int) + 1 = ((i + 1 : Nat) : Int) by omega]
      exact ConfRight_l0 l hl hw d (i + 1) (by omega)
    obtain ⟨x, hx, hr⟩ := rdR_mem l i (by omega)
    have h1 := hw x hx
    refine Ev.next ?_
    simp only [jackstaylaw06_ConfRight.l0]
    rw [hr]
    refine Ev.pos (by omega) (Ev.pos (by omega) (Ev.pos (by omega) (Ev.ite (fun h0 => ?_) (fun h0 => ?_))))
    · refine Ev.bind (conf_Bit.ev t r u m o x.f1) ?_
      have hb := bitR hok x.f1
      refine Ev.ite (fun ho => ConfRight_j2 l _ _ H _ _ _ _ _ hb) (fun ho => ?_)
      have e : bitS t r o u m x.f1 = (t, r, o, u, m) := by
        unfold bitS
        rw [if_pos (fun hc => ho hc.2)]
      rw [e]
      exact Ev.neg (by simp) (ConfRight_j2 l _ _ H _ _ _ _ _ hok)
    · refine Ev.bind (conf_Event.ev t r u m x.f0 o h1.1) ?_
      by_cases h9 : x.f0 ≤ 9
      · have hc : ¬ ¬ (Okc t r o u m ∧ 1 ≤ x.f0 ∧ x.f0 ≤ 9) := fun hn => hn ⟨hok, by omega, h9⟩
        cases o with
        | true =>
          have e : evS t r true u m x.f0 = (t, r, true, u, m, 0) := by
            unfold evS
            rw [if_neg hc, if_pos rfl]
          rw [e]
          simp only
          refine Ev.neg (by rw [decide_eq_true h9]; decide) (Ev.pos trivial (Ev.next ?_))
          simp only [jackstaylaw06_ConfRight.j1]
          refine Ev.neg (by decide) (Ev.ite (fun h5 => ?_) (fun h5 => ?_))
          · exact Ev.pos (by first | rfl | trivial) (Ev.neg (by decide) (ConfRight_j2 l _ _ H _ _ _ _ _ hok))
          · exact Ev.pos (by first | rfl | trivial) (Ev.neg (by decide) (ConfRight_j2 l _ _ H _ _ _ _ _ hok))
        | false =>
          obtain ⟨k1, k2, k | k⟩ := hok
          · exact absurd k.1 (by decide)
          obtain ⟨-, k3, k4, rfl, rfl⟩ := k
          have e : evS t r false 0 0 x.f0 = ((evOn t r x.f0).1, (evOn t r x.f0).2.1, (evOn t r x.f0).2.2, 0, 0, 0) := by
            unfold evS
            rw [if_neg hc, if_neg (by decide)]
          rw [e]
          have hv := evOn_ok k3 k4 k1 k2 (show 1 ≤ x.f0 ∧ x.f0 ≤ 9 by omega)
          have hok2 : Okc (evOn t r x.f0).1 (evOn t r x.f0).2.1 (evOn t r x.f0).2.2 0 0 := by
            refine ⟨hv.2.2.1, hv.2.2.2.1, ?_⟩
            by_cases hh : 255 < (evOn t r x.f0).1
            · exact .inl ⟨by rw [hv.2.2.2.2, decide_eq_true hh], by omega, hv.2.1, by decide, by decide, by decide, by decide⟩
            · exact .inr ⟨by rw [hv.2.2.2.2, decide_eq_false hh], hv.1, by omega, rfl, rfl⟩
          simp only
          refine Ev.neg (by rw [decide_eq_true h9]; decide) (Ev.pos trivial (Ev.next ?_))
          simp only [jackstaylaw06_ConfRight.j1]
          refine Ev.neg (by decide) (Ev.ite (fun h5 => ?_) (fun h5 => ?_))
          · refine Ev.neg (by decide) (Ev.ite (fun h7 => ?_) (fun h7 => ?_))
            · refine Ev.neg ?_ (ConfRight_j2 l _ _ H _ _ _ _ _ hok2)
              have e2 : (evOn t r x.f0).2.2 = decide (t > 247) := by
                unfold evOn
                rw [if_neg (by omega), if_neg (by omega), if_pos (by omega)]
                simp only [decide_eq_decide]
                omega
              rw [e2]
              simp
            · refine Ev.neg ?_ (ConfRight_j2 l _ _ H _ _ _ _ _ hok2)
              have e2 : (evOn t r x.f0).2.2 = false := by
                unfold evOn
                rw [if_neg (by omega), if_neg (by omega), if_neg (by omega)]
                split <;> rfl
              rw [e2]
              decide
          · refine Ev.neg (by decide) (Ev.neg ?_ (ConfRight_j2 l _ _ H _ _ _ _ _ hok2))
            have e2 : (evOn t r x.f0).2.2 = false := by
              unfold evOn
              split
              · rfl
              · rw [if_pos (by omega)]
            rw [e2]
            decide
      · have e : evS t r o u m x.f0 = (t, r, o, u, m, 60) := by
          unfold evS
          rw [if_pos (fun hc => h9 hc.2.2)]
        rw [e]
        simp only
        refine Ev.neg (by rw [decide_eq_false h9]; decide) (Ev.neg (by decide) (Ev.next ?_))
        simp only [jackstaylaw06_ConfRight.j1]
        refine Ev.neg (by simp) (Ev.ite (fun h5 => ?_) (fun h5 => ?_))
        · refine Ev.ite (fun ho => Ev.neg (by decide) (ConfRight_j2 l _ _ H _ _ _ _ _ hok)) (fun ho => Ev.neg (by omega) (Ev.neg ?_ (ConfRight_j2 l _ _ H _ _ _ _ _ hok)))
          revert ho; cases o <;> decide
        · refine Ev.ite (fun ho => Ev.neg (by decide) (ConfRight_j2 l _ _ H _ _ _ _ _ hok)) (fun ho => Ev.neg ?_ (ConfRight_j2 l _ _ H _ _ _ _ _ hok))
          revert ho; cases o <;> decide
theorem jackstaylaw06_begun.ev (t r u m : Int) (o : Bool) : ∃ t' r' u' m' o', Okc t' r' o' u' m' ∧ Ev (fun _ => jackstaylaw06_begun.f t r o u m) (t', r', o', u', m') := by
  unfold jackstaylaw06_begun.f
  by_cases h : Okc t r o u m
  · refine ⟨t, r, u, m, o, h, Ev.const ?_⟩
    rw [conf_Right.is, decide_eq_true h]
    rfl
  · refine ⟨0, 0, 0, 0, false, by decide, Ev.const ?_⟩
    rw [conf_Right.is, decide_eq_false h]
    rfl
theorem ConfRight : jackstaylaw06_ConfRight.Pure := by
  rintro ⟨t, r, o, u, m⟩ l - ⟨h1, -⟩
  refine Ev.rounds ?_
  simp only [jackstaylaw06_ConfRight.f]
  obtain ⟨t', r', u', m', o', hok, hb⟩ := jackstaylaw06_begun.ev t r u m o
  refine Ev.bind hb ?_
  have hmn : 0 ≤ mn (l.length : Int) 100 ∧ mn (l.length : Int) 100 ≤ (l.length : Int) ∧ mn (l.length : Int) 100 ≤ 100 := by unfold mn; split <;> omega
  refine Ev.pos hmn.1 (Ev.pos hmn.2.1 (Ev.some_bind ?_))
  exact ConfRight_l0 _ (by rw [List.length_take]; omega) (fun x hx => wf_u8 (h1 x (List.mem_of_mem_take hx)).1) _ 0 (Nat.add_zero _) t' r' u' m' o' hok
end Go.Proofs.Ytgpdcgbohodfoaa.Pure
