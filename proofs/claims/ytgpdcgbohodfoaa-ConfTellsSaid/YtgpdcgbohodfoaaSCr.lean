/- What the document's functions on counters answer: the same plain terms. -/
import Derived.Test.YtgpdcgbohodfoaaPx14
import Derived.Test.YtgpdcgbohodfoaaPx13
import Derived.Test.YtgpdcgbohodfoaaSCf
namespace Go.Proofs.Ytgpdcgbohodfoaa.P
open Go.RowKit Go.Proofs.YtgpdcgbohodfoaaW.PrintWords Go.Proofs.YtgpdcgbohodfoaaW.PrintLast Go.Proofs.YtgpdcgbohodfoaaW.PrintMore
set_option linter.unusedSimpArgs false
theorem jackstayref06_Right.at (t r u m : Int) (o : Bool) (k : Nat) : jackstayref06_Right.f (k + 1) t r o u m = some (decide (Okc t r o u m)) := by
  unfold jackstayref06_Right.f
  by_cases h : Okc t r o u m
  · rw [decide_eq_true h]
    obtain ⟨h1, h2, h | h⟩ := h
    · obtain ⟨rfl, h⟩ := h
      rw [if_neg (by omega), if_neg (by omega)]
      simp only [jackstayref06_Right.j0]
      rw [decide_eq_false (show ¬ r > 255 by omega), if_neg (by decide), if_pos trivial, if_pos (by omega), if_pos (by omega), if_pos (by omega), if_pos (by omega), if_pos (by omega), decide_eq_true (by omega)]
    · obtain ⟨rfl, h⟩ := h
      rw [if_neg (by omega), if_neg (by omega)]
      simp only [jackstayref06_Right.j0]
      rw [decide_eq_false (show ¬ r > 255 by omega), if_neg (by decide), if_neg (by decide), if_pos (by omega), if_pos (by omega), h.2.2.2]
      rfl
  · rw [decide_eq_false h]
    unfold Okc at h
    simp only [jackstayref06_Right.j0]
    cases o
    · (repeat' split) <;> simp_all <;> omega
    · (repeat' split) <;> simp_all <;> omega
theorem jackstayref06_Right.ev (t r u m : Int) (o : Bool) : Ev (fun k => jackstayref06_Right.f k t r o u m) (decide (Okc t r o u m)) :=
  Ev.of (fun k => jackstayref06_Right.mono t r o u m k) (k := 1) (jackstayref06_Right.at t r u m o 0)
theorem jackstayref06_Mode.ev (t r u m : Int) (o : Bool) : Ev (fun k => jackstayref06_Mode.f k t r o u m) (modeS t r o u m) := by
  refine Ev.of (fun k => jackstayref06_Mode.mono t r o u m k) (k := 4) ?_
  unfold modeS
  cases o
  · by_cases hok : Okc t r false u m
    · simp only [jackstayref06_Mode.f, jackstayref06_Right.at, jackstayref06_Mode.j0, decide_eq_true hok]
      by_cases h1 : t > 127
      · simp [h1, hok]
      · by_cases h2 : r > 127
        · simp [h1, h2, hok]
        · simp [h1, h2, hok]
    · simp [jackstayref06_Mode.f, jackstayref06_Right.at, jackstayref06_Mode.j0, hok]
  · simp [jackstayref06_Mode.f, jackstayref06_Mode.j0]
theorem jackstayref06_Bit.ev (t r u m : Int) (o x : Bool) : Ev (fun k => jackstayref06_Bit.f k t r o u m x) (bitS t r o u m x) := by
  refine Ev.of (fun k => jackstayref06_Bit.mono t r o u m x k) (k := 4) ?_
  by_cases hok : Okc t r o u m
  · have hr := jackstayref06_Right.at t r u m o 3
    rw [decide_eq_true hok] at hr
    cases o with
    | false =>
      unfold bitS
      simp [jackstayref06_Bit.f, hr, jackstayref06_Bit.j0]
    | true =>
      unfold bitS
      rw [if_neg (fun h => h ⟨hok, rfl⟩)]
      obtain ⟨h1, h2, h | h⟩ := hok
      · have e1 : wrap64 (u + 1) = u + 1 := w64 (by omega) (by omega)
        have e2 : wrap64 (m + 1) = m + 1 := w64 (by omega) (by omega)
        cases x with
        | false =>
          simp only [jackstayref06_Bit.f, hr, Option.bind_some, if_true, jackstayref06_Bit.j0, Bool.not_true, if_neg (show ¬ false = true by decide)]
        | true =>
          simp only [jackstayref06_Bit.f, hr, Option.bind_some, if_true, jackstayref06_Bit.j0, Bool.not_true, e1, e2, if_neg (show ¬ false = true by decide), if_neg (show ¬ true = false by decide)]
          by_cases hu : u = 10
          · subst hu
            rw [if_neg (show ¬ (10 : Int) + 1 < 11 by decide), if_pos rfl]
            by_cases hm : m = 127
            · subst hm
              rw [if_pos (show (127 : Int) + 1 = 128 by decide), if_pos rfl]
            · rw [if_neg (show ¬ m + 1 = 128 by omega), if_neg hm]
          · rw [if_pos (show u + 1 < 11 by omega), if_neg hu]
      · exact absurd h.1 (by decide)
  · have hr := jackstayref06_Right.at t r u m o 3
    rw [decide_eq_false hok] at hr
    unfold bitS
    rw [if_pos (fun h => hok h.1)]
    simp [jackstayref06_Bit.f, hr, jackstayref06_Bit.j0]
theorem jackstayref06_Event.ev (t r u m w : Int) (o : Bool) (hw0 : 0 ≤ w) : Ev (fun k => jackstayref06_Event.f k t r o u m w) (evS t r o u m w) := by
  refine Ev.of (fun k => jackstayref06_Event.mono t r o u m w k) (k := 12) ?_
  by_cases hok : Okc t r o u m
  · have hr := jackstayref06_Right.at t r u m o 11
    rw [decide_eq_true hok] at hr
    by_cases hw : 1 ≤ w ∧ w ≤ 9
    · have hc : ¬ ¬ (Okc t r o u m ∧ 1 ≤ w ∧ w ≤ 9) := fun h => h ⟨hok, hw⟩
      unfold evS
      rw [if_neg hc]
      simp only [jackstayref06_Event.f, hr, Option.bind_some, if_true, if_neg (show ¬ w < 1 by omega), jackstayref06_Event.j0, decide_eq_true_eq, if_neg (show ¬ w > 9 by omega)]
      obtain ⟨h1, h2, h | h⟩ := hok
      · obtain ⟨rfl, h⟩ := h
        simp
      · obtain ⟨rfl, h⟩ := h
        have e1 : wrap64 (r + 1) = r + 1 := w64 (by omega) (by omega)
        have e2 : wrap64 (r + 8) = r + 8 := w64 (by omega) (by omega)
        have e3 : wrap64 (t + 8) = t + 8 := w64 (by omega) (by omega)
        have e4 : wrap64 (t - 1) = t - 1 := w64 (by omega) (by omega)
        have e5 : wrap64 (r - 1) = r - 1 := w64 (by omega) (by omega)
        rcases nine hw with rfl | rfl | rfl | rfl | rfl | rfl | rfl | rfl | rfl <;>
          simp [jackstayref06_Event.j1, jackstayref06_Event.j2, jackstayref06_Event.j3, jackstayref06_Event.j4, jackstayref06_Event.j5, jackstayref06_Event.j6, jackstayref06_Event.j7, jackstayref06_Event.j8, jackstayref06_Event.j9, evOn, e1, e2, e3, e4, e5] <;>
          (repeat' split) <;> simp_all <;> omega
    · have hc : ¬ (Okc t r o u m ∧ 1 ≤ w ∧ w ≤ 9) := fun h => hw h.2
      unfold evS
      rw [if_pos hc]
      simp only [jackstayref06_Event.f, hr, Option.bind_some, if_true]
      by_cases h0 : w < 1
      · rw [if_pos h0]
        simp [jackstayref06_Event.j0]
      · rw [if_neg h0, decide_eq_true (show w > 9 by omega)]
        simp [jackstayref06_Event.j0]
  · have hr := jackstayref06_Right.at t r u m o 11
    rw [decide_eq_false hok] at hr
    have hc : ¬ (Okc t r o u m ∧ 1 ≤ w ∧ w ≤ 9) := fun h => hok h.1
    unfold evS
    rw [if_pos hc]
    simp [jackstayref06_Event.f, hr, jackstayref06_Event.j0]
end Go.Proofs.Ytgpdcgbohodfoaa.P
