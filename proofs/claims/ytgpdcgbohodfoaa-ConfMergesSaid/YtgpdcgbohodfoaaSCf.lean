/- What the printed functions of package conf answer, in plain terms. -/
import Derived.Test.YtgpdcgbohodfoaaPx4
import Derived.Test.YtgpdcgbohodfoaaEV
namespace Go.Proofs.Ytgpdcgbohodfoaa.P
open Go.RowKit Go.Proofs.YtgpdcgbohodfoaaW.PrintWords Go.Proofs.YtgpdcgbohodfoaaW.PrintLast Go.Proofs.YtgpdcgbohodfoaaW.PrintMore
set_option linter.unusedSimpArgs false
/-- Right counters: TEC, REC, off, run, times. -/
def Okc (t r : Int) (o : Bool) (u m : Int) : Prop := 0 ≤ r ∧ r ≤ 255 ∧ ((o = true ∧ 256 ≤ t ∧ t ≤ 263 ∧ 0 ≤ u ∧ u ≤ 10 ∧ 0 ≤ m ∧ m ≤ 127) ∨ (o = false ∧ 0 ≤ t ∧ t ≤ 255 ∧ u = 0 ∧ m = 0))
instance (t r : Int) (o : Bool) (u m : Int) : Decidable (Okc t r o u m) := inferInstanceAs (Decidable (_ ∧ _))
theorem conf_within.is (n a b : Int) : conf_within.f n a b = some (decide (a ≤ n ∧ n ≤ b)) := by
  unfold conf_within.f
  by_cases h : n ≥ a
  · rw [if_pos h]
    congr 1
    rw [decide_eq_decide]
    omega
  · rw [if_neg h]
    congr 1
    exact (decide_eq_false (by omega)).symm
theorem conf_Right.is (t r u m : Int) (o : Bool) : conf_Right.f t r o u m = some (decide (Okc t r o u m)) := by
  unfold conf_Right.f
  simp only [conf_within.is, Option.bind_some, decide_eq_true_eq]
  by_cases h : Okc t r o u m
  · rw [decide_eq_true h]
    obtain ⟨h1, h2, h | h⟩ := h
    · obtain ⟨rfl, h⟩ := h
      rw [if_pos ⟨h1, h2⟩, if_pos rfl, if_pos (by omega), if_pos (by omega), decide_eq_true (by omega)]
    · obtain ⟨rfl, h⟩ := h
      rw [if_pos ⟨h1, h2⟩, if_neg (by decide), if_pos (by omega), if_pos (by omega), h.2.2.2]
      rfl
  · rw [decide_eq_false h]
    unfold Okc at h
    cases o
    · (repeat' split) <;> simp_all <;> omega
    · (repeat' split) <;> simp_all <;> omega
theorem conf_Right.ev (t r u m : Int) (o : Bool) : Ev (fun _ => conf_Right.f t r o u m) (decide (Okc t r o u m)) := Ev.const (conf_Right.is t r u m o)
theorem conf_Right.yes {t r u m : Int} {o : Bool} (h : Okc t r o u m) : Ev (fun _ => conf_Right.f t r o u m) true := Ev.const (by rw [conf_Right.is, decide_eq_true h])
/-- What an event makes of right counters that are on. -/
def evOn (t r w : Int) : Int × Int × Bool :=
  if w = 1 then (t, if 255 < r + 1 then 255 else r + 1, false)
  else if w ≤ 4 then (t, if 255 < r + 8 then 255 else r + 8, false)
  else if w ≤ 7 then (t + 8, r, decide (255 < t + 8))
  else if w = 8 then (if 0 < t then t - 1 else 0, r, false)
  else (t, if 127 < r then 119 else if 0 < r then r - 1 else 0, false)
def evS (t r : Int) (o : Bool) (u m w : Int) : Int × Int × Bool × Int × Int × Int :=
  if ¬ (Okc t r o u m ∧ 1 ≤ w ∧ w ≤ 9) then (t, r, o, u, m, 60)
  else if o = true then (t, r, o, u, m, 0)
  else ((evOn t r w).1, (evOn t r w).2.1, (evOn t r w).2.2, u, m, 0)
theorem nine {w : Int} (h : 1 ≤ w ∧ w ≤ 9) : w = 1 ∨ w = 2 ∨ w = 3 ∨ w = 4 ∨ w = 5 ∨ w = 6 ∨ w = 7 ∨ w = 8 ∨ w = 9 := by omega
theorem mn_255 (x : Int) : mn x 255 = if 255 < x then 255 else x := by unfold mn; (repeat' split) <;> omega
theorem mx_0 (x : Int) : mx x 0 = if 0 < x then x else 0 := by unfold mx; (repeat' split) <;> omega
theorem sub1 (x : Int) (h : 0 ≤ x) : (if 1 < x then x - 1 else 0) = if 0 < x then x - 1 else 0 := by (repeat' split) <;> omega
theorem conf_Event.ev (t r u m w : Int) (o : Bool) (hw0 : 0 ≤ w) : Ev (fun k => conf_Event.f k t r o u m w) (evS t r o u m w) := by
  refine Ev.of (fun k => conf_Event.mono t r o u m w k) (k := 4) ?_
  by_cases hok : Okc t r o u m
  · by_cases hw : 1 ≤ w ∧ w ≤ 9
    · have hc : ¬ ¬ (Okc t r o u m ∧ 1 ≤ w ∧ w ≤ 9) := fun h => h ⟨hok, hw⟩
      have hr := conf_Right.is t r u m o
      rw [decide_eq_true hok] at hr
      unfold evS
      rw [if_neg hc]
      simp only [conf_Event.f, hr, Option.bind_some, if_true, if_neg (show ¬ w = 0 by omega), conf_Event.j0, decide_eq_true_eq, if_neg (show ¬ w > 9 by omega)]
      obtain ⟨h1, h2, h | h⟩ := hok
      · obtain ⟨rfl, h⟩ := h
        simp
      · obtain ⟨rfl, h⟩ := h
        have e1 : wrap64 (r + 1) = r + 1 := w64 (by omega) (by omega)
        have e2 : wrap64 (r + 8) = r + 8 := w64 (by omega) (by omega)
        have e3 : wrap64 (t + 8) = t + 8 := w64 (by omega) (by omega)
        have e4 : wrap64 (t - 1) = t - 1 := w64 (by omega) (by omega)
        have e5 : wrap64 (r - 1) = r - 1 := w64 (by omega) (by omega)
        have e6 := sub1 r h1
        have e7 := sub1 t h.1
        rcases nine hw with rfl | rfl | rfl | rfl | rfl | rfl | rfl | rfl | rfl <;>
          simp [conf_Event.j1, conf_Event.j2, evOn, e1, e2, e3, e4, e5, mn_255, mx_0, e6, e7]
        split <;> rfl
    · have hc : ¬ (Okc t r o u m ∧ 1 ≤ w ∧ w ≤ 9) := fun h => hw h.2
      have hr := conf_Right.is t r u m o
      rw [decide_eq_true hok] at hr
      unfold evS
      rw [if_pos hc]
      simp only [conf_Event.f, hr, Option.bind_some, if_true]
      by_cases h0 : w = 0
      · rw [if_pos h0]
        simp [conf_Event.j0]
      · rw [if_neg h0, decide_eq_true (show w > 9 by omega)]
        simp [conf_Event.j0]
  · have hc : ¬ (Okc t r o u m ∧ 1 ≤ w ∧ w ≤ 9) := fun h => hok h.1
    have hr := conf_Right.is t r u m o
    rw [decide_eq_false hok] at hr
    unfold evS
    rw [if_pos hc]
    simp [conf_Event.f, hr, conf_Event.j0]
def modeS (t r : Int) (o : Bool) (u m : Int) : Int := if o = true ∨ ¬ Okc t r o u m then 2 else if 127 < t ∨ 127 < r then 1 else 0
theorem mx_127 (a b : Int) : (mx a b > 127) = (127 < a ∨ 127 < b) := by
  apply propext
  unfold mx
  split <;> omega
theorem conf_Mode.ev (t r u m : Int) (o : Bool) : Ev (fun k => conf_Mode.f k t r o u m) (modeS t r o u m) := by
  refine Ev.of (fun k => conf_Mode.mono t r o u m k) (k := 4) ?_
  unfold modeS
  cases o
  · by_cases hok : Okc t r false u m
    · simp [conf_Mode.f, conf_Right.is, conf_Mode.j0, hok, mx_127]
      split <;> rfl
    · simp [conf_Mode.f, conf_Right.is, conf_Mode.j0, hok]
  · simp [conf_Mode.f, conf_Mode.j0]
def bitS (t r : Int) (o : Bool) (u m : Int) (x : Bool) : Int × Int × Bool × Int × Int :=
  if ¬ (Okc t r o u m ∧ o = true) then (t, r, o, u, m)
  else if x = false then (t, r, true, 0, m)
  else if u = 10 then (if m = 127 then (0, 0, false, 0, 0) else (t, r, true, 0, m + 1)) else (t, r, true, u + 1, m)
theorem conf_Bit.ev (t r u m : Int) (o x : Bool) : Ev (fun k => conf_Bit.f k t r o u m x) (bitS t r o u m x) := by
  refine Ev.of (fun k => conf_Bit.mono t r o u m x k) (k := 4) ?_
  by_cases hok : Okc t r o u m
  · have hr := conf_Right.is t r u m o
    rw [decide_eq_true hok] at hr
    cases o with
    | false =>
      unfold bitS
      simp [conf_Bit.f, hr, conf_Bit.j0]
    | true =>
      unfold bitS
      rw [if_neg (fun h => h ⟨hok, rfl⟩)]
      obtain ⟨h1, h2, h | h⟩ := hok
      · have e1 : wrap64 (u + 1) = u + 1 := w64 (by omega) (by omega)
        have e2 : wrap64 (m + 1) = m + 1 := w64 (by omega) (by omega)
        cases x with
        | false =>
          simp only [conf_Bit.f, hr, Option.bind_some, if_true, conf_Bit.j0, conf_Bit.j1, Bool.not_true, if_neg (show ¬ (0 : Int) = 11 by decide), if_neg (show ¬ m = 128 by omega), if_neg (show ¬ false = true by decide)]
        | true =>
          simp only [conf_Bit.f, hr, Option.bind_some, if_true, conf_Bit.j0, conf_Bit.j1, Bool.not_true, e1, e2, if_neg (show ¬ m = 128 by omega), if_neg (show ¬ false = true by decide), if_neg (show ¬ true = false by decide)]
          by_cases hu : u = 10
          · subst hu
            rw [if_pos (show (10 : Int) + 1 = 11 by decide), if_pos rfl]
            by_cases hm : m = 127
            · subst hm
              rw [if_pos (show (127 : Int) + 1 = 128 by decide), if_pos rfl]
            · rw [if_neg (show ¬ m + 1 = 128 by omega), if_neg hm]
          · rw [if_neg (show ¬ u + 1 = 11 by omega), if_neg hu]
      · exact absurd h.1 (by decide)
  · have hr := conf_Right.is t r u m o
    rw [decide_eq_false hok] at hr
    unfold bitS
    rw [if_pos (fun h => hok h.1)]
    simp [conf_Bit.f, hr, conf_Bit.j0]
/-- Right counters that are on. -/
theorem Okc.on {t r : Int} (h1 : 0 ≤ t) (h2 : t ≤ 255) (h3 : 0 ≤ r) (h4 : r ≤ 255) : Okc t r false 0 0 := ⟨h3, h4, .inr ⟨rfl, h1, h2, rfl, rfl⟩⟩
theorem conf_Event.on {t r w : Int} (h1 : 0 ≤ t) (h2 : t ≤ 255) (h3 : 0 ≤ r) (h4 : r ≤ 255) (hw : 1 ≤ w ∧ w ≤ 9) :
    Ev (fun k => conf_Event.f k t r false 0 0 w) ((evOn t r w).1, (evOn t r w).2.1, (evOn t r w).2.2, 0, 0, 0) := by
  refine (conf_Event.ev t r 0 0 w false (by omega)).eq ?_
  unfold evS
  rw [if_neg (fun h => h ⟨Okc.on h1 h2 h3 h4, hw⟩), if_neg (by decide)]
theorem conf_Mode.on {t r : Int} (h1 : 0 ≤ t) (h2 : t ≤ 255) (h3 : 0 ≤ r) (h4 : r ≤ 255) :
    Ev (fun k => conf_Mode.f k t r false 0 0) (if 127 < t ∨ 127 < r then 1 else 0) := by
  refine (conf_Mode.ev t r 0 0 false).eq ?_
  unfold modeS
  rw [if_neg (fun h => h.elim (fun h => by cases h) (fun h => h (Okc.on h1 h2 h3 h4)))]
theorem evOn_ok {t r w : Int} (h1 : 0 ≤ t) (h2 : t ≤ 255) (h3 : 0 ≤ r) (h4 : r ≤ 255) (hw : 1 ≤ w ∧ w ≤ 9) :
    0 ≤ (evOn t r w).1 ∧ (evOn t r w).1 ≤ 263 ∧ 0 ≤ (evOn t r w).2.1 ∧ (evOn t r w).2.1 ≤ 255 ∧ ((evOn t r w).2.2 = decide (255 < (evOn t r w).1)) := by
  unfold evOn
  (repeat' split) <;> simp <;> omega
end Go.Proofs.Ytgpdcgbohodfoaa.P
