/- The statement over numbers and lists that is left of the law ConfBack. -/
import Derived.Test.YtgpdcgbohodfoaaStConfBack
import Derived.Test.YtgpdcgbohodfoaaSCf
namespace Go.Proofs.Ytgpdcgbohodfoaa.Pure
open Go.RowKit Go.Proofs.YtgpdcgbohodfoaaW.PrintWords Go.Proofs.YtgpdcgbohodfoaaW.PrintLast Go.Proofs.YtgpdcgbohodfoaaW.PrintMore Go.Proofs.Ytgpdcgbohodfoaa.P
set_option linter.unusedSimpArgs false
theorem awakeCK : Ev (fun k => jackstaylaw06_awake.f k) true := Ev.of jackstaylaw06_awake.mono (k := 1500) (by decide +kernel)
theorem offOk {u m : Nat} (hu : u ≤ 10) (hm : m ≤ 127) : Okc 256 0 true (u : Int) (m : Int) := ⟨by decide, by decide, .inl ⟨rfl, by decide, by decide, by omega, by omega, by omega, by omega⟩⟩
theorem rdS_mem (l : List S34) (i : Nat) (h : i < l.length) : ∃ x ∈ l, rd_T34 l (i : Int) = x := by
  refine ⟨l[i], List.getElem_mem h, ?_⟩
  simp [rd_T34, List.getD_eq_getElem?_getD, h]
/-- A round of the bits: what stands behind it is told by H, for any run and number of runs that may be. -/
theorem ConfBack_l1 (l : List S34) (n i N f0 f2 : Int) (x : Bool) (H : ∀ u m : Nat, u ≤ 10 → m ≤ 127 → Ev (fun k => jackstaylaw06_ConfBack.l0 k (u : Int) (m : Int) l n (wrap64 (i + 1)) 256 0 true (u : Int) (m : Int)) true) (hN : N ≤ 256) :
    ∀ (d : Nat) (j : Int), 0 ≤ j → j + d = N → ∀ u m : Nat, u ≤ 10 → m ≤ 127 →
    Ev (fun k => jackstaylaw06_ConfBack.l1 k (u : Int) (m : Int) l n i N j 256 0 true (u : Int) (m : Int) f0 x f2) true
  | 0, j, h0, h, u, m, hu, hm => by
    refine Ev.next ?_
    simp only [jackstaylaw06_ConfBack.l1]
    exact Ev.neg (by omega) (H u m hu hm)
  | d + 1, j, h0, h, u, m, hu, hm => by
    refine Ev.next ?_
    simp only [jackstaylaw06_ConfBack.l1]
    refine Ev.pos (by omega) (Ev.bind (conf_Bit.ev 256 0 (u : Int) (m : Int) true x) ?_)
    have ej : wrap64 (j + 1) = j + 1 := w64 (by omega) (by omega)
    have eu : wrap64 ((u : Int) + 1) = ((u + 1 : Nat) : Int) := by rw [w64 (by omega) (by omega)]; omega
    have em : wrap64 ((m : Int) + 1) = ((m + 1 : Nat) : Int) := by rw [w64 (by omega) (by omega)]; omega
    have hns : ¬ ¬ (Okc 256 0 true (u : Int) (m : Int) ∧ true = true) := fun h => h ⟨offOk hu hm, rfl⟩
    cases x with
    | false =>
      have e : bitS 256 0 true (u : Int) (m : Int) false = (256, 0, true, 0, (m : Int)) := by
        unfold bitS
        rw [if_neg hns, if_pos rfl]
      rw [e]
      refine Ev.neg (by decide) (Ev.next ?_)
      simp only [jackstaylaw06_ConfBack.j2]
      refine Ev.neg (by decide) (Ev.next ?_)
      simp only [jackstaylaw06_ConfBack.j3]
      refine Ev.neg (by rw [decide_eq_true (show (m : Int) < 128 by omega)]; decide) (Ev.pos (by first | rfl | trivial) ?_)
      rw [ej]
      exact ConfBack_l1 l n i N f0 f2 false H hN d (j + 1) (by omega) (by omega) 0 m (by omega) hm
    | true =>
      refine Ev.pos rfl ?_
      rw [eu]
      by_cases hu10 : u = 10
      · subst hu10
        by_cases hm127 : m = 127
        · subst hm127
          have e : bitS 256 0 true ((10 : Nat) : Int) ((127 : Nat) : Int) true = (0, 0, false, 0, 0) := by
            unfold bitS
            rw [if_neg hns, if_neg (by decide), if_pos (by decide), if_pos (by decide)]
          rw [e]
          refine Ev.next ?_
          simp only [jackstaylaw06_ConfBack.j2]
          refine Ev.pos (by decide) (Ev.next ?_)
          simp only [jackstaylaw06_ConfBack.j3]
          rw [em]
          refine Ev.neg (by decide) (Ev.neg (by decide) (Ev.pos (by first | rfl | trivial) ?_))
          exact Ev.bind (conf_Mode.on (t := 0) (r := 0) (by decide) (by decide) (by decide) (by decide)) (Ev.pos (by decide) (Ev.bind awakeCK (Ev.now true)))
        · have e : bitS 256 0 true ((10 : Nat) : Int) (m : Int) true = (256, 0, true, 0, ((m + 1 : Nat) : Int)) := by
            unfold bitS
            rw [if_neg hns, if_neg (by decide), if_pos (by decide), if_neg (by omega), show (m : Int) + 1 = ((m + 1 : Nat) : Int) by omega]
          rw [e]
          refine Ev.next ?_
          simp only [jackstaylaw06_ConfBack.j2]
          refine Ev.pos (by decide) (Ev.next ?_)
          simp only [jackstaylaw06_ConfBack.j3]
          rw [em]
          refine Ev.neg (by rw [decide_eq_true (show ((m + 1 : Nat) : Int) < 128 by omega)]; decide) (Ev.pos (by first | rfl | trivial) ?_)
          rw [ej]
          exact ConfBack_l1 l n i N f0 f2 true H hN d (j + 1) (by omega) (by omega) 0 (m + 1) (by omega) (by omega)
      · have e : bitS 256 0 true (u : Int) (m : Int) true = (256, 0, true, ((u + 1 : Nat) : Int), (m : Int)) := by
          unfold bitS
          rw [if_neg hns, if_neg (by decide), if_neg (by omega), show (u : Int) + 1 = ((u + 1 : Nat) : Int) by omega]
        rw [e]
        refine Ev.next ?_
        simp only [jackstaylaw06_ConfBack.j2]
        refine Ev.neg (by omega) (Ev.next ?_)
        simp only [jackstaylaw06_ConfBack.j3]
        refine Ev.neg (by rw [decide_eq_true (show (m : Int) < 128 by omega)]; decide) (Ev.pos (by first | rfl | trivial) ?_)
        rw [ej]
        exact ConfBack_l1 l n i N f0 f2 true H hN d (j + 1) (by omega) (by omega) (u + 1) m (by omega) hm
theorem ConfBack_l0 (l : List S34) (hl : l.length ≤ 300) (hw : ∀ x ∈ l, (0 ≤ x.f0 ∧ x.f0 ≤ 255) ∧ (0 ≤ x.f2 ∧ x.f2 ≤ 255)) : ∀ (d i : Nat), d + i = l.length → ∀ u m : Nat, u ≤ 10 → m ≤ 127 →
    Ev (fun k => jackstaylaw06_ConfBack.l0 k (u : Int) (m : Int) l (l.length : Int) (i : Int) 256 0 true (u : Int) (m : Int)) true
  | 0, i, h, u, m, hu, hm => by
    refine Ev.next ?_
    simp only [jackstaylaw06_ConfBack.l0]
    exact Ev.neg (by omega) (Ev.pos (by first | rfl | trivial) (Ev.bind awakeCK (Ev.now true)))
  | d + 1, i, h, u, m, hu, hm => by
    have H : ∀ u m : Nat, u ≤ 10 → m ≤ 127 → Ev (fun k => jackstaylaw06_ConfBack.l0 k (u : Int) (m : Int) l (l.length : Int) (wrap64 ((i : Int) + 1)) 256 0 true (u : Int) (m : Int)) true := by
      rw [w64 (by omega) (by omega), show (i : Int) + 1 = ((i + 1 : Nat) : Int) by omega]
      exact ConfBack_l0 l hl hw d (i + 1) (by omega)
    obtain ⟨x, hx, hr⟩ := rdS_mem l i (by omega)
    obtain ⟨h1, h2⟩ := hw x hx
    refine Ev.next ?_
    simp only [jackstaylaw06_ConfBack.l0]
    rw [hr]
    refine Ev.pos (by omega) (Ev.pos (by omega) (Ev.pos (by omega) (Ev.ite (fun h0 => ?_) (fun h0 => ?_))))
    · rw [w64 (x := x.f2) (by omega) (by omega), w64 (by omega) (by omega)]
      exact ConfBack_l1 l _ _ (1 + x.f2) x.f0 x.f2 x.f1 H (by omega) (1 + x.f2).toNat 0 (by decide) (by omega) u m hu hm
    · refine Ev.bind (conf_Event.ev 256 0 (u : Int) (m : Int) x.f0 true h1.1) ?_
      have e : ∃ c, evS 256 0 true (u : Int) (m : Int) x.f0 = (256, 0, true, (u : Int), (m : Int), c) := by
        unfold evS
        split
        · exact ⟨60, rfl⟩
        · exact ⟨0, rfl⟩
      obtain ⟨c, e⟩ := e
      rw [e]
      exact Ev.neg (by simp) (H u m hu hm)
theorem ConfBack : jackstaylaw06_ConfBack.Pure := by
  rintro l ⟨h1, -⟩
  refine Ev.rounds ?_
  simp only [jackstaylaw06_ConfBack.f]
  have hmn : 0 ≤ mn (l.length : Int) 300 ∧ mn (l.length : Int) 300 ≤ (l.length : Int) ∧ mn (l.length : Int) 300 ≤ 300 := by unfold mn; split <;> omega
  refine Ev.pos hmn.1 (Ev.pos hmn.2.1 (Ev.some_bind ?_))
  exact ConfBack_l0 _ (by rw [List.length_take]; omega) (fun x hx => by obtain ⟨a, -, b⟩ := h1 x (List.mem_of_mem_take hx); exact ⟨wf_u8 a, wf_u8 b⟩) _ 0 (Nat.add_zero _) 0 0 (by decide) (by decide)
end Go.Proofs.Ytgpdcgbohodfoaa.Pure
