/- The statement over numbers and lists that is left of the law ConfPassive. -/
import Derived.Test.YtgpdcgbohodfoaaStConfPassive
import Derived.Test.YtgpdcgbohodfoaaSCf
namespace Go.Proofs.Ytgpdcgbohodfoaa.Pure
open Go.RowKit Go.Proofs.YtgpdcgbohodfoaaW.PrintWords Go.Proofs.YtgpdcgbohodfoaaW.PrintLast Go.Proofs.YtgpdcgbohodfoaaW.PrintMore Go.Proofs.Ytgpdcgbohodfoaa.P
set_option linter.unusedSimpArgs false
theorem awakeCP : Ev (fun k => jackstaylaw06_awake.f k) true := Ev.of jackstaylaw06_awake.mono (k := 1500) (by decide +kernel)
theorem ConfPassive_l0 : ∀ (n : Nat), n ≤ 128 → Ev (fun k => jackstaylaw06_ConfPassive.l0 k ((127 + n : Nat) : Int) 0 false 0 0) true
  | 0, _ => by
    refine Ev.next ?_
    simp only [jackstaylaw06_ConfPassive.l0]
    refine Ev.neg (by omega) (Ev.bind (conf_Mode.on (by omega) (by omega) (by omega) (by omega)) (Ev.pos ?_ (Ev.bind awakeCP (Ev.now true))))
    rw [if_neg (by omega)]
  | n + 1, h => by
    refine Ev.next ?_
    simp only [jackstaylaw06_ConfPassive.l0]
    refine Ev.pos (by omega) (Ev.bind (conf_Mode.on (by omega) (by omega) (by omega) (by omega)) (Ev.pos (by rw [if_pos (.inl (by omega))]) ?_))
    refine Ev.bind (conf_Event.on (by omega) (by omega) (by omega) (by omega) (by decide)) ?_
    have e : (evOn ((127 + (n + 1) : Nat) : Int) 0 8) = (((127 + n : Nat) : Int), 0, false) := by
      show ((if 0 < ((127 + (n + 1) : Nat) : Int) then ((127 + (n + 1) : Nat) : Int) - 1 else 0), (0 : Int), false) = _
      rw [if_pos (by omega), show ((127 + (n + 1) : Nat) : Int) - 1 = ((127 + n : Nat) : Int) by omega]
    rw [e]
    refine Ev.pos rfl (Ev.pos ?_ (ConfPassive_l0 n (by omega)))
    rw [w64 (by omega) (by omega)]
    show ((127 + n : Nat) : Int) = _
    omega
theorem ConfPassive : jackstaylaw06_ConfPassive.Pure := by
  intro x0 x1 h0 h1
  have h0 := wf_u8 h0
  have h1 := wf_u8 h1
  refine Ev.rounds ?_
  simp only [jackstaylaw06_ConfPassive.f]
  have a1 := Int.tmod_nonneg (128 : Int) h0.1
  have a2 := Int.tmod_lt_of_pos x0 (show (0 : Int) < 128 by decide)
  have b1 := Int.tmod_nonneg (128 : Int) h1.1
  have b2 := Int.tmod_lt_of_pos x1 (show (0 : Int) < 128 by decide)
  obtain ⟨c, hc, hc1, hc2⟩ : ∃ c : Int, wrap64 (128 + wrap64 (Int.tmod x0 128)) = c ∧ 128 ≤ c ∧ c ≤ 255 := ⟨_, rfl, by rw [w64 (x := Int.tmod x0 128) (by omega) (by omega), w64 (by omega) (by omega)]; omega, by rw [w64 (x := Int.tmod x0 128) (by omega) (by omega), w64 (by omega) (by omega)]; omega⟩
  obtain ⟨d, hd, hd2⟩ : ∃ d : Nat, wrap64 (128 + wrap64 (Int.tmod x1 128)) = ((127 + d : Nat) : Int) ∧ d ≤ 128 := ⟨(Int.tmod x1 128).toNat + 1, by rw [w64 (x := Int.tmod x1 128) (by omega) (by omega), w64 (by omega) (by omega)]; omega, by omega⟩
  rw [hc, hd]
  refine Ev.bind (conf_Event.on (by omega) (by omega) (by omega) (by omega) (by decide)) ?_
  have e : (evOn 0 c 9) = (0, 119, false) := by
    show ((0 : Int), (if 127 < c then 119 else if 0 < c then c - 1 else 0), false) = _
    rw [if_pos (by omega)]
  rw [e]
  refine Ev.bind (conf_Mode.on (by omega) (by omega) (by omega) (by omega)) (Ev.pos (by rw [if_pos (.inr (by omega))]) (Ev.pos rfl ?_))
  refine Ev.bind (conf_Mode.on (t := 0) (r := 119) (by decide) (by decide) (by decide) (by decide)) (Ev.pos (by decide) (Ev.next ?_))
  simp only [jackstaylaw06_ConfPassive.j0]
  exact Ev.neg (by decide) (ConfPassive_l0 d hd2)
end Go.Proofs.Ytgpdcgbohodfoaa.Pure
