/- The statement over numbers and lists that is left of the law ConfTells. -/
import Derived.Test.YtgpdcgbohodfoaaStConfTells
import Derived.Test.YtgpdcgbohodfoaaSCr
namespace Go.Proofs.Ytgpdcgbohodfoaa.Pure
open Go.RowKit Go.Proofs.YtgpdcgbohodfoaaW.PrintWords Go.Proofs.YtgpdcgbohodfoaaW.PrintLast Go.Proofs.YtgpdcgbohodfoaaW.PrintMore Go.Proofs.Ytgpdcgbohodfoaa.P
set_option linter.unusedSimpArgs false
theorem awakeCT : Ev (fun k => jackstaylaw06_awake.f k) true := Ev.of jackstaylaw06_awake.mono (k := 1500) (by decide +kernel)
theorem ConfTells : jackstaylaw06_ConfTells.Pure := by
  rintro ⟨t, r, o, u, m⟩ w x - hw
  have hw := wf_u8 hw
  refine Ev.rounds ?_
  simp only [jackstaylaw06_ConfTells.f]
  refine Ev.bind (conf_Event.ev t r u m w o hw.1) (Ev.bind (jackstayref06_Event.ev t r u m w o hw.1) ?_)
  refine Ev.bind (conf_Right.ev t r u m o) (Ev.bind (jackstayref06_Right.ev t r u m o) (Ev.pos (by simp) ?_))
  refine Ev.bind (conf_Mode.ev t r u m o) (Ev.bind (jackstayref06_Mode.ev t r u m o) (Ev.pos rfl (Ev.pos (by simp) (Ev.pos rfl ?_))))
  exact Ev.bind (conf_Bit.ev t r u m o x) (Ev.bind (jackstayref06_Bit.ev t r u m o x) (Ev.pos (by simp) (Ev.bind awakeCT (Ev.now true))))
end Go.Proofs.Ytgpdcgbohodfoaa.Pure
