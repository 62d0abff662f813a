/- The row of the law FrameLong: for every input it returns true, and each argument reads behind the call as it read before; out of the statement jackstaylaw04_FrameLong.Pure over numbers and lists. -/
import Derived.WalkKit
import Derived.ProofKit
import Derived.OpenShut
import Derived.ShutString
import Derived.ChangeOld
import Derived.Below
import Derived.SizedLaws
import Derived.Test.YtnnnfnebobaiiaaJW
import Derived.Test.YtnnnfnebobaiiaaRows
import Derived.Test.YtnnnfnebobaiiaaStFrameLong
import Derived.Test.YtnnnfnebobaiiaaPureFrameLong
namespace Go.Proofs.Ytnnnfnebobaiiaa.frameLong
open Go.ChangeShapes Go.WideShapes Go.ChangeAt Go.RowKit
open Go.ChangeMaps (open_string shut_string)
open Go.Proofs.Ytnnnfnebobaiiaa.P Go.Proofs.YtnnnfnebobaiiaaW.PrintWords Go.Proofs.YtnnnfnebobaiiaaW.PrintLast Go.Proofs.YtnnnfnebobaiiaaW.PrintMore
set_option linter.unusedVariables false
set_option linter.unusedSimpArgs false
theorem own : ownKnob Try.prog.godebug = none := by kernel_rfl
theorem laidOut : laidOutB Try.prog = true := by kernel_rfl
set_option maxHeartbeats 1000000 in
set_option maxRecDepth 100000 in
theorem lifted (os : Os) (started : os.Started) (H : Type) (enc : TypeId × Value → H) :
    ReturnsInHanded {} Try.checked os 8 .any (Rows.frameLongSpec.pre6 enc Try.prog Try.f8 Rows.frameLongRow.domain false) (Rows.frameLongSpec.post enc Try.prog Try.f8 false true false false) := by
  refine returnsInHanded_of_change_sized (C := Try.checked) own started (by kernel_rfl) Try.func8
    (ChangeSpec.witness6 (enc := enc) (C := Try.checked) false ⟨#[], #[.agg #[.int .u32 0, .bool false, .bool false, .int .u8 0, .slice none 0 0]], []⟩ 12 (by kernel_rfl) (by kernel_rfl) (by kernel_rfl) (by kernel_rfl)) ?_
  intro W base args ds gs before hval0 hW hcnd hsz0 _
  have hsz : (DataW.weightsEach Try.prog (Try.f8.params.toList ++ Rows.frameLongSpec.plain.varTypes Try.prog) (ds ++ gs)).all (· ≤ reachBytes) = true := hsz0
  have hval : ∀ (j : Nat) t v, Try.f8.params[j]? = some t → args[j]? = some v → Value.okWide Try.prog W .any base t v := hval0
  have hW' := hW
  obtain ⟨p, q, hA0, hV, rfl, hfz, hnd⟩ := hW
  have hA : DataW.TrodAll enc Try.prog W 0 (fun _ => true) true Try.f8.params.toList args.toList ds p := hA0
  rw [Try.params8] at hA hval hsz
  obtain ⟨v0, vs0, d0, ds0, p0, q0, hargs, rfl, rfl, h0, r0⟩ := trodAll_cons hA
  obtain ⟨rfl, rfl, rfl⟩ := trodAll_nil r0
  obtain rfl : args = #[v0] := by cases args; simp_all
  obtain ⟨rfl, rfl⟩ := trodVars_none hV
  obtain ⟨cs0, rfl, hsz0⟩ := okWide_struct Try.underlying25 (hval 0 25 v0 rfl rfl)
  have k0 := h0
  have lt0 : ∀ x ∈ p0, x.block < W.heap.size := by obtain ⟨m, hm⟩ := k0; exact DataW.trod_lt m _ _ _ hm
  obtain ⟨fu0, hf0⟩ := h0
  obtain ⟨x0, hk0, hw0⟩ := (X.opens_struct (f := fun x : S25 => (x.f0, x.f1, x.f2, x.f3, x.f4)) (g := fun a => (⟨a.1, a.2.1, a.2.2.1, a.2.2.2.1, a.2.2.2.2⟩ : S25)) Try.underlying25 (X.opensF_cons rfl (X.opens_int Try.underlying22) (by kernel_rfl) (X.opensF_cons rfl (X.opens_bool Try.underlying4) (by kernel_rfl) (X.opensF_cons rfl (X.opens_bool Try.underlying4) (by kernel_rfl) (X.opensF_cons rfl (X.opens_int Try.underlying5) (by kernel_rfl) (X.opensF_one rfl (X.opens_slice (B := 1) Try.underlying23 (X.opens_int Try.underlying5) (by kernel_rfl) (by kernel_rfl)) (by kernel_rfl)))))) (fun _ => rfl) (by kernel_rfl)).out hf0 (fun n hn => by simpa using List.all_eq_true.1 hsz _ (DataW.weights_mem_each (j := 0) (t := 25) rfl rfl n hn))
  obtain ⟨A0_0, c0_0, hcs0, l0_0, g0_0⟩ := k25_open hk0
  obtain rfl : cs0 = #[.int .u32 x0.f0, .bool x0.f1, .bool x0.f2, .int .u8 x0.f3, .slice A0_0 x0.f4.length c0_0] := by apply Array.ext'; simpa [Value.cells] using hcs0
  clear hA0 hval0 hsz0 hsz
  obtain ⟨k, hp⟩ := Pure.FrameLong x0 hw0
  refine (jackstaylaw04_FrameLong.calls k x0.f0 x0.f1 x0.f2 x0.f3 A0_0 c0_0 x0.f4 true W g0_0 l0_0 hp rfl).mono fun e W' ⟨he, hd⟩ => ?_
  have bel : Below W.heap.size W W' := hd
  subst he
  exact ⟨_, rfl, _, _, _, [], _, [], hW', trodAll_mk1 (shut_bool Try.underlying4 _), (trodAll_cons_mk (Below.trod laidOut (by kernel_rfl) (of_decide_eq_true (by kernel_rfl)) k0 bel lt0) trodAll_mk0), rfl, bel.frame _, fun h => by cases h⟩
set_option maxRecDepth 100000 in
theorem joined : joinedFacts Try.prog 8 Try.f8 Rows.frameLongSpec Rows.frameLongRow = true := by
  have hE := JW.enters
  have hM := JW.made
  have hL := JW.lifts
  revert hE hM hL
  unfold joinedFacts
  generalize Try.prog.mayEnter = e
  generalize Try.prog.make = m
  generalize Try.prog.liftsFinal = l
  intro hE hM hL
  subst hE
  subst hM
  subst hL
  show (_ : Bool) = true
  kernel_rfl
theorem over : Rows.frameLongRow.holds Try.pinned (OpenSpec.ofChange Rows.frameLongSpec) :=
  OpenClaim.holds_of_wide 8 Try.f8 rfl rfl rfl rfl rfl rfl rfl ⟨rfl, rfl, rfl, rfl, rfl⟩ rfl rfl rfl rfl rfl (by kernel_rfl) Try.func8 joined
    (of_decide_eq_true (by kernel_rfl)) (by unfold Func.isWrapper; first | (rw [if_pos (by decide +kernel)]; kernel_rfl) | (rw [if_neg (by decide +kernel)]; exact ⟨rfl, rfl⟩))
    (fun os started H enc _ => lifted os started H enc)
end Go.Proofs.Ytnnnfnebobaiiaa.frameLong
namespace Go.Proofs.Ytnnnfnebobaiiaa
theorem frameLong_holds : Rows.FrameLongSaid := frameLong.over
end Go.Proofs.Ytnnnfnebobaiiaa
