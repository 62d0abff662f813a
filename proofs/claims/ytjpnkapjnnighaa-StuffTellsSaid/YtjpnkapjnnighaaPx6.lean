/- What Go functions of this seat answer: their contracts, printed by a program of this session's; Lean checks each. -/
import Derived.Test.YtjpnkapjnnighaaPx0
import Derived.Test.YtjpnkapjnnighaaPx2
import Derived.Test.YtjpnkapjnnighaaGOf
namespace Go.Proofs.Ytjpnkapjnnighaa.P
open Go.RowKit Go.Proofs.YtjpnkapjnnighaaW.PrintWords Go.Proofs.YtjpnkapjnnighaaW.PrintLast Go.Proofs.YtjpnkapjnnighaaW.PrintMore
attribute [local go_sem] max2_int min2_int max_two min_two max_three min_three max_four min_four   -- for this text's walks alone
set_option linter.unusedVariables false
set_option linter.unusedSimpArgs false

/-! ### jackstaylaw02_puts: function 18 -/
def jackstaylaw02_puts.f (k : Nat) (a0 : ByteArray) (a1 : ByteArray) : Option (Bool) := (jackstaylaw02_Of.f a0).bind fun t134 => ((stuff_Put.f k t134).bind fun t137 => ((jackstaylow_Text.f k t137).bind fun t140 => (some (t140.toList == a1.toList))))
theorem jackstaylaw02_puts.mono : ∀ a0 a1 k, LeO (jackstaylaw02_puts.f k a0 a1) (jackstaylaw02_puts.f (k + 1) a0 a1) := by
  intro a0 a1 k
  unfold jackstaylaw02_puts.f
  repeat' first
      | (with_reducible exact jackstaylow_Text.mono _ _)
      | (with_reducible exact stuff_Put.mono _ _)
      | (with_reducible exact LeO.refl _)
      | (with_reducible exact LeO.none _)
      | (with_reducible refine LeO.ite ?_ ?_)
      | (with_reducible refine LeO.bind ?_ (fun _ => ?_))
      | exact jackstaylow_Text.mono _ _
      | exact stuff_Put.mono _ _
      | exact LeO.none _
      | refine LeO.ite ?_ ?_
      | refine LeO.bind ?_ (fun _ => ?_)
set_option maxHeartbeats 8000000 in
set_option maxRecDepth 100000 in
theorem jackstaylaw02_puts.calls (k : Nat) (a0 : ByteArray) (a1 : ByteArray) (r : Bool) (w : World) (h : jackstaylaw02_puts.f k a0 a1 = some r) :
    Calls Try.prog 18 #[.string a0, .string a1] w fun e w' => e = .returned (.bool r) ∧ Below w.heap.size w w' := by
  have HB := Aside0.mk (Below.refl w.heap.size w)
  have H : ((jackstaylaw02_Of.f a0).bind fun t134 => ((stuff_Put.f k t134).bind fun t137 => ((jackstaylow_Text.f k t137).bind fun t140 => (some (t140.toList == a1.toList))))) = some r := h
  clear h
  replace H := Option.bind_eq_some_iff.mp H
  obtain ⟨t134, A30, H⟩ := H
  replace H : ((stuff_Put.f k t134).bind fun t137 => ((jackstaylow_Text.f k t137).bind fun t140 => (some (t140.toList == a1.toList)))) = some r := H
  have A3 := Aside0.mk A30
  clear A30
  replace H := Option.bind_eq_some_iff.mp H
  obtain ⟨t137, A40, H⟩ := H
  replace H : ((jackstaylow_Text.f k t137).bind fun t140 => (some (t140.toList == a1.toList))) = some r := H
  have A4 := Aside0.mk A40
  clear A40
  replace H := Option.bind_eq_some_iff.mp H
  obtain ⟨t140, A50, H⟩ := H
  replace H : (some (t140.toList == a1.toList)) = some r := H
  have A5 := Aside0.mk A50
  clear A50
  obtain rfl := Option.some.inj H
  simp only [Option.some.injEq, Prod.mk.injEq] at H
  obtain ⟨rfl⟩ := H
  go_enter Try.func18, Try.ntmps18
  go_wp2_with (first | ((with_reducible refine gate_callee (f := 17) rfl ?_); refine goesL_ (some 6) rfl rfl Try.func17 (by kernel_rfl) rfl #[.string a0] rfl (by (try simp only [List.map_toArray, List.map_cons, List.map_nil]); first | done | rfl | (simp only [List.length_drop, List.length_take]; rfl)) ?_; (with_reducible refine (jackstaylaw02_Of.calls a0 t134 _ A3.out).mono ?_); rintro e w6 ⟨v135, rfl, ho0, hb⟩; refine ⟨_, rfl, ?_⟩; have n0_ := Aside0.mk (Kd.R_lower ho0 (below_size (by repeat (first | (with_reducible first | exact HB.out | apply below_alloc | apply pw_below_drewN | apply below_drew1) | exact HB.out)))); have n1_ := Aside0.mk (below_step (by repeat (first | (with_reducible first | exact HB.out | apply below_alloc | apply pw_below_drewN | apply below_drew1) | exact HB.out)) hb); clear HB; have HO136 := n0_; have HB := n1_; clear n0_ n1_; (try clear hb); (try clear hb2); (try clear hk); (try clear hi); (try clear ho0); obtain ⟨Ao7, co7, eo7⟩ := Kd.R_slice HO136.out; subst eo7) | ((with_reducible refine gate_callee (f := 15) rfl ?_); refine goesL_ (some 7) rfl rfl Try.func15 (by kernel_rfl) rfl #[.slice Ao7 t134.length co7] rfl (by (try simp only [List.map_toArray, List.map_cons, List.map_nil]); first | done | rfl | (simp only [List.length_drop, List.length_take]; rfl)) ?_; (with_reducible refine (stuff_Put.calls k _ _ t134 t137 _ ?side1 ?side2 A4.out).mono ?_); (case side1 => repeat (first | exact (Kd.R_reads' HO136.out).2.2 | (with_reducible refine Kd.C_alloc ?_ _) | (with_reducible refine Kd.C_drewN ?_ _) | (with_reducible refine Kd.C_drew ?_))); (case side2 => exact (Kd.R_reads' HO136.out).2.1); rintro e w8 ⟨v138, rfl, ho0, hb⟩; refine ⟨_, rfl, ?_⟩; have n0_ := Aside0.mk (Kd.R_elder' (by (with_reducible repeat (first | apply Kd.R_alloc | apply Kd.R_drewN | apply Kd.R_drew)); exact HO136.out) (Kd.R_base ho0) hb); have n1_ := Aside0.mk (Kd.R_lower (Kd.R_new' ho0 (Kd.R_lt (by (with_reducible repeat (first | apply Kd.R_alloc | apply Kd.R_drewN | apply Kd.R_drew)); exact HO136.out))) (below_size (by repeat (first | (with_reducible first | exact HB.out | apply below_alloc | apply pw_below_drewN | apply below_drew1) | exact HB.out)))); have n2_ := Aside0.mk (below_step (by repeat (first | (with_reducible first | exact HB.out | apply below_alloc | apply pw_below_drewN | apply below_drew1) | exact HB.out)) hb); clear HO136; clear HB; have HO136 := n0_; have HO139 := n1_; have HB := n2_; clear n0_ n1_ n2_; (try clear hb); (try clear hb2); (try clear hk); (try clear hi); (try clear ho0); obtain ⟨Ao9, co9, eo9⟩ := Kd.R_slice HO139.out; subst eo9) | ((with_reducible refine gate_callee (f := 19) rfl ?_); refine goesL_ (some 8) rfl rfl Try.func19 (by kernel_rfl) rfl #[.slice Ao9 t137.length co9] rfl (by (try simp only [List.map_toArray, List.map_cons, List.map_nil]); first | done | rfl | (simp only [List.length_drop, List.length_take]; rfl)) ?_; (with_reducible refine (jackstaylow_Text.calls k _ _ t137 t140 _ ?side1 ?side2 A5.out).mono ?_); (case side1 => repeat (first | exact (Kd.R_reads' HO139.out).2.2 | (with_reducible refine Kd.C_alloc ?_ _) | (with_reducible refine Kd.C_drewN ?_ _) | (with_reducible refine Kd.C_drew ?_))); (case side2 => exact (Kd.R_reads' HO139.out).2.1); rintro e w' ⟨rfl, ⟨nd, rfl⟩⟩; refine ⟨_, rfl, ?_⟩))
  go_ret
  exact ⟨by first | rfl | (simp [errW_none, errW_some] <;> rfl) | (simp [*, errW_none, errW_some] <;> rfl), by repeat (first | (with_reducible first | exact HB.out | apply below_alloc | apply pw_below_drewN | apply below_drew1) | exact HB.out)⟩

/-! ### jackstaylaw02_awake: function 7 -/
def jackstaylaw02_awake.f (k : Nat)  : Option (Bool) := (jackstaylaw02_Of.f (⟨#[100, 100, 100, 100, 100, 114, 114, 114, 114, 114, 100]⟩ : ByteArray)).bind fun t141 => ((stuff_Take.f k t141).bind fun bt144 => ((jackstaylaw02_Of.f (⟨#[114, 114, 114, 114, 114, 114]⟩ : ByteArray)).bind fun t148 => ((stuff_Take.f k t148).bind fun bt151 => ((jackstaylaw02_puts.f k (⟨#[100, 100, 100, 100, 100]⟩ : ByteArray) (⟨#[100, 100, 100, 100, 100, 114]⟩ : ByteArray)).bind fun t155 => (if t155 = true then ((jackstaylaw02_puts.f k (⟨#[114, 114, 114, 114, 114, 100]⟩ : ByteArray) (⟨#[114, 114, 114, 114, 114, 100, 100]⟩ : ByteArray)).bind fun t156 => (if t156 = true then ((jackstaylaw02_puts.f k (⟨#[100, 100, 100, 100, 100, 114, 114, 114, 114]⟩ : ByteArray) (⟨#[100, 100, 100, 100, 100, 114, 114, 114, 114, 114, 100]⟩ : ByteArray)).bind fun t157 => (if t157 = true then ((jackstaylow_Text.f k bt144.1).bind fun t158 => (if t158.toList = ([100, 100, 100, 100, 100, 114, 114, 114, 114] : List UInt8) then (if bt144.2 = (-1) then ((jackstaylow_Text.f k bt151.1).bind fun t159 => (if t159.toList = ([114, 114, 114, 114, 114] : List UInt8) then (some (bt151.2 == 5)) else (some false))) else (some false)) else (some false))) else (some false))) else (some false))) else (some false))))))
theorem jackstaylaw02_awake.mono : ∀ k, LeO (jackstaylaw02_awake.f k ) (jackstaylaw02_awake.f (k + 1) ) := by
  intro  k
  unfold jackstaylaw02_awake.f
  repeat' first
      | (with_reducible exact jackstaylaw02_puts.mono _ _ _)
      | (with_reducible exact jackstaylow_Text.mono _ _)
      | (with_reducible exact stuff_Take.mono _ _)
      | (with_reducible exact LeO.refl _)
      | (with_reducible exact LeO.none _)
      | (with_reducible refine LeO.ite ?_ ?_)
      | (with_reducible refine LeO.bind ?_ (fun _ => ?_))
      | exact jackstaylaw02_puts.mono _ _ _
      | exact jackstaylow_Text.mono _ _
      | exact stuff_Take.mono _ _
      | exact LeO.none _
      | refine LeO.ite ?_ ?_
      | refine LeO.bind ?_ (fun _ => ?_)
set_option maxHeartbeats 8000000 in
set_option maxRecDepth 100000 in
theorem jackstaylaw02_awake.calls (k : Nat)  (r : Bool) (w : World) (h : jackstaylaw02_awake.f k  = some r) :
    Calls Try.prog 7 #[] w fun e w' => e = .returned (.bool r) ∧ Below w.heap.size w w' := by
  have hT_ : r = true := by
    have hy_ : jackstaylaw02_awake.f 60 = some true := by decide +kernel
    have u1_ : ∀ d, jackstaylaw02_awake.f (k + d) = some r := fun d => by induction d with | zero => exact h | succ d ih => exact jackstaylaw02_awake.mono _ _ ih
    have u2_ : ∀ d, jackstaylaw02_awake.f (60 + d) = some true := fun d => by induction d with | zero => exact hy_ | succ d ih => exact jackstaylaw02_awake.mono _ _ ih
    have e1_ := u1_ 60
    have e2_ := u2_ k
    rw [Nat.add_comm] at e2_
    exact Option.some.inj (e1_.symm.trans e2_)
  have HB := Aside0.mk (Below.refl w.heap.size w)
  have H : ((jackstaylaw02_Of.f (⟨#[100, 100, 100, 100, 100, 114, 114, 114, 114, 114, 100]⟩ : ByteArray)).bind fun t141 => ((stuff_Take.f k t141).bind fun bt144 => ((jackstaylaw02_Of.f (⟨#[114, 114, 114, 114, 114, 114]⟩ : ByteArray)).bind fun t148 => ((stuff_Take.f k t148).bind fun bt151 => ((jackstaylaw02_puts.f k (⟨#[100, 100, 100, 100, 100]⟩ : ByteArray) (⟨#[100, 100, 100, 100, 100, 114]⟩ : ByteArray)).bind fun t155 => (if t155 = true then ((jackstaylaw02_puts.f k (⟨#[114, 114, 114, 114, 114, 100]⟩ : ByteArray) (⟨#[114, 114, 114, 114, 114, 100, 100]⟩ : ByteArray)).bind fun t156 => (if t156 = true then ((jackstaylaw02_puts.f k (⟨#[100, 100, 100, 100, 100, 114, 114, 114, 114]⟩ : ByteArray) (⟨#[100, 100, 100, 100, 100, 114, 114, 114, 114, 114, 100]⟩ : ByteArray)).bind fun t157 => (if t157 = true then ((jackstaylow_Text.f k bt144.1).bind fun t158 => (if t158.toList = ([100, 100, 100, 100, 100, 114, 114, 114, 114] : List UInt8) then (if bt144.2 = (-1) then ((jackstaylow_Text.f k bt151.1).bind fun t159 => (if t159.toList = ([114, 114, 114, 114, 114] : List UInt8) then (some (bt151.2 == 5)) else (some false))) else (some false)) else (some false))) else (some false))) else (some false))) else (some false))))))) = some r := h
  clear h
  replace H := Option.bind_eq_some_iff.mp H
  obtain ⟨t141, A10, H⟩ := H
  replace H : ((stuff_Take.f k t141).bind fun bt144 => ((jackstaylaw02_Of.f (⟨#[114, 114, 114, 114, 114, 114]⟩ : ByteArray)).bind fun t148 => ((stuff_Take.f k t148).bind fun bt151 => ((jackstaylaw02_puts.f k (⟨#[100, 100, 100, 100, 100]⟩ : ByteArray) (⟨#[100, 100, 100, 100, 100, 114]⟩ : ByteArray)).bind fun t155 => (if t155 = true then ((jackstaylaw02_puts.f k (⟨#[114, 114, 114, 114, 114, 100]⟩ : ByteArray) (⟨#[114, 114, 114, 114, 114, 100, 100]⟩ : ByteArray)).bind fun t156 => (if t156 = true then ((jackstaylaw02_puts.f k (⟨#[100, 100, 100, 100, 100, 114, 114, 114, 114]⟩ : ByteArray) (⟨#[100, 100, 100, 100, 100, 114, 114, 114, 114, 114, 100]⟩ : ByteArray)).bind fun t157 => (if t157 = true then ((jackstaylow_Text.f k bt144.1).bind fun t158 => (if t158.toList = ([100, 100, 100, 100, 100, 114, 114, 114, 114] : List UInt8) then (if bt144.2 = (-1) then ((jackstaylow_Text.f k bt151.1).bind fun t159 => (if t159.toList = ([114, 114, 114, 114, 114] : List UInt8) then (some (bt151.2 == 5)) else (some false))) else (some false)) else (some false))) else (some false))) else (some false))) else (some false)))))) = some r := H
  have A1 := Aside0.mk A10
  clear A10
  replace H := Option.bind_eq_some_iff.mp H
  obtain ⟨⟨t144, t145⟩, A20, H⟩ := H
  replace H : ((jackstaylaw02_Of.f (⟨#[114, 114, 114, 114, 114, 114]⟩ : ByteArray)).bind fun t148 => ((stuff_Take.f k t148).bind fun bt151 => ((jackstaylaw02_puts.f k (⟨#[100, 100, 100, 100, 100]⟩ : ByteArray) (⟨#[100, 100, 100, 100, 100, 114]⟩ : ByteArray)).bind fun t155 => (if t155 = true then ((jackstaylaw02_puts.f k (⟨#[114, 114, 114, 114, 114, 100]⟩ : ByteArray) (⟨#[114, 114, 114, 114, 114, 100, 100]⟩ : ByteArray)).bind fun t156 => (if t156 = true then ((jackstaylaw02_puts.f k (⟨#[100, 100, 100, 100, 100, 114, 114, 114, 114]⟩ : ByteArray) (⟨#[100, 100, 100, 100, 100, 114, 114, 114, 114, 114, 100]⟩ : ByteArray)).bind fun t157 => (if t157 = true then ((jackstaylow_Text.f k t144).bind fun t158 => (if t158.toList = ([100, 100, 100, 100, 100, 114, 114, 114, 114] : List UInt8) then (if t145 = (-1) then ((jackstaylow_Text.f k bt151.1).bind fun t159 => (if t159.toList = ([114, 114, 114, 114, 114] : List UInt8) then (some (bt151.2 == 5)) else (some false))) else (some false)) else (some false))) else (some false))) else (some false))) else (some false))))) = some r := H
  have A2 := Aside0.mk A20
  clear A20
  replace H := Option.bind_eq_some_iff.mp H
  obtain ⟨t148, A30, H⟩ := H
  replace H : ((stuff_Take.f k t148).bind fun bt151 => ((jackstaylaw02_puts.f k (⟨#[100, 100, 100, 100, 100]⟩ : ByteArray) (⟨#[100, 100, 100, 100, 100, 114]⟩ : ByteArray)).bind fun t155 => (if t155 = true then ((jackstaylaw02_puts.f k (⟨#[114, 114, 114, 114, 114, 100]⟩ : ByteArray) (⟨#[114, 114, 114, 114, 114, 100, 100]⟩ : ByteArray)).bind fun t156 => (if t156 = true then ((jackstaylaw02_puts.f k (⟨#[100, 100, 100, 100, 100, 114, 114, 114, 114]⟩ : ByteArray) (⟨#[100, 100, 100, 100, 100, 114, 114, 114, 114, 114, 100]⟩ : ByteArray)).bind fun t157 => (if t157 = true then ((jackstaylow_Text.f k t144).bind fun t158 => (if t158.toList = ([100, 100, 100, 100, 100, 114, 114, 114, 114] : List UInt8) then (if t145 = (-1) then ((jackstaylow_Text.f k bt151.1).bind fun t159 => (if t159.toList = ([114, 114, 114, 114, 114] : List UInt8) then (some (bt151.2 == 5)) else (some false))) else (some false)) else (some false))) else (some false))) else (some false))) else (some false)))) = some r := H
  have A3 := Aside0.mk A30
  clear A30
  replace H := Option.bind_eq_some_iff.mp H
  obtain ⟨⟨t151, t152⟩, A40, H⟩ := H
  replace H : ((jackstaylaw02_puts.f k (⟨#[100, 100, 100, 100, 100]⟩ : ByteArray) (⟨#[100, 100, 100, 100, 100, 114]⟩ : ByteArray)).bind fun t155 => (if t155 = true then ((jackstaylaw02_puts.f k (⟨#[114, 114, 114, 114, 114, 100]⟩ : ByteArray) (⟨#[114, 114, 114, 114, 114, 100, 100]⟩ : ByteArray)).bind fun t156 => (if t156 = true then ((jackstaylaw02_puts.f k (⟨#[100, 100, 100, 100, 100, 114, 114, 114, 114]⟩ : ByteArray) (⟨#[100, 100, 100, 100, 100, 114, 114, 114, 114, 114, 100]⟩ : ByteArray)).bind fun t157 => (if t157 = true then ((jackstaylow_Text.f k t144).bind fun t158 => (if t158.toList = ([100, 100, 100, 100, 100, 114, 114, 114, 114] : List UInt8) then (if t145 = (-1) then ((jackstaylow_Text.f k t151).bind fun t159 => (if t159.toList = ([114, 114, 114, 114, 114] : List UInt8) then (some (t152 == 5)) else (some false))) else (some false)) else (some false))) else (some false))) else (some false))) else (some false))) = some r := H
  have A4 := Aside0.mk A40
  clear A40
  replace H := Option.bind_eq_some_iff.mp H
  obtain ⟨t155, A50, H⟩ := H
  replace H : (if t155 = true then ((jackstaylaw02_puts.f k (⟨#[114, 114, 114, 114, 114, 100]⟩ : ByteArray) (⟨#[114, 114, 114, 114, 114, 100, 100]⟩ : ByteArray)).bind fun t156 => (if t156 = true then ((jackstaylaw02_puts.f k (⟨#[100, 100, 100, 100, 100, 114, 114, 114, 114]⟩ : ByteArray) (⟨#[100, 100, 100, 100, 100, 114, 114, 114, 114, 114, 100]⟩ : ByteArray)).bind fun t157 => (if t157 = true then ((jackstaylow_Text.f k t144).bind fun t158 => (if t158.toList = ([100, 100, 100, 100, 100, 114, 114, 114, 114] : List UInt8) then (if t145 = (-1) then ((jackstaylow_Text.f k t151).bind fun t159 => (if t159.toList = ([114, 114, 114, 114, 114] : List UInt8) then (some (t152 == 5)) else (some false))) else (some false)) else (some false))) else (some false))) else (some false))) else (some false)) = some r := H
  have A5 := Aside0.mk A50
  clear A50
  by_cases c6 : t155 = true
  · subst c6
    have H1 : ((jackstaylaw02_puts.f k (⟨#[114, 114, 114, 114, 114, 100]⟩ : ByteArray) (⟨#[114, 114, 114, 114, 114, 100, 100]⟩ : ByteArray)).bind fun t156 => (if t156 = true then ((jackstaylaw02_puts.f k (⟨#[100, 100, 100, 100, 100, 114, 114, 114, 114]⟩ : ByteArray) (⟨#[100, 100, 100, 100, 100, 114, 114, 114, 114, 114, 100]⟩ : ByteArray)).bind fun t157 => (if t157 = true then ((jackstaylow_Text.f k t144).bind fun t158 => (if t158.toList = ([100, 100, 100, 100, 100, 114, 114, 114, 114] : List UInt8) then (if t145 = (-1) then ((jackstaylow_Text.f k t151).bind fun t159 => (if t159.toList = ([114, 114, 114, 114, 114] : List UInt8) then (some (t152 == 5)) else (some false))) else (some false)) else (some false))) else (some false))) else (some false))) = some r := by rw [if_pos rfl] at H; exact H
    clear H
    have H := H1
    clear H1
    replace H := Option.bind_eq_some_iff.mp H
    obtain ⟨t156, A70, H⟩ := H
    replace H : (if t156 = true then ((jackstaylaw02_puts.f k (⟨#[100, 100, 100, 100, 100, 114, 114, 114, 114]⟩ : ByteArray) (⟨#[100, 100, 100, 100, 100, 114, 114, 114, 114, 114, 100]⟩ : ByteArray)).bind fun t157 => (if t157 = true then ((jackstaylow_Text.f k t144).bind fun t158 => (if t158.toList = ([100, 100, 100, 100, 100, 114, 114, 114, 114] : List UInt8) then (if t145 = (-1) then ((jackstaylow_Text.f k t151).bind fun t159 => (if t159.toList = ([114, 114, 114, 114, 114] : List UInt8) then (some (t152 == 5)) else (some false))) else (some false)) else (some false))) else (some false))) else (some false)) = some r := H
    have A7 := Aside0.mk A70
    clear A70
    by_cases c8 : t156 = true
    · subst c8
      have H1 : ((jackstaylaw02_puts.f k (⟨#[100, 100, 100, 100, 100, 114, 114, 114, 114]⟩ : ByteArray) (⟨#[100, 100, 100, 100, 100, 114, 114, 114, 114, 114, 100]⟩ : ByteArray)).bind fun t157 => (if t157 = true then ((jackstaylow_Text.f k t144).bind fun t158 => (if t158.toList = ([100, 100, 100, 100, 100, 114, 114, 114, 114] : List UInt8) then (if t145 = (-1) then ((jackstaylow_Text.f k t151).bind fun t159 => (if t159.toList = ([114, 114, 114, 114, 114] : List UInt8) then (some (t152 == 5)) else (some false))) else (some false)) else (some false))) else (some false))) = some r := by rw [if_pos rfl] at H; exact H
      clear H
      have H := H1
      clear H1
      replace H := Option.bind_eq_some_iff.mp H
      obtain ⟨t157, A90, H⟩ := H
      replace H : (if t157 = true then ((jackstaylow_Text.f k t144).bind fun t158 => (if t158.toList = ([100, 100, 100, 100, 100, 114, 114, 114, 114] : List UInt8) then (if t145 = (-1) then ((jackstaylow_Text.f k t151).bind fun t159 => (if t159.toList = ([114, 114, 114, 114, 114] : List UInt8) then (some (t152 == 5)) else (some false))) else (some false)) else (some false))) else (some false)) = some r := H
      have A9 := Aside0.mk A90
      clear A90
      by_cases c10 : t157 = true
      · subst c10
        have H1 : ((jackstaylow_Text.f k t144).bind fun t158 => (if t158.toList = ([100, 100, 100, 100, 100, 114, 114, 114, 114] : List UInt8) then (if t145 = (-1) then ((jackstaylow_Text.f k t151).bind fun t159 => (if t159.toList = ([114, 114, 114, 114, 114] : List UInt8) then (some (t152 == 5)) else (some false))) else (some false)) else (some false))) = some r := by rw [if_pos rfl] at H; exact H
        clear H
        have H := H1
        clear H1
        replace H := Option.bind_eq_some_iff.mp H
        obtain ⟨t158, A110, H⟩ := H
        replace H : (if t158.toList = ([100, 100, 100, 100, 100, 114, 114, 114, 114] : List UInt8) then (if t145 = (-1) then ((jackstaylow_Text.f k t151).bind fun t159 => (if t159.toList = ([114, 114, 114, 114, 114] : List UInt8) then (some (t152 == 5)) else (some false))) else (some false)) else (some false)) = some r := H
        have A11 := Aside0.mk A110
        clear A110
        by_cases c12 : t158.toList = ([100, 100, 100, 100, 100, 114, 114, 114, 114] : List UInt8)
        · rw [if_pos c12] at H
          have c12b0 : (t158.toList == ([100, 100, 100, 100, 100, 114, 114, 114, 114] : List UInt8)) = true := beq_iff_eq.mpr c12
          have c12b1 : (t158.toList != ([100, 100, 100, 100, 100, 114, 114, 114, 114] : List UInt8)) = false := bne_eq_false_iff_eq.mpr c12
          clear c12
          by_cases c13 : t145 = (-1)
          · rw [if_pos c13] at H
            have c13b0 : (t145 == (-1)) = true := beq_iff_eq.mpr c13
            have c13b1 : (t145 != (-1)) = false := bne_eq_false_iff_eq.mpr c13
            clear c13
            replace H := Option.bind_eq_some_iff.mp H
            obtain ⟨t159, A140, H⟩ := H
            replace H : (if t159.toList = ([114, 114, 114, 114, 114] : List UInt8) then (some (t152 == 5)) else (some false)) = some r := H
            have A14 := Aside0.mk A140
            clear A140
            by_cases c15 : t159.toList = ([114, 114, 114, 114, 114] : List UInt8)
            · rw [if_pos c15] at H
              have c15b0 : (t159.toList == ([114, 114, 114, 114, 114] : List UInt8)) = true := beq_iff_eq.mpr c15
              have c15b1 : (t159.toList != ([114, 114, 114, 114, 114] : List UInt8)) = false := bne_eq_false_iff_eq.mpr c15
              clear c15
              obtain rfl := Option.some.inj H
              simp only [Option.some.injEq, Prod.mk.injEq] at H
              obtain ⟨rfl⟩ := H
              go_enter Try.func7, Try.ntmps7
              go_wp2_with (first | ((with_reducible refine gate_callee (f := 17) rfl ?_); refine goesL_ (some 6) rfl rfl Try.func17 (by kernel_rfl) rfl #[.string (⟨#[100, 100, 100, 100, 100, 114, 114, 114, 114, 114, 100]⟩ : ByteArray)] rfl (by (try simp only [List.map_toArray, List.map_cons, List.map_nil]); first | done | rfl | (simp only [List.length_drop, List.length_take]; rfl)) ?_; (with_reducible refine (jackstaylaw02_Of.calls (⟨#[100, 100, 100, 100, 100, 114, 114, 114, 114, 114, 100]⟩ : ByteArray) t141 _ A1.out).mono ?_); rintro e w16 ⟨v142, rfl, ho0, hb⟩; refine ⟨_, rfl, ?_⟩; have n0_ := Aside0.mk (Kd.R_lower ho0 (below_size (by repeat (first | (with_reducible first | exact HB.out | apply below_alloc | apply pw_below_drewN | apply below_drew1) | exact HB.out)))); have n1_ := Aside0.mk (below_step (by repeat (first | (with_reducible first | exact HB.out | apply below_alloc | apply pw_below_drewN | apply below_drew1) | exact HB.out)) hb); clear HB; have HO143 := n0_; have HB := n1_; clear n0_ n1_; (try clear hb); (try clear hb2); (try clear hk); (try clear hi); (try clear ho0); obtain ⟨Ao17, co17, eo17⟩ := Kd.R_slice HO143.out; subst eo17) | ((with_reducible refine gate_callee (f := 12) rfl ?_); refine goesL_ (some 7) rfl rfl Try.func12 (by kernel_rfl) rfl #[.slice Ao17 t141.length co17] rfl (by (try simp only [List.map_toArray, List.map_cons, List.map_nil]); first | done | rfl | (simp only [List.length_drop, List.length_take]; rfl)) ?_; (with_reducible refine (stuff_Take.calls k _ _ t141 t144 t145 _ ?side1 ?side2 A2.out).mono ?_); (case side1 => repeat (first | exact (Kd.R_reads' HO143.out).2.2 | (with_reducible refine Kd.C_alloc ?_ _) | (with_reducible refine Kd.C_drewN ?_ _) | (with_reducible refine Kd.C_drew ?_))); (case side2 => exact (Kd.R_reads' HO143.out).2.1); rintro e w18 ⟨v146, rfl, ho0, hb⟩; refine ⟨_, rfl, ?_⟩; have n0_ := Aside0.mk (Kd.R_elder' (by (with_reducible repeat (first | apply Kd.R_alloc | apply Kd.R_drewN | apply Kd.R_drew)); exact HO143.out) (Kd.R_base ho0) hb); have n1_ := Aside0.mk (Kd.R_lower (Kd.R_new' ho0 (Kd.R_lt (by (with_reducible repeat (first | apply Kd.R_alloc | apply Kd.R_drewN | apply Kd.R_drew)); exact HO143.out))) (below_size (by repeat (first | (with_reducible first | exact HB.out | apply below_alloc | apply pw_below_drewN | apply below_drew1) | exact HB.out)))); have n2_ := Aside0.mk (below_step (by repeat (first | (with_reducible first | exact HB.out | apply below_alloc | apply pw_below_drewN | apply below_drew1) | exact HB.out)) hb); clear HO143; clear HB; have HO143 := n0_; have HO147 := n1_; have HB := n2_; clear n0_ n1_ n2_; (try clear hb); (try clear hb2); (try clear hk); (try clear hi); (try clear ho0)) | ((with_reducible refine gate_callee (f := 17) rfl ?_); refine goesL_ (some 11) rfl rfl Try.func17 (by kernel_rfl) rfl #[.string (⟨#[114, 114, 114, 114, 114, 114]⟩ : ByteArray)] rfl (by (try simp only [List.map_toArray, List.map_cons, List.map_nil]); first | done | rfl | (simp only [List.length_drop, List.length_take]; rfl)) ?_; (with_reducible refine (jackstaylaw02_Of.calls (⟨#[114, 114, 114, 114, 114, 114]⟩ : ByteArray) t148 _ A3.out).mono ?_); rintro e w19 ⟨v149, rfl, ho0, hb⟩; refine ⟨_, rfl, ?_⟩; have n0_ := Aside0.mk (Kd.R_elder' (by (with_reducible repeat (first | apply Kd.R_alloc | apply Kd.R_drewN | apply Kd.R_drew)); exact HO143.out) (Kd.R_base ho0) hb); have n1_ := Aside0.mk (Kd.R_elder' (by (with_reducible repeat (first | apply Kd.R_alloc | apply Kd.R_drewN | apply Kd.R_drew)); exact HO147.out) (Kd.R_base ho0) hb); have n2_ := Aside0.mk (Kd.R_lower (Kd.R_new' (Kd.R_new' ho0 (Kd.R_lt (by (with_reducible repeat (first | apply Kd.R_alloc | apply Kd.R_drewN | apply Kd.R_drew)); exact HO143.out))) (Kd.R_lt (by (with_reducible repeat (first | apply Kd.R_alloc | apply Kd.R_drewN | apply Kd.R_drew)); exact HO147.out))) (below_size (by repeat (first | (with_reducible first | exact HB.out | apply below_alloc | apply pw_below_drewN | apply below_drew1) | exact HB.out)))); have n3_ := Aside0.mk (below_step (by repeat (first | (with_reducible first | exact HB.out | apply below_alloc | apply pw_below_drewN | apply below_drew1) | exact HB.out)) hb); clear HO143; clear HO147; clear HB; have HO143 := n0_; have HO147 := n1_; have HO150 := n2_; have HB := n3_; clear n0_ n1_ n2_ n3_; (try clear hb); (try clear hb2); (try clear hk); (try clear hi); (try clear ho0); obtain ⟨Ao20, co20, eo20⟩ := Kd.R_slice HO150.out; subst eo20) | ((with_reducible refine gate_callee (f := 12) rfl ?_); refine goesL_ (some 12) rfl rfl Try.func12 (by kernel_rfl) rfl #[.slice Ao20 t148.length co20] rfl (by (try simp only [List.map_toArray, List.map_cons, List.map_nil]); first | done | rfl | (simp only [List.length_drop, List.length_take]; rfl)) ?_; (with_reducible refine (stuff_Take.calls k _ _ t148 t151 t152 _ ?side1 ?side2 A4.out).mono ?_); (case side1 => repeat (first | exact (Kd.R_reads' HO150.out).2.2 | (with_reducible refine Kd.C_alloc ?_ _) | (with_reducible refine Kd.C_drewN ?_ _) | (with_reducible refine Kd.C_drew ?_))); (case side2 => exact (Kd.R_reads' HO150.out).2.1); rintro e w21 ⟨v153, rfl, ho0, hb⟩; refine ⟨_, rfl, ?_⟩; have n0_ := Aside0.mk (Kd.R_elder' (by (with_reducible repeat (first | apply Kd.R_alloc | apply Kd.R_drewN | apply Kd.R_drew)); exact HO143.out) (Kd.R_base ho0) hb); have n1_ := Aside0.mk (Kd.R_elder' (by (with_reducible repeat (first | apply Kd.R_alloc | apply Kd.R_drewN | apply Kd.R_drew)); exact HO147.out) (Kd.R_base ho0) hb); have n2_ := Aside0.mk (Kd.R_elder' (by (with_reducible repeat (first | apply Kd.R_alloc | apply Kd.R_drewN | apply Kd.R_drew)); exact HO150.out) (Kd.R_base ho0) hb); have n3_ := Aside0.mk (Kd.R_lower (Kd.R_new' (Kd.R_new' (Kd.R_new' ho0 (Kd.R_lt (by (with_reducible repeat (first | apply Kd.R_alloc | apply Kd.R_drewN | apply Kd.R_drew)); exact HO143.out))) (Kd.R_lt (by (with_reducible repeat (first | apply Kd.R_alloc | apply Kd.R_drewN | apply Kd.R_drew)); exact HO147.out))) (Kd.R_lt (by (with_reducible repeat (first | apply Kd.R_alloc | apply Kd.R_drewN | apply Kd.R_drew)); exact HO150.out))) (below_size (by repeat (first | (with_reducible first | exact HB.out | apply below_alloc | apply pw_below_drewN | apply below_drew1) | exact HB.out)))); have n4_ := Aside0.mk (below_step (by repeat (first | (with_reducible first | exact HB.out | apply below_alloc | apply pw_below_drewN | apply below_drew1) | exact HB.out)) hb); clear HO143; clear HO147; clear HO150; clear HB; have HO143 := n0_; have HO147 := n1_; have HO150 := n2_; have HO154 := n3_; have HB := n4_; clear n0_ n1_ n2_ n3_ n4_; (try clear hb); (try clear hb2); (try clear hk); (try clear hi); (try clear ho0)) | ((with_reducible refine gate_callee (f := 18) rfl ?_); refine goesL_ (some 15) rfl rfl Try.func18 (by kernel_rfl) rfl #[.string (⟨#[100, 100, 100, 100, 100]⟩ : ByteArray), .string (⟨#[100, 100, 100, 100, 100, 114]⟩ : ByteArray)] rfl (by (try simp only [List.map_toArray, List.map_cons, List.map_nil]); first | done | rfl | (simp only [List.length_drop, List.length_take]; rfl)) ?_; (with_reducible refine (jackstaylaw02_puts.calls k (⟨#[100, 100, 100, 100, 100]⟩ : ByteArray) (⟨#[100, 100, 100, 100, 100, 114]⟩ : ByteArray) true _ A5.out).mono ?_); rintro e w22 ⟨rfl, hb⟩; refine ⟨_, rfl, ?_⟩; have n0_ := Aside0.mk (Kd.R_below (by (with_reducible repeat (first | apply Kd.R_alloc | apply Kd.R_drewN | apply Kd.R_drew)); exact HO143.out) hb); have n1_ := Aside0.mk (Kd.R_below (by (with_reducible repeat (first | apply Kd.R_alloc | apply Kd.R_drewN | apply Kd.R_drew)); exact HO147.out) hb); have n2_ := Aside0.mk (Kd.R_below (by (with_reducible repeat (first | apply Kd.R_alloc | apply Kd.R_drewN | apply Kd.R_drew)); exact HO150.out) hb); have n3_ := Aside0.mk (Kd.R_below (by (with_reducible repeat (first | apply Kd.R_alloc | apply Kd.R_drewN | apply Kd.R_drew)); exact HO154.out) hb); have n4_ := Aside0.mk (below_step (by repeat (first | (with_reducible first | exact HB.out | apply below_alloc | apply pw_below_drewN | apply below_drew1) | exact HB.out)) hb); clear HO143; clear HO147; clear HO150; clear HO154; clear HB; have HO143 := n0_; have HO147 := n1_; have HO150 := n2_; have HO154 := n3_; have HB := n4_; clear n0_ n1_ n2_ n3_ n4_; (try clear hb); (try clear hb2); (try clear hk); (try clear hi)) | (go_at_call 18; (with_reducible refine (jackstaylaw02_puts.calls k (⟨#[114, 114, 114, 114, 114, 100]⟩ : ByteArray) (⟨#[114, 114, 114, 114, 114, 100, 100]⟩ : ByteArray) true _ A7.out).mono ?_); rintro e w23 ⟨rfl, hb⟩; have n0_ := Aside0.mk (Kd.R_below (by (with_reducible repeat (first | apply Kd.R_alloc | apply Kd.R_drewN | apply Kd.R_drew)); exact HO143.out) hb); have n1_ := Aside0.mk (Kd.R_below (by (with_reducible repeat (first | apply Kd.R_alloc | apply Kd.R_drewN | apply Kd.R_drew)); exact HO147.out) hb); have n2_ := Aside0.mk (Kd.R_below (by (with_reducible repeat (first | apply Kd.R_alloc | apply Kd.R_drewN | apply Kd.R_drew)); exact HO150.out) hb); have n3_ := Aside0.mk (Kd.R_below (by (with_reducible repeat (first | apply Kd.R_alloc | apply Kd.R_drewN | apply Kd.R_drew)); exact HO154.out) hb); have n4_ := Aside0.mk (below_step (by repeat (first | (with_reducible first | exact HB.out | apply below_alloc | apply pw_below_drewN | apply below_drew1) | exact HB.out)) hb); clear HO143; clear HO147; clear HO150; clear HO154; clear HB; have HO143 := n0_; have HO147 := n1_; have HO150 := n2_; have HO154 := n3_; have HB := n4_; clear n0_ n1_ n2_ n3_ n4_; (try clear hb); (try clear hb2); (try clear hk); (try clear hi)) | (go_at_call 18; (with_reducible refine (jackstaylaw02_puts.calls k (⟨#[100, 100, 100, 100, 100, 114, 114, 114, 114]⟩ : ByteArray) (⟨#[100, 100, 100, 100, 100, 114, 114, 114, 114, 114, 100]⟩ : ByteArray) true _ A9.out).mono ?_); rintro e w24 ⟨rfl, hb⟩; have n0_ := Aside0.mk (Kd.R_below (by (with_reducible repeat (first | apply Kd.R_alloc | apply Kd.R_drewN | apply Kd.R_drew)); exact HO143.out) hb); have n1_ := Aside0.mk (Kd.R_below (by (with_reducible repeat (first | apply Kd.R_alloc | apply Kd.R_drewN | apply Kd.R_drew)); exact HO147.out) hb); have n2_ := Aside0.mk (Kd.R_below (by (with_reducible repeat (first | apply Kd.R_alloc | apply Kd.R_drewN | apply Kd.R_drew)); exact HO150.out) hb); have n3_ := Aside0.mk (Kd.R_below (by (with_reducible repeat (first | apply Kd.R_alloc | apply Kd.R_drewN | apply Kd.R_drew)); exact HO154.out) hb); have n4_ := Aside0.mk (below_step (by repeat (first | (with_reducible first | exact HB.out | apply below_alloc | apply pw_below_drewN | apply below_drew1) | exact HB.out)) hb); clear HO143; clear HO147; clear HO150; clear HO154; clear HB; have HO143 := n0_; have HO147 := n1_; have HO150 := n2_; have HO154 := n3_; have HB := n4_; clear n0_ n1_ n2_ n3_ n4_; (try clear hb); (try clear hb2); (try clear hk); (try clear hi); obtain ⟨Ao25, co25, eo25⟩ := Kd.R_slice HO147.out; subst eo25) | (go_at_call 19; (with_reducible refine (jackstaylow_Text.calls k _ _ t144 t158 _ ?side1 ?side2 A11.out).mono ?_); (case side1 => repeat (first | exact (Kd.R_reads' HO147.out).2.2 | (with_reducible refine Kd.C_alloc ?_ _) | (with_reducible refine Kd.C_drewN ?_ _) | (with_reducible refine Kd.C_drew ?_))); (case side2 => exact (Kd.R_reads' HO147.out).2.1); rintro e w' ⟨rfl, ⟨nd, rfl⟩⟩; obtain ⟨Ao26, co26, eo26⟩ := Kd.R_slice HO154.out; subst eo26) | (go_at_call 19; (with_reducible refine (jackstaylow_Text.calls k _ _ t151 t159 _ ?side1 ?side2 A14.out).mono ?_); (case side1 => repeat (first | exact (Kd.R_reads' HO154.out).2.2 | (with_reducible refine Kd.C_alloc ?_ _) | (with_reducible refine Kd.C_drewN ?_ _) | (with_reducible refine Kd.C_drew ?_))); (case side2 => exact (Kd.R_reads' HO154.out).2.1); rintro e w' ⟨rfl, ⟨nd, rfl⟩⟩))
              go_ret
              exact ⟨by first | rfl | (simp [errW_none, errW_some] <;> rfl) | (simp [*, errW_none, errW_some] <;> rfl), by repeat (first | (with_reducible first | exact HB.out | apply below_alloc | apply pw_below_drewN | apply below_drew1) | exact HB.out)⟩
            · rw [if_neg c15] at H
              have c15b0 : (t159.toList == ([114, 114, 114, 114, 114] : List UInt8)) = false := beq_eq_false_iff_ne.mpr c15
              have c15b1 : (t159.toList != ([114, 114, 114, 114, 114] : List UInt8)) = true := bne_iff_ne.mpr c15
              obtain rfl := Option.some.inj H
              exact absurd hT_ (by decide)
          · rw [if_neg c13] at H
            have c13b0 : (t145 == (-1)) = false := beq_eq_false_iff_ne.mpr c13
            have c13b1 : (t145 != (-1)) = true := bne_iff_ne.mpr c13
            obtain rfl := Option.some.inj H
            exact absurd hT_ (by decide)
        · rw [if_neg c12] at H
          have c12b0 : (t158.toList == ([100, 100, 100, 100, 100, 114, 114, 114, 114] : List UInt8)) = false := beq_eq_false_iff_ne.mpr c12
          have c12b1 : (t158.toList != ([100, 100, 100, 100, 100, 114, 114, 114, 114] : List UInt8)) = true := bne_iff_ne.mpr c12
          obtain rfl := Option.some.inj H
          exact absurd hT_ (by decide)
      · replace c10 := Bool.eq_false_iff.mpr c10
        subst c10
        (try (have c12b0n := c12b0; simp only [beq_false, beq_true, Bool.not_not, Bool.not_true, Bool.not_false, Bool.true_and, Bool.and_true, Bool.false_or, Bool.or_false, Bool.true_bne, Bool.false_bne, Bool.bne_true, Bool.bne_false, Bool.true_beq, Bool.false_beq] at c12b0n; have c12b0o := c12b0n; simp only [Bool.not_eq_false', Bool.not_eq_true'] at c12b0o))
        (try (have c13b0n := c13b0; simp only [beq_false, beq_true, Bool.not_not, Bool.not_true, Bool.not_false, Bool.true_and, Bool.and_true, Bool.false_or, Bool.or_false, Bool.true_bne, Bool.false_bne, Bool.bne_true, Bool.bne_false, Bool.true_beq, Bool.false_beq] at c13b0n; have c13b0o := c13b0n; simp only [Bool.not_eq_false', Bool.not_eq_true'] at c13b0o))
        (try (have c15b0n := c15b0; simp only [beq_false, beq_true, Bool.not_not, Bool.not_true, Bool.not_false, Bool.true_and, Bool.and_true, Bool.false_or, Bool.or_false, Bool.true_bne, Bool.false_bne, Bool.bne_true, Bool.bne_false, Bool.true_beq, Bool.false_beq] at c15b0n; have c15b0o := c15b0n; simp only [Bool.not_eq_false', Bool.not_eq_true'] at c15b0o))
        have H1 : (some false) = some r := by rw [if_neg (show ¬ (false = true) by decide)] at H; exact H
        clear H
        have H := H1
        clear H1
        obtain rfl := Option.some.inj H
        exact absurd hT_ (by decide)
    · replace c8 := Bool.eq_false_iff.mpr c8
      subst c8
      (try (have c12b0n := c12b0; simp only [beq_false, beq_true, Bool.not_not, Bool.not_true, Bool.not_false, Bool.true_and, Bool.and_true, Bool.false_or, Bool.or_false, Bool.true_bne, Bool.false_bne, Bool.bne_true, Bool.bne_false, Bool.true_beq, Bool.false_beq] at c12b0n; have c12b0o := c12b0n; simp only [Bool.not_eq_false', Bool.not_eq_true'] at c12b0o))
      (try (have c13b0n := c13b0; simp only [beq_false, beq_true, Bool.not_not, Bool.not_true, Bool.not_false, Bool.true_and, Bool.and_true, Bool.false_or, Bool.or_false, Bool.true_bne, Bool.false_bne, Bool.bne_true, Bool.bne_false, Bool.true_beq, Bool.false_beq] at c13b0n; have c13b0o := c13b0n; simp only [Bool.not_eq_false', Bool.not_eq_true'] at c13b0o))
      (try (have c15b0n := c15b0; simp only [beq_false, beq_true, Bool.not_not, Bool.not_true, Bool.not_false, Bool.true_and, Bool.and_true, Bool.false_or, Bool.or_false, Bool.true_bne, Bool.false_bne, Bool.bne_true, Bool.bne_false, Bool.true_beq, Bool.false_beq] at c15b0n; have c15b0o := c15b0n; simp only [Bool.not_eq_false', Bool.not_eq_true'] at c15b0o))
      have H1 : (some false) = some r := by rw [if_neg (show ¬ (false = true) by decide)] at H; exact H
      clear H
      have H := H1
      clear H1
      obtain rfl := Option.some.inj H
      exact absurd hT_ (by decide)
  · replace c6 := Bool.eq_false_iff.mpr c6
    subst c6
    (try (have c12b0n := c12b0; simp only [beq_false, beq_true, Bool.not_not, Bool.not_true, Bool.not_false, Bool.true_and, Bool.and_true, Bool.false_or, Bool.or_false, Bool.true_bne, Bool.false_bne, Bool.bne_true, Bool.bne_false, Bool.true_beq, Bool.false_beq] at c12b0n; have c12b0o := c12b0n; simp only [Bool.not_eq_false', Bool.not_eq_true'] at c12b0o))
    (try (have c13b0n := c13b0; simp only [beq_false, beq_true, Bool.not_not, Bool.not_true, Bool.not_false, Bool.true_and, Bool.and_true, Bool.false_or, Bool.or_false, Bool.true_bne, Bool.false_bne, Bool.bne_true, Bool.bne_false, Bool.true_beq, Bool.false_beq] at c13b0n; have c13b0o := c13b0n; simp only [Bool.not_eq_false', Bool.not_eq_true'] at c13b0o))
    (try (have c15b0n := c15b0; simp only [beq_false, beq_true, Bool.not_not, Bool.not_true, Bool.not_false, Bool.true_and, Bool.and_true, Bool.false_or, Bool.or_false, Bool.true_bne, Bool.false_bne, Bool.bne_true, Bool.bne_false, Bool.true_beq, Bool.false_beq] at c15b0n; have c15b0o := c15b0n; simp only [Bool.not_eq_false', Bool.not_eq_true'] at c15b0o))
    have H1 : (some false) = some r := by rw [if_neg (show ¬ (false = true) by decide)] at H; exact H
    clear H
    have H := H1
    clear H1
    obtain rfl := Option.some.inj H
    exact absurd hT_ (by decide)

end Go.Proofs.Ytjpnkapjnnighaa.P
