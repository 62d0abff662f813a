/- What Go functions of this seat answer: their contracts, printed by a program of this session's; Lean checks each. -/
import Derived.Test.YtjpnkapjnnighaaPx0
import Derived.Test.YtjpnkapjnnighaaPx2
import Derived.Test.YtjpnkapjnnighaaPx3
import Derived.Test.YtjpnkapjnnighaaPx6
namespace Go.Proofs.Ytjpnkapjnnighaa.P
open Go.RowKit Go.Proofs.YtjpnkapjnnighaaW.PrintWords Go.Proofs.YtjpnkapjnnighaaW.PrintLast Go.Proofs.YtjpnkapjnnighaaW.PrintMore
attribute [local go_sem] max2_int min2_int max_two min_two max_three min_three max_four min_four   -- for this text's walks alone
set_option linter.unusedVariables false
set_option linter.unusedSimpArgs false

/-! ### jackstaylaw02_StuffBack: function 4 -/
mutual
def jackstaylaw02_StuffBack.j0 : Nat → List Bool → Bool → Option (Bool)
  | 0, _, _ => none
  | k + 1, x3, x45 => if x45 = true then (some false) else (jackstaylaw02_StuffBack.l0 k x3 0 x3 (x3.length : Int) 0)
def jackstaylaw02_StuffBack.l0 : Nat → List Bool → Int → List Bool → Int → Int → Option (Bool)
  | 0, _, _, _, _, _ => none
  | k + 1, x3, x6, x46, x47, x48 => if x48 < x47 then (if 0 ≤ x48 then (if x48 < (x46.length : Int) then (if x48 > 0 then (if 0 ≤ (wrap64 (x48 - 1)) then (if (wrap64 (x48 - 1)) < (x3.length : Int) then (jackstaylaw02_StuffBack.j2 k x3 x6 x46 x47 x48 ((rdOf false x46 x48) == (rdOf false x3 (wrap64 (x48 - 1))))) else (none)) else (none)) else (jackstaylaw02_StuffBack.j2 k x3 x6 x46 x47 x48 false)) else (none)) else (none)) else ((jackstaylaw02_awake.f k).bind fun t242 => (some t242))
def jackstaylaw02_StuffBack.j2 : Nat → List Bool → Int → List Bool → Int → Int → Bool → Option (Bool)
  | 0, _, _, _, _, _, _ => none
  | k + 1, x3, x6, x46, x47, x48, x63 => if x63 = true then (if (wrap64 (x6 + 1)) > 5 then (some false) else (jackstaylaw02_StuffBack.l0 k x3 (wrap64 (x6 + 1)) x46 x47 (wrap64 (x48 + 1)))) else (jackstaylaw02_StuffBack.l0 k x3 1 x46 x47 (wrap64 (x48 + 1)))
end
def jackstaylaw02_StuffBack.f (k : Nat) (l0 : List Bool) : Option (Bool) := if (l0.length : Int) > 400 then ((jackstaylaw02_awake.f k).bind fun t233 => (some t233)) else ((stuff_Put.f k l0).bind fun t234 => ((stuff_Take.f k t234).bind fun bt237 => (if bt237.2 = (-1) then ((jackstaylow_Same.f k bt237.1 l0).bind fun t241 => (if t241 = true then (if (t234.length : Int) < (l0.length : Int) then (jackstaylaw02_StuffBack.j0 k t234 true) else (jackstaylaw02_StuffBack.j0 k t234 (decide ((wrap64 ((t234.length : Int) - (l0.length : Int))) > (wrap64 ((l0.length : Int) / 4)))))) else (jackstaylaw02_StuffBack.j0 k t234 true))) else (jackstaylaw02_StuffBack.j0 k t234 true))))
theorem jackstaylaw02_StuffBack.mono_l : ∀ k, (∀ y0 y1, LeO (jackstaylaw02_StuffBack.j0 k y0 y1) (jackstaylaw02_StuffBack.j0 (k + 1) y0 y1)) ∧ (∀ y0 y1 y2 y3 y4, LeO (jackstaylaw02_StuffBack.l0 k y0 y1 y2 y3 y4) (jackstaylaw02_StuffBack.l0 (k + 1) y0 y1 y2 y3 y4)) ∧ (∀ y0 y1 y2 y3 y4 y5, LeO (jackstaylaw02_StuffBack.j2 k y0 y1 y2 y3 y4 y5) (jackstaylaw02_StuffBack.j2 (k + 1) y0 y1 y2 y3 y4 y5))
  | 0 => ⟨fun _ _ r h => by simp [jackstaylaw02_StuffBack.j0] at h, fun _ _ _ _ _ r h => by simp [jackstaylaw02_StuffBack.l0] at h, fun _ _ _ _ _ _ r h => by simp [jackstaylaw02_StuffBack.j2] at h⟩
  | k + 1 => by
    obtain ⟨ih0, ih1, ih2⟩ := jackstaylaw02_StuffBack.mono_l k
    refine ⟨?_, ?_, ?_⟩
    · intro y0 y1
      unfold jackstaylaw02_StuffBack.j0
      repeat' first
      | (with_reducible exact ih0 _ _)
      | (with_reducible exact ih1 _ _ _ _ _)
      | (with_reducible exact ih2 _ _ _ _ _ _)
      | (with_reducible exact jackstaylaw02_awake.mono _)
      | (with_reducible exact jackstaylow_Same.mono _ _ _)
      | (with_reducible exact stuff_Put.mono _ _)
      | (with_reducible exact stuff_Take.mono _ _)
      | (with_reducible exact LeO.refl _)
      | (with_reducible exact LeO.none _)
      | (with_reducible refine LeO.ite ?_ ?_)
      | (with_reducible refine LeO.bind ?_ (fun _ => ?_))
      | exact ih0 _ _
      | exact ih1 _ _ _ _ _
      | exact ih2 _ _ _ _ _ _
      | exact jackstaylaw02_awake.mono _
      | exact jackstaylow_Same.mono _ _ _
      | exact stuff_Put.mono _ _
      | exact stuff_Take.mono _ _
      | exact LeO.none _
      | refine LeO.ite ?_ ?_
      | refine LeO.bind ?_ (fun _ => ?_)
    · intro y0 y1 y2 y3 y4
      unfold jackstaylaw02_StuffBack.l0
      repeat' first
      | (with_reducible exact ih0 _ _)
      | (with_reducible exact ih1 _ _ _ _ _)
      | (with_reducible exact ih2 _ _ _ _ _ _)
      | (with_reducible exact jackstaylaw02_awake.mono _)
      | (with_reducible exact jackstaylow_Same.mono _ _ _)
      | (with_reducible exact stuff_Put.mono _ _)
      | (with_reducible exact stuff_Take.mono _ _)
      | (with_reducible exact LeO.refl _)
      | (with_reducible exact LeO.none _)
      | (with_reducible refine LeO.ite ?_ ?_)
      | (with_reducible refine LeO.bind ?_ (fun _ => ?_))
      | exact ih0 _ _
      | exact ih1 _ _ _ _ _
      | exact ih2 _ _ _ _ _ _
      | exact jackstaylaw02_awake.mono _
      | exact jackstaylow_Same.mono _ _ _
      | exact stuff_Put.mono _ _
      | exact stuff_Take.mono _ _
      | exact LeO.none _
      | refine LeO.ite ?_ ?_
      | refine LeO.bind ?_ (fun _ => ?_)
    · intro y0 y1 y2 y3 y4 y5
      unfold jackstaylaw02_StuffBack.j2
      repeat' first
      | (with_reducible exact ih0 _ _)
      | (with_reducible exact ih1 _ _ _ _ _)
      | (with_reducible exact ih2 _ _ _ _ _ _)
      | (with_reducible exact jackstaylaw02_awake.mono _)
      | (with_reducible exact jackstaylow_Same.mono _ _ _)
      | (with_reducible exact stuff_Put.mono _ _)
      | (with_reducible exact stuff_Take.mono _ _)
      | (with_reducible exact LeO.refl _)
      | (with_reducible exact LeO.none _)
      | (with_reducible refine LeO.ite ?_ ?_)
      | (with_reducible refine LeO.bind ?_ (fun _ => ?_))
      | exact ih0 _ _
      | exact ih1 _ _ _ _ _
      | exact ih2 _ _ _ _ _ _
      | exact jackstaylaw02_awake.mono _
      | exact jackstaylow_Same.mono _ _ _
      | exact stuff_Put.mono _ _
      | exact stuff_Take.mono _ _
      | exact LeO.none _
      | refine LeO.ite ?_ ?_
      | refine LeO.bind ?_ (fun _ => ?_)
theorem jackstaylaw02_StuffBack.mono : ∀ a0 k, LeO (jackstaylaw02_StuffBack.f k a0) (jackstaylaw02_StuffBack.f (k + 1) a0) := by
  intro a0 k
  obtain ⟨ih0, ih1, ih2⟩ := jackstaylaw02_StuffBack.mono_l k
  unfold jackstaylaw02_StuffBack.f
  repeat' first
      | (with_reducible exact ih0 _ _)
      | (with_reducible exact ih1 _ _ _ _ _)
      | (with_reducible exact ih2 _ _ _ _ _ _)
      | (with_reducible exact jackstaylaw02_awake.mono _)
      | (with_reducible exact jackstaylow_Same.mono _ _ _)
      | (with_reducible exact stuff_Put.mono _ _)
      | (with_reducible exact stuff_Take.mono _ _)
      | (with_reducible exact LeO.refl _)
      | (with_reducible exact LeO.none _)
      | (with_reducible refine LeO.ite ?_ ?_)
      | (with_reducible refine LeO.bind ?_ (fun _ => ?_))
      | exact ih0 _ _
      | exact ih1 _ _ _ _ _
      | exact ih2 _ _ _ _ _ _
      | exact jackstaylaw02_awake.mono _
      | exact jackstaylow_Same.mono _ _ _
      | exact stuff_Put.mono _ _
      | exact stuff_Take.mono _ _
      | exact LeO.none _
      | refine LeO.ite ?_ ?_
      | refine LeO.bind ?_ (fun _ => ?_)
set_option maxHeartbeats 8000000 in
set_option maxRecDepth 100000 in
theorem jackstaylaw02_StuffBack.calls (k : Nat) (A0 : Option Addr) (c0 : Nat) (l0 : List Bool) (r : Bool) (w : World) (hr0 : Kd.C Kd.bool w A0 l0.length l0) (hc0 : l0.length ≤ c0) (h : jackstaylaw02_StuffBack.f k l0 = some r) :
    Calls Try.prog 4 #[.slice A0 l0.length c0] w fun e w' => e = .returned (.bool r) ∧ Below w.heap.size w w' := by
  have HR0 := Aside0.mk hr0
  have HC0 := Aside0.mk hc0
  clear hr0 hc0
  have HB := Aside0.mk (Below.refl w.heap.size w)
  have H : (if (l0.length : Int) > 400 then ((jackstaylaw02_awake.f k).bind fun t233 => (some t233)) else ((stuff_Put.f k l0).bind fun t234 => ((stuff_Take.f k t234).bind fun bt237 => (if bt237.2 = (-1) then ((jackstaylow_Same.f k bt237.1 l0).bind fun t241 => (if t241 = true then (if (t234.length : Int) < (l0.length : Int) then (jackstaylaw02_StuffBack.j0 k t234 true) else (jackstaylaw02_StuffBack.j0 k t234 (decide ((wrap64 ((t234.length : Int) - (l0.length : Int))) > (wrap64 ((l0.length : Int) / 4)))))) else (jackstaylaw02_StuffBack.j0 k t234 true))) else (jackstaylaw02_StuffBack.j0 k t234 true))))) = some r := h
  clear h
  by_cases c2 : (l0.length : Int) > 400
  · rw [if_pos c2] at H
    have c2b0 : decide (400 < (l0.length : Int)) = true := decide_eq_true c2
    have c2b1 : decide (400 < l0.length) = true := decide_eq_true (by omega)
    clear c2
    replace H := Option.bind_eq_some_iff.mp H
    obtain ⟨t233, A30, H⟩ := H
    replace H : (some t233) = some r := H
    have A3 := Aside0.mk A30
    clear A30
    obtain rfl := Option.some.inj H
    go_enter Try.func4, Try.ntmps4
    go_wp2_with (first | ((with_reducible refine gate_callee (f := 7) rfl ?_); refine goesL_ (some 12) rfl rfl Try.func7 (by kernel_rfl) rfl #[] rfl (by (try simp only [List.map_toArray, List.map_cons, List.map_nil]); first | done | rfl | (simp only [List.length_drop, List.length_take]; rfl)) ?_; (with_reducible refine (jackstaylaw02_awake.calls k  t233 _ A3.out).mono ?_); rintro e w4 ⟨rfl, hb⟩; refine ⟨_, rfl, ?_⟩; have n0_ := Aside0.mk (below_step (by repeat (first | (with_reducible first | exact HB.out | apply below_alloc | apply pw_below_drewN | apply below_drew1) | exact HB.out)) hb); clear HB; have HB := n0_; clear n0_; (try clear hb); (try clear hb2); (try clear hk); (try clear hi)))
    go_ret
    exact ⟨by first | rfl | (simp [errW_none, errW_some] <;> rfl) | (simp [*, errW_none, errW_some] <;> rfl), by repeat (first | (with_reducible first | exact HB.out | apply below_alloc | apply pw_below_drewN | apply below_drew1) | exact HB.out)⟩
  · rw [if_neg c2] at H
    have c2b0 : decide (400 < (l0.length : Int)) = false := decide_eq_false c2
    have c2b1 : decide (400 < l0.length) = false := decide_eq_false (by omega)
    clear c2
    replace H := Option.bind_eq_some_iff.mp H
    obtain ⟨t234, A50, H⟩ := H
    replace H : ((stuff_Take.f k t234).bind fun bt237 => (if bt237.2 = (-1) then ((jackstaylow_Same.f k bt237.1 l0).bind fun t241 => (if t241 = true then (if (t234.length : Int) < (l0.length : Int) then (jackstaylaw02_StuffBack.j0 k t234 true) else (jackstaylaw02_StuffBack.j0 k t234 (decide ((wrap64 ((t234.length : Int) - (l0.length : Int))) > (wrap64 ((l0.length : Int) / 4)))))) else (jackstaylaw02_StuffBack.j0 k t234 true))) else (jackstaylaw02_StuffBack.j0 k t234 true))) = some r := H
    have A5 := Aside0.mk A50
    clear A50
    replace H := Option.bind_eq_some_iff.mp H
    obtain ⟨⟨t237, t238⟩, A60, H⟩ := H
    replace H : (if t238 = (-1) then ((jackstaylow_Same.f k t237 l0).bind fun t241 => (if t241 = true then (if (t234.length : Int) < (l0.length : Int) then (jackstaylaw02_StuffBack.j0 k t234 true) else (jackstaylaw02_StuffBack.j0 k t234 (decide ((wrap64 ((t234.length : Int) - (l0.length : Int))) > (wrap64 ((l0.length : Int) / 4)))))) else (jackstaylaw02_StuffBack.j0 k t234 true))) else (jackstaylaw02_StuffBack.j0 k t234 true)) = some r := H
    have A6 := Aside0.mk A60
    clear A60
    have HC7 := Aside0.mk H
    clear H
    go_enter Try.func4, Try.ntmps4
    go_upto_region 5 with (first | ((with_reducible refine gate_callee (f := 15) rfl ?_); refine goesL_ (some 14) rfl rfl Try.func15 (by kernel_rfl) rfl #[.slice A0 l0.length c0] rfl (by (try simp only [List.map_toArray, List.map_cons, List.map_nil]); first | done | rfl | (simp only [List.length_drop, List.length_take]; rfl)) ?_; (with_reducible refine (stuff_Put.calls k _ _ l0 t234 _ ?side1 ?side2 A5.out).mono ?_); (case side1 => repeat (first | exact HR0.out | (with_reducible refine Kd.C_alloc ?_ _) | (with_reducible refine Kd.C_drewN ?_ _) | (with_reducible refine Kd.C_drew ?_))); (case side2 => exact HC0.out); rintro e w8 ⟨v235, rfl, ho0, hb⟩; refine ⟨_, rfl, ?_⟩; have n0_ := Aside0.mk (Kd.R_lower ho0 (below_size (by repeat (first | (with_reducible first | exact HB.out | apply below_alloc | apply pw_below_drewN | apply below_drew1) | exact HB.out)))); have n1_ := Aside0.mk (below_step (by repeat (first | (with_reducible first | exact HB.out | apply below_alloc | apply pw_below_drewN | apply below_drew1) | exact HB.out)) hb); clear HB; have HO236 := n0_; have HB := n1_; clear n0_ n1_; (try clear hb); (try clear hb2); (try clear hk); (try clear hi); (try clear ho0); obtain ⟨Ao9, co9, eo9⟩ := Kd.R_slice HO236.out; subst eo9) | ((with_reducible refine gate_callee (f := 12) rfl ?_); refine goesL_ (some 17) rfl rfl Try.func12 (by kernel_rfl) rfl #[.slice Ao9 t234.length co9] rfl (by (try simp only [List.map_toArray, List.map_cons, List.map_nil]); first | done | rfl | (simp only [List.length_drop, List.length_take]; rfl)) ?_; (with_reducible refine (stuff_Take.calls k _ _ t234 t237 t238 _ ?side1 ?side2 A6.out).mono ?_); (case side1 => repeat (first | exact (Kd.R_reads' HO236.out).2.2 | (with_reducible refine Kd.C_alloc ?_ _) | (with_reducible refine Kd.C_drewN ?_ _) | (with_reducible refine Kd.C_drew ?_))); (case side2 => exact (Kd.R_reads' HO236.out).2.1); rintro e w10 ⟨v239, rfl, ho0, hb⟩; refine ⟨_, rfl, ?_⟩; have n0_ := Aside0.mk (Kd.R_elder' (by (with_reducible repeat (first | apply Kd.R_alloc | apply Kd.R_drewN | apply Kd.R_drew)); exact HO236.out) (Kd.R_base ho0) hb); have n1_ := Aside0.mk (Kd.R_lower (Kd.R_new' ho0 (Kd.R_lt (by (with_reducible repeat (first | apply Kd.R_alloc | apply Kd.R_drewN | apply Kd.R_drew)); exact HO236.out))) (below_size (by repeat (first | (with_reducible first | exact HB.out | apply below_alloc | apply pw_below_drewN | apply below_drew1) | exact HB.out)))); have n2_ := Aside0.mk (below_step (by repeat (first | (with_reducible first | exact HB.out | apply below_alloc | apply pw_below_drewN | apply below_drew1) | exact HB.out)) hb); clear HO236; clear HB; have HO236 := n0_; have HO240 := n1_; have HB := n2_; clear n0_ n1_ n2_; (try clear hb); (try clear hb2); (try clear hk); (try clear hi); (try clear ho0)))
    (try simp only [Act.put, List.setIfInBounds_toArray, List.set_cons_zero, List.set_cons_succ])
    go_cut [45] (fun v45 wc => ∃ (kq : Nat) (x45_6 : Bool), v45 = .bool x45_6 ∧ Aside0 (jackstaylaw02_StuffBack.j0 kq t234 x45_6 = some r) ∧ Aside0 (kq ≤ k) ∧ Aside0 (Kd.R Kd.bool 4 wc w.heap.size (fun _ => True) (.slice Ao9 t234.length co9) t234) ∧ Aside0 (Below w.heap.size w wc))
    case first =>
      have H := HC7.out
      clear HC7
      by_cases c11 : t238 = (-1)
      · rw [if_pos c11] at H
        have c11b0 : (t238 == (-1)) = true := beq_iff_eq.mpr c11
        have c11b1 : (t238 != (-1)) = false := bne_eq_false_iff_eq.mpr c11
        clear c11
        (first | rw [c11b0] | (simp only [i64_w, i32_w]; rw [c11b0]) | skip)
        replace H := Option.bind_eq_some_iff.mp H
        obtain ⟨t241, A120, H⟩ := H
        replace H : (if t241 = true then (if (t234.length : Int) < (l0.length : Int) then (jackstaylaw02_StuffBack.j0 k t234 true) else (jackstaylaw02_StuffBack.j0 k t234 (decide ((wrap64 ((t234.length : Int) - (l0.length : Int))) > (wrap64 ((l0.length : Int) / 4)))))) else (jackstaylaw02_StuffBack.j0 k t234 true)) = some r := H
        have A12 := Aside0.mk A120
        clear A120
        by_cases c13 : t241 = true
        · subst c13
          have H1 : (if (t234.length : Int) < (l0.length : Int) then (jackstaylaw02_StuffBack.j0 k t234 true) else (jackstaylaw02_StuffBack.j0 k t234 (decide ((wrap64 ((t234.length : Int) - (l0.length : Int))) > (wrap64 ((l0.length : Int) / 4)))))) = some r := by rw [if_pos rfl] at H; exact H
          clear H
          have H := H1
          clear H1
          by_cases c14 : (t234.length : Int) < (l0.length : Int)
          · rw [if_pos c14] at H
            have c14b0 : decide ((t234.length : Int) < (l0.length : Int)) = true := decide_eq_true c14
            have c14b1 : decide (t234.length < l0.length) = true := decide_eq_true (Int.ofNat_lt.mp c14)
            clear c14
            have H' := Aside0.mk H
            clear H
            obtain ⟨Ao15, co15, eo15⟩ := Kd.R_slice HO240.out
            subst eo15
            go_wp2_with (first | (go_at_call 14; (with_reducible refine (jackstaylow_Same.calls k _ _ t237 _ _ l0 true _ ?side1 ?side2 ?side3 ?side4 A12.out).mono ?_); (case side1 => repeat (first | exact (Kd.R_reads' HO240.out).2.2 | (with_reducible refine Kd.C_alloc ?_ _) | (with_reducible refine Kd.C_drewN ?_ _) | (with_reducible refine Kd.C_drew ?_))); (case side2 => exact (Kd.R_reads' HO240.out).2.1); (case side3 => repeat (first | exact (Kd.C_below HR0.out HB.out) | (with_reducible refine Kd.C_alloc ?_ _) | (with_reducible refine Kd.C_drewN ?_ _) | (with_reducible refine Kd.C_drew ?_))); (case side4 => exact HC0.out); rintro e w' ⟨rfl, ⟨nd, rfl⟩⟩))
            go_meet
            case rel => exact ⟨_, (true), (by first | rfl | (simp; done) | (simp [*]; done)), H', ⟨by first | omega | exact Nat.le_refl _⟩, ⟨by (with_reducible repeat (first | apply Kd.R_alloc | apply Kd.R_drewN | apply Kd.R_drew)); exact Kd.R_mono HO236.out (fun _ hk => trivial)⟩, ⟨by repeat (first | (with_reducible first | exact HB.out | apply below_alloc | apply pw_below_drewN | apply below_drew1) | exact HB.out)⟩⟩
          · rw [if_neg c14] at H
            have c14b0 : decide ((t234.length : Int) < (l0.length : Int)) = false := decide_eq_false c14
            have c14b1 : decide (t234.length < l0.length) = false := decide_eq_false (fun h => c14 (Int.ofNat_lt.mpr h))
            clear c14
            have H' := Aside0.mk H
            clear H
            obtain ⟨Ao16, co16, eo16⟩ := Kd.R_slice HO240.out
            subst eo16
            go_wp2_with (first | (go_at_call 14; (with_reducible refine (jackstaylow_Same.calls k _ _ t237 _ _ l0 true _ ?side1 ?side2 ?side3 ?side4 A12.out).mono ?_); (case side1 => repeat (first | exact (Kd.R_reads' HO240.out).2.2 | (with_reducible refine Kd.C_alloc ?_ _) | (with_reducible refine Kd.C_drewN ?_ _) | (with_reducible refine Kd.C_drew ?_))); (case side2 => exact (Kd.R_reads' HO240.out).2.1); (case side3 => repeat (first | exact (Kd.C_below HR0.out HB.out) | (with_reducible refine Kd.C_alloc ?_ _) | (with_reducible refine Kd.C_drewN ?_ _) | (with_reducible refine Kd.C_drew ?_))); (case side4 => exact HC0.out); rintro e w' ⟨rfl, ⟨nd, rfl⟩⟩))
            go_meet
            case rel => exact ⟨_, (decide ((wrap64 ((t234.length : Int) - (l0.length : Int))) > (wrap64 ((l0.length : Int) / 4)))), (by first | rfl | (simp; done) | (simp [*]; done)), H', ⟨by first | omega | exact Nat.le_refl _⟩, ⟨by (with_reducible repeat (first | apply Kd.R_alloc | apply Kd.R_drewN | apply Kd.R_drew)); exact Kd.R_mono HO236.out (fun _ hk => trivial)⟩, ⟨by repeat (first | (with_reducible first | exact HB.out | apply below_alloc | apply pw_below_drewN | apply below_drew1) | exact HB.out)⟩⟩
        · replace c13 := Bool.eq_false_iff.mpr c13
          subst c13
          have H1 : (jackstaylaw02_StuffBack.j0 k t234 true) = some r := by rw [if_neg (show ¬ (false = true) by decide)] at H; exact H
          clear H
          have H := H1
          clear H1
          have H' := Aside0.mk H
          clear H
          obtain ⟨Ao17, co17, eo17⟩ := Kd.R_slice HO240.out
          subst eo17
          go_wp2_with (first | (go_at_call 14; (with_reducible refine (jackstaylow_Same.calls k _ _ t237 _ _ l0 false _ ?side1 ?side2 ?side3 ?side4 A12.out).mono ?_); (case side1 => repeat (first | exact (Kd.R_reads' HO240.out).2.2 | (with_reducible refine Kd.C_alloc ?_ _) | (with_reducible refine Kd.C_drewN ?_ _) | (with_reducible refine Kd.C_drew ?_))); (case side2 => exact (Kd.R_reads' HO240.out).2.1); (case side3 => repeat (first | exact (Kd.C_below HR0.out HB.out) | (with_reducible refine Kd.C_alloc ?_ _) | (with_reducible refine Kd.C_drewN ?_ _) | (with_reducible refine Kd.C_drew ?_))); (case side4 => exact HC0.out); rintro e w' ⟨rfl, ⟨nd, rfl⟩⟩))
          go_meet
          case rel => exact ⟨_, (true), (by first | rfl | (simp; done) | (simp [*]; done)), H', ⟨by first | omega | exact Nat.le_refl _⟩, ⟨by (with_reducible repeat (first | apply Kd.R_alloc | apply Kd.R_drewN | apply Kd.R_drew)); exact Kd.R_mono HO236.out (fun _ hk => trivial)⟩, ⟨by repeat (first | (with_reducible first | exact HB.out | apply below_alloc | apply pw_below_drewN | apply below_drew1) | exact HB.out)⟩⟩
      · rw [if_neg c11] at H
        have c11b0 : (t238 == (-1)) = false := beq_eq_false_iff_ne.mpr c11
        have c11b1 : (t238 != (-1)) = true := bne_iff_ne.mpr c11
        (first | rw [c11b0] | (simp only [i64_w, i32_w]; rw [c11b0]) | skip)
        have H' := Aside0.mk H
        clear H
        go_wp2
        go_meet
        case rel => exact ⟨_, (true), (by first | rfl | (simp; done) | (simp [*]; done)), H', ⟨by first | omega | exact Nat.le_refl _⟩, ⟨by (with_reducible repeat (first | apply Kd.R_alloc | apply Kd.R_drewN | apply Kd.R_drew)); exact Kd.R_mono HO236.out (fun _ hk => trivial)⟩, ⟨by repeat (first | (with_reducible first | exact HB.out | apply below_alloc | apply pw_below_drewN | apply below_drew1) | exact HB.out)⟩⟩
    case rest =>
      clear HC7
      try clear c1
      try clear c2
      try clear c2b0
      try clear c2b1
      try clear p2
      try clear c4
      try clear p6
      try clear c7
      try clear c11
      try clear c11b0
      try clear c11b1
      try clear c12
      try clear c13
      try clear c14
      try clear c14b0
      try clear c14b1
      try clear c15
      obtain ⟨kq, x45_6, rfl, HA, HJ6, HO_3, HB⟩ := hcut
      cases kq with
      | zero => exact absurd HA.out (by simp [jackstaylaw02_StuffBack.j0])
      | succ kj6 =>
        have H := HA.out
        clear HA
        simp only [jackstaylaw02_StuffBack.j0] at H
        by_cases c18 : x45_6 = true
        · subst c18
          have H1 : (some false) = some r := by rw [if_pos rfl] at H; exact H
          clear H
          have H := H1
          clear H1
          obtain rfl := Option.some.inj H
          go_wp2
          go_ret
          exact ⟨by first | rfl | (simp [errW_none, errW_some] <;> rfl) | (simp [*, errW_none, errW_some] <;> rfl), by repeat (first | (with_reducible first | exact HB.out | apply below_alloc | apply pw_below_drewN | apply below_drew1) | exact HB.out)⟩
        · replace c18 := Bool.eq_false_iff.mpr c18
          subst c18
          have H1 : (jackstaylaw02_StuffBack.l0 kj6 t234 0 t234 (t234.length : Int) 0) = some r := by rw [if_neg (show ¬ (false = true) by decide)] at H; exact H
          clear H
          have H := H1
          clear H1
          have H' := Aside0.mk H
          clear H
          go_wp2
          go_loopg [6, 48] kj6 (fun kq v6 v48 w' => ∃ (x6_2 : Int) (x48_2 : Int), v6 = .int .i64 x6_2 ∧ v48 = .int .i64 x48_2 ∧ Aside0 (jackstaylaw02_StuffBack.l0 kq t234 x6_2 t234 (t234.length : Int) x48_2 = some r) ∧ Aside0 (kq ≤ kj6) ∧ Aside0 (Kd.R Kd.bool 4 w' w.heap.size (fun _ => True) (.slice Ao9 t234.length co9) t234) ∧ Aside0 (Kd.R Kd.bool 4 w' w.heap.size (fun _ => True) (.slice Ao9 t234.length co9) t234) ∧ Aside0 (Below w.heap.size w w'))
          case atStart => exact ⟨(0), (0), (by first | rfl | (simp; done) | (simp [*]; done)), (by first | rfl | (simp; done) | (simp [*]; done)), H', ⟨Nat.le_refl _⟩, ⟨by (with_reducible repeat (first | apply Kd.R_alloc | apply Kd.R_drewN | apply Kd.R_drew)); exact HO_3.out⟩, ⟨by (with_reducible repeat (first | apply Kd.R_alloc | apply Kd.R_drewN | apply Kd.R_drew)); exact HO_3.out⟩, ⟨by repeat (first | (with_reducible first | exact HB.out | apply below_alloc | apply pw_below_drewN | apply below_drew1) | exact HB.out)⟩⟩
          case round =>
            clear H'
            try clear c1
            try clear c2
            try clear c2b0
            try clear c2b1
            try clear p2
            try clear c4
            try clear p6
            try clear c7
            try clear c11
            try clear c11b0
            try clear c11b1
            try clear c12
            try clear c13
            try clear c14
            try clear c14b0
            try clear c14b1
            try clear c15
            try clear c18
            try clear p2
            try clear p6
            obtain ⟨x6_2, x48_2, rfl, rfl, HA, HK2, HO_3, HO_46, HB⟩ := hrel
            cases gk with
            | zero => exact absurd HA.out (by simp [jackstaylaw02_StuffBack.l0])
            | succ k2 =>
              have H := HA.out
              clear HA
              simp only [jackstaylaw02_StuffBack.l0] at H
              by_cases c19 : x48_2 < (t234.length : Int)
              · rw [if_pos c19] at H
                have c19b0 : decide (x48_2 < (t234.length : Int)) = true := decide_eq_true c19
                clear c19
                by_cases c20 : 0 ≤ x48_2
                · rw [if_pos c20] at H
                  have c20b0 : decide (0 ≤ x48_2) = true := decide_eq_true c20
                  clear c20
                  by_cases c21 : x48_2 < (t234.length : Int)
                  · rw [if_pos c21] at H
                    have c21b0 : decide (x48_2 < (t234.length : Int)) = true := decide_eq_true c21
                    clear c21
                    have HC22 := Aside0.mk H
                    clear H
                    have p243 : 0 ≤ (x48_2 : Int) := of_decide_eq_true (by first | (with_reducible assumption) | assumption)
                    have q243 : x48_2 < (t234.length : Int) := of_decide_eq_true (by first | (with_reducible assumption) | assumption)
                    obtain ⟨ad243, e243, hx243_0⟩ := Kd.at_bool (Kd.R_reads' HO_46.out).2.2 x48_2 p243 q243
                    cases e243
                    replace p243 := eq_true p243
                    replace q243 := eq_true q243
                    go_upto_region 11 with (fail)
                    go_cut [63] (fun v63 wc => ∃ (kq : Nat) (x63_21 : Bool), v63 = .bool x63_21 ∧ Aside0 (jackstaylaw02_StuffBack.j2 kq t234 x6_2 t234 (t234.length : Int) x48_2 x63_21 = some r) ∧ Aside0 (kq ≤ k2) ∧ Aside0 (Kd.R Kd.bool 4 wc w.heap.size (fun _ => True) (.slice (some ad243) t234.length co9) t234) ∧ Aside0 (Kd.R Kd.bool 4 wc w.heap.size (fun _ => True) (.slice (some ad243) t234.length co9) t234) ∧ Aside0 (Below w.heap.size w wc))
                    case first =>
                      have H := HC22.out
                      clear HC22
                      by_cases c23 : x48_2 > 0
                      · rw [if_pos c23] at H
                        have c23b0 : decide (0 < x48_2) = true := decide_eq_true c23
                        clear c23
                        (first | rw [c23b0] | (simp only [i64_w, i32_w]; rw [c23b0]) | skip)
                        obtain ⟨ji24, hji24⟩ : ∃ j_ : Int, (wrap64 (x48_2 - 1)) = j_ := ⟨_, rfl⟩
                        replace H : (if 0 ≤ (ji24) then (if (ji24) < (t234.length : Int) then (jackstaylaw02_StuffBack.j2 k2 t234 x6_2 t234 (t234.length : Int) x48_2 ((rdOf false t234 x48_2) == (rdOf false t234 (ji24)))) else (none)) else (none)) = some r := by first | (rw [hji24] at H; exact H) | (simp only [hji24] at H ⊢; exact H)
                        have hji24w : (IntKind.i64.wrap (x48_2 - 1)) = ji24 := (i64_w _).trans hji24
                        by_cases c25 : 0 ≤ (ji24)
                        · rw [if_pos c25] at H
                          have c25b0 : decide (0 ≤ (ji24)) = true := decide_eq_true c25
                          clear c25
                          by_cases c26 : (ji24) < (t234.length : Int)
                          · rw [if_pos c26] at H
                            have c26b0 : decide ((ji24) < (t234.length : Int)) = true := decide_eq_true c26
                            clear c26
                            have H' := Aside0.mk H
                            clear H
                            have p244 : 0 ≤ ((ji24) : Int) := of_decide_eq_true (by first | (with_reducible assumption) | assumption)
                            have q244 : (ji24) < (t234.length : Int) := of_decide_eq_true (by first | (with_reducible assumption) | assumption)
                            obtain ⟨ad244, e244, hx244_0⟩ := Kd.at_bool (Kd.R_reads' HO_3.out).2.2 (ji24) p244 q244
                            obtain rfl : ad243 = ad244 := (by injection e244)
                            replace p244 := eq_true p244
                            replace q244 := eq_true q244
                            go_wp2
                            go_meet
                            case rel => exact ⟨_, (((rdOf false t234 x48_2) == (rdOf false t234 (ji24)))), (by first | rfl | (simp; done) | (simp only [← hji24] <;> (first | rfl | simp)) | (simp [*]; done)), H', ⟨by have := HJ6.out; have := HK2.out; first | omega | exact Nat.le_refl _⟩, ⟨by (with_reducible repeat (first | apply Kd.R_alloc | apply Kd.R_drewN | apply Kd.R_drew)); exact HO_3.out⟩, ⟨by (with_reducible repeat (first | apply Kd.R_alloc | apply Kd.R_drewN | apply Kd.R_drew)); exact HO_46.out⟩, ⟨by repeat (first | (with_reducible first | exact HB.out | apply below_alloc | apply pw_below_drewN | apply below_drew1) | exact HB.out)⟩⟩
                          · rw [if_neg c26] at H
                            exact absurd H (by simp)
                        · rw [if_neg c25] at H
                          exact absurd H (by simp)
                      · rw [if_neg c23] at H
                        have c23b0 : decide (0 < x48_2) = false := decide_eq_false c23
                        clear c23
                        (first | rw [c23b0] | (simp only [i64_w, i32_w]; rw [c23b0]) | skip)
                        have H' := Aside0.mk H
                        clear H
                        go_wp2
                        go_meet
                        case rel => exact ⟨_, (false), (by first | rfl | (simp; done) | (simp [*]; done)), H', ⟨by have := HJ6.out; have := HK2.out; first | omega | exact Nat.le_refl _⟩, ⟨by (with_reducible repeat (first | apply Kd.R_alloc | apply Kd.R_drewN | apply Kd.R_drew)); exact HO_3.out⟩, ⟨by (with_reducible repeat (first | apply Kd.R_alloc | apply Kd.R_drewN | apply Kd.R_drew)); exact HO_46.out⟩, ⟨by repeat (first | (with_reducible first | exact HB.out | apply below_alloc | apply pw_below_drewN | apply below_drew1) | exact HB.out)⟩⟩
                    case rest =>
                      clear HC22
                      try clear c1
                      try clear c2
                      try clear c2b0
                      try clear c2b1
                      try clear p2
                      try clear q2
                      try clear hx2
                      try clear c4
                      try clear p6
                      try clear c7
                      try clear c11
                      try clear c11b0
                      try clear c11b1
                      try clear c12
                      try clear c13
                      try clear c14
                      try clear c14b0
                      try clear c14b1
                      try clear c15
                      try clear c18
                      try clear c19
                      try clear c19b0
                      try clear c20
                      try clear c20b0
                      try clear c21
                      try clear c21b0
                      try clear c23
                      try clear c23b0
                      try clear p24
                      try clear q24
                      try clear hx24
                      try clear c25
                      try clear c25b0
                      try clear c26
                      try clear c26b0
                      try clear hx243_0
                      try clear hx244_0
                      try clear p2
                      try clear p243
                      try clear p244
                      try clear p6
                      try clear q243
                      try clear q244
                      obtain ⟨kq, x63_21, rfl, HA, HJ21, HO_3, HO_46, HB⟩ := hcut
                      cases kq with
                      | zero => exact absurd HA.out (by simp [jackstaylaw02_StuffBack.j2])
                      | succ kj21 =>
                        have H := HA.out
                        clear HA
                        simp only [jackstaylaw02_StuffBack.j2] at H
                        by_cases c27 : x63_21 = true
                        · subst c27
                          have H1 : (if (wrap64 (x6_2 + 1)) > 5 then (some false) else (jackstaylaw02_StuffBack.l0 kj21 t234 (wrap64 (x6_2 + 1)) t234 (t234.length : Int) (wrap64 (x48_2 + 1)))) = some r := by rw [if_pos rfl] at H; exact H
                          clear H
                          have H := H1
                          clear H1
                          by_cases c28 : (wrap64 (x6_2 + 1)) > 5
                          · rw [if_pos c28] at H
                            have c28b0 : decide (5 < (wrap64 (x6_2 + 1))) = true := decide_eq_true c28
                            clear c28
                            obtain rfl := Option.some.inj H
                            go_wp2
                            go_ret
                            exact ⟨by first | rfl | (simp [errW_none, errW_some] <;> rfl) | (simp [*, errW_none, errW_some] <;> rfl), by repeat (first | (with_reducible first | exact HB.out | apply below_alloc | apply pw_below_drewN | apply below_drew1) | exact HB.out)⟩
                          · rw [if_neg c28] at H
                            have c28b0 : decide (5 < (wrap64 (x6_2 + 1))) = false := decide_eq_false c28
                            clear c28
                            have H' := Aside0.mk H
                            clear H
                            go_wp2
                            go_roundg kj21
                            case measure => have := HJ6.out; have := HK2.out; have := HJ21.out; omega
                            case rel => exact ⟨(wrap64 (x6_2 + 1)), (wrap64 (x48_2 + 1)), (by first | rfl | (simp; done) | (simp [*]; done)), (by first | rfl | (simp; done) | (simp [*]; done)), H', ⟨by have := HJ6.out; have := HK2.out; have := HJ21.out; omega⟩, ⟨by (with_reducible repeat (first | apply Kd.R_alloc | apply Kd.R_drewN | apply Kd.R_drew)); exact HO_3.out⟩, ⟨by (with_reducible repeat (first | apply Kd.R_alloc | apply Kd.R_drewN | apply Kd.R_drew)); exact HO_46.out⟩, ⟨by repeat (first | (with_reducible first | exact HB.out | apply below_alloc | apply pw_below_drewN | apply below_drew1) | exact HB.out)⟩⟩
                        · replace c27 := Bool.eq_false_iff.mpr c27
                          subst c27
                          have H1 : (jackstaylaw02_StuffBack.l0 kj21 t234 1 t234 (t234.length : Int) (wrap64 (x48_2 + 1))) = some r := by rw [if_neg (show ¬ (false = true) by decide)] at H; exact H
                          clear H
                          have H := H1
                          clear H1
                          have H' := Aside0.mk H
                          clear H
                          go_wp2
                          go_roundg kj21
                          case measure => have := HJ6.out; have := HK2.out; have := HJ21.out; omega
                          case rel => exact ⟨(1), (wrap64 (x48_2 + 1)), (by first | rfl | (simp; done) | (simp [*]; done)), (by first | rfl | (simp; done) | (simp [*]; done)), H', ⟨by have := HJ6.out; have := HK2.out; have := HJ21.out; omega⟩, ⟨by (with_reducible repeat (first | apply Kd.R_alloc | apply Kd.R_drewN | apply Kd.R_drew)); exact HO_3.out⟩, ⟨by (with_reducible repeat (first | apply Kd.R_alloc | apply Kd.R_drewN | apply Kd.R_drew)); exact HO_46.out⟩, ⟨by repeat (first | (with_reducible first | exact HB.out | apply below_alloc | apply pw_below_drewN | apply below_drew1) | exact HB.out)⟩⟩
                  · rw [if_neg c21] at H
                    exact absurd H (by simp)
                · rw [if_neg c20] at H
                  exact absurd H (by simp)
              · rw [if_neg c19] at H
                have c19b0 : decide (x48_2 < (t234.length : Int)) = false := decide_eq_false c19
                clear c19
                replace H := Option.bind_eq_some_iff.mp H
                obtain ⟨t242, A290, H⟩ := H
                replace H : (some t242) = some r := H
                have A29 := Aside0.mk A290
                clear A290
                obtain rfl := Option.some.inj H
                go_wp2_with (first | ((with_reducible refine gate_callee (f := 7) rfl ?_); refine goesL_ (some 69) rfl rfl Try.func7 (by kernel_rfl) rfl #[] rfl (by (try simp only [List.map_toArray, List.map_cons, List.map_nil]); first | done | rfl | (simp only [List.length_drop, List.length_take]; rfl)) ?_; (with_reducible refine (jackstaylaw02_awake.calls k2  t242 _ A29.out).mono ?_); rintro e w30 ⟨rfl, hb⟩; refine ⟨_, rfl, ?_⟩; have n0_ := Aside0.mk (Kd.R_below (by (with_reducible repeat (first | apply Kd.R_alloc | apply Kd.R_drewN | apply Kd.R_drew)); exact HO_3.out) hb); have n1_ := Aside0.mk (Kd.R_below (by (with_reducible repeat (first | apply Kd.R_alloc | apply Kd.R_drewN | apply Kd.R_drew)); exact HO_46.out) hb); have n2_ := Aside0.mk (below_step (by repeat (first | (with_reducible first | exact HB.out | apply below_alloc | apply pw_below_drewN | apply below_drew1) | exact HB.out)) hb); clear HO_3; clear HO_46; clear HB; have HO_3 := n0_; have HO_46 := n1_; have HB := n2_; clear n0_ n1_ n2_; (try clear hb); (try clear hb2); (try clear hk); (try clear hi)))
                go_ret
                exact ⟨by first | rfl | (simp [errW_none, errW_some] <;> rfl) | (simp [*, errW_none, errW_some] <;> rfl), by repeat (first | (with_reducible first | exact HB.out | apply below_alloc | apply pw_below_drewN | apply below_drew1) | exact HB.out)⟩

end Go.Proofs.Ytjpnkapjnnighaa.P
