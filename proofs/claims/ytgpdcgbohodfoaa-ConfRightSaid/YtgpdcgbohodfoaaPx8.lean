/- What Go functions of this seat answer: their contracts, printed by a program of this session's; Lean checks each. -/
import Derived.Test.YtgpdcgbohodfoaaPx0
import Derived.Test.YtgpdcgbohodfoaaPx1
import Derived.Test.YtgpdcgbohodfoaaPx2
import Derived.Test.YtgpdcgbohodfoaaPx3
import Derived.Test.YtgpdcgbohodfoaaPx4
import Derived.Test.YtgpdcgbohodfoaaPx5
namespace Go.Proofs.Ytgpdcgbohodfoaa.P
open Go.RowKit Go.Proofs.YtgpdcgbohodfoaaW.PrintWords Go.Proofs.YtgpdcgbohodfoaaW.PrintLast Go.Proofs.YtgpdcgbohodfoaaW.PrintMore
attribute [local go_sem] max2_int min2_int max_two min_two max_three min_three max_four min_four   -- for this text's walks alone
set_option linter.unusedVariables false
set_option linter.unusedSimpArgs false

attribute [local go_sem high] eqA23
/-! ### jackstaylaw06_ConfRight: function 5 -/
mutual
def jackstaylaw06_ConfRight.l0 : Nat → List (S34) → Int → Int → Int → Int → Bool → Int → Int → Option (Bool)
  | 0, _, _, _, _, _, _, _, _ => none
  | k + 1, x17, x18, x19, x238000, x238001, x238002, x238003, x238004 => if x19 < x18 then (if 0 ≤ x19 then (if x19 < (x17.length : Int) then (if ((rd_T34 x17 x19).f0) = 0 then ((conf_Bit.f k x238000 x238001 x238002 x238003 x238004 ((rd_T34 x17 x19).f1)).bind fun bt251 => (if x238002 = true then (jackstaylaw06_ConfRight.j2 k x17 x18 x19 bt251.1 bt251.2.1 bt251.2.2.1 bt251.2.2.2.1 bt251.2.2.2.2) else (if (!(bt251.1 == x238000) || (!(bt251.2.1 == x238001) || (!(bt251.2.2.1 == x238002) || (!(bt251.2.2.2.1 == x238003) || (!(bt251.2.2.2.2 == x238004)))))) = true then (some false) else (jackstaylaw06_ConfRight.j2 k x17 x18 x19 bt251.1 bt251.2.1 bt251.2.2.1 bt251.2.2.2.1 bt251.2.2.2.2)))) else ((conf_Event.f k x238000 x238001 x238002 x238003 x238004 ((rd_T34 x17 x19).f0)).bind fun bt256 => (if ((bt256.2.2.2.2.2 == 0) != (decide (((rd_T34 x17 x19).f0) ≤ 9))) = true then (jackstaylaw06_ConfRight.j1 k x17 x18 x19 true ((rd_T34 x17 x19).f0) ((rd_T34 x17 x19).f1) ((rd_T34 x17 x19).f2) x238000 x238001 x238002 x238003 x238004 bt256.1 bt256.2.1 bt256.2.2.1 bt256.2.2.2.1 bt256.2.2.2.2.1) else (if bt256.2.2.2.2.2 = 0 then (jackstaylaw06_ConfRight.j1 k x17 x18 x19 false ((rd_T34 x17 x19).f0) ((rd_T34 x17 x19).f1) ((rd_T34 x17 x19).f2) x238000 x238001 x238002 x238003 x238004 bt256.1 bt256.2.1 bt256.2.2.1 bt256.2.2.2.1 bt256.2.2.2.2.1) else (jackstaylaw06_ConfRight.j1 k x17 x18 x19 (!(bt256.1 == x238000) || (!(bt256.2.1 == x238001) || (!(bt256.2.2.1 == x238002) || (!(bt256.2.2.2.1 == x238003) || (!(bt256.2.2.2.2.1 == x238004)))))) ((rd_T34 x17 x19).f0) ((rd_T34 x17 x19).f1) ((rd_T34 x17 x19).f2) x238000 x238001 x238002 x238003 x238004 bt256.1 bt256.2.1 bt256.2.2.1 bt256.2.2.2.1 bt256.2.2.2.2.1))))) else (none)) else (none)) else ((jackstaylaw06_awake.f k).bind fun t247 => (some t247))
def jackstaylaw06_ConfRight.j2 : Nat → List (S34) → Int → Int → Int → Int → Bool → Int → Int → Option (Bool)
  | 0, _, _, _, _, _, _, _, _ => none
  | k + 1, x17, x18, x19, x238000, x238001, x238002, x238003, x238004 => (conf_Right.f x238000 x238001 x238002 x238003 x238004).bind fun t263 => (if t263 = true then ((conf_Mode.f k x238000 x238001 x238002 x238003 x238004).bind fun t264 => (if ((t264 == 2) != x238002) = true then (some false) else (jackstaylaw06_ConfRight.l0 k x17 x18 (wrap64 (x19 + 1)) x238000 x238001 x238002 x238003 x238004))) else (some false))
def jackstaylaw06_ConfRight.j1 : Nat → List (S34) → Int → Int → Bool → Int → Bool → Int → Int → Int → Bool → Int → Int → Int → Int → Bool → Int → Int → Option (Bool)
  | 0, _, _, _, _, _, _, _, _, _, _, _, _, _, _, _, _, _ => none
  | k + 1, x17, x18, x19, x60, x250000, x250001, x250002, x251000, x251001, x251002, x251003, x251004, x263000, x263001, x263002, x263003, x263004 => if x60 = true then (some false) else (if x250000 ≥ 5 then (if x251002 = true then (if (false != false) = true then (some false) else (jackstaylaw06_ConfRight.j2 k x17 x18 x19 x263000 x263001 x263002 x263003 x263004)) else (if x250000 ≤ 7 then (if (x263002 != (decide (x251000 > 247))) = true then (some false) else (jackstaylaw06_ConfRight.j2 k x17 x18 x19 x263000 x263001 x263002 x263003 x263004)) else (if (x263002 != false) = true then (some false) else (jackstaylaw06_ConfRight.j2 k x17 x18 x19 x263000 x263001 x263002 x263003 x263004)))) else (if x251002 = true then (if (false != false) = true then (some false) else (jackstaylaw06_ConfRight.j2 k x17 x18 x19 x263000 x263001 x263002 x263003 x263004)) else (if (x263002 != false) = true then (some false) else (jackstaylaw06_ConfRight.j2 k x17 x18 x19 x263000 x263001 x263002 x263003 x263004))))
end
def jackstaylaw06_ConfRight.f (k : Nat) (a0_0 : Int) (a0_1 : Int) (a0_2 : Bool) (a0_3 : Int) (a0_4 : Int) (l1 : List (S34)) : Option (Bool) := (jackstaylaw06_begun.f a0_0 a0_1 a0_2 a0_3 a0_4).bind fun bt238 => (if 0 ≤ (mn (l1.length : Int) 100) then (if (mn (l1.length : Int) 100) ≤ (l1.length : Int) then ((some (l1.take ((mn (l1.length : Int) 100) : Int).toNat : List (S34))).bind fun y243 => (jackstaylaw06_ConfRight.l0 k y243 (y243.length : Int) 0 bt238.1 bt238.2.1 bt238.2.2.1 bt238.2.2.2.1 bt238.2.2.2.2)) else (none)) else (none))
theorem jackstaylaw06_ConfRight.mono_l : ∀ k, (∀ y0 y1 y2 y3 y4 y5 y6 y7, LeO (jackstaylaw06_ConfRight.l0 k y0 y1 y2 y3 y4 y5 y6 y7) (jackstaylaw06_ConfRight.l0 (k + 1) y0 y1 y2 y3 y4 y5 y6 y7)) ∧ (∀ y0 y1 y2 y3 y4 y5 y6 y7, LeO (jackstaylaw06_ConfRight.j2 k y0 y1 y2 y3 y4 y5 y6 y7) (jackstaylaw06_ConfRight.j2 (k + 1) y0 y1 y2 y3 y4 y5 y6 y7)) ∧ (∀ y0 y1 y2 y3 y4 y5 y6 y7 y8 y9 y10 y11 y12 y13 y14 y15 y16, LeO (jackstaylaw06_ConfRight.j1 k y0 y1 y2 y3 y4 y5 y6 y7 y8 y9 y10 y11 y12 y13 y14 y15 y16) (jackstaylaw06_ConfRight.j1 (k + 1) y0 y1 y2 y3 y4 y5 y6 y7 y8 y9 y10 y11 y12 y13 y14 y15 y16))
  | 0 => ⟨fun _ _ _ _ _ _ _ _ r h => by simp [jackstaylaw06_ConfRight.l0] at h, fun _ _ _ _ _ _ _ _ r h => by simp [jackstaylaw06_ConfRight.j2] at h, fun _ _ _ _ _ _ _ _ _ _ _ _ _ _ _ _ _ r h => by simp [jackstaylaw06_ConfRight.j1] at h⟩
  | k + 1 => by
    obtain ⟨ih0, ih1, ih2⟩ := jackstaylaw06_ConfRight.mono_l k
    refine ⟨?_, ?_, ?_⟩
    · intro y0 y1 y2 y3 y4 y5 y6 y7
      unfold jackstaylaw06_ConfRight.l0
      repeat' first
      | (with_reducible exact ih0 _ _ _ _ _ _ _ _)
      | (with_reducible exact ih1 _ _ _ _ _ _ _ _)
      | (with_reducible exact ih2 _ _ _ _ _ _ _ _ _ _ _ _ _ _ _ _ _)
      | (with_reducible exact conf_Bit.mono _ _ _ _ _ _ _)
      | (with_reducible exact conf_Event.mono _ _ _ _ _ _ _)
      | (with_reducible exact conf_Mode.mono _ _ _ _ _ _)
      | (with_reducible exact jackstaylaw06_awake.mono _)
      | (with_reducible exact LeO.refl _)
      | (with_reducible exact LeO.none _)
      | (with_reducible refine LeO.ite ?_ ?_)
      | (with_reducible refine LeO.bind ?_ (fun _ => ?_))
      | exact ih0 _ _ _ _ _ _ _ _
      | exact ih1 _ _ _ _ _ _ _ _
      | exact ih2 _ _ _ _ _ _ _ _ _ _ _ _ _ _ _ _ _
      | exact conf_Bit.mono _ _ _ _ _ _ _
      | exact conf_Event.mono _ _ _ _ _ _ _
      | exact conf_Mode.mono _ _ _ _ _ _
      | exact jackstaylaw06_awake.mono _
      | exact LeO.none _
      | refine LeO.ite ?_ ?_
      | refine LeO.bind ?_ (fun _ => ?_)
    · intro y0 y1 y2 y3 y4 y5 y6 y7
      unfold jackstaylaw06_ConfRight.j2
      repeat' first
      | (with_reducible exact ih0 _ _ _ _ _ _ _ _)
      | (with_reducible exact ih1 _ _ _ _ _ _ _ _)
      | (with_reducible exact ih2 _ _ _ _ _ _ _ _ _ _ _ _ _ _ _ _ _)
      | (with_reducible exact conf_Bit.mono _ _ _ _ _ _ _)
      | (with_reducible exact conf_Event.mono _ _ _ _ _ _ _)
      | (with_reducible exact conf_Mode.mono _ _ _ _ _ _)
      | (with_reducible exact jackstaylaw06_awake.mono _)
      | (with_reducible exact LeO.refl _)
      | (with_reducible exact LeO.none _)
      | (with_reducible refine LeO.ite ?_ ?_)
      | (with_reducible refine LeO.bind ?_ (fun _ => ?_))
      | exact ih0 _ _ _ _ _ _ _ _
      | exact ih1 _ _ _ _ _ _ _ _
      | exact ih2 _ _ _ _ _ _ _ _ _ _ _ _ _ _ _ _ _
      | exact conf_Bit.mono _ _ _ _ _ _ _
      | exact conf_Event.mono _ _ _ _ _ _ _
      | exact conf_Mode.mono _ _ _ _ _ _
      | exact jackstaylaw06_awake.mono _
      | exact LeO.none _
      | refine LeO.ite ?_ ?_
      | refine LeO.bind ?_ (fun _ => ?_)
    · intro y0 y1 y2 y3 y4 y5 y6 y7 y8 y9 y10 y11 y12 y13 y14 y15 y16
      unfold jackstaylaw06_ConfRight.j1
      repeat' first
      | (with_reducible exact ih0 _ _ _ _ _ _ _ _)
      | (with_reducible exact ih1 _ _ _ _ _ _ _ _)
      | (with_reducible exact ih2 _ _ _ _ _ _ _ _ _ _ _ _ _ _ _ _ _)
      | (with_reducible exact conf_Bit.mono _ _ _ _ _ _ _)
      | (with_reducible exact conf_Event.mono _ _ _ _ _ _ _)
      | (with_reducible exact conf_Mode.mono _ _ _ _ _ _)
      | (with_reducible exact jackstaylaw06_awake.mono _)
      | (with_reducible exact LeO.refl _)
      | (with_reducible exact LeO.none _)
      | (with_reducible refine LeO.ite ?_ ?_)
      | (with_reducible refine LeO.bind ?_ (fun _ => ?_))
      | exact ih0 _ _ _ _ _ _ _ _
      | exact ih1 _ _ _ _ _ _ _ _
      | exact ih2 _ _ _ _ _ _ _ _ _ _ _ _ _ _ _ _ _
      | exact conf_Bit.mono _ _ _ _ _ _ _
      | exact conf_Event.mono _ _ _ _ _ _ _
      | exact conf_Mode.mono _ _ _ _ _ _
      | exact jackstaylaw06_awake.mono _
      | exact LeO.none _
      | refine LeO.ite ?_ ?_
      | refine LeO.bind ?_ (fun _ => ?_)
theorem jackstaylaw06_ConfRight.mono : ∀ a0 a1 a2 a3 a4 a5 k, LeO (jackstaylaw06_ConfRight.f k a0 a1 a2 a3 a4 a5) (jackstaylaw06_ConfRight.f (k + 1) a0 a1 a2 a3 a4 a5) := by
  intro a0 a1 a2 a3 a4 a5 k
  obtain ⟨ih0, ih1, ih2⟩ := jackstaylaw06_ConfRight.mono_l k
  unfold jackstaylaw06_ConfRight.f
  repeat' first
      | (with_reducible exact ih0 _ _ _ _ _ _ _ _)
      | (with_reducible exact ih1 _ _ _ _ _ _ _ _)
      | (with_reducible exact ih2 _ _ _ _ _ _ _ _ _ _ _ _ _ _ _ _ _)
      | (with_reducible exact conf_Bit.mono _ _ _ _ _ _ _)
      | (with_reducible exact conf_Event.mono _ _ _ _ _ _ _)
      | (with_reducible exact conf_Mode.mono _ _ _ _ _ _)
      | (with_reducible exact jackstaylaw06_awake.mono _)
      | (with_reducible exact LeO.refl _)
      | (with_reducible exact LeO.none _)
      | (with_reducible refine LeO.ite ?_ ?_)
      | (with_reducible refine LeO.bind ?_ (fun _ => ?_))
      | exact ih0 _ _ _ _ _ _ _ _
      | exact ih1 _ _ _ _ _ _ _ _
      | exact ih2 _ _ _ _ _ _ _ _ _ _ _ _ _ _ _ _ _
      | exact conf_Bit.mono _ _ _ _ _ _ _
      | exact conf_Event.mono _ _ _ _ _ _ _
      | exact conf_Mode.mono _ _ _ _ _ _
      | exact jackstaylaw06_awake.mono _
      | exact LeO.none _
      | refine LeO.ite ?_ ?_
      | refine LeO.bind ?_ (fun _ => ?_)
def jackstaylaw06_ConfRight.T17 : Bool × List (List Nat × List Nat) := (true, [([], []), ([0], [0]), ([1], [1]), ([2, 1], [2]), ([3], [3]), ([4, 3, 3], [3, 4]), ([5, 3], [3, 5]), ([3], [3]), ([7, 3], [3, 7]), ([6, 8, 3], [3, 6, 8]), ([3, 9], [3, 9])])
def jackstaylaw06_ConfRight.B17 : List Nat := [0, 1, 3, 7, 15, 31, 63, 15, 143, 511, 1023]
theorem jackstaylaw06_ConfRight.tab17 : rtab .any (opsOf Try.f5 17) = jackstaylaw06_ConfRight.T17 := by kernel_rfl
theorem jackstaylaw06_ConfRight.bits17 : waitsOk jackstaylaw06_ConfRight.T17.2 jackstaylaw06_ConfRight.B17 = true := by kernel_rfl
set_option maxHeartbeats 8000000 in
set_option maxRecDepth 100000 in
theorem jackstaylaw06_ConfRight.calls (k : Nat) (a0_0 : Int) (a0_1 : Int) (a0_2 : Bool) (a0_3 : Int) (a0_4 : Int) (A1 : Option Addr) (c1 : Nat) (l1 : List (S34)) (r : Bool) (w : World) (hr1 : Kd.C k34 w A1 l1.length l1) (hc1 : l1.length ≤ c1) (h : jackstaylaw06_ConfRight.f k a0_0 a0_1 a0_2 a0_3 a0_4 l1 = some r) (hT_ : r = true) :
    Calls Try.prog 5 #[.agg #[.int .i64 a0_0, .int .i64 a0_1, .bool a0_2, .int .i64 a0_3, .int .i64 a0_4], .slice A1 l1.length c1] w fun e w' => e = .returned (.bool r) ∧ Below w.heap.size w w' := by
  have hu23 := Try.underlying23
  have hu34 := Try.underlying34
  have HR1 := Aside0.mk hr1
  have HC1 := Aside0.mk hc1
  clear hr1 hc1
  have HB := Aside0.mk (Below.refl w.heap.size w)
  have H : ((jackstaylaw06_begun.f a0_0 a0_1 a0_2 a0_3 a0_4).bind fun bt238 => (if 0 ≤ (mn (l1.length : Int) 100) then (if (mn (l1.length : Int) 100) ≤ (l1.length : Int) then ((some (l1.take ((mn (l1.length : Int) 100) : Int).toNat : List (S34))).bind fun y243 => (jackstaylaw06_ConfRight.l0 k y243 (y243.length : Int) 0 bt238.1 bt238.2.1 bt238.2.2.1 bt238.2.2.2.1 bt238.2.2.2.2)) else (none)) else (none))) = some r := h
  clear h
  replace H := Option.bind_eq_some_iff.mp H
  obtain ⟨⟨t238, t239, t240, t241, t242⟩, A30, H⟩ := H
  replace H : (if 0 ≤ (mn (l1.length : Int) 100) then (if (mn (l1.length : Int) 100) ≤ (l1.length : Int) then ((some (l1.take ((mn (l1.length : Int) 100) : Int).toNat : List (S34))).bind fun y243 => (jackstaylaw06_ConfRight.l0 k y243 (y243.length : Int) 0 t238 t239 t240 t241 t242)) else (none)) else (none)) = some r := H
  have A3 := Aside0.mk A30
  clear A30
  obtain ⟨ji4, hji4⟩ : ∃ j_ : Int, (mn (l1.length : Int) 100) = j_ := ⟨_, rfl⟩
  replace H : (if 0 ≤ (ji4) then (if (ji4) ≤ (l1.length : Int) then ((some (l1.take ((ji4) : Int).toNat : List (S34))).bind fun y243 => (jackstaylaw06_ConfRight.l0 k y243 (y243.length : Int) 0 t238 t239 t240 t241 t242)) else (none)) else (none)) = some r := by first | (rw [hji4] at H; exact H) | (simp only [hji4] at H ⊢; exact H)
  (try rw [hji4] at A3)
  (try (have hji4h : ji4 ≤ 100 := by (rw [← hji4]; unfold mn; (repeat' split) <;> omega)))
  (try (have hji4g : ji4 ≤ 64 := by omega))
  (try (have hji4l : 0 ≤ ji4 := by (rw [← hji4]; unfold mn; (repeat' split) <;> omega)))
  (try (have hji4m : 0 ≤ ji4 := by omega))
  have hji4_ : (if 100 < (l1.length : Int) then 100 else (l1.length : Int)) = ji4 := hji4
  by_cases c5 : 0 ≤ (ji4)
  · rw [if_pos c5] at H
    have c5b0 := eq_true c5
    have c5b1 : decide (0 ≤ (ji4)) = true := decide_eq_true c5
    clear c5
    by_cases c6 : (ji4) ≤ (l1.length : Int)
    · rw [if_pos c6] at H
      have c6b0 := eq_true c6
      have c6b1 : decide ((ji4) ≤ (l1.length : Int)) = true := decide_eq_true c6
      clear c6
      obtain ⟨y243, hy243⟩ : ∃ y_ : List (S34), y_ = (l1.take ((ji4) : Int).toNat) := ⟨_, rfl⟩
      replace H : (jackstaylaw06_ConfRight.l0 k y243 (y243.length : Int) 0 t238 t239 t240 t241 t242) = some r := by first | (rw [hy243]; with_reducible exact H) | (have H2_ := (Option.bind_some _ _).symm.trans H; rw [hy243]; with_reducible exact H2_) | (have H2_ := (Option.bind_some _ _).symm.trans H; with_reducible exact H2_) | with_reducible exact H | (rw [hy243]; exact H) | exact H
      have Ny243 := Aside0.mk hy243
      clear hy243
      have H' := Aside0.mk H
      clear H
      go_enter Try.func5, Try.ntmps5
      go_wp2_with (first | ((with_reducible refine gate_dst (N := 2) rfl ?_); refine box_event ?hg (N := 2) ?hd (cs := #[.int .i64 a0_0, .int .i64 a0_1, .bool a0_2, .int .i64 a0_3, .int .i64 a0_4]) (t := 23) ?hr ?_; (case hd => rfl); (case hg => rfl); (case hr => first | (go_simp; done) | (go_simp; rfl)); intro gb237 hg w7 hbox hb; have n0_ := Aside0.mk (below_step (by repeat (first | (with_reducible first | exact HB.out | apply below_alloc | apply pw_below_drewN | apply below_drew1) | exact HB.out)) hb); have n1_ := Aside0.mk (hbox); have n2_ := Aside0.mk ((by rw [hg]; exact (below_size (by repeat (first | (with_reducible first | exact HB.out | apply below_alloc | apply pw_below_drewN | apply below_drew1) | exact HB.out))) : w.heap.size ≤ gb237)); have n3_ := Aside0.mk ((by rw [hg]; exact (below_size (by repeat (first | (with_reducible first | exact HB.out | apply below_alloc | apply pw_below_drewN | apply below_drew1) | exact HB.out))) : w.heap.size ≤ gb237)); clear HB; have HB := n0_; have BK237 := n1_; have GW237 := n2_; have GE237 := n3_; clear n0_ n1_ n2_ n3_; clear hb hbox hg; have hcz8_0 : w7.cell? ⟨gb237, 0, none⟩ = some (.int .i64 a0_0) := (blk_cell BK237.out 0).trans rfl; have hcz8_1 : w7.cell? ⟨gb237, 1, none⟩ = some (.int .i64 a0_1) := (blk_cell BK237.out 1).trans rfl; have hcz8_2 : w7.cell? ⟨gb237, 2, none⟩ = some (.bool a0_2) := (blk_cell BK237.out 2).trans rfl; have hcz8_3 : w7.cell? ⟨gb237, 3, none⟩ = some (.int .i64 a0_3) := (blk_cell BK237.out 3).trans rfl; have hcz8_4 : w7.cell? ⟨gb237, 4, none⟩ = some (.int .i64 a0_4) := (blk_cell BK237.out 4).trans rfl; have hfz8_0 := blk_frozen BK237.out 0; have hfz8_1 := blk_frozen BK237.out 1; have hfz8_2 := blk_frozen BK237.out 2; have hfz8_3 := blk_frozen BK237.out 3; have hfz8_4 := blk_frozen BK237.out 4) | ((with_reducible refine gate_callee (f := 19) rfl ?_); refine goesL_ (some 12) rfl rfl Try.func19 (by kernel_rfl) rfl #[.agg #[.int .i64 a0_0, .int .i64 a0_1, .bool a0_2, .int .i64 a0_3, .int .i64 a0_4]] rfl (by (try simp only [List.map_toArray, List.map_cons, List.map_nil]); first | done | rfl | (simp only [List.length_drop, List.length_take]; rfl)) ?_; (with_reducible refine (jackstaylaw06_begun.calls a0_0 a0_1 a0_2 a0_3 a0_4 t238 t239 t240 t241 t242 _ A3.out).mono ?_); rintro e w9 ⟨rfl, hb⟩; refine ⟨_, rfl, ?_⟩; have n0_ := Aside0.mk (blk_below (g := gb237) (o := .cells #[.int .i64 a0_0, .int .i64 a0_1, .bool a0_2, .int .i64 a0_3, .int .i64 a0_4] 23 (0, 0)) (by (with_reducible repeat (first | refine blk_drewN ?_ _ | refine blk_drew ?_ | refine blk_alloc ?_ _)); exact BK237.out) hb); have n1_ := Aside0.mk (below_step (by repeat (first | (with_reducible first | exact HB.out | apply below_alloc | apply pw_below_drewN | apply below_drew1 | refine below_set ?_ GE237.out) | exact HB.out)) hb); clear BK237; clear HB; have BK237 := n0_; have HB := n1_; clear n0_ n1_; (try clear hb); (try clear hb2); (try clear hk); (try clear hi); have hcz10_0 : w9.cell? ⟨gb237, 0, none⟩ = some (.int .i64 a0_0) := (blk_cell BK237.out 0).trans rfl; have hcz10_1 : w9.cell? ⟨gb237, 1, none⟩ = some (.int .i64 a0_1) := (blk_cell BK237.out 1).trans rfl; have hcz10_2 : w9.cell? ⟨gb237, 2, none⟩ = some (.bool a0_2) := (blk_cell BK237.out 2).trans rfl; have hcz10_3 : w9.cell? ⟨gb237, 3, none⟩ = some (.int .i64 a0_3) := (blk_cell BK237.out 3).trans rfl; have hcz10_4 : w9.cell? ⟨gb237, 4, none⟩ = some (.int .i64 a0_4) := (blk_cell BK237.out 4).trans rfl; have hfz10_0 := blk_frozen BK237.out 0; have hfz10_1 := blk_frozen BK237.out 1; have hfz10_2 := blk_frozen BK237.out 2; have hfz10_3 := blk_frozen BK237.out 3; have hfz10_4 := blk_frozen BK237.out 4) | ((with_reducible refine gate_store (t := 23) (p := 2) rfl ?_); refine store_event (t := 23) (p := 2) (v := ?vo_w11) (w1 := (((((w9.setCell ⟨gb237, 0, none⟩ (.int .i64 t238)).setCell ⟨gb237, 1, none⟩ (.int .i64 t239)).setCell ⟨gb237, 2, none⟩ (.bool t240)).setCell ⟨gb237, 3, none⟩ (.int .i64 t241)).setCell ⟨gb237, 4, none⟩ (.int .i64 t242))) ?hg ?ho ?hn ?hr ?_; (case ho => rfl); (case hg => rfl); (case hn => rfl); (case hr => first | (go_simp; done) | (go_simp; rfl)); intro w11 hw; have n0_ : Aside0 (w11.heap[gb237]? = some (.cells #[.int .i64 t238, .int .i64 t239, .bool t240, .int .i64 t241, .int .i64 t242] 23 (0, 0))) := ⟨(by rw [hw]; exact (by (with_reducible repeat (first | refine blk_drewN ?_ _ | refine blk_drew ?_ | refine blk_alloc ?_ _)); refine blk_put (cs := #[.int .i64 t238, .int .i64 t239, .bool t240, .int .i64 t241, .int .i64 a0_4]) ?_ 4 _ (by first | rfl | (subst_vars; rfl)); (with_reducible repeat (first | refine blk_drewN ?_ _ | refine blk_drew ?_ | refine blk_alloc ?_ _)); refine blk_put (cs := #[.int .i64 t238, .int .i64 t239, .bool t240, .int .i64 a0_3, .int .i64 a0_4]) ?_ 3 _ (by first | rfl | (subst_vars; rfl)); (with_reducible repeat (first | refine blk_drewN ?_ _ | refine blk_drew ?_ | refine blk_alloc ?_ _)); refine blk_put (cs := #[.int .i64 t238, .int .i64 t239, .bool a0_2, .int .i64 a0_3, .int .i64 a0_4]) ?_ 2 _ (by first | rfl | (subst_vars; rfl)); (with_reducible repeat (first | refine blk_drewN ?_ _ | refine blk_drew ?_ | refine blk_alloc ?_ _)); refine blk_put (cs := #[.int .i64 t238, .int .i64 a0_1, .bool a0_2, .int .i64 a0_3, .int .i64 a0_4]) ?_ 1 _ (by first | rfl | (subst_vars; rfl)); (with_reducible repeat (first | refine blk_drewN ?_ _ | refine blk_drew ?_ | refine blk_alloc ?_ _)); refine blk_put (cs := #[.int .i64 a0_0, .int .i64 a0_1, .bool a0_2, .int .i64 a0_3, .int .i64 a0_4]) ?_ 0 _ (by first | rfl | (subst_vars; rfl)); (with_reducible repeat (first | refine blk_drewN ?_ _ | refine blk_drew ?_ | refine blk_alloc ?_ _)); exact BK237.out))⟩; have n1_ : Aside0 (Below w.heap.size w w11) := ⟨(by rw [hw]; exact (by repeat (first | (with_reducible first | exact HB.out | apply below_alloc | apply pw_below_drewN | apply below_drew1 | refine below_set ?_ GE237.out) | exact HB.out)))⟩; clear hw; clear BK237; clear HB; have BK237 := n0_; have HB := n1_; clear n0_ n1_; have q12 : ((ji4) : Int) ≤ ((l1.length : Int) : Int) := of_decide_eq_true (by first | (with_reducible assumption) | assumption); obtain ⟨i012, hi012, _, hsz12, _⟩ := info_parts info34; have hroom12 : l1.length ≤ c1 := HC1.out; have hC12 : Kd.C k34 _ A1 l1.length l1 := HR1.out; have hcut12 := cut_to (P := Try.prog) 32 34 .i64 Try.underlying32 hi012 A1 l1.length c1 (ji4) (of_decide_eq_true (by first | (with_reducible assumption) | assumption)) q12 hroom12; have hr12 := Kd.C_take (m := ((ji4) : Int).toNat) hC12 (by omega); have hy12 : y243.length = ((ji4) : Int).toNat := (by rw [Ny243.out, List.length_take]; omega); rw [← Ny243.out] at hr12; rw [← hy12] at hcut12; have HR246 := Aside0.mk hr12; have HC246 := Aside0.mk (show y243.length ≤ c1 from by omega); clear hr12 hC12 hroom12 hi012 hsz12; have KY12 := Aside0.mk hy12; clear hy12; replace q12 := eq_true q12))
      go_loopg [19] k (fun kq v19 w' => ∃ (x19_1 : Int) (x238000_1 : Int) (x238001_1 : Int) (x238002_1 : Bool) (x238003_1 : Int) (x238004_1 : Int), v19 = .int .i64 x19_1 ∧ Aside0 (jackstaylaw06_ConfRight.l0 kq y243 (y243.length : Int) x19_1 x238000_1 x238001_1 x238002_1 x238003_1 x238004_1 = some r) ∧ Aside0 (kq ≤ k) ∧ Aside0 (w'.heap[gb237]? = some (.cells #[.int .i64 x238000_1, .int .i64 x238001_1, .bool x238002_1, .int .i64 x238003_1, .int .i64 x238004_1] 23 (0, 0))) ∧ Aside0 (Below w.heap.size w w'))
      case atStart => exact ⟨(0), (t238), (t239), (t240), (t241), (t242), (by first | rfl | (simp; done) | (simp [*]; done)), H', ⟨Nat.le_refl _⟩, ⟨by (with_reducible repeat (first | refine blk_drewN ?_ _ | refine blk_drew ?_ | refine blk_alloc ?_ _)); exact BK237.out⟩, ⟨by repeat (first | (with_reducible first | exact HB.out | apply below_alloc | apply pw_below_drewN | apply below_drew1 | refine below_set ?_ GE237.out) | exact HB.out)⟩⟩
      case round =>
        clear H'
        try clear c1
        try clear q1
        try clear p2
        try clear c5
        try clear c5b0
        try clear c5b1
        try clear c6
        try clear c6b0
        try clear c6b1
        try clear q12
        try clear hcz10_0
        try clear hcz10_1
        try clear hcz10_2
        try clear hcz10_3
        try clear hcz10_4
        try clear hcz8_0
        try clear hcz8_1
        try clear hcz8_2
        try clear hcz8_3
        try clear hcz8_4
        try clear hfz10_0
        try clear hfz10_1
        try clear hfz10_2
        try clear hfz10_3
        try clear hfz10_4
        try clear hfz8_0
        try clear hfz8_1
        try clear hfz8_2
        try clear hfz8_3
        try clear hfz8_4
        try clear q12
        obtain ⟨x19_1, x238000_1, x238001_1, x238002_1, x238003_1, x238004_1, rfl, HA, HK1, BK237, HB⟩ := hrel
        cases gk with
        | zero => exact absurd HA.out (by simp [jackstaylaw06_ConfRight.l0])
        | succ k1 =>
          have H := HA.out
          clear HA
          simp only [jackstaylaw06_ConfRight.l0] at H
          by_cases c13 : x19_1 < (y243.length : Int)
          · rw [if_pos c13] at H
            have c13b0 : decide (x19_1 < (y243.length : Int)) = true := decide_eq_true c13
            clear c13
            by_cases c14 : 0 ≤ x19_1
            · rw [if_pos c14] at H
              have c14b0 : decide (0 ≤ x19_1) = true := decide_eq_true c14
              clear c14
              by_cases c15 : x19_1 < (y243.length : Int)
              · rw [if_pos c15] at H
                have c15b0 : decide (x19_1 < (y243.length : Int)) = true := decide_eq_true c15
                clear c15
                have HC16 := Aside0.mk H
                clear H
                have p248 : 0 ≤ (x19_1 : Int) := of_decide_eq_true (by first | (with_reducible assumption) | assumption)
                have q248 : x19_1 < (y243.length : Int) := of_decide_eq_true (by first | (with_reducible assumption) | assumption)
                obtain ⟨ad248, e248, hx248_0, hx248_1, hx248_2⟩ := at_T34 HR246.out x19_1 p248 q248
                cases e248
                (try replace hx248_0 := (HB.out.cell (World.block_lt_of_cell? w _ hx248_0)).trans hx248_0)
                (try replace hx248_1 := (HB.out.cell (World.block_lt_of_cell? w _ hx248_1)).trans hx248_1)
                (try replace hx248_2 := (HB.out.cell (World.block_lt_of_cell? w _ hx248_2)).trans hx248_2)
                replace p248 := eq_true p248
                replace q248 := eq_true q248
                (try (have q248z := q248; simp only [List.length_drop, List.length_take] at q248z))
                go_upto_if 26 with (first | ((with_reducible refine gate_dst (N := 6) rfl ?_); refine box_event ?hg (N := 6) ?hd (cs := #[.int .u8 0, .bool false, .int .u8 0]) (t := 34) ?hr ?_; (case hd => rfl); (case hg => rfl); (case hr => first | (go_simp; done) | (go_simp; rfl)); intro gb249 hg w17 hbox hb; have n0_ := Aside0.mk (blk_below (g := gb237) (o := .cells #[.int .i64 x238000_1, .int .i64 x238001_1, .bool x238002_1, .int .i64 x238003_1, .int .i64 x238004_1] 23 (0, 0)) (by (with_reducible repeat (first | refine blk_drewN ?_ _ | refine blk_drew ?_ | refine blk_alloc ?_ _)); exact BK237.out) hb); have n1_ := Aside0.mk (below_step (by repeat (first | (with_reducible first | exact HB.out | apply below_alloc | apply pw_below_drewN | apply below_drew1 | refine below_set ?_ GE237.out) | exact HB.out)) hb); have n2_ := Aside0.mk (hbox); have n3_ := Aside0.mk ((by rw [hg]; exact (below_size (by repeat (first | (with_reducible first | exact HB.out | apply below_alloc | apply pw_below_drewN | apply below_drew1 | refine below_set ?_ GE237.out) | exact HB.out))) : w.heap.size ≤ gb249)); have n4_ := Aside0.mk ((by rw [hg]; exact (below_size (by repeat (first | (with_reducible first | exact HB.out | apply below_alloc | apply pw_below_drewN | apply below_drew1 | refine below_set ?_ GE237.out) | exact HB.out))) : w.heap.size ≤ gb249)); have n5_ := Aside0.mk ((by rw [hg]; exact Nat.ne_of_lt (blk_lt (g := gb237) (o := .cells #[.int .i64 x238000_1, .int .i64 x238001_1, .bool x238002_1, .int .i64 x238003_1, .int .i64 x238004_1] 23 (0, 0)) (by (with_reducible repeat (first | refine blk_drewN ?_ _ | refine blk_drew ?_ | refine blk_alloc ?_ _)); exact BK237.out)) : gb237 ≠ gb249)); have n6_ := Aside0.mk ((by rw [hg]; exact Nat.ne_of_gt (blk_lt (g := gb237) (o := .cells #[.int .i64 x238000_1, .int .i64 x238001_1, .bool x238002_1, .int .i64 x238003_1, .int .i64 x238004_1] 23 (0, 0)) (by (with_reducible repeat (first | refine blk_drewN ?_ _ | refine blk_drew ?_ | refine blk_alloc ?_ _)); exact BK237.out)) : gb249 ≠ gb237)); clear BK237; clear HB; have BK237 := n0_; have HB := n1_; have BK249 := n2_; have GW249 := n3_; have GE249 := n4_; have NB237_249 := n5_; have NB249_237 := n6_; clear n0_ n1_ n2_ n3_ n4_ n5_ n6_; clear hb hbox hg; have hnb18 := NB249_237.out; have hnc18 := NB237_249.out; have hcz19_0 : w17.cell? ⟨gb249, 0, none⟩ = some (.int .u8 0) := (blk_cell BK249.out 0).trans rfl; have hcz19_1 : w17.cell? ⟨gb249, 1, none⟩ = some (.bool false) := (blk_cell BK249.out 1).trans rfl; have hcz19_2 : w17.cell? ⟨gb249, 2, none⟩ = some (.int .u8 0) := (blk_cell BK249.out 2).trans rfl; have hfz19_0 := blk_frozen BK249.out 0; have hfz19_1 := blk_frozen BK249.out 1; have hfz19_2 := blk_frozen BK249.out 2; have hcz20_0 : w17.cell? ⟨gb237, 0, none⟩ = some (.int .i64 x238000_1) := (blk_cell BK237.out 0).trans rfl; have hcz20_1 : w17.cell? ⟨gb237, 1, none⟩ = some (.int .i64 x238001_1) := (blk_cell BK237.out 1).trans rfl; have hcz20_2 : w17.cell? ⟨gb237, 2, none⟩ = some (.bool x238002_1) := (blk_cell BK237.out 2).trans rfl; have hcz20_3 : w17.cell? ⟨gb237, 3, none⟩ = some (.int .i64 x238003_1) := (blk_cell BK237.out 3).trans rfl; have hcz20_4 : w17.cell? ⟨gb237, 4, none⟩ = some (.int .i64 x238004_1) := (blk_cell BK237.out 4).trans rfl; have hfz20_0 := blk_frozen BK237.out 0; have hfz20_1 := blk_frozen BK237.out 1; have hfz20_2 := blk_frozen BK237.out 2; have hfz20_3 := blk_frozen BK237.out 3; have hfz20_4 := blk_frozen BK237.out 4) | ((with_reducible refine gate_dst (N := 7) rfl ?_); refine box_event ?hg (N := 7) ?hd (cs := #[.int .i64 0, .int .i64 0, .bool false, .int .i64 0, .int .i64 0]) (t := 23) ?hr ?_; (case hd => rfl); (case hg => rfl); (case hr => first | (go_simp; done) | (go_simp; rfl)); intro gb250 hg w21 hbox hb; have n0_ := Aside0.mk (blk_below (g := gb237) (o := .cells #[.int .i64 x238000_1, .int .i64 x238001_1, .bool x238002_1, .int .i64 x238003_1, .int .i64 x238004_1] 23 (0, 0)) (by (with_reducible repeat (first | refine blk_drewN ?_ _ | refine blk_drew ?_ | refine blk_alloc ?_ _)); refine blk_far ?_ NB237_249.out _; (with_reducible repeat (first | refine blk_drewN ?_ _ | refine blk_drew ?_ | refine blk_alloc ?_ _)); refine blk_far ?_ NB237_249.out _; (with_reducible repeat (first | refine blk_drewN ?_ _ | refine blk_drew ?_ | refine blk_alloc ?_ _)); refine blk_far ?_ NB237_249.out _; (with_reducible repeat (first | refine blk_drewN ?_ _ | refine blk_drew ?_ | refine blk_alloc ?_ _)); exact BK237.out) hb); have n1_ := Aside0.mk (blk_below (g := gb249) (o := .cells #[.int .u8 ((rd_T34 y243 x19_1).f0), .bool ((rd_T34 y243 x19_1).f1), .int .u8 ((rd_T34 y243 x19_1).f2)] 34 (0, 0)) (by (with_reducible repeat (first | refine blk_drewN ?_ _ | refine blk_drew ?_ | refine blk_alloc ?_ _)); refine blk_put (cs := #[.int .u8 ((rd_T34 y243 x19_1).f0), .bool ((rd_T34 y243 x19_1).f1), .int .u8 0]) ?_ 2 _ rfl; (with_reducible repeat (first | refine blk_drewN ?_ _ | refine blk_drew ?_ | refine blk_alloc ?_ _)); refine blk_put (cs := #[.int .u8 ((rd_T34 y243 x19_1).f0), .bool false, .int .u8 0]) ?_ 1 _ rfl; (with_reducible repeat (first | refine blk_drewN ?_ _ | refine blk_drew ?_ | refine blk_alloc ?_ _)); refine blk_put (cs := #[.int .u8 0, .bool false, .int .u8 0]) ?_ 0 _ rfl; (with_reducible repeat (first | refine blk_drewN ?_ _ | refine blk_drew ?_ | refine blk_alloc ?_ _)); exact BK249.out) hb); have n2_ := Aside0.mk (below_step (by repeat (first | (with_reducible first | exact HB.out | apply below_alloc | apply pw_below_drewN | apply below_drew1 | refine below_set ?_ GE237.out | refine below_set ?_ GE249.out) | exact HB.out)) hb); have n3_ := Aside0.mk (hbox); have n4_ := Aside0.mk ((by rw [hg]; exact (below_size (by repeat (first | (with_reducible first | exact HB.out | apply below_alloc | apply pw_below_drewN | apply below_drew1 | refine below_set ?_ GE237.out | refine below_set ?_ GE249.out) | exact HB.out))) : w.heap.size ≤ gb250)); have n5_ := Aside0.mk ((by rw [hg]; exact (below_size (by repeat (first | (with_reducible first | exact HB.out | apply below_alloc | apply pw_below_drewN | apply below_drew1 | refine below_set ?_ GE237.out | refine below_set ?_ GE249.out) | exact HB.out))) : w.heap.size ≤ gb250)); have n6_ := Aside0.mk ((by rw [hg]; exact Nat.ne_of_lt (blk_lt (g := gb237) (o := .cells #[.int .i64 x238000_1, .int .i64 x238001_1, .bool x238002_1, .int .i64 x238003_1, .int .i64 x238004_1] 23 (0, 0)) (by (with_reducible repeat (first | refine blk_drewN ?_ _ | refine blk_drew ?_ | refine blk_alloc ?_ _)); refine blk_far ?_ NB237_249.out _; (with_reducible repeat (first | refine blk_drewN ?_ _ | refine blk_drew ?_ | refine blk_alloc ?_ _)); refine blk_far ?_ NB237_249.out _; (with_reducible repeat (first | refine blk_drewN ?_ _ | refine blk_drew ?_ | refine blk_alloc ?_ _)); refine blk_far ?_ NB237_249.out _; (with_reducible repeat (first | refine blk_drewN ?_ _ | refine blk_drew ?_ | refine blk_alloc ?_ _)); exact BK237.out)) : gb237 ≠ gb250)); have n7_ := Aside0.mk ((by rw [hg]; exact Nat.ne_of_gt (blk_lt (g := gb237) (o := .cells #[.int .i64 x238000_1, .int .i64 x238001_1, .bool x238002_1, .int .i64 x238003_1, .int .i64 x238004_1] 23 (0, 0)) (by (with_reducible repeat (first | refine blk_drewN ?_ _ | refine blk_drew ?_ | refine blk_alloc ?_ _)); refine blk_far ?_ NB237_249.out _; (with_reducible repeat (first | refine blk_drewN ?_ _ | refine blk_drew ?_ | refine blk_alloc ?_ _)); refine blk_far ?_ NB237_249.out _; (with_reducible repeat (first | refine blk_drewN ?_ _ | refine blk_drew ?_ | refine blk_alloc ?_ _)); refine blk_far ?_ NB237_249.out _; (with_reducible repeat (first | refine blk_drewN ?_ _ | refine blk_drew ?_ | refine blk_alloc ?_ _)); exact BK237.out)) : gb250 ≠ gb237)); have n8_ := Aside0.mk ((by rw [hg]; exact Nat.ne_of_lt (blk_lt (g := gb249) (o := .cells #[.int .u8 ((rd_T34 y243 x19_1).f0), .bool ((rd_T34 y243 x19_1).f1), .int .u8 ((rd_T34 y243 x19_1).f2)] 34 (0, 0)) (by (with_reducible repeat (first | refine blk_drewN ?_ _ | refine blk_drew ?_ | refine blk_alloc ?_ _)); refine blk_put (cs := #[.int .u8 ((rd_T34 y243 x19_1).f0), .bool ((rd_T34 y243 x19_1).f1), .int .u8 0]) ?_ 2 _ rfl; (with_reducible repeat (first | refine blk_drewN ?_ _ | refine blk_drew ?_ | refine blk_alloc ?_ _)); refine blk_put (cs := #[.int .u8 ((rd_T34 y243 x19_1).f0), .bool false, .int .u8 0]) ?_ 1 _ rfl; (with_reducible repeat (first | refine blk_drewN ?_ _ | refine blk_drew ?_ | refine blk_alloc ?_ _)); refine blk_put (cs := #[.int .u8 0, .bool false, .int .u8 0]) ?_ 0 _ rfl; (with_reducible repeat (first | refine blk_drewN ?_ _ | refine blk_drew ?_ | refine blk_alloc ?_ _)); exact BK249.out)) : gb249 ≠ gb250)); have n9_ := Aside0.mk ((by rw [hg]; exact Nat.ne_of_gt (blk_lt (g := gb249) (o := .cells #[.int .u8 ((rd_T34 y243 x19_1).f0), .bool ((rd_T34 y243 x19_1).f1), .int .u8 ((rd_T34 y243 x19_1).f2)] 34 (0, 0)) (by (with_reducible repeat (first | refine blk_drewN ?_ _ | refine blk_drew ?_ | refine blk_alloc ?_ _)); refine blk_put (cs := #[.int .u8 ((rd_T34 y243 x19_1).f0), .bool ((rd_T34 y243 x19_1).f1), .int .u8 0]) ?_ 2 _ rfl; (with_reducible repeat (first | refine blk_drewN ?_ _ | refine blk_drew ?_ | refine blk_alloc ?_ _)); refine blk_put (cs := #[.int .u8 ((rd_T34 y243 x19_1).f0), .bool false, .int .u8 0]) ?_ 1 _ rfl; (with_reducible repeat (first | refine blk_drewN ?_ _ | refine blk_drew ?_ | refine blk_alloc ?_ _)); refine blk_put (cs := #[.int .u8 0, .bool false, .int .u8 0]) ?_ 0 _ rfl; (with_reducible repeat (first | refine blk_drewN ?_ _ | refine blk_drew ?_ | refine blk_alloc ?_ _)); exact BK249.out)) : gb250 ≠ gb249)); clear BK237; clear BK249; clear HB; have BK237 := n0_; have BK249 := n1_; have HB := n2_; have BK250 := n3_; have GW250 := n4_; have GE250 := n5_; have NB237_250 := n6_; have NB250_237 := n7_; have NB249_250 := n8_; have NB250_249 := n9_; clear n0_ n1_ n2_ n3_ n4_ n5_ n6_ n7_ n8_ n9_; clear hb hbox hg; have hnb22 := NB250_237.out; have hnc22 := NB237_250.out; have hnb23 := NB250_249.out; have hnc23 := NB249_250.out; have hcz24_0 : w21.cell? ⟨gb250, 0, none⟩ = some (.int .i64 0) := (blk_cell BK250.out 0).trans rfl; have hcz24_1 : w21.cell? ⟨gb250, 1, none⟩ = some (.int .i64 0) := (blk_cell BK250.out 1).trans rfl; have hcz24_2 : w21.cell? ⟨gb250, 2, none⟩ = some (.bool false) := (blk_cell BK250.out 2).trans rfl; have hcz24_3 : w21.cell? ⟨gb250, 3, none⟩ = some (.int .i64 0) := (blk_cell BK250.out 3).trans rfl; have hcz24_4 : w21.cell? ⟨gb250, 4, none⟩ = some (.int .i64 0) := (blk_cell BK250.out 4).trans rfl; have hfz24_0 := blk_frozen BK250.out 0; have hfz24_1 := blk_frozen BK250.out 1; have hfz24_2 := blk_frozen BK250.out 2; have hfz24_3 := blk_frozen BK250.out 3; have hfz24_4 := blk_frozen BK250.out 4; have hcz25_0 : w21.cell? ⟨gb249, 0, none⟩ = some (.int .u8 ((rd_T34 y243 x19_1).f0)) := (blk_cell BK249.out 0).trans rfl; have hcz25_1 : w21.cell? ⟨gb249, 1, none⟩ = some (.bool ((rd_T34 y243 x19_1).f1)) := (blk_cell BK249.out 1).trans rfl; have hcz25_2 : w21.cell? ⟨gb249, 2, none⟩ = some (.int .u8 ((rd_T34 y243 x19_1).f2)) := (blk_cell BK249.out 2).trans rfl; have hfz25_0 := blk_frozen BK249.out 0; have hfz25_1 := blk_frozen BK249.out 1; have hfz25_2 := blk_frozen BK249.out 2))
                (try simp only [Act.put, List.setIfInBounds_toArray, List.set_cons_zero, List.set_cons_succ])
                go_cut [] (fun wc => ∃ (kq : Nat) (x238000_15 : Int) (x238001_15 : Int) (x238002_15 : Bool) (x238003_15 : Int) (x238004_15 : Int), Aside0 (jackstaylaw06_ConfRight.j2 kq y243 (y243.length : Int) x19_1 x238000_15 x238001_15 x238002_15 x238003_15 x238004_15 = some r) ∧ Aside0 (kq ≤ k1) ∧ Aside0 (wc.heap[gb237]? = some (.cells #[.int .i64 x238000_15, .int .i64 x238001_15, .bool x238002_15, .int .i64 x238003_15, .int .i64 x238004_15] 23 (0, 0))) ∧ Aside0 (wc.heap[gb249]? = some (.cells #[.int .u8 ((rd_T34 y243 x19_1).f0), .bool ((rd_T34 y243 x19_1).f1), .int .u8 ((rd_T34 y243 x19_1).f2)] 34 (0, 0))) ∧ Aside0 (wc.heap[gb250]? = some (.cells #[.int .i64 x238000_1, .int .i64 x238001_1, .bool x238002_1, .int .i64 x238003_1, .int .i64 x238004_1] 23 (0, 0))) ∧ Aside0 (Below w.heap.size w wc))
                case first =>
                  have H := HC16.out
                  clear HC16
                  by_cases c26 : ((rd_T34 y243 x19_1).f0) = 0
                  · rw [if_pos c26] at H
                    have c26b0 : (((rd_T34 y243 x19_1).f0) == 0) = true := beq_iff_eq.mpr c26
                    have c26b1 : (((rd_T34 y243 x19_1).f0) != 0) = false := bne_eq_false_iff_eq.mpr c26
                    clear c26
                    (first | rw [c26b0] | (simp only [i64_w, i32_w]; rw [c26b0]) | skip)
                    replace H := Option.bind_eq_some_iff.mp H
                    obtain ⟨⟨t251, t252, t253, t254, t255⟩, A270, H⟩ := H
                    replace H : (if x238002_1 = true then (jackstaylaw06_ConfRight.j2 k1 y243 (y243.length : Int) x19_1 t251 t252 t253 t254 t255) else (if (!(t251 == x238000_1) || (!(t252 == x238001_1) || (!(t253 == x238002_1) || (!(t254 == x238003_1) || (!(t255 == x238004_1)))))) = true then (some false) else (jackstaylaw06_ConfRight.j2 k1 y243 (y243.length : Int) x19_1 t251 t252 t253 t254 t255))) = some r := H
                    have A27 := Aside0.mk A270
                    clear A270
                    by_cases c28 : x238002_1 = true
                    · subst c28
                      have H1 : (jackstaylaw06_ConfRight.j2 k1 y243 (y243.length : Int) x19_1 t251 t252 t253 t254 t255) = some r := by rw [if_pos rfl] at H; exact H
                      clear H
                      have H := H1
                      clear H1
                      have H' := Aside0.mk H
                      clear H
                      have hnb29 := NB237_249.out
                      have hnc29 := NB249_237.out
                      have hnb30 := NB237_250.out
                      have hnc30 := NB250_237.out
                      have hcz31_0 : w21.cell? ⟨gb237, 0, none⟩ = some (.int .i64 x238000_1) := (blk_cell BK237.out 0).trans rfl
                      have hcz31_1 : w21.cell? ⟨gb237, 1, none⟩ = some (.int .i64 x238001_1) := (blk_cell BK237.out 1).trans rfl
                      have hcz31_2 : w21.cell? ⟨gb237, 2, none⟩ = some (.bool true) := (blk_cell BK237.out 2).trans rfl
                      have hcz31_3 : w21.cell? ⟨gb237, 3, none⟩ = some (.int .i64 x238003_1) := (blk_cell BK237.out 3).trans rfl
                      have hcz31_4 : w21.cell? ⟨gb237, 4, none⟩ = some (.int .i64 x238004_1) := (blk_cell BK237.out 4).trans rfl
                      have hfz31_0 := blk_frozen BK237.out 0
                      have hfz31_1 := blk_frozen BK237.out 1
                      have hfz31_2 := blk_frozen BK237.out 2
                      have hfz31_3 := blk_frozen BK237.out 3
                      have hfz31_4 := blk_frozen BK237.out 4
                      have hnb32 := NB249_250.out
                      have hnc32 := NB250_249.out
                      have hcz33_0 : w21.cell? ⟨gb249, 0, none⟩ = some (.int .u8 ((rd_T34 y243 x19_1).f0)) := (blk_cell BK249.out 0).trans rfl
                      have hcz33_1 : w21.cell? ⟨gb249, 1, none⟩ = some (.bool ((rd_T34 y243 x19_1).f1)) := (blk_cell BK249.out 1).trans rfl
                      have hcz33_2 : w21.cell? ⟨gb249, 2, none⟩ = some (.int .u8 ((rd_T34 y243 x19_1).f2)) := (blk_cell BK249.out 2).trans rfl
                      have hfz33_0 := blk_frozen BK249.out 0
                      have hfz33_1 := blk_frozen BK249.out 1
                      have hfz33_2 := blk_frozen BK249.out 2
                      go_wp2_with (first | ((with_reducible refine gate_callee (f := 16) rfl ?_); refine goesL_ (some 30) rfl rfl Try.func16 (by kernel_rfl) rfl #[.agg #[.int .i64 x238000_1, .int .i64 x238001_1, .bool true, .int .i64 x238003_1, .int .i64 x238004_1], .bool ((rd_T34 y243 x19_1).f1)] rfl (by (try simp only [List.map_toArray, List.map_cons, List.map_nil]); first | done | rfl | (simp only [List.length_drop, List.length_take]; rfl)) ?_; (with_reducible refine (conf_Bit.calls k1 x238000_1 x238001_1 true x238003_1 x238004_1 ((rd_T34 y243 x19_1).f1) t251 t252 t253 t254 t255 _ A27.out).mono ?_); rintro e w34 ⟨rfl, hb⟩; refine ⟨_, rfl, ?_⟩; have n0_ := Aside0.mk (blk_below (g := gb237) (o := .cells #[.int .i64 x238000_1, .int .i64 x238001_1, .bool true, .int .i64 x238003_1, .int .i64 x238004_1] 23 (0, 0)) (by (with_reducible repeat (first | refine blk_drewN ?_ _ | refine blk_drew ?_ | refine blk_alloc ?_ _)); refine blk_far ?_ NB237_250.out _; (with_reducible repeat (first | refine blk_drewN ?_ _ | refine blk_drew ?_ | refine blk_alloc ?_ _)); refine blk_far ?_ NB237_250.out _; (with_reducible repeat (first | refine blk_drewN ?_ _ | refine blk_drew ?_ | refine blk_alloc ?_ _)); refine blk_far ?_ NB237_250.out _; (with_reducible repeat (first | refine blk_drewN ?_ _ | refine blk_drew ?_ | refine blk_alloc ?_ _)); refine blk_far ?_ NB237_250.out _; (with_reducible repeat (first | refine blk_drewN ?_ _ | refine blk_drew ?_ | refine blk_alloc ?_ _)); refine blk_far ?_ NB237_250.out _; (with_reducible repeat (first | refine blk_drewN ?_ _ | refine blk_drew ?_ | refine blk_alloc ?_ _)); exact BK237.out) hb); have n1_ := Aside0.mk (blk_below (g := gb249) (o := .cells #[.int .u8 ((rd_T34 y243 x19_1).f0), .bool ((rd_T34 y243 x19_1).f1), .int .u8 ((rd_T34 y243 x19_1).f2)] 34 (0, 0)) (by (with_reducible repeat (first | refine blk_drewN ?_ _ | refine blk_drew ?_ | refine blk_alloc ?_ _)); refine blk_far ?_ NB249_250.out _; (with_reducible repeat (first | refine blk_drewN ?_ _ | refine blk_drew ?_ | refine blk_alloc ?_ _)); refine blk_far ?_ NB249_250.out _; (with_reducible repeat (first | refine blk_drewN ?_ _ | refine blk_drew ?_ | refine blk_alloc ?_ _)); refine blk_far ?_ NB249_250.out _; (with_reducible repeat (first | refine blk_drewN ?_ _ | refine blk_drew ?_ | refine blk_alloc ?_ _)); refine blk_far ?_ NB249_250.out _; (with_reducible repeat (first | refine blk_drewN ?_ _ | refine blk_drew ?_ | refine blk_alloc ?_ _)); refine blk_far ?_ NB249_250.out _; (with_reducible repeat (first | refine blk_drewN ?_ _ | refine blk_drew ?_ | refine blk_alloc ?_ _)); exact BK249.out) hb); have n2_ := Aside0.mk (blk_below (g := gb250) (o := .cells #[.int .i64 x238000_1, .int .i64 x238001_1, .bool true, .int .i64 x238003_1, .int .i64 x238004_1] 23 (0, 0)) (by (with_reducible repeat (first | refine blk_drewN ?_ _ | refine blk_drew ?_ | refine blk_alloc ?_ _)); refine blk_put (cs := #[.int .i64 x238000_1, .int .i64 x238001_1, .bool true, .int .i64 x238003_1, .int .i64 0]) ?_ 4 _ rfl; (with_reducible repeat (first | refine blk_drewN ?_ _ | refine blk_drew ?_ | refine blk_alloc ?_ _)); refine blk_put (cs := #[.int .i64 x238000_1, .int .i64 x238001_1, .bool true, .int .i64 0, .int .i64 0]) ?_ 3 _ rfl; (with_reducible repeat (first | refine blk_drewN ?_ _ | refine blk_drew ?_ | refine blk_alloc ?_ _)); refine blk_put (cs := #[.int .i64 x238000_1, .int .i64 x238001_1, .bool false, .int .i64 0, .int .i64 0]) ?_ 2 _ rfl; (with_reducible repeat (first | refine blk_drewN ?_ _ | refine blk_drew ?_ | refine blk_alloc ?_ _)); refine blk_put (cs := #[.int .i64 x238000_1, .int .i64 0, .bool false, .int .i64 0, .int .i64 0]) ?_ 1 _ rfl; (with_reducible repeat (first | refine blk_drewN ?_ _ | refine blk_drew ?_ | refine blk_alloc ?_ _)); refine blk_put (cs := #[.int .i64 0, .int .i64 0, .bool false, .int .i64 0, .int .i64 0]) ?_ 0 _ rfl; (with_reducible repeat (first | refine blk_drewN ?_ _ | refine blk_drew ?_ | refine blk_alloc ?_ _)); exact BK250.out) hb); have n3_ := Aside0.mk (below_step (by repeat (first | (with_reducible first | exact HB.out | apply below_alloc | apply pw_below_drewN | apply below_drew1 | refine below_set ?_ GE237.out | refine below_set ?_ GE249.out | refine below_set ?_ GE250.out) | exact HB.out)) hb); clear BK237; clear BK249; clear BK250; clear HB; have BK237 := n0_; have BK249 := n1_; have BK250 := n2_; have HB := n3_; clear n0_ n1_ n2_ n3_; (try clear hb); (try clear hb2); (try clear hk); (try clear hi); have hcz35_0 : w34.cell? ⟨gb237, 0, none⟩ = some (.int .i64 x238000_1) := (blk_cell BK237.out 0).trans rfl; have hcz35_1 : w34.cell? ⟨gb237, 1, none⟩ = some (.int .i64 x238001_1) := (blk_cell BK237.out 1).trans rfl; have hcz35_2 : w34.cell? ⟨gb237, 2, none⟩ = some (.bool true) := (blk_cell BK237.out 2).trans rfl; have hcz35_3 : w34.cell? ⟨gb237, 3, none⟩ = some (.int .i64 x238003_1) := (blk_cell BK237.out 3).trans rfl; have hcz35_4 : w34.cell? ⟨gb237, 4, none⟩ = some (.int .i64 x238004_1) := (blk_cell BK237.out 4).trans rfl; have hfz35_0 := blk_frozen BK237.out 0; have hfz35_1 := blk_frozen BK237.out 1; have hfz35_2 := blk_frozen BK237.out 2; have hfz35_3 := blk_frozen BK237.out 3; have hfz35_4 := blk_frozen BK237.out 4; have hcz36_0 : w34.cell? ⟨gb250, 0, none⟩ = some (.int .i64 x238000_1) := (blk_cell BK250.out 0).trans rfl; have hcz36_1 : w34.cell? ⟨gb250, 1, none⟩ = some (.int .i64 x238001_1) := (blk_cell BK250.out 1).trans rfl; have hcz36_2 : w34.cell? ⟨gb250, 2, none⟩ = some (.bool true) := (blk_cell BK250.out 2).trans rfl; have hcz36_3 : w34.cell? ⟨gb250, 3, none⟩ = some (.int .i64 x238003_1) := (blk_cell BK250.out 3).trans rfl; have hcz36_4 : w34.cell? ⟨gb250, 4, none⟩ = some (.int .i64 x238004_1) := (blk_cell BK250.out 4).trans rfl; have hfz36_0 := blk_frozen BK250.out 0; have hfz36_1 := blk_frozen BK250.out 1; have hfz36_2 := blk_frozen BK250.out 2; have hfz36_3 := blk_frozen BK250.out 3; have hfz36_4 := blk_frozen BK250.out 4))
                      go_meet
                      case rel => exact ⟨_, (t251), (t252), (t253), (t254), (t255), H', ⟨by have := HK1.out; first | omega | exact Nat.le_refl _⟩, ⟨by (with_reducible repeat (first | refine blk_drewN ?_ _ | refine blk_drew ?_ | refine blk_alloc ?_ _)); refine blk_put (cs := #[.int .i64 t251, .int .i64 t252, .bool t253, .int .i64 t254, .int .i64 x238004_1]) ?_ 4 _ rfl; (with_reducible repeat (first | refine blk_drewN ?_ _ | refine blk_drew ?_ | refine blk_alloc ?_ _)); refine blk_put (cs := #[.int .i64 t251, .int .i64 t252, .bool t253, .int .i64 x238003_1, .int .i64 x238004_1]) ?_ 3 _ rfl; (with_reducible repeat (first | refine blk_drewN ?_ _ | refine blk_drew ?_ | refine blk_alloc ?_ _)); refine blk_put (cs := #[.int .i64 t251, .int .i64 t252, .bool true, .int .i64 x238003_1, .int .i64 x238004_1]) ?_ 2 _ rfl; (with_reducible repeat (first | refine blk_drewN ?_ _ | refine blk_drew ?_ | refine blk_alloc ?_ _)); refine blk_put (cs := #[.int .i64 t251, .int .i64 x238001_1, .bool true, .int .i64 x238003_1, .int .i64 x238004_1]) ?_ 1 _ rfl; (with_reducible repeat (first | refine blk_drewN ?_ _ | refine blk_drew ?_ | refine blk_alloc ?_ _)); refine blk_put (cs := #[.int .i64 x238000_1, .int .i64 x238001_1, .bool true, .int .i64 x238003_1, .int .i64 x238004_1]) ?_ 0 _ rfl; (with_reducible repeat (first | refine blk_drewN ?_ _ | refine blk_drew ?_ | refine blk_alloc ?_ _)); exact BK237.out⟩, ⟨by (with_reducible repeat (first | refine blk_drewN ?_ _ | refine blk_drew ?_ | refine blk_alloc ?_ _)); refine blk_far ?_ NB249_237.out _; (with_reducible repeat (first | refine blk_drewN ?_ _ | refine blk_drew ?_ | refine blk_alloc ?_ _)); refine blk_far ?_ NB249_237.out _; (with_reducible repeat (first | refine blk_drewN ?_ _ | refine blk_drew ?_ | refine blk_alloc ?_ _)); refine blk_far ?_ NB249_237.out _; (with_reducible repeat (first | refine blk_drewN ?_ _ | refine blk_drew ?_ | refine blk_alloc ?_ _)); refine blk_far ?_ NB249_237.out _; (with_reducible repeat (first | refine blk_drewN ?_ _ | refine blk_drew ?_ | refine blk_alloc ?_ _)); refine blk_far ?_ NB249_237.out _; (with_reducible repeat (first | refine blk_drewN ?_ _ | refine blk_drew ?_ | refine blk_alloc ?_ _)); exact BK249.out⟩, ⟨by (with_reducible repeat (first | refine blk_drewN ?_ _ | refine blk_drew ?_ | refine blk_alloc ?_ _)); refine blk_far ?_ NB250_237.out _; (with_reducible repeat (first | refine blk_drewN ?_ _ | refine blk_drew ?_ | refine blk_alloc ?_ _)); refine blk_far ?_ NB250_237.out _; (with_reducible repeat (first | refine blk_drewN ?_ _ | refine blk_drew ?_ | refine blk_alloc ?_ _)); refine blk_far ?_ NB250_237.out _; (with_reducible repeat (first | refine blk_drewN ?_ _ | refine blk_drew ?_ | refine blk_alloc ?_ _)); refine blk_far ?_ NB250_237.out _; (with_reducible repeat (first | refine blk_drewN ?_ _ | refine blk_drew ?_ | refine blk_alloc ?_ _)); refine blk_far ?_ NB250_237.out _; (with_reducible repeat (first | refine blk_drewN ?_ _ | refine blk_drew ?_ | refine blk_alloc ?_ _)); exact BK250.out⟩, ⟨by repeat (first | (with_reducible first | exact HB.out | apply below_alloc | apply pw_below_drewN | apply below_drew1 | refine below_set ?_ GE237.out | refine below_set ?_ GE249.out | refine below_set ?_ GE250.out) | exact HB.out)⟩⟩
                    · replace c28 := Bool.eq_false_iff.mpr c28
                      subst c28
                      have H1 : (if (!(t251 == x238000_1) || (!(t252 == x238001_1) || (!(t253 == false) || (!(t254 == x238003_1) || (!(t255 == x238004_1)))))) = true then (some false) else (jackstaylaw06_ConfRight.j2 k1 y243 (y243.length : Int) x19_1 t251 t252 t253 t254 t255)) = some r := by rw [if_neg (show ¬ (false = true) by decide)] at H; exact H
                      clear H
                      have H := H1
                      clear H1
                      by_cases c37 : (!(t251 == x238000_1) || (!(t252 == x238001_1) || (!(t253 == false) || (!(t254 == x238003_1) || (!(t255 == x238004_1)))))) = true
                      · rw [if_pos c37] at H
                        have c37b0 : (!(t251 == x238000_1) || (!(t252 == x238001_1) || (!(t253 == false) || (!(t254 == x238003_1) || (!(t255 == x238004_1)))))) = true := c37
                        (try (have c37b0n := c37b0; simp only [beq_false, beq_true, Bool.not_not, Bool.not_true, Bool.not_false, Bool.true_and, Bool.and_true, Bool.false_or, Bool.or_false] at c37b0n))
                        clear c37
                        obtain rfl := Option.some.inj H
                        exact absurd hT_ (by decide)
                      · rw [if_neg c37] at H
                        have c37b0 : (!(t251 == x238000_1) || (!(t252 == x238001_1) || (!(t253 == false) || (!(t254 == x238003_1) || (!(t255 == x238004_1)))))) = false := by simpa using c37
                        (try (have c37b0n := c37b0; simp only [beq_false, beq_true, Bool.not_not, Bool.not_true, Bool.not_false, Bool.true_and, Bool.and_true, Bool.false_or, Bool.or_false] at c37b0n))
                        clear c37
                        have H' := Aside0.mk H
                        clear H
                        have hnb38 := NB237_249.out
                        have hnc38 := NB249_237.out
                        have hnb39 := NB237_250.out
                        have hnc39 := NB250_237.out
                        have hcz40_0 : w21.cell? ⟨gb237, 0, none⟩ = some (.int .i64 x238000_1) := (blk_cell BK237.out 0).trans rfl
                        have hcz40_1 : w21.cell? ⟨gb237, 1, none⟩ = some (.int .i64 x238001_1) := (blk_cell BK237.out 1).trans rfl
                        have hcz40_2 : w21.cell? ⟨gb237, 2, none⟩ = some (.bool false) := (blk_cell BK237.out 2).trans rfl
                        have hcz40_3 : w21.cell? ⟨gb237, 3, none⟩ = some (.int .i64 x238003_1) := (blk_cell BK237.out 3).trans rfl
                        have hcz40_4 : w21.cell? ⟨gb237, 4, none⟩ = some (.int .i64 x238004_1) := (blk_cell BK237.out 4).trans rfl
                        have hfz40_0 := blk_frozen BK237.out 0
                        have hfz40_1 := blk_frozen BK237.out 1
                        have hfz40_2 := blk_frozen BK237.out 2
                        have hfz40_3 := blk_frozen BK237.out 3
                        have hfz40_4 := blk_frozen BK237.out 4
                        have hnb41 := NB249_250.out
                        have hnc41 := NB250_249.out
                        have hcz42_0 : w21.cell? ⟨gb249, 0, none⟩ = some (.int .u8 ((rd_T34 y243 x19_1).f0)) := (blk_cell BK249.out 0).trans rfl
                        have hcz42_1 : w21.cell? ⟨gb249, 1, none⟩ = some (.bool ((rd_T34 y243 x19_1).f1)) := (blk_cell BK249.out 1).trans rfl
                        have hcz42_2 : w21.cell? ⟨gb249, 2, none⟩ = some (.int .u8 ((rd_T34 y243 x19_1).f2)) := (blk_cell BK249.out 2).trans rfl
                        have hfz42_0 := blk_frozen BK249.out 0
                        have hfz42_1 := blk_frozen BK249.out 1
                        have hfz42_2 := blk_frozen BK249.out 2
                        go_wp2_with (first | ((with_reducible refine gate_callee (f := 16) rfl ?_); refine goesL_ (some 30) rfl rfl Try.func16 (by kernel_rfl) rfl #[.agg #[.int .i64 x238000_1, .int .i64 x238001_1, .bool false, .int .i64 x238003_1, .int .i64 x238004_1], .bool ((rd_T34 y243 x19_1).f1)] rfl (by (try simp only [List.map_toArray, List.map_cons, List.map_nil]); first | done | rfl | (simp only [List.length_drop, List.length_take]; rfl)) ?_; (with_reducible refine (conf_Bit.calls k1 x238000_1 x238001_1 false x238003_1 x238004_1 ((rd_T34 y243 x19_1).f1) t251 t252 t253 t254 t255 _ A27.out).mono ?_); rintro e w43 ⟨rfl, hb⟩; refine ⟨_, rfl, ?_⟩; have n0_ := Aside0.mk (blk_below (g := gb237) (o := .cells #[.int .i64 x238000_1, .int .i64 x238001_1, .bool false, .int .i64 x238003_1, .int .i64 x238004_1] 23 (0, 0)) (by (with_reducible repeat (first | refine blk_drewN ?_ _ | refine blk_drew ?_ | refine blk_alloc ?_ _)); refine blk_far ?_ NB237_250.out _; (with_reducible repeat (first | refine blk_drewN ?_ _ | refine blk_drew ?_ | refine blk_alloc ?_ _)); refine blk_far ?_ NB237_250.out _; (with_reducible repeat (first | refine blk_drewN ?_ _ | refine blk_drew ?_ | refine blk_alloc ?_ _)); refine blk_far ?_ NB237_250.out _; (with_reducible repeat (first | refine blk_drewN ?_ _ | refine blk_drew ?_ | refine blk_alloc ?_ _)); refine blk_far ?_ NB237_250.out _; (with_reducible repeat (first | refine blk_drewN ?_ _ | refine blk_drew ?_ | refine blk_alloc ?_ _)); refine blk_far ?_ NB237_250.out _; (with_reducible repeat (first | refine blk_drewN ?_ _ | refine blk_drew ?_ | refine blk_alloc ?_ _)); exact BK237.out) hb); have n1_ := Aside0.mk (blk_below (g := gb249) (o := .cells #[.int .u8 ((rd_T34 y243 x19_1).f0), .bool ((rd_T34 y243 x19_1).f1), .int .u8 ((rd_T34 y243 x19_1).f2)] 34 (0, 0)) (by (with_reducible repeat (first | refine blk_drewN ?_ _ | refine blk_drew ?_ | refine blk_alloc ?_ _)); refine blk_far ?_ NB249_250.out _; (with_reducible repeat (first | refine blk_drewN ?_ _ | refine blk_drew ?_ | refine blk_alloc ?_ _)); refine blk_far ?_ NB249_250.out _; (with_reducible repeat (first | refine blk_drewN ?_ _ | refine blk_drew ?_ | refine blk_alloc ?_ _)); refine blk_far ?_ NB249_250.out _; (with_reducible repeat (first | refine blk_drewN ?_ _ | refine blk_drew ?_ | refine blk_alloc ?_ _)); refine blk_far ?_ NB249_250.out _; (with_reducible repeat (first | refine blk_drewN ?_ _ | refine blk_drew ?_ | refine blk_alloc ?_ _)); refine blk_far ?_ NB249_250.out _; (with_reducible repeat (first | refine blk_drewN ?_ _ | refine blk_drew ?_ | refine blk_alloc ?_ _)); exact BK249.out) hb); have n2_ := Aside0.mk (blk_below (g := gb250) (o := .cells #[.int .i64 x238000_1, .int .i64 x238001_1, .bool false, .int .i64 x238003_1, .int .i64 x238004_1] 23 (0, 0)) (by (with_reducible repeat (first | refine blk_drewN ?_ _ | refine blk_drew ?_ | refine blk_alloc ?_ _)); refine blk_put (cs := #[.int .i64 x238000_1, .int .i64 x238001_1, .bool false, .int .i64 x238003_1, .int .i64 0]) ?_ 4 _ rfl; (with_reducible repeat (first | refine blk_drewN ?_ _ | refine blk_drew ?_ | refine blk_alloc ?_ _)); refine blk_put (cs := #[.int .i64 x238000_1, .int .i64 x238001_1, .bool false, .int .i64 0, .int .i64 0]) ?_ 3 _ rfl; (with_reducible repeat (first | refine blk_drewN ?_ _ | refine blk_drew ?_ | refine blk_alloc ?_ _)); refine blk_put (cs := #[.int .i64 x238000_1, .int .i64 x238001_1, .bool false, .int .i64 0, .int .i64 0]) ?_ 2 _ rfl; (with_reducible repeat (first | refine blk_drewN ?_ _ | refine blk_drew ?_ | refine blk_alloc ?_ _)); refine blk_put (cs := #[.int .i64 x238000_1, .int .i64 0, .bool false, .int .i64 0, .int .i64 0]) ?_ 1 _ rfl; (with_reducible repeat (first | refine blk_drewN ?_ _ | refine blk_drew ?_ | refine blk_alloc ?_ _)); refine blk_put (cs := #[.int .i64 0, .int .i64 0, .bool false, .int .i64 0, .int .i64 0]) ?_ 0 _ rfl; (with_reducible repeat (first | refine blk_drewN ?_ _ | refine blk_drew ?_ | refine blk_alloc ?_ _)); exact BK250.out) hb); have n3_ := Aside0.mk (below_step (by repeat (first | (with_reducible first | exact HB.out | apply below_alloc | apply pw_below_drewN | apply below_drew1 | refine below_set ?_ GE237.out | refine below_set ?_ GE249.out | refine below_set ?_ GE250.out) | exact HB.out)) hb); clear BK237; clear BK249; clear BK250; clear HB; have BK237 := n0_; have BK249 := n1_; have BK250 := n2_; have HB := n3_; clear n0_ n1_ n2_ n3_; (try clear hb); (try clear hb2); (try clear hk); (try clear hi); have hcz44_0 : w43.cell? ⟨gb237, 0, none⟩ = some (.int .i64 x238000_1) := (blk_cell BK237.out 0).trans rfl; have hcz44_1 : w43.cell? ⟨gb237, 1, none⟩ = some (.int .i64 x238001_1) := (blk_cell BK237.out 1).trans rfl; have hcz44_2 : w43.cell? ⟨gb237, 2, none⟩ = some (.bool false) := (blk_cell BK237.out 2).trans rfl; have hcz44_3 : w43.cell? ⟨gb237, 3, none⟩ = some (.int .i64 x238003_1) := (blk_cell BK237.out 3).trans rfl; have hcz44_4 : w43.cell? ⟨gb237, 4, none⟩ = some (.int .i64 x238004_1) := (blk_cell BK237.out 4).trans rfl; have hfz44_0 := blk_frozen BK237.out 0; have hfz44_1 := blk_frozen BK237.out 1; have hfz44_2 := blk_frozen BK237.out 2; have hfz44_3 := blk_frozen BK237.out 3; have hfz44_4 := blk_frozen BK237.out 4; have hcz45_0 : w43.cell? ⟨gb250, 0, none⟩ = some (.int .i64 x238000_1) := (blk_cell BK250.out 0).trans rfl; have hcz45_1 : w43.cell? ⟨gb250, 1, none⟩ = some (.int .i64 x238001_1) := (blk_cell BK250.out 1).trans rfl; have hcz45_2 : w43.cell? ⟨gb250, 2, none⟩ = some (.bool false) := (blk_cell BK250.out 2).trans rfl; have hcz45_3 : w43.cell? ⟨gb250, 3, none⟩ = some (.int .i64 x238003_1) := (blk_cell BK250.out 3).trans rfl; have hcz45_4 : w43.cell? ⟨gb250, 4, none⟩ = some (.int .i64 x238004_1) := (blk_cell BK250.out 4).trans rfl; have hfz45_0 := blk_frozen BK250.out 0; have hfz45_1 := blk_frozen BK250.out 1; have hfz45_2 := blk_frozen BK250.out 2; have hfz45_3 := blk_frozen BK250.out 3; have hfz45_4 := blk_frozen BK250.out 4))
                        go_meet
                        case rel => exact ⟨_, (t251), (t252), (t253), (t254), (t255), H', ⟨by have := HK1.out; first | omega | exact Nat.le_refl _⟩, ⟨by (with_reducible repeat (first | refine blk_drewN ?_ _ | refine blk_drew ?_ | refine blk_alloc ?_ _)); refine blk_put (cs := #[.int .i64 t251, .int .i64 t252, .bool t253, .int .i64 t254, .int .i64 x238004_1]) ?_ 4 _ rfl; (with_reducible repeat (first | refine blk_drewN ?_ _ | refine blk_drew ?_ | refine blk_alloc ?_ _)); refine blk_put (cs := #[.int .i64 t251, .int .i64 t252, .bool t253, .int .i64 x238003_1, .int .i64 x238004_1]) ?_ 3 _ rfl; (with_reducible repeat (first | refine blk_drewN ?_ _ | refine blk_drew ?_ | refine blk_alloc ?_ _)); refine blk_put (cs := #[.int .i64 t251, .int .i64 t252, .bool false, .int .i64 x238003_1, .int .i64 x238004_1]) ?_ 2 _ rfl; (with_reducible repeat (first | refine blk_drewN ?_ _ | refine blk_drew ?_ | refine blk_alloc ?_ _)); refine blk_put (cs := #[.int .i64 t251, .int .i64 x238001_1, .bool false, .int .i64 x238003_1, .int .i64 x238004_1]) ?_ 1 _ rfl; (with_reducible repeat (first | refine blk_drewN ?_ _ | refine blk_drew ?_ | refine blk_alloc ?_ _)); refine blk_put (cs := #[.int .i64 x238000_1, .int .i64 x238001_1, .bool false, .int .i64 x238003_1, .int .i64 x238004_1]) ?_ 0 _ rfl; (with_reducible repeat (first | refine blk_drewN ?_ _ | refine blk_drew ?_ | refine blk_alloc ?_ _)); exact BK237.out⟩, ⟨by (with_reducible repeat (first | refine blk_drewN ?_ _ | refine blk_drew ?_ | refine blk_alloc ?_ _)); refine blk_far ?_ NB249_237.out _; (with_reducible repeat (first | refine blk_drewN ?_ _ | refine blk_drew ?_ | refine blk_alloc ?_ _)); refine blk_far ?_ NB249_237.out _; (with_reducible repeat (first | refine blk_drewN ?_ _ | refine blk_drew ?_ | refine blk_alloc ?_ _)); refine blk_far ?_ NB249_237.out _; (with_reducible repeat (first | refine blk_drewN ?_ _ | refine blk_drew ?_ | refine blk_alloc ?_ _)); refine blk_far ?_ NB249_237.out _; (with_reducible repeat (first | refine blk_drewN ?_ _ | refine blk_drew ?_ | refine blk_alloc ?_ _)); refine blk_far ?_ NB249_237.out _; (with_reducible repeat (first | refine blk_drewN ?_ _ | refine blk_drew ?_ | refine blk_alloc ?_ _)); exact BK249.out⟩, ⟨by (with_reducible repeat (first | refine blk_drewN ?_ _ | refine blk_drew ?_ | refine blk_alloc ?_ _)); refine blk_far ?_ NB250_237.out _; (with_reducible repeat (first | refine blk_drewN ?_ _ | refine blk_drew ?_ | refine blk_alloc ?_ _)); refine blk_far ?_ NB250_237.out _; (with_reducible repeat (first | refine blk_drewN ?_ _ | refine blk_drew ?_ | refine blk_alloc ?_ _)); refine blk_far ?_ NB250_237.out _; (with_reducible repeat (first | refine blk_drewN ?_ _ | refine blk_drew ?_ | refine blk_alloc ?_ _)); refine blk_far ?_ NB250_237.out _; (with_reducible repeat (first | refine blk_drewN ?_ _ | refine blk_drew ?_ | refine blk_alloc ?_ _)); refine blk_far ?_ NB250_237.out _; (with_reducible repeat (first | refine blk_drewN ?_ _ | refine blk_drew ?_ | refine blk_alloc ?_ _)); exact BK250.out⟩, ⟨by repeat (first | (with_reducible first | exact HB.out | apply below_alloc | apply pw_below_drewN | apply below_drew1 | refine below_set ?_ GE237.out | refine below_set ?_ GE249.out | refine below_set ?_ GE250.out) | exact HB.out)⟩⟩
                  · rw [if_neg c26] at H
                    have c26b0 : (((rd_T34 y243 x19_1).f0) == 0) = false := beq_eq_false_iff_ne.mpr c26
                    have c26b1 : (((rd_T34 y243 x19_1).f0) != 0) = true := bne_iff_ne.mpr c26
                    (first | rw [c26b0] | (simp only [i64_w, i32_w]; rw [c26b0]) | skip)
                    replace H := Option.bind_eq_some_iff.mp H
                    obtain ⟨⟨t256, t257, t258, t259, t260, t261⟩, A460, H⟩ := H
                    replace H : (if ((t261 == 0) != (decide (((rd_T34 y243 x19_1).f0) ≤ 9))) = true then (jackstaylaw06_ConfRight.j1 k1 y243 (y243.length : Int) x19_1 true ((rd_T34 y243 x19_1).f0) ((rd_T34 y243 x19_1).f1) ((rd_T34 y243 x19_1).f2) x238000_1 x238001_1 x238002_1 x238003_1 x238004_1 t256 t257 t258 t259 t260) else (if t261 = 0 then (jackstaylaw06_ConfRight.j1 k1 y243 (y243.length : Int) x19_1 false ((rd_T34 y243 x19_1).f0) ((rd_T34 y243 x19_1).f1) ((rd_T34 y243 x19_1).f2) x238000_1 x238001_1 x238002_1 x238003_1 x238004_1 t256 t257 t258 t259 t260) else (jackstaylaw06_ConfRight.j1 k1 y243 (y243.length : Int) x19_1 (!(t256 == x238000_1) || (!(t257 == x238001_1) || (!(t258 == x238002_1) || (!(t259 == x238003_1) || (!(t260 == x238004_1)))))) ((rd_T34 y243 x19_1).f0) ((rd_T34 y243 x19_1).f1) ((rd_T34 y243 x19_1).f2) x238000_1 x238001_1 x238002_1 x238003_1 x238004_1 t256 t257 t258 t259 t260))) = some r := H
                    have A46 := Aside0.mk A460
                    clear A460
                    have HC47 := Aside0.mk H
                    clear H
                    have hnb48 := NB237_249.out
                    have hnc48 := NB249_237.out
                    have hnb49 := NB237_250.out
                    have hnc49 := NB250_237.out
                    have hcz50_0 : w21.cell? ⟨gb237, 0, none⟩ = some (.int .i64 x238000_1) := (blk_cell BK237.out 0).trans rfl
                    have hcz50_1 : w21.cell? ⟨gb237, 1, none⟩ = some (.int .i64 x238001_1) := (blk_cell BK237.out 1).trans rfl
                    have hcz50_2 : w21.cell? ⟨gb237, 2, none⟩ = some (.bool x238002_1) := (blk_cell BK237.out 2).trans rfl
                    have hcz50_3 : w21.cell? ⟨gb237, 3, none⟩ = some (.int .i64 x238003_1) := (blk_cell BK237.out 3).trans rfl
                    have hcz50_4 : w21.cell? ⟨gb237, 4, none⟩ = some (.int .i64 x238004_1) := (blk_cell BK237.out 4).trans rfl
                    have hfz50_0 := blk_frozen BK237.out 0
                    have hfz50_1 := blk_frozen BK237.out 1
                    have hfz50_2 := blk_frozen BK237.out 2
                    have hfz50_3 := blk_frozen BK237.out 3
                    have hfz50_4 := blk_frozen BK237.out 4
                    have hnb51 := NB249_250.out
                    have hnc51 := NB250_249.out
                    have hcz52_0 : w21.cell? ⟨gb249, 0, none⟩ = some (.int .u8 ((rd_T34 y243 x19_1).f0)) := (blk_cell BK249.out 0).trans rfl
                    have hcz52_1 : w21.cell? ⟨gb249, 1, none⟩ = some (.bool ((rd_T34 y243 x19_1).f1)) := (blk_cell BK249.out 1).trans rfl
                    have hcz52_2 : w21.cell? ⟨gb249, 2, none⟩ = some (.int .u8 ((rd_T34 y243 x19_1).f2)) := (blk_cell BK249.out 2).trans rfl
                    have hfz52_0 := blk_frozen BK249.out 0
                    have hfz52_1 := blk_frozen BK249.out 1
                    have hfz52_2 := blk_frozen BK249.out 2
                    go_upto_region 11 with (first | ((with_reducible refine gate_callee (f := 10) rfl ?_); refine goesL_ (some 43) rfl rfl Try.func10 (by kernel_rfl) rfl #[.agg #[.int .i64 x238000_1, .int .i64 x238001_1, .bool x238002_1, .int .i64 x238003_1, .int .i64 x238004_1], .int .u8 ((rd_T34 y243 x19_1).f0)] rfl (by (try simp only [List.map_toArray, List.map_cons, List.map_nil]); first | done | rfl | (simp only [List.length_drop, List.length_take]; rfl)) ?_; (with_reducible refine (conf_Event.calls k1 x238000_1 x238001_1 x238002_1 x238003_1 x238004_1 ((rd_T34 y243 x19_1).f0) t256 t257 t258 t259 t260 t261 _ A46.out).mono ?_); rintro e w53 ⟨rfl, hb⟩; refine ⟨_, rfl, ?_⟩; have n0_ := Aside0.mk (blk_below (g := gb237) (o := .cells #[.int .i64 x238000_1, .int .i64 x238001_1, .bool x238002_1, .int .i64 x238003_1, .int .i64 x238004_1] 23 (0, 0)) (by (with_reducible repeat (first | refine blk_drewN ?_ _ | refine blk_drew ?_ | refine blk_alloc ?_ _)); refine blk_far ?_ NB237_250.out _; (with_reducible repeat (first | refine blk_drewN ?_ _ | refine blk_drew ?_ | refine blk_alloc ?_ _)); refine blk_far ?_ NB237_250.out _; (with_reducible repeat (first | refine blk_drewN ?_ _ | refine blk_drew ?_ | refine blk_alloc ?_ _)); refine blk_far ?_ NB237_250.out _; (with_reducible repeat (first | refine blk_drewN ?_ _ | refine blk_drew ?_ | refine blk_alloc ?_ _)); refine blk_far ?_ NB237_250.out _; (with_reducible repeat (first | refine blk_drewN ?_ _ | refine blk_drew ?_ | refine blk_alloc ?_ _)); refine blk_far ?_ NB237_250.out _; (with_reducible repeat (first | refine blk_drewN ?_ _ | refine blk_drew ?_ | refine blk_alloc ?_ _)); exact BK237.out) hb); have n1_ := Aside0.mk (blk_below (g := gb249) (o := .cells #[.int .u8 ((rd_T34 y243 x19_1).f0), .bool ((rd_T34 y243 x19_1).f1), .int .u8 ((rd_T34 y243 x19_1).f2)] 34 (0, 0)) (by (with_reducible repeat (first | refine blk_drewN ?_ _ | refine blk_drew ?_ | refine blk_alloc ?_ _)); refine blk_far ?_ NB249_250.out _; (with_reducible repeat (first | refine blk_drewN ?_ _ | refine blk_drew ?_ | refine blk_alloc ?_ _)); refine blk_far ?_ NB249_250.out _; (with_reducible repeat (first | refine blk_drewN ?_ _ | refine blk_drew ?_ | refine blk_alloc ?_ _)); refine blk_far ?_ NB249_250.out _; (with_reducible repeat (first | refine blk_drewN ?_ _ | refine blk_drew ?_ | refine blk_alloc ?_ _)); refine blk_far ?_ NB249_250.out _; (with_reducible repeat (first | refine blk_drewN ?_ _ | refine blk_drew ?_ | refine blk_alloc ?_ _)); refine blk_far ?_ NB249_250.out _; (with_reducible repeat (first | refine blk_drewN ?_ _ | refine blk_drew ?_ | refine blk_alloc ?_ _)); exact BK249.out) hb); have n2_ := Aside0.mk (blk_below (g := gb250) (o := .cells #[.int .i64 x238000_1, .int .i64 x238001_1, .bool x238002_1, .int .i64 x238003_1, .int .i64 x238004_1] 23 (0, 0)) (by (with_reducible repeat (first | refine blk_drewN ?_ _ | refine blk_drew ?_ | refine blk_alloc ?_ _)); refine blk_put (cs := #[.int .i64 x238000_1, .int .i64 x238001_1, .bool x238002_1, .int .i64 x238003_1, .int .i64 0]) ?_ 4 _ rfl; (with_reducible repeat (first | refine blk_drewN ?_ _ | refine blk_drew ?_ | refine blk_alloc ?_ _)); refine blk_put (cs := #[.int .i64 x238000_1, .int .i64 x238001_1, .bool x238002_1, .int .i64 0, .int .i64 0]) ?_ 3 _ rfl; (with_reducible repeat (first | refine blk_drewN ?_ _ | refine blk_drew ?_ | refine blk_alloc ?_ _)); refine blk_put (cs := #[.int .i64 x238000_1, .int .i64 x238001_1, .bool false, .int .i64 0, .int .i64 0]) ?_ 2 _ rfl; (with_reducible repeat (first | refine blk_drewN ?_ _ | refine blk_drew ?_ | refine blk_alloc ?_ _)); refine blk_put (cs := #[.int .i64 x238000_1, .int .i64 0, .bool false, .int .i64 0, .int .i64 0]) ?_ 1 _ rfl; (with_reducible repeat (first | refine blk_drewN ?_ _ | refine blk_drew ?_ | refine blk_alloc ?_ _)); refine blk_put (cs := #[.int .i64 0, .int .i64 0, .bool false, .int .i64 0, .int .i64 0]) ?_ 0 _ rfl; (with_reducible repeat (first | refine blk_drewN ?_ _ | refine blk_drew ?_ | refine blk_alloc ?_ _)); exact BK250.out) hb); have n3_ := Aside0.mk (below_step (by repeat (first | (with_reducible first | exact HB.out | apply below_alloc | apply pw_below_drewN | apply below_drew1 | refine below_set ?_ GE237.out | refine below_set ?_ GE249.out | refine below_set ?_ GE250.out) | exact HB.out)) hb); clear BK237; clear BK249; clear BK250; clear HB; have BK237 := n0_; have BK249 := n1_; have BK250 := n2_; have HB := n3_; clear n0_ n1_ n2_ n3_; (try clear hb); (try clear hb2); (try clear hk); (try clear hi)) | ((with_reducible refine gate_dst (N := 8) rfl ?_); refine box_event ?hg (N := 8) ?hd (cs := #[.int .i64 0, .int .i64 0, .bool false, .int .i64 0, .int .i64 0]) (t := 23) ?hr ?_; (case hd => rfl); (case hg => rfl); (case hr => first | (go_simp; done) | (go_simp; rfl)); intro gb262 hg w54 hbox hb; have n0_ := Aside0.mk (blk_below (g := gb237) (o := .cells #[.int .i64 x238000_1, .int .i64 x238001_1, .bool x238002_1, .int .i64 x238003_1, .int .i64 x238004_1] 23 (0, 0)) (by (with_reducible repeat (first | refine blk_drewN ?_ _ | refine blk_drew ?_ | refine blk_alloc ?_ _)); exact BK237.out) hb); have n1_ := Aside0.mk (blk_below (g := gb249) (o := .cells #[.int .u8 ((rd_T34 y243 x19_1).f0), .bool ((rd_T34 y243 x19_1).f1), .int .u8 ((rd_T34 y243 x19_1).f2)] 34 (0, 0)) (by (with_reducible repeat (first | refine blk_drewN ?_ _ | refine blk_drew ?_ | refine blk_alloc ?_ _)); exact BK249.out) hb); have n2_ := Aside0.mk (blk_below (g := gb250) (o := .cells #[.int .i64 x238000_1, .int .i64 x238001_1, .bool x238002_1, .int .i64 x238003_1, .int .i64 x238004_1] 23 (0, 0)) (by (with_reducible repeat (first | refine blk_drewN ?_ _ | refine blk_drew ?_ | refine blk_alloc ?_ _)); exact BK250.out) hb); have n3_ := Aside0.mk (below_step (by repeat (first | (with_reducible first | exact HB.out | apply below_alloc | apply pw_below_drewN | apply below_drew1 | refine below_set ?_ GE237.out | refine below_set ?_ GE249.out | refine below_set ?_ GE250.out) | exact HB.out)) hb); have n4_ := Aside0.mk (hbox); have n5_ := Aside0.mk ((by rw [hg]; exact (below_size (by repeat (first | (with_reducible first | exact HB.out | apply below_alloc | apply pw_below_drewN | apply below_drew1 | refine below_set ?_ GE237.out | refine below_set ?_ GE249.out | refine below_set ?_ GE250.out) | exact HB.out))) : w.heap.size ≤ gb262)); have n6_ := Aside0.mk ((by rw [hg]; exact (below_size (by repeat (first | (with_reducible first | exact HB.out | apply below_alloc | apply pw_below_drewN | apply below_drew1 | refine below_set ?_ GE237.out | refine below_set ?_ GE249.out | refine below_set ?_ GE250.out) | exact HB.out))) : w.heap.size ≤ gb262)); have n7_ := Aside0.mk ((by rw [hg]; exact Nat.ne_of_lt (blk_lt (g := gb237) (o := .cells #[.int .i64 x238000_1, .int .i64 x238001_1, .bool x238002_1, .int .i64 x238003_1, .int .i64 x238004_1] 23 (0, 0)) (by (with_reducible repeat (first | refine blk_drewN ?_ _ | refine blk_drew ?_ | refine blk_alloc ?_ _)); exact BK237.out)) : gb237 ≠ gb262)); have n8_ := Aside0.mk ((by rw [hg]; exact Nat.ne_of_gt (blk_lt (g := gb237) (o := .cells #[.int .i64 x238000_1, .int .i64 x238001_1, .bool x238002_1, .int .i64 x238003_1, .int .i64 x238004_1] 23 (0, 0)) (by (with_reducible repeat (first | refine blk_drewN ?_ _ | refine blk_drew ?_ | refine blk_alloc ?_ _)); exact BK237.out)) : gb262 ≠ gb237)); have n9_ := Aside0.mk ((by rw [hg]; exact Nat.ne_of_lt (blk_lt (g := gb249) (o := .cells #[.int .u8 ((rd_T34 y243 x19_1).f0), .bool ((rd_T34 y243 x19_1).f1), .int .u8 ((rd_T34 y243 x19_1).f2)] 34 (0, 0)) (by (with_reducible repeat (first | refine blk_drewN ?_ _ | refine blk_drew ?_ | refine blk_alloc ?_ _)); exact BK249.out)) : gb249 ≠ gb262)); have n10_ := Aside0.mk ((by rw [hg]; exact Nat.ne_of_gt (blk_lt (g := gb249) (o := .cells #[.int .u8 ((rd_T34 y243 x19_1).f0), .bool ((rd_T34 y243 x19_1).f1), .int .u8 ((rd_T34 y243 x19_1).f2)] 34 (0, 0)) (by (with_reducible repeat (first | refine blk_drewN ?_ _ | refine blk_drew ?_ | refine blk_alloc ?_ _)); exact BK249.out)) : gb262 ≠ gb249)); have n11_ := Aside0.mk ((by rw [hg]; exact Nat.ne_of_lt (blk_lt (g := gb250) (o := .cells #[.int .i64 x238000_1, .int .i64 x238001_1, .bool x238002_1, .int .i64 x238003_1, .int .i64 x238004_1] 23 (0, 0)) (by (with_reducible repeat (first | refine blk_drewN ?_ _ | refine blk_drew ?_ | refine blk_alloc ?_ _)); exact BK250.out)) : gb250 ≠ gb262)); have n12_ := Aside0.mk ((by rw [hg]; exact Nat.ne_of_gt (blk_lt (g := gb250) (o := .cells #[.int .i64 x238000_1, .int .i64 x238001_1, .bool x238002_1, .int .i64 x238003_1, .int .i64 x238004_1] 23 (0, 0)) (by (with_reducible repeat (first | refine blk_drewN ?_ _ | refine blk_drew ?_ | refine blk_alloc ?_ _)); exact BK250.out)) : gb262 ≠ gb250)); clear BK237; clear BK249; clear BK250; clear HB; have BK237 := n0_; have BK249 := n1_; have BK250 := n2_; have HB := n3_; have BK262 := n4_; have GW262 := n5_; have GE262 := n6_; have NB237_262 := n7_; have NB262_237 := n8_; have NB249_262 := n9_; have NB262_249 := n10_; have NB250_262 := n11_; have NB262_250 := n12_; clear n0_ n1_ n2_ n3_ n4_ n5_ n6_ n7_ n8_ n9_ n10_ n11_ n12_; clear hb hbox hg; have hnb55 := NB262_237.out; have hnc55 := NB237_262.out; have hnb56 := NB262_249.out; have hnc56 := NB249_262.out; have hnb57 := NB262_250.out; have hnc57 := NB250_262.out; have hcz58_0 : w54.cell? ⟨gb262, 0, none⟩ = some (.int .i64 0) := (blk_cell BK262.out 0).trans rfl; have hcz58_1 : w54.cell? ⟨gb262, 1, none⟩ = some (.int .i64 0) := (blk_cell BK262.out 1).trans rfl; have hcz58_2 : w54.cell? ⟨gb262, 2, none⟩ = some (.bool false) := (blk_cell BK262.out 2).trans rfl; have hcz58_3 : w54.cell? ⟨gb262, 3, none⟩ = some (.int .i64 0) := (blk_cell BK262.out 3).trans rfl; have hcz58_4 : w54.cell? ⟨gb262, 4, none⟩ = some (.int .i64 0) := (blk_cell BK262.out 4).trans rfl; have hfz58_0 := blk_frozen BK262.out 0; have hfz58_1 := blk_frozen BK262.out 1; have hfz58_2 := blk_frozen BK262.out 2; have hfz58_3 := blk_frozen BK262.out 3; have hfz58_4 := blk_frozen BK262.out 4))
                    (try simp only [Act.put, List.setIfInBounds_toArray, List.set_cons_zero, List.set_cons_succ])
                    go_cut [60] (fun v60 wc => ∃ (kq : Nat) (x60_46 : Bool), v60 = .bool x60_46 ∧ Aside0 (jackstaylaw06_ConfRight.j1 kq y243 (y243.length : Int) x19_1 x60_46 ((rd_T34 y243 x19_1).f0) ((rd_T34 y243 x19_1).f1) ((rd_T34 y243 x19_1).f2) x238000_1 x238001_1 x238002_1 x238003_1 x238004_1 t256 t257 t258 t259 t260 = some r) ∧ Aside0 (kq ≤ k1) ∧ Aside0 (wc.heap[gb237]? = some (.cells #[.int .i64 x238000_1, .int .i64 x238001_1, .bool x238002_1, .int .i64 x238003_1, .int .i64 x238004_1] 23 (0, 0))) ∧ Aside0 (wc.heap[gb249]? = some (.cells #[.int .u8 ((rd_T34 y243 x19_1).f0), .bool ((rd_T34 y243 x19_1).f1), .int .u8 ((rd_T34 y243 x19_1).f2)] 34 (0, 0))) ∧ Aside0 (wc.heap[gb250]? = some (.cells #[.int .i64 x238000_1, .int .i64 x238001_1, .bool x238002_1, .int .i64 x238003_1, .int .i64 x238004_1] 23 (0, 0))) ∧ Aside0 (wc.heap[gb262]? = some (.cells #[.int .i64 t256, .int .i64 t257, .bool t258, .int .i64 t259, .int .i64 t260] 23 (0, 0))) ∧ Aside0 (Below w.heap.size w wc))
                    case first =>
                      have H := HC47.out
                      clear HC47
                      by_cases c59 : ((t261 == 0) != (decide (((rd_T34 y243 x19_1).f0) ≤ 9))) = true
                      · rw [if_pos c59] at H
                        have c59b0 : ((t261 == 0) != (decide (((rd_T34 y243 x19_1).f0) ≤ 9))) = true := c59
                        (try (have c59b1 : decide ((t261 == 0) = (decide (((rd_T34 y243 x19_1).f0) ≤ 9))) = false := by simpa using c59))
                        (try (have c59b2 : ((t261 == 0) == (decide (((rd_T34 y243 x19_1).f0) ≤ 9))) = false := by simpa using c59))
                        (try (have c59b3 : ¬ ((t261 == 0) = (decide (((rd_T34 y243 x19_1).f0) ≤ 9))) := by simpa using c59))
                        clear c59
                        (first | rw [c59b0] | (simp only [i64_w, i32_w]; rw [c59b0]) | skip)
                        have H' := Aside0.mk H
                        clear H
                        have hnb60 := NB249_237.out
                        have hnc60 := NB237_249.out
                        have hnb61 := NB249_250.out
                        have hnc61 := NB250_249.out
                        have hnb62 := NB249_262.out
                        have hnc62 := NB262_249.out
                        have hcz63_0 : w54.cell? ⟨gb249, 0, none⟩ = some (.int .u8 ((rd_T34 y243 x19_1).f0)) := (blk_cell BK249.out 0).trans rfl
                        have hcz63_1 : w54.cell? ⟨gb249, 1, none⟩ = some (.bool ((rd_T34 y243 x19_1).f1)) := (blk_cell BK249.out 1).trans rfl
                        have hcz63_2 : w54.cell? ⟨gb249, 2, none⟩ = some (.int .u8 ((rd_T34 y243 x19_1).f2)) := (blk_cell BK249.out 2).trans rfl
                        have hfz63_0 := blk_frozen BK249.out 0
                        have hfz63_1 := blk_frozen BK249.out 1
                        have hfz63_2 := blk_frozen BK249.out 2
                        go_wp2
                        go_meet
                        case rel => exact ⟨_, (true), (by first | rfl | (simp; done) | (simp [*]; done)), H', ⟨by have := HK1.out; first | omega | exact Nat.le_refl _⟩, ⟨by (with_reducible repeat (first | refine blk_drewN ?_ _ | refine blk_drew ?_ | refine blk_alloc ?_ _)); refine blk_far ?_ NB237_262.out _; (with_reducible repeat (first | refine blk_drewN ?_ _ | refine blk_drew ?_ | refine blk_alloc ?_ _)); refine blk_far ?_ NB237_262.out _; (with_reducible repeat (first | refine blk_drewN ?_ _ | refine blk_drew ?_ | refine blk_alloc ?_ _)); refine blk_far ?_ NB237_262.out _; (with_reducible repeat (first | refine blk_drewN ?_ _ | refine blk_drew ?_ | refine blk_alloc ?_ _)); refine blk_far ?_ NB237_262.out _; (with_reducible repeat (first | refine blk_drewN ?_ _ | refine blk_drew ?_ | refine blk_alloc ?_ _)); refine blk_far ?_ NB237_262.out _; (with_reducible repeat (first | refine blk_drewN ?_ _ | refine blk_drew ?_ | refine blk_alloc ?_ _)); exact BK237.out⟩, ⟨by (with_reducible repeat (first | refine blk_drewN ?_ _ | refine blk_drew ?_ | refine blk_alloc ?_ _)); refine blk_far ?_ NB249_262.out _; (with_reducible repeat (first | refine blk_drewN ?_ _ | refine blk_drew ?_ | refine blk_alloc ?_ _)); refine blk_far ?_ NB249_262.out _; (with_reducible repeat (first | refine blk_drewN ?_ _ | refine blk_drew ?_ | refine blk_alloc ?_ _)); refine blk_far ?_ NB249_262.out _; (with_reducible repeat (first | refine blk_drewN ?_ _ | refine blk_drew ?_ | refine blk_alloc ?_ _)); refine blk_far ?_ NB249_262.out _; (with_reducible repeat (first | refine blk_drewN ?_ _ | refine blk_drew ?_ | refine blk_alloc ?_ _)); refine blk_far ?_ NB249_262.out _; (with_reducible repeat (first | refine blk_drewN ?_ _ | refine blk_drew ?_ | refine blk_alloc ?_ _)); exact BK249.out⟩, ⟨by (with_reducible repeat (first | refine blk_drewN ?_ _ | refine blk_drew ?_ | refine blk_alloc ?_ _)); refine blk_far ?_ NB250_262.out _; (with_reducible repeat (first | refine blk_drewN ?_ _ | refine blk_drew ?_ | refine blk_alloc ?_ _)); refine blk_far ?_ NB250_262.out _; (with_reducible repeat (first | refine blk_drewN ?_ _ | refine blk_drew ?_ | refine blk_alloc ?_ _)); refine blk_far ?_ NB250_262.out _; (with_reducible repeat (first | refine blk_drewN ?_ _ | refine blk_drew ?_ | refine blk_alloc ?_ _)); refine blk_far ?_ NB250_262.out _; (with_reducible repeat (first | refine blk_drewN ?_ _ | refine blk_drew ?_ | refine blk_alloc ?_ _)); refine blk_far ?_ NB250_262.out _; (with_reducible repeat (first | refine blk_drewN ?_ _ | refine blk_drew ?_ | refine blk_alloc ?_ _)); exact BK250.out⟩, ⟨by (with_reducible repeat (first | refine blk_drewN ?_ _ | refine blk_drew ?_ | refine blk_alloc ?_ _)); refine blk_put (cs := #[.int .i64 t256, .int .i64 t257, .bool t258, .int .i64 t259, .int .i64 0]) ?_ 4 _ rfl; (with_reducible repeat (first | refine blk_drewN ?_ _ | refine blk_drew ?_ | refine blk_alloc ?_ _)); refine blk_put (cs := #[.int .i64 t256, .int .i64 t257, .bool t258, .int .i64 0, .int .i64 0]) ?_ 3 _ rfl; (with_reducible repeat (first | refine blk_drewN ?_ _ | refine blk_drew ?_ | refine blk_alloc ?_ _)); refine blk_put (cs := #[.int .i64 t256, .int .i64 t257, .bool false, .int .i64 0, .int .i64 0]) ?_ 2 _ rfl; (with_reducible repeat (first | refine blk_drewN ?_ _ | refine blk_drew ?_ | refine blk_alloc ?_ _)); refine blk_put (cs := #[.int .i64 t256, .int .i64 0, .bool false, .int .i64 0, .int .i64 0]) ?_ 1 _ rfl; (with_reducible repeat (first | refine blk_drewN ?_ _ | refine blk_drew ?_ | refine blk_alloc ?_ _)); refine blk_put (cs := #[.int .i64 0, .int .i64 0, .bool false, .int .i64 0, .int .i64 0]) ?_ 0 _ rfl; (with_reducible repeat (first | refine blk_drewN ?_ _ | refine blk_drew ?_ | refine blk_alloc ?_ _)); exact BK262.out⟩, ⟨by repeat (first | (with_reducible first | exact HB.out | apply below_alloc | apply pw_below_drewN | apply below_drew1 | refine below_set ?_ GE237.out | refine below_set ?_ GE249.out | refine below_set ?_ GE250.out | refine below_set ?_ GE262.out) | exact HB.out)⟩⟩
                      · rw [if_neg c59] at H
                        have c59b0 : ((t261 == 0) != (decide (((rd_T34 y243 x19_1).f0) ≤ 9))) = false := by simpa using c59
                        (try (have c59b1 : decide ((t261 == 0) = (decide (((rd_T34 y243 x19_1).f0) ≤ 9))) = true := by simpa using c59))
                        (try (have c59b2 : ((t261 == 0) == (decide (((rd_T34 y243 x19_1).f0) ≤ 9))) = true := by simpa using c59))
                        clear c59
                        (first | rw [c59b0] | (simp only [i64_w, i32_w]; rw [c59b0]) | skip)
                        by_cases c64 : t261 = 0
                        · rw [if_pos c64] at H
                          have c64b0 : (t261 == 0) = true := beq_iff_eq.mpr c64
                          (try (have c59b0d : decide (((rd_T34 y243 x19_1).f0) ≤ 9) = true := by simpa [c64b0] using c59b0))
                          have c64b1 : (t261 != 0) = false := bne_eq_false_iff_eq.mpr c64
                          clear c64
                          have H' := Aside0.mk H
                          clear H
                          have hnb65 := NB249_237.out
                          have hnc65 := NB237_249.out
                          have hnb66 := NB249_250.out
                          have hnc66 := NB250_249.out
                          have hnb67 := NB249_262.out
                          have hnc67 := NB262_249.out
                          have hcz68_0 : w54.cell? ⟨gb249, 0, none⟩ = some (.int .u8 ((rd_T34 y243 x19_1).f0)) := (blk_cell BK249.out 0).trans rfl
                          have hcz68_1 : w54.cell? ⟨gb249, 1, none⟩ = some (.bool ((rd_T34 y243 x19_1).f1)) := (blk_cell BK249.out 1).trans rfl
                          have hcz68_2 : w54.cell? ⟨gb249, 2, none⟩ = some (.int .u8 ((rd_T34 y243 x19_1).f2)) := (blk_cell BK249.out 2).trans rfl
                          have hfz68_0 := blk_frozen BK249.out 0
                          have hfz68_1 := blk_frozen BK249.out 1
                          have hfz68_2 := blk_frozen BK249.out 2
                          go_wp2
                          go_meet
                          case rel => exact ⟨_, (false), (by first | rfl | (simp; done) | (simp [*]; done)), H', ⟨by have := HK1.out; first | omega | exact Nat.le_refl _⟩, ⟨by (with_reducible repeat (first | refine blk_drewN ?_ _ | refine blk_drew ?_ | refine blk_alloc ?_ _)); refine blk_far ?_ NB237_262.out _; (with_reducible repeat (first | refine blk_drewN ?_ _ | refine blk_drew ?_ | refine blk_alloc ?_ _)); refine blk_far ?_ NB237_262.out _; (with_reducible repeat (first | refine blk_drewN ?_ _ | refine blk_drew ?_ | refine blk_alloc ?_ _)); refine blk_far ?_ NB237_262.out _; (with_reducible repeat (first | refine blk_drewN ?_ _ | refine blk_drew ?_ | refine blk_alloc ?_ _)); refine blk_far ?_ NB237_262.out _; (with_reducible repeat (first | refine blk_drewN ?_ _ | refine blk_drew ?_ | refine blk_alloc ?_ _)); refine blk_far ?_ NB237_262.out _; (with_reducible repeat (first | refine blk_drewN ?_ _ | refine blk_drew ?_ | refine blk_alloc ?_ _)); exact BK237.out⟩, ⟨by (with_reducible repeat (first | refine blk_drewN ?_ _ | refine blk_drew ?_ | refine blk_alloc ?_ _)); refine blk_far ?_ NB249_262.out _; (with_reducible repeat (first | refine blk_drewN ?_ _ | refine blk_drew ?_ | refine blk_alloc ?_ _)); refine blk_far ?_ NB249_262.out _; (with_reducible repeat (first | refine blk_drewN ?_ _ | refine blk_drew ?_ | refine blk_alloc ?_ _)); refine blk_far ?_ NB249_262.out _; (with_reducible repeat (first | refine blk_drewN ?_ _ | refine blk_drew ?_ | refine blk_alloc ?_ _)); refine blk_far ?_ NB249_262.out _; (with_reducible repeat (first | refine blk_drewN ?_ _ | refine blk_drew ?_ | refine blk_alloc ?_ _)); refine blk_far ?_ NB249_262.out _; (with_reducible repeat (first | refine blk_drewN ?_ _ | refine blk_drew ?_ | refine blk_alloc ?_ _)); exact BK249.out⟩, ⟨by (with_reducible repeat (first | refine blk_drewN ?_ _ | refine blk_drew ?_ | refine blk_alloc ?_ _)); refine blk_far ?_ NB250_262.out _; (with_reducible repeat (first | refine blk_drewN ?_ _ | refine blk_drew ?_ | refine blk_alloc ?_ _)); refine blk_far ?_ NB250_262.out _; (with_reducible repeat (first | refine blk_drewN ?_ _ | refine blk_drew ?_ | refine blk_alloc ?_ _)); refine blk_far ?_ NB250_262.out _; (with_reducible repeat (first | refine blk_drewN ?_ _ | refine blk_drew ?_ | refine blk_alloc ?_ _)); refine blk_far ?_ NB250_262.out _; (with_reducible repeat (first | refine blk_drewN ?_ _ | refine blk_drew ?_ | refine blk_alloc ?_ _)); refine blk_far ?_ NB250_262.out _; (with_reducible repeat (first | refine blk_drewN ?_ _ | refine blk_drew ?_ | refine blk_alloc ?_ _)); exact BK250.out⟩, ⟨by (with_reducible repeat (first | refine blk_drewN ?_ _ | refine blk_drew ?_ | refine blk_alloc ?_ _)); refine blk_put (cs := #[.int .i64 t256, .int .i64 t257, .bool t258, .int .i64 t259, .int .i64 0]) ?_ 4 _ rfl; (with_reducible repeat (first | refine blk_drewN ?_ _ | refine blk_drew ?_ | refine blk_alloc ?_ _)); refine blk_put (cs := #[.int .i64 t256, .int .i64 t257, .bool t258, .int .i64 0, .int .i64 0]) ?_ 3 _ rfl; (with_reducible repeat (first | refine blk_drewN ?_ _ | refine blk_drew ?_ | refine blk_alloc ?_ _)); refine blk_put (cs := #[.int .i64 t256, .int .i64 t257, .bool false, .int .i64 0, .int .i64 0]) ?_ 2 _ rfl; (with_reducible repeat (first | refine blk_drewN ?_ _ | refine blk_drew ?_ | refine blk_alloc ?_ _)); refine blk_put (cs := #[.int .i64 t256, .int .i64 0, .bool false, .int .i64 0, .int .i64 0]) ?_ 1 _ rfl; (with_reducible repeat (first | refine blk_drewN ?_ _ | refine blk_drew ?_ | refine blk_alloc ?_ _)); refine blk_put (cs := #[.int .i64 0, .int .i64 0, .bool false, .int .i64 0, .int .i64 0]) ?_ 0 _ rfl; (with_reducible repeat (first | refine blk_drewN ?_ _ | refine blk_drew ?_ | refine blk_alloc ?_ _)); exact BK262.out⟩, ⟨by repeat (first | (with_reducible first | exact HB.out | apply below_alloc | apply pw_below_drewN | apply below_drew1 | refine below_set ?_ GE237.out | refine below_set ?_ GE249.out | refine below_set ?_ GE250.out | refine below_set ?_ GE262.out) | exact HB.out)⟩⟩
                        · rw [if_neg c64] at H
                          have c64b0 : (t261 == 0) = false := beq_eq_false_iff_ne.mpr c64
                          (try (have c59b0d : decide (((rd_T34 y243 x19_1).f0) ≤ 9) = false := by simpa [c64b0] using c59b0))
                          have c64b1 : (t261 != 0) = true := bne_iff_ne.mpr c64
                          have H' := Aside0.mk H
                          clear H
                          have hnb69 := NB249_237.out
                          have hnc69 := NB237_249.out
                          have hnb70 := NB249_250.out
                          have hnc70 := NB250_249.out
                          have hnb71 := NB249_262.out
                          have hnc71 := NB262_249.out
                          have hcz72_0 : w54.cell? ⟨gb249, 0, none⟩ = some (.int .u8 ((rd_T34 y243 x19_1).f0)) := (blk_cell BK249.out 0).trans rfl
                          have hcz72_1 : w54.cell? ⟨gb249, 1, none⟩ = some (.bool ((rd_T34 y243 x19_1).f1)) := (blk_cell BK249.out 1).trans rfl
                          have hcz72_2 : w54.cell? ⟨gb249, 2, none⟩ = some (.int .u8 ((rd_T34 y243 x19_1).f2)) := (blk_cell BK249.out 2).trans rfl
                          have hfz72_0 := blk_frozen BK249.out 0
                          have hfz72_1 := blk_frozen BK249.out 1
                          have hfz72_2 := blk_frozen BK249.out 2
                          have hnb73 := NB262_237.out
                          have hnc73 := NB237_262.out
                          have hnb74 := NB262_250.out
                          have hnc74 := NB250_262.out
                          have hcz75_0 : w54.cell? ⟨gb262, 0, none⟩ = some (.int .i64 0) := (blk_cell BK262.out 0).trans rfl
                          have hcz75_1 : w54.cell? ⟨gb262, 1, none⟩ = some (.int .i64 0) := (blk_cell BK262.out 1).trans rfl
                          have hcz75_2 : w54.cell? ⟨gb262, 2, none⟩ = some (.bool false) := (blk_cell BK262.out 2).trans rfl
                          have hcz75_3 : w54.cell? ⟨gb262, 3, none⟩ = some (.int .i64 0) := (blk_cell BK262.out 3).trans rfl
                          have hcz75_4 : w54.cell? ⟨gb262, 4, none⟩ = some (.int .i64 0) := (blk_cell BK262.out 4).trans rfl
                          have hfz75_0 := blk_frozen BK262.out 0
                          have hfz75_1 := blk_frozen BK262.out 1
                          have hfz75_2 := blk_frozen BK262.out 2
                          have hfz75_3 := blk_frozen BK262.out 3
                          have hfz75_4 := blk_frozen BK262.out 4
                          have hnb76 := NB237_250.out
                          have hnc76 := NB250_237.out
                          have hcz77_0 : w54.cell? ⟨gb237, 0, none⟩ = some (.int .i64 x238000_1) := (blk_cell BK237.out 0).trans rfl
                          have hcz77_1 : w54.cell? ⟨gb237, 1, none⟩ = some (.int .i64 x238001_1) := (blk_cell BK237.out 1).trans rfl
                          have hcz77_2 : w54.cell? ⟨gb237, 2, none⟩ = some (.bool x238002_1) := (blk_cell BK237.out 2).trans rfl
                          have hcz77_3 : w54.cell? ⟨gb237, 3, none⟩ = some (.int .i64 x238003_1) := (blk_cell BK237.out 3).trans rfl
                          have hcz77_4 : w54.cell? ⟨gb237, 4, none⟩ = some (.int .i64 x238004_1) := (blk_cell BK237.out 4).trans rfl
                          have hfz77_0 := blk_frozen BK237.out 0
                          have hfz77_1 := blk_frozen BK237.out 1
                          have hfz77_2 := blk_frozen BK237.out 2
                          have hfz77_3 := blk_frozen BK237.out 3
                          have hfz77_4 := blk_frozen BK237.out 4
                          go_wp2
                          go_meet
                          case rel => exact ⟨_, ((!(t256 == x238000_1) || (!(t257 == x238001_1) || (!(t258 == x238002_1) || (!(t259 == x238003_1) || (!(t260 == x238004_1))))))), (by first | rfl | (simp; done) | (simp [*]; done)), H', ⟨by have := HK1.out; first | omega | exact Nat.le_refl _⟩, ⟨by (with_reducible repeat (first | refine blk_drewN ?_ _ | refine blk_drew ?_ | refine blk_alloc ?_ _)); refine blk_far ?_ NB237_262.out _; (with_reducible repeat (first | refine blk_drewN ?_ _ | refine blk_drew ?_ | refine blk_alloc ?_ _)); refine blk_far ?_ NB237_262.out _; (with_reducible repeat (first | refine blk_drewN ?_ _ | refine blk_drew ?_ | refine blk_alloc ?_ _)); refine blk_far ?_ NB237_262.out _; (with_reducible repeat (first | refine blk_drewN ?_ _ | refine blk_drew ?_ | refine blk_alloc ?_ _)); refine blk_far ?_ NB237_262.out _; (with_reducible repeat (first | refine blk_drewN ?_ _ | refine blk_drew ?_ | refine blk_alloc ?_ _)); refine blk_far ?_ NB237_262.out _; (with_reducible repeat (first | refine blk_drewN ?_ _ | refine blk_drew ?_ | refine blk_alloc ?_ _)); exact BK237.out⟩, ⟨by (with_reducible repeat (first | refine blk_drewN ?_ _ | refine blk_drew ?_ | refine blk_alloc ?_ _)); refine blk_far ?_ NB249_262.out _; (with_reducible repeat (first | refine blk_drewN ?_ _ | refine blk_drew ?_ | refine blk_alloc ?_ _)); refine blk_far ?_ NB249_262.out _; (with_reducible repeat (first | refine blk_drewN ?_ _ | refine blk_drew ?_ | refine blk_alloc ?_ _)); refine blk_far ?_ NB249_262.out _; (with_reducible repeat (first | refine blk_drewN ?_ _ | refine blk_drew ?_ | refine blk_alloc ?_ _)); refine blk_far ?_ NB249_262.out _; (with_reducible repeat (first | refine blk_drewN ?_ _ | refine blk_drew ?_ | refine blk_alloc ?_ _)); refine blk_far ?_ NB249_262.out _; (with_reducible repeat (first | refine blk_drewN ?_ _ | refine blk_drew ?_ | refine blk_alloc ?_ _)); exact BK249.out⟩, ⟨by (with_reducible repeat (first | refine blk_drewN ?_ _ | refine blk_drew ?_ | refine blk_alloc ?_ _)); refine blk_far ?_ NB250_262.out _; (with_reducible repeat (first | refine blk_drewN ?_ _ | refine blk_drew ?_ | refine blk_alloc ?_ _)); refine blk_far ?_ NB250_262.out _; (with_reducible repeat (first | refine blk_drewN ?_ _ | refine blk_drew ?_ | refine blk_alloc ?_ _)); refine blk_far ?_ NB250_262.out _; (with_reducible repeat (first | refine blk_drewN ?_ _ | refine blk_drew ?_ | refine blk_alloc ?_ _)); refine blk_far ?_ NB250_262.out _; (with_reducible repeat (first | refine blk_drewN ?_ _ | refine blk_drew ?_ | refine blk_alloc ?_ _)); refine blk_far ?_ NB250_262.out _; (with_reducible repeat (first | refine blk_drewN ?_ _ | refine blk_drew ?_ | refine blk_alloc ?_ _)); exact BK250.out⟩, ⟨by (with_reducible repeat (first | refine blk_drewN ?_ _ | refine blk_drew ?_ | refine blk_alloc ?_ _)); refine blk_put (cs := #[.int .i64 t256, .int .i64 t257, .bool t258, .int .i64 t259, .int .i64 0]) ?_ 4 _ rfl; (with_reducible repeat (first | refine blk_drewN ?_ _ | refine blk_drew ?_ | refine blk_alloc ?_ _)); refine blk_put (cs := #[.int .i64 t256, .int .i64 t257, .bool t258, .int .i64 0, .int .i64 0]) ?_ 3 _ rfl; (with_reducible repeat (first | refine blk_drewN ?_ _ | refine blk_drew ?_ | refine blk_alloc ?_ _)); refine blk_put (cs := #[.int .i64 t256, .int .i64 t257, .bool false, .int .i64 0, .int .i64 0]) ?_ 2 _ rfl; (with_reducible repeat (first | refine blk_drewN ?_ _ | refine blk_drew ?_ | refine blk_alloc ?_ _)); refine blk_put (cs := #[.int .i64 t256, .int .i64 0, .bool false, .int .i64 0, .int .i64 0]) ?_ 1 _ rfl; (with_reducible repeat (first | refine blk_drewN ?_ _ | refine blk_drew ?_ | refine blk_alloc ?_ _)); refine blk_put (cs := #[.int .i64 0, .int .i64 0, .bool false, .int .i64 0, .int .i64 0]) ?_ 0 _ rfl; (with_reducible repeat (first | refine blk_drewN ?_ _ | refine blk_drew ?_ | refine blk_alloc ?_ _)); exact BK262.out⟩, ⟨by repeat (first | (with_reducible first | exact HB.out | apply below_alloc | apply pw_below_drewN | apply below_drew1 | refine below_set ?_ GE237.out | refine below_set ?_ GE249.out | refine below_set ?_ GE250.out | refine below_set ?_ GE262.out) | exact HB.out)⟩⟩
                    case rest =>
                      clear HC47
                      try clear c1
                      try clear q1
                      try clear c2
                      try clear p2
                      try clear q2
                      try clear hx2
                      try clear c3
                      try clear c4
                      try clear c5
                      try clear c5b0
                      try clear c5b1
                      try clear c6
                      try clear c6b0
                      try clear c6b1
                      try clear c7
                      try clear c10
                      try clear q12
                      try clear c13
                      try clear c13b0
                      try clear c14
                      try clear c14b0
                      try clear c15
                      try clear c15b0
                      try clear c16
                      try clear c18
                      try clear c19
                      try clear c22
                      try clear c23
                      try clear p24
                      try clear q24
                      try clear hx24
                      try clear c26
                      try clear c26b0
                      try clear c26b1
                      try clear c28
                      try clear c29
                      try clear c30
                      try clear c32
                      try clear c37
                      try clear c37b0
                      try clear c38
                      try clear c39
                      try clear c41
                      try clear c48
                      try clear c49
                      try clear c51
                      try clear c55
                      try clear c56
                      try clear c57
                      try clear c59
                      try clear c59b0
                      try clear c59b1
                      try clear c59b2
                      try clear c60
                      try clear c61
                      try clear c62
                      try clear c64
                      try clear c64b0
                      try clear c64b1
                      try clear c65
                      try clear c66
                      try clear c67
                      try clear c69
                      try clear c70
                      try clear c71
                      try clear c73
                      try clear c74
                      try clear c76
                      try clear hcz10_0
                      try clear hcz10_1
                      try clear hcz10_2
                      try clear hcz10_3
                      try clear hcz10_4
                      try clear hcz19_0
                      try clear hcz19_1
                      try clear hcz19_2
                      try clear hcz20_0
                      try clear hcz20_1
                      try clear hcz20_2
                      try clear hcz20_3
                      try clear hcz20_4
                      try clear hcz24_0
                      try clear hcz24_1
                      try clear hcz24_2
                      try clear hcz24_3
                      try clear hcz24_4
                      try clear hcz25_0
                      try clear hcz25_1
                      try clear hcz25_2
                      try clear hcz31_0
                      try clear hcz31_1
                      try clear hcz31_2
                      try clear hcz31_3
                      try clear hcz31_4
                      try clear hcz33_0
                      try clear hcz33_1
                      try clear hcz33_2
                      try clear hcz35_0
                      try clear hcz35_1
                      try clear hcz35_2
                      try clear hcz35_3
                      try clear hcz35_4
                      try clear hcz36_0
                      try clear hcz36_1
                      try clear hcz36_2
                      try clear hcz36_3
                      try clear hcz36_4
                      try clear hcz40_0
                      try clear hcz40_1
                      try clear hcz40_2
                      try clear hcz40_3
                      try clear hcz40_4
                      try clear hcz42_0
                      try clear hcz42_1
                      try clear hcz42_2
                      try clear hcz44_0
                      try clear hcz44_1
                      try clear hcz44_2
                      try clear hcz44_3
                      try clear hcz44_4
                      try clear hcz45_0
                      try clear hcz45_1
                      try clear hcz45_2
                      try clear hcz45_3
                      try clear hcz45_4
                      try clear hcz50_0
                      try clear hcz50_1
                      try clear hcz50_2
                      try clear hcz50_3
                      try clear hcz50_4
                      try clear hcz52_0
                      try clear hcz52_1
                      try clear hcz52_2
                      try clear hcz58_0
                      try clear hcz58_1
                      try clear hcz58_2
                      try clear hcz58_3
                      try clear hcz58_4
                      try clear hcz63_0
                      try clear hcz63_1
                      try clear hcz63_2
                      try clear hcz68_0
                      try clear hcz68_1
                      try clear hcz68_2
                      try clear hcz72_0
                      try clear hcz72_1
                      try clear hcz72_2
                      try clear hcz75_0
                      try clear hcz75_1
                      try clear hcz75_2
                      try clear hcz75_3
                      try clear hcz75_4
                      try clear hcz77_0
                      try clear hcz77_1
                      try clear hcz77_2
                      try clear hcz77_3
                      try clear hcz77_4
                      try clear hcz8_0
                      try clear hcz8_1
                      try clear hcz8_2
                      try clear hcz8_3
                      try clear hcz8_4
                      try clear hfz10_0
                      try clear hfz10_1
                      try clear hfz10_2
                      try clear hfz10_3
                      try clear hfz10_4
                      try clear hfz19_0
                      try clear hfz19_1
                      try clear hfz19_2
                      try clear hfz20_0
                      try clear hfz20_1
                      try clear hfz20_2
                      try clear hfz20_3
                      try clear hfz20_4
                      try clear hfz24_0
                      try clear hfz24_1
                      try clear hfz24_2
                      try clear hfz24_3
                      try clear hfz24_4
                      try clear hfz25_0
                      try clear hfz25_1
                      try clear hfz25_2
                      try clear hfz31_0
                      try clear hfz31_1
                      try clear hfz31_2
                      try clear hfz31_3
                      try clear hfz31_4
                      try clear hfz33_0
                      try clear hfz33_1
                      try clear hfz33_2
                      try clear hfz35_0
                      try clear hfz35_1
                      try clear hfz35_2
                      try clear hfz35_3
                      try clear hfz35_4
                      try clear hfz36_0
                      try clear hfz36_1
                      try clear hfz36_2
                      try clear hfz36_3
                      try clear hfz36_4
                      try clear hfz40_0
                      try clear hfz40_1
                      try clear hfz40_2
                      try clear hfz40_3
                      try clear hfz40_4
                      try clear hfz42_0
                      try clear hfz42_1
                      try clear hfz42_2
                      try clear hfz44_0
                      try clear hfz44_1
                      try clear hfz44_2
                      try clear hfz44_3
                      try clear hfz44_4
                      try clear hfz45_0
                      try clear hfz45_1
                      try clear hfz45_2
                      try clear hfz45_3
                      try clear hfz45_4
                      try clear hfz50_0
                      try clear hfz50_1
                      try clear hfz50_2
                      try clear hfz50_3
                      try clear hfz50_4
                      try clear hfz52_0
                      try clear hfz52_1
                      try clear hfz52_2
                      try clear hfz58_0
                      try clear hfz58_1
                      try clear hfz58_2
                      try clear hfz58_3
                      try clear hfz58_4
                      try clear hfz63_0
                      try clear hfz63_1
                      try clear hfz63_2
                      try clear hfz68_0
                      try clear hfz68_1
                      try clear hfz68_2
                      try clear hfz72_0
                      try clear hfz72_1
                      try clear hfz72_2
                      try clear hfz75_0
                      try clear hfz75_1
                      try clear hfz75_2
                      try clear hfz75_3
                      try clear hfz75_4
                      try clear hfz77_0
                      try clear hfz77_1
                      try clear hfz77_2
                      try clear hfz77_3
                      try clear hfz77_4
                      try clear hfz8_0
                      try clear hfz8_1
                      try clear hfz8_2
                      try clear hfz8_3
                      try clear hfz8_4
                      try clear hx248_0
                      try clear hx248_1
                      try clear hx248_2
                      try clear p2
                      try clear p248
                      try clear q1
                      try clear q12
                      try clear q248
                      obtain ⟨kq, x60_46, rfl, HA, HJ46, BK237, BK249, BK250, BK262, HB⟩ := hcut
                      cases kq with
                      | zero => exact absurd HA.out (by simp [jackstaylaw06_ConfRight.j1])
                      | succ kj46 =>
                        have H := HA.out
                        clear HA
                        simp only [jackstaylaw06_ConfRight.j1] at H
                        by_cases c78 : x60_46 = true
                        · subst c78
                          have H1 : (some false) = some r := by rw [if_pos rfl] at H; exact H
                          clear H
                          have H := H1
                          clear H1
                          obtain rfl := Option.some.inj H
                          exact absurd hT_ (by decide)
                        · replace c78 := Bool.eq_false_iff.mpr c78
                          subst c78
                          have H1 : (if ((rd_T34 y243 x19_1).f0) ≥ 5 then (if x238002_1 = true then (if (false != false) = true then (some false) else (jackstaylaw06_ConfRight.j2 kj46 y243 (y243.length : Int) x19_1 t256 t257 t258 t259 t260)) else (if ((rd_T34 y243 x19_1).f0) ≤ 7 then (if (t258 != (decide (x238000_1 > 247))) = true then (some false) else (jackstaylaw06_ConfRight.j2 kj46 y243 (y243.length : Int) x19_1 t256 t257 t258 t259 t260)) else (if (t258 != false) = true then (some false) else (jackstaylaw06_ConfRight.j2 kj46 y243 (y243.length : Int) x19_1 t256 t257 t258 t259 t260)))) else (if x238002_1 = true then (if (false != false) = true then (some false) else (jackstaylaw06_ConfRight.j2 kj46 y243 (y243.length : Int) x19_1 t256 t257 t258 t259 t260)) else (if (t258 != false) = true then (some false) else (jackstaylaw06_ConfRight.j2 kj46 y243 (y243.length : Int) x19_1 t256 t257 t258 t259 t260)))) = some r := by rw [if_neg (show ¬ (false = true) by decide)] at H; exact H
                          clear H
                          have H := H1
                          clear H1
                          by_cases c79 : ((rd_T34 y243 x19_1).f0) ≥ 5
                          · rw [if_pos c79] at H
                            have c79b0 : decide (5 ≤ ((rd_T34 y243 x19_1).f0)) = true := decide_eq_true c79
                            clear c79
                            by_cases c80 : x238002_1 = true
                            · subst c80
                              have H1 : (if (false != false) = true then (some false) else (jackstaylaw06_ConfRight.j2 kj46 y243 (y243.length : Int) x19_1 t256 t257 t258 t259 t260)) = some r := by rw [if_pos rfl] at H; exact H
                              clear H
                              have H := H1
                              clear H1
                              by_cases c81 : (false != false) = true
                              · rw [if_pos c81] at H
                                have c81b0 : (false != false) = true := c81
                                (try (have c81b1 : decide (false = false) = false := by revert c81; simp))
                                (try (have c81b2 : (false == false) = false := by revert c81; simp))
                                (try (have c81b3 : ¬ (false = false) := by revert c81; simp))
                                clear c81
                                obtain rfl := Option.some.inj H
                                exact absurd hT_ (by decide)
                              · rw [if_neg c81] at H
                                have c81b0 : (false != false) = false := by revert c81; simp
                                (try (have c81b1 : decide (false = false) = true := by revert c81; simp))
                                (try (have c81b2 : (false == false) = true := by revert c81; simp))
                                clear c81
                                have H' := Aside0.mk H
                                clear H
                                have hnb82 := NB262_237.out
                                have hnc82 := NB237_262.out
                                have hnb83 := NB262_249.out
                                have hnc83 := NB249_262.out
                                have hnb84 := NB262_250.out
                                have hnc84 := NB250_262.out
                                have hcz85_0 : wc.cell? ⟨gb262, 0, none⟩ = some (.int .i64 t256) := (blk_cell BK262.out 0).trans rfl
                                have hcz85_1 : wc.cell? ⟨gb262, 1, none⟩ = some (.int .i64 t257) := (blk_cell BK262.out 1).trans rfl
                                have hcz85_2 : wc.cell? ⟨gb262, 2, none⟩ = some (.bool t258) := (blk_cell BK262.out 2).trans rfl
                                have hcz85_3 : wc.cell? ⟨gb262, 3, none⟩ = some (.int .i64 t259) := (blk_cell BK262.out 3).trans rfl
                                have hcz85_4 : wc.cell? ⟨gb262, 4, none⟩ = some (.int .i64 t260) := (blk_cell BK262.out 4).trans rfl
                                have hfz85_0 := blk_frozen BK262.out 0
                                have hfz85_1 := blk_frozen BK262.out 1
                                have hfz85_2 := blk_frozen BK262.out 2
                                have hfz85_3 := blk_frozen BK262.out 3
                                have hfz85_4 := blk_frozen BK262.out 4
                                have hnb86 := NB237_249.out
                                have hnc86 := NB249_237.out
                                have hnb87 := NB237_250.out
                                have hnc87 := NB250_237.out
                                have hcz88_0 : wc.cell? ⟨gb237, 0, none⟩ = some (.int .i64 x238000_1) := (blk_cell BK237.out 0).trans rfl
                                have hcz88_1 : wc.cell? ⟨gb237, 1, none⟩ = some (.int .i64 x238001_1) := (blk_cell BK237.out 1).trans rfl
                                have hcz88_2 : wc.cell? ⟨gb237, 2, none⟩ = some (.bool true) := (blk_cell BK237.out 2).trans rfl
                                have hcz88_3 : wc.cell? ⟨gb237, 3, none⟩ = some (.int .i64 x238003_1) := (blk_cell BK237.out 3).trans rfl
                                have hcz88_4 : wc.cell? ⟨gb237, 4, none⟩ = some (.int .i64 x238004_1) := (blk_cell BK237.out 4).trans rfl
                                have hfz88_0 := blk_frozen BK237.out 0
                                have hfz88_1 := blk_frozen BK237.out 1
                                have hfz88_2 := blk_frozen BK237.out 2
                                have hfz88_3 := blk_frozen BK237.out 3
                                have hfz88_4 := blk_frozen BK237.out 4
                                have hnb89 := NB249_250.out
                                have hnc89 := NB250_249.out
                                have hcz90_0 : wc.cell? ⟨gb249, 0, none⟩ = some (.int .u8 ((rd_T34 y243 x19_1).f0)) := (blk_cell BK249.out 0).trans rfl
                                have hcz90_1 : wc.cell? ⟨gb249, 1, none⟩ = some (.bool ((rd_T34 y243 x19_1).f1)) := (blk_cell BK249.out 1).trans rfl
                                have hcz90_2 : wc.cell? ⟨gb249, 2, none⟩ = some (.int .u8 ((rd_T34 y243 x19_1).f2)) := (blk_cell BK249.out 2).trans rfl
                                have hfz90_0 := blk_frozen BK249.out 0
                                have hfz90_1 := blk_frozen BK249.out 1
                                have hfz90_2 := blk_frozen BK249.out 2
                                have hcz91_0 : wc.cell? ⟨gb250, 0, none⟩ = some (.int .i64 x238000_1) := (blk_cell BK250.out 0).trans rfl
                                have hcz91_1 : wc.cell? ⟨gb250, 1, none⟩ = some (.int .i64 x238001_1) := (blk_cell BK250.out 1).trans rfl
                                have hcz91_2 : wc.cell? ⟨gb250, 2, none⟩ = some (.bool true) := (blk_cell BK250.out 2).trans rfl
                                have hcz91_3 : wc.cell? ⟨gb250, 3, none⟩ = some (.int .i64 x238003_1) := (blk_cell BK250.out 3).trans rfl
                                have hcz91_4 : wc.cell? ⟨gb250, 4, none⟩ = some (.int .i64 x238004_1) := (blk_cell BK250.out 4).trans rfl
                                have hfz91_0 := blk_frozen BK250.out 0
                                have hfz91_1 := blk_frozen BK250.out 1
                                have hfz91_2 := blk_frozen BK250.out 2
                                have hfz91_3 := blk_frozen BK250.out 3
                                have hfz91_4 := blk_frozen BK250.out 4
                                go_wp2
                                go_meet
                                case rel => exact ⟨_, (t256), (t257), (t258), (t259), (t260), H', ⟨by have := HK1.out; have := HJ46.out; first | omega | exact Nat.le_refl _⟩, ⟨by (with_reducible repeat (first | refine blk_drewN ?_ _ | refine blk_drew ?_ | refine blk_alloc ?_ _)); refine blk_put (cs := #[.int .i64 t256, .int .i64 t257, .bool t258, .int .i64 t259, .int .i64 x238004_1]) ?_ 4 _ rfl; (with_reducible repeat (first | refine blk_drewN ?_ _ | refine blk_drew ?_ | refine blk_alloc ?_ _)); refine blk_put (cs := #[.int .i64 t256, .int .i64 t257, .bool t258, .int .i64 x238003_1, .int .i64 x238004_1]) ?_ 3 _ rfl; (with_reducible repeat (first | refine blk_drewN ?_ _ | refine blk_drew ?_ | refine blk_alloc ?_ _)); refine blk_put (cs := #[.int .i64 t256, .int .i64 t257, .bool true, .int .i64 x238003_1, .int .i64 x238004_1]) ?_ 2 _ rfl; (with_reducible repeat (first | refine blk_drewN ?_ _ | refine blk_drew ?_ | refine blk_alloc ?_ _)); refine blk_put (cs := #[.int .i64 t256, .int .i64 x238001_1, .bool true, .int .i64 x238003_1, .int .i64 x238004_1]) ?_ 1 _ rfl; (with_reducible repeat (first | refine blk_drewN ?_ _ | refine blk_drew ?_ | refine blk_alloc ?_ _)); refine blk_put (cs := #[.int .i64 x238000_1, .int .i64 x238001_1, .bool true, .int .i64 x238003_1, .int .i64 x238004_1]) ?_ 0 _ rfl; (with_reducible repeat (first | refine blk_drewN ?_ _ | refine blk_drew ?_ | refine blk_alloc ?_ _)); exact BK237.out⟩, ⟨by (with_reducible repeat (first | refine blk_drewN ?_ _ | refine blk_drew ?_ | refine blk_alloc ?_ _)); refine blk_far ?_ NB249_237.out _; (with_reducible repeat (first | refine blk_drewN ?_ _ | refine blk_drew ?_ | refine blk_alloc ?_ _)); refine blk_far ?_ NB249_237.out _; (with_reducible repeat (first | refine blk_drewN ?_ _ | refine blk_drew ?_ | refine blk_alloc ?_ _)); refine blk_far ?_ NB249_237.out _; (with_reducible repeat (first | refine blk_drewN ?_ _ | refine blk_drew ?_ | refine blk_alloc ?_ _)); refine blk_far ?_ NB249_237.out _; (with_reducible repeat (first | refine blk_drewN ?_ _ | refine blk_drew ?_ | refine blk_alloc ?_ _)); refine blk_far ?_ NB249_237.out _; (with_reducible repeat (first | refine blk_drewN ?_ _ | refine blk_drew ?_ | refine blk_alloc ?_ _)); exact BK249.out⟩, ⟨by (with_reducible repeat (first | refine blk_drewN ?_ _ | refine blk_drew ?_ | refine blk_alloc ?_ _)); refine blk_far ?_ NB250_237.out _; (with_reducible repeat (first | refine blk_drewN ?_ _ | refine blk_drew ?_ | refine blk_alloc ?_ _)); refine blk_far ?_ NB250_237.out _; (with_reducible repeat (first | refine blk_drewN ?_ _ | refine blk_drew ?_ | refine blk_alloc ?_ _)); refine blk_far ?_ NB250_237.out _; (with_reducible repeat (first | refine blk_drewN ?_ _ | refine blk_drew ?_ | refine blk_alloc ?_ _)); refine blk_far ?_ NB250_237.out _; (with_reducible repeat (first | refine blk_drewN ?_ _ | refine blk_drew ?_ | refine blk_alloc ?_ _)); refine blk_far ?_ NB250_237.out _; (with_reducible repeat (first | refine blk_drewN ?_ _ | refine blk_drew ?_ | refine blk_alloc ?_ _)); exact BK250.out⟩, ⟨by repeat (first | (with_reducible first | exact HB.out | apply below_alloc | apply pw_below_drewN | apply below_drew1 | refine below_set ?_ GE237.out | refine below_set ?_ GE249.out | refine below_set ?_ GE250.out | refine below_set ?_ GE262.out) | exact HB.out)⟩⟩
                            · replace c80 := Bool.eq_false_iff.mpr c80
                              subst c80
                              have H1 : (if ((rd_T34 y243 x19_1).f0) ≤ 7 then (if (t258 != (decide (x238000_1 > 247))) = true then (some false) else (jackstaylaw06_ConfRight.j2 kj46 y243 (y243.length : Int) x19_1 t256 t257 t258 t259 t260)) else (if (t258 != false) = true then (some false) else (jackstaylaw06_ConfRight.j2 kj46 y243 (y243.length : Int) x19_1 t256 t257 t258 t259 t260))) = some r := by rw [if_neg (show ¬ (false = true) by decide)] at H; exact H
                              clear H
                              have H := H1
                              clear H1
                              by_cases c92 : ((rd_T34 y243 x19_1).f0) ≤ 7
                              · rw [if_pos c92] at H
                                have c92b0 : decide (((rd_T34 y243 x19_1).f0) ≤ 7) = true := decide_eq_true c92
                                clear c92
                                by_cases c93 : (t258 != (decide (x238000_1 > 247))) = true
                                · rw [if_pos c93] at H
                                  have c93b0 : (t258 != (decide (x238000_1 > 247))) = true := c93
                                  (try (have c93b1 : decide (t258 = (decide (x238000_1 > 247))) = false := by simpa using c93))
                                  (try (have c93b2 : (t258 == (decide (x238000_1 > 247))) = false := by simpa using c93))
                                  (try (have c93b3 : ¬ (t258 = (decide (x238000_1 > 247))) := by simpa using c93))
                                  clear c93
                                  obtain rfl := Option.some.inj H
                                  exact absurd hT_ (by decide)
                                · rw [if_neg c93] at H
                                  have c93b0 : (t258 != (decide (x238000_1 > 247))) = false := by simpa using c93
                                  (try (have c93b1 : decide (t258 = (decide (x238000_1 > 247))) = true := by simpa using c93))
                                  (try (have c93b2 : (t258 == (decide (x238000_1 > 247))) = true := by simpa using c93))
                                  clear c93
                                  have H' := Aside0.mk H
                                  clear H
                                  have hnb94 := NB262_237.out
                                  have hnc94 := NB237_262.out
                                  have hnb95 := NB262_249.out
                                  have hnc95 := NB249_262.out
                                  have hnb96 := NB262_250.out
                                  have hnc96 := NB250_262.out
                                  have hcz97_0 : wc.cell? ⟨gb262, 0, none⟩ = some (.int .i64 t256) := (blk_cell BK262.out 0).trans rfl
                                  have hcz97_1 : wc.cell? ⟨gb262, 1, none⟩ = some (.int .i64 t257) := (blk_cell BK262.out 1).trans rfl
                                  have hcz97_2 : wc.cell? ⟨gb262, 2, none⟩ = some (.bool t258) := (blk_cell BK262.out 2).trans rfl
                                  have hcz97_3 : wc.cell? ⟨gb262, 3, none⟩ = some (.int .i64 t259) := (blk_cell BK262.out 3).trans rfl
                                  have hcz97_4 : wc.cell? ⟨gb262, 4, none⟩ = some (.int .i64 t260) := (blk_cell BK262.out 4).trans rfl
                                  have hfz97_0 := blk_frozen BK262.out 0
                                  have hfz97_1 := blk_frozen BK262.out 1
                                  have hfz97_2 := blk_frozen BK262.out 2
                                  have hfz97_3 := blk_frozen BK262.out 3
                                  have hfz97_4 := blk_frozen BK262.out 4
                                  have hnb98 := NB237_249.out
                                  have hnc98 := NB249_237.out
                                  have hnb99 := NB237_250.out
                                  have hnc99 := NB250_237.out
                                  have hcz100_0 : wc.cell? ⟨gb237, 0, none⟩ = some (.int .i64 x238000_1) := (blk_cell BK237.out 0).trans rfl
                                  have hcz100_1 : wc.cell? ⟨gb237, 1, none⟩ = some (.int .i64 x238001_1) := (blk_cell BK237.out 1).trans rfl
                                  have hcz100_2 : wc.cell? ⟨gb237, 2, none⟩ = some (.bool false) := (blk_cell BK237.out 2).trans rfl
                                  have hcz100_3 : wc.cell? ⟨gb237, 3, none⟩ = some (.int .i64 x238003_1) := (blk_cell BK237.out 3).trans rfl
                                  have hcz100_4 : wc.cell? ⟨gb237, 4, none⟩ = some (.int .i64 x238004_1) := (blk_cell BK237.out 4).trans rfl
                                  have hfz100_0 := blk_frozen BK237.out 0
                                  have hfz100_1 := blk_frozen BK237.out 1
                                  have hfz100_2 := blk_frozen BK237.out 2
                                  have hfz100_3 := blk_frozen BK237.out 3
                                  have hfz100_4 := blk_frozen BK237.out 4
                                  have hnb101 := NB249_250.out
                                  have hnc101 := NB250_249.out
                                  have hcz102_0 : wc.cell? ⟨gb249, 0, none⟩ = some (.int .u8 ((rd_T34 y243 x19_1).f0)) := (blk_cell BK249.out 0).trans rfl
                                  have hcz102_1 : wc.cell? ⟨gb249, 1, none⟩ = some (.bool ((rd_T34 y243 x19_1).f1)) := (blk_cell BK249.out 1).trans rfl
                                  have hcz102_2 : wc.cell? ⟨gb249, 2, none⟩ = some (.int .u8 ((rd_T34 y243 x19_1).f2)) := (blk_cell BK249.out 2).trans rfl
                                  have hfz102_0 := blk_frozen BK249.out 0
                                  have hfz102_1 := blk_frozen BK249.out 1
                                  have hfz102_2 := blk_frozen BK249.out 2
                                  have hcz103_0 : wc.cell? ⟨gb250, 0, none⟩ = some (.int .i64 x238000_1) := (blk_cell BK250.out 0).trans rfl
                                  have hcz103_1 : wc.cell? ⟨gb250, 1, none⟩ = some (.int .i64 x238001_1) := (blk_cell BK250.out 1).trans rfl
                                  have hcz103_2 : wc.cell? ⟨gb250, 2, none⟩ = some (.bool false) := (blk_cell BK250.out 2).trans rfl
                                  have hcz103_3 : wc.cell? ⟨gb250, 3, none⟩ = some (.int .i64 x238003_1) := (blk_cell BK250.out 3).trans rfl
                                  have hcz103_4 : wc.cell? ⟨gb250, 4, none⟩ = some (.int .i64 x238004_1) := (blk_cell BK250.out 4).trans rfl
                                  have hfz103_0 := blk_frozen BK250.out 0
                                  have hfz103_1 := blk_frozen BK250.out 1
                                  have hfz103_2 := blk_frozen BK250.out 2
                                  have hfz103_3 := blk_frozen BK250.out 3
                                  have hfz103_4 := blk_frozen BK250.out 4
                                  go_wp2
                                  go_meet
                                  case rel => exact ⟨_, (t256), (t257), (t258), (t259), (t260), H', ⟨by have := HK1.out; have := HJ46.out; first | omega | exact Nat.le_refl _⟩, ⟨by (with_reducible repeat (first | refine blk_drewN ?_ _ | refine blk_drew ?_ | refine blk_alloc ?_ _)); refine blk_put (cs := #[.int .i64 t256, .int .i64 t257, .bool t258, .int .i64 t259, .int .i64 x238004_1]) ?_ 4 _ rfl; (with_reducible repeat (first | refine blk_drewN ?_ _ | refine blk_drew ?_ | refine blk_alloc ?_ _)); refine blk_put (cs := #[.int .i64 t256, .int .i64 t257, .bool t258, .int .i64 x238003_1, .int .i64 x238004_1]) ?_ 3 _ rfl; (with_reducible repeat (first | refine blk_drewN ?_ _ | refine blk_drew ?_ | refine blk_alloc ?_ _)); refine blk_put (cs := #[.int .i64 t256, .int .i64 t257, .bool false, .int .i64 x238003_1, .int .i64 x238004_1]) ?_ 2 _ rfl; (with_reducible repeat (first | refine blk_drewN ?_ _ | refine blk_drew ?_ | refine blk_alloc ?_ _)); refine blk_put (cs := #[.int .i64 t256, .int .i64 x238001_1, .bool false, .int .i64 x238003_1, .int .i64 x238004_1]) ?_ 1 _ rfl; (with_reducible repeat (first | refine blk_drewN ?_ _ | refine blk_drew ?_ | refine blk_alloc ?_ _)); refine blk_put (cs := #[.int .i64 x238000_1, .int .i64 x238001_1, .bool false, .int .i64 x238003_1, .int .i64 x238004_1]) ?_ 0 _ rfl; (with_reducible repeat (first | refine blk_drewN ?_ _ | refine blk_drew ?_ | refine blk_alloc ?_ _)); exact BK237.out⟩, ⟨by (with_reducible repeat (first | refine blk_drewN ?_ _ | refine blk_drew ?_ | refine blk_alloc ?_ _)); refine blk_far ?_ NB249_237.out _; (with_reducible repeat (first | refine blk_drewN ?_ _ | refine blk_drew ?_ | refine blk_alloc ?_ _)); refine blk_far ?_ NB249_237.out _; (with_reducible repeat (first | refine blk_drewN ?_ _ | refine blk_drew ?_ | refine blk_alloc ?_ _)); refine blk_far ?_ NB249_237.out _; (with_reducible repeat (first | refine blk_drewN ?_ _ | refine blk_drew ?_ | refine blk_alloc ?_ _)); refine blk_far ?_ NB249_237.out _; (with_reducible repeat (first | refine blk_drewN ?_ _ | refine blk_drew ?_ | refine blk_alloc ?_ _)); refine blk_far ?_ NB249_237.out _; (with_reducible repeat (first | refine blk_drewN ?_ _ | refine blk_drew ?_ | refine blk_alloc ?_ _)); exact BK249.out⟩, ⟨by (with_reducible repeat (first | refine blk_drewN ?_ _ | refine blk_drew ?_ | refine blk_alloc ?_ _)); refine blk_far ?_ NB250_237.out _; (with_reducible repeat (first | refine blk_drewN ?_ _ | refine blk_drew ?_ | refine blk_alloc ?_ _)); refine blk_far ?_ NB250_237.out _; (with_reducible repeat (first | refine blk_drewN ?_ _ | refine blk_drew ?_ | refine blk_alloc ?_ _)); refine blk_far ?_ NB250_237.out _; (with_reducible repeat (first | refine blk_drewN ?_ _ | refine blk_drew ?_ | refine blk_alloc ?_ _)); refine blk_far ?_ NB250_237.out _; (with_reducible repeat (first | refine blk_drewN ?_ _ | refine blk_drew ?_ | refine blk_alloc ?_ _)); refine blk_far ?_ NB250_237.out _; (with_reducible repeat (first | refine blk_drewN ?_ _ | refine blk_drew ?_ | refine blk_alloc ?_ _)); exact BK250.out⟩, ⟨by repeat (first | (with_reducible first | exact HB.out | apply below_alloc | apply pw_below_drewN | apply below_drew1 | refine below_set ?_ GE237.out | refine below_set ?_ GE249.out | refine below_set ?_ GE250.out | refine below_set ?_ GE262.out) | exact HB.out)⟩⟩
                              · rw [if_neg c92] at H
                                have c92b0 : decide (((rd_T34 y243 x19_1).f0) ≤ 7) = false := decide_eq_false c92
                                clear c92
                                by_cases c104 : (t258 != false) = true
                                · rw [if_pos c104] at H
                                  have c104b0 : (t258 != false) = true := c104
                                  (try (have c104b1 : decide (t258 = false) = false := by simpa using c104))
                                  (try (have c104b2 : (t258 == false) = false := by simpa using c104))
                                  (try (have c104b3 : ¬ (t258 = false) := by simpa using c104))
                                  clear c104
                                  obtain rfl := Option.some.inj H
                                  exact absurd hT_ (by decide)
                                · rw [if_neg c104] at H
                                  have c104b0 : (t258 != false) = false := by simpa using c104
                                  (try (have c104b1 : decide (t258 = false) = true := by simpa using c104))
                                  (try (have c104b2 : (t258 == false) = true := by simpa using c104))
                                  clear c104
                                  have H' := Aside0.mk H
                                  clear H
                                  have hnb105 := NB262_237.out
                                  have hnc105 := NB237_262.out
                                  have hnb106 := NB262_249.out
                                  have hnc106 := NB249_262.out
                                  have hnb107 := NB262_250.out
                                  have hnc107 := NB250_262.out
                                  have hcz108_0 : wc.cell? ⟨gb262, 0, none⟩ = some (.int .i64 t256) := (blk_cell BK262.out 0).trans rfl
                                  have hcz108_1 : wc.cell? ⟨gb262, 1, none⟩ = some (.int .i64 t257) := (blk_cell BK262.out 1).trans rfl
                                  have hcz108_2 : wc.cell? ⟨gb262, 2, none⟩ = some (.bool t258) := (blk_cell BK262.out 2).trans rfl
                                  have hcz108_3 : wc.cell? ⟨gb262, 3, none⟩ = some (.int .i64 t259) := (blk_cell BK262.out 3).trans rfl
                                  have hcz108_4 : wc.cell? ⟨gb262, 4, none⟩ = some (.int .i64 t260) := (blk_cell BK262.out 4).trans rfl
                                  have hfz108_0 := blk_frozen BK262.out 0
                                  have hfz108_1 := blk_frozen BK262.out 1
                                  have hfz108_2 := blk_frozen BK262.out 2
                                  have hfz108_3 := blk_frozen BK262.out 3
                                  have hfz108_4 := blk_frozen BK262.out 4
                                  have hnb109 := NB237_249.out
                                  have hnc109 := NB249_237.out
                                  have hnb110 := NB237_250.out
                                  have hnc110 := NB250_237.out
                                  have hcz111_0 : wc.cell? ⟨gb237, 0, none⟩ = some (.int .i64 x238000_1) := (blk_cell BK237.out 0).trans rfl
                                  have hcz111_1 : wc.cell? ⟨gb237, 1, none⟩ = some (.int .i64 x238001_1) := (blk_cell BK237.out 1).trans rfl
                                  have hcz111_2 : wc.cell? ⟨gb237, 2, none⟩ = some (.bool false) := (blk_cell BK237.out 2).trans rfl
                                  have hcz111_3 : wc.cell? ⟨gb237, 3, none⟩ = some (.int .i64 x238003_1) := (blk_cell BK237.out 3).trans rfl
                                  have hcz111_4 : wc.cell? ⟨gb237, 4, none⟩ = some (.int .i64 x238004_1) := (blk_cell BK237.out 4).trans rfl
                                  have hfz111_0 := blk_frozen BK237.out 0
                                  have hfz111_1 := blk_frozen BK237.out 1
                                  have hfz111_2 := blk_frozen BK237.out 2
                                  have hfz111_3 := blk_frozen BK237.out 3
                                  have hfz111_4 := blk_frozen BK237.out 4
                                  have hnb112 := NB249_250.out
                                  have hnc112 := NB250_249.out
                                  have hcz113_0 : wc.cell? ⟨gb249, 0, none⟩ = some (.int .u8 ((rd_T34 y243 x19_1).f0)) := (blk_cell BK249.out 0).trans rfl
                                  have hcz113_1 : wc.cell? ⟨gb249, 1, none⟩ = some (.bool ((rd_T34 y243 x19_1).f1)) := (blk_cell BK249.out 1).trans rfl
                                  have hcz113_2 : wc.cell? ⟨gb249, 2, none⟩ = some (.int .u8 ((rd_T34 y243 x19_1).f2)) := (blk_cell BK249.out 2).trans rfl
                                  have hfz113_0 := blk_frozen BK249.out 0
                                  have hfz113_1 := blk_frozen BK249.out 1
                                  have hfz113_2 := blk_frozen BK249.out 2
                                  have hcz114_0 : wc.cell? ⟨gb250, 0, none⟩ = some (.int .i64 x238000_1) := (blk_cell BK250.out 0).trans rfl
                                  have hcz114_1 : wc.cell? ⟨gb250, 1, none⟩ = some (.int .i64 x238001_1) := (blk_cell BK250.out 1).trans rfl
                                  have hcz114_2 : wc.cell? ⟨gb250, 2, none⟩ = some (.bool false) := (blk_cell BK250.out 2).trans rfl
                                  have hcz114_3 : wc.cell? ⟨gb250, 3, none⟩ = some (.int .i64 x238003_1) := (blk_cell BK250.out 3).trans rfl
                                  have hcz114_4 : wc.cell? ⟨gb250, 4, none⟩ = some (.int .i64 x238004_1) := (blk_cell BK250.out 4).trans rfl
                                  have hfz114_0 := blk_frozen BK250.out 0
                                  have hfz114_1 := blk_frozen BK250.out 1
                                  have hfz114_2 := blk_frozen BK250.out 2
                                  have hfz114_3 := blk_frozen BK250.out 3
                                  have hfz114_4 := blk_frozen BK250.out 4
                                  go_wp2
                                  go_meet
                                  case rel => exact ⟨_, (t256), (t257), (t258), (t259), (t260), H', ⟨by have := HK1.out; have := HJ46.out; first | omega | exact Nat.le_refl _⟩, ⟨by (with_reducible repeat (first | refine blk_drewN ?_ _ | refine blk_drew ?_ | refine blk_alloc ?_ _)); refine blk_put (cs := #[.int .i64 t256, .int .i64 t257, .bool t258, .int .i64 t259, .int .i64 x238004_1]) ?_ 4 _ rfl; (with_reducible repeat (first | refine blk_drewN ?_ _ | refine blk_drew ?_ | refine blk_alloc ?_ _)); refine blk_put (cs := #[.int .i64 t256, .int .i64 t257, .bool t258, .int .i64 x238003_1, .int .i64 x238004_1]) ?_ 3 _ rfl; (with_reducible repeat (first | refine blk_drewN ?_ _ | refine blk_drew ?_ | refine blk_alloc ?_ _)); refine blk_put (cs := #[.int .i64 t256, .int .i64 t257, .bool false, .int .i64 x238003_1, .int .i64 x238004_1]) ?_ 2 _ rfl; (with_reducible repeat (first | refine blk_drewN ?_ _ | refine blk_drew ?_ | refine blk_alloc ?_ _)); refine blk_put (cs := #[.int .i64 t256, .int .i64 x238001_1, .bool false, .int .i64 x238003_1, .int .i64 x238004_1]) ?_ 1 _ rfl; (with_reducible repeat (first | refine blk_drewN ?_ _ | refine blk_drew ?_ | refine blk_alloc ?_ _)); refine blk_put (cs := #[.int .i64 x238000_1, .int .i64 x238001_1, .bool false, .int .i64 x238003_1, .int .i64 x238004_1]) ?_ 0 _ rfl; (with_reducible repeat (first | refine blk_drewN ?_ _ | refine blk_drew ?_ | refine blk_alloc ?_ _)); exact BK237.out⟩, ⟨by (with_reducible repeat (first | refine blk_drewN ?_ _ | refine blk_drew ?_ | refine blk_alloc ?_ _)); refine blk_far ?_ NB249_237.out _; (with_reducible repeat (first | refine blk_drewN ?_ _ | refine blk_drew ?_ | refine blk_alloc ?_ _)); refine blk_far ?_ NB249_237.out _; (with_reducible repeat (first | refine blk_drewN ?_ _ | refine blk_drew ?_ | refine blk_alloc ?_ _)); refine blk_far ?_ NB249_237.out _; (with_reducible repeat (first | refine blk_drewN ?_ _ | refine blk_drew ?_ | refine blk_alloc ?_ _)); refine blk_far ?_ NB249_237.out _; (with_reducible repeat (first | refine blk_drewN ?_ _ | refine blk_drew ?_ | refine blk_alloc ?_ _)); refine blk_far ?_ NB249_237.out _; (with_reducible repeat (first | refine blk_drewN ?_ _ | refine blk_drew ?_ | refine blk_alloc ?_ _)); exact BK249.out⟩, ⟨by (with_reducible repeat (first | refine blk_drewN ?_ _ | refine blk_drew ?_ | refine blk_alloc ?_ _)); refine blk_far ?_ NB250_237.out _; (with_reducible repeat (first | refine blk_drewN ?_ _ | refine blk_drew ?_ | refine blk_alloc ?_ _)); refine blk_far ?_ NB250_237.out _; (with_reducible repeat (first | refine blk_drewN ?_ _ | refine blk_drew ?_ | refine blk_alloc ?_ _)); refine blk_far ?_ NB250_237.out _; (with_reducible repeat (first | refine blk_drewN ?_ _ | refine blk_drew ?_ | refine blk_alloc ?_ _)); refine blk_far ?_ NB250_237.out _; (with_reducible repeat (first | refine blk_drewN ?_ _ | refine blk_drew ?_ | refine blk_alloc ?_ _)); refine blk_far ?_ NB250_237.out _; (with_reducible repeat (first | refine blk_drewN ?_ _ | refine blk_drew ?_ | refine blk_alloc ?_ _)); exact BK250.out⟩, ⟨by repeat (first | (with_reducible first | exact HB.out | apply below_alloc | apply pw_below_drewN | apply below_drew1 | refine below_set ?_ GE237.out | refine below_set ?_ GE249.out | refine below_set ?_ GE250.out | refine below_set ?_ GE262.out) | exact HB.out)⟩⟩
                          · rw [if_neg c79] at H
                            have c79b0 : decide (5 ≤ ((rd_T34 y243 x19_1).f0)) = false := decide_eq_false c79
                            clear c79
                            by_cases c115 : x238002_1 = true
                            · subst c115
                              have H1 : (if (false != false) = true then (some false) else (jackstaylaw06_ConfRight.j2 kj46 y243 (y243.length : Int) x19_1 t256 t257 t258 t259 t260)) = some r := by rw [if_pos rfl] at H; exact H
                              clear H
                              have H := H1
                              clear H1
                              by_cases c116 : (false != false) = true
                              · rw [if_pos c116] at H
                                have c116b0 : (false != false) = true := c116
                                (try (have c116b1 : decide (false = false) = false := by revert c116; simp))
                                (try (have c116b2 : (false == false) = false := by revert c116; simp))
                                (try (have c116b3 : ¬ (false = false) := by revert c116; simp))
                                clear c116
                                obtain rfl := Option.some.inj H
                                exact absurd hT_ (by decide)
                              · rw [if_neg c116] at H
                                have c116b0 : (false != false) = false := by revert c116; simp
                                (try (have c116b1 : decide (false = false) = true := by revert c116; simp))
                                (try (have c116b2 : (false == false) = true := by revert c116; simp))
                                clear c116
                                have H' := Aside0.mk H
                                clear H
                                have hnb117 := NB262_237.out
                                have hnc117 := NB237_262.out
                                have hnb118 := NB262_249.out
                                have hnc118 := NB249_262.out
                                have hnb119 := NB262_250.out
                                have hnc119 := NB250_262.out
                                have hcz120_0 : wc.cell? ⟨gb262, 0, none⟩ = some (.int .i64 t256) := (blk_cell BK262.out 0).trans rfl
                                have hcz120_1 : wc.cell? ⟨gb262, 1, none⟩ = some (.int .i64 t257) := (blk_cell BK262.out 1).trans rfl
                                have hcz120_2 : wc.cell? ⟨gb262, 2, none⟩ = some (.bool t258) := (blk_cell BK262.out 2).trans rfl
                                have hcz120_3 : wc.cell? ⟨gb262, 3, none⟩ = some (.int .i64 t259) := (blk_cell BK262.out 3).trans rfl
                                have hcz120_4 : wc.cell? ⟨gb262, 4, none⟩ = some (.int .i64 t260) := (blk_cell BK262.out 4).trans rfl
                                have hfz120_0 := blk_frozen BK262.out 0
                                have hfz120_1 := blk_frozen BK262.out 1
                                have hfz120_2 := blk_frozen BK262.out 2
                                have hfz120_3 := blk_frozen BK262.out 3
                                have hfz120_4 := blk_frozen BK262.out 4
                                have hnb121 := NB237_249.out
                                have hnc121 := NB249_237.out
                                have hnb122 := NB237_250.out
                                have hnc122 := NB250_237.out
                                have hcz123_0 : wc.cell? ⟨gb237, 0, none⟩ = some (.int .i64 x238000_1) := (blk_cell BK237.out 0).trans rfl
                                have hcz123_1 : wc.cell? ⟨gb237, 1, none⟩ = some (.int .i64 x238001_1) := (blk_cell BK237.out 1).trans rfl
                                have hcz123_2 : wc.cell? ⟨gb237, 2, none⟩ = some (.bool true) := (blk_cell BK237.out 2).trans rfl
                                have hcz123_3 : wc.cell? ⟨gb237, 3, none⟩ = some (.int .i64 x238003_1) := (blk_cell BK237.out 3).trans rfl
                                have hcz123_4 : wc.cell? ⟨gb237, 4, none⟩ = some (.int .i64 x238004_1) := (blk_cell BK237.out 4).trans rfl
                                have hfz123_0 := blk_frozen BK237.out 0
                                have hfz123_1 := blk_frozen BK237.out 1
                                have hfz123_2 := blk_frozen BK237.out 2
                                have hfz123_3 := blk_frozen BK237.out 3
                                have hfz123_4 := blk_frozen BK237.out 4
                                have hnb124 := NB249_250.out
                                have hnc124 := NB250_249.out
                                have hcz125_0 : wc.cell? ⟨gb249, 0, none⟩ = some (.int .u8 ((rd_T34 y243 x19_1).f0)) := (blk_cell BK249.out 0).trans rfl
                                have hcz125_1 : wc.cell? ⟨gb249, 1, none⟩ = some (.bool ((rd_T34 y243 x19_1).f1)) := (blk_cell BK249.out 1).trans rfl
                                have hcz125_2 : wc.cell? ⟨gb249, 2, none⟩ = some (.int .u8 ((rd_T34 y243 x19_1).f2)) := (blk_cell BK249.out 2).trans rfl
                                have hfz125_0 := blk_frozen BK249.out 0
                                have hfz125_1 := blk_frozen BK249.out 1
                                have hfz125_2 := blk_frozen BK249.out 2
                                have hcz126_0 : wc.cell? ⟨gb250, 0, none⟩ = some (.int .i64 x238000_1) := (blk_cell BK250.out 0).trans rfl
                                have hcz126_1 : wc.cell? ⟨gb250, 1, none⟩ = some (.int .i64 x238001_1) := (blk_cell BK250.out 1).trans rfl
                                have hcz126_2 : wc.cell? ⟨gb250, 2, none⟩ = some (.bool true) := (blk_cell BK250.out 2).trans rfl
                                have hcz126_3 : wc.cell? ⟨gb250, 3, none⟩ = some (.int .i64 x238003_1) := (blk_cell BK250.out 3).trans rfl
                                have hcz126_4 : wc.cell? ⟨gb250, 4, none⟩ = some (.int .i64 x238004_1) := (blk_cell BK250.out 4).trans rfl
                                have hfz126_0 := blk_frozen BK250.out 0
                                have hfz126_1 := blk_frozen BK250.out 1
                                have hfz126_2 := blk_frozen BK250.out 2
                                have hfz126_3 := blk_frozen BK250.out 3
                                have hfz126_4 := blk_frozen BK250.out 4
                                go_wp2
                                go_meet
                                case rel => exact ⟨_, (t256), (t257), (t258), (t259), (t260), H', ⟨by have := HK1.out; have := HJ46.out; first | omega | exact Nat.le_refl _⟩, ⟨by (with_reducible repeat (first | refine blk_drewN ?_ _ | refine blk_drew ?_ | refine blk_alloc ?_ _)); refine blk_put (cs := #[.int .i64 t256, .int .i64 t257, .bool t258, .int .i64 t259, .int .i64 x238004_1]) ?_ 4 _ rfl; (with_reducible repeat (first | refine blk_drewN ?_ _ | refine blk_drew ?_ | refine blk_alloc ?_ _)); refine blk_put (cs := #[.int .i64 t256, .int .i64 t257, .bool t258, .int .i64 x238003_1, .int .i64 x238004_1]) ?_ 3 _ rfl; (with_reducible repeat (first | refine blk_drewN ?_ _ | refine blk_drew ?_ | refine blk_alloc ?_ _)); refine blk_put (cs := #[.int .i64 t256, .int .i64 t257, .bool true, .int .i64 x238003_1, .int .i64 x238004_1]) ?_ 2 _ rfl; (with_reducible repeat (first | refine blk_drewN ?_ _ | refine blk_drew ?_ | refine blk_alloc ?_ _)); refine blk_put (cs := #[.int .i64 t256, .int .i64 x238001_1, .bool true, .int .i64 x238003_1, .int .i64 x238004_1]) ?_ 1 _ rfl; (with_reducible repeat (first | refine blk_drewN ?_ _ | refine blk_drew ?_ | refine blk_alloc ?_ _)); refine blk_put (cs := #[.int .i64 x238000_1, .int .i64 x238001_1, .bool true, .int .i64 x238003_1, .int .i64 x238004_1]) ?_ 0 _ rfl; (with_reducible repeat (first | refine blk_drewN ?_ _ | refine blk_drew ?_ | refine blk_alloc ?_ _)); exact BK237.out⟩, ⟨by (with_reducible repeat (first | refine blk_drewN ?_ _ | refine blk_drew ?_ | refine blk_alloc ?_ _)); refine blk_far ?_ NB249_237.out _; (with_reducible repeat (first | refine blk_drewN ?_ _ | refine blk_drew ?_ | refine blk_alloc ?_ _)); refine blk_far ?_ NB249_237.out _; (with_reducible repeat (first | refine blk_drewN ?_ _ | refine blk_drew ?_ | refine blk_alloc ?_ _)); refine blk_far ?_ NB249_237.out _; (with_reducible repeat (first | refine blk_drewN ?_ _ | refine blk_drew ?_ | refine blk_alloc ?_ _)); refine blk_far ?_ NB249_237.out _; (with_reducible repeat (first | refine blk_drewN ?_ _ | refine blk_drew ?_ | refine blk_alloc ?_ _)); refine blk_far ?_ NB249_237.out _; (with_reducible repeat (first | refine blk_drewN ?_ _ | refine blk_drew ?_ | refine blk_alloc ?_ _)); exact BK249.out⟩, ⟨by (with_reducible repeat (first | refine blk_drewN ?_ _ | refine blk_drew ?_ | refine blk_alloc ?_ _)); refine blk_far ?_ NB250_237.out _; (with_reducible repeat (first | refine blk_drewN ?_ _ | refine blk_drew ?_ | refine blk_alloc ?_ _)); refine blk_far ?_ NB250_237.out _; (with_reducible repeat (first | refine blk_drewN ?_ _ | refine blk_drew ?_ | refine blk_alloc ?_ _)); refine blk_far ?_ NB250_237.out _; (with_reducible repeat (first | refine blk_drewN ?_ _ | refine blk_drew ?_ | refine blk_alloc ?_ _)); refine blk_far ?_ NB250_237.out _; (with_reducible repeat (first | refine blk_drewN ?_ _ | refine blk_drew ?_ | refine blk_alloc ?_ _)); refine blk_far ?_ NB250_237.out _; (with_reducible repeat (first | refine blk_drewN ?_ _ | refine blk_drew ?_ | refine blk_alloc ?_ _)); exact BK250.out⟩, ⟨by repeat (first | (with_reducible first | exact HB.out | apply below_alloc | apply pw_below_drewN | apply below_drew1 | refine below_set ?_ GE237.out | refine below_set ?_ GE249.out | refine below_set ?_ GE250.out | refine below_set ?_ GE262.out) | exact HB.out)⟩⟩
                            · replace c115 := Bool.eq_false_iff.mpr c115
                              subst c115
                              have H1 : (if (t258 != false) = true then (some false) else (jackstaylaw06_ConfRight.j2 kj46 y243 (y243.length : Int) x19_1 t256 t257 t258 t259 t260)) = some r := by rw [if_neg (show ¬ (false = true) by decide)] at H; exact H
                              clear H
                              have H := H1
                              clear H1
                              by_cases c127 : (t258 != false) = true
                              · rw [if_pos c127] at H
                                have c127b0 : (t258 != false) = true := c127
                                (try (have c127b1 : decide (t258 = false) = false := by simpa using c127))
                                (try (have c127b2 : (t258 == false) = false := by simpa using c127))
                                (try (have c127b3 : ¬ (t258 = false) := by simpa using c127))
                                clear c127
                                obtain rfl := Option.some.inj H
                                exact absurd hT_ (by decide)
                              · rw [if_neg c127] at H
                                have c127b0 : (t258 != false) = false := by simpa using c127
                                (try (have c127b1 : decide (t258 = false) = true := by simpa using c127))
                                (try (have c127b2 : (t258 == false) = true := by simpa using c127))
                                clear c127
                                have H' := Aside0.mk H
                                clear H
                                have hnb128 := NB262_237.out
                                have hnc128 := NB237_262.out
                                have hnb129 := NB262_249.out
                                have hnc129 := NB249_262.out
                                have hnb130 := NB262_250.out
                                have hnc130 := NB250_262.out
                                have hcz131_0 : wc.cell? ⟨gb262, 0, none⟩ = some (.int .i64 t256) := (blk_cell BK262.out 0).trans rfl
                                have hcz131_1 : wc.cell? ⟨gb262, 1, none⟩ = some (.int .i64 t257) := (blk_cell BK262.out 1).trans rfl
                                have hcz131_2 : wc.cell? ⟨gb262, 2, none⟩ = some (.bool t258) := (blk_cell BK262.out 2).trans rfl
                                have hcz131_3 : wc.cell? ⟨gb262, 3, none⟩ = some (.int .i64 t259) := (blk_cell BK262.out 3).trans rfl
                                have hcz131_4 : wc.cell? ⟨gb262, 4, none⟩ = some (.int .i64 t260) := (blk_cell BK262.out 4).trans rfl
                                have hfz131_0 := blk_frozen BK262.out 0
                                have hfz131_1 := blk_frozen BK262.out 1
                                have hfz131_2 := blk_frozen BK262.out 2
                                have hfz131_3 := blk_frozen BK262.out 3
                                have hfz131_4 := blk_frozen BK262.out 4
                                have hnb132 := NB237_249.out
                                have hnc132 := NB249_237.out
                                have hnb133 := NB237_250.out
                                have hnc133 := NB250_237.out
                                have hcz134_0 : wc.cell? ⟨gb237, 0, none⟩ = some (.int .i64 x238000_1) := (blk_cell BK237.out 0).trans rfl
                                have hcz134_1 : wc.cell? ⟨gb237, 1, none⟩ = some (.int .i64 x238001_1) := (blk_cell BK237.out 1).trans rfl
                                have hcz134_2 : wc.cell? ⟨gb237, 2, none⟩ = some (.bool false) := (blk_cell BK237.out 2).trans rfl
                                have hcz134_3 : wc.cell? ⟨gb237, 3, none⟩ = some (.int .i64 x238003_1) := (blk_cell BK237.out 3).trans rfl
                                have hcz134_4 : wc.cell? ⟨gb237, 4, none⟩ = some (.int .i64 x238004_1) := (blk_cell BK237.out 4).trans rfl
                                have hfz134_0 := blk_frozen BK237.out 0
                                have hfz134_1 := blk_frozen BK237.out 1
                                have hfz134_2 := blk_frozen BK237.out 2
                                have hfz134_3 := blk_frozen BK237.out 3
                                have hfz134_4 := blk_frozen BK237.out 4
                                have hnb135 := NB249_250.out
                                have hnc135 := NB250_249.out
                                have hcz136_0 : wc.cell? ⟨gb249, 0, none⟩ = some (.int .u8 ((rd_T34 y243 x19_1).f0)) := (blk_cell BK249.out 0).trans rfl
                                have hcz136_1 : wc.cell? ⟨gb249, 1, none⟩ = some (.bool ((rd_T34 y243 x19_1).f1)) := (blk_cell BK249.out 1).trans rfl
                                have hcz136_2 : wc.cell? ⟨gb249, 2, none⟩ = some (.int .u8 ((rd_T34 y243 x19_1).f2)) := (blk_cell BK249.out 2).trans rfl
                                have hfz136_0 := blk_frozen BK249.out 0
                                have hfz136_1 := blk_frozen BK249.out 1
                                have hfz136_2 := blk_frozen BK249.out 2
                                have hcz137_0 : wc.cell? ⟨gb250, 0, none⟩ = some (.int .i64 x238000_1) := (blk_cell BK250.out 0).trans rfl
                                have hcz137_1 : wc.cell? ⟨gb250, 1, none⟩ = some (.int .i64 x238001_1) := (blk_cell BK250.out 1).trans rfl
                                have hcz137_2 : wc.cell? ⟨gb250, 2, none⟩ = some (.bool false) := (blk_cell BK250.out 2).trans rfl
                                have hcz137_3 : wc.cell? ⟨gb250, 3, none⟩ = some (.int .i64 x238003_1) := (blk_cell BK250.out 3).trans rfl
                                have hcz137_4 : wc.cell? ⟨gb250, 4, none⟩ = some (.int .i64 x238004_1) := (blk_cell BK250.out 4).trans rfl
                                have hfz137_0 := blk_frozen BK250.out 0
                                have hfz137_1 := blk_frozen BK250.out 1
                                have hfz137_2 := blk_frozen BK250.out 2
                                have hfz137_3 := blk_frozen BK250.out 3
                                have hfz137_4 := blk_frozen BK250.out 4
                                go_wp2
                                go_meet
                                case rel => exact ⟨_, (t256), (t257), (t258), (t259), (t260), H', ⟨by have := HK1.out; have := HJ46.out; first | omega | exact Nat.le_refl _⟩, ⟨by (with_reducible repeat (first | refine blk_drewN ?_ _ | refine blk_drew ?_ | refine blk_alloc ?_ _)); refine blk_put (cs := #[.int .i64 t256, .int .i64 t257, .bool t258, .int .i64 t259, .int .i64 x238004_1]) ?_ 4 _ rfl; (with_reducible repeat (first | refine blk_drewN ?_ _ | refine blk_drew ?_ | refine blk_alloc ?_ _)); refine blk_put (cs := #[.int .i64 t256, .int .i64 t257, .bool t258, .int .i64 x238003_1, .int .i64 x238004_1]) ?_ 3 _ rfl; (with_reducible repeat (first | refine blk_drewN ?_ _ | refine blk_drew ?_ | refine blk_alloc ?_ _)); refine blk_put (cs := #[.int .i64 t256, .int .i64 t257, .bool false, .int .i64 x238003_1, .int .i64 x238004_1]) ?_ 2 _ rfl; (with_reducible repeat (first | refine blk_drewN ?_ _ | refine blk_drew ?_ | refine blk_alloc ?_ _)); refine blk_put (cs := #[.int .i64 t256, .int .i64 x238001_1, .bool false, .int .i64 x238003_1, .int .i64 x238004_1]) ?_ 1 _ rfl; (with_reducible repeat (first | refine blk_drewN ?_ _ | refine blk_drew ?_ | refine blk_alloc ?_ _)); refine blk_put (cs := #[.int .i64 x238000_1, .int .i64 x238001_1, .bool false, .int .i64 x238003_1, .int .i64 x238004_1]) ?_ 0 _ rfl; (with_reducible repeat (first | refine blk_drewN ?_ _ | refine blk_drew ?_ | refine blk_alloc ?_ _)); exact BK237.out⟩, ⟨by (with_reducible repeat (first | refine blk_drewN ?_ _ | refine blk_drew ?_ | refine blk_alloc ?_ _)); refine blk_far ?_ NB249_237.out _; (with_reducible repeat (first | refine blk_drewN ?_ _ | refine blk_drew ?_ | refine blk_alloc ?_ _)); refine blk_far ?_ NB249_237.out _; (with_reducible repeat (first | refine blk_drewN ?_ _ | refine blk_drew ?_ | refine blk_alloc ?_ _)); refine blk_far ?_ NB249_237.out _; (with_reducible repeat (first | refine blk_drewN ?_ _ | refine blk_drew ?_ | refine blk_alloc ?_ _)); refine blk_far ?_ NB249_237.out _; (with_reducible repeat (first | refine blk_drewN ?_ _ | refine blk_drew ?_ | refine blk_alloc ?_ _)); refine blk_far ?_ NB249_237.out _; (with_reducible repeat (first | refine blk_drewN ?_ _ | refine blk_drew ?_ | refine blk_alloc ?_ _)); exact BK249.out⟩, ⟨by (with_reducible repeat (first | refine blk_drewN ?_ _ | refine blk_drew ?_ | refine blk_alloc ?_ _)); refine blk_far ?_ NB250_237.out _; (with_reducible repeat (first | refine blk_drewN ?_ _ | refine blk_drew ?_ | refine blk_alloc ?_ _)); refine blk_far ?_ NB250_237.out _; (with_reducible repeat (first | refine blk_drewN ?_ _ | refine blk_drew ?_ | refine blk_alloc ?_ _)); refine blk_far ?_ NB250_237.out _; (with_reducible repeat (first | refine blk_drewN ?_ _ | refine blk_drew ?_ | refine blk_alloc ?_ _)); refine blk_far ?_ NB250_237.out _; (with_reducible repeat (first | refine blk_drewN ?_ _ | refine blk_drew ?_ | refine blk_alloc ?_ _)); refine blk_far ?_ NB250_237.out _; (with_reducible repeat (first | refine blk_drewN ?_ _ | refine blk_drew ?_ | refine blk_alloc ?_ _)); exact BK250.out⟩, ⟨by repeat (first | (with_reducible first | exact HB.out | apply below_alloc | apply pw_below_drewN | apply below_drew1 | refine below_set ?_ GE237.out | refine below_set ?_ GE249.out | refine below_set ?_ GE250.out | refine below_set ?_ GE262.out) | exact HB.out)⟩⟩
                case rest =>
                  clear HC16
                  try clear c1
                  try clear q1
                  try clear p2
                  try clear q2
                  try clear hx2
                  try clear c6
                  try clear c7
                  try clear c8
                  try clear c9
                  try clear c10
                  try clear c11
                  try clear c12
                  try clear q12
                  try clear c13
                  try clear p24
                  try clear q24
                  try clear hx24
                  try clear c66
                  try clear c67
                  try clear c69
                  try clear c70
                  try clear c71
                  try clear c73
                  try clear c74
                  try clear c76
                  try clear c78
                  try clear c79
                  try clear c79b0
                  try clear c80
                  try clear c81
                  try clear c81b0
                  try clear c81b1
                  try clear c81b2
                  try clear c82
                  try clear c83
                  try clear c84
                  try clear c86
                  try clear c87
                  try clear c89
                  try clear c92
                  try clear c92b0
                  try clear c93
                  try clear c93b0
                  try clear c93b1
                  try clear c93b2
                  try clear c94
                  try clear c95
                  try clear c96
                  try clear c98
                  try clear c99
                  try clear c101
                  try clear c104
                  try clear c104b0
                  try clear c104b1
                  try clear c104b2
                  try clear c105
                  try clear c106
                  try clear c107
                  try clear c109
                  try clear c110
                  try clear c112
                  try clear c115
                  try clear c116
                  try clear c116b0
                  try clear c116b1
                  try clear c116b2
                  try clear c117
                  try clear c118
                  try clear c119
                  try clear c121
                  try clear c122
                  try clear c124
                  try clear c127
                  try clear c127b0
                  try clear c127b1
                  try clear c127b2
                  try clear c128
                  try clear c129
                  try clear c130
                  try clear c132
                  try clear c133
                  try clear c135
                  try clear hcz100_0
                  try clear hcz100_1
                  try clear hcz100_2
                  try clear hcz100_3
                  try clear hcz100_4
                  try clear hcz102_0
                  try clear hcz102_1
                  try clear hcz102_2
                  try clear hcz103_0
                  try clear hcz103_1
                  try clear hcz103_2
                  try clear hcz103_3
                  try clear hcz103_4
                  try clear hcz108_0
                  try clear hcz108_1
                  try clear hcz108_2
                  try clear hcz108_3
                  try clear hcz108_4
                  try clear hcz10_0
                  try clear hcz10_1
                  try clear hcz10_2
                  try clear hcz10_3
                  try clear hcz10_4
                  try clear hcz111_0
                  try clear hcz111_1
                  try clear hcz111_2
                  try clear hcz111_3
                  try clear hcz111_4
                  try clear hcz113_0
                  try clear hcz113_1
                  try clear hcz113_2
                  try clear hcz114_0
                  try clear hcz114_1
                  try clear hcz114_2
                  try clear hcz114_3
                  try clear hcz114_4
                  try clear hcz120_0
                  try clear hcz120_1
                  try clear hcz120_2
                  try clear hcz120_3
                  try clear hcz120_4
                  try clear hcz123_0
                  try clear hcz123_1
                  try clear hcz123_2
                  try clear hcz123_3
                  try clear hcz123_4
                  try clear hcz125_0
                  try clear hcz125_1
                  try clear hcz125_2
                  try clear hcz126_0
                  try clear hcz126_1
                  try clear hcz126_2
                  try clear hcz126_3
                  try clear hcz126_4
                  try clear hcz131_0
                  try clear hcz131_1
                  try clear hcz131_2
                  try clear hcz131_3
                  try clear hcz131_4
                  try clear hcz134_0
                  try clear hcz134_1
                  try clear hcz134_2
                  try clear hcz134_3
                  try clear hcz134_4
                  try clear hcz136_0
                  try clear hcz136_1
                  try clear hcz136_2
                  try clear hcz137_0
                  try clear hcz137_1
                  try clear hcz137_2
                  try clear hcz137_3
                  try clear hcz137_4
                  try clear hcz19_0
                  try clear hcz19_1
                  try clear hcz19_2
                  try clear hcz20_0
                  try clear hcz20_1
                  try clear hcz20_2
                  try clear hcz20_3
                  try clear hcz20_4
                  try clear hcz24_0
                  try clear hcz24_1
                  try clear hcz24_2
                  try clear hcz24_3
                  try clear hcz24_4
                  try clear hcz25_0
                  try clear hcz25_1
                  try clear hcz25_2
                  try clear hcz31_0
                  try clear hcz31_1
                  try clear hcz31_2
                  try clear hcz31_3
                  try clear hcz31_4
                  try clear hcz33_0
                  try clear hcz33_1
                  try clear hcz33_2
                  try clear hcz35_0
                  try clear hcz35_1
                  try clear hcz35_2
                  try clear hcz35_3
                  try clear hcz35_4
                  try clear hcz36_0
                  try clear hcz36_1
                  try clear hcz36_2
                  try clear hcz36_3
                  try clear hcz36_4
                  try clear hcz40_0
                  try clear hcz40_1
                  try clear hcz40_2
                  try clear hcz40_3
                  try clear hcz40_4
                  try clear hcz42_0
                  try clear hcz42_1
                  try clear hcz42_2
                  try clear hcz44_0
                  try clear hcz44_1
                  try clear hcz44_2
                  try clear hcz44_3
                  try clear hcz44_4
                  try clear hcz45_0
                  try clear hcz45_1
                  try clear hcz45_2
                  try clear hcz45_3
                  try clear hcz45_4
                  try clear hcz50_0
                  try clear hcz50_1
                  try clear hcz50_2
                  try clear hcz50_3
                  try clear hcz50_4
                  try clear hcz52_0
                  try clear hcz52_1
                  try clear hcz52_2
                  try clear hcz58_0
                  try clear hcz58_1
                  try clear hcz58_2
                  try clear hcz58_3
                  try clear hcz58_4
                  try clear hcz63_0
                  try clear hcz63_1
                  try clear hcz63_2
                  try clear hcz68_0
                  try clear hcz68_1
                  try clear hcz68_2
                  try clear hcz72_0
                  try clear hcz72_1
                  try clear hcz72_2
                  try clear hcz75_0
                  try clear hcz75_1
                  try clear hcz75_2
                  try clear hcz75_3
                  try clear hcz75_4
                  try clear hcz77_0
                  try clear hcz77_1
                  try clear hcz77_2
                  try clear hcz77_3
                  try clear hcz77_4
                  try clear hcz85_0
                  try clear hcz85_1
                  try clear hcz85_2
                  try clear hcz85_3
                  try clear hcz85_4
                  try clear hcz88_0
                  try clear hcz88_1
                  try clear hcz88_2
                  try clear hcz88_3
                  try clear hcz88_4
                  try clear hcz8_0
                  try clear hcz8_1
                  try clear hcz8_2
                  try clear hcz8_3
                  try clear hcz8_4
                  try clear hcz90_0
                  try clear hcz90_1
                  try clear hcz90_2
                  try clear hcz91_0
                  try clear hcz91_1
                  try clear hcz91_2
                  try clear hcz91_3
                  try clear hcz91_4
                  try clear hcz97_0
                  try clear hcz97_1
                  try clear hcz97_2
                  try clear hcz97_3
                  try clear hcz97_4
                  try clear hfz100_0
                  try clear hfz100_1
                  try clear hfz100_2
                  try clear hfz100_3
                  try clear hfz100_4
                  try clear hfz102_0
                  try clear hfz102_1
                  try clear hfz102_2
                  try clear hfz103_0
                  try clear hfz103_1
                  try clear hfz103_2
                  try clear hfz103_3
                  try clear hfz103_4
                  try clear hfz108_0
                  try clear hfz108_1
                  try clear hfz108_2
                  try clear hfz108_3
                  try clear hfz108_4
                  try clear hfz10_0
                  try clear hfz10_1
                  try clear hfz10_2
                  try clear hfz10_3
                  try clear hfz10_4
                  try clear hfz111_0
                  try clear hfz111_1
                  try clear hfz111_2
                  try clear hfz111_3
                  try clear hfz111_4
                  try clear hfz113_0
                  try clear hfz113_1
                  try clear hfz113_2
                  try clear hfz114_0
                  try clear hfz114_1
                  try clear hfz114_2
                  try clear hfz114_3
                  try clear hfz114_4
                  try clear hfz120_0
                  try clear hfz120_1
                  try clear hfz120_2
                  try clear hfz120_3
                  try clear hfz120_4
                  try clear hfz123_0
                  try clear hfz123_1
                  try clear hfz123_2
                  try clear hfz123_3
                  try clear hfz123_4
                  try clear hfz125_0
                  try clear hfz125_1
                  try clear hfz125_2
                  try clear hfz126_0
                  try clear hfz126_1
                  try clear hfz126_2
                  try clear hfz126_3
                  try clear hfz126_4
                  try clear hfz131_0
                  try clear hfz131_1
                  try clear hfz131_2
                  try clear hfz131_3
                  try clear hfz131_4
                  try clear hfz134_0
                  try clear hfz134_1
                  try clear hfz134_2
                  try clear hfz134_3
                  try clear hfz134_4
                  try clear hfz136_0
                  try clear hfz136_1
                  try clear hfz136_2
                  try clear hfz137_0
                  try clear hfz137_1
                  try clear hfz137_2
                  try clear hfz137_3
                  try clear hfz137_4
                  try clear hfz19_0
                  try clear hfz19_1
                  try clear hfz19_2
                  try clear hfz20_0
                  try clear hfz20_1
                  try clear hfz20_2
                  try clear hfz20_3
                  try clear hfz20_4
                  try clear hfz24_0
                  try clear hfz24_1
                  try clear hfz24_2
                  try clear hfz24_3
                  try clear hfz24_4
                  try clear hfz25_0
                  try clear hfz25_1
                  try clear hfz25_2
                  try clear hfz31_0
                  try clear hfz31_1
                  try clear hfz31_2
                  try clear hfz31_3
                  try clear hfz31_4
                  try clear hfz33_0
                  try clear hfz33_1
                  try clear hfz33_2
                  try clear hfz35_0
                  try clear hfz35_1
                  try clear hfz35_2
                  try clear hfz35_3
                  try clear hfz35_4
                  try clear hfz36_0
                  try clear hfz36_1
                  try clear hfz36_2
                  try clear hfz36_3
                  try clear hfz36_4
                  try clear hfz40_0
                  try clear hfz40_1
                  try clear hfz40_2
                  try clear hfz40_3
                  try clear hfz40_4
                  try clear hfz42_0
                  try clear hfz42_1
                  try clear hfz42_2
                  try clear hfz44_0
                  try clear hfz44_1
                  try clear hfz44_2
                  try clear hfz44_3
                  try clear hfz44_4
                  try clear hfz45_0
                  try clear hfz45_1
                  try clear hfz45_2
                  try clear hfz45_3
                  try clear hfz45_4
                  try clear hfz50_0
                  try clear hfz50_1
                  try clear hfz50_2
                  try clear hfz50_3
                  try clear hfz50_4
                  try clear hfz52_0
                  try clear hfz52_1
                  try clear hfz52_2
                  try clear hfz58_0
                  try clear hfz58_1
                  try clear hfz58_2
                  try clear hfz58_3
                  try clear hfz58_4
                  try clear hfz63_0
                  try clear hfz63_1
                  try clear hfz63_2
                  try clear hfz68_0
                  try clear hfz68_1
                  try clear hfz68_2
                  try clear hfz72_0
                  try clear hfz72_1
                  try clear hfz72_2
                  try clear hfz75_0
                  try clear hfz75_1
                  try clear hfz75_2
                  try clear hfz75_3
                  try clear hfz75_4
                  try clear hfz77_0
                  try clear hfz77_1
                  try clear hfz77_2
                  try clear hfz77_3
                  try clear hfz77_4
                  try clear hfz85_0
                  try clear hfz85_1
                  try clear hfz85_2
                  try clear hfz85_3
                  try clear hfz85_4
                  try clear hfz88_0
                  try clear hfz88_1
                  try clear hfz88_2
                  try clear hfz88_3
                  try clear hfz88_4
                  try clear hfz8_0
                  try clear hfz8_1
                  try clear hfz8_2
                  try clear hfz8_3
                  try clear hfz8_4
                  try clear hfz90_0
                  try clear hfz90_1
                  try clear hfz90_2
                  try clear hfz91_0
                  try clear hfz91_1
                  try clear hfz91_2
                  try clear hfz91_3
                  try clear hfz91_4
                  try clear hfz97_0
                  try clear hfz97_1
                  try clear hfz97_2
                  try clear hfz97_3
                  try clear hfz97_4
                  try clear hx248_0
                  try clear hx248_1
                  try clear hx248_2
                  try clear p2
                  try clear p248
                  try clear q1
                  try clear q12
                  try clear q248
                  obtain ⟨kq, x238000_15, x238001_15, x238002_15, x238003_15, x238004_15, HA, HJ15, BK237, BK249, BK250, HB⟩ := hcut
                  cases kq with
                  | zero => exact absurd HA.out (by simp [jackstaylaw06_ConfRight.j2])
                  | succ kj15 =>
                    have H := HA.out
                    clear HA
                    simp only [jackstaylaw06_ConfRight.j2] at H
                    replace H := Option.bind_eq_some_iff.mp H
                    obtain ⟨t263, A1380, H⟩ := H
                    replace H : (if t263 = true then ((conf_Mode.f kj15 x238000_15 x238001_15 x238002_15 x238003_15 x238004_15).bind fun t264 => (if ((t264 == 2) != x238002_15) = true then (some false) else (jackstaylaw06_ConfRight.l0 kj15 y243 (y243.length : Int) (wrap64 (x19_1 + 1)) x238000_15 x238001_15 x238002_15 x238003_15 x238004_15))) else (some false)) = some r := H
                    have A138 := Aside0.mk A1380
                    clear A1380
                    by_cases c139 : t263 = true
                    · subst c139
                      have H1 : ((conf_Mode.f kj15 x238000_15 x238001_15 x238002_15 x238003_15 x238004_15).bind fun t264 => (if ((t264 == 2) != x238002_15) = true then (some false) else (jackstaylaw06_ConfRight.l0 kj15 y243 (y243.length : Int) (wrap64 (x19_1 + 1)) x238000_15 x238001_15 x238002_15 x238003_15 x238004_15))) = some r := by rw [if_pos rfl] at H; exact H
                      clear H
                      have H := H1
                      clear H1
                      replace H := Option.bind_eq_some_iff.mp H
                      obtain ⟨t264, A1400, H⟩ := H
                      replace H : (if ((t264 == 2) != x238002_15) = true then (some false) else (jackstaylaw06_ConfRight.l0 kj15 y243 (y243.length : Int) (wrap64 (x19_1 + 1)) x238000_15 x238001_15 x238002_15 x238003_15 x238004_15)) = some r := H
                      have A140 := Aside0.mk A1400
                      clear A1400
                      by_cases c141 : ((t264 == 2) != x238002_15) = true
                      · rw [if_pos c141] at H
                        have c141b0 : ((t264 == 2) != x238002_15) = true := c141
                        (try (have c141b1 : decide ((t264 == 2) = x238002_15) = false := by simpa using c141))
                        (try (have c141b2 : ((t264 == 2) == x238002_15) = false := by simpa using c141))
                        (try (have c141b3 : ¬ ((t264 == 2) = x238002_15) := by simpa using c141))
                        clear c141
                        obtain rfl := Option.some.inj H
                        exact absurd hT_ (by decide)
                      · rw [if_neg c141] at H
                        have c141b0 : ((t264 == 2) != x238002_15) = false := by simpa using c141
                        (try (have c141b1 : decide ((t264 == 2) = x238002_15) = true := by simpa using c141))
                        (try (have c141b2 : ((t264 == 2) == x238002_15) = true := by simpa using c141))
                        clear c141
                        have H' := Aside0.mk H
                        clear H
                        try go_wp2
                        have n0_ := Aside0.mk (blk_drew BK237.out)
                        have n1_ := Aside0.mk (blk_drew BK249.out)
                        have n2_ := Aside0.mk (blk_drew BK250.out)
                        have n3_ := Aside0.mk (below_drew1 HB.out)
                        clear BK237
                        clear BK249
                        clear BK250
                        clear HB
                        have BK237 := n0_
                        have BK249 := n1_
                        have BK250 := n2_
                        have HB := n3_
                        clear n0_ n1_ n2_ n3_
                        refine start_ (n := 11) (S := fun w' => w'.cell? ⟨gb237, 0, none⟩ = some (.int .i64 x238000_15) ∧ w'.cell? ⟨gb237, 1, none⟩ = some (.int .i64 x238001_15) ∧ w'.cell? ⟨gb237, 2, none⟩ = some (.bool x238002_15) ∧ w'.cell? ⟨gb237, 3, none⟩ = some (.int .i64 x238003_15) ∧ w'.cell? ⟨gb237, 4, none⟩ = some (.int .i64 x238004_15)) (ds := []) #[false, false, false, false, false, false, false, false, false, false, false] (by kernel_rfl) rfl rfl ⟨(blk_cell BK237.out 0).trans rfl, (blk_cell BK237.out 1).trans rfl, (blk_cell BK237.out 2).trans rfl, (blk_cell BK237.out 3).trans rfl, (blk_cell BK237.out 4).trans rfl⟩ (fun hHeld => ?_); refine with_tabW jackstaylaw06_ConfRight.tab17 jackstaylaw06_ConfRight.bits17 (fun HT_ HW_ => ?_)
                        generalize wc.drew = w142 at BK237 BK249 BK250 HB hHeld ⊢
                        refine take_ (i := 0) (N := some 89) (v := ?_) (a' := ?_) #[true, false, false, false, false, false, false, false, false, false, false] rfl rfl (take_ofW HT_.out HW_.out (by kernel_rfl)) (fun _ _ _ h => h) (Or.inl ⟨by rfl, ?_⟩) hHeld ?_ ?_
                        rotate_left
                        · rintro w' ⟨s0, s1, s2, s3, s4⟩
                          go_simp
                          with_reducible rfl
                        rotate_left
                        · simp only [Act.put, List.setIfInBounds_toArray, List.set_cons_zero, List.set_cons_succ, i64_w, i32_w]
                          rfl
                        refine one_ (i := 1) (N := some 90) #[true, true, false, false, false, false, false, false, false, false, false] rfl rfl (one_of HT_.out (by kernel_rfl)) (by decide) (fun K hK => ?_)
                        refine goes_ Try.func12 (by kernel_rfl) rfl #[.agg #[.int .i64 x238000_15, .int .i64 x238001_15, .bool x238002_15, .int .i64 x238003_15, .int .i64 x238004_15]] (by rfl) rfl rfl (by (try simp only [List.map_toArray, List.map_cons, List.map_nil]); first | done | rfl | (simp only [List.length_drop, List.length_take]; rfl)) ?_
                        with_reducible refine (conf_Right.calls x238000_15 x238001_15 x238002_15 x238003_15 x238004_15 true _ A138.out).mono ?_
                        rintro e w143 ⟨rfl, hb⟩
                        refine ⟨_, rfl, ?_⟩
                        have n0_ := Aside0.mk (blk_below (g := gb237) (o := .cells #[.int .i64 x238000_15, .int .i64 x238001_15, .bool x238002_15, .int .i64 x238003_15, .int .i64 x238004_15] 23 (0, 0)) (by (with_reducible repeat (first | refine blk_drewN ?_ _ | refine blk_drew ?_ | refine blk_alloc ?_ _)); exact BK237.out) hb)
                        have n1_ := Aside0.mk (blk_below (g := gb249) (o := .cells #[.int .u8 ((rd_T34 y243 x19_1).f0), .bool ((rd_T34 y243 x19_1).f1), .int .u8 ((rd_T34 y243 x19_1).f2)] 34 (0, 0)) (by (with_reducible repeat (first | refine blk_drewN ?_ _ | refine blk_drew ?_ | refine blk_alloc ?_ _)); exact BK249.out) hb)
                        have n2_ := Aside0.mk (blk_below (g := gb250) (o := .cells #[.int .i64 x238000_1, .int .i64 x238001_1, .bool x238002_1, .int .i64 x238003_1, .int .i64 x238004_1] 23 (0, 0)) (by (with_reducible repeat (first | refine blk_drewN ?_ _ | refine blk_drew ?_ | refine blk_alloc ?_ _)); exact BK250.out) hb)
                        have n3_ := Aside0.mk (below_step (by repeat (first | (with_reducible first | exact HB.out | apply below_alloc | apply pw_below_drewN | apply below_drew1 | refine below_set ?_ GE237.out | refine below_set ?_ GE249.out | refine below_set ?_ GE250.out) | exact HB.out)) hb)
                        clear BK237
                        clear BK249
                        clear BK250
                        clear HB
                        have BK237 := n0_
                        have BK249 := n1_
                        have BK250 := n2_
                        have HB := n3_
                        clear n0_ n1_ n2_ n3_
                        (try clear hb)
                        (try clear hb2)
                        (try clear hk)
                        (try clear hi)
                        refine hK.out _ _ ⟨(blk_cell BK237.out 0).trans rfl, (blk_cell BK237.out 1).trans rfl, (blk_cell BK237.out 2).trans rfl, (blk_cell BK237.out 3).trans rfl, (blk_cell BK237.out 4).trans rfl⟩ (fun hHeld => ?_)
                        clear hK K
                        refine norm_ (a' := ?_) ?_ ?_
                        rotate_left
                        · show Act.put _ (some 90) _ = _
                          simp only [Act.put, List.setIfInBounds_toArray, List.set_cons_zero, List.set_cons_succ, i64_w, i32_w]
                          rfl
                        refine pure_ (i := 2) (N := some 91) (v := ?_) (a' := ?_) #[true, true, true, false, false, false, false, false, false, false, false] rfl rfl (any_of HT_.out (by kernel_rfl)) (fun _ _ _ h => h) (Or.inl ⟨by rfl, ?_⟩) ?_ ?_
                        rotate_left
                        · intro w'
                          go_simp
                          with_reducible rfl
                        rotate_left
                        · simp only [Act.put, List.setIfInBounds_toArray, List.set_cons_zero, List.set_cons_succ, i64_w, i32_w]
                          rfl
                        refine pure_ (i := 3) (N := some 92) (v := ?_) (a' := ?_) #[true, true, true, true, false, false, false, false, false, false, false] rfl rfl (any_of HT_.out (by kernel_rfl)) (fun _ _ _ h => h) (Or.inl ⟨by rfl, ?_⟩) ?_ ?_
                        rotate_left
                        · intro w'
                          go_simp
                          with_reducible rfl
                        rotate_left
                        · simp only [Act.put, List.setIfInBounds_toArray, List.set_cons_zero, List.set_cons_succ, i64_w, i32_w]
                          rfl
                        refine pure_ (i := 7) (N := some 96) (v := ?_) (a' := ?_) #[true, true, true, true, false, false, false, true, false, false, false] rfl rfl (any_of HT_.out (by kernel_rfl)) (fun _ _ _ h => h) (Or.inl ⟨by rfl, ?_⟩) ?_ ?_
                        rotate_left
                        · intro w'
                          go_simp
                          with_reducible rfl
                        rotate_left
                        · simp only [Act.put, List.setIfInBounds_toArray, List.set_cons_zero, List.set_cons_succ, i64_w, i32_w]
                          rfl
                        refine take_ (i := 4) (N := some 93) (v := ?_) (a' := ?_) #[true, true, true, true, true, false, false, true, false, false, false] rfl rfl (take_ofW HT_.out HW_.out (by kernel_rfl)) (fun _ _ _ h => h) (Or.inl ⟨by rfl, ?_⟩) hHeld ?_ ?_
                        rotate_left
                        · rintro w' ⟨s0, s1, s2, s3, s4⟩
                          go_simp
                          with_reducible rfl
                        rotate_left
                        · simp only [Act.put, List.setIfInBounds_toArray, List.set_cons_zero, List.set_cons_succ, i64_w, i32_w]
                          rfl
                        refine take_ (i := 8) (N := some 97) (v := ?_) (a' := ?_) #[true, true, true, true, true, false, false, true, true, false, false] rfl rfl (take_ofW HT_.out HW_.out (by kernel_rfl)) (fun _ _ _ h => h) (Or.inl ⟨by rfl, ?_⟩) hHeld ?_ ?_
                        rotate_left
                        · rintro w' ⟨s0, s1, s2, s3, s4⟩
                          go_simp
                          with_reducible rfl
                        rotate_left
                        · simp only [Act.put, List.setIfInBounds_toArray, List.set_cons_zero, List.set_cons_succ, i64_w, i32_w]
                          rfl
                        refine one_ (i := 5) (N := some 94) #[true, true, true, true, true, true, false, true, true, false, false] rfl rfl (one_of HT_.out (by kernel_rfl)) (by decide) (fun K hK => ?_)
                        refine goes_ Try.func14 (by kernel_rfl) rfl #[.agg #[.int .i64 x238000_15, .int .i64 x238001_15, .bool x238002_15, .int .i64 x238003_15, .int .i64 x238004_15]] (by rfl) rfl rfl (by (try simp only [List.map_toArray, List.map_cons, List.map_nil]); first | done | rfl | (simp only [List.length_drop, List.length_take]; rfl)) ?_
                        with_reducible refine (conf_Mode.calls kj15 x238000_15 x238001_15 x238002_15 x238003_15 x238004_15 t264 _ A140.out).mono ?_
                        rintro e w144 ⟨rfl, hb⟩
                        refine ⟨_, rfl, ?_⟩
                        have n0_ := Aside0.mk (blk_below (g := gb237) (o := .cells #[.int .i64 x238000_15, .int .i64 x238001_15, .bool x238002_15, .int .i64 x238003_15, .int .i64 x238004_15] 23 (0, 0)) (by (with_reducible repeat (first | refine blk_drewN ?_ _ | refine blk_drew ?_ | refine blk_alloc ?_ _)); exact BK237.out) hb)
                        have n1_ := Aside0.mk (blk_below (g := gb249) (o := .cells #[.int .u8 ((rd_T34 y243 x19_1).f0), .bool ((rd_T34 y243 x19_1).f1), .int .u8 ((rd_T34 y243 x19_1).f2)] 34 (0, 0)) (by (with_reducible repeat (first | refine blk_drewN ?_ _ | refine blk_drew ?_ | refine blk_alloc ?_ _)); exact BK249.out) hb)
                        have n2_ := Aside0.mk (blk_below (g := gb250) (o := .cells #[.int .i64 x238000_1, .int .i64 x238001_1, .bool x238002_1, .int .i64 x238003_1, .int .i64 x238004_1] 23 (0, 0)) (by (with_reducible repeat (first | refine blk_drewN ?_ _ | refine blk_drew ?_ | refine blk_alloc ?_ _)); exact BK250.out) hb)
                        have n3_ := Aside0.mk (below_step (by repeat (first | (with_reducible first | exact HB.out | apply below_alloc | apply pw_below_drewN | apply below_drew1 | refine below_set ?_ GE237.out | refine below_set ?_ GE249.out | refine below_set ?_ GE250.out) | exact HB.out)) hb)
                        clear BK237
                        clear BK249
                        clear BK250
                        clear HB
                        have BK237 := n0_
                        have BK249 := n1_
                        have BK250 := n2_
                        have HB := n3_
                        clear n0_ n1_ n2_ n3_
                        (try clear hb)
                        (try clear hb2)
                        (try clear hk)
                        (try clear hi)
                        refine hK.out _ _ ⟨(blk_cell BK237.out 0).trans rfl, (blk_cell BK237.out 1).trans rfl, (blk_cell BK237.out 2).trans rfl, (blk_cell BK237.out 3).trans rfl, (blk_cell BK237.out 4).trans rfl⟩ (fun hHeld => ?_)
                        clear hK K
                        refine norm_ (a' := ?_) ?_ ?_
                        rotate_left
                        · show Act.put _ (some 94) _ = _
                          simp only [Act.put, List.setIfInBounds_toArray, List.set_cons_zero, List.set_cons_succ, i64_w, i32_w]
                          rfl
                        refine pure_ (i := 6) (N := some 95) (v := ?_) (a' := ?_) #[true, true, true, true, true, true, true, true, true, false, false] rfl rfl (any_of HT_.out (by kernel_rfl)) (fun _ _ _ h => h) (Or.inl ⟨by rfl, ?_⟩) ?_ ?_
                        rotate_left
                        · intro w'
                          go_simp
                          with_reducible rfl
                        rotate_left
                        · simp only [Act.put, List.setIfInBounds_toArray, List.set_cons_zero, List.set_cons_succ, i64_w, i32_w]
                          rfl
                        refine pure_ (i := 9) (N := some 98) (v := ?_) (a' := ?_) #[true, true, true, true, true, true, true, true, true, true, false] rfl rfl (any_of HT_.out (by kernel_rfl)) (fun _ _ _ h => h) (Or.inl ⟨by rfl, ?_⟩) ?_ ?_
                        rotate_left
                        · intro w'
                          go_simp
                          with_reducible rfl
                        rotate_left
                        · simp only [Act.put, List.setIfInBounds_toArray, List.set_cons_zero, List.set_cons_succ, i64_w, i32_w]
                          rfl
                        refine pure_ (i := 10) (N := some 99) (v := ?_) (a' := ?_) #[true, true, true, true, true, true, true, true, true, true, true] rfl rfl (any_of HT_.out (by kernel_rfl)) (fun _ _ _ h => h) (Or.inl ⟨by rfl, ?_⟩) ?_ ?_
                        rotate_left
                        · intro w'
                          go_simp
                          with_reducible rfl
                        rotate_left
                        · simp only [Act.put, List.setIfInBounds_toArray, List.set_cons_zero, List.set_cons_succ, i64_w, i32_w]
                          rfl
                        refine done_ (done_of HT_.out (by kernel_rfl)) ?_
                        try go_wp2
                        (first | go_roundg kj15 | ((try simp only [← hji4]); go_roundg kj15))
                        case measure => have := HK1.out; have := HJ15.out; omega
                        case rel => exact ⟨(wrap64 (x19_1 + 1)), (x238000_15), (x238001_15), (x238002_15), (x238003_15), (x238004_15), (by first | rfl | (simp; done) | (simp [*]; done)), H', ⟨by have := HK1.out; have := HJ15.out; omega⟩, ⟨by (with_reducible repeat (first | refine blk_drewN ?_ _ | refine blk_drew ?_ | refine blk_alloc ?_ _)); exact BK237.out⟩, ⟨by repeat (first | (with_reducible first | exact HB.out | apply below_alloc | apply pw_below_drewN | apply below_drew1 | refine below_set ?_ GE237.out | refine below_set ?_ GE249.out | refine below_set ?_ GE250.out) | exact HB.out)⟩⟩
                    · replace c139 := Bool.eq_false_iff.mpr c139
                      subst c139
                      have H1 : (some false) = some r := by rw [if_neg (show ¬ (false = true) by decide)] at H; exact H
                      clear H
                      have H := H1
                      clear H1
                      obtain rfl := Option.some.inj H
                      exact absurd hT_ (by decide)
              · rw [if_neg c15] at H
                exact absurd H (by simp)
            · rw [if_neg c14] at H
              exact absurd H (by simp)
          · rw [if_neg c13] at H
            have c13b0 : decide (x19_1 < (y243.length : Int)) = false := decide_eq_false c13
            clear c13
            replace H := Option.bind_eq_some_iff.mp H
            obtain ⟨t247, A1450, H⟩ := H
            replace H : (some t247) = some r := H
            have A145 := Aside0.mk A1450
            clear A1450
            obtain rfl := Option.some.inj H
            simp only [Option.some.injEq, Prod.mk.injEq] at H
            obtain ⟨rfl⟩ := H
            go_wp2_with (first | ((with_reducible refine gate_callee (f := 18) rfl ?_); refine goesL_ (some 101) rfl rfl Try.func18 (by kernel_rfl) rfl #[] rfl (by (try simp only [List.map_toArray, List.map_cons, List.map_nil]); first | done | rfl | (simp only [List.length_drop, List.length_take]; rfl)) ?_; (with_reducible refine (jackstaylaw06_awake.calls k1  t247 _ A145.out).mono ?_); rintro e w146 ⟨rfl, hb⟩; refine ⟨_, rfl, ?_⟩; have n0_ := Aside0.mk (blk_below (g := gb237) (o := .cells #[.int .i64 x238000_1, .int .i64 x238001_1, .bool x238002_1, .int .i64 x238003_1, .int .i64 x238004_1] 23 (0, 0)) (by (with_reducible repeat (first | refine blk_drewN ?_ _ | refine blk_drew ?_ | refine blk_alloc ?_ _)); exact BK237.out) hb); have n1_ := Aside0.mk (below_step (by repeat (first | (with_reducible first | exact HB.out | apply below_alloc | apply pw_below_drewN | apply below_drew1 | refine below_set ?_ GE237.out) | exact HB.out)) hb); clear BK237; clear HB; have BK237 := n0_; have HB := n1_; clear n0_ n1_; (try clear hb); (try clear hb2); (try clear hk); (try clear hi)))
            go_ret
            exact ⟨by first | rfl | (simp [errW_none, errW_some] <;> rfl) | (simp only [← hji4]; first | rfl | (simp [errW_none, errW_some] <;> rfl)) | (simp [*, errW_none, errW_some] <;> rfl), by repeat (first | (with_reducible first | exact HB.out | apply below_alloc | apply pw_below_drewN | apply below_drew1 | refine below_set ?_ GE237.out) | exact HB.out)⟩
    · rw [if_neg c6] at H
      exact absurd H (by simp)
  · rw [if_neg c5] at H
    exact absurd H (by simp)

end Go.Proofs.Ytgpdcgbohodfoaa.P
