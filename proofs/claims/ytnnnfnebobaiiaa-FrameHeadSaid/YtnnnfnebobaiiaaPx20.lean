/- Printed by the kit and by programs of this work for the claim of aaRowFrameHead, without what the claim does not name. -/
import Derived.Test.YtnnnfnebobaiiaaPx0
import Derived.Test.YtnnnfnebobaiiaaPx2
import Derived.Test.YtnnnfnebobaiiaaPx18
import Derived.Test.YtnnnfnebobaiiaaGAnew
import Derived.Test.YtnnnfnebobaiiaaGAwake4
namespace Go.Proofs.Ytnnnfnebobaiiaa.P
open Go.RowKit Go.Proofs.YtnnnfnebobaiiaaW.PrintWords Go.Proofs.YtnnnfnebobaiiaaW.PrintLast Go.Proofs.YtnnnfnebobaiiaaW.PrintMore
attribute [local go_sem] max2_int min2_int max_two min_two max_three min_three max_four min_four
set_option linter.unusedVariables false
set_option linter.unusedSimpArgs false
mutual
def jackstaylaw04_FrameHead.j0 : Nat → List Bool → List Bool → Bool → Int → Bool → Bool → Int → List Int → Option (Bool)
  | 0, _, _, _, _, _, _, _, _ => none
  | k + 1, x1, x5, x24, x249000, x249001, x249002, x249003, x249004 => if x24 = true then ((jackstaylaw04_awake.f).bind fun t253 => (some t253)) else (if (x5.length : Int) < 34 then (jackstaylaw04_FrameHead.j1 k x1 x5 true x249000 x249001 x249002 x249003 x249004) else (if x249001 = true then (jackstaylaw04_FrameHead.j1 k x1 x5 (decide ((x5.length : Int) < 54)) x249000 x249001 x249002 x249003 x249004) else (jackstaylaw04_FrameHead.j1 k x1 x5 false x249000 x249001 x249002 x249003 x249004)))
def jackstaylaw04_FrameHead.j1 : Nat → List Bool → List Bool → Bool → Int → Bool → Bool → Int → List Int → Option (Bool)
  | 0, _, _, _, _, _, _, _, _ => none
  | k + 1, x1, x5, x37, x249000, x249001, x249002, x249003, x249004 => if x37 = true then (some false) else (if x249001 = true then (jackstaylaw04_FrameHead.j2 k x1 x5 39 x249000 x249001 x249002 x249003 x249004) else (jackstaylaw04_FrameHead.j2 k x1 x5 19 x249000 x249001 x249002 x249003 x249004))
def jackstaylaw04_FrameHead.j2 : Nat → List Bool → List Bool → Int → Int → Bool → Bool → Int → List Int → Option (Bool)
  | 0, _, _, _, _, _, _, _, _ => none
  | k + 1, x1, x5, x7, x249000, x249001, x249002, x249003, x249004 => jackstaylaw04_FrameHead.l0 k x1 x5 x7 x7 0 x249000 x249001 x249002 x249003 x249004
def jackstaylaw04_FrameHead.l0 : Nat → List Bool → List Bool → Int → Int → Int → Int → Bool → Bool → Int → List Int → Option (Bool)
  | 0, _, _, _, _, _, _, _, _, _, _ => none
  | k + 1, x1, x5, x7, x40, x41, x249000, x249001, x249002, x249003, x249004 => if x41 < x40 then (if 0 ≤ x41 then (if x41 ≤ (x5.length : Int) then ((frame_Head.f k (x5.take (x41 : Int).toNat)).bind fun bt258 => (if bt258.2 = true then (some false) else (if bt258.1 = 0 then (jackstaylaw04_FrameHead.l0 k x1 x5 x7 x40 (wrap64 (x41 + 1)) x249000 x249001 x249002 x249003 x249004) else (some false)))) else (none)) else (none)) else (if 0 ≤ x7 then (if x7 ≤ (x5.length : Int) then ((jackstaylow_Anew.f (x5.take (x7 : Int).toNat)).bind fun t264 => (if t264.length + x1.length < 140737488355328 then ((frame_Head.f k (t264 ++ x1)).bind fun bt270 => (if bt270.2 = true then (if bt270.1 = (x5.length : Int) then ((frame_Long.f x249000 x249001 x249002 x249003 x249004).bind fun t272 => (if bt270.1 = (wrap64 ((wrap64 (x7 + (wrap64 (8 * t272)))) + 15)) then ((jackstaylaw04_awake.f).bind fun t273 => (some t273)) else (some false))) else (some false)) else (some false))) else (none))) else (none)) else (none))
end
def jackstaylaw04_FrameHead.f (k : Nat) (a0_0 : Int) (a0_1 : Bool) (a0_2 : Bool) (a0_3 : Int) (l0_4 : List Int) (l1 : List Bool) : Option (Bool) := (frame_Body.f k a0_0 a0_1 a0_2 a0_3 l0_4).bind fun bt249 => (if bt249.2 = 0 then (jackstaylaw04_FrameHead.j0 k l1 bt249.1 (decide ((l1.length : Int) > 100)) a0_0 a0_1 a0_2 a0_3 l0_4) else (jackstaylaw04_FrameHead.j0 k l1 bt249.1 true a0_0 a0_1 a0_2 a0_3 l0_4))
theorem jackstaylaw04_FrameHead.mono_l : ∀ k, (∀ y0 y1 y2 y3 y4 y5 y6 y7, LeO (jackstaylaw04_FrameHead.j0 k y0 y1 y2 y3 y4 y5 y6 y7) (jackstaylaw04_FrameHead.j0 (k + 1) y0 y1 y2 y3 y4 y5 y6 y7)) ∧ (∀ y0 y1 y2 y3 y4 y5 y6 y7, LeO (jackstaylaw04_FrameHead.j1 k y0 y1 y2 y3 y4 y5 y6 y7) (jackstaylaw04_FrameHead.j1 (k + 1) y0 y1 y2 y3 y4 y5 y6 y7)) ∧ (∀ y0 y1 y2 y3 y4 y5 y6 y7, LeO (jackstaylaw04_FrameHead.j2 k y0 y1 y2 y3 y4 y5 y6 y7) (jackstaylaw04_FrameHead.j2 (k + 1) y0 y1 y2 y3 y4 y5 y6 y7)) ∧ (∀ y0 y1 y2 y3 y4 y5 y6 y7 y8 y9, LeO (jackstaylaw04_FrameHead.l0 k y0 y1 y2 y3 y4 y5 y6 y7 y8 y9) (jackstaylaw04_FrameHead.l0 (k + 1) y0 y1 y2 y3 y4 y5 y6 y7 y8 y9))
  | 0 => ⟨fun _ _ _ _ _ _ _ _ r h => by simp [jackstaylaw04_FrameHead.j0] at h, fun _ _ _ _ _ _ _ _ r h => by simp [jackstaylaw04_FrameHead.j1] at h, fun _ _ _ _ _ _ _ _ r h => by simp [jackstaylaw04_FrameHead.j2] at h, fun _ _ _ _ _ _ _ _ _ _ r h => by simp [jackstaylaw04_FrameHead.l0] at h⟩
  | k + 1 => by
    obtain ⟨ih0, ih1, ih2, ih3⟩ := jackstaylaw04_FrameHead.mono_l k
    refine ⟨?_, ?_, ?_, ?_⟩
    · intro y0 y1 y2 y3 y4 y5 y6 y7
      unfold jackstaylaw04_FrameHead.j0
      repeat' first
      | (with_reducible exact ih0 _ _ _ _ _ _ _ _)
      | (with_reducible exact ih1 _ _ _ _ _ _ _ _)
      | (with_reducible exact ih2 _ _ _ _ _ _ _ _)
      | (with_reducible exact ih3 _ _ _ _ _ _ _ _ _ _)
      | (with_reducible exact frame_Body.mono _ _ _ _ _ _)
      | (with_reducible exact frame_Head.mono _ _)
      | (with_reducible exact LeO.refl _)
      | (with_reducible exact LeO.none _)
      | (with_reducible refine LeO.ite ?_ ?_)
      | (with_reducible refine LeO.bind ?_ (fun _ => ?_))
      | exact ih0 _ _ _ _ _ _ _ _
      | exact ih1 _ _ _ _ _ _ _ _
      | exact ih2 _ _ _ _ _ _ _ _
      | exact ih3 _ _ _ _ _ _ _ _ _ _
      | exact frame_Body.mono _ _ _ _ _ _
      | exact frame_Head.mono _ _
      | exact LeO.none _
      | refine LeO.ite ?_ ?_
      | refine LeO.bind ?_ (fun _ => ?_)
    · intro y0 y1 y2 y3 y4 y5 y6 y7
      unfold jackstaylaw04_FrameHead.j1
      repeat' first
      | (with_reducible exact ih0 _ _ _ _ _ _ _ _)
      | (with_reducible exact ih1 _ _ _ _ _ _ _ _)
      | (with_reducible exact ih2 _ _ _ _ _ _ _ _)
      | (with_reducible exact ih3 _ _ _ _ _ _ _ _ _ _)
      | (with_reducible exact frame_Body.mono _ _ _ _ _ _)
      | (with_reducible exact frame_Head.mono _ _)
      | (with_reducible exact LeO.refl _)
      | (with_reducible exact LeO.none _)
      | (with_reducible refine LeO.ite ?_ ?_)
      | (with_reducible refine LeO.bind ?_ (fun _ => ?_))
      | exact ih0 _ _ _ _ _ _ _ _
      | exact ih1 _ _ _ _ _ _ _ _
      | exact ih2 _ _ _ _ _ _ _ _
      | exact ih3 _ _ _ _ _ _ _ _ _ _
      | exact frame_Body.mono _ _ _ _ _ _
      | exact frame_Head.mono _ _
      | exact LeO.none _
      | refine LeO.ite ?_ ?_
      | refine LeO.bind ?_ (fun _ => ?_)
    · intro y0 y1 y2 y3 y4 y5 y6 y7
      unfold jackstaylaw04_FrameHead.j2
      repeat' first
      | (with_reducible exact ih0 _ _ _ _ _ _ _ _)
      | (with_reducible exact ih1 _ _ _ _ _ _ _ _)
      | (with_reducible exact ih2 _ _ _ _ _ _ _ _)
      | (with_reducible exact ih3 _ _ _ _ _ _ _ _ _ _)
      | (with_reducible exact frame_Body.mono _ _ _ _ _ _)
      | (with_reducible exact frame_Head.mono _ _)
      | (with_reducible exact LeO.refl _)
      | (with_reducible exact LeO.none _)
      | (with_reducible refine LeO.ite ?_ ?_)
      | (with_reducible refine LeO.bind ?_ (fun _ => ?_))
      | exact ih0 _ _ _ _ _ _ _ _
      | exact ih1 _ _ _ _ _ _ _ _
      | exact ih2 _ _ _ _ _ _ _ _
      | exact ih3 _ _ _ _ _ _ _ _ _ _
      | exact frame_Body.mono _ _ _ _ _ _
      | exact frame_Head.mono _ _
      | exact LeO.none _
      | refine LeO.ite ?_ ?_
      | refine LeO.bind ?_ (fun _ => ?_)
    · intro y0 y1 y2 y3 y4 y5 y6 y7 y8 y9
      unfold jackstaylaw04_FrameHead.l0
      repeat' first
      | (with_reducible exact ih0 _ _ _ _ _ _ _ _)
      | (with_reducible exact ih1 _ _ _ _ _ _ _ _)
      | (with_reducible exact ih2 _ _ _ _ _ _ _ _)
      | (with_reducible exact ih3 _ _ _ _ _ _ _ _ _ _)
      | (with_reducible exact frame_Body.mono _ _ _ _ _ _)
      | (with_reducible exact frame_Head.mono _ _)
      | (with_reducible exact LeO.refl _)
      | (with_reducible exact LeO.none _)
      | (with_reducible refine LeO.ite ?_ ?_)
      | (with_reducible refine LeO.bind ?_ (fun _ => ?_))
      | exact ih0 _ _ _ _ _ _ _ _
      | exact ih1 _ _ _ _ _ _ _ _
      | exact ih2 _ _ _ _ _ _ _ _
      | exact ih3 _ _ _ _ _ _ _ _ _ _
      | exact frame_Body.mono _ _ _ _ _ _
      | exact frame_Head.mono _ _
      | exact LeO.none _
      | refine LeO.ite ?_ ?_
      | refine LeO.bind ?_ (fun _ => ?_)
theorem jackstaylaw04_FrameHead.mono : ∀ a0 a1 a2 a3 a4 a5 k, LeO (jackstaylaw04_FrameHead.f k a0 a1 a2 a3 a4 a5) (jackstaylaw04_FrameHead.f (k + 1) a0 a1 a2 a3 a4 a5) := by
  intro a0 a1 a2 a3 a4 a5 k
  obtain ⟨ih0, ih1, ih2, ih3⟩ := jackstaylaw04_FrameHead.mono_l k
  unfold jackstaylaw04_FrameHead.f
  repeat' first
      | (with_reducible exact ih0 _ _ _ _ _ _ _ _)
      | (with_reducible exact ih1 _ _ _ _ _ _ _ _)
      | (with_reducible exact ih2 _ _ _ _ _ _ _ _)
      | (with_reducible exact ih3 _ _ _ _ _ _ _ _ _ _)
      | (with_reducible exact frame_Body.mono _ _ _ _ _ _)
      | (with_reducible exact frame_Head.mono _ _)
      | (with_reducible exact LeO.refl _)
      | (with_reducible exact LeO.none _)
      | (with_reducible refine LeO.ite ?_ ?_)
      | (with_reducible refine LeO.bind ?_ (fun _ => ?_))
      | exact ih0 _ _ _ _ _ _ _ _
      | exact ih1 _ _ _ _ _ _ _ _
      | exact ih2 _ _ _ _ _ _ _ _
      | exact ih3 _ _ _ _ _ _ _ _ _ _
      | exact frame_Body.mono _ _ _ _ _ _
      | exact frame_Head.mono _ _
      | exact LeO.none _
      | refine LeO.ite ?_ ?_
      | refine LeO.bind ?_ (fun _ => ?_)
set_option maxHeartbeats 8000000 in
set_option maxRecDepth 100000 in
theorem jackstaylaw04_FrameHead.calls (k : Nat) (a0_0 : Int) (a0_1 : Bool) (a0_2 : Bool) (a0_3 : Int) (A0_4 : Option Addr) (c0_4 : Nat) (l0_4 : List Int) (A1 : Option Addr) (c1 : Nat) (l1 : List Bool) (r : Bool) (w : World) (hr0_4 : Kd.C (Kd.int .u8) w A0_4 l0_4.length l0_4) (hc0_4 : l0_4.length ≤ c0_4) (hr1 : Kd.C Kd.bool w A1 l1.length l1) (hc1 : l1.length ≤ c1) (h : jackstaylaw04_FrameHead.f k a0_0 a0_1 a0_2 a0_3 l0_4 l1 = some r) (hT_ : r = true) :
    Calls Try.prog 3 #[.agg #[.int .u32 a0_0, .bool a0_1, .bool a0_2, .int .u8 a0_3, .slice A0_4 l0_4.length c0_4], .slice A1 l1.length c1] w fun e w' => e = .returned (.bool r) ∧ Below w.heap.size w w' := by
  have hu25 := Try.underlying25
  have HR0_4 := Aside0.mk hr0_4
  have HC0_4 := Aside0.mk hc0_4
  clear hr0_4 hc0_4
  have HR1 := Aside0.mk hr1
  have HC1 := Aside0.mk hc1
  clear hr1 hc1
  have HB := Aside0.mk (Below.refl w.heap.size w)
  have H : ((frame_Body.f k a0_0 a0_1 a0_2 a0_3 l0_4).bind fun bt249 => (if bt249.2 = 0 then (jackstaylaw04_FrameHead.j0 k l1 bt249.1 (decide ((l1.length : Int) > 100)) a0_0 a0_1 a0_2 a0_3 l0_4) else (jackstaylaw04_FrameHead.j0 k l1 bt249.1 true a0_0 a0_1 a0_2 a0_3 l0_4))) = some r := h
  clear h
  replace H := Option.bind_eq_some_iff.mp H
  obtain ⟨⟨t249, t252⟩, A30, H⟩ := H
  replace H : (if t252 = 0 then (jackstaylaw04_FrameHead.j0 k l1 t249 (decide ((l1.length : Int) > 100)) a0_0 a0_1 a0_2 a0_3 l0_4) else (jackstaylaw04_FrameHead.j0 k l1 t249 true a0_0 a0_1 a0_2 a0_3 l0_4)) = some r := H
  have A3 := Aside0.mk A30
  clear A30
  have HC4 := Aside0.mk H
  clear H
  go_enter Try.func3, Try.ntmps3
  go_upto_region 2 with (first | ((with_reducible refine gate_dst (N := 2) rfl ?_); (try (refine gate_guard (by rfl) ?_; dsimp only)); refine box_event ?hg (N := 2) ?hd (cs := #[.int .u32 a0_0, .bool a0_1, .bool a0_2, .int .u8 a0_3, .slice A0_4 l0_4.length c0_4]) (t := 25) ?hr ?_; (case hd => rfl); (case hg => rfl); (case hr => first | (go_simp; done) | (go_simp; rfl)); intro gb248 hg w5 hbox hb; have n0_ := Aside0.mk (below_step (by repeat (first | (with_reducible first | exact HB.out | apply below_alloc | apply pw_below_drewN | apply below_drew1) | exact HB.out)) hb); have n1_ := Aside0.mk (hbox); have n2_ := Aside0.mk ((by rw [hg]; exact (below_size (by repeat (first | (with_reducible first | exact HB.out | apply below_alloc | apply pw_below_drewN | apply below_drew1) | exact HB.out))) : w.heap.size ≤ gb248)); have n3_ := Aside0.mk ((by rw [hg]; exact (below_size (by repeat (first | (with_reducible first | exact HB.out | apply below_alloc | apply pw_below_drewN | apply below_drew1) | exact HB.out))) : w.heap.size ≤ gb248)); clear HB; have HB := n0_; have BK248 := n1_; have GW248 := n2_; have GE248 := n3_; clear n0_ n1_ n2_ n3_; clear hb hbox hg; have hcz6_0 : w5.cell? ⟨gb248, 0, none⟩ = some (.int .u32 a0_0) := (blk_cell BK248.out 0).trans rfl; have hcz6_1 : w5.cell? ⟨gb248, 1, none⟩ = some (.bool a0_1) := (blk_cell BK248.out 1).trans rfl; have hcz6_2 : w5.cell? ⟨gb248, 2, none⟩ = some (.bool a0_2) := (blk_cell BK248.out 2).trans rfl; have hcz6_3 : w5.cell? ⟨gb248, 3, none⟩ = some (.int .u8 a0_3) := (blk_cell BK248.out 3).trans rfl; have hcz6_4 : w5.cell? ⟨gb248, 4, none⟩ = some (.slice A0_4 l0_4.length c0_4) := (blk_cell BK248.out 4).trans rfl; have hfz6_0 := blk_frozen BK248.out 0; have hfz6_1 := blk_frozen BK248.out 1; have hfz6_2 := blk_frozen BK248.out 2; have hfz6_3 := blk_frozen BK248.out 3; have hfz6_4 := blk_frozen BK248.out 4) | ((with_reducible refine gate_callee (f := 27) rfl ?_); refine goesL_ (some 15) rfl rfl Try.func27 (by kernel_rfl) rfl #[.agg #[.int .u32 a0_0, .bool a0_1, .bool a0_2, .int .u8 a0_3, .slice A0_4 l0_4.length c0_4]] rfl (by (try simp only [List.map_toArray, List.map_cons, List.map_nil]); first | done | rfl | (simp only [List.length_drop, List.length_take]; rfl)) ?_; (with_reducible refine (frame_Body.calls k a0_0 a0_1 a0_2 a0_3 _ _ l0_4 t249 t252 _ ?side1 ?side2 A3.out).mono ?_); (case side1 => repeat (first | exact (Kd.C_below HR0_4.out HB.out) | (with_reducible refine Kd.C_alloc ?_ _) | (with_reducible refine Kd.C_drewN ?_ _) | (with_reducible refine Kd.C_drew ?_))); (case side2 => exact HC0_4.out); rintro e w7 ⟨v250, rfl, ho0, hb⟩; refine ⟨_, rfl, ?_⟩; have n0_ := Aside0.mk (Kd.R_lower ho0 (below_size (by repeat (first | (with_reducible first | exact HB.out | apply below_alloc | apply pw_below_drewN | apply below_drew1 | refine below_set ?_ GE248.out) | exact HB.out)))); have n1_ := Aside0.mk (blk_below (g := gb248) (o := .cells #[.int .u32 a0_0, .bool a0_1, .bool a0_2, .int .u8 a0_3, .slice A0_4 l0_4.length c0_4] 25 (0, 0)) (by (with_reducible repeat (first | refine blk_drewN ?_ _ | refine blk_drew ?_ | refine blk_alloc ?_ _)); exact BK248.out) hb); have n2_ := Aside0.mk (below_step (by repeat (first | (with_reducible first | exact HB.out | apply below_alloc | apply pw_below_drewN | apply below_drew1 | refine below_set ?_ GE248.out) | exact HB.out)) hb); clear BK248; clear HB; have HO251 := n0_; have BK248 := n1_; have HB := n2_; clear n0_ n1_ n2_; (try clear hb); (try clear hb2); (try clear hk); (try clear hi); (try clear ho0)))
  (try simp only [Act.put, List.setIfInBounds_toArray, List.set_cons_zero, List.set_cons_succ])
  go_cut [24] (fun v24 wc => ∃ (kq : Nat) (x24_3 : Bool), v24 = .bool x24_3 ∧ Aside0 (jackstaylaw04_FrameHead.j0 kq l1 t249 x24_3 a0_0 a0_1 a0_2 a0_3 l0_4 = some r) ∧ Aside0 (kq ≤ k) ∧ Aside0 (Kd.R Kd.bool 4 wc w.heap.size (fun _ => True) v250 t249) ∧ Aside0 (wc.heap[gb248]? = some (.cells #[.int .u32 a0_0, .bool a0_1, .bool a0_2, .int .u8 a0_3, (.slice A0_4 l0_4.length c0_4)] 25 (0, 0))) ∧ Aside0 (Below w.heap.size w wc))
  case first =>
    have H := HC4.out
    clear HC4
    by_cases c8 : t252 = 0
    · rw [if_pos c8] at H
      have c8b0 : (t252 == 0) = true := beq_iff_eq.mpr c8
      have c8b1 : (t252 != 0) = false := bne_eq_false_iff_eq.mpr c8
      clear c8
      (first | rw [c8b0] | (simp only [i64_w, i32_w]; rw [c8b0]) | skip)
      have H' := Aside0.mk H
      clear H
      go_wp2
      go_meet
      case rel => exact ⟨_, (decide ((l1.length : Int) > 100)), (by first | rfl | (simp; done) | (simp [*]; done)), H', ⟨by first | omega | exact Nat.le_refl _⟩, ⟨by (with_reducible repeat (first | apply Kd.R_alloc | apply Kd.R_drewN | apply Kd.R_drew)); exact HO251.out⟩, ⟨by (with_reducible repeat (first | refine blk_drewN ?_ _ | refine blk_drew ?_ | refine blk_alloc ?_ _)); exact BK248.out⟩, ⟨by repeat (first | (with_reducible first | exact HB.out | apply below_alloc | apply pw_below_drewN | apply below_drew1 | refine below_set ?_ GE248.out) | exact HB.out)⟩⟩
    · rw [if_neg c8] at H
      have c8b0 : (t252 == 0) = false := beq_eq_false_iff_ne.mpr c8
      have c8b1 : (t252 != 0) = true := bne_iff_ne.mpr c8
      (first | rw [c8b0] | (simp only [i64_w, i32_w]; rw [c8b0]) | skip)
      have H' := Aside0.mk H
      clear H
      go_wp2
      go_meet
      case rel => exact ⟨_, (true), (by first | rfl | (simp; done) | (simp [*]; done)), H', ⟨by first | omega | exact Nat.le_refl _⟩, ⟨by (with_reducible repeat (first | apply Kd.R_alloc | apply Kd.R_drewN | apply Kd.R_drew)); exact HO251.out⟩, ⟨by (with_reducible repeat (first | refine blk_drewN ?_ _ | refine blk_drew ?_ | refine blk_alloc ?_ _)); exact BK248.out⟩, ⟨by repeat (first | (with_reducible first | exact HB.out | apply below_alloc | apply pw_below_drewN | apply below_drew1 | refine below_set ?_ GE248.out) | exact HB.out)⟩⟩
  case rest =>
    clear HC4
    try clear c1
    try clear c2
    try clear p2
    try clear c3
    try clear c8
    try clear c8b0
    try clear c8b1
    try clear hcz6_0
    try clear hcz6_1
    try clear hcz6_2
    try clear hcz6_3
    try clear hcz6_4
    try clear hfz6_0
    try clear hfz6_1
    try clear hfz6_2
    try clear hfz6_3
    try clear hfz6_4
    obtain ⟨kq, x24_3, rfl, HA, HJ3, HO_5, BK248, HB⟩ := hcut
    cases kq with
    | zero => exact absurd HA.out (by simp [jackstaylaw04_FrameHead.j0])
    | succ kj3 =>
      have H := HA.out
      clear HA
      simp only [jackstaylaw04_FrameHead.j0] at H
      by_cases c9 : x24_3 = true
      · subst c9
        have H1 : ((jackstaylaw04_awake.f).bind fun t253 => (some t253)) = some r := by rw [if_pos rfl] at H; exact H
        clear H
        have H := H1
        clear H1
        replace H := Option.bind_eq_some_iff.mp H
        obtain ⟨t253, A100, H⟩ := H
        replace H : (some t253) = some r := H
        have A10 := Aside0.mk A100
        clear A100
        obtain rfl := Option.some.inj H
        simp only [Option.some.injEq, Prod.mk.injEq] at H
        obtain ⟨rfl⟩ := H
        go_wp2_with (first | ((with_reducible refine gate_callee (f := 28) rfl ?_); refine goesL_ (some 25) rfl rfl Try.func28 (by kernel_rfl) rfl #[] rfl (by (try simp only [List.map_toArray, List.map_cons, List.map_nil]); first | done | rfl | (simp only [List.length_drop, List.length_take]; rfl)) ?_; (with_reducible refine (jackstaylaw04_awake.calls  t253 _ A10.out).mono ?_); rintro e w11 ⟨rfl, hb⟩; refine ⟨_, rfl, ?_⟩; have n0_ := Aside0.mk (Kd.R_below (by (with_reducible repeat (first | apply Kd.R_alloc | apply Kd.R_drewN | apply Kd.R_drew)); exact HO_5.out) hb); have n1_ := Aside0.mk (blk_below (g := gb248) (o := .cells #[.int .u32 a0_0, .bool a0_1, .bool a0_2, .int .u8 a0_3, .slice A0_4 l0_4.length c0_4] 25 (0, 0)) (by (with_reducible repeat (first | refine blk_drewN ?_ _ | refine blk_drew ?_ | refine blk_alloc ?_ _)); exact BK248.out) hb); have n2_ := Aside0.mk (below_step (by repeat (first | (with_reducible first | exact HB.out | apply below_alloc | apply pw_below_drewN | apply below_drew1 | refine below_set ?_ GE248.out) | exact HB.out)) hb); clear HO_5; clear BK248; clear HB; have HO_5 := n0_; have BK248 := n1_; have HB := n2_; clear n0_ n1_ n2_; (try clear hb); (try clear hb2); (try clear hk); (try clear hi)))
        go_ret
        exact ⟨by first | rfl | (simp [errW_none, errW_some] <;> rfl) | (simp [*, errW_none, errW_some] <;> rfl), by repeat (first | (with_reducible first | exact HB.out | apply below_alloc | apply pw_below_drewN | apply below_drew1 | refine below_set ?_ GE248.out) | exact HB.out)⟩
      · replace c9 := Bool.eq_false_iff.mpr c9
        subst c9
        have H1 : (if (t249.length : Int) < 34 then (jackstaylaw04_FrameHead.j1 kj3 l1 t249 true a0_0 a0_1 a0_2 a0_3 l0_4) else (if a0_1 = true then (jackstaylaw04_FrameHead.j1 kj3 l1 t249 (decide ((t249.length : Int) < 54)) a0_0 a0_1 a0_2 a0_3 l0_4) else (jackstaylaw04_FrameHead.j1 kj3 l1 t249 false a0_0 a0_1 a0_2 a0_3 l0_4))) = some r := by rw [if_neg (show ¬ (false = true) by decide)] at H; exact H
        clear H
        have H := H1
        clear H1
        have HC12 := Aside0.mk H
        clear H
        go_upto_region 4 with (fail)
        go_cut [37] (fun v37 wc => ∃ (kq : Nat) (x37_11 : Bool), v37 = .bool x37_11 ∧ Aside0 (jackstaylaw04_FrameHead.j1 kq l1 t249 x37_11 a0_0 a0_1 a0_2 a0_3 l0_4 = some r) ∧ Aside0 (kq ≤ kj3) ∧ Aside0 (Kd.R Kd.bool 4 wc w.heap.size (fun _ => True) v250 t249) ∧ Aside0 (wc.heap[gb248]? = some (.cells #[.int .u32 a0_0, .bool a0_1, .bool a0_2, .int .u8 a0_3, (.slice A0_4 l0_4.length c0_4)] 25 (0, 0))) ∧ Aside0 (Below w.heap.size w wc))
        case first =>
          have H := HC12.out
          clear HC12
          by_cases c13 : (t249.length : Int) < 34
          · rw [if_pos c13] at H
            have c13b0 : decide ((t249.length : Int) < 34) = true := decide_eq_true c13
            have c13b1 : decide (t249.length < 34) = true := decide_eq_true (by omega)
            clear c13
            (first | rw [c13b0] | (simp only [i64_w, i32_w]; rw [c13b0]) | skip)
            have H' := Aside0.mk H
            clear H
            obtain ⟨Ao14, co14, eo14⟩ := Kd.R_slice HO_5.out
            subst eo14
            go_wp2
            go_meet
            case rel => exact ⟨_, (true), (by first | rfl | (simp; done) | (simp [*]; done)), H', ⟨by have := HJ3.out; first | omega | exact Nat.le_refl _⟩, ⟨by (with_reducible repeat (first | apply Kd.R_alloc | apply Kd.R_drewN | apply Kd.R_drew)); exact HO_5.out⟩, ⟨by (with_reducible repeat (first | refine blk_drewN ?_ _ | refine blk_drew ?_ | refine blk_alloc ?_ _)); exact BK248.out⟩, ⟨by repeat (first | (with_reducible first | exact HB.out | apply below_alloc | apply pw_below_drewN | apply below_drew1 | refine below_set ?_ GE248.out) | exact HB.out)⟩⟩
          · rw [if_neg c13] at H
            have c13b0 : decide ((t249.length : Int) < 34) = false := decide_eq_false c13
            have c13b1 : decide (t249.length < 34) = false := decide_eq_false (by omega)
            clear c13
            (first | rw [c13b0] | (simp only [i64_w, i32_w]; rw [c13b0]) | skip)
            by_cases c15 : a0_1 = true
            · subst c15
              have H1 : (jackstaylaw04_FrameHead.j1 kj3 l1 t249 (decide ((t249.length : Int) < 54)) a0_0 true a0_2 a0_3 l0_4) = some r := by rw [if_pos rfl] at H; exact H
              clear H
              have H := H1
              clear H1
              have H' := Aside0.mk H
              clear H
              obtain ⟨Ao16, co16, eo16⟩ := Kd.R_slice HO_5.out
              subst eo16
              have hcz17_0 : wc.cell? ⟨gb248, 0, none⟩ = some (.int .u32 a0_0) := (blk_cell BK248.out 0).trans rfl
              have hcz17_1 : wc.cell? ⟨gb248, 1, none⟩ = some (.bool true) := (blk_cell BK248.out 1).trans rfl
              have hcz17_2 : wc.cell? ⟨gb248, 2, none⟩ = some (.bool a0_2) := (blk_cell BK248.out 2).trans rfl
              have hcz17_3 : wc.cell? ⟨gb248, 3, none⟩ = some (.int .u8 a0_3) := (blk_cell BK248.out 3).trans rfl
              have hcz17_4 : wc.cell? ⟨gb248, 4, none⟩ = some (.slice A0_4 l0_4.length c0_4) := (blk_cell BK248.out 4).trans rfl
              have hfz17_0 := blk_frozen BK248.out 0
              have hfz17_1 := blk_frozen BK248.out 1
              have hfz17_2 := blk_frozen BK248.out 2
              have hfz17_3 := blk_frozen BK248.out 3
              have hfz17_4 := blk_frozen BK248.out 4
              go_wp2
              go_meet
              case rel => exact ⟨_, (decide ((t249.length : Int) < 54)), (by first | rfl | (simp; done) | (simp [*]; done)), H', ⟨by have := HJ3.out; first | omega | exact Nat.le_refl _⟩, ⟨by (with_reducible repeat (first | apply Kd.R_alloc | apply Kd.R_drewN | apply Kd.R_drew)); exact HO_5.out⟩, ⟨by (with_reducible repeat (first | refine blk_drewN ?_ _ | refine blk_drew ?_ | refine blk_alloc ?_ _)); exact BK248.out⟩, ⟨by repeat (first | (with_reducible first | exact HB.out | apply below_alloc | apply pw_below_drewN | apply below_drew1 | refine below_set ?_ GE248.out) | exact HB.out)⟩⟩
            · replace c15 := Bool.eq_false_iff.mpr c15
              subst c15
              have H1 : (jackstaylaw04_FrameHead.j1 kj3 l1 t249 false a0_0 false a0_2 a0_3 l0_4) = some r := by rw [if_neg (show ¬ (false = true) by decide)] at H; exact H
              clear H
              have H := H1
              clear H1
              have H' := Aside0.mk H
              clear H
              obtain ⟨Ao18, co18, eo18⟩ := Kd.R_slice HO_5.out
              subst eo18
              have hcz19_0 : wc.cell? ⟨gb248, 0, none⟩ = some (.int .u32 a0_0) := (blk_cell BK248.out 0).trans rfl
              have hcz19_1 : wc.cell? ⟨gb248, 1, none⟩ = some (.bool false) := (blk_cell BK248.out 1).trans rfl
              have hcz19_2 : wc.cell? ⟨gb248, 2, none⟩ = some (.bool a0_2) := (blk_cell BK248.out 2).trans rfl
              have hcz19_3 : wc.cell? ⟨gb248, 3, none⟩ = some (.int .u8 a0_3) := (blk_cell BK248.out 3).trans rfl
              have hcz19_4 : wc.cell? ⟨gb248, 4, none⟩ = some (.slice A0_4 l0_4.length c0_4) := (blk_cell BK248.out 4).trans rfl
              have hfz19_0 := blk_frozen BK248.out 0
              have hfz19_1 := blk_frozen BK248.out 1
              have hfz19_2 := blk_frozen BK248.out 2
              have hfz19_3 := blk_frozen BK248.out 3
              have hfz19_4 := blk_frozen BK248.out 4
              go_wp2
              go_meet
              case rel => exact ⟨_, (false), (by first | rfl | (simp; done) | (simp [*]; done)), H', ⟨by have := HJ3.out; first | omega | exact Nat.le_refl _⟩, ⟨by (with_reducible repeat (first | apply Kd.R_alloc | apply Kd.R_drewN | apply Kd.R_drew)); exact HO_5.out⟩, ⟨by (with_reducible repeat (first | refine blk_drewN ?_ _ | refine blk_drew ?_ | refine blk_alloc ?_ _)); exact BK248.out⟩, ⟨by repeat (first | (with_reducible first | exact HB.out | apply below_alloc | apply pw_below_drewN | apply below_drew1 | refine below_set ?_ GE248.out) | exact HB.out)⟩⟩
        case rest =>
          clear HC12
          try clear c1
          try clear c2
          try clear p2
          try clear c3
          try clear c8
          try clear c8b0
          try clear c8b1
          try clear c9
          try clear c13
          try clear c13b0
          try clear c13b1
          try clear c15
          try clear hcz17_0
          try clear hcz17_1
          try clear hcz17_2
          try clear hcz17_3
          try clear hcz17_4
          try clear hcz19_0
          try clear hcz19_1
          try clear hcz19_2
          try clear hcz19_3
          try clear hcz19_4
          try clear hcz6_0
          try clear hcz6_1
          try clear hcz6_2
          try clear hcz6_3
          try clear hcz6_4
          try clear hfz17_0
          try clear hfz17_1
          try clear hfz17_2
          try clear hfz17_3
          try clear hfz17_4
          try clear hfz19_0
          try clear hfz19_1
          try clear hfz19_2
          try clear hfz19_3
          try clear hfz19_4
          try clear hfz6_0
          try clear hfz6_1
          try clear hfz6_2
          try clear hfz6_3
          try clear hfz6_4
          try clear p2
          obtain ⟨kq, x37_11, rfl, HA, HJ11, HO_5, BK248, HB⟩ := hcut
          cases kq with
          | zero => exact absurd HA.out (by simp [jackstaylaw04_FrameHead.j1])
          | succ kj11 =>
            have H := HA.out
            clear HA
            simp only [jackstaylaw04_FrameHead.j1] at H
            by_cases c20 : x37_11 = true
            · subst c20
              have H1 : (some false) = some r := by rw [if_pos rfl] at H; exact H
              clear H
              have H := H1
              clear H1
              obtain rfl := Option.some.inj H
              exact absurd hT_ (by decide)
            · replace c20 := Bool.eq_false_iff.mpr c20
              subst c20
              have H1 : (if a0_1 = true then (jackstaylaw04_FrameHead.j2 kj11 l1 t249 39 a0_0 a0_1 a0_2 a0_3 l0_4) else (jackstaylaw04_FrameHead.j2 kj11 l1 t249 19 a0_0 a0_1 a0_2 a0_3 l0_4)) = some r := by rw [if_neg (show ¬ (false = true) by decide)] at H; exact H
              clear H
              have H := H1
              clear H1
              have HC21 := Aside0.mk H
              clear H
              have hcz22_0 : wc.cell? ⟨gb248, 0, none⟩ = some (.int .u32 a0_0) := (blk_cell BK248.out 0).trans rfl
              have hcz22_1 : wc.cell? ⟨gb248, 1, none⟩ = some (.bool a0_1) := (blk_cell BK248.out 1).trans rfl
              have hcz22_2 : wc.cell? ⟨gb248, 2, none⟩ = some (.bool a0_2) := (blk_cell BK248.out 2).trans rfl
              have hcz22_3 : wc.cell? ⟨gb248, 3, none⟩ = some (.int .u8 a0_3) := (blk_cell BK248.out 3).trans rfl
              have hcz22_4 : wc.cell? ⟨gb248, 4, none⟩ = some (.slice A0_4 l0_4.length c0_4) := (blk_cell BK248.out 4).trans rfl
              have hfz22_0 := blk_frozen BK248.out 0
              have hfz22_1 := blk_frozen BK248.out 1
              have hfz22_2 := blk_frozen BK248.out 2
              have hfz22_3 := blk_frozen BK248.out 3
              have hfz22_4 := blk_frozen BK248.out 4
              go_upto_if 39 with (fail)
              go_cut [7] (fun v7 wc => ∃ (kq : Nat) (x7_20 : Int), v7 = .int .i64 x7_20 ∧ Aside0 (jackstaylaw04_FrameHead.j2 kq l1 t249 x7_20 a0_0 a0_1 a0_2 a0_3 l0_4 = some r) ∧ Aside0 (kq ≤ kj11) ∧ Aside0 (Kd.R Kd.bool 4 wc w.heap.size (fun _ => True) v250 t249) ∧ Aside0 (wc.heap[gb248]? = some (.cells #[.int .u32 a0_0, .bool a0_1, .bool a0_2, .int .u8 a0_3, (.slice A0_4 l0_4.length c0_4)] 25 (0, 0))) ∧ Aside0 (Below w.heap.size w wc))
              case first =>
                have H := HC21.out
                clear HC21
                by_cases c23 : a0_1 = true
                · subst c23
                  have H1 : (jackstaylaw04_FrameHead.j2 kj11 l1 t249 39 a0_0 true a0_2 a0_3 l0_4) = some r := by rw [if_pos rfl] at H; exact H
                  clear H
                  have H := H1
                  clear H1
                  have H' := Aside0.mk H
                  clear H
                  go_wp2
                  go_meet
                  case rel => exact ⟨_, (39), (by first | rfl | (simp; done) | (simp [*]; done)), H', ⟨by have := HJ3.out; have := HJ11.out; first | omega | exact Nat.le_refl _⟩, ⟨by (with_reducible repeat (first | apply Kd.R_alloc | apply Kd.R_drewN | apply Kd.R_drew)); exact HO_5.out⟩, ⟨by (with_reducible repeat (first | refine blk_drewN ?_ _ | refine blk_drew ?_ | refine blk_alloc ?_ _)); exact BK248.out⟩, ⟨by repeat (first | (with_reducible first | exact HB.out | apply below_alloc | apply pw_below_drewN | apply below_drew1 | refine below_set ?_ GE248.out) | exact HB.out)⟩⟩
                · replace c23 := Bool.eq_false_iff.mpr c23
                  subst c23
                  have H1 : (jackstaylaw04_FrameHead.j2 kj11 l1 t249 19 a0_0 false a0_2 a0_3 l0_4) = some r := by rw [if_neg (show ¬ (false = true) by decide)] at H; exact H
                  clear H
                  have H := H1
                  clear H1
                  have H' := Aside0.mk H
                  clear H
                  go_wp2
                  go_meet
                  case rel => exact ⟨_, (19), (by first | rfl | (simp; done) | (simp [*]; done)), H', ⟨by have := HJ3.out; have := HJ11.out; first | omega | exact Nat.le_refl _⟩, ⟨by (with_reducible repeat (first | apply Kd.R_alloc | apply Kd.R_drewN | apply Kd.R_drew)); exact HO_5.out⟩, ⟨by (with_reducible repeat (first | refine blk_drewN ?_ _ | refine blk_drew ?_ | refine blk_alloc ?_ _)); exact BK248.out⟩, ⟨by repeat (first | (with_reducible first | exact HB.out | apply below_alloc | apply pw_below_drewN | apply below_drew1 | refine below_set ?_ GE248.out) | exact HB.out)⟩⟩
              case rest =>
                clear HC21
                try clear c1
                try clear c2
                try clear p2
                try clear c3
                try clear c8
                try clear c8b0
                try clear c8b1
                try clear c9
                try clear c13
                try clear c13b0
                try clear c13b1
                try clear c15
                try clear c20
                try clear c23
                try clear hcz17_0
                try clear hcz17_1
                try clear hcz17_2
                try clear hcz17_3
                try clear hcz17_4
                try clear hcz19_0
                try clear hcz19_1
                try clear hcz19_2
                try clear hcz19_3
                try clear hcz19_4
                try clear hcz22_0
                try clear hcz22_1
                try clear hcz22_2
                try clear hcz22_3
                try clear hcz22_4
                try clear hcz6_0
                try clear hcz6_1
                try clear hcz6_2
                try clear hcz6_3
                try clear hcz6_4
                try clear hfz17_0
                try clear hfz17_1
                try clear hfz17_2
                try clear hfz17_3
                try clear hfz17_4
                try clear hfz19_0
                try clear hfz19_1
                try clear hfz19_2
                try clear hfz19_3
                try clear hfz19_4
                try clear hfz22_0
                try clear hfz22_1
                try clear hfz22_2
                try clear hfz22_3
                try clear hfz22_4
                try clear hfz6_0
                try clear hfz6_1
                try clear hfz6_2
                try clear hfz6_3
                try clear hfz6_4
                try clear p2
                obtain ⟨kq, x7_20, rfl, HA, HJ20, HO_5, BK248, HB⟩ := hcut
                cases kq with
                | zero => exact absurd HA.out (by simp [jackstaylaw04_FrameHead.j2])
                | succ kj20 =>
                  have H := HA.out
                  clear HA
                  simp only [jackstaylaw04_FrameHead.j2] at H
                  have H' := Aside0.mk H
                  clear H
                  go_wp2
                  go_loopg [41] kj20 (fun kq v41 w' => ∃ (x41_4 : Int), v41 = .int .i64 x41_4 ∧ Aside0 (jackstaylaw04_FrameHead.l0 kq l1 t249 x7_20 x7_20 x41_4 a0_0 a0_1 a0_2 a0_3 l0_4 = some r) ∧ Aside0 (kq ≤ kj20) ∧ Aside0 (Kd.R Kd.bool 4 w' w.heap.size (fun _ => True) v250 t249) ∧ Aside0 (w'.heap[gb248]? = some (.cells #[.int .u32 a0_0, .bool a0_1, .bool a0_2, .int .u8 a0_3, (.slice A0_4 l0_4.length c0_4)] 25 (0, 0))) ∧ Aside0 (Below w.heap.size w w'))
                  case atStart => exact ⟨(0), (by first | rfl | (simp; done) | (simp [*]; done)), H', ⟨Nat.le_refl _⟩, ⟨by (with_reducible repeat (first | apply Kd.R_alloc | apply Kd.R_drewN | apply Kd.R_drew)); exact HO_5.out⟩, ⟨by (with_reducible repeat (first | refine blk_drewN ?_ _ | refine blk_drew ?_ | refine blk_alloc ?_ _)); exact BK248.out⟩, ⟨by repeat (first | (with_reducible first | exact HB.out | apply below_alloc | apply pw_below_drewN | apply below_drew1 | refine below_set ?_ GE248.out) | exact HB.out)⟩⟩
                  case round =>
                    clear H'
                    try clear c1
                    try clear c2
                    try clear p2
                    try clear c3
                    try clear c8
                    try clear c8b0
                    try clear c8b1
                    try clear c9
                    try clear c13
                    try clear c13b0
                    try clear c13b1
                    try clear c15
                    try clear c20
                    try clear c23
                    try clear hcz17_0
                    try clear hcz17_1
                    try clear hcz17_2
                    try clear hcz17_3
                    try clear hcz17_4
                    try clear hcz19_0
                    try clear hcz19_1
                    try clear hcz19_2
                    try clear hcz19_3
                    try clear hcz19_4
                    try clear hcz22_0
                    try clear hcz22_1
                    try clear hcz22_2
                    try clear hcz22_3
                    try clear hcz22_4
                    try clear hcz6_0
                    try clear hcz6_1
                    try clear hcz6_2
                    try clear hcz6_3
                    try clear hcz6_4
                    try clear hfz17_0
                    try clear hfz17_1
                    try clear hfz17_2
                    try clear hfz17_3
                    try clear hfz17_4
                    try clear hfz19_0
                    try clear hfz19_1
                    try clear hfz19_2
                    try clear hfz19_3
                    try clear hfz19_4
                    try clear hfz22_0
                    try clear hfz22_1
                    try clear hfz22_2
                    try clear hfz22_3
                    try clear hfz22_4
                    try clear hfz6_0
                    try clear hfz6_1
                    try clear hfz6_2
                    try clear hfz6_3
                    try clear hfz6_4
                    try clear p2
                    obtain ⟨x41_4, rfl, HA, HK4, HO_5, BK248, HB⟩ := hrel
                    cases gk with
                    | zero => exact absurd HA.out (by simp [jackstaylaw04_FrameHead.l0])
                    | succ k4 =>
                      have H := HA.out
                      clear HA
                      simp only [jackstaylaw04_FrameHead.l0] at H
                      by_cases c24 : x41_4 < x7_20
                      · rw [if_pos c24] at H
                        have c24b0 : decide (x41_4 < x7_20) = true := decide_eq_true c24
                        clear c24
                        by_cases c25 : 0 ≤ x41_4
                        · rw [if_pos c25] at H
                          have c25b0 := eq_true c25
                          have c25b1 : decide (0 ≤ x41_4) = true := decide_eq_true c25
                          clear c25
                          by_cases c26 : x41_4 ≤ (t249.length : Int)
                          · rw [if_pos c26] at H
                            have c26b0 := eq_true c26
                            have c26b1 : decide (x41_4 ≤ (t249.length : Int)) = true := decide_eq_true c26
                            clear c26
                            obtain ⟨y254, hy254⟩ : ∃ y_ : List Bool, y_ = (t249.take (x41_4 : Int).toNat) := ⟨_, rfl⟩
                            replace H : ((frame_Head.f k4 y254).bind fun bt258 => (if bt258.2 = true then (some false) else (if bt258.1 = 0 then (jackstaylaw04_FrameHead.l0 k4 l1 t249 x7_20 x7_20 (wrap64 (x41_4 + 1)) a0_0 a0_1 a0_2 a0_3 l0_4) else (some false)))) = some r := by first | (rw [hy254]; with_reducible exact H) | (have H2_ := (Option.bind_some _ _).symm.trans H; rw [hy254]; with_reducible exact H2_) | (have H2_ := (Option.bind_some _ _).symm.trans H; with_reducible exact H2_) | with_reducible exact H | (rw [hy254]; exact H) | exact H
                            have Ny254 := Aside0.mk hy254
                            clear hy254
                            replace H := Option.bind_eq_some_iff.mp H
                            obtain ⟨⟨t258, t259⟩, A270, H⟩ := H
                            replace H : (if t259 = true then (some false) else (if t258 = 0 then (jackstaylaw04_FrameHead.l0 k4 l1 t249 x7_20 x7_20 (wrap64 (x41_4 + 1)) a0_0 a0_1 a0_2 a0_3 l0_4) else (some false))) = some r := H
                            have A27 := Aside0.mk A270
                            clear A270
                            by_cases c28 : t259 = true
                            · subst c28
                              have H1 : (some false) = some r := by rw [if_pos rfl] at H; exact H
                              clear H
                              have H := H1
                              clear H1
                              obtain rfl := Option.some.inj H
                              exact absurd hT_ (by decide)
                            · replace c28 := Bool.eq_false_iff.mpr c28
                              subst c28
                              have H1 : (if t258 = 0 then (jackstaylaw04_FrameHead.l0 k4 l1 t249 x7_20 x7_20 (wrap64 (x41_4 + 1)) a0_0 a0_1 a0_2 a0_3 l0_4) else (some false)) = some r := by rw [if_neg (show ¬ (false = true) by decide)] at H; exact H
                              clear H
                              have H := H1
                              clear H1
                              by_cases c29 : t258 = 0
                              · rw [if_pos c29] at H
                                have c29b0 : (t258 == 0) = true := beq_iff_eq.mpr c29
                                have c29b1 : (t258 != 0) = false := bne_eq_false_iff_eq.mpr c29
                                clear c29
                                have H' := Aside0.mk H
                                clear H
                                obtain ⟨Ao31, co31, eo31⟩ := Kd.R_slice HO_5.out
                                subst eo31
                                have q30 : (x41_4 : Int) ≤ ((t249.length : Int) : Int) := of_decide_eq_true (by first | (with_reducible assumption) | assumption)
                                obtain ⟨i030, hi030, _, hsz30, _⟩ := info_parts info4
                                have hroom30 : t249.length ≤ co31 := (Kd.R_reads' HO_5.out).2.1
                                have hC30 : Kd.C Kd.bool _ Ao31 t249.length t249 := (Kd.R_reads' HO_5.out).2.2
                                have hcut30 := cut_to (P := Try.prog) 26 4 .i64 Try.underlying26 hi030 Ao31 t249.length co31 x41_4 (of_decide_eq_true (by first | (with_reducible assumption) | assumption)) q30 hroom30
                                have hr30 := Kd.C_take (m := (x41_4 : Int).toNat) hC30 (by omega)
                                have hy30 : y254.length = (x41_4 : Int).toNat := (by rw [Ny254.out, List.length_take]; omega)
                                rw [← Ny254.out] at hr30
                                rw [← hy30] at hcut30
                                have HR257 := Aside0.mk hr30
                                have HC257 := Aside0.mk (show y254.length ≤ co31 from by omega)
                                clear hr30 hC30 hroom30 hi030 hsz30
                                have KY30 := Aside0.mk hy30
                                clear hy30
                                have KL30 := Aside0.mk (show (x41_4 : Int).toNat ≤ t249.length from by omega)
                                replace q30 := eq_true q30
                                (try (have q30z := q30; simp only [List.length_drop, List.length_take] at q30z))
                                go_wp2_with (first | ((with_reducible refine gate_callee (f := 29) rfl ?_); refine goesL_ (some 48) rfl rfl Try.func29 (by kernel_rfl) rfl #[.slice Ao31 y254.length co31] rfl (by (try simp only [List.map_toArray, List.map_cons, List.map_nil]); first | done | rfl | (simp only [List.length_drop, List.length_take]; rfl)) ?_; (with_reducible refine (frame_Head.calls k4 _ _ y254 t258 false _ ?side1 ?side2 A27.out).mono ?_); (case side1 => repeat (first | exact (by repeat (first | (with_reducible exact HR257.out) | (with_reducible refine Kd.C_alloc ?_ _) | (with_reducible refine Kd.C_drewN ?_ _) | (with_reducible refine Kd.C_drew ?_) | exact HR257.out)) | (with_reducible refine Kd.C_alloc ?_ _) | (with_reducible refine Kd.C_drewN ?_ _) | (with_reducible refine Kd.C_drew ?_))); (case side2 => exact HC257.out); rintro e w32 ⟨rfl, hb⟩; refine ⟨_, rfl, ?_⟩; have n0_ := Aside0.mk (Kd.R_below (by (with_reducible repeat (first | apply Kd.R_alloc | apply Kd.R_drewN | apply Kd.R_drew)); exact HO_5.out) hb); have n1_ := Aside0.mk (blk_below (g := gb248) (o := .cells #[.int .u32 a0_0, .bool a0_1, .bool a0_2, .int .u8 a0_3, .slice A0_4 l0_4.length c0_4] 25 (0, 0)) (by (with_reducible repeat (first | refine blk_drewN ?_ _ | refine blk_drew ?_ | refine blk_alloc ?_ _)); exact BK248.out) hb); have n2_ := Aside0.mk (Kd.C_below (by repeat (first | (with_reducible exact HR257.out) | (with_reducible refine Kd.C_alloc ?_ _) | (with_reducible refine Kd.C_drewN ?_ _) | (with_reducible refine Kd.C_drew ?_) | exact HR257.out)) hb); have n3_ := Aside0.mk (below_step (by repeat (first | (with_reducible first | exact HB.out | apply below_alloc | apply pw_below_drewN | apply below_drew1 | refine below_set ?_ GE248.out) | exact HB.out)) hb); clear HO_5; clear BK248; clear HR257; clear HB; have HO_5 := n0_; have BK248 := n1_; have HR257 := n2_; have HB := n3_; clear n0_ n1_ n2_ n3_; (try clear hb); (try clear hb2); (try clear hk); (try clear hi)))
                                go_roundg k4
                                case measure => have := HJ3.out; have := HJ11.out; have := HJ20.out; have := HK4.out; omega
                                case rel => exact ⟨(wrap64 (x41_4 + 1)), (by first | rfl | (simp; done) | (simp [*]; done)), H', ⟨by have := HJ3.out; have := HJ11.out; have := HJ20.out; have := HK4.out; omega⟩, ⟨by (with_reducible repeat (first | apply Kd.R_alloc | apply Kd.R_drewN | apply Kd.R_drew)); exact HO_5.out⟩, ⟨by (with_reducible repeat (first | refine blk_drewN ?_ _ | refine blk_drew ?_ | refine blk_alloc ?_ _)); exact BK248.out⟩, ⟨by repeat (first | (with_reducible first | exact HB.out | apply below_alloc | apply pw_below_drewN | apply below_drew1 | refine below_set ?_ GE248.out) | exact HB.out)⟩⟩
                              · rw [if_neg c29] at H
                                have c29b0 : (t258 == 0) = false := beq_eq_false_iff_ne.mpr c29
                                have c29b1 : (t258 != 0) = true := bne_iff_ne.mpr c29
                                obtain rfl := Option.some.inj H
                                exact absurd hT_ (by decide)
                          · rw [if_neg c26] at H
                            exact absurd H (by simp)
                        · rw [if_neg c25] at H
                          exact absurd H (by simp)
                      · rw [if_neg c24] at H
                        have c24b0 : decide (x41_4 < x7_20) = false := decide_eq_false c24
                        clear c24
                        by_cases c33 : 0 ≤ x7_20
                        · rw [if_pos c33] at H
                          have c33b0 := eq_true c33
                          have c33b1 : decide (0 ≤ x7_20) = true := decide_eq_true c33
                          clear c33
                          by_cases c34 : x7_20 ≤ (t249.length : Int)
                          · rw [if_pos c34] at H
                            have c34b0 := eq_true c34
                            have c34b1 : decide (x7_20 ≤ (t249.length : Int)) = true := decide_eq_true c34
                            clear c34
                            obtain ⟨y260, hy260⟩ : ∃ y_ : List Bool, y_ = (t249.take (x7_20 : Int).toNat) := ⟨_, rfl⟩
                            replace H : ((jackstaylow_Anew.f y260).bind fun t264 => (if t264.length + l1.length < 140737488355328 then ((frame_Head.f k4 (t264 ++ l1)).bind fun bt270 => (if bt270.2 = true then (if bt270.1 = (t249.length : Int) then ((frame_Long.f a0_0 a0_1 a0_2 a0_3 l0_4).bind fun t272 => (if bt270.1 = (wrap64 ((wrap64 (x7_20 + (wrap64 (8 * t272)))) + 15)) then ((jackstaylaw04_awake.f).bind fun t273 => (some t273)) else (some false))) else (some false)) else (some false))) else (none))) = some r := by first | (rw [hy260]; with_reducible exact H) | (have H2_ := (Option.bind_some _ _).symm.trans H; rw [hy260]; with_reducible exact H2_) | (have H2_ := (Option.bind_some _ _).symm.trans H; with_reducible exact H2_) | with_reducible exact H | (rw [hy260]; exact H) | exact H
                            have Ny260 := Aside0.mk hy260
                            clear hy260
                            replace H := Option.bind_eq_some_iff.mp H
                            obtain ⟨t264, A350, H⟩ := H
                            replace H : (if t264.length + l1.length < 140737488355328 then ((frame_Head.f k4 (t264 ++ l1)).bind fun bt270 => (if bt270.2 = true then (if bt270.1 = (t249.length : Int) then ((frame_Long.f a0_0 a0_1 a0_2 a0_3 l0_4).bind fun t272 => (if bt270.1 = (wrap64 ((wrap64 (x7_20 + (wrap64 (8 * t272)))) + 15)) then ((jackstaylaw04_awake.f).bind fun t273 => (some t273)) else (some false))) else (some false)) else (some false))) else (none)) = some r := H
                            have A35 := Aside0.mk A350
                            clear A350
                            by_cases c36 : t264.length + l1.length < 140737488355328
                            · rw [if_pos c36] at H
                              have LMc36 := Aside0.mk c36
                              clear c36
                              obtain ⟨y267, hy267⟩ : ∃ y_ : List Bool, y_ = (t264 ++ l1) := ⟨_, rfl⟩
                              replace H : ((frame_Head.f k4 y267).bind fun bt270 => (if bt270.2 = true then (if bt270.1 = (t249.length : Int) then ((frame_Long.f a0_0 a0_1 a0_2 a0_3 l0_4).bind fun t272 => (if bt270.1 = (wrap64 ((wrap64 (x7_20 + (wrap64 (8 * t272)))) + 15)) then ((jackstaylaw04_awake.f).bind fun t273 => (some t273)) else (some false))) else (some false)) else (some false))) = some r := by first | (rw [hy267]; with_reducible exact H) | (have H2_ := (Option.bind_some _ _).symm.trans H; rw [hy267]; with_reducible exact H2_) | (have H2_ := (Option.bind_some _ _).symm.trans H; with_reducible exact H2_) | with_reducible exact H | (rw [hy267]; exact H) | exact H
                              have Ny267 := Aside0.mk hy267
                              clear hy267
                              replace H := Option.bind_eq_some_iff.mp H
                              obtain ⟨⟨t270, t271⟩, A370, H⟩ := H
                              replace H : (if t271 = true then (if t270 = (t249.length : Int) then ((frame_Long.f a0_0 a0_1 a0_2 a0_3 l0_4).bind fun t272 => (if t270 = (wrap64 ((wrap64 (x7_20 + (wrap64 (8 * t272)))) + 15)) then ((jackstaylaw04_awake.f).bind fun t273 => (some t273)) else (some false))) else (some false)) else (some false)) = some r := H
                              have A37 := Aside0.mk A370
                              clear A370
                              by_cases c38 : t271 = true
                              · subst c38
                                have H1 : (if t270 = (t249.length : Int) then ((frame_Long.f a0_0 a0_1 a0_2 a0_3 l0_4).bind fun t272 => (if t270 = (wrap64 ((wrap64 (x7_20 + (wrap64 (8 * t272)))) + 15)) then ((jackstaylaw04_awake.f).bind fun t273 => (some t273)) else (some false))) else (some false)) = some r := by rw [if_pos rfl] at H; exact H
                                clear H
                                have H := H1
                                clear H1
                                by_cases c39 : t270 = (t249.length : Int)
                                · rw [if_pos c39] at H
                                  have c39b0 : (t270 == (t249.length : Int)) = true := beq_iff_eq.mpr c39
                                  have c39b1 : (t270 != (t249.length : Int)) = false := bne_eq_false_iff_eq.mpr c39
                                  clear c39
                                  replace H := Option.bind_eq_some_iff.mp H
                                  obtain ⟨t272, A400, H⟩ := H
                                  replace H : (if t270 = (wrap64 ((wrap64 (x7_20 + (wrap64 (8 * t272)))) + 15)) then ((jackstaylaw04_awake.f).bind fun t273 => (some t273)) else (some false)) = some r := H
                                  have A40 := Aside0.mk A400
                                  clear A400
                                  by_cases c41 : t270 = (wrap64 ((wrap64 (x7_20 + (wrap64 (8 * t272)))) + 15))
                                  · rw [if_pos c41] at H
                                    have c41b0 : (t270 == (wrap64 ((wrap64 (x7_20 + (wrap64 (8 * t272)))) + 15))) = true := beq_iff_eq.mpr c41
                                    have c41b1 : (t270 != (wrap64 ((wrap64 (x7_20 + (wrap64 (8 * t272)))) + 15))) = false := bne_eq_false_iff_eq.mpr c41
                                    clear c41
                                    replace H := Option.bind_eq_some_iff.mp H
                                    obtain ⟨t273, A420, H⟩ := H
                                    replace H : (some t273) = some r := H
                                    have A42 := Aside0.mk A420
                                    clear A420
                                    obtain rfl := Option.some.inj H
                                    simp only [Option.some.injEq, Prod.mk.injEq] at H
                                    obtain ⟨rfl⟩ := H
                                    obtain ⟨Ao44, co44, eo44⟩ := Kd.R_slice HO_5.out
                                    subst eo44
                                    have q43 : (x7_20 : Int) ≤ ((t249.length : Int) : Int) := of_decide_eq_true (by first | (with_reducible assumption) | assumption)
                                    obtain ⟨i043, hi043, _, hsz43, _⟩ := info_parts info4
                                    have hroom43 : t249.length ≤ co44 := (Kd.R_reads' HO_5.out).2.1
                                    have hC43 : Kd.C Kd.bool _ Ao44 t249.length t249 := (Kd.R_reads' HO_5.out).2.2
                                    have hcut43 := cut_to (P := Try.prog) 26 4 .i64 Try.underlying26 hi043 Ao44 t249.length co44 x7_20 (of_decide_eq_true (by first | (with_reducible assumption) | assumption)) q43 hroom43
                                    have hr43 := Kd.C_take (m := (x7_20 : Int).toNat) hC43 (by omega)
                                    have hy43 : y260.length = (x7_20 : Int).toNat := (by rw [Ny260.out, List.length_take]; omega)
                                    rw [← Ny260.out] at hr43
                                    rw [← hy43] at hcut43
                                    have HR263 := Aside0.mk hr43
                                    have HC263 := Aside0.mk (show y260.length ≤ co44 from by omega)
                                    clear hr43 hC43 hroom43 hi043 hsz43
                                    have KY43 := Aside0.mk hy43
                                    clear hy43
                                    have KL43 := Aside0.mk (show (x7_20 : Int).toNat ≤ t249.length from by omega)
                                    replace q43 := eq_true q43
                                    (try (have q43z := q43; simp only [List.length_drop, List.length_take] at q43z))
                                    go_wp2_with (first | ((with_reducible refine gate_callee (f := 30) rfl ?_); refine goesL_ (some 61) rfl rfl Try.func30 (by kernel_rfl) rfl #[.slice Ao44 y260.length co44] rfl (by (try simp only [List.map_toArray, List.map_cons, List.map_nil]); first | done | rfl | (simp only [List.length_drop, List.length_take]; rfl)) ?_; (with_reducible refine (jackstaylow_Anew.calls _ _ y260 t264 _ ?side1 ?side2 A35.out).mono ?_); (case side1 => repeat (first | exact (by repeat (first | (with_reducible exact HR263.out) | (with_reducible refine Kd.C_alloc ?_ _) | (with_reducible refine Kd.C_drewN ?_ _) | (with_reducible refine Kd.C_drew ?_) | exact HR263.out)) | (with_reducible refine Kd.C_alloc ?_ _) | (with_reducible refine Kd.C_drewN ?_ _) | (with_reducible refine Kd.C_drew ?_))); (case side2 => exact HC263.out); rintro e w45 ⟨v265, rfl, ho0, hb⟩; refine ⟨_, rfl, ?_⟩; have n0_ := Aside0.mk (Kd.R_elder' (by (with_reducible repeat (first | apply Kd.R_alloc | apply Kd.R_drewN | apply Kd.R_drew)); exact HO_5.out) (Kd.R_base ho0) hb); have n1_ := Aside0.mk (Kd.R_lower (Kd.R_new' ho0 (Kd.R_lt (by (with_reducible repeat (first | apply Kd.R_alloc | apply Kd.R_drewN | apply Kd.R_drew)); exact HO_5.out))) (below_size (by repeat (first | (with_reducible first | exact HB.out | apply below_alloc | apply pw_below_drewN | apply below_drew1 | refine below_set ?_ GE248.out) | exact HB.out)))); have n2_ := Aside0.mk (blk_below (g := gb248) (o := .cells #[.int .u32 a0_0, .bool a0_1, .bool a0_2, .int .u8 a0_3, .slice A0_4 l0_4.length c0_4] 25 (0, 0)) (by (with_reducible repeat (first | refine blk_drewN ?_ _ | refine blk_drew ?_ | refine blk_alloc ?_ _)); exact BK248.out) hb); have n3_ := Aside0.mk (Kd.C_below (by repeat (first | (with_reducible exact HR263.out) | (with_reducible refine Kd.C_alloc ?_ _) | (with_reducible refine Kd.C_drewN ?_ _) | (with_reducible refine Kd.C_drew ?_) | exact HR263.out)) hb); have n4_ := Aside0.mk (below_step (by repeat (first | (with_reducible first | exact HB.out | apply below_alloc | apply pw_below_drewN | apply below_drew1 | refine below_set ?_ GE248.out) | exact HB.out)) hb); clear HO_5; clear BK248; clear HR263; clear HB; have HO_5 := n0_; have HO266 := n1_; have BK248 := n2_; have HR263 := n3_; have HB := n4_; clear n0_ n1_ n2_ n3_ n4_; (try clear hb); (try clear hb2); (try clear hk); (try clear hi); (try clear ho0)) | ((with_reducible refine gate_builtin (b := .append) (xs := #[.tmp 61, .tmp 62]) rfl ?_); (try (refine gate_guard (by rfl) ?_; dsimp only)); at_builtin; refine Kd.R_append_rows Kd.bool (w0 := w) w.heap.size rfl (.tmp 61) (.tmp 62) 26 4 (.bool false) 1 rfl Try.underlying26 info4 rfl (by decide) (by omega) v265 t264 l1 _ _ _ (fun k_ => some k_ ≠ (.slice Ao44 t249.length co44 : Value).ownBlock) (fun _ => False) rfl rfl ?aO ?aR (fun _ _ h => h) (fun _ h => h.elim) ?aF ?aB ?aS ?aL ?_; (case aR => repeat (first | exact (Kd.C_below HR1.out HB.out) | (with_reducible refine Kd.C_alloc ?_ _) | (with_reducible refine Kd.C_drewN ?_ _) | (with_reducible refine Kd.C_drew ?_))); (case aB => exact (by repeat (first | (with_reducible first | exact HB.out | apply below_alloc | apply pw_below_drewN | apply below_drew1 | refine below_set ?_ GE248.out) | exact HB.out))); (case aF => exact (fun k_ hk => Kd.fresh' (Kd.R_lt (by (with_reducible repeat (first | apply Kd.R_alloc | apply Kd.R_drewN | apply Kd.R_drew)); exact HO_5.out)) k_ hk)); (case aO => exact (by (with_reducible repeat (first | apply Kd.R_alloc | apply Kd.R_drewN | apply Kd.R_drew)); exact Kd.R_mono HO266.out (fun _ hk => hk.2))); (case aS => exact (below_size (by repeat (first | (with_reducible first | exact HB.out | apply below_alloc | apply pw_below_drewN | apply below_drew1 | refine below_set ?_ GE248.out) | exact HB.out)))); (case aL => have := LMc36.out; omega); intro v268 w46 ho hb hg hat; rw [← Ny267.out] at ho; have n0_ := Aside0.mk (Kd.R_after (ok := (fun _ => True)) (by (with_reducible repeat (first | apply Kd.R_alloc | apply Kd.R_drewN | apply Kd.R_drew)); exact HO_5.out) hg hat); have n1_ := Aside0.mk (blk_grown (g := gb248) (o := .cells #[.int .u32 a0_0, .bool a0_1, .bool a0_2, .int .u8 a0_3, .slice A0_4 l0_4.length c0_4] 25 (0, 0)) (by (with_reducible repeat (first | refine blk_drewN ?_ _ | refine blk_drew ?_ | refine blk_alloc ?_ _)); exact BK248.out) hg (Kd.R_ne HO266.out BK248.out (by decide))); have n2_ := Aside0.mk (hb); have n3_ := Aside0.mk ((show Kd.C Kd.bool w46 Ao44 y260.length y260 from by rw [Ny260.out]; exact Kd.C_take (m := (x7_20 : Int).toNat) ((Kd.R_reads' (Kd.R_after (ok := (fun _ => True)) (by (with_reducible repeat (first | apply Kd.R_alloc | apply Kd.R_drewN | apply Kd.R_drew)); exact HO_5.out) hg hat)).2.2) KL43.out)); have n4_ := Aside0.mk (ho); clear HO_5; clear BK248; clear HB; clear HR263; clear HO266; have HO_5 := n0_; have BK248 := n1_; have HB := n2_; have HR263 := n3_; have HO269 := n4_; clear n0_ n1_ n2_ n3_ n4_; clear ho hb hg hat; obtain ⟨Ao47, co47, eo47⟩ := Kd.R_slice HO269.out; subst eo47) | ((with_reducible refine gate_callee (f := 29) rfl ?_); refine goesL_ (some 64) rfl rfl Try.func29 (by kernel_rfl) rfl #[.slice Ao47 y267.length co47] rfl (by (try simp only [List.map_toArray, List.map_cons, List.map_nil]); first | done | rfl | (simp only [List.length_drop, List.length_take]; rfl)) ?_; (with_reducible refine (frame_Head.calls k4 _ _ y267 t270 true _ ?side1 ?side2 A37.out).mono ?_); (case side1 => repeat (first | exact (Kd.R_reads' HO269.out).2.2 | (with_reducible refine Kd.C_alloc ?_ _) | (with_reducible refine Kd.C_drewN ?_ _) | (with_reducible refine Kd.C_drew ?_))); (case side2 => exact (Kd.R_reads' HO269.out).2.1); rintro e w48 ⟨rfl, hb⟩; refine ⟨_, rfl, ?_⟩; have n0_ := Aside0.mk (Kd.R_below (by (with_reducible repeat (first | apply Kd.R_alloc | apply Kd.R_drewN | apply Kd.R_drew)); exact HO_5.out) hb); have n1_ := Aside0.mk (Kd.R_below (by (with_reducible repeat (first | apply Kd.R_alloc | apply Kd.R_drewN | apply Kd.R_drew)); exact HO269.out) hb); have n2_ := Aside0.mk (blk_below (g := gb248) (o := .cells #[.int .u32 a0_0, .bool a0_1, .bool a0_2, .int .u8 a0_3, .slice A0_4 l0_4.length c0_4] 25 (0, 0)) (by (with_reducible repeat (first | refine blk_drewN ?_ _ | refine blk_drew ?_ | refine blk_alloc ?_ _)); exact BK248.out) hb); have n3_ := Aside0.mk (Kd.C_below (by repeat (first | (with_reducible exact HR263.out) | (with_reducible refine Kd.C_alloc ?_ _) | (with_reducible refine Kd.C_drewN ?_ _) | (with_reducible refine Kd.C_drew ?_) | exact HR263.out)) hb); have n4_ := Aside0.mk (below_step (by repeat (first | (with_reducible first | exact HB.out | apply below_alloc | apply pw_below_drewN | apply below_drew1 | refine below_set ?_ GE248.out) | exact HB.out)) hb); clear HO_5; clear HO269; clear BK248; clear HR263; clear HB; have HO_5 := n0_; have HO269 := n1_; have BK248 := n2_; have HR263 := n3_; have HB := n4_; clear n0_ n1_ n2_ n3_ n4_; (try clear hb); (try clear hb2); (try clear hk); (try clear hi); have hcz49_0 : w48.cell? ⟨gb248, 0, none⟩ = some (.int .u32 a0_0) := (blk_cell BK248.out 0).trans rfl; have hcz49_1 : w48.cell? ⟨gb248, 1, none⟩ = some (.bool a0_1) := (blk_cell BK248.out 1).trans rfl; have hcz49_2 : w48.cell? ⟨gb248, 2, none⟩ = some (.bool a0_2) := (blk_cell BK248.out 2).trans rfl; have hcz49_3 : w48.cell? ⟨gb248, 3, none⟩ = some (.int .u8 a0_3) := (blk_cell BK248.out 3).trans rfl; have hcz49_4 : w48.cell? ⟨gb248, 4, none⟩ = some (.slice A0_4 l0_4.length c0_4) := (blk_cell BK248.out 4).trans rfl; have hfz49_0 := blk_frozen BK248.out 0; have hfz49_1 := blk_frozen BK248.out 1; have hfz49_2 := blk_frozen BK248.out 2; have hfz49_3 := blk_frozen BK248.out 3; have hfz49_4 := blk_frozen BK248.out 4) | (go_at_call 31; (with_reducible refine (frame_Long.calls a0_0 a0_1 a0_2 a0_3 _ _ l0_4 t272 _ ?side1 ?side2 A40.out).mono ?_); (case side1 => repeat (first | exact (Kd.C_below HR0_4.out HB.out) | (with_reducible refine Kd.C_alloc ?_ _) | (with_reducible refine Kd.C_drewN ?_ _) | (with_reducible refine Kd.C_drew ?_))); (case side2 => exact HC0_4.out); rintro e w50 ⟨rfl, hb⟩; have n0_ := Aside0.mk (Kd.R_below (by (with_reducible repeat (first | apply Kd.R_alloc | apply Kd.R_drewN | apply Kd.R_drew)); exact HO_5.out) hb); have n1_ := Aside0.mk (Kd.R_below (by (with_reducible repeat (first | apply Kd.R_alloc | apply Kd.R_drewN | apply Kd.R_drew)); exact HO269.out) hb); have n2_ := Aside0.mk (blk_below (g := gb248) (o := .cells #[.int .u32 a0_0, .bool a0_1, .bool a0_2, .int .u8 a0_3, .slice A0_4 l0_4.length c0_4] 25 (0, 0)) (by (with_reducible repeat (first | refine blk_drewN ?_ _ | refine blk_drew ?_ | refine blk_alloc ?_ _)); exact BK248.out) hb); have n3_ := Aside0.mk (Kd.C_below (by repeat (first | (with_reducible exact HR263.out) | (with_reducible refine Kd.C_alloc ?_ _) | (with_reducible refine Kd.C_drewN ?_ _) | (with_reducible refine Kd.C_drew ?_) | exact HR263.out)) hb); have n4_ := Aside0.mk (below_step (by repeat (first | (with_reducible first | exact HB.out | apply below_alloc | apply pw_below_drewN | apply below_drew1 | refine below_set ?_ GE248.out) | exact HB.out)) hb); clear HO_5; clear HO269; clear BK248; clear HR263; clear HB; have HO_5 := n0_; have HO269 := n1_; have BK248 := n2_; have HR263 := n3_; have HB := n4_; clear n0_ n1_ n2_ n3_ n4_; (try clear hb); (try clear hb2); (try clear hk); (try clear hi)) | (go_at_call 28; (with_reducible refine (jackstaylaw04_awake.calls  t273 _ A42.out).mono ?_); rintro e w51 ⟨rfl, hb⟩; have n0_ := Aside0.mk (Kd.R_below (by (with_reducible repeat (first | apply Kd.R_alloc | apply Kd.R_drewN | apply Kd.R_drew)); exact HO_5.out) hb); have n1_ := Aside0.mk (Kd.R_below (by (with_reducible repeat (first | apply Kd.R_alloc | apply Kd.R_drewN | apply Kd.R_drew)); exact HO269.out) hb); have n2_ := Aside0.mk (blk_below (g := gb248) (o := .cells #[.int .u32 a0_0, .bool a0_1, .bool a0_2, .int .u8 a0_3, .slice A0_4 l0_4.length c0_4] 25 (0, 0)) (by (with_reducible repeat (first | refine blk_drewN ?_ _ | refine blk_drew ?_ | refine blk_alloc ?_ _)); exact BK248.out) hb); have n3_ := Aside0.mk (Kd.C_below (by repeat (first | (with_reducible exact HR263.out) | (with_reducible refine Kd.C_alloc ?_ _) | (with_reducible refine Kd.C_drewN ?_ _) | (with_reducible refine Kd.C_drew ?_) | exact HR263.out)) hb); have n4_ := Aside0.mk (below_step (by repeat (first | (with_reducible first | exact HB.out | apply below_alloc | apply pw_below_drewN | apply below_drew1 | refine below_set ?_ GE248.out) | exact HB.out)) hb); clear HO_5; clear HO269; clear BK248; clear HR263; clear HB; have HO_5 := n0_; have HO269 := n1_; have BK248 := n2_; have HR263 := n3_; have HB := n4_; clear n0_ n1_ n2_ n3_ n4_; (try clear hb); (try clear hb2); (try clear hk); (try clear hi)))
                                    go_ret
                                    exact ⟨by first | rfl | (simp [errW_none, errW_some] <;> rfl) | (simp [*, errW_none, errW_some] <;> rfl), by repeat (first | (with_reducible first | exact HB.out | apply below_alloc | apply pw_below_drewN | apply below_drew1 | refine below_set ?_ GE248.out) | exact HB.out)⟩
                                  · rw [if_neg c41] at H
                                    have c41b0 : (t270 == (wrap64 ((wrap64 (x7_20 + (wrap64 (8 * t272)))) + 15))) = false := beq_eq_false_iff_ne.mpr c41
                                    have c41b1 : (t270 != (wrap64 ((wrap64 (x7_20 + (wrap64 (8 * t272)))) + 15))) = true := bne_iff_ne.mpr c41
                                    obtain rfl := Option.some.inj H
                                    exact absurd hT_ (by decide)
                                · rw [if_neg c39] at H
                                  have c39b0 : (t270 == (t249.length : Int)) = false := beq_eq_false_iff_ne.mpr c39
                                  have c39b1 : (t270 != (t249.length : Int)) = true := bne_iff_ne.mpr c39
                                  obtain rfl := Option.some.inj H
                                  exact absurd hT_ (by decide)
                              · replace c38 := Bool.eq_false_iff.mpr c38
                                subst c38
                                (try (have c39b0n := c39b0; simp only [beq_false, beq_true, Bool.not_not, Bool.not_true, Bool.not_false, Bool.true_and, Bool.and_true, Bool.false_or, Bool.or_false, Bool.true_bne, Bool.false_bne, Bool.bne_true, Bool.bne_false, Bool.true_beq, Bool.false_beq] at c39b0n; have c39b0o := c39b0n; simp only [Bool.not_eq_false', Bool.not_eq_true'] at c39b0o))
                                (try (have c41b0n := c41b0; simp only [beq_false, beq_true, Bool.not_not, Bool.not_true, Bool.not_false, Bool.true_and, Bool.and_true, Bool.false_or, Bool.or_false, Bool.true_bne, Bool.false_bne, Bool.bne_true, Bool.bne_false, Bool.true_beq, Bool.false_beq] at c41b0n; have c41b0o := c41b0n; simp only [Bool.not_eq_false', Bool.not_eq_true'] at c41b0o))
                                have H1 : (some false) = some r := by rw [if_neg (show ¬ (false = true) by decide)] at H; exact H
                                clear H
                                have H := H1
                                clear H1
                                obtain rfl := Option.some.inj H
                                exact absurd hT_ (by decide)
                            · rw [if_neg c36] at H
                              exact absurd H (by simp)
                          · rw [if_neg c34] at H
                            exact absurd H (by simp)
                        · rw [if_neg c33] at H
                          exact absurd H (by simp)
end Go.Proofs.Ytnnnfnebobaiiaa.P
