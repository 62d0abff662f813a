/- What Go functions of this seat answer: their contracts, printed by a program of this session's; Lean checks each. -/
import Derived.Test.YtjpnkapjnnighaaPx0
import Derived.Test.YtjpnkapjnnighaaPx1
import Derived.Test.YtjpnkapjnnighaaPx2
import Derived.Test.YtjpnkapjnnighaaPx3
import Derived.Test.YtjpnkapjnnighaaPx4
import Derived.Test.YtjpnkapjnnighaaPx5
import Derived.Test.YtjpnkapjnnighaaPx6
import Derived.Test.YtjpnkapjnnighaaGAnew
namespace Go.Proofs.Ytjpnkapjnnighaa.P
open Go.RowKit Go.Proofs.YtjpnkapjnnighaaW.PrintWords Go.Proofs.YtjpnkapjnnighaaW.PrintLast Go.Proofs.YtjpnkapjnnighaaW.PrintMore
attribute [local go_sem] max2_int min2_int max_two min_two max_three min_three max_four min_four   -- for this text's walks alone
set_option linter.unusedVariables false
set_option linter.unusedSimpArgs false

attribute [local go_sem high] eqA23
/-! ### jackstaylaw02_StuffTells: function 3 -/
mutual
def jackstaylaw02_StuffTells.j0 : Nat → Bool → List Bool → Int → Bool → Bool → Bool → Bool → Int → Bool → Int → Option (Bool)
  | 0, _, _, _, _, _, _, _, _, _, _ => none
  | k + 1, x1, x2, x8, x9, x10, x44, x201000, x201001, x206000, x206001 => if x44 = true then (if (x206000 || (!(x206001 == 0))) = true then (some false) else (if x8 = 2 then (if x9 = true then (some false) else (if x10 = true then (some false) else (jackstaylaw02_StuffTells.j1 k x2))) else (some false))) else ((jackstayref02_Next.f k x201000 x201001 x1).bind fun bt208 => (if (!(x206000 == bt208.1) || (!(x206001 == bt208.2.1))) = true then (some false) else (if x8 = bt208.2.2 then (if (x10 != (x201001 == 5)) = true then (some false) else (if x10 = true then (if (x9 != (!x201000)) = true then (some false) else (jackstaylaw02_StuffTells.j1 k x2)) else (if (x9 != false) = true then (some false) else (jackstaylaw02_StuffTells.j1 k x2)))) else (some false))))
def jackstaylaw02_StuffTells.j1 : Nat → List Bool → Option (Bool)
  | 0, _ => none
  | k + 1, x2 => (jackstaylow_Anew.f x2).bind fun t212 => ((stuff_Take.f k t212).bind fun bt215 => ((jackstayref02_Take.f k x2).bind fun bt219 => ((stuff_Put.f k t212).bind fun t223 => ((jackstayref02_Put.f k x2).bind fun t226 => ((jackstaylow_Same.f k t223 t226).bind fun t229 => (if t229 = true then ((jackstaylow_Same.f k bt215.1 bt219.1).bind fun t230 => (if t230 = true then (if bt215.2 = bt219.2 then ((jackstaylow_Same.f k t212 x2).bind fun t231 => (if t231 = true then ((jackstaylaw02_awake.f k).bind fun t232 => (some t232)) else (some false))) else (some false)) else (some false))) else (some false)))))))
end
def jackstaylaw02_StuffTells.f (k : Nat) (a0_0 : Bool) (a0_1 : Int) (a1 : Bool) (l2 : List Bool) : Option (Bool) := if (l2.length : Int) > 300 then ((jackstaylaw02_awake.f k).bind fun t201 => (some t201)) else ((stuff_Next.f k a0_0 a0_1 a1).bind fun bt202 => ((stuff_Owed.f a0_0 a0_1).bind fun bt206 => (if a0_1 > 5 then (jackstaylaw02_StuffTells.j0 k a1 l2 bt202.2.2 bt206.1 bt206.2 true a0_0 a0_1 bt202.1 bt202.2.1) else (if a0_1 = 0 then (jackstaylaw02_StuffTells.j0 k a1 l2 bt202.2.2 bt206.1 bt206.2 a0_0 a0_0 a0_1 bt202.1 bt202.2.1) else (jackstaylaw02_StuffTells.j0 k a1 l2 bt202.2.2 bt206.1 bt206.2 false a0_0 a0_1 bt202.1 bt202.2.1)))))
theorem jackstaylaw02_StuffTells.mono_l : ∀ k, (∀ y0 y1 y2 y3 y4 y5 y6 y7 y8 y9, LeO (jackstaylaw02_StuffTells.j0 k y0 y1 y2 y3 y4 y5 y6 y7 y8 y9) (jackstaylaw02_StuffTells.j0 (k + 1) y0 y1 y2 y3 y4 y5 y6 y7 y8 y9)) ∧ (∀ y0, LeO (jackstaylaw02_StuffTells.j1 k y0) (jackstaylaw02_StuffTells.j1 (k + 1) y0))
  | 0 => ⟨fun _ _ _ _ _ _ _ _ _ _ r h => by simp [jackstaylaw02_StuffTells.j0] at h, fun _ r h => by simp [jackstaylaw02_StuffTells.j1] at h⟩
  | k + 1 => by
    obtain ⟨ih0, ih1⟩ := jackstaylaw02_StuffTells.mono_l k
    refine ⟨?_, ?_⟩
    · intro y0 y1 y2 y3 y4 y5 y6 y7 y8 y9
      unfold jackstaylaw02_StuffTells.j0
      repeat' first
      | (with_reducible exact ih0 _ _ _ _ _ _ _ _ _ _)
      | (with_reducible exact ih1 _)
      | (with_reducible exact jackstaylaw02_awake.mono _)
      | (with_reducible exact jackstaylow_Same.mono _ _ _)
      | (with_reducible exact jackstayref02_Next.mono _ _ _ _)
      | (with_reducible exact jackstayref02_Put.mono _ _)
      | (with_reducible exact jackstayref02_Take.mono _ _)
      | (with_reducible exact stuff_Next.mono _ _ _ _)
      | (with_reducible exact stuff_Put.mono _ _)
      | (with_reducible exact stuff_Take.mono _ _)
      | (with_reducible exact LeO.refl _)
      | (with_reducible exact LeO.none _)
      | (with_reducible refine LeO.ite ?_ ?_)
      | (with_reducible refine LeO.bind ?_ (fun _ => ?_))
      | exact ih0 _ _ _ _ _ _ _ _ _ _
      | exact ih1 _
      | exact jackstaylaw02_awake.mono _
      | exact jackstaylow_Same.mono _ _ _
      | exact jackstayref02_Next.mono _ _ _ _
      | exact jackstayref02_Put.mono _ _
      | exact jackstayref02_Take.mono _ _
      | exact stuff_Next.mono _ _ _ _
      | exact stuff_Put.mono _ _
      | exact stuff_Take.mono _ _
      | exact LeO.none _
      | refine LeO.ite ?_ ?_
      | refine LeO.bind ?_ (fun _ => ?_)
    · intro y0
      unfold jackstaylaw02_StuffTells.j1
      repeat' first
      | (with_reducible exact ih0 _ _ _ _ _ _ _ _ _ _)
      | (with_reducible exact ih1 _)
      | (with_reducible exact jackstaylaw02_awake.mono _)
      | (with_reducible exact jackstaylow_Same.mono _ _ _)
      | (with_reducible exact jackstayref02_Next.mono _ _ _ _)
      | (with_reducible exact jackstayref02_Put.mono _ _)
      | (with_reducible exact jackstayref02_Take.mono _ _)
      | (with_reducible exact stuff_Next.mono _ _ _ _)
      | (with_reducible exact stuff_Put.mono _ _)
      | (with_reducible exact stuff_Take.mono _ _)
      | (with_reducible exact LeO.refl _)
      | (with_reducible exact LeO.none _)
      | (with_reducible refine LeO.ite ?_ ?_)
      | (with_reducible refine LeO.bind ?_ (fun _ => ?_))
      | exact ih0 _ _ _ _ _ _ _ _ _ _
      | exact ih1 _
      | exact jackstaylaw02_awake.mono _
      | exact jackstaylow_Same.mono _ _ _
      | exact jackstayref02_Next.mono _ _ _ _
      | exact jackstayref02_Put.mono _ _
      | exact jackstayref02_Take.mono _ _
      | exact stuff_Next.mono _ _ _ _
      | exact stuff_Put.mono _ _
      | exact stuff_Take.mono _ _
      | exact LeO.none _
      | refine LeO.ite ?_ ?_
      | refine LeO.bind ?_ (fun _ => ?_)
theorem jackstaylaw02_StuffTells.mono : ∀ a0 a1 a2 a3 k, LeO (jackstaylaw02_StuffTells.f k a0 a1 a2 a3) (jackstaylaw02_StuffTells.f (k + 1) a0 a1 a2 a3) := by
  intro a0 a1 a2 a3 k
  obtain ⟨ih0, ih1⟩ := jackstaylaw02_StuffTells.mono_l k
  unfold jackstaylaw02_StuffTells.f
  repeat' first
      | (with_reducible exact ih0 _ _ _ _ _ _ _ _ _ _)
      | (with_reducible exact ih1 _)
      | (with_reducible exact jackstaylaw02_awake.mono _)
      | (with_reducible exact jackstaylow_Same.mono _ _ _)
      | (with_reducible exact jackstayref02_Next.mono _ _ _ _)
      | (with_reducible exact jackstayref02_Put.mono _ _)
      | (with_reducible exact jackstayref02_Take.mono _ _)
      | (with_reducible exact stuff_Next.mono _ _ _ _)
      | (with_reducible exact stuff_Put.mono _ _)
      | (with_reducible exact stuff_Take.mono _ _)
      | (with_reducible exact LeO.refl _)
      | (with_reducible exact LeO.none _)
      | (with_reducible refine LeO.ite ?_ ?_)
      | (with_reducible refine LeO.bind ?_ (fun _ => ?_))
      | exact ih0 _ _ _ _ _ _ _ _ _ _
      | exact ih1 _
      | exact jackstaylaw02_awake.mono _
      | exact jackstaylow_Same.mono _ _ _
      | exact jackstayref02_Next.mono _ _ _ _
      | exact jackstayref02_Put.mono _ _
      | exact jackstayref02_Take.mono _ _
      | exact stuff_Next.mono _ _ _ _
      | exact stuff_Put.mono _ _
      | exact stuff_Take.mono _ _
      | exact LeO.none _
      | refine LeO.ite ?_ ?_
      | refine LeO.bind ?_ (fun _ => ?_)
set_option maxHeartbeats 8000000 in
set_option maxRecDepth 100000 in
theorem jackstaylaw02_StuffTells.calls (k : Nat) (a0_0 : Bool) (a0_1 : Int) (a1 : Bool) (A2 : Option Addr) (c2 : Nat) (l2 : List Bool) (r : Bool) (w : World) (hr2 : Kd.C Kd.bool w A2 l2.length l2) (hc2 : l2.length ≤ c2) (h : jackstaylaw02_StuffTells.f k a0_0 a0_1 a1 l2 = some r) (hT_ : r = true) :
    Calls Try.prog 3 #[.agg #[.bool a0_0, .int .u8 a0_1], .bool a1, .slice A2 l2.length c2] w fun e w' => e = .returned (.bool r) ∧ Below w.heap.size w w' := by
  have hu23 := Try.underlying23
  have HR2 := Aside0.mk hr2
  have HC2 := Aside0.mk hc2
  clear hr2 hc2
  have HB := Aside0.mk (Below.refl w.heap.size w)
  have H : (if (l2.length : Int) > 300 then ((jackstaylaw02_awake.f k).bind fun t201 => (some t201)) else ((stuff_Next.f k a0_0 a0_1 a1).bind fun bt202 => ((stuff_Owed.f a0_0 a0_1).bind fun bt206 => (if a0_1 > 5 then (jackstaylaw02_StuffTells.j0 k a1 l2 bt202.2.2 bt206.1 bt206.2 true a0_0 a0_1 bt202.1 bt202.2.1) else (if a0_1 = 0 then (jackstaylaw02_StuffTells.j0 k a1 l2 bt202.2.2 bt206.1 bt206.2 a0_0 a0_0 a0_1 bt202.1 bt202.2.1) else (jackstaylaw02_StuffTells.j0 k a1 l2 bt202.2.2 bt206.1 bt206.2 false a0_0 a0_1 bt202.1 bt202.2.1)))))) = some r := h
  clear h
  by_cases c4 : (l2.length : Int) > 300
  · rw [if_pos c4] at H
    have c4b0 : decide (300 < (l2.length : Int)) = true := decide_eq_true c4
    have c4b1 : decide (300 < l2.length) = true := decide_eq_true (by omega)
    clear c4
    replace H := Option.bind_eq_some_iff.mp H
    obtain ⟨t201, A50, H⟩ := H
    replace H : (some t201) = some r := H
    have A5 := Aside0.mk A50
    clear A50
    obtain rfl := Option.some.inj H
    simp only [Option.some.injEq, Prod.mk.injEq] at H
    obtain ⟨rfl⟩ := H
    go_enter Try.func3, Try.ntmps3
    go_wp2_with (first | ((with_reducible refine gate_dst (N := 3) rfl ?_); refine box_event ?hg (N := 3) ?hd (cs := #[.bool a0_0, .int .u8 a0_1]) (t := 23) ?hr ?_; (case hd => rfl); (case hg => rfl); (case hr => first | (go_simp; done) | (go_simp; rfl)); intro gb200 hg w6 hbox hb; have n0_ := Aside0.mk (below_step (by repeat (first | (with_reducible first | exact HB.out | apply below_alloc | apply pw_below_drewN | apply below_drew1) | exact HB.out)) hb); have n1_ := Aside0.mk (hbox); have n2_ := Aside0.mk ((by rw [hg]; exact (below_size (by repeat (first | (with_reducible first | exact HB.out | apply below_alloc | apply pw_below_drewN | apply below_drew1) | exact HB.out))) : w.heap.size ≤ gb200)); have n3_ := Aside0.mk ((by rw [hg]; exact (below_size (by repeat (first | (with_reducible first | exact HB.out | apply below_alloc | apply pw_below_drewN | apply below_drew1) | exact HB.out))) : w.heap.size ≤ gb200)); clear HB; have HB := n0_; have BK200 := n1_; have GW200 := n2_; have GE200 := n3_; clear n0_ n1_ n2_ n3_; clear hb hbox hg) | ((with_reducible refine gate_callee (f := 7) rfl ?_); refine goesL_ (some 21) rfl rfl Try.func7 (by kernel_rfl) rfl #[] rfl (by (try simp only [List.map_toArray, List.map_cons, List.map_nil]); first | done | rfl | (simp only [List.length_drop, List.length_take]; rfl)) ?_; (with_reducible refine (jackstaylaw02_awake.calls k  t201 _ A5.out).mono ?_); rintro e w7 ⟨rfl, hb⟩; refine ⟨_, rfl, ?_⟩; have n0_ := Aside0.mk (blk_below (g := gb200) (o := .cells #[.bool a0_0, .int .u8 a0_1] 23 (0, 0)) (by (with_reducible repeat (first | refine blk_drewN ?_ _ | refine blk_drew ?_ | refine blk_alloc ?_ _)); exact BK200.out) hb); have n1_ := Aside0.mk (below_step (by repeat (first | (with_reducible first | exact HB.out | apply below_alloc | apply pw_below_drewN | apply below_drew1 | refine below_set ?_ GE200.out) | exact HB.out)) hb); clear BK200; clear HB; have BK200 := n0_; have HB := n1_; clear n0_ n1_; (try clear hb); (try clear hb2); (try clear hk); (try clear hi)))
    go_ret
    exact ⟨by first | rfl | (simp [errW_none, errW_some] <;> rfl) | (simp [*, errW_none, errW_some] <;> rfl), by repeat (first | (with_reducible first | exact HB.out | apply below_alloc | apply pw_below_drewN | apply below_drew1 | refine below_set ?_ GE200.out) | exact HB.out)⟩
  · rw [if_neg c4] at H
    have c4b0 : decide (300 < (l2.length : Int)) = false := decide_eq_false c4
    have c4b1 : decide (300 < l2.length) = false := decide_eq_false (by omega)
    clear c4
    replace H := Option.bind_eq_some_iff.mp H
    obtain ⟨⟨t202, t203, t204⟩, A80, H⟩ := H
    replace H : ((stuff_Owed.f a0_0 a0_1).bind fun bt206 => (if a0_1 > 5 then (jackstaylaw02_StuffTells.j0 k a1 l2 t204 bt206.1 bt206.2 true a0_0 a0_1 t202 t203) else (if a0_1 = 0 then (jackstaylaw02_StuffTells.j0 k a1 l2 t204 bt206.1 bt206.2 a0_0 a0_0 a0_1 t202 t203) else (jackstaylaw02_StuffTells.j0 k a1 l2 t204 bt206.1 bt206.2 false a0_0 a0_1 t202 t203)))) = some r := H
    have A8 := Aside0.mk A80
    clear A80
    replace H := Option.bind_eq_some_iff.mp H
    obtain ⟨⟨t206, t207⟩, A90, H⟩ := H
    replace H : (if a0_1 > 5 then (jackstaylaw02_StuffTells.j0 k a1 l2 t204 t206 t207 true a0_0 a0_1 t202 t203) else (if a0_1 = 0 then (jackstaylaw02_StuffTells.j0 k a1 l2 t204 t206 t207 a0_0 a0_0 a0_1 t202 t203) else (jackstaylaw02_StuffTells.j0 k a1 l2 t204 t206 t207 false a0_0 a0_1 t202 t203))) = some r := H
    have A9 := Aside0.mk A90
    clear A90
    have HC10 := Aside0.mk H
    clear H
    go_enter Try.func3, Try.ntmps3
    go_upto_region 5 with (first | ((with_reducible refine gate_dst (N := 3) rfl ?_); refine box_event ?hg (N := 3) ?hd (cs := #[.bool a0_0, .int .u8 a0_1]) (t := 23) ?hr ?_; (case hd => rfl); (case hg => rfl); (case hr => first | (go_simp; done) | (go_simp; rfl)); intro gb200 hg w11 hbox hb; have n0_ := Aside0.mk (below_step (by repeat (first | (with_reducible first | exact HB.out | apply below_alloc | apply pw_below_drewN | apply below_drew1) | exact HB.out)) hb); have n1_ := Aside0.mk (hbox); have n2_ := Aside0.mk ((by rw [hg]; exact (below_size (by repeat (first | (with_reducible first | exact HB.out | apply below_alloc | apply pw_below_drewN | apply below_drew1) | exact HB.out))) : w.heap.size ≤ gb200)); have n3_ := Aside0.mk ((by rw [hg]; exact (below_size (by repeat (first | (with_reducible first | exact HB.out | apply below_alloc | apply pw_below_drewN | apply below_drew1) | exact HB.out))) : w.heap.size ≤ gb200)); clear HB; have HB := n0_; have BK200 := n1_; have GW200 := n2_; have GE200 := n3_; clear n0_ n1_ n2_ n3_; clear hb hbox hg; have hcz12_0 : w11.cell? ⟨gb200, 0, none⟩ = some (.bool a0_0) := (blk_cell BK200.out 0).trans rfl; have hcz12_1 : w11.cell? ⟨gb200, 1, none⟩ = some (.int .u8 a0_1) := (blk_cell BK200.out 1).trans rfl; have hfz12_0 := blk_frozen BK200.out 0; have hfz12_1 := blk_frozen BK200.out 1) | ((with_reducible refine gate_callee (f := 8) rfl ?_); refine goesL_ (some 25) rfl rfl Try.func8 (by kernel_rfl) rfl #[.agg #[.bool a0_0, .int .u8 a0_1], .bool a1] rfl (by (try simp only [List.map_toArray, List.map_cons, List.map_nil]); first | done | rfl | (simp only [List.length_drop, List.length_take]; rfl)) ?_; (with_reducible refine (stuff_Next.calls k a0_0 a0_1 a1 t202 t203 t204 _ A8.out).mono ?_); rintro e w13 ⟨rfl, hb⟩; refine ⟨_, rfl, ?_⟩; have n0_ := Aside0.mk (blk_below (g := gb200) (o := .cells #[.bool a0_0, .int .u8 a0_1] 23 (0, 0)) (by (with_reducible repeat (first | refine blk_drewN ?_ _ | refine blk_drew ?_ | refine blk_alloc ?_ _)); exact BK200.out) hb); have n1_ := Aside0.mk (below_step (by repeat (first | (with_reducible first | exact HB.out | apply below_alloc | apply pw_below_drewN | apply below_drew1 | refine below_set ?_ GE200.out) | exact HB.out)) hb); clear BK200; clear HB; have BK200 := n0_; have HB := n1_; clear n0_ n1_; (try clear hb); (try clear hb2); (try clear hk); (try clear hi)) | ((with_reducible refine gate_dst (N := 7) rfl ?_); refine box_event ?hg (N := 7) ?hd (cs := #[.bool false, .int .u8 0]) (t := 23) ?hr ?_; (case hd => rfl); (case hg => rfl); (case hr => first | (go_simp; done) | (go_simp; rfl)); intro gb205 hg w14 hbox hb; have n0_ := Aside0.mk (blk_below (g := gb200) (o := .cells #[.bool a0_0, .int .u8 a0_1] 23 (0, 0)) (by (with_reducible repeat (first | refine blk_drewN ?_ _ | refine blk_drew ?_ | refine blk_alloc ?_ _)); exact BK200.out) hb); have n1_ := Aside0.mk (below_step (by repeat (first | (with_reducible first | exact HB.out | apply below_alloc | apply pw_below_drewN | apply below_drew1 | refine below_set ?_ GE200.out) | exact HB.out)) hb); have n2_ := Aside0.mk (hbox); have n3_ := Aside0.mk ((by rw [hg]; exact (below_size (by repeat (first | (with_reducible first | exact HB.out | apply below_alloc | apply pw_below_drewN | apply below_drew1 | refine below_set ?_ GE200.out) | exact HB.out))) : w.heap.size ≤ gb205)); have n4_ := Aside0.mk ((by rw [hg]; exact (below_size (by repeat (first | (with_reducible first | exact HB.out | apply below_alloc | apply pw_below_drewN | apply below_drew1 | refine below_set ?_ GE200.out) | exact HB.out))) : w.heap.size ≤ gb205)); have n5_ := Aside0.mk ((by rw [hg]; exact Nat.ne_of_lt (blk_lt (g := gb200) (o := .cells #[.bool a0_0, .int .u8 a0_1] 23 (0, 0)) (by (with_reducible repeat (first | refine blk_drewN ?_ _ | refine blk_drew ?_ | refine blk_alloc ?_ _)); exact BK200.out)) : gb200 ≠ gb205)); have n6_ := Aside0.mk ((by rw [hg]; exact Nat.ne_of_gt (blk_lt (g := gb200) (o := .cells #[.bool a0_0, .int .u8 a0_1] 23 (0, 0)) (by (with_reducible repeat (first | refine blk_drewN ?_ _ | refine blk_drew ?_ | refine blk_alloc ?_ _)); exact BK200.out)) : gb205 ≠ gb200)); clear BK200; clear HB; have BK200 := n0_; have HB := n1_; have BK205 := n2_; have GW205 := n3_; have GE205 := n4_; have NB200_205 := n5_; have NB205_200 := n6_; clear n0_ n1_ n2_ n3_ n4_ n5_ n6_; clear hb hbox hg; have hnb15 := NB205_200.out; have hnc15 := NB200_205.out; have hcz16_0 : w14.cell? ⟨gb205, 0, none⟩ = some (.bool false) := (blk_cell BK205.out 0).trans rfl; have hcz16_1 : w14.cell? ⟨gb205, 1, none⟩ = some (.int .u8 0) := (blk_cell BK205.out 1).trans rfl; have hfz16_0 := blk_frozen BK205.out 0; have hfz16_1 := blk_frozen BK205.out 1; have hcz17_0 : w14.cell? ⟨gb200, 0, none⟩ = some (.bool a0_0) := (blk_cell BK200.out 0).trans rfl; have hcz17_1 : w14.cell? ⟨gb200, 1, none⟩ = some (.int .u8 a0_1) := (blk_cell BK200.out 1).trans rfl; have hfz17_0 := blk_frozen BK200.out 0; have hfz17_1 := blk_frozen BK200.out 1) | ((with_reducible refine gate_callee (f := 9) rfl ?_); refine goesL_ (some 30) rfl rfl Try.func9 (by kernel_rfl) rfl #[.agg #[.bool a0_0, .int .u8 a0_1]] rfl (by (try simp only [List.map_toArray, List.map_cons, List.map_nil]); first | done | rfl | (simp only [List.length_drop, List.length_take]; rfl)) ?_; (with_reducible refine (stuff_Owed.calls a0_0 a0_1 t206 t207 _ A9.out).mono ?_); rintro e w18 ⟨rfl, hb⟩; refine ⟨_, rfl, ?_⟩; have n0_ := Aside0.mk (blk_below (g := gb200) (o := .cells #[.bool a0_0, .int .u8 a0_1] 23 (0, 0)) (by (with_reducible repeat (first | refine blk_drewN ?_ _ | refine blk_drew ?_ | refine blk_alloc ?_ _)); refine blk_far ?_ NB200_205.out _; (with_reducible repeat (first | refine blk_drewN ?_ _ | refine blk_drew ?_ | refine blk_alloc ?_ _)); refine blk_far ?_ NB200_205.out _; (with_reducible repeat (first | refine blk_drewN ?_ _ | refine blk_drew ?_ | refine blk_alloc ?_ _)); exact BK200.out) hb); have n1_ := Aside0.mk (blk_below (g := gb205) (o := .cells #[.bool t202, .int .u8 t203] 23 (0, 0)) (by (with_reducible repeat (first | refine blk_drewN ?_ _ | refine blk_drew ?_ | refine blk_alloc ?_ _)); refine blk_put (cs := #[.bool t202, .int .u8 0]) ?_ 1 _ rfl; (with_reducible repeat (first | refine blk_drewN ?_ _ | refine blk_drew ?_ | refine blk_alloc ?_ _)); refine blk_put (cs := #[.bool false, .int .u8 0]) ?_ 0 _ rfl; (with_reducible repeat (first | refine blk_drewN ?_ _ | refine blk_drew ?_ | refine blk_alloc ?_ _)); exact BK205.out) hb); have n2_ := Aside0.mk (below_step (by repeat (first | (with_reducible first | exact HB.out | apply below_alloc | apply pw_below_drewN | apply below_drew1 | refine below_set ?_ GE200.out | refine below_set ?_ GE205.out) | exact HB.out)) hb); clear BK200; clear BK205; clear HB; have BK200 := n0_; have BK205 := n1_; have HB := n2_; clear n0_ n1_ n2_; (try clear hb); (try clear hb2); (try clear hk); (try clear hi)))
    (try simp only [Act.put, List.setIfInBounds_toArray, List.set_cons_zero, List.set_cons_succ])
    go_cut [44] (fun v44 wc => ∃ (kq : Nat) (x44_9 : Bool), v44 = .bool x44_9 ∧ Aside0 (jackstaylaw02_StuffTells.j0 kq a1 l2 t204 t206 t207 x44_9 a0_0 a0_1 t202 t203 = some r) ∧ Aside0 (kq ≤ k) ∧ Aside0 (wc.heap[gb200]? = some (.cells #[.bool a0_0, .int .u8 a0_1] 23 (0, 0))) ∧ Aside0 (wc.heap[gb205]? = some (.cells #[.bool t202, .int .u8 t203] 23 (0, 0))) ∧ Aside0 (Below w.heap.size w wc))
    case first =>
      have H := HC10.out
      clear HC10
      by_cases c19 : a0_1 > 5
      · rw [if_pos c19] at H
        have c19b0 : decide (5 < a0_1) = true := decide_eq_true c19
        clear c19
        (first | rw [c19b0] | (simp only [i64_w, i32_w]; rw [c19b0]) | skip)
        have H' := Aside0.mk H
        clear H
        have hnb20 := NB200_205.out
        have hnc20 := NB205_200.out
        have hcz21_0 : w18.cell? ⟨gb200, 0, none⟩ = some (.bool a0_0) := (blk_cell BK200.out 0).trans rfl
        have hcz21_1 : w18.cell? ⟨gb200, 1, none⟩ = some (.int .u8 a0_1) := (blk_cell BK200.out 1).trans rfl
        have hfz21_0 := blk_frozen BK200.out 0
        have hfz21_1 := blk_frozen BK200.out 1
        go_wp2
        go_meet
        case rel => exact ⟨_, (true), (by first | rfl | (simp; done) | (simp [*]; done)), H', ⟨by first | omega | exact Nat.le_refl _⟩, ⟨by (with_reducible repeat (first | refine blk_drewN ?_ _ | refine blk_drew ?_ | refine blk_alloc ?_ _)); exact BK200.out⟩, ⟨by (with_reducible repeat (first | refine blk_drewN ?_ _ | refine blk_drew ?_ | refine blk_alloc ?_ _)); exact BK205.out⟩, ⟨by repeat (first | (with_reducible first | exact HB.out | apply below_alloc | apply pw_below_drewN | apply below_drew1 | refine below_set ?_ GE200.out | refine below_set ?_ GE205.out) | exact HB.out)⟩⟩
      · rw [if_neg c19] at H
        have c19b0 : decide (5 < a0_1) = false := decide_eq_false c19
        clear c19
        (first | rw [c19b0] | (simp only [i64_w, i32_w]; rw [c19b0]) | skip)
        by_cases c22 : a0_1 = 0
        · rw [if_pos c22] at H
          have c22b0 : (a0_1 == 0) = true := beq_iff_eq.mpr c22
          have c22b1 : (a0_1 != 0) = false := bne_eq_false_iff_eq.mpr c22
          clear c22
          have H' := Aside0.mk H
          clear H
          have hnb23 := NB200_205.out
          have hnc23 := NB205_200.out
          have hcz24_0 : w18.cell? ⟨gb200, 0, none⟩ = some (.bool a0_0) := (blk_cell BK200.out 0).trans rfl
          have hcz24_1 : w18.cell? ⟨gb200, 1, none⟩ = some (.int .u8 a0_1) := (blk_cell BK200.out 1).trans rfl
          have hfz24_0 := blk_frozen BK200.out 0
          have hfz24_1 := blk_frozen BK200.out 1
          go_wp2
          go_meet
          case rel => exact ⟨_, (a0_0), (by first | rfl | (simp; done) | (simp [*]; done)), H', ⟨by first | omega | exact Nat.le_refl _⟩, ⟨by (with_reducible repeat (first | refine blk_drewN ?_ _ | refine blk_drew ?_ | refine blk_alloc ?_ _)); exact BK200.out⟩, ⟨by (with_reducible repeat (first | refine blk_drewN ?_ _ | refine blk_drew ?_ | refine blk_alloc ?_ _)); exact BK205.out⟩, ⟨by repeat (first | (with_reducible first | exact HB.out | apply below_alloc | apply pw_below_drewN | apply below_drew1 | refine below_set ?_ GE200.out | refine below_set ?_ GE205.out) | exact HB.out)⟩⟩
        · rw [if_neg c22] at H
          have c22b0 : (a0_1 == 0) = false := beq_eq_false_iff_ne.mpr c22
          have c22b1 : (a0_1 != 0) = true := bne_iff_ne.mpr c22
          have H' := Aside0.mk H
          clear H
          have hnb25 := NB200_205.out
          have hnc25 := NB205_200.out
          have hcz26_0 : w18.cell? ⟨gb200, 0, none⟩ = some (.bool a0_0) := (blk_cell BK200.out 0).trans rfl
          have hcz26_1 : w18.cell? ⟨gb200, 1, none⟩ = some (.int .u8 a0_1) := (blk_cell BK200.out 1).trans rfl
          have hfz26_0 := blk_frozen BK200.out 0
          have hfz26_1 := blk_frozen BK200.out 1
          go_wp2
          go_meet
          case rel => exact ⟨_, (false), (by first | rfl | (simp; done) | (simp [*]; done)), H', ⟨by first | omega | exact Nat.le_refl _⟩, ⟨by (with_reducible repeat (first | refine blk_drewN ?_ _ | refine blk_drew ?_ | refine blk_alloc ?_ _)); exact BK200.out⟩, ⟨by (with_reducible repeat (first | refine blk_drewN ?_ _ | refine blk_drew ?_ | refine blk_alloc ?_ _)); exact BK205.out⟩, ⟨by repeat (first | (with_reducible first | exact HB.out | apply below_alloc | apply pw_below_drewN | apply below_drew1 | refine below_set ?_ GE200.out | refine below_set ?_ GE205.out) | exact HB.out)⟩⟩
    case rest =>
      clear HC10
      try clear c1
      try clear c2
      try clear p2
      try clear c3
      try clear c4
      try clear c4b0
      try clear c4b1
      try clear c7
      try clear c8
      try clear c9
      try clear c15
      try clear c19
      try clear c19b0
      try clear c20
      try clear c22
      try clear c22b0
      try clear c22b1
      try clear c23
      try clear c25
      try clear hcz12_0
      try clear hcz12_1
      try clear hcz16_0
      try clear hcz16_1
      try clear hcz17_0
      try clear hcz17_1
      try clear hcz21_0
      try clear hcz21_1
      try clear hcz24_0
      try clear hcz24_1
      try clear hcz26_0
      try clear hcz26_1
      try clear hfz12_0
      try clear hfz12_1
      try clear hfz16_0
      try clear hfz16_1
      try clear hfz17_0
      try clear hfz17_1
      try clear hfz21_0
      try clear hfz21_1
      try clear hfz24_0
      try clear hfz24_1
      try clear hfz26_0
      try clear hfz26_1
      obtain ⟨kq, x44_9, rfl, HA, HJ9, BK200, BK205, HB⟩ := hcut
      cases kq with
      | zero => exact absurd HA.out (by simp [jackstaylaw02_StuffTells.j0])
      | succ kj9 =>
        have H := HA.out
        clear HA
        simp only [jackstaylaw02_StuffTells.j0] at H
        have HC27 := Aside0.mk H
        clear H
        go_upto_if 44 with (fail)
        go_cut [] (fun wc => ∃ (kq : Nat), Aside0 (jackstaylaw02_StuffTells.j1 kq l2 = some r) ∧ Aside0 (kq ≤ kj9) ∧ Aside0 (wc.heap[gb200]? = some (.cells #[.bool a0_0, .int .u8 a0_1] 23 (0, 0))) ∧ Aside0 (wc.heap[gb205]? = some (.cells #[.bool t202, .int .u8 t203] 23 (0, 0))) ∧ Aside0 (Below w.heap.size w wc))
        case first =>
          have H := HC27.out
          clear HC27
          by_cases c28 : x44_9 = true
          · subst c28
            have H1 : (if (t202 || (!(t203 == 0))) = true then (some false) else (if t204 = 2 then (if t206 = true then (some false) else (if t207 = true then (some false) else (jackstaylaw02_StuffTells.j1 kj9 l2))) else (some false))) = some r := by rw [if_pos rfl] at H; exact H
            clear H
            have H := H1
            clear H1
            by_cases c29 : (t202 || (!(t203 == 0))) = true
            · rw [if_pos c29] at H
              have c29b0 : (t202 || (!(t203 == 0))) = true := c29
              clear c29
              (first | rw [c29b0] | (simp only [i64_w, i32_w]; rw [c29b0]) | skip)
              obtain rfl := Option.some.inj H
              exact absurd hT_ (by decide)
            · rw [if_neg c29] at H
              have c29b0 : (t202 || (!(t203 == 0))) = false := by simpa using c29
              clear c29
              (first | rw [c29b0] | (simp only [i64_w, i32_w]; rw [c29b0]) | skip)
              by_cases c30 : t204 = 2
              · rw [if_pos c30] at H
                have c30b0 : (t204 == 2) = true := beq_iff_eq.mpr c30
                have c30b1 : (t204 != 2) = false := bne_eq_false_iff_eq.mpr c30
                clear c30
                by_cases c31 : t206 = true
                · subst c31
                  (try (have c29b0n := c29b0; simp only [beq_false, beq_true, Bool.not_not, Bool.not_true, Bool.not_false, Bool.true_and, Bool.and_true, Bool.false_or, Bool.or_false, Bool.true_bne, Bool.false_bne, Bool.bne_true, Bool.bne_false, Bool.true_beq, Bool.false_beq] at c29b0n; have c29b0o := c29b0n; simp only [Bool.not_eq_false', Bool.not_eq_true'] at c29b0o))
                  have H1 : (some false) = some r := by rw [if_pos rfl] at H; exact H
                  clear H
                  have H := H1
                  clear H1
                  obtain rfl := Option.some.inj H
                  exact absurd hT_ (by decide)
                · replace c31 := Bool.eq_false_iff.mpr c31
                  subst c31
                  (try (have c29b0n := c29b0; simp only [beq_false, beq_true, Bool.not_not, Bool.not_true, Bool.not_false, Bool.true_and, Bool.and_true, Bool.false_or, Bool.or_false, Bool.true_bne, Bool.false_bne, Bool.bne_true, Bool.bne_false, Bool.true_beq, Bool.false_beq] at c29b0n; have c29b0o := c29b0n; simp only [Bool.not_eq_false', Bool.not_eq_true'] at c29b0o))
                  have H1 : (if t207 = true then (some false) else (jackstaylaw02_StuffTells.j1 kj9 l2)) = some r := by rw [if_neg (show ¬ (false = true) by decide)] at H; exact H
                  clear H
                  have H := H1
                  clear H1
                  by_cases c32 : t207 = true
                  · subst c32
                    (try (have c29b0n := c29b0; simp only [beq_false, beq_true, Bool.not_not, Bool.not_true, Bool.not_false, Bool.true_and, Bool.and_true, Bool.false_or, Bool.or_false, Bool.true_bne, Bool.false_bne, Bool.bne_true, Bool.bne_false, Bool.true_beq, Bool.false_beq] at c29b0n; have c29b0o := c29b0n; simp only [Bool.not_eq_false', Bool.not_eq_true'] at c29b0o))
                    have H1 : (some false) = some r := by rw [if_pos rfl] at H; exact H
                    clear H
                    have H := H1
                    clear H1
                    obtain rfl := Option.some.inj H
                    exact absurd hT_ (by decide)
                  · replace c32 := Bool.eq_false_iff.mpr c32
                    subst c32
                    (try (have c29b0n := c29b0; simp only [beq_false, beq_true, Bool.not_not, Bool.not_true, Bool.not_false, Bool.true_and, Bool.and_true, Bool.false_or, Bool.or_false, Bool.true_bne, Bool.false_bne, Bool.bne_true, Bool.bne_false, Bool.true_beq, Bool.false_beq] at c29b0n; have c29b0o := c29b0n; simp only [Bool.not_eq_false', Bool.not_eq_true'] at c29b0o))
                    have H1 : (jackstaylaw02_StuffTells.j1 kj9 l2) = some r := by rw [if_neg (show ¬ (false = true) by decide)] at H; exact H
                    clear H
                    have H := H1
                    clear H1
                    have H' := Aside0.mk H
                    clear H
                    have hnb33 := NB205_200.out
                    have hnc33 := NB200_205.out
                    have hcz34_0 : wc.cell? ⟨gb205, 0, none⟩ = some (.bool t202) := (blk_cell BK205.out 0).trans rfl
                    have hcz34_1 : wc.cell? ⟨gb205, 1, none⟩ = some (.int .u8 t203) := (blk_cell BK205.out 1).trans rfl
                    have hfz34_0 := blk_frozen BK205.out 0
                    have hfz34_1 := blk_frozen BK205.out 1
                    go_wp2
                    go_meet
                    case rel => exact ⟨_, H', ⟨by have := HJ9.out; first | omega | exact Nat.le_refl _⟩, ⟨by (with_reducible repeat (first | refine blk_drewN ?_ _ | refine blk_drew ?_ | refine blk_alloc ?_ _)); exact BK200.out⟩, ⟨by (with_reducible repeat (first | refine blk_drewN ?_ _ | refine blk_drew ?_ | refine blk_alloc ?_ _)); exact BK205.out⟩, ⟨by repeat (first | (with_reducible first | exact HB.out | apply below_alloc | apply pw_below_drewN | apply below_drew1 | refine below_set ?_ GE200.out | refine below_set ?_ GE205.out) | exact HB.out)⟩⟩
              · rw [if_neg c30] at H
                have c30b0 : (t204 == 2) = false := beq_eq_false_iff_ne.mpr c30
                have c30b1 : (t204 != 2) = true := bne_iff_ne.mpr c30
                obtain rfl := Option.some.inj H
                exact absurd hT_ (by decide)
          · replace c28 := Bool.eq_false_iff.mpr c28
            subst c28
            (try (have c29b0n := c29b0; simp only [beq_false, beq_true, Bool.not_not, Bool.not_true, Bool.not_false, Bool.true_and, Bool.and_true, Bool.false_or, Bool.or_false, Bool.true_bne, Bool.false_bne, Bool.bne_true, Bool.bne_false, Bool.true_beq, Bool.false_beq] at c29b0n; have c29b0o := c29b0n; simp only [Bool.not_eq_false', Bool.not_eq_true'] at c29b0o))
            have H1 : ((jackstayref02_Next.f kj9 a0_0 a0_1 a1).bind fun bt208 => (if (!(t202 == bt208.1) || (!(t203 == bt208.2.1))) = true then (some false) else (if t204 = bt208.2.2 then (if (t207 != (a0_1 == 5)) = true then (some false) else (if t207 = true then (if (t206 != (!a0_0)) = true then (some false) else (jackstaylaw02_StuffTells.j1 kj9 l2)) else (if (t206 != false) = true then (some false) else (jackstaylaw02_StuffTells.j1 kj9 l2)))) else (some false)))) = some r := by rw [if_neg (show ¬ (false = true) by decide)] at H; exact H
            clear H
            have H := H1
            clear H1
            replace H := Option.bind_eq_some_iff.mp H
            obtain ⟨⟨t208, t209, t210⟩, A350, H⟩ := H
            replace H : (if (!(t202 == t208) || (!(t203 == t209))) = true then (some false) else (if t204 = t210 then (if (t207 != (a0_1 == 5)) = true then (some false) else (if t207 = true then (if (t206 != (!a0_0)) = true then (some false) else (jackstaylaw02_StuffTells.j1 kj9 l2)) else (if (t206 != false) = true then (some false) else (jackstaylaw02_StuffTells.j1 kj9 l2)))) else (some false))) = some r := H
            have A35 := Aside0.mk A350
            clear A350
            by_cases c36 : (!(t202 == t208) || (!(t203 == t209))) = true
            · rw [if_pos c36] at H
              have c36b0 : (!(t202 == t208) || (!(t203 == t209))) = true := c36
              clear c36
              obtain rfl := Option.some.inj H
              exact absurd hT_ (by decide)
            · rw [if_neg c36] at H
              have c36b0 : (!(t202 == t208) || (!(t203 == t209))) = false := by simpa using c36
              clear c36
              by_cases c37 : t204 = t210
              · rw [if_pos c37] at H
                have c37b0 : (t204 == t210) = true := beq_iff_eq.mpr c37
                have c37b1 : (t204 != t210) = false := bne_eq_false_iff_eq.mpr c37
                clear c37
                by_cases c38 : (t207 != (a0_1 == 5)) = true
                · rw [if_pos c38] at H
                  have c38b0 : (t207 != (a0_1 == 5)) = true := c38
                  (try (have c38e : (!(t207 == (a0_1 == 5))) = true := c38b0; have c38f := c38e; simp only [Bool.not_eq_false', Bool.not_eq_true'] at c38f))
                  (try (have c38b1 : decide (t207 = (a0_1 == 5)) = false := by simpa using c38))
                  (try (have c38b2 : (t207 == (a0_1 == 5)) = false := by simpa using c38))
                  (try (have c38b3 : ¬ (t207 = (a0_1 == 5)) := by simpa using c38))
                  clear c38
                  obtain rfl := Option.some.inj H
                  exact absurd hT_ (by decide)
                · rw [if_neg c38] at H
                  have c38b0 : (t207 != (a0_1 == 5)) = false := by simpa using c38
                  (try (have c38e : (!(t207 == (a0_1 == 5))) = false := c38b0; have c38f := c38e; simp only [Bool.not_eq_false', Bool.not_eq_true'] at c38f))
                  (try (have c38b1 : decide (t207 = (a0_1 == 5)) = true := by simpa using c38))
                  (try (have c38b2 : (t207 == (a0_1 == 5)) = true := by simpa using c38))
                  clear c38
                  by_cases c39 : t207 = true
                  · subst c39
                    (try (have c36b0n := c36b0; simp only [beq_false, beq_true, Bool.not_not, Bool.not_true, Bool.not_false, Bool.true_and, Bool.and_true, Bool.false_or, Bool.or_false, Bool.true_bne, Bool.false_bne, Bool.bne_true, Bool.bne_false, Bool.true_beq, Bool.false_beq] at c36b0n; have c36b0o := c36b0n; simp only [Bool.not_eq_false', Bool.not_eq_true'] at c36b0o))
                    (try (have c38b0n := c38b0; simp only [beq_false, beq_true, Bool.not_not, Bool.not_true, Bool.not_false, Bool.true_and, Bool.and_true, Bool.false_or, Bool.or_false, Bool.true_bne, Bool.false_bne, Bool.bne_true, Bool.bne_false, Bool.true_beq, Bool.false_beq] at c38b0n; have c38b0o := c38b0n; simp only [Bool.not_eq_false', Bool.not_eq_true'] at c38b0o))
                    have H1 : (if (t206 != (!a0_0)) = true then (some false) else (jackstaylaw02_StuffTells.j1 kj9 l2)) = some r := by rw [if_pos rfl] at H; exact H
                    clear H
                    have H := H1
                    clear H1
                    by_cases c40 : (t206 != (!a0_0)) = true
                    · rw [if_pos c40] at H
                      have c40b0 : (t206 != (!a0_0)) = true := c40
                      (try (have c40e : (!(t206 == (!a0_0))) = true := c40b0; have c40f := c40e; simp only [Bool.not_eq_false', Bool.not_eq_true'] at c40f))
                      (try (have c40b1 : decide (t206 = (!a0_0)) = false := by simpa using c40))
                      (try (have c40b2 : (t206 == (!a0_0)) = false := by simpa using c40))
                      (try (have c40b3 : ¬ (t206 = (!a0_0)) := by simpa using c40))
                      clear c40
                      obtain rfl := Option.some.inj H
                      exact absurd hT_ (by decide)
                    · rw [if_neg c40] at H
                      have c40b0 : (t206 != (!a0_0)) = false := by simpa using c40
                      (try (have c40e : (!(t206 == (!a0_0))) = false := c40b0; have c40f := c40e; simp only [Bool.not_eq_false', Bool.not_eq_true'] at c40f))
                      (try (have c40b1 : decide (t206 = (!a0_0)) = true := by simpa using c40))
                      (try (have c40b2 : (t206 == (!a0_0)) = true := by simpa using c40))
                      clear c40
                      have H' := Aside0.mk H
                      clear H
                      have hnb41 := NB200_205.out
                      have hnc41 := NB205_200.out
                      have hcz42_0 : wc.cell? ⟨gb200, 0, none⟩ = some (.bool a0_0) := (blk_cell BK200.out 0).trans rfl
                      have hcz42_1 : wc.cell? ⟨gb200, 1, none⟩ = some (.int .u8 a0_1) := (blk_cell BK200.out 1).trans rfl
                      have hfz42_0 := blk_frozen BK200.out 0
                      have hfz42_1 := blk_frozen BK200.out 1
                      go_wp2_with (first | ((with_reducible refine gate_callee (f := 10) rfl ?_); refine goesL_ (some 61) rfl rfl Try.func10 (by kernel_rfl) rfl #[.agg #[.bool a0_0, .int .u8 a0_1], .bool a1] rfl (by (try simp only [List.map_toArray, List.map_cons, List.map_nil]); first | done | rfl | (simp only [List.length_drop, List.length_take]; rfl)) ?_; (with_reducible refine (jackstayref02_Next.calls kj9 a0_0 a0_1 a1 t208 t209 t210 _ A35.out).mono ?_); rintro e w43 ⟨rfl, hb⟩; refine ⟨_, rfl, ?_⟩; have n0_ := Aside0.mk (blk_below (g := gb200) (o := .cells #[.bool a0_0, .int .u8 a0_1] 23 (0, 0)) (by (with_reducible repeat (first | refine blk_drewN ?_ _ | refine blk_drew ?_ | refine blk_alloc ?_ _)); exact BK200.out) hb); have n1_ := Aside0.mk (blk_below (g := gb205) (o := .cells #[.bool t202, .int .u8 t203] 23 (0, 0)) (by (with_reducible repeat (first | refine blk_drewN ?_ _ | refine blk_drew ?_ | refine blk_alloc ?_ _)); exact BK205.out) hb); have n2_ := Aside0.mk (below_step (by repeat (first | (with_reducible first | exact HB.out | apply below_alloc | apply pw_below_drewN | apply below_drew1 | refine below_set ?_ GE200.out | refine below_set ?_ GE205.out) | exact HB.out)) hb); clear BK200; clear BK205; clear HB; have BK200 := n0_; have BK205 := n1_; have HB := n2_; clear n0_ n1_ n2_; (try clear hb); (try clear hb2); (try clear hk); (try clear hi)) | ((with_reducible refine gate_dst (N := 11) rfl ?_); refine box_event ?hg (N := 11) ?hd (cs := #[.bool false, .int .u8 0]) (t := 23) ?hr ?_; (case hd => rfl); (case hg => rfl); (case hr => first | (go_simp; done) | (go_simp; rfl)); intro gb211 hg w44 hbox hb; have n0_ := Aside0.mk (blk_below (g := gb200) (o := .cells #[.bool a0_0, .int .u8 a0_1] 23 (0, 0)) (by (with_reducible repeat (first | refine blk_drewN ?_ _ | refine blk_drew ?_ | refine blk_alloc ?_ _)); exact BK200.out) hb); have n1_ := Aside0.mk (blk_below (g := gb205) (o := .cells #[.bool t202, .int .u8 t203] 23 (0, 0)) (by (with_reducible repeat (first | refine blk_drewN ?_ _ | refine blk_drew ?_ | refine blk_alloc ?_ _)); exact BK205.out) hb); have n2_ := Aside0.mk (below_step (by repeat (first | (with_reducible first | exact HB.out | apply below_alloc | apply pw_below_drewN | apply below_drew1 | refine below_set ?_ GE200.out | refine below_set ?_ GE205.out) | exact HB.out)) hb); have n3_ := Aside0.mk (hbox); have n4_ := Aside0.mk ((by rw [hg]; exact (below_size (by repeat (first | (with_reducible first | exact HB.out | apply below_alloc | apply pw_below_drewN | apply below_drew1 | refine below_set ?_ GE200.out | refine below_set ?_ GE205.out) | exact HB.out))) : w.heap.size ≤ gb211)); have n5_ := Aside0.mk ((by rw [hg]; exact (below_size (by repeat (first | (with_reducible first | exact HB.out | apply below_alloc | apply pw_below_drewN | apply below_drew1 | refine below_set ?_ GE200.out | refine below_set ?_ GE205.out) | exact HB.out))) : w.heap.size ≤ gb211)); have n6_ := Aside0.mk ((by rw [hg]; exact Nat.ne_of_lt (blk_lt (g := gb200) (o := .cells #[.bool a0_0, .int .u8 a0_1] 23 (0, 0)) (by (with_reducible repeat (first | refine blk_drewN ?_ _ | refine blk_drew ?_ | refine blk_alloc ?_ _)); exact BK200.out)) : gb200 ≠ gb211)); have n7_ := Aside0.mk ((by rw [hg]; exact Nat.ne_of_gt (blk_lt (g := gb200) (o := .cells #[.bool a0_0, .int .u8 a0_1] 23 (0, 0)) (by (with_reducible repeat (first | refine blk_drewN ?_ _ | refine blk_drew ?_ | refine blk_alloc ?_ _)); exact BK200.out)) : gb211 ≠ gb200)); have n8_ := Aside0.mk ((by rw [hg]; exact Nat.ne_of_lt (blk_lt (g := gb205) (o := .cells #[.bool t202, .int .u8 t203] 23 (0, 0)) (by (with_reducible repeat (first | refine blk_drewN ?_ _ | refine blk_drew ?_ | refine blk_alloc ?_ _)); exact BK205.out)) : gb205 ≠ gb211)); have n9_ := Aside0.mk ((by rw [hg]; exact Nat.ne_of_gt (blk_lt (g := gb205) (o := .cells #[.bool t202, .int .u8 t203] 23 (0, 0)) (by (with_reducible repeat (first | refine blk_drewN ?_ _ | refine blk_drew ?_ | refine blk_alloc ?_ _)); exact BK205.out)) : gb211 ≠ gb205)); clear BK200; clear BK205; clear HB; have BK200 := n0_; have BK205 := n1_; have HB := n2_; have BK211 := n3_; have GW211 := n4_; have GE211 := n5_; have NB200_211 := n6_; have NB211_200 := n7_; have NB205_211 := n8_; have NB211_205 := n9_; clear n0_ n1_ n2_ n3_ n4_ n5_ n6_ n7_ n8_ n9_; clear hb hbox hg; have hnb45 := NB211_200.out; have hnc45 := NB200_211.out; have hnb46 := NB211_205.out; have hnc46 := NB205_211.out; have hcz47_0 : w44.cell? ⟨gb211, 0, none⟩ = some (.bool false) := (blk_cell BK211.out 0).trans rfl; have hcz47_1 : w44.cell? ⟨gb211, 1, none⟩ = some (.int .u8 0) := (blk_cell BK211.out 1).trans rfl; have hfz47_0 := blk_frozen BK211.out 0; have hfz47_1 := blk_frozen BK211.out 1; have hcz48_0 : w44.cell? ⟨gb205, 0, none⟩ = some (.bool t202) := (blk_cell BK205.out 0).trans rfl; have hcz48_1 : w44.cell? ⟨gb205, 1, none⟩ = some (.int .u8 t203) := (blk_cell BK205.out 1).trans rfl; have hfz48_0 := blk_frozen BK205.out 0; have hfz48_1 := blk_frozen BK205.out 1; have hcz49_0 : w44.cell? ⟨gb200, 0, none⟩ = some (.bool a0_0) := (blk_cell BK200.out 0).trans rfl; have hcz49_1 : w44.cell? ⟨gb200, 1, none⟩ = some (.int .u8 a0_1) := (blk_cell BK200.out 1).trans rfl; have hfz49_0 := blk_frozen BK200.out 0; have hfz49_1 := blk_frozen BK200.out 1))
                      go_meet
                      case rel => exact ⟨_, H', ⟨by have := HJ9.out; first | omega | exact Nat.le_refl _⟩, ⟨by (with_reducible repeat (first | refine blk_drewN ?_ _ | refine blk_drew ?_ | refine blk_alloc ?_ _)); refine blk_far ?_ NB200_211.out _; (with_reducible repeat (first | refine blk_drewN ?_ _ | refine blk_drew ?_ | refine blk_alloc ?_ _)); refine blk_far ?_ NB200_211.out _; (with_reducible repeat (first | refine blk_drewN ?_ _ | refine blk_drew ?_ | refine blk_alloc ?_ _)); exact BK200.out⟩, ⟨by (with_reducible repeat (first | refine blk_drewN ?_ _ | refine blk_drew ?_ | refine blk_alloc ?_ _)); refine blk_far ?_ NB205_211.out _; (with_reducible repeat (first | refine blk_drewN ?_ _ | refine blk_drew ?_ | refine blk_alloc ?_ _)); refine blk_far ?_ NB205_211.out _; (with_reducible repeat (first | refine blk_drewN ?_ _ | refine blk_drew ?_ | refine blk_alloc ?_ _)); exact BK205.out⟩, ⟨by repeat (first | (with_reducible first | exact HB.out | apply below_alloc | apply pw_below_drewN | apply below_drew1 | refine below_set ?_ GE200.out | refine below_set ?_ GE205.out | refine below_set ?_ GE211.out) | exact HB.out)⟩⟩
                  · replace c39 := Bool.eq_false_iff.mpr c39
                    subst c39
                    (try (have c36b0n := c36b0; simp only [beq_false, beq_true, Bool.not_not, Bool.not_true, Bool.not_false, Bool.true_and, Bool.and_true, Bool.false_or, Bool.or_false, Bool.true_bne, Bool.false_bne, Bool.bne_true, Bool.bne_false, Bool.true_beq, Bool.false_beq] at c36b0n; have c36b0o := c36b0n; simp only [Bool.not_eq_false', Bool.not_eq_true'] at c36b0o))
                    (try (have c38b0n := c38b0; simp only [beq_false, beq_true, Bool.not_not, Bool.not_true, Bool.not_false, Bool.true_and, Bool.and_true, Bool.false_or, Bool.or_false, Bool.true_bne, Bool.false_bne, Bool.bne_true, Bool.bne_false, Bool.true_beq, Bool.false_beq] at c38b0n; have c38b0o := c38b0n; simp only [Bool.not_eq_false', Bool.not_eq_true'] at c38b0o))
                    (try (have c40b0n := c40b0; simp only [beq_false, beq_true, Bool.not_not, Bool.not_true, Bool.not_false, Bool.true_and, Bool.and_true, Bool.false_or, Bool.or_false, Bool.true_bne, Bool.false_bne, Bool.bne_true, Bool.bne_false, Bool.true_beq, Bool.false_beq] at c40b0n; have c40b0o := c40b0n; simp only [Bool.not_eq_false', Bool.not_eq_true'] at c40b0o))
                    have H1 : (if (t206 != false) = true then (some false) else (jackstaylaw02_StuffTells.j1 kj9 l2)) = some r := by rw [if_neg (show ¬ (false = true) by decide)] at H; exact H
                    clear H
                    have H := H1
                    clear H1
                    by_cases c50 : (t206 != false) = true
                    · rw [if_pos c50] at H
                      have c50b0 : (t206 != false) = true := c50
                      (try (have c50e : (!(t206 == false)) = true := c50b0; have c50f := c50e; simp only [Bool.not_eq_false', Bool.not_eq_true'] at c50f))
                      (try (have c50b1 : decide (t206 = false) = false := by simpa using c50))
                      (try (have c50b2 : (t206 == false) = false := by simpa using c50))
                      (try (have c50b3 : ¬ (t206 = false) := by simpa using c50))
                      clear c50
                      obtain rfl := Option.some.inj H
                      exact absurd hT_ (by decide)
                    · rw [if_neg c50] at H
                      have c50b0 : (t206 != false) = false := by simpa using c50
                      (try (have c50e : (!(t206 == false)) = false := c50b0; have c50f := c50e; simp only [Bool.not_eq_false', Bool.not_eq_true'] at c50f))
                      (try (have c50b1 : decide (t206 = false) = true := by simpa using c50))
                      (try (have c50b2 : (t206 == false) = true := by simpa using c50))
                      clear c50
                      have H' := Aside0.mk H
                      clear H
                      have hnb51 := NB200_205.out
                      have hnc51 := NB205_200.out
                      have hcz52_0 : wc.cell? ⟨gb200, 0, none⟩ = some (.bool a0_0) := (blk_cell BK200.out 0).trans rfl
                      have hcz52_1 : wc.cell? ⟨gb200, 1, none⟩ = some (.int .u8 a0_1) := (blk_cell BK200.out 1).trans rfl
                      have hfz52_0 := blk_frozen BK200.out 0
                      have hfz52_1 := blk_frozen BK200.out 1
                      go_wp2_with (first | ((with_reducible refine gate_callee (f := 10) rfl ?_); refine goesL_ (some 61) rfl rfl Try.func10 (by kernel_rfl) rfl #[.agg #[.bool a0_0, .int .u8 a0_1], .bool a1] rfl (by (try simp only [List.map_toArray, List.map_cons, List.map_nil]); first | done | rfl | (simp only [List.length_drop, List.length_take]; rfl)) ?_; (with_reducible refine (jackstayref02_Next.calls kj9 a0_0 a0_1 a1 t208 t209 t210 _ A35.out).mono ?_); rintro e w53 ⟨rfl, hb⟩; refine ⟨_, rfl, ?_⟩; have n0_ := Aside0.mk (blk_below (g := gb200) (o := .cells #[.bool a0_0, .int .u8 a0_1] 23 (0, 0)) (by (with_reducible repeat (first | refine blk_drewN ?_ _ | refine blk_drew ?_ | refine blk_alloc ?_ _)); exact BK200.out) hb); have n1_ := Aside0.mk (blk_below (g := gb205) (o := .cells #[.bool t202, .int .u8 t203] 23 (0, 0)) (by (with_reducible repeat (first | refine blk_drewN ?_ _ | refine blk_drew ?_ | refine blk_alloc ?_ _)); exact BK205.out) hb); have n2_ := Aside0.mk (below_step (by repeat (first | (with_reducible first | exact HB.out | apply below_alloc | apply pw_below_drewN | apply below_drew1 | refine below_set ?_ GE200.out | refine below_set ?_ GE205.out) | exact HB.out)) hb); clear BK200; clear BK205; clear HB; have BK200 := n0_; have BK205 := n1_; have HB := n2_; clear n0_ n1_ n2_; (try clear hb); (try clear hb2); (try clear hk); (try clear hi)) | ((with_reducible refine gate_dst (N := 11) rfl ?_); refine box_event ?hg (N := 11) ?hd (cs := #[.bool false, .int .u8 0]) (t := 23) ?hr ?_; (case hd => rfl); (case hg => rfl); (case hr => first | (go_simp; done) | (go_simp; rfl)); intro gb211 hg w54 hbox hb; have n0_ := Aside0.mk (blk_below (g := gb200) (o := .cells #[.bool a0_0, .int .u8 a0_1] 23 (0, 0)) (by (with_reducible repeat (first | refine blk_drewN ?_ _ | refine blk_drew ?_ | refine blk_alloc ?_ _)); exact BK200.out) hb); have n1_ := Aside0.mk (blk_below (g := gb205) (o := .cells #[.bool t202, .int .u8 t203] 23 (0, 0)) (by (with_reducible repeat (first | refine blk_drewN ?_ _ | refine blk_drew ?_ | refine blk_alloc ?_ _)); exact BK205.out) hb); have n2_ := Aside0.mk (below_step (by repeat (first | (with_reducible first | exact HB.out | apply below_alloc | apply pw_below_drewN | apply below_drew1 | refine below_set ?_ GE200.out | refine below_set ?_ GE205.out) | exact HB.out)) hb); have n3_ := Aside0.mk (hbox); have n4_ := Aside0.mk ((by rw [hg]; exact (below_size (by repeat (first | (with_reducible first | exact HB.out | apply below_alloc | apply pw_below_drewN | apply below_drew1 | refine below_set ?_ GE200.out | refine below_set ?_ GE205.out) | exact HB.out))) : w.heap.size ≤ gb211)); have n5_ := Aside0.mk ((by rw [hg]; exact (below_size (by repeat (first | (with_reducible first | exact HB.out | apply below_alloc | apply pw_below_drewN | apply below_drew1 | refine below_set ?_ GE200.out | refine below_set ?_ GE205.out) | exact HB.out))) : w.heap.size ≤ gb211)); have n6_ := Aside0.mk ((by rw [hg]; exact Nat.ne_of_lt (blk_lt (g := gb200) (o := .cells #[.bool a0_0, .int .u8 a0_1] 23 (0, 0)) (by (with_reducible repeat (first | refine blk_drewN ?_ _ | refine blk_drew ?_ | refine blk_alloc ?_ _)); exact BK200.out)) : gb200 ≠ gb211)); have n7_ := Aside0.mk ((by rw [hg]; exact Nat.ne_of_gt (blk_lt (g := gb200) (o := .cells #[.bool a0_0, .int .u8 a0_1] 23 (0, 0)) (by (with_reducible repeat (first | refine blk_drewN ?_ _ | refine blk_drew ?_ | refine blk_alloc ?_ _)); exact BK200.out)) : gb211 ≠ gb200)); have n8_ := Aside0.mk ((by rw [hg]; exact Nat.ne_of_lt (blk_lt (g := gb205) (o := .cells #[.bool t202, .int .u8 t203] 23 (0, 0)) (by (with_reducible repeat (first | refine blk_drewN ?_ _ | refine blk_drew ?_ | refine blk_alloc ?_ _)); exact BK205.out)) : gb205 ≠ gb211)); have n9_ := Aside0.mk ((by rw [hg]; exact Nat.ne_of_gt (blk_lt (g := gb205) (o := .cells #[.bool t202, .int .u8 t203] 23 (0, 0)) (by (with_reducible repeat (first | refine blk_drewN ?_ _ | refine blk_drew ?_ | refine blk_alloc ?_ _)); exact BK205.out)) : gb211 ≠ gb205)); clear BK200; clear BK205; clear HB; have BK200 := n0_; have BK205 := n1_; have HB := n2_; have BK211 := n3_; have GW211 := n4_; have GE211 := n5_; have NB200_211 := n6_; have NB211_200 := n7_; have NB205_211 := n8_; have NB211_205 := n9_; clear n0_ n1_ n2_ n3_ n4_ n5_ n6_ n7_ n8_ n9_; clear hb hbox hg; have hnb55 := NB211_200.out; have hnc55 := NB200_211.out; have hnb56 := NB211_205.out; have hnc56 := NB205_211.out; have hcz57_0 : w54.cell? ⟨gb211, 0, none⟩ = some (.bool false) := (blk_cell BK211.out 0).trans rfl; have hcz57_1 : w54.cell? ⟨gb211, 1, none⟩ = some (.int .u8 0) := (blk_cell BK211.out 1).trans rfl; have hfz57_0 := blk_frozen BK211.out 0; have hfz57_1 := blk_frozen BK211.out 1; have hcz58_0 : w54.cell? ⟨gb205, 0, none⟩ = some (.bool t202) := (blk_cell BK205.out 0).trans rfl; have hcz58_1 : w54.cell? ⟨gb205, 1, none⟩ = some (.int .u8 t203) := (blk_cell BK205.out 1).trans rfl; have hfz58_0 := blk_frozen BK205.out 0; have hfz58_1 := blk_frozen BK205.out 1; have hcz59_0 : w54.cell? ⟨gb200, 0, none⟩ = some (.bool a0_0) := (blk_cell BK200.out 0).trans rfl; have hcz59_1 : w54.cell? ⟨gb200, 1, none⟩ = some (.int .u8 a0_1) := (blk_cell BK200.out 1).trans rfl; have hfz59_0 := blk_frozen BK200.out 0; have hfz59_1 := blk_frozen BK200.out 1))
                      go_meet
                      case rel => exact ⟨_, H', ⟨by have := HJ9.out; first | omega | exact Nat.le_refl _⟩, ⟨by (with_reducible repeat (first | refine blk_drewN ?_ _ | refine blk_drew ?_ | refine blk_alloc ?_ _)); refine blk_far ?_ NB200_211.out _; (with_reducible repeat (first | refine blk_drewN ?_ _ | refine blk_drew ?_ | refine blk_alloc ?_ _)); refine blk_far ?_ NB200_211.out _; (with_reducible repeat (first | refine blk_drewN ?_ _ | refine blk_drew ?_ | refine blk_alloc ?_ _)); exact BK200.out⟩, ⟨by (with_reducible repeat (first | refine blk_drewN ?_ _ | refine blk_drew ?_ | refine blk_alloc ?_ _)); refine blk_far ?_ NB205_211.out _; (with_reducible repeat (first | refine blk_drewN ?_ _ | refine blk_drew ?_ | refine blk_alloc ?_ _)); refine blk_far ?_ NB205_211.out _; (with_reducible repeat (first | refine blk_drewN ?_ _ | refine blk_drew ?_ | refine blk_alloc ?_ _)); exact BK205.out⟩, ⟨by repeat (first | (with_reducible first | exact HB.out | apply below_alloc | apply pw_below_drewN | apply below_drew1 | refine below_set ?_ GE200.out | refine below_set ?_ GE205.out | refine below_set ?_ GE211.out) | exact HB.out)⟩⟩
              · rw [if_neg c37] at H
                have c37b0 : (t204 == t210) = false := beq_eq_false_iff_ne.mpr c37
                have c37b1 : (t204 != t210) = true := bne_iff_ne.mpr c37
                obtain rfl := Option.some.inj H
                exact absurd hT_ (by decide)
        case rest =>
          clear HC27
          try clear c1
          try clear c2
          try clear p2
          try clear c3
          try clear c4
          try clear c4b0
          try clear c4b1
          try clear c5
          try clear c7
          try clear c8
          try clear c9
          try clear c10
          try clear c15
          try clear c19
          try clear c19b0
          try clear c20
          try clear c22
          try clear c22b0
          try clear c22b1
          try clear c23
          try clear c25
          try clear c28
          try clear c29
          try clear c29b0
          try clear c30
          try clear c30b0
          try clear c30b1
          try clear c31
          try clear c32
          try clear c33
          try clear c36
          try clear c36b0
          try clear c37
          try clear c37b0
          try clear c37b1
          try clear c38
          try clear c38b0
          try clear c38b1
          try clear c38b2
          try clear c39
          try clear c40
          try clear c40b0
          try clear c40b1
          try clear c40b2
          try clear c41
          try clear c45
          try clear c46
          try clear c50
          try clear c50b0
          try clear c50b1
          try clear c50b2
          try clear c51
          try clear c55
          try clear c56
          try clear hcz12_0
          try clear hcz12_1
          try clear hcz16_0
          try clear hcz16_1
          try clear hcz17_0
          try clear hcz17_1
          try clear hcz21_0
          try clear hcz21_1
          try clear hcz24_0
          try clear hcz24_1
          try clear hcz26_0
          try clear hcz26_1
          try clear hcz34_0
          try clear hcz34_1
          try clear hcz42_0
          try clear hcz42_1
          try clear hcz47_0
          try clear hcz47_1
          try clear hcz48_0
          try clear hcz48_1
          try clear hcz49_0
          try clear hcz49_1
          try clear hcz52_0
          try clear hcz52_1
          try clear hcz57_0
          try clear hcz57_1
          try clear hcz58_0
          try clear hcz58_1
          try clear hcz59_0
          try clear hcz59_1
          try clear hfz12_0
          try clear hfz12_1
          try clear hfz16_0
          try clear hfz16_1
          try clear hfz17_0
          try clear hfz17_1
          try clear hfz21_0
          try clear hfz21_1
          try clear hfz24_0
          try clear hfz24_1
          try clear hfz26_0
          try clear hfz26_1
          try clear hfz34_0
          try clear hfz34_1
          try clear hfz42_0
          try clear hfz42_1
          try clear hfz47_0
          try clear hfz47_1
          try clear hfz48_0
          try clear hfz48_1
          try clear hfz49_0
          try clear hfz49_1
          try clear hfz52_0
          try clear hfz52_1
          try clear hfz57_0
          try clear hfz57_1
          try clear hfz58_0
          try clear hfz58_1
          try clear hfz59_0
          try clear hfz59_1
          try clear p2
          obtain ⟨kq, HA, HJ26, BK200, BK205, HB⟩ := hcut
          cases kq with
          | zero => exact absurd HA.out (by simp [jackstaylaw02_StuffTells.j1])
          | succ kj26 =>
            have H := HA.out
            clear HA
            simp only [jackstaylaw02_StuffTells.j1] at H
            replace H := Option.bind_eq_some_iff.mp H
            obtain ⟨t212, A600, H⟩ := H
            replace H : ((stuff_Take.f kj26 t212).bind fun bt215 => ((jackstayref02_Take.f kj26 l2).bind fun bt219 => ((stuff_Put.f kj26 t212).bind fun t223 => ((jackstayref02_Put.f kj26 l2).bind fun t226 => ((jackstaylow_Same.f kj26 t223 t226).bind fun t229 => (if t229 = true then ((jackstaylow_Same.f kj26 bt215.1 bt219.1).bind fun t230 => (if t230 = true then (if bt215.2 = bt219.2 then ((jackstaylow_Same.f kj26 t212 l2).bind fun t231 => (if t231 = true then ((jackstaylaw02_awake.f kj26).bind fun t232 => (some t232)) else (some false))) else (some false)) else (some false))) else (some false))))))) = some r := H
            have A60 := Aside0.mk A600
            clear A600
            replace H := Option.bind_eq_some_iff.mp H
            obtain ⟨⟨t215, t216⟩, A610, H⟩ := H
            replace H : ((jackstayref02_Take.f kj26 l2).bind fun bt219 => ((stuff_Put.f kj26 t212).bind fun t223 => ((jackstayref02_Put.f kj26 l2).bind fun t226 => ((jackstaylow_Same.f kj26 t223 t226).bind fun t229 => (if t229 = true then ((jackstaylow_Same.f kj26 t215 bt219.1).bind fun t230 => (if t230 = true then (if t216 = bt219.2 then ((jackstaylow_Same.f kj26 t212 l2).bind fun t231 => (if t231 = true then ((jackstaylaw02_awake.f kj26).bind fun t232 => (some t232)) else (some false))) else (some false)) else (some false))) else (some false)))))) = some r := H
            have A61 := Aside0.mk A610
            clear A610
            replace H := Option.bind_eq_some_iff.mp H
            obtain ⟨⟨t219, t220⟩, A620, H⟩ := H
            replace H : ((stuff_Put.f kj26 t212).bind fun t223 => ((jackstayref02_Put.f kj26 l2).bind fun t226 => ((jackstaylow_Same.f kj26 t223 t226).bind fun t229 => (if t229 = true then ((jackstaylow_Same.f kj26 t215 t219).bind fun t230 => (if t230 = true then (if t216 = t220 then ((jackstaylow_Same.f kj26 t212 l2).bind fun t231 => (if t231 = true then ((jackstaylaw02_awake.f kj26).bind fun t232 => (some t232)) else (some false))) else (some false)) else (some false))) else (some false))))) = some r := H
            have A62 := Aside0.mk A620
            clear A620
            replace H := Option.bind_eq_some_iff.mp H
            obtain ⟨t223, A630, H⟩ := H
            replace H : ((jackstayref02_Put.f kj26 l2).bind fun t226 => ((jackstaylow_Same.f kj26 t223 t226).bind fun t229 => (if t229 = true then ((jackstaylow_Same.f kj26 t215 t219).bind fun t230 => (if t230 = true then (if t216 = t220 then ((jackstaylow_Same.f kj26 t212 l2).bind fun t231 => (if t231 = true then ((jackstaylaw02_awake.f kj26).bind fun t232 => (some t232)) else (some false))) else (some false)) else (some false))) else (some false)))) = some r := H
            have A63 := Aside0.mk A630
            clear A630
            replace H := Option.bind_eq_some_iff.mp H
            obtain ⟨t226, A640, H⟩ := H
            replace H : ((jackstaylow_Same.f kj26 t223 t226).bind fun t229 => (if t229 = true then ((jackstaylow_Same.f kj26 t215 t219).bind fun t230 => (if t230 = true then (if t216 = t220 then ((jackstaylow_Same.f kj26 t212 l2).bind fun t231 => (if t231 = true then ((jackstaylaw02_awake.f kj26).bind fun t232 => (some t232)) else (some false))) else (some false)) else (some false))) else (some false))) = some r := H
            have A64 := Aside0.mk A640
            clear A640
            replace H := Option.bind_eq_some_iff.mp H
            obtain ⟨t229, A650, H⟩ := H
            replace H : (if t229 = true then ((jackstaylow_Same.f kj26 t215 t219).bind fun t230 => (if t230 = true then (if t216 = t220 then ((jackstaylow_Same.f kj26 t212 l2).bind fun t231 => (if t231 = true then ((jackstaylaw02_awake.f kj26).bind fun t232 => (some t232)) else (some false))) else (some false)) else (some false))) else (some false)) = some r := H
            have A65 := Aside0.mk A650
            clear A650
            by_cases c66 : t229 = true
            · subst c66
              have H1 : ((jackstaylow_Same.f kj26 t215 t219).bind fun t230 => (if t230 = true then (if t216 = t220 then ((jackstaylow_Same.f kj26 t212 l2).bind fun t231 => (if t231 = true then ((jackstaylaw02_awake.f kj26).bind fun t232 => (some t232)) else (some false))) else (some false)) else (some false))) = some r := by rw [if_pos rfl] at H; exact H
              clear H
              have H := H1
              clear H1
              replace H := Option.bind_eq_some_iff.mp H
              obtain ⟨t230, A670, H⟩ := H
              replace H : (if t230 = true then (if t216 = t220 then ((jackstaylow_Same.f kj26 t212 l2).bind fun t231 => (if t231 = true then ((jackstaylaw02_awake.f kj26).bind fun t232 => (some t232)) else (some false))) else (some false)) else (some false)) = some r := H
              have A67 := Aside0.mk A670
              clear A670
              by_cases c68 : t230 = true
              · subst c68
                have H1 : (if t216 = t220 then ((jackstaylow_Same.f kj26 t212 l2).bind fun t231 => (if t231 = true then ((jackstaylaw02_awake.f kj26).bind fun t232 => (some t232)) else (some false))) else (some false)) = some r := by rw [if_pos rfl] at H; exact H
                clear H
                have H := H1
                clear H1
                by_cases c69 : t216 = t220
                · rw [if_pos c69] at H
                  have c69b0 : (t216 == t220) = true := beq_iff_eq.mpr c69
                  have c69b1 : (t216 != t220) = false := bne_eq_false_iff_eq.mpr c69
                  clear c69
                  replace H := Option.bind_eq_some_iff.mp H
                  obtain ⟨t231, A700, H⟩ := H
                  replace H : (if t231 = true then ((jackstaylaw02_awake.f kj26).bind fun t232 => (some t232)) else (some false)) = some r := H
                  have A70 := Aside0.mk A700
                  clear A700
                  by_cases c71 : t231 = true
                  · subst c71
                    have H1 : ((jackstaylaw02_awake.f kj26).bind fun t232 => (some t232)) = some r := by rw [if_pos rfl] at H; exact H
                    clear H
                    have H := H1
                    clear H1
                    replace H := Option.bind_eq_some_iff.mp H
                    obtain ⟨t232, A720, H⟩ := H
                    replace H : (some t232) = some r := H
                    have A72 := Aside0.mk A720
                    clear A720
                    obtain rfl := Option.some.inj H
                    simp only [Option.some.injEq, Prod.mk.injEq] at H
                    obtain ⟨rfl⟩ := H
                    go_wp2_with (first | ((with_reducible refine gate_callee (f := 11) rfl ?_); refine goesL_ (some 90) rfl rfl Try.func11 (by kernel_rfl) rfl #[.slice A2 l2.length c2] rfl (by (try simp only [List.map_toArray, List.map_cons, List.map_nil]); first | done | rfl | (simp only [List.length_drop, List.length_take]; rfl)) ?_; (with_reducible refine (jackstaylow_Anew.calls _ _ l2 t212 _ ?side1 ?side2 A60.out).mono ?_); (case side1 => repeat (first | exact (Kd.C_below HR2.out HB.out) | (with_reducible refine Kd.C_alloc ?_ _) | (with_reducible refine Kd.C_drewN ?_ _) | (with_reducible refine Kd.C_drew ?_))); (case side2 => exact HC2.out); rintro e w73 ⟨v213, rfl, ho0, hb⟩; refine ⟨_, rfl, ?_⟩; have n0_ := Aside0.mk (Kd.R_lower ho0 (below_size (by repeat (first | (with_reducible first | exact HB.out | apply below_alloc | apply pw_below_drewN | apply below_drew1 | refine below_set ?_ GE200.out | refine below_set ?_ GE205.out) | exact HB.out)))); have n1_ := Aside0.mk (blk_below (g := gb200) (o := .cells #[.bool a0_0, .int .u8 a0_1] 23 (0, 0)) (by (with_reducible repeat (first | refine blk_drewN ?_ _ | refine blk_drew ?_ | refine blk_alloc ?_ _)); exact BK200.out) hb); have n2_ := Aside0.mk (blk_below (g := gb205) (o := .cells #[.bool t202, .int .u8 t203] 23 (0, 0)) (by (with_reducible repeat (first | refine blk_drewN ?_ _ | refine blk_drew ?_ | refine blk_alloc ?_ _)); exact BK205.out) hb); have n3_ := Aside0.mk (below_step (by repeat (first | (with_reducible first | exact HB.out | apply below_alloc | apply pw_below_drewN | apply below_drew1 | refine below_set ?_ GE200.out | refine below_set ?_ GE205.out) | exact HB.out)) hb); clear BK200; clear BK205; clear HB; have HO214 := n0_; have BK200 := n1_; have BK205 := n2_; have HB := n3_; clear n0_ n1_ n2_ n3_; (try clear hb); (try clear hb2); (try clear hk); (try clear hi); (try clear ho0); obtain ⟨Ao74, co74, eo74⟩ := Kd.R_slice HO214.out; subst eo74) | ((with_reducible refine gate_callee (f := 12) rfl ?_); refine goesL_ (some 93) rfl rfl Try.func12 (by kernel_rfl) rfl #[.slice Ao74 t212.length co74] rfl (by (try simp only [List.map_toArray, List.map_cons, List.map_nil]); first | done | rfl | (simp only [List.length_drop, List.length_take]; rfl)) ?_; (with_reducible refine (stuff_Take.calls kj26 _ _ t212 t215 t216 _ ?side1 ?side2 A61.out).mono ?_); (case side1 => repeat (first | exact (Kd.R_reads' HO214.out).2.2 | (with_reducible refine Kd.C_alloc ?_ _) | (with_reducible refine Kd.C_drewN ?_ _) | (with_reducible refine Kd.C_drew ?_))); (case side2 => exact (Kd.R_reads' HO214.out).2.1); rintro e w75 ⟨v217, rfl, ho0, hb⟩; refine ⟨_, rfl, ?_⟩; have n0_ := Aside0.mk (Kd.R_elder' (by (with_reducible repeat (first | apply Kd.R_alloc | apply Kd.R_drewN | apply Kd.R_drew)); exact HO214.out) (Kd.R_base ho0) hb); have n1_ := Aside0.mk (Kd.R_lower (Kd.R_new' ho0 (Kd.R_lt (by (with_reducible repeat (first | apply Kd.R_alloc | apply Kd.R_drewN | apply Kd.R_drew)); exact HO214.out))) (below_size (by repeat (first | (with_reducible first | exact HB.out | apply below_alloc | apply pw_below_drewN | apply below_drew1 | refine below_set ?_ GE200.out | refine below_set ?_ GE205.out) | exact HB.out)))); have n2_ := Aside0.mk (blk_below (g := gb200) (o := .cells #[.bool a0_0, .int .u8 a0_1] 23 (0, 0)) (by (with_reducible repeat (first | refine blk_drewN ?_ _ | refine blk_drew ?_ | refine blk_alloc ?_ _)); exact BK200.out) hb); have n3_ := Aside0.mk (blk_below (g := gb205) (o := .cells #[.bool t202, .int .u8 t203] 23 (0, 0)) (by (with_reducible repeat (first | refine blk_drewN ?_ _ | refine blk_drew ?_ | refine blk_alloc ?_ _)); exact BK205.out) hb); have n4_ := Aside0.mk (below_step (by repeat (first | (with_reducible first | exact HB.out | apply below_alloc | apply pw_below_drewN | apply below_drew1 | refine below_set ?_ GE200.out | refine below_set ?_ GE205.out) | exact HB.out)) hb); clear HO214; clear BK200; clear BK205; clear HB; have HO214 := n0_; have HO218 := n1_; have BK200 := n2_; have BK205 := n3_; have HB := n4_; clear n0_ n1_ n2_ n3_ n4_; (try clear hb); (try clear hb2); (try clear hk); (try clear hi); (try clear ho0)) | ((with_reducible refine gate_callee (f := 13) rfl ?_); refine goesL_ (some 98) rfl rfl Try.func13 (by kernel_rfl) rfl #[.slice A2 l2.length c2] rfl (by (try simp only [List.map_toArray, List.map_cons, List.map_nil]); first | done | rfl | (simp only [List.length_drop, List.length_take]; rfl)) ?_; (with_reducible refine (jackstayref02_Take.calls kj26 _ _ l2 t219 t220 _ ?side1 ?side2 A62.out).mono ?_); (case side1 => repeat (first | exact (Kd.C_below HR2.out HB.out) | (with_reducible refine Kd.C_alloc ?_ _) | (with_reducible refine Kd.C_drewN ?_ _) | (with_reducible refine Kd.C_drew ?_))); (case side2 => exact HC2.out); rintro e w76 ⟨v221, rfl, ho0, hb⟩; refine ⟨_, rfl, ?_⟩; have n0_ := Aside0.mk (Kd.R_elder' (by (with_reducible repeat (first | apply Kd.R_alloc | apply Kd.R_drewN | apply Kd.R_drew)); exact HO214.out) (Kd.R_base ho0) hb); have n1_ := Aside0.mk (Kd.R_elder' (by (with_reducible repeat (first | apply Kd.R_alloc | apply Kd.R_drewN | apply Kd.R_drew)); exact HO218.out) (Kd.R_base ho0) hb); have n2_ := Aside0.mk (Kd.R_lower (Kd.R_new' (Kd.R_new' ho0 (Kd.R_lt (by (with_reducible repeat (first | apply Kd.R_alloc | apply Kd.R_drewN | apply Kd.R_drew)); exact HO214.out))) (Kd.R_lt (by (with_reducible repeat (first | apply Kd.R_alloc | apply Kd.R_drewN | apply Kd.R_drew)); exact HO218.out))) (below_size (by repeat (first | (with_reducible first | exact HB.out | apply below_alloc | apply pw_below_drewN | apply below_drew1 | refine below_set ?_ GE200.out | refine below_set ?_ GE205.out) | exact HB.out)))); have n3_ := Aside0.mk (blk_below (g := gb200) (o := .cells #[.bool a0_0, .int .u8 a0_1] 23 (0, 0)) (by (with_reducible repeat (first | refine blk_drewN ?_ _ | refine blk_drew ?_ | refine blk_alloc ?_ _)); exact BK200.out) hb); have n4_ := Aside0.mk (blk_below (g := gb205) (o := .cells #[.bool t202, .int .u8 t203] 23 (0, 0)) (by (with_reducible repeat (first | refine blk_drewN ?_ _ | refine blk_drew ?_ | refine blk_alloc ?_ _)); exact BK205.out) hb); have n5_ := Aside0.mk (below_step (by repeat (first | (with_reducible first | exact HB.out | apply below_alloc | apply pw_below_drewN | apply below_drew1 | refine below_set ?_ GE200.out | refine below_set ?_ GE205.out) | exact HB.out)) hb); clear HO214; clear HO218; clear BK200; clear BK205; clear HB; have HO214 := n0_; have HO218 := n1_; have HO222 := n2_; have BK200 := n3_; have BK205 := n4_; have HB := n5_; clear n0_ n1_ n2_ n3_ n4_ n5_; (try clear hb); (try clear hb2); (try clear hk); (try clear hi); (try clear ho0)) | ((with_reducible refine gate_callee (f := 15) rfl ?_); refine goesL_ (some 102) rfl rfl Try.func15 (by kernel_rfl) rfl #[.slice Ao74 t212.length co74] rfl (by (try simp only [List.map_toArray, List.map_cons, List.map_nil]); first | done | rfl | (simp only [List.length_drop, List.length_take]; rfl)) ?_; (with_reducible refine (stuff_Put.calls kj26 _ _ t212 t223 _ ?side1 ?side2 A63.out).mono ?_); (case side1 => repeat (first | exact (Kd.R_reads' HO214.out).2.2 | (with_reducible refine Kd.C_alloc ?_ _) | (with_reducible refine Kd.C_drewN ?_ _) | (with_reducible refine Kd.C_drew ?_))); (case side2 => exact (Kd.R_reads' HO214.out).2.1); rintro e w77 ⟨v224, rfl, ho0, hb⟩; refine ⟨_, rfl, ?_⟩; have n0_ := Aside0.mk (Kd.R_elder' (by (with_reducible repeat (first | apply Kd.R_alloc | apply Kd.R_drewN | apply Kd.R_drew)); exact HO214.out) (Kd.R_base ho0) hb); have n1_ := Aside0.mk (Kd.R_elder' (by (with_reducible repeat (first | apply Kd.R_alloc | apply Kd.R_drewN | apply Kd.R_drew)); exact HO218.out) (Kd.R_base ho0) hb); have n2_ := Aside0.mk (Kd.R_elder' (by (with_reducible repeat (first | apply Kd.R_alloc | apply Kd.R_drewN | apply Kd.R_drew)); exact HO222.out) (Kd.R_base ho0) hb); have n3_ := Aside0.mk (Kd.R_lower (Kd.R_new' (Kd.R_new' (Kd.R_new' ho0 (Kd.R_lt (by (with_reducible repeat (first | apply Kd.R_alloc | apply Kd.R_drewN | apply Kd.R_drew)); exact HO214.out))) (Kd.R_lt (by (with_reducible repeat (first | apply Kd.R_alloc | apply Kd.R_drewN | apply Kd.R_drew)); exact HO218.out))) (Kd.R_lt (by (with_reducible repeat (first | apply Kd.R_alloc | apply Kd.R_drewN | apply Kd.R_drew)); exact HO222.out))) (below_size (by repeat (first | (with_reducible first | exact HB.out | apply below_alloc | apply pw_below_drewN | apply below_drew1 | refine below_set ?_ GE200.out | refine below_set ?_ GE205.out) | exact HB.out)))); have n4_ := Aside0.mk (blk_below (g := gb200) (o := .cells #[.bool a0_0, .int .u8 a0_1] 23 (0, 0)) (by (with_reducible repeat (first | refine blk_drewN ?_ _ | refine blk_drew ?_ | refine blk_alloc ?_ _)); exact BK200.out) hb); have n5_ := Aside0.mk (blk_below (g := gb205) (o := .cells #[.bool t202, .int .u8 t203] 23 (0, 0)) (by (with_reducible repeat (first | refine blk_drewN ?_ _ | refine blk_drew ?_ | refine blk_alloc ?_ _)); exact BK205.out) hb); have n6_ := Aside0.mk (below_step (by repeat (first | (with_reducible first | exact HB.out | apply below_alloc | apply pw_below_drewN | apply below_drew1 | refine below_set ?_ GE200.out | refine below_set ?_ GE205.out) | exact HB.out)) hb); clear HO214; clear HO218; clear HO222; clear BK200; clear BK205; clear HB; have HO214 := n0_; have HO218 := n1_; have HO222 := n2_; have HO225 := n3_; have BK200 := n4_; have BK205 := n5_; have HB := n6_; clear n0_ n1_ n2_ n3_ n4_ n5_ n6_; (try clear hb); (try clear hb2); (try clear hk); (try clear hi); (try clear ho0)) | ((with_reducible refine gate_callee (f := 16) rfl ?_); refine goesL_ (some 104) rfl rfl Try.func16 (by kernel_rfl) rfl #[.slice A2 l2.length c2] rfl (by (try simp only [List.map_toArray, List.map_cons, List.map_nil]); first | done | rfl | (simp only [List.length_drop, List.length_take]; rfl)) ?_; (with_reducible refine (jackstayref02_Put.calls kj26 _ _ l2 t226 _ ?side1 ?side2 A64.out).mono ?_); (case side1 => repeat (first | exact (Kd.C_below HR2.out HB.out) | (with_reducible refine Kd.C_alloc ?_ _) | (with_reducible refine Kd.C_drewN ?_ _) | (with_reducible refine Kd.C_drew ?_))); (case side2 => exact HC2.out); rintro e w78 ⟨v227, rfl, ho0, hb⟩; refine ⟨_, rfl, ?_⟩; have n0_ := Aside0.mk (Kd.R_elder' (by (with_reducible repeat (first | apply Kd.R_alloc | apply Kd.R_drewN | apply Kd.R_drew)); exact HO214.out) (Kd.R_base ho0) hb); have n1_ := Aside0.mk (Kd.R_elder' (by (with_reducible repeat (first | apply Kd.R_alloc | apply Kd.R_drewN | apply Kd.R_drew)); exact HO218.out) (Kd.R_base ho0) hb); have n2_ := Aside0.mk (Kd.R_elder' (by (with_reducible repeat (first | apply Kd.R_alloc | apply Kd.R_drewN | apply Kd.R_drew)); exact HO222.out) (Kd.R_base ho0) hb); have n3_ := Aside0.mk (Kd.R_elder' (by (with_reducible repeat (first | apply Kd.R_alloc | apply Kd.R_drewN | apply Kd.R_drew)); exact HO225.out) (Kd.R_base ho0) hb); have n4_ := Aside0.mk (Kd.R_lower (Kd.R_new' (Kd.R_new' (Kd.R_new' (Kd.R_new' ho0 (Kd.R_lt (by (with_reducible repeat (first | apply Kd.R_alloc | apply Kd.R_drewN | apply Kd.R_drew)); exact HO214.out))) (Kd.R_lt (by (with_reducible repeat (first | apply Kd.R_alloc | apply Kd.R_drewN | apply Kd.R_drew)); exact HO218.out))) (Kd.R_lt (by (with_reducible repeat (first | apply Kd.R_alloc | apply Kd.R_drewN | apply Kd.R_drew)); exact HO222.out))) (Kd.R_lt (by (with_reducible repeat (first | apply Kd.R_alloc | apply Kd.R_drewN | apply Kd.R_drew)); exact HO225.out))) (below_size (by repeat (first | (with_reducible first | exact HB.out | apply below_alloc | apply pw_below_drewN | apply below_drew1 | refine below_set ?_ GE200.out | refine below_set ?_ GE205.out) | exact HB.out)))); have n5_ := Aside0.mk (blk_below (g := gb200) (o := .cells #[.bool a0_0, .int .u8 a0_1] 23 (0, 0)) (by (with_reducible repeat (first | refine blk_drewN ?_ _ | refine blk_drew ?_ | refine blk_alloc ?_ _)); exact BK200.out) hb); have n6_ := Aside0.mk (blk_below (g := gb205) (o := .cells #[.bool t202, .int .u8 t203] 23 (0, 0)) (by (with_reducible repeat (first | refine blk_drewN ?_ _ | refine blk_drew ?_ | refine blk_alloc ?_ _)); exact BK205.out) hb); have n7_ := Aside0.mk (below_step (by repeat (first | (with_reducible first | exact HB.out | apply below_alloc | apply pw_below_drewN | apply below_drew1 | refine below_set ?_ GE200.out | refine below_set ?_ GE205.out) | exact HB.out)) hb); clear HO214; clear HO218; clear HO222; clear HO225; clear BK200; clear BK205; clear HB; have HO214 := n0_; have HO218 := n1_; have HO222 := n2_; have HO225 := n3_; have HO228 := n4_; have BK200 := n5_; have BK205 := n6_; have HB := n7_; clear n0_ n1_ n2_ n3_ n4_ n5_ n6_ n7_; (try clear hb); (try clear hb2); (try clear hk); (try clear hi); (try clear ho0); obtain ⟨Ao79, co79, eo79⟩ := Kd.R_slice HO225.out; subst eo79; obtain ⟨Ao80, co80, eo80⟩ := Kd.R_slice HO228.out; subst eo80) | ((with_reducible refine gate_callee (f := 14) rfl ?_); refine goesL_ (some 105) rfl rfl Try.func14 (by kernel_rfl) rfl #[.slice Ao79 t223.length co79, .slice Ao80 t226.length co80] rfl (by (try simp only [List.map_toArray, List.map_cons, List.map_nil]); first | done | rfl | (simp only [List.length_drop, List.length_take]; rfl)) ?_; (with_reducible refine (jackstaylow_Same.calls kj26 _ _ t223 _ _ t226 true _ ?side1 ?side2 ?side3 ?side4 A65.out).mono ?_); (case side1 => repeat (first | exact (Kd.R_reads' HO225.out).2.2 | (with_reducible refine Kd.C_alloc ?_ _) | (with_reducible refine Kd.C_drewN ?_ _) | (with_reducible refine Kd.C_drew ?_))); (case side2 => exact (Kd.R_reads' HO225.out).2.1); (case side3 => repeat (first | exact (Kd.R_reads' HO228.out).2.2 | (with_reducible refine Kd.C_alloc ?_ _) | (with_reducible refine Kd.C_drewN ?_ _) | (with_reducible refine Kd.C_drew ?_))); (case side4 => exact (Kd.R_reads' HO228.out).2.1); rintro e w' ⟨rfl, ⟨nd, rfl⟩⟩; refine ⟨_, rfl, ?_⟩; obtain ⟨Ao81, co81, eo81⟩ := Kd.R_slice HO218.out; subst eo81; obtain ⟨Ao82, co82, eo82⟩ := Kd.R_slice HO222.out; subst eo82) | (go_at_call 14; (with_reducible refine (jackstaylow_Same.calls kj26 _ _ t215 _ _ t219 true _ ?side1 ?side2 ?side3 ?side4 A67.out).mono ?_); (case side1 => repeat (first | exact (Kd.R_reads' HO218.out).2.2 | (with_reducible refine Kd.C_alloc ?_ _) | (with_reducible refine Kd.C_drewN ?_ _) | (with_reducible refine Kd.C_drew ?_))); (case side2 => exact (Kd.R_reads' HO218.out).2.1); (case side3 => repeat (first | exact (Kd.R_reads' HO222.out).2.2 | (with_reducible refine Kd.C_alloc ?_ _) | (with_reducible refine Kd.C_drewN ?_ _) | (with_reducible refine Kd.C_drew ?_))); (case side4 => exact (Kd.R_reads' HO222.out).2.1); rintro e w' ⟨rfl, ⟨nd, rfl⟩⟩) | (go_at_call 14; (with_reducible refine (jackstaylow_Same.calls kj26 _ _ t212 _ _ l2 true _ ?side1 ?side2 ?side3 ?side4 A70.out).mono ?_); (case side1 => repeat (first | exact (Kd.R_reads' HO214.out).2.2 | (with_reducible refine Kd.C_alloc ?_ _) | (with_reducible refine Kd.C_drewN ?_ _) | (with_reducible refine Kd.C_drew ?_))); (case side2 => exact (Kd.R_reads' HO214.out).2.1); (case side3 => repeat (first | exact (Kd.C_below HR2.out (by repeat (first | (with_reducible first | exact HB.out | apply below_alloc | apply pw_below_drewN | apply below_drew1 | refine below_set ?_ GE200.out | refine below_set ?_ GE205.out) | exact HB.out))) | (with_reducible refine Kd.C_alloc ?_ _) | (with_reducible refine Kd.C_drewN ?_ _) | (with_reducible refine Kd.C_drew ?_))); (case side4 => exact HC2.out); rintro e w' ⟨rfl, ⟨nd, rfl⟩⟩) | (go_at_call 7; (with_reducible refine (jackstaylaw02_awake.calls kj26  t232 _ A72.out).mono ?_); rintro e w83 ⟨rfl, hb⟩; have n0_ := Aside0.mk (Kd.R_below (by (with_reducible repeat (first | apply Kd.R_alloc | apply Kd.R_drewN | apply Kd.R_drew)); exact HO214.out) hb); have n1_ := Aside0.mk (Kd.R_below (by (with_reducible repeat (first | apply Kd.R_alloc | apply Kd.R_drewN | apply Kd.R_drew)); exact HO218.out) hb); have n2_ := Aside0.mk (Kd.R_below (by (with_reducible repeat (first | apply Kd.R_alloc | apply Kd.R_drewN | apply Kd.R_drew)); exact HO222.out) hb); have n3_ := Aside0.mk (Kd.R_below (by (with_reducible repeat (first | apply Kd.R_alloc | apply Kd.R_drewN | apply Kd.R_drew)); exact HO225.out) hb); have n4_ := Aside0.mk (Kd.R_below (by (with_reducible repeat (first | apply Kd.R_alloc | apply Kd.R_drewN | apply Kd.R_drew)); exact HO228.out) hb); have n5_ := Aside0.mk (blk_below (g := gb200) (o := .cells #[.bool a0_0, .int .u8 a0_1] 23 (0, 0)) (by (with_reducible repeat (first | refine blk_drewN ?_ _ | refine blk_drew ?_ | refine blk_alloc ?_ _)); exact BK200.out) hb); have n6_ := Aside0.mk (blk_below (g := gb205) (o := .cells #[.bool t202, .int .u8 t203] 23 (0, 0)) (by (with_reducible repeat (first | refine blk_drewN ?_ _ | refine blk_drew ?_ | refine blk_alloc ?_ _)); exact BK205.out) hb); have n7_ := Aside0.mk (below_step (by repeat (first | (with_reducible first | exact HB.out | apply below_alloc | apply pw_below_drewN | apply below_drew1 | refine below_set ?_ GE200.out | refine below_set ?_ GE205.out) | exact HB.out)) hb); clear HO214; clear HO218; clear HO222; clear HO225; clear HO228; clear BK200; clear BK205; clear HB; have HO214 := n0_; have HO218 := n1_; have HO222 := n2_; have HO225 := n3_; have HO228 := n4_; have BK200 := n5_; have BK205 := n6_; have HB := n7_; clear n0_ n1_ n2_ n3_ n4_ n5_ n6_ n7_; (try clear hb); (try clear hb2); (try clear hk); (try clear hi)))
                    go_ret
                    exact ⟨by first | rfl | (simp [errW_none, errW_some] <;> rfl) | (simp [*, errW_none, errW_some] <;> rfl), by repeat (first | (with_reducible first | exact HB.out | apply below_alloc | apply pw_below_drewN | apply below_drew1 | refine below_set ?_ GE200.out | refine below_set ?_ GE205.out) | exact HB.out)⟩
                  · replace c71 := Bool.eq_false_iff.mpr c71
                    subst c71
                    have H1 : (some false) = some r := by rw [if_neg (show ¬ (false = true) by decide)] at H; exact H
                    clear H
                    have H := H1
                    clear H1
                    obtain rfl := Option.some.inj H
                    exact absurd hT_ (by decide)
                · rw [if_neg c69] at H
                  have c69b0 : (t216 == t220) = false := beq_eq_false_iff_ne.mpr c69
                  have c69b1 : (t216 != t220) = true := bne_iff_ne.mpr c69
                  obtain rfl := Option.some.inj H
                  exact absurd hT_ (by decide)
              · replace c68 := Bool.eq_false_iff.mpr c68
                subst c68
                have H1 : (some false) = some r := by rw [if_neg (show ¬ (false = true) by decide)] at H; exact H
                clear H
                have H := H1
                clear H1
                obtain rfl := Option.some.inj H
                exact absurd hT_ (by decide)
            · replace c66 := Bool.eq_false_iff.mpr c66
              subst c66
              have H1 : (some false) = some r := by rw [if_neg (show ¬ (false = true) by decide)] at H; exact H
              clear H
              have H := H1
              clear H1
              obtain rfl := Option.some.inj H
              exact absurd hT_ (by decide)

end Go.Proofs.Ytjpnkapjnnighaa.P
