/- What Go functions of this seat answer: their contracts, printed by a program of this session's; Lean checks each. -/
import Derived.Test.YtgpdcgbohodfoaaPx0
import Derived.Test.YtgpdcgbohodfoaaPx3
import Derived.Test.YtgpdcgbohodfoaaPx5
namespace Go.Proofs.Ytgpdcgbohodfoaa.P
open Go.RowKit Go.Proofs.YtgpdcgbohodfoaaW.PrintWords Go.Proofs.YtgpdcgbohodfoaaW.PrintLast Go.Proofs.YtgpdcgbohodfoaaW.PrintMore
attribute [local go_sem] max2_int min2_int max_two min_two max_three min_three max_four min_four   -- for this text's walks alone
set_option linter.unusedVariables false
set_option linter.unusedSimpArgs false

/-! ### jackstaylaw06_ConfMerges: function 9 -/
def jackstaylaw06_ConfMerges.l0 : Nat → List Int → Int → Int → Int → Int → Bool → Int → Int → Int → Int → Bool → Int → Int → Int → Int → Bool → Int → Int → Int → Int → Bool → Int → Int → Option (Bool)
  | 0, _, _, _, _, _, _, _, _, _, _, _, _, _, _, _, _, _, _, _, _, _, _, _ => none
  | k + 1, x23, x24, x25, x331000, x331001, x331002, x331003, x331004, x338000, x338001, x338002, x338003, x338004, x339000, x339001, x339002, x339003, x339004, x340000, x340001, x340002, x340003, x340004 => if x25 < x24 then (if 0 ≤ x25 then (if x25 < (x23.length : Int) then ((conf_Event.f k x338000 x338001 x338002 x338003 x338004 ((1 + (Int.tmod (rd x23 x25) 9)) % 256)).bind fun bt343 => ((jackstaylaw06_ConfMerges_1.f ((1 + (Int.tmod (rd x23 x25) 9)) % 256)).bind fun t349 => (if t349 = true then ((conf_Event.f k x339000 x339001 x339002 x339003 x339004 ((1 + (Int.tmod (rd x23 x25) 9)) % 256)).bind fun bt350 => (if bt343.2.2.1 = true then (if (bt343.2.2.1 == bt350.2.2.1) = true then (if bt343.1 = bt350.1 then ((jackstaylaw06_awake.f k).bind fun t356 => (some t356)) else (some false)) else (some false)) else (if bt350.2.2.1 = true then (if (bt343.2.2.1 == bt350.2.2.1) = true then (if bt343.1 = bt350.1 then ((jackstaylaw06_awake.f k).bind fun t357 => (some t357)) else (some false)) else (some false)) else (jackstaylaw06_ConfMerges.l0 k x23 x24 (wrap64 (x25 + 1)) x331000 x331001 x331002 x331003 x331004 bt343.1 bt343.2.1 bt343.2.2.1 bt343.2.2.2.1 bt343.2.2.2.2.1 bt350.1 bt350.2.1 bt350.2.2.1 bt350.2.2.2.1 bt350.2.2.2.2.1 x340000 x340001 x340002 x340003 x340004)))) else ((conf_Event.f k x340000 x340001 x340002 x340003 x340004 ((1 + (Int.tmod (rd x23 x25) 9)) % 256)).bind fun bt358 => (if bt343.2.2.1 = true then (if (bt343.2.2.1 == x339002) = true then (if bt343.1 = x339000 then ((jackstaylaw06_awake.f k).bind fun t364 => (some t364)) else (some false)) else (some false)) else (if x339002 = true then (if (bt343.2.2.1 == x339002) = true then (if bt343.1 = x339000 then ((jackstaylaw06_awake.f k).bind fun t365 => (some t365)) else (some false)) else (some false)) else (jackstaylaw06_ConfMerges.l0 k x23 x24 (wrap64 (x25 + 1)) x331000 x331001 x331002 x331003 x331004 bt343.1 bt343.2.1 bt343.2.2.1 bt343.2.2.2.1 bt343.2.2.2.2.1 x339000 x339001 x339002 x339003 x339004 bt358.1 bt358.2.1 bt358.2.2.1 bt358.2.2.2.1 bt358.2.2.2.2.1))))))) else (none)) else (none)) else (if x338000 = x339000 then (if x338001 = x340001 then (if x339001 = x331001 then (if x340000 = x331000 then ((jackstaylaw06_awake.f k).bind fun t341 => (some t341)) else (some false)) else (some false)) else (some false)) else (some false))
def jackstaylaw06_ConfMerges.f (k : Nat) (a0_0 : Int) (a0_1 : Int) (a0_2 : Bool) (a0_3 : Int) (a0_4 : Int) (l1 : List Int) : Option (Bool) := (jackstaylaw06_begun.f a0_0 a0_1 a0_2 a0_3 a0_4).bind fun bt331 => (if bt331.2.2.1 = true then ((jackstaylaw06_awake.f k).bind fun t336 => (some t336)) else (if 0 ≤ (mn (l1.length : Int) 60) then (if (mn (l1.length : Int) 60) ≤ (l1.length : Int) then (jackstaylaw06_ConfMerges.l0 k (l1.take ((mn (l1.length : Int) 60) : Int).toNat) ((l1.take ((mn (l1.length : Int) 60) : Int).toNat).length : Int) 0 bt331.1 bt331.2.1 bt331.2.2.1 bt331.2.2.2.1 bt331.2.2.2.2 bt331.1 bt331.2.1 bt331.2.2.1 bt331.2.2.2.1 bt331.2.2.2.2 bt331.1 bt331.2.1 bt331.2.2.1 bt331.2.2.2.1 bt331.2.2.2.2 bt331.1 bt331.2.1 bt331.2.2.1 bt331.2.2.2.1 bt331.2.2.2.2) else (none)) else (none)))
theorem jackstaylaw06_ConfMerges.mono_l : ∀ k, (∀ y0 y1 y2 y3 y4 y5 y6 y7 y8 y9 y10 y11 y12 y13 y14 y15 y16 y17 y18 y19 y20 y21 y22, LeO (jackstaylaw06_ConfMerges.l0 k y0 y1 y2 y3 y4 y5 y6 y7 y8 y9 y10 y11 y12 y13 y14 y15 y16 y17 y18 y19 y20 y21 y22) (jackstaylaw06_ConfMerges.l0 (k + 1) y0 y1 y2 y3 y4 y5 y6 y7 y8 y9 y10 y11 y12 y13 y14 y15 y16 y17 y18 y19 y20 y21 y22))
  | 0 => fun _ _ _ _ _ _ _ _ _ _ _ _ _ _ _ _ _ _ _ _ _ _ _ r h => by simp [jackstaylaw06_ConfMerges.l0] at h
  | k + 1 => by
    have ih0 := jackstaylaw06_ConfMerges.mono_l k
    · intro y0 y1 y2 y3 y4 y5 y6 y7 y8 y9 y10 y11 y12 y13 y14 y15 y16 y17 y18 y19 y20 y21 y22
      unfold jackstaylaw06_ConfMerges.l0
      repeat' first
      | (with_reducible exact ih0 _ _ _ _ _ _ _ _ _ _ _ _ _ _ _ _ _ _ _ _ _ _ _)
      | (with_reducible exact conf_Event.mono _ _ _ _ _ _ _)
      | (with_reducible exact jackstaylaw06_awake.mono _)
      | (with_reducible exact LeO.refl _)
      | (with_reducible exact LeO.none _)
      | (with_reducible refine LeO.ite ?_ ?_)
      | (with_reducible refine LeO.bind ?_ (fun _ => ?_))
      | exact ih0 _ _ _ _ _ _ _ _ _ _ _ _ _ _ _ _ _ _ _ _ _ _ _
      | exact conf_Event.mono _ _ _ _ _ _ _
      | exact jackstaylaw06_awake.mono _
      | exact LeO.none _
      | refine LeO.ite ?_ ?_
      | refine LeO.bind ?_ (fun _ => ?_)
theorem jackstaylaw06_ConfMerges.mono : ∀ a0 a1 a2 a3 a4 a5 k, LeO (jackstaylaw06_ConfMerges.f k a0 a1 a2 a3 a4 a5) (jackstaylaw06_ConfMerges.f (k + 1) a0 a1 a2 a3 a4 a5) := by
  intro a0 a1 a2 a3 a4 a5 k
  have ih0 := jackstaylaw06_ConfMerges.mono_l k
  unfold jackstaylaw06_ConfMerges.f
  repeat' first
      | (with_reducible exact ih0 _ _ _ _ _ _ _ _ _ _ _ _ _ _ _ _ _ _ _ _ _ _ _)
      | (with_reducible exact conf_Event.mono _ _ _ _ _ _ _)
      | (with_reducible exact jackstaylaw06_awake.mono _)
      | (with_reducible exact LeO.refl _)
      | (with_reducible exact LeO.none _)
      | (with_reducible refine LeO.ite ?_ ?_)
      | (with_reducible refine LeO.bind ?_ (fun _ => ?_))
      | exact ih0 _ _ _ _ _ _ _ _ _ _ _ _ _ _ _ _ _ _ _ _ _ _ _
      | exact conf_Event.mono _ _ _ _ _ _ _
      | exact jackstaylaw06_awake.mono _
      | exact LeO.none _
      | refine LeO.ite ?_ ?_
      | refine LeO.bind ?_ (fun _ => ?_)
def jackstaylaw06_ConfMerges.T5 : Bool × List (List Nat × List Nat) := (true, [([], []), ([], []), ([], []), ([], []), ([], []), ([], []), ([3, 0, 0, 3, 4, 5], [0, 3]), ([4, 1, 6, 0, 1, 3, 4, 5, 6], [1, 4]), ([5, 2, 7, 0, 1, 2, 3, 4, 5, 6, 7], [2, 5])])
def jackstaylaw06_ConfMerges.B5 : List Nat := [0, 0, 0, 0, 0, 0, 57, 123, 255]
theorem jackstaylaw06_ConfMerges.tab5 : rtab .any (opsOf Try.f9 5) = jackstaylaw06_ConfMerges.T5 := by kernel_rfl
theorem jackstaylaw06_ConfMerges.bits5 : waitsOk jackstaylaw06_ConfMerges.T5.2 jackstaylaw06_ConfMerges.B5 = true := by kernel_rfl
set_option maxHeartbeats 8000000 in
set_option maxRecDepth 100000 in
theorem jackstaylaw06_ConfMerges.calls (k : Nat) (a0_0 : Int) (a0_1 : Int) (a0_2 : Bool) (a0_3 : Int) (a0_4 : Int) (A1 : Option Addr) (c1 : Nat) (l1 : List Int) (r : Bool) (w : World) (hr1 : Kd.C (Kd.int .u8) w A1 l1.length l1) (hc1 : l1.length ≤ c1) (h : jackstaylaw06_ConfMerges.f k a0_0 a0_1 a0_2 a0_3 a0_4 l1 = some r) (hT_ : r = true) :
    Calls Try.prog 9 #[.agg #[.int .i64 a0_0, .int .i64 a0_1, .bool a0_2, .int .i64 a0_3, .int .i64 a0_4], .slice A1 l1.length c1] w fun e w' => e = .returned (.bool r) ∧ Below w.heap.size w w' := by
  have hu23 := Try.underlying23
  have HR1 := Aside0.mk hr1
  have HC1 := Aside0.mk hc1
  clear hr1 hc1
  have HB := Aside0.mk (Below.refl w.heap.size w)
  have H : ((jackstaylaw06_begun.f a0_0 a0_1 a0_2 a0_3 a0_4).bind fun bt331 => (if bt331.2.2.1 = true then ((jackstaylaw06_awake.f k).bind fun t336 => (some t336)) else (if 0 ≤ (mn (l1.length : Int) 60) then (if (mn (l1.length : Int) 60) ≤ (l1.length : Int) then (jackstaylaw06_ConfMerges.l0 k (l1.take ((mn (l1.length : Int) 60) : Int).toNat) ((l1.take ((mn (l1.length : Int) 60) : Int).toNat).length : Int) 0 bt331.1 bt331.2.1 bt331.2.2.1 bt331.2.2.2.1 bt331.2.2.2.2 bt331.1 bt331.2.1 bt331.2.2.1 bt331.2.2.2.1 bt331.2.2.2.2 bt331.1 bt331.2.1 bt331.2.2.1 bt331.2.2.2.1 bt331.2.2.2.2 bt331.1 bt331.2.1 bt331.2.2.1 bt331.2.2.2.1 bt331.2.2.2.2) else (none)) else (none)))) = some r := h
  clear h
  replace H := Option.bind_eq_some_iff.mp H
  obtain ⟨⟨t331, t332, t333, t334, t335⟩, A30, H⟩ := H
  replace H : (if t333 = true then ((jackstaylaw06_awake.f k).bind fun t336 => (some t336)) else (if 0 ≤ (mn (l1.length : Int) 60) then (if (mn (l1.length : Int) 60) ≤ (l1.length : Int) then (jackstaylaw06_ConfMerges.l0 k (l1.take ((mn (l1.length : Int) 60) : Int).toNat) ((l1.take ((mn (l1.length : Int) 60) : Int).toNat).length : Int) 0 t331 t332 t333 t334 t335 t331 t332 t333 t334 t335 t331 t332 t333 t334 t335 t331 t332 t333 t334 t335) else (none)) else (none))) = some r := H
  have A3 := Aside0.mk A30
  clear A30
  by_cases c4 : t333 = true
  · subst c4
    have H1 : ((jackstaylaw06_awake.f k).bind fun t336 => (some t336)) = some r := by rw [if_pos rfl] at H; exact H
    clear H
    have H := H1
    clear H1
    replace H := Option.bind_eq_some_iff.mp H
    obtain ⟨t336, A50, H⟩ := H
    replace H : (some t336) = some r := H
    have A5 := Aside0.mk A50
    clear A50
    obtain rfl := Option.some.inj H
    simp only [Option.some.injEq, Prod.mk.injEq] at H
    obtain ⟨rfl⟩ := H
    go_enter Try.func9, Try.ntmps9
    go_wp2_with (first | ((with_reducible refine gate_dst (N := 2) rfl ?_); refine box_event ?hg (N := 2) ?hd (cs := #[.int .i64 a0_0, .int .i64 a0_1, .bool a0_2, .int .i64 a0_3, .int .i64 a0_4]) (t := 23) ?hr ?_; (case hd => rfl); (case hg => rfl); (case hr => first | (go_simp; done) | (go_simp; rfl)); intro gb330 hg w6 hbox hb; have n0_ := Aside0.mk (below_step (by repeat (first | (with_reducible first | exact HB.out | apply below_alloc | apply pw_below_drewN | apply below_drew1) | exact HB.out)) hb); have n1_ := Aside0.mk (hbox); have n2_ := Aside0.mk ((by rw [hg]; exact (below_size (by repeat (first | (with_reducible first | exact HB.out | apply below_alloc | apply pw_below_drewN | apply below_drew1) | exact HB.out))) : w.heap.size ≤ gb330)); have n3_ := Aside0.mk ((by rw [hg]; exact (below_size (by repeat (first | (with_reducible first | exact HB.out | apply below_alloc | apply pw_below_drewN | apply below_drew1) | exact HB.out))) : w.heap.size ≤ gb330)); clear HB; have HB := n0_; have BK330 := n1_; have GW330 := n2_; have GE330 := n3_; clear n0_ n1_ n2_ n3_; clear hb hbox hg; have hcz7_0 : w6.cell? ⟨gb330, 0, none⟩ = some (.int .i64 a0_0) := (blk_cell BK330.out 0).trans rfl; have hcz7_1 : w6.cell? ⟨gb330, 1, none⟩ = some (.int .i64 a0_1) := (blk_cell BK330.out 1).trans rfl; have hcz7_2 : w6.cell? ⟨gb330, 2, none⟩ = some (.bool a0_2) := (blk_cell BK330.out 2).trans rfl; have hcz7_3 : w6.cell? ⟨gb330, 3, none⟩ = some (.int .i64 a0_3) := (blk_cell BK330.out 3).trans rfl; have hcz7_4 : w6.cell? ⟨gb330, 4, none⟩ = some (.int .i64 a0_4) := (blk_cell BK330.out 4).trans rfl; have hfz7_0 := blk_frozen BK330.out 0; have hfz7_1 := blk_frozen BK330.out 1; have hfz7_2 := blk_frozen BK330.out 2; have hfz7_3 := blk_frozen BK330.out 3; have hfz7_4 := blk_frozen BK330.out 4) | ((with_reducible refine gate_callee (f := 19) rfl ?_); refine goesL_ (some 12) rfl rfl Try.func19 (by kernel_rfl) rfl #[.agg #[.int .i64 a0_0, .int .i64 a0_1, .bool a0_2, .int .i64 a0_3, .int .i64 a0_4]] rfl (by (try simp only [List.map_toArray, List.map_cons, List.map_nil]); first | done | rfl | (simp only [List.length_drop, List.length_take]; rfl)) ?_; (with_reducible refine (jackstaylaw06_begun.calls a0_0 a0_1 a0_2 a0_3 a0_4 t331 t332 true t334 t335 _ A3.out).mono ?_); rintro e w8 ⟨rfl, hb⟩; refine ⟨_, rfl, ?_⟩; have n0_ := Aside0.mk (blk_below (g := gb330) (o := .cells #[.int .i64 a0_0, .int .i64 a0_1, .bool a0_2, .int .i64 a0_3, .int .i64 a0_4] 23 (0, 0)) (by (with_reducible repeat (first | refine blk_drewN ?_ _ | refine blk_drew ?_ | refine blk_alloc ?_ _)); exact BK330.out) hb); have n1_ := Aside0.mk (below_step (by repeat (first | (with_reducible first | exact HB.out | apply below_alloc | apply pw_below_drewN | apply below_drew1 | refine below_set ?_ GE330.out) | exact HB.out)) hb); clear BK330; clear HB; have BK330 := n0_; have HB := n1_; clear n0_ n1_; (try clear hb); (try clear hb2); (try clear hk); (try clear hi); have hcz9_0 : w8.cell? ⟨gb330, 0, none⟩ = some (.int .i64 a0_0) := (blk_cell BK330.out 0).trans rfl; have hcz9_1 : w8.cell? ⟨gb330, 1, none⟩ = some (.int .i64 a0_1) := (blk_cell BK330.out 1).trans rfl; have hcz9_2 : w8.cell? ⟨gb330, 2, none⟩ = some (.bool a0_2) := (blk_cell BK330.out 2).trans rfl; have hcz9_3 : w8.cell? ⟨gb330, 3, none⟩ = some (.int .i64 a0_3) := (blk_cell BK330.out 3).trans rfl; have hcz9_4 : w8.cell? ⟨gb330, 4, none⟩ = some (.int .i64 a0_4) := (blk_cell BK330.out 4).trans rfl; have hfz9_0 := blk_frozen BK330.out 0; have hfz9_1 := blk_frozen BK330.out 1; have hfz9_2 := blk_frozen BK330.out 2; have hfz9_3 := blk_frozen BK330.out 3; have hfz9_4 := blk_frozen BK330.out 4) | ((with_reducible refine gate_callee (f := 18) rfl ?_); refine goesL_ (some 15) rfl rfl Try.func18 (by kernel_rfl) rfl #[] rfl (by (try simp only [List.map_toArray, List.map_cons, List.map_nil]); first | done | rfl | (simp only [List.length_drop, List.length_take]; rfl)) ?_; (with_reducible refine (jackstaylaw06_awake.calls k  t336 _ A5.out).mono ?_); rintro e w10 ⟨rfl, hb⟩; refine ⟨_, rfl, ?_⟩; have n0_ := Aside0.mk (blk_below (g := gb330) (o := .cells #[.int .i64 t331, .int .i64 t332, .bool true, .int .i64 t334, .int .i64 t335] 23 (0, 0)) (by (with_reducible repeat (first | refine blk_drewN ?_ _ | refine blk_drew ?_ | refine blk_alloc ?_ _)); refine blk_put (cs := #[.int .i64 t331, .int .i64 t332, .bool true, .int .i64 t334, .int .i64 a0_4]) ?_ 4 _ rfl; (with_reducible repeat (first | refine blk_drewN ?_ _ | refine blk_drew ?_ | refine blk_alloc ?_ _)); refine blk_put (cs := #[.int .i64 t331, .int .i64 t332, .bool true, .int .i64 a0_3, .int .i64 a0_4]) ?_ 3 _ rfl; (with_reducible repeat (first | refine blk_drewN ?_ _ | refine blk_drew ?_ | refine blk_alloc ?_ _)); refine blk_put (cs := #[.int .i64 t331, .int .i64 t332, .bool a0_2, .int .i64 a0_3, .int .i64 a0_4]) ?_ 2 _ rfl; (with_reducible repeat (first | refine blk_drewN ?_ _ | refine blk_drew ?_ | refine blk_alloc ?_ _)); refine blk_put (cs := #[.int .i64 t331, .int .i64 a0_1, .bool a0_2, .int .i64 a0_3, .int .i64 a0_4]) ?_ 1 _ rfl; (with_reducible repeat (first | refine blk_drewN ?_ _ | refine blk_drew ?_ | refine blk_alloc ?_ _)); refine blk_put (cs := #[.int .i64 a0_0, .int .i64 a0_1, .bool a0_2, .int .i64 a0_3, .int .i64 a0_4]) ?_ 0 _ rfl; (with_reducible repeat (first | refine blk_drewN ?_ _ | refine blk_drew ?_ | refine blk_alloc ?_ _)); exact BK330.out) hb); have n1_ := Aside0.mk (below_step (by repeat (first | (with_reducible first | exact HB.out | apply below_alloc | apply pw_below_drewN | apply below_drew1 | refine below_set ?_ GE330.out) | exact HB.out)) hb); clear BK330; clear HB; have BK330 := n0_; have HB := n1_; clear n0_ n1_; (try clear hb); (try clear hb2); (try clear hk); (try clear hi)))
    go_ret
    exact ⟨by first | rfl | (simp [errW_none, errW_some] <;> rfl) | (simp [*, errW_none, errW_some] <;> rfl), by repeat (first | (with_reducible first | exact HB.out | apply below_alloc | apply pw_below_drewN | apply below_drew1 | refine below_set ?_ GE330.out) | exact HB.out)⟩
  · replace c4 := Bool.eq_false_iff.mpr c4
    subst c4
    have H1 : (if 0 ≤ (mn (l1.length : Int) 60) then (if (mn (l1.length : Int) 60) ≤ (l1.length : Int) then (jackstaylaw06_ConfMerges.l0 k (l1.take ((mn (l1.length : Int) 60) : Int).toNat) ((l1.take ((mn (l1.length : Int) 60) : Int).toNat).length : Int) 0 t331 t332 false t334 t335 t331 t332 false t334 t335 t331 t332 false t334 t335 t331 t332 false t334 t335) else (none)) else (none)) = some r := by rw [if_neg (show ¬ (false = true) by decide)] at H; exact H
    clear H
    have H := H1
    clear H1
    obtain ⟨ji11, hji11⟩ : ∃ j_ : Int, (mn (l1.length : Int) 60) = j_ := ⟨_, rfl⟩
    replace H : (if 0 ≤ (ji11) then (if (ji11) ≤ (l1.length : Int) then (jackstaylaw06_ConfMerges.l0 k (l1.take ((ji11) : Int).toNat) ((l1.take ((ji11) : Int).toNat).length : Int) 0 t331 t332 false t334 t335 t331 t332 false t334 t335 t331 t332 false t334 t335 t331 t332 false t334 t335) else (none)) else (none)) = some r := by first | (rw [hji11] at H; exact H) | (simp only [hji11] at H ⊢; exact H)
    (try rw [hji11] at A3)
    (try (have hji11h : ji11 ≤ 60 := by (rw [← hji11]; unfold mn; (repeat' split) <;> omega)))
    (try (have hji11g : ji11 ≤ 64 := by omega))
    (try (have hji11l : 0 ≤ ji11 := by (rw [← hji11]; unfold mn; (repeat' split) <;> omega)))
    (try (have hji11m : 0 ≤ ji11 := by omega))
    have hji11_ : (if 60 < (l1.length : Int) then 60 else (l1.length : Int)) = ji11 := hji11
    by_cases c12 : 0 ≤ (ji11)
    · rw [if_pos c12] at H
      have c12b0 := eq_true c12
      have c12b1 : decide (0 ≤ (ji11)) = true := decide_eq_true c12
      clear c12
      by_cases c13 : (ji11) ≤ (l1.length : Int)
      · rw [if_pos c13] at H
        have c13b0 := eq_true c13
        have c13b1 : decide ((ji11) ≤ (l1.length : Int)) = true := decide_eq_true c13
        clear c13
        have H' := Aside0.mk H
        clear H
        go_enter Try.func9, Try.ntmps9
        try go_wp2_with (first | ((with_reducible refine gate_dst (N := 2) rfl ?_); refine box_event ?hg (N := 2) ?hd (cs := #[.int .i64 a0_0, .int .i64 a0_1, .bool a0_2, .int .i64 a0_3, .int .i64 a0_4]) (t := 23) ?hr ?_; (case hd => rfl); (case hg => rfl); (case hr => first | (go_simp; done) | (go_simp; rfl)); intro gb330 hg w14 hbox hb; have n0_ := Aside0.mk (below_step (by repeat (first | (with_reducible first | exact HB.out | apply below_alloc | apply pw_below_drewN | apply below_drew1) | exact HB.out)) hb); have n1_ := Aside0.mk (hbox); have n2_ := Aside0.mk ((by rw [hg]; exact (below_size (by repeat (first | (with_reducible first | exact HB.out | apply below_alloc | apply pw_below_drewN | apply below_drew1) | exact HB.out))) : w.heap.size ≤ gb330)); have n3_ := Aside0.mk ((by rw [hg]; exact (below_size (by repeat (first | (with_reducible first | exact HB.out | apply below_alloc | apply pw_below_drewN | apply below_drew1) | exact HB.out))) : w.heap.size ≤ gb330)); clear HB; have HB := n0_; have BK330 := n1_; have GW330 := n2_; have GE330 := n3_; clear n0_ n1_ n2_ n3_; clear hb hbox hg; have hcz15_0 : w14.cell? ⟨gb330, 0, none⟩ = some (.int .i64 a0_0) := (blk_cell BK330.out 0).trans rfl; have hcz15_1 : w14.cell? ⟨gb330, 1, none⟩ = some (.int .i64 a0_1) := (blk_cell BK330.out 1).trans rfl; have hcz15_2 : w14.cell? ⟨gb330, 2, none⟩ = some (.bool a0_2) := (blk_cell BK330.out 2).trans rfl; have hcz15_3 : w14.cell? ⟨gb330, 3, none⟩ = some (.int .i64 a0_3) := (blk_cell BK330.out 3).trans rfl; have hcz15_4 : w14.cell? ⟨gb330, 4, none⟩ = some (.int .i64 a0_4) := (blk_cell BK330.out 4).trans rfl; have hfz15_0 := blk_frozen BK330.out 0; have hfz15_1 := blk_frozen BK330.out 1; have hfz15_2 := blk_frozen BK330.out 2; have hfz15_3 := blk_frozen BK330.out 3; have hfz15_4 := blk_frozen BK330.out 4) | ((with_reducible refine gate_callee (f := 19) rfl ?_); refine goesL_ (some 12) rfl rfl Try.func19 (by kernel_rfl) rfl #[.agg #[.int .i64 a0_0, .int .i64 a0_1, .bool a0_2, .int .i64 a0_3, .int .i64 a0_4]] rfl (by (try simp only [List.map_toArray, List.map_cons, List.map_nil]); first | done | rfl | (simp only [List.length_drop, List.length_take]; rfl)) ?_; (with_reducible refine (jackstaylaw06_begun.calls a0_0 a0_1 a0_2 a0_3 a0_4 t331 t332 false t334 t335 _ A3.out).mono ?_); rintro e w16 ⟨rfl, hb⟩; refine ⟨_, rfl, ?_⟩; have n0_ := Aside0.mk (blk_below (g := gb330) (o := .cells #[.int .i64 a0_0, .int .i64 a0_1, .bool a0_2, .int .i64 a0_3, .int .i64 a0_4] 23 (0, 0)) (by (with_reducible repeat (first | refine blk_drewN ?_ _ | refine blk_drew ?_ | refine blk_alloc ?_ _)); exact BK330.out) hb); have n1_ := Aside0.mk (below_step (by repeat (first | (with_reducible first | exact HB.out | apply below_alloc | apply pw_below_drewN | apply below_drew1 | refine below_set ?_ GE330.out) | exact HB.out)) hb); clear BK330; clear HB; have BK330 := n0_; have HB := n1_; clear n0_ n1_; (try clear hb); (try clear hb2); (try clear hk); (try clear hi); have hcz17_0 : w16.cell? ⟨gb330, 0, none⟩ = some (.int .i64 a0_0) := (blk_cell BK330.out 0).trans rfl; have hcz17_1 : w16.cell? ⟨gb330, 1, none⟩ = some (.int .i64 a0_1) := (blk_cell BK330.out 1).trans rfl; have hcz17_2 : w16.cell? ⟨gb330, 2, none⟩ = some (.bool a0_2) := (blk_cell BK330.out 2).trans rfl; have hcz17_3 : w16.cell? ⟨gb330, 3, none⟩ = some (.int .i64 a0_3) := (blk_cell BK330.out 3).trans rfl; have hcz17_4 : w16.cell? ⟨gb330, 4, none⟩ = some (.int .i64 a0_4) := (blk_cell BK330.out 4).trans rfl; have hfz17_0 := blk_frozen BK330.out 0; have hfz17_1 := blk_frozen BK330.out 1; have hfz17_2 := blk_frozen BK330.out 2; have hfz17_3 := blk_frozen BK330.out 3; have hfz17_4 := blk_frozen BK330.out 4))
        have n0_ : Aside0 ((((((w16.setCell ⟨gb330, 0, none⟩ (.int .i64 t331)).setCell ⟨gb330, 1, none⟩ (.int .i64 t332)).setCell ⟨gb330, 2, none⟩ (.bool false)).setCell ⟨gb330, 3, none⟩ (.int .i64 t334)).setCell ⟨gb330, 4, none⟩ (.int .i64 t335)).heap[gb330]? = some (.cells #[.int .i64 t331, .int .i64 t332, .bool false, .int .i64 t334, .int .i64 t335] 23 (0, 0))) := ⟨by (with_reducible repeat (first | refine blk_drewN ?_ _ | refine blk_drew ?_ | refine blk_alloc ?_ _)); refine blk_put (cs := #[.int .i64 t331, .int .i64 t332, .bool false, .int .i64 t334, .int .i64 a0_4]) ?_ 4 _ rfl; (with_reducible repeat (first | refine blk_drewN ?_ _ | refine blk_drew ?_ | refine blk_alloc ?_ _)); refine blk_put (cs := #[.int .i64 t331, .int .i64 t332, .bool false, .int .i64 a0_3, .int .i64 a0_4]) ?_ 3 _ rfl; (with_reducible repeat (first | refine blk_drewN ?_ _ | refine blk_drew ?_ | refine blk_alloc ?_ _)); refine blk_put (cs := #[.int .i64 t331, .int .i64 t332, .bool a0_2, .int .i64 a0_3, .int .i64 a0_4]) ?_ 2 _ rfl; (with_reducible repeat (first | refine blk_drewN ?_ _ | refine blk_drew ?_ | refine blk_alloc ?_ _)); refine blk_put (cs := #[.int .i64 t331, .int .i64 a0_1, .bool a0_2, .int .i64 a0_3, .int .i64 a0_4]) ?_ 1 _ rfl; (with_reducible repeat (first | refine blk_drewN ?_ _ | refine blk_drew ?_ | refine blk_alloc ?_ _)); refine blk_put (cs := #[.int .i64 a0_0, .int .i64 a0_1, .bool a0_2, .int .i64 a0_3, .int .i64 a0_4]) ?_ 0 _ rfl; (with_reducible repeat (first | refine blk_drewN ?_ _ | refine blk_drew ?_ | refine blk_alloc ?_ _)); exact BK330.out⟩
        have n1_ : Aside0 (Below w.heap.size w (((((w16.setCell ⟨gb330, 0, none⟩ (.int .i64 t331)).setCell ⟨gb330, 1, none⟩ (.int .i64 t332)).setCell ⟨gb330, 2, none⟩ (.bool false)).setCell ⟨gb330, 3, none⟩ (.int .i64 t334)).setCell ⟨gb330, 4, none⟩ (.int .i64 t335))) := ⟨by repeat (first | (with_reducible first | exact HB.out | apply below_alloc | apply pw_below_drewN | apply below_drew1 | refine below_set ?_ GE330.out) | exact HB.out)⟩
        (try clear BK330)
        (try clear HB)
        generalize (((((w16.setCell ⟨gb330, 0, none⟩ (.int .i64 t331)).setCell ⟨gb330, 1, none⟩ (.int .i64 t332)).setCell ⟨gb330, 2, none⟩ (.bool false)).setCell ⟨gb330, 3, none⟩ (.int .i64 t334)).setCell ⟨gb330, 4, none⟩ (.int .i64 t335)) = w18 at n0_ n1_ ⊢
        have BK330 := n0_
        have HB := n1_
        clear n0_ n1_
        have n0_ := Aside0.mk (blk_drew BK330.out)
        have n1_ := Aside0.mk (below_drew1 HB.out)
        clear BK330
        clear HB
        have BK330 := n0_
        have HB := n1_
        clear n0_ n1_
        refine start_ (n := 9) (S := fun w' => w'.cell? ⟨gb330, 0, none⟩ = some (.int .i64 t331) ∧ w'.cell? ⟨gb330, 1, none⟩ = some (.int .i64 t332) ∧ w'.cell? ⟨gb330, 2, none⟩ = some (.bool false) ∧ w'.cell? ⟨gb330, 3, none⟩ = some (.int .i64 t334) ∧ w'.cell? ⟨gb330, 4, none⟩ = some (.int .i64 t335)) (ds := []) #[false, false, false, false, false, false, false, false, false] (by kernel_rfl) rfl rfl ⟨(blk_cell BK330.out 0).trans rfl, (blk_cell BK330.out 1).trans rfl, (blk_cell BK330.out 2).trans rfl, (blk_cell BK330.out 3).trans rfl, (blk_cell BK330.out 4).trans rfl⟩ (fun hHeld => ?_); refine with_tabW jackstaylaw06_ConfMerges.tab5 jackstaylaw06_ConfMerges.bits5 (fun HT_ HW_ => ?_)
        generalize w18.drew = w19 at BK330 HB hHeld ⊢
        refine take_ (i := 0) (N := some 16) (v := ?_) (a' := ?_) #[true, false, false, false, false, false, false, false, false] rfl rfl (take_ofW HT_.out HW_.out (by kernel_rfl)) (fun _ _ _ h => h) (Or.inl ⟨by rfl, ?_⟩) hHeld ?_ ?_
        rotate_left
        · rintro w' ⟨s0, s1, s2, s3, s4⟩
          go_simp
          with_reducible rfl
        rotate_left
        · simp only [Act.put, List.setIfInBounds_toArray, List.set_cons_zero, List.set_cons_succ, i64_w, i32_w]
          rfl
        refine take_ (i := 1) (N := some 17) (v := ?_) (a' := ?_) #[true, true, false, false, false, false, false, false, false] rfl rfl (take_ofW HT_.out HW_.out (by kernel_rfl)) (fun _ _ _ h => h) (Or.inl ⟨by rfl, ?_⟩) hHeld ?_ ?_
        rotate_left
        · rintro w' ⟨s0, s1, s2, s3, s4⟩
          go_simp
          with_reducible rfl
        rotate_left
        · simp only [Act.put, List.setIfInBounds_toArray, List.set_cons_zero, List.set_cons_succ, i64_w, i32_w]
          rfl
        refine take_ (i := 2) (N := some 18) (v := ?_) (a' := ?_) #[true, true, true, false, false, false, false, false, false] rfl rfl (take_ofW HT_.out HW_.out (by kernel_rfl)) (fun _ _ _ h => h) (Or.inl ⟨by rfl, ?_⟩) hHeld ?_ ?_
        rotate_left
        · rintro w' ⟨s0, s1, s2, s3, s4⟩
          go_simp
          with_reducible rfl
        rotate_left
        · simp only [Act.put, List.setIfInBounds_toArray, List.set_cons_zero, List.set_cons_succ, i64_w, i32_w]
          rfl
        refine join_ (σ := Nat × Nat × Nat) 3 #[true, true, true, true, true, true, false, false, false] (fun s_ => [(6, .pointer (some ⟨s_.1, 0, none⟩)), (7, .pointer (some ⟨s_.2.1, 0, none⟩)), (8, .pointer (some ⟨s_.2.2, 0, none⟩))]) (fun s_ w' => (w'.cell? ⟨gb330, 0, none⟩ = some (.int .i64 t331) ∧ w'.cell? ⟨gb330, 1, none⟩ = some (.int .i64 t332) ∧ w'.cell? ⟨gb330, 2, none⟩ = some (.bool false) ∧ w'.cell? ⟨gb330, 3, none⟩ = some (.int .i64 t334) ∧ w'.cell? ⟨gb330, 4, none⟩ = some (.int .i64 t335)) ∧ (w'.heap[gb330]? = some (.cells #[.int .i64 t331, .int .i64 t332, .bool false, .int .i64 t334, .int .i64 t335] 23 (0, 0))) ∧ (w'.heap[s_.1]? = some (.cells #[.int .i64 0, .int .i64 0, .bool false, .int .i64 0, .int .i64 0] 23 (0, 0))) ∧ (w'.heap[s_.2.1]? = some (.cells #[.int .i64 0, .int .i64 0, .bool false, .int .i64 0, .int .i64 0] 23 (0, 0))) ∧ (w'.heap[s_.2.2]? = some (.cells #[.int .i64 0, .int .i64 0, .bool false, .int .i64 0, .int .i64 0] 23 (0, 0))) ∧ (w.heap.size ≤ s_.1) ∧ (w.heap.size ≤ s_.1) ∧ (gb330 ≠ s_.1) ∧ (s_.1 ≠ gb330) ∧ (s_.2.1 ≠ s_.1) ∧ (s_.1 ≠ s_.2.1) ∧ (s_.2.2 ≠ s_.1) ∧ (s_.1 ≠ s_.2.2) ∧ (w.heap.size ≤ s_.2.1) ∧ (w.heap.size ≤ s_.2.1) ∧ (gb330 ≠ s_.2.1) ∧ (s_.2.1 ≠ gb330) ∧ (s_.2.2 ≠ s_.2.1) ∧ (s_.2.1 ≠ s_.2.2) ∧ (w.heap.size ≤ s_.2.2) ∧ (w.heap.size ≤ s_.2.2) ∧ (gb330 ≠ s_.2.2) ∧ (s_.2.2 ≠ gb330) ∧ (Below w.heap.size w w')) ?_ ?_
        rotate_left
        · intro hJ3_4_5
          refine join_ (σ := Nat × Nat) 4 #[true, true, true, true, true, false, false, false, false] (fun s_ => [(6, .pointer (some ⟨s_.1, 0, none⟩)), (7, .pointer (some ⟨s_.2, 0, none⟩))]) (fun s_ w' => (w'.cell? ⟨gb330, 0, none⟩ = some (.int .i64 t331) ∧ w'.cell? ⟨gb330, 1, none⟩ = some (.int .i64 t332) ∧ w'.cell? ⟨gb330, 2, none⟩ = some (.bool false) ∧ w'.cell? ⟨gb330, 3, none⟩ = some (.int .i64 t334) ∧ w'.cell? ⟨gb330, 4, none⟩ = some (.int .i64 t335)) ∧ (w'.heap[gb330]? = some (.cells #[.int .i64 t331, .int .i64 t332, .bool false, .int .i64 t334, .int .i64 t335] 23 (0, 0))) ∧ (w'.heap[s_.1]? = some (.cells #[.int .i64 0, .int .i64 0, .bool false, .int .i64 0, .int .i64 0] 23 (0, 0))) ∧ (w'.heap[s_.2]? = some (.cells #[.int .i64 0, .int .i64 0, .bool false, .int .i64 0, .int .i64 0] 23 (0, 0))) ∧ (w.heap.size ≤ s_.1) ∧ (w.heap.size ≤ s_.1) ∧ (gb330 ≠ s_.1) ∧ (s_.1 ≠ gb330) ∧ (s_.2 ≠ s_.1) ∧ (s_.1 ≠ s_.2) ∧ (w.heap.size ≤ s_.2) ∧ (w.heap.size ≤ s_.2) ∧ (gb330 ≠ s_.2) ∧ (s_.2 ≠ gb330) ∧ (Below w.heap.size w w')) ?_ ?_
          rotate_left
          · intro hJ3_4
            refine join_ (σ := Nat × Nat) 4 #[true, true, true, true, false, true, false, false, false] (fun s_ => [(6, .pointer (some ⟨s_.1, 0, none⟩)), (8, .pointer (some ⟨s_.2, 0, none⟩))]) (fun s_ w' => (w'.cell? ⟨gb330, 0, none⟩ = some (.int .i64 t331) ∧ w'.cell? ⟨gb330, 1, none⟩ = some (.int .i64 t332) ∧ w'.cell? ⟨gb330, 2, none⟩ = some (.bool false) ∧ w'.cell? ⟨gb330, 3, none⟩ = some (.int .i64 t334) ∧ w'.cell? ⟨gb330, 4, none⟩ = some (.int .i64 t335)) ∧ (w'.heap[gb330]? = some (.cells #[.int .i64 t331, .int .i64 t332, .bool false, .int .i64 t334, .int .i64 t335] 23 (0, 0))) ∧ (w'.heap[s_.1]? = some (.cells #[.int .i64 0, .int .i64 0, .bool false, .int .i64 0, .int .i64 0] 23 (0, 0))) ∧ (w'.heap[s_.2]? = some (.cells #[.int .i64 0, .int .i64 0, .bool false, .int .i64 0, .int .i64 0] 23 (0, 0))) ∧ (w.heap.size ≤ s_.1) ∧ (w.heap.size ≤ s_.1) ∧ (gb330 ≠ s_.1) ∧ (s_.1 ≠ gb330) ∧ (s_.2 ≠ s_.1) ∧ (s_.1 ≠ s_.2) ∧ (w.heap.size ≤ s_.2) ∧ (w.heap.size ≤ s_.2) ∧ (gb330 ≠ s_.2) ∧ (s_.2 ≠ gb330) ∧ (Below w.heap.size w w')) ?_ ?_
            rotate_left
            · intro hJ3_5
              refine join_ (σ := Nat × Nat) 4 #[true, true, true, false, true, true, false, false, false] (fun s_ => [(7, .pointer (some ⟨s_.1, 0, none⟩)), (8, .pointer (some ⟨s_.2, 0, none⟩))]) (fun s_ w' => (w'.cell? ⟨gb330, 0, none⟩ = some (.int .i64 t331) ∧ w'.cell? ⟨gb330, 1, none⟩ = some (.int .i64 t332) ∧ w'.cell? ⟨gb330, 2, none⟩ = some (.bool false) ∧ w'.cell? ⟨gb330, 3, none⟩ = some (.int .i64 t334) ∧ w'.cell? ⟨gb330, 4, none⟩ = some (.int .i64 t335)) ∧ (w'.heap[gb330]? = some (.cells #[.int .i64 t331, .int .i64 t332, .bool false, .int .i64 t334, .int .i64 t335] 23 (0, 0))) ∧ (w'.heap[s_.1]? = some (.cells #[.int .i64 0, .int .i64 0, .bool false, .int .i64 0, .int .i64 0] 23 (0, 0))) ∧ (w'.heap[s_.2]? = some (.cells #[.int .i64 0, .int .i64 0, .bool false, .int .i64 0, .int .i64 0] 23 (0, 0))) ∧ (w.heap.size ≤ s_.1) ∧ (w.heap.size ≤ s_.1) ∧ (gb330 ≠ s_.1) ∧ (s_.1 ≠ gb330) ∧ (s_.2 ≠ s_.1) ∧ (s_.1 ≠ s_.2) ∧ (w.heap.size ≤ s_.2) ∧ (w.heap.size ≤ s_.2) ∧ (gb330 ≠ s_.2) ∧ (s_.2 ≠ gb330) ∧ (Below w.heap.size w w')) ?_ ?_
              rotate_left
              · intro hJ4_5
                refine join_ (σ := Nat) 5 #[true, true, true, true, false, false, false, false, false] (fun s_ => [(6, .pointer (some ⟨s_, 0, none⟩))]) (fun s_ w' => (w'.cell? ⟨gb330, 0, none⟩ = some (.int .i64 t331) ∧ w'.cell? ⟨gb330, 1, none⟩ = some (.int .i64 t332) ∧ w'.cell? ⟨gb330, 2, none⟩ = some (.bool false) ∧ w'.cell? ⟨gb330, 3, none⟩ = some (.int .i64 t334) ∧ w'.cell? ⟨gb330, 4, none⟩ = some (.int .i64 t335)) ∧ (w'.heap[gb330]? = some (.cells #[.int .i64 t331, .int .i64 t332, .bool false, .int .i64 t334, .int .i64 t335] 23 (0, 0))) ∧ (w'.heap[s_]? = some (.cells #[.int .i64 0, .int .i64 0, .bool false, .int .i64 0, .int .i64 0] 23 (0, 0))) ∧ (w.heap.size ≤ s_) ∧ (w.heap.size ≤ s_) ∧ (gb330 ≠ s_) ∧ (s_ ≠ gb330) ∧ (Below w.heap.size w w')) ?_ ?_
                rotate_left
                · intro hJ3
                  refine join_ (σ := Nat) 5 #[true, true, true, false, true, false, false, false, false] (fun s_ => [(7, .pointer (some ⟨s_, 0, none⟩))]) (fun s_ w' => (w'.cell? ⟨gb330, 0, none⟩ = some (.int .i64 t331) ∧ w'.cell? ⟨gb330, 1, none⟩ = some (.int .i64 t332) ∧ w'.cell? ⟨gb330, 2, none⟩ = some (.bool false) ∧ w'.cell? ⟨gb330, 3, none⟩ = some (.int .i64 t334) ∧ w'.cell? ⟨gb330, 4, none⟩ = some (.int .i64 t335)) ∧ (w'.heap[gb330]? = some (.cells #[.int .i64 t331, .int .i64 t332, .bool false, .int .i64 t334, .int .i64 t335] 23 (0, 0))) ∧ (w'.heap[s_]? = some (.cells #[.int .i64 0, .int .i64 0, .bool false, .int .i64 0, .int .i64 0] 23 (0, 0))) ∧ (w.heap.size ≤ s_) ∧ (w.heap.size ≤ s_) ∧ (gb330 ≠ s_) ∧ (s_ ≠ gb330) ∧ (Below w.heap.size w w')) ?_ ?_
                  rotate_left
                  · intro hJ4
                    refine join_ (σ := Nat) 5 #[true, true, true, false, false, true, false, false, false] (fun s_ => [(8, .pointer (some ⟨s_, 0, none⟩))]) (fun s_ w' => (w'.cell? ⟨gb330, 0, none⟩ = some (.int .i64 t331) ∧ w'.cell? ⟨gb330, 1, none⟩ = some (.int .i64 t332) ∧ w'.cell? ⟨gb330, 2, none⟩ = some (.bool false) ∧ w'.cell? ⟨gb330, 3, none⟩ = some (.int .i64 t334) ∧ w'.cell? ⟨gb330, 4, none⟩ = some (.int .i64 t335)) ∧ (w'.heap[gb330]? = some (.cells #[.int .i64 t331, .int .i64 t332, .bool false, .int .i64 t334, .int .i64 t335] 23 (0, 0))) ∧ (w'.heap[s_]? = some (.cells #[.int .i64 0, .int .i64 0, .bool false, .int .i64 0, .int .i64 0] 23 (0, 0))) ∧ (w.heap.size ≤ s_) ∧ (w.heap.size ≤ s_) ∧ (gb330 ≠ s_) ∧ (s_ ≠ gb330) ∧ (Below w.heap.size w w')) ?_ ?_
                    rotate_left
                    · intro hJ5
                      refine three_ (i := 3) (j := 4) (k := 5) (Ni := some 6) (Nj := some 7) (Nk := some 8) #[true, true, true, true, false, false, false, false, false] #[true, true, true, false, true, false, false, false, false] #[true, true, true, false, false, true, false, false, false] rfl rfl rfl rfl rfl rfl (three_of HT_.out (by kernel_rfl)) (by decide) (by decide) (by decide) (fun K hK => ?_) (fun K hK => ?_) (fun K hK => ?_)
                      · skip
                        refine box_step ?hg (N := 6) ?hd (cs := #[.int .i64 0, .int .i64 0, .bool false, .int .i64 0, .int .i64 0]) (t := 23) ?hr ?_; (case hd => rfl); (case hg => rfl); (case hr => first | (go_simp; done) | (go_simp; rfl))
                        intro gb337 hg w20 hbox hb
                        have n0_ := Aside0.mk (blk_below (g := gb330) (o := .cells #[.int .i64 t331, .int .i64 t332, .bool false, .int .i64 t334, .int .i64 t335] 23 (0, 0)) (by (with_reducible repeat (first | refine blk_drewN ?_ _ | refine blk_drew ?_ | refine blk_alloc ?_ _)); exact BK330.out) hb)
                        have n1_ := Aside0.mk (below_step (by repeat (first | (with_reducible first | exact HB.out | apply below_alloc | apply pw_below_drewN | apply below_drew1 | refine below_set ?_ GE330.out) | exact HB.out)) hb)
                        have n2_ := Aside0.mk (hbox)
                        have n3_ := Aside0.mk ((by rw [hg]; exact (below_size (by repeat (first | (with_reducible first | exact HB.out | apply below_alloc | apply pw_below_drewN | apply below_drew1 | refine below_set ?_ GE330.out) | exact HB.out))) : w.heap.size ≤ gb337))
                        have n4_ := Aside0.mk ((by rw [hg]; exact (below_size (by repeat (first | (with_reducible first | exact HB.out | apply below_alloc | apply pw_below_drewN | apply below_drew1 | refine below_set ?_ GE330.out) | exact HB.out))) : w.heap.size ≤ gb337))
                        have n5_ := Aside0.mk ((by rw [hg]; exact Nat.ne_of_lt (blk_lt (g := gb330) (o := .cells #[.int .i64 t331, .int .i64 t332, .bool false, .int .i64 t334, .int .i64 t335] 23 (0, 0)) (by (with_reducible repeat (first | refine blk_drewN ?_ _ | refine blk_drew ?_ | refine blk_alloc ?_ _)); exact BK330.out)) : gb330 ≠ gb337))
                        have n6_ := Aside0.mk ((by rw [hg]; exact Nat.ne_of_gt (blk_lt (g := gb330) (o := .cells #[.int .i64 t331, .int .i64 t332, .bool false, .int .i64 t334, .int .i64 t335] 23 (0, 0)) (by (with_reducible repeat (first | refine blk_drewN ?_ _ | refine blk_drew ?_ | refine blk_alloc ?_ _)); exact BK330.out)) : gb337 ≠ gb330))
                        clear BK330
                        clear HB
                        have BK330 := n0_
                        have HB := n1_
                        have BK337 := n2_
                        have GW337 := n3_
                        have GE337 := n4_
                        have NB330_337 := n5_
                        have NB337_330 := n6_
                        clear n0_ n1_ n2_ n3_ n4_ n5_ n6_
                        clear hb hbox hg
                        refine hK.out _ _ ⟨(blk_cell BK330.out 0).trans rfl, (blk_cell BK330.out 1).trans rfl, (blk_cell BK330.out 2).trans rfl, (blk_cell BK330.out 3).trans rfl, (blk_cell BK330.out 4).trans rfl⟩ (fun hHeld => ?_)
                        clear hK K
                        refine norm_ (a' := ?_) ?_ ?_
                        rotate_left
                        · show Act.put _ (some 6) _ = _
                          simp only [Act.put, List.setIfInBounds_toArray, List.set_cons_zero, List.set_cons_succ, i64_w, i32_w]
                          rfl
                        exact norm_ (by first | (simp only [putAll, Act.put, List.setIfInBounds_toArray, List.set_cons_zero, List.set_cons_succ]; done) | (simp only [putAll, Act.put, List.setIfInBounds_toArray, List.set_cons_zero, List.set_cons_succ]; rfl)) (hJ3 (gb337) _ ⟨hHeld, (by (with_reducible repeat (first | refine blk_drewN ?_ _ | refine blk_drew ?_ | refine blk_alloc ?_ _)); exact BK330.out), (by (with_reducible repeat (first | refine blk_drewN ?_ _ | refine blk_drew ?_ | refine blk_alloc ?_ _)); exact BK337.out), GW337.out, GE337.out, NB330_337.out, NB337_330.out, (by repeat (first | (with_reducible first | exact HB.out | apply below_alloc | apply pw_below_drewN | apply below_drew1 | refine below_set ?_ GE330.out | refine below_set ?_ GE337.out) | exact HB.out))⟩)
                      · skip
                        refine box_step ?hg (N := 7) ?hd (cs := #[.int .i64 0, .int .i64 0, .bool false, .int .i64 0, .int .i64 0]) (t := 23) ?hr ?_; (case hd => rfl); (case hg => rfl); (case hr => first | (go_simp; done) | (go_simp; rfl))
                        intro gb338 hg w20 hbox hb
                        have n0_ := Aside0.mk (blk_below (g := gb330) (o := .cells #[.int .i64 t331, .int .i64 t332, .bool false, .int .i64 t334, .int .i64 t335] 23 (0, 0)) (by (with_reducible repeat (first | refine blk_drewN ?_ _ | refine blk_drew ?_ | refine blk_alloc ?_ _)); exact BK330.out) hb)
                        have n1_ := Aside0.mk (below_step (by repeat (first | (with_reducible first | exact HB.out | apply below_alloc | apply pw_below_drewN | apply below_drew1 | refine below_set ?_ GE330.out) | exact HB.out)) hb)
                        have n2_ := Aside0.mk (hbox)
                        have n3_ := Aside0.mk ((by rw [hg]; exact (below_size (by repeat (first | (with_reducible first | exact HB.out | apply below_alloc | apply pw_below_drewN | apply below_drew1 | refine below_set ?_ GE330.out) | exact HB.out))) : w.heap.size ≤ gb338))
                        have n4_ := Aside0.mk ((by rw [hg]; exact (below_size (by repeat (first | (with_reducible first | exact HB.out | apply below_alloc | apply pw_below_drewN | apply below_drew1 | refine below_set ?_ GE330.out) | exact HB.out))) : w.heap.size ≤ gb338))
                        have n5_ := Aside0.mk ((by rw [hg]; exact Nat.ne_of_lt (blk_lt (g := gb330) (o := .cells #[.int .i64 t331, .int .i64 t332, .bool false, .int .i64 t334, .int .i64 t335] 23 (0, 0)) (by (with_reducible repeat (first | refine blk_drewN ?_ _ | refine blk_drew ?_ | refine blk_alloc ?_ _)); exact BK330.out)) : gb330 ≠ gb338))
                        have n6_ := Aside0.mk ((by rw [hg]; exact Nat.ne_of_gt (blk_lt (g := gb330) (o := .cells #[.int .i64 t331, .int .i64 t332, .bool false, .int .i64 t334, .int .i64 t335] 23 (0, 0)) (by (with_reducible repeat (first | refine blk_drewN ?_ _ | refine blk_drew ?_ | refine blk_alloc ?_ _)); exact BK330.out)) : gb338 ≠ gb330))
                        clear BK330
                        clear HB
                        have BK330 := n0_
                        have HB := n1_
                        have BK338 := n2_
                        have GW338 := n3_
                        have GE338 := n4_
                        have NB330_338 := n5_
                        have NB338_330 := n6_
                        clear n0_ n1_ n2_ n3_ n4_ n5_ n6_
                        clear hb hbox hg
                        refine hK.out _ _ ⟨(blk_cell BK330.out 0).trans rfl, (blk_cell BK330.out 1).trans rfl, (blk_cell BK330.out 2).trans rfl, (blk_cell BK330.out 3).trans rfl, (blk_cell BK330.out 4).trans rfl⟩ (fun hHeld => ?_)
                        clear hK K
                        refine norm_ (a' := ?_) ?_ ?_
                        rotate_left
                        · show Act.put _ (some 7) _ = _
                          simp only [Act.put, List.setIfInBounds_toArray, List.set_cons_zero, List.set_cons_succ, i64_w, i32_w]
                          rfl
                        exact norm_ (by first | (simp only [putAll, Act.put, List.setIfInBounds_toArray, List.set_cons_zero, List.set_cons_succ]; done) | (simp only [putAll, Act.put, List.setIfInBounds_toArray, List.set_cons_zero, List.set_cons_succ]; rfl)) (hJ4 (gb338) _ ⟨hHeld, (by (with_reducible repeat (first | refine blk_drewN ?_ _ | refine blk_drew ?_ | refine blk_alloc ?_ _)); exact BK330.out), (by (with_reducible repeat (first | refine blk_drewN ?_ _ | refine blk_drew ?_ | refine blk_alloc ?_ _)); exact BK338.out), GW338.out, GE338.out, NB330_338.out, NB338_330.out, (by repeat (first | (with_reducible first | exact HB.out | apply below_alloc | apply pw_below_drewN | apply below_drew1 | refine below_set ?_ GE330.out | refine below_set ?_ GE338.out) | exact HB.out))⟩)
                      · skip
                        refine box_step ?hg (N := 8) ?hd (cs := #[.int .i64 0, .int .i64 0, .bool false, .int .i64 0, .int .i64 0]) (t := 23) ?hr ?_; (case hd => rfl); (case hg => rfl); (case hr => first | (go_simp; done) | (go_simp; rfl))
                        intro gb339 hg w20 hbox hb
                        have n0_ := Aside0.mk (blk_below (g := gb330) (o := .cells #[.int .i64 t331, .int .i64 t332, .bool false, .int .i64 t334, .int .i64 t335] 23 (0, 0)) (by (with_reducible repeat (first | refine blk_drewN ?_ _ | refine blk_drew ?_ | refine blk_alloc ?_ _)); exact BK330.out) hb)
                        have n1_ := Aside0.mk (below_step (by repeat (first | (with_reducible first | exact HB.out | apply below_alloc | apply pw_below_drewN | apply below_drew1 | refine below_set ?_ GE330.out) | exact HB.out)) hb)
                        have n2_ := Aside0.mk (hbox)
                        have n3_ := Aside0.mk ((by rw [hg]; exact (below_size (by repeat (first | (with_reducible first | exact HB.out | apply below_alloc | apply pw_below_drewN | apply below_drew1 | refine below_set ?_ GE330.out) | exact HB.out))) : w.heap.size ≤ gb339))
                        have n4_ := Aside0.mk ((by rw [hg]; exact (below_size (by repeat (first | (with_reducible first | exact HB.out | apply below_alloc | apply pw_below_drewN | apply below_drew1 | refine below_set ?_ GE330.out) | exact HB.out))) : w.heap.size ≤ gb339))
                        have n5_ := Aside0.mk ((by rw [hg]; exact Nat.ne_of_lt (blk_lt (g := gb330) (o := .cells #[.int .i64 t331, .int .i64 t332, .bool false, .int .i64 t334, .int .i64 t335] 23 (0, 0)) (by (with_reducible repeat (first | refine blk_drewN ?_ _ | refine blk_drew ?_ | refine blk_alloc ?_ _)); exact BK330.out)) : gb330 ≠ gb339))
                        have n6_ := Aside0.mk ((by rw [hg]; exact Nat.ne_of_gt (blk_lt (g := gb330) (o := .cells #[.int .i64 t331, .int .i64 t332, .bool false, .int .i64 t334, .int .i64 t335] 23 (0, 0)) (by (with_reducible repeat (first | refine blk_drewN ?_ _ | refine blk_drew ?_ | refine blk_alloc ?_ _)); exact BK330.out)) : gb339 ≠ gb330))
                        clear BK330
                        clear HB
                        have BK330 := n0_
                        have HB := n1_
                        have BK339 := n2_
                        have GW339 := n3_
                        have GE339 := n4_
                        have NB330_339 := n5_
                        have NB339_330 := n6_
                        clear n0_ n1_ n2_ n3_ n4_ n5_ n6_
                        clear hb hbox hg
                        refine hK.out _ _ ⟨(blk_cell BK330.out 0).trans rfl, (blk_cell BK330.out 1).trans rfl, (blk_cell BK330.out 2).trans rfl, (blk_cell BK330.out 3).trans rfl, (blk_cell BK330.out 4).trans rfl⟩ (fun hHeld => ?_)
                        clear hK K
                        refine norm_ (a' := ?_) ?_ ?_
                        rotate_left
                        · show Act.put _ (some 8) _ = _
                          simp only [Act.put, List.setIfInBounds_toArray, List.set_cons_zero, List.set_cons_succ, i64_w, i32_w]
                          rfl
                        exact norm_ (by first | (simp only [putAll, Act.put, List.setIfInBounds_toArray, List.set_cons_zero, List.set_cons_succ]; done) | (simp only [putAll, Act.put, List.setIfInBounds_toArray, List.set_cons_zero, List.set_cons_succ]; rfl)) (hJ5 (gb339) _ ⟨hHeld, (by (with_reducible repeat (first | refine blk_drewN ?_ _ | refine blk_drew ?_ | refine blk_alloc ?_ _)); exact BK330.out), (by (with_reducible repeat (first | refine blk_drewN ?_ _ | refine blk_drew ?_ | refine blk_alloc ?_ _)); exact BK339.out), GW339.out, GE339.out, NB330_339.out, NB339_330.out, (by repeat (first | (with_reducible first | exact HB.out | apply below_alloc | apply pw_below_drewN | apply below_drew1 | refine below_set ?_ GE330.out | refine below_set ?_ GE339.out) | exact HB.out))⟩)
                    · skip
                      rintro gb339 w21 ⟨hS_, h0_, h1_, h2_, h3_, h4_, h5_, h6_⟩
                      have n0_ : Aside0 (w21.heap[gb330]? = some (.cells #[.int .i64 t331, .int .i64 t332, .bool false, .int .i64 t334, .int .i64 t335] 23 (0, 0))) := ⟨h0_⟩
                      have n1_ : Aside0 (w21.heap[gb339]? = some (.cells #[.int .i64 0, .int .i64 0, .bool false, .int .i64 0, .int .i64 0] 23 (0, 0))) := ⟨h1_⟩
                      have n2_ : Aside0 (w.heap.size ≤ gb339) := ⟨h2_⟩
                      have n3_ : Aside0 (w.heap.size ≤ gb339) := ⟨h3_⟩
                      have n4_ : Aside0 (gb330 ≠ gb339) := ⟨h4_⟩
                      have n5_ : Aside0 (gb339 ≠ gb330) := ⟨h5_⟩
                      have n6_ : Aside0 (Below w.heap.size w w21) := ⟨h6_⟩
                      clear BK330
                      clear HB
                      clear h0_ h1_ h2_ h3_ h4_ h5_ h6_
                      have BK330 := n0_
                      have BK339 := n1_
                      have GW339 := n2_
                      have GE339 := n3_
                      have NB330_339 := n4_
                      have NB339_330 := n5_
                      have HB := n6_
                      clear n0_ n1_ n2_ n3_ n4_ n5_ n6_
                      have hHeld : w21.cell? ⟨gb330, 0, none⟩ = some (.int .i64 t331) ∧ w21.cell? ⟨gb330, 1, none⟩ = some (.int .i64 t332) ∧ w21.cell? ⟨gb330, 2, none⟩ = some (.bool false) ∧ w21.cell? ⟨gb330, 3, none⟩ = some (.int .i64 t334) ∧ w21.cell? ⟨gb330, 4, none⟩ = some (.int .i64 t335) := hS_
                      refine norm_ (a' := ?_) ?_ ?_
                      rotate_left
                      · simp only [putAll, Act.put, List.setIfInBounds_toArray, List.set_cons_zero, List.set_cons_succ]
                        rfl
                      refine two_ (i := 3) (j := 4) (Ni := some 6) (Nj := some 7) #[true, true, true, true, false, true, false, false, false] #[true, true, true, false, true, true, false, false, false] rfl rfl rfl rfl (two_of HT_.out (by kernel_rfl)) (by decide) (by decide) (fun K hK => ?_) (fun K hK => ?_)
                      · skip
                        refine box_step ?hg (N := 6) ?hd (cs := #[.int .i64 0, .int .i64 0, .bool false, .int .i64 0, .int .i64 0]) (t := 23) ?hr ?_; (case hd => rfl); (case hg => rfl); (case hr => first | (go_simp; done) | (go_simp; rfl))
                        intro gb337 hg w22 hbox hb
                        have n0_ := Aside0.mk (blk_below (g := gb330) (o := .cells #[.int .i64 t331, .int .i64 t332, .bool false, .int .i64 t334, .int .i64 t335] 23 (0, 0)) (by (with_reducible repeat (first | refine blk_drewN ?_ _ | refine blk_drew ?_ | refine blk_alloc ?_ _)); exact BK330.out) hb)
                        have n1_ := Aside0.mk (blk_below (g := gb339) (o := .cells #[.int .i64 0, .int .i64 0, .bool false, .int .i64 0, .int .i64 0] 23 (0, 0)) (by (with_reducible repeat (first | refine blk_drewN ?_ _ | refine blk_drew ?_ | refine blk_alloc ?_ _)); exact BK339.out) hb)
                        have n2_ := Aside0.mk (below_step (by repeat (first | (with_reducible first | exact HB.out | apply below_alloc | apply pw_below_drewN | apply below_drew1 | refine below_set ?_ GE330.out | refine below_set ?_ GE339.out) | exact HB.out)) hb)
                        have n3_ := Aside0.mk (hbox)
                        have n4_ := Aside0.mk ((by rw [hg]; exact (below_size (by repeat (first | (with_reducible first | exact HB.out | apply below_alloc | apply pw_below_drewN | apply below_drew1 | refine below_set ?_ GE330.out | refine below_set ?_ GE339.out) | exact HB.out))) : w.heap.size ≤ gb337))
                        have n5_ := Aside0.mk ((by rw [hg]; exact (below_size (by repeat (first | (with_reducible first | exact HB.out | apply below_alloc | apply pw_below_drewN | apply below_drew1 | refine below_set ?_ GE330.out | refine below_set ?_ GE339.out) | exact HB.out))) : w.heap.size ≤ gb337))
                        have n6_ := Aside0.mk ((by rw [hg]; exact Nat.ne_of_lt (blk_lt (g := gb330) (o := .cells #[.int .i64 t331, .int .i64 t332, .bool false, .int .i64 t334, .int .i64 t335] 23 (0, 0)) (by (with_reducible repeat (first | refine blk_drewN ?_ _ | refine blk_drew ?_ | refine blk_alloc ?_ _)); exact BK330.out)) : gb330 ≠ gb337))
                        have n7_ := Aside0.mk ((by rw [hg]; exact Nat.ne_of_gt (blk_lt (g := gb330) (o := .cells #[.int .i64 t331, .int .i64 t332, .bool false, .int .i64 t334, .int .i64 t335] 23 (0, 0)) (by (with_reducible repeat (first | refine blk_drewN ?_ _ | refine blk_drew ?_ | refine blk_alloc ?_ _)); exact BK330.out)) : gb337 ≠ gb330))
                        have n8_ := Aside0.mk ((by rw [hg]; exact Nat.ne_of_lt (blk_lt (g := gb339) (o := .cells #[.int .i64 0, .int .i64 0, .bool false, .int .i64 0, .int .i64 0] 23 (0, 0)) (by (with_reducible repeat (first | refine blk_drewN ?_ _ | refine blk_drew ?_ | refine blk_alloc ?_ _)); exact BK339.out)) : gb339 ≠ gb337))
                        have n9_ := Aside0.mk ((by rw [hg]; exact Nat.ne_of_gt (blk_lt (g := gb339) (o := .cells #[.int .i64 0, .int .i64 0, .bool false, .int .i64 0, .int .i64 0] 23 (0, 0)) (by (with_reducible repeat (first | refine blk_drewN ?_ _ | refine blk_drew ?_ | refine blk_alloc ?_ _)); exact BK339.out)) : gb337 ≠ gb339))
                        clear BK330
                        clear BK339
                        clear HB
                        have BK330 := n0_
                        have BK339 := n1_
                        have HB := n2_
                        have BK337 := n3_
                        have GW337 := n4_
                        have GE337 := n5_
                        have NB330_337 := n6_
                        have NB337_330 := n7_
                        have NB339_337 := n8_
                        have NB337_339 := n9_
                        clear n0_ n1_ n2_ n3_ n4_ n5_ n6_ n7_ n8_ n9_
                        clear hb hbox hg
                        refine hK.out _ _ ⟨(blk_cell BK330.out 0).trans rfl, (blk_cell BK330.out 1).trans rfl, (blk_cell BK330.out 2).trans rfl, (blk_cell BK330.out 3).trans rfl, (blk_cell BK330.out 4).trans rfl⟩ (fun hHeld => ?_)
                        clear hK K
                        refine norm_ (a' := ?_) ?_ ?_
                        rotate_left
                        · show Act.put _ (some 6) _ = _
                          simp only [Act.put, List.setIfInBounds_toArray, List.set_cons_zero, List.set_cons_succ, i64_w, i32_w]
                          rfl
                        exact norm_ (by first | (simp only [putAll, Act.put, List.setIfInBounds_toArray, List.set_cons_zero, List.set_cons_succ]; done) | (simp only [putAll, Act.put, List.setIfInBounds_toArray, List.set_cons_zero, List.set_cons_succ]; rfl)) (hJ3_5 (gb337, gb339) _ ⟨hHeld, (by (with_reducible repeat (first | refine blk_drewN ?_ _ | refine blk_drew ?_ | refine blk_alloc ?_ _)); exact BK330.out), (by (with_reducible repeat (first | refine blk_drewN ?_ _ | refine blk_drew ?_ | refine blk_alloc ?_ _)); exact BK337.out), (by (with_reducible repeat (first | refine blk_drewN ?_ _ | refine blk_drew ?_ | refine blk_alloc ?_ _)); exact BK339.out), GW337.out, GE337.out, NB330_337.out, NB337_330.out, NB339_337.out, NB337_339.out, GW339.out, GE339.out, NB330_339.out, NB339_330.out, (by repeat (first | (with_reducible first | exact HB.out | apply below_alloc | apply pw_below_drewN | apply below_drew1 | refine below_set ?_ GE330.out | refine below_set ?_ GE339.out | refine below_set ?_ GE337.out) | exact HB.out))⟩)
                      · skip
                        refine box_step ?hg (N := 7) ?hd (cs := #[.int .i64 0, .int .i64 0, .bool false, .int .i64 0, .int .i64 0]) (t := 23) ?hr ?_; (case hd => rfl); (case hg => rfl); (case hr => first | (go_simp; done) | (go_simp; rfl))
                        intro gb338 hg w22 hbox hb
                        have n0_ := Aside0.mk (blk_below (g := gb330) (o := .cells #[.int .i64 t331, .int .i64 t332, .bool false, .int .i64 t334, .int .i64 t335] 23 (0, 0)) (by (with_reducible repeat (first | refine blk_drewN ?_ _ | refine blk_drew ?_ | refine blk_alloc ?_ _)); exact BK330.out) hb)
                        have n1_ := Aside0.mk (blk_below (g := gb339) (o := .cells #[.int .i64 0, .int .i64 0, .bool false, .int .i64 0, .int .i64 0] 23 (0, 0)) (by (with_reducible repeat (first | refine blk_drewN ?_ _ | refine blk_drew ?_ | refine blk_alloc ?_ _)); exact BK339.out) hb)
                        have n2_ := Aside0.mk (below_step (by repeat (first | (with_reducible first | exact HB.out | apply below_alloc | apply pw_below_drewN | apply below_drew1 | refine below_set ?_ GE330.out | refine below_set ?_ GE339.out) | exact HB.out)) hb)
                        have n3_ := Aside0.mk (hbox)
                        have n4_ := Aside0.mk ((by rw [hg]; exact (below_size (by repeat (first | (with_reducible first | exact HB.out | apply below_alloc | apply pw_below_drewN | apply below_drew1 | refine below_set ?_ GE330.out | refine below_set ?_ GE339.out) | exact HB.out))) : w.heap.size ≤ gb338))
                        have n5_ := Aside0.mk ((by rw [hg]; exact (below_size (by repeat (first | (with_reducible first | exact HB.out | apply below_alloc | apply pw_below_drewN | apply below_drew1 | refine below_set ?_ GE330.out | refine below_set ?_ GE339.out) | exact HB.out))) : w.heap.size ≤ gb338))
                        have n6_ := Aside0.mk ((by rw [hg]; exact Nat.ne_of_lt (blk_lt (g := gb330) (o := .cells #[.int .i64 t331, .int .i64 t332, .bool false, .int .i64 t334, .int .i64 t335] 23 (0, 0)) (by (with_reducible repeat (first | refine blk_drewN ?_ _ | refine blk_drew ?_ | refine blk_alloc ?_ _)); exact BK330.out)) : gb330 ≠ gb338))
                        have n7_ := Aside0.mk ((by rw [hg]; exact Nat.ne_of_gt (blk_lt (g := gb330) (o := .cells #[.int .i64 t331, .int .i64 t332, .bool false, .int .i64 t334, .int .i64 t335] 23 (0, 0)) (by (with_reducible repeat (first | refine blk_drewN ?_ _ | refine blk_drew ?_ | refine blk_alloc ?_ _)); exact BK330.out)) : gb338 ≠ gb330))
                        have n8_ := Aside0.mk ((by rw [hg]; exact Nat.ne_of_lt (blk_lt (g := gb339) (o := .cells #[.int .i64 0, .int .i64 0, .bool false, .int .i64 0, .int .i64 0] 23 (0, 0)) (by (with_reducible repeat (first | refine blk_drewN ?_ _ | refine blk_drew ?_ | refine blk_alloc ?_ _)); exact BK339.out)) : gb339 ≠ gb338))
                        have n9_ := Aside0.mk ((by rw [hg]; exact Nat.ne_of_gt (blk_lt (g := gb339) (o := .cells #[.int .i64 0, .int .i64 0, .bool false, .int .i64 0, .int .i64 0] 23 (0, 0)) (by (with_reducible repeat (first | refine blk_drewN ?_ _ | refine blk_drew ?_ | refine blk_alloc ?_ _)); exact BK339.out)) : gb338 ≠ gb339))
                        clear BK330
                        clear BK339
                        clear HB
                        have BK330 := n0_
                        have BK339 := n1_
                        have HB := n2_
                        have BK338 := n3_
                        have GW338 := n4_
                        have GE338 := n5_
                        have NB330_338 := n6_
                        have NB338_330 := n7_
                        have NB339_338 := n8_
                        have NB338_339 := n9_
                        clear n0_ n1_ n2_ n3_ n4_ n5_ n6_ n7_ n8_ n9_
                        clear hb hbox hg
                        refine hK.out _ _ ⟨(blk_cell BK330.out 0).trans rfl, (blk_cell BK330.out 1).trans rfl, (blk_cell BK330.out 2).trans rfl, (blk_cell BK330.out 3).trans rfl, (blk_cell BK330.out 4).trans rfl⟩ (fun hHeld => ?_)
                        clear hK K
                        refine norm_ (a' := ?_) ?_ ?_
                        rotate_left
                        · show Act.put _ (some 7) _ = _
                          simp only [Act.put, List.setIfInBounds_toArray, List.set_cons_zero, List.set_cons_succ, i64_w, i32_w]
                          rfl
                        exact norm_ (by first | (simp only [putAll, Act.put, List.setIfInBounds_toArray, List.set_cons_zero, List.set_cons_succ]; done) | (simp only [putAll, Act.put, List.setIfInBounds_toArray, List.set_cons_zero, List.set_cons_succ]; rfl)) (hJ4_5 (gb338, gb339) _ ⟨hHeld, (by (with_reducible repeat (first | refine blk_drewN ?_ _ | refine blk_drew ?_ | refine blk_alloc ?_ _)); exact BK330.out), (by (with_reducible repeat (first | refine blk_drewN ?_ _ | refine blk_drew ?_ | refine blk_alloc ?_ _)); exact BK338.out), (by (with_reducible repeat (first | refine blk_drewN ?_ _ | refine blk_drew ?_ | refine blk_alloc ?_ _)); exact BK339.out), GW338.out, GE338.out, NB330_338.out, NB338_330.out, NB339_338.out, NB338_339.out, GW339.out, GE339.out, NB330_339.out, NB339_330.out, (by repeat (first | (with_reducible first | exact HB.out | apply below_alloc | apply pw_below_drewN | apply below_drew1 | refine below_set ?_ GE330.out | refine below_set ?_ GE339.out | refine below_set ?_ GE338.out) | exact HB.out))⟩)
                  · skip
                    rintro gb338 w21 ⟨hS_, h0_, h1_, h2_, h3_, h4_, h5_, h6_⟩
                    have n0_ : Aside0 (w21.heap[gb330]? = some (.cells #[.int .i64 t331, .int .i64 t332, .bool false, .int .i64 t334, .int .i64 t335] 23 (0, 0))) := ⟨h0_⟩
                    have n1_ : Aside0 (w21.heap[gb338]? = some (.cells #[.int .i64 0, .int .i64 0, .bool false, .int .i64 0, .int .i64 0] 23 (0, 0))) := ⟨h1_⟩
                    have n2_ : Aside0 (w.heap.size ≤ gb338) := ⟨h2_⟩
                    have n3_ : Aside0 (w.heap.size ≤ gb338) := ⟨h3_⟩
                    have n4_ : Aside0 (gb330 ≠ gb338) := ⟨h4_⟩
                    have n5_ : Aside0 (gb338 ≠ gb330) := ⟨h5_⟩
                    have n6_ : Aside0 (Below w.heap.size w w21) := ⟨h6_⟩
                    clear BK330
                    clear HB
                    clear h0_ h1_ h2_ h3_ h4_ h5_ h6_
                    have BK330 := n0_
                    have BK338 := n1_
                    have GW338 := n2_
                    have GE338 := n3_
                    have NB330_338 := n4_
                    have NB338_330 := n5_
                    have HB := n6_
                    clear n0_ n1_ n2_ n3_ n4_ n5_ n6_
                    have hHeld : w21.cell? ⟨gb330, 0, none⟩ = some (.int .i64 t331) ∧ w21.cell? ⟨gb330, 1, none⟩ = some (.int .i64 t332) ∧ w21.cell? ⟨gb330, 2, none⟩ = some (.bool false) ∧ w21.cell? ⟨gb330, 3, none⟩ = some (.int .i64 t334) ∧ w21.cell? ⟨gb330, 4, none⟩ = some (.int .i64 t335) := hS_
                    refine norm_ (a' := ?_) ?_ ?_
                    rotate_left
                    · simp only [putAll, Act.put, List.setIfInBounds_toArray, List.set_cons_zero, List.set_cons_succ]
                      rfl
                    refine two_ (i := 3) (j := 5) (Ni := some 6) (Nj := some 8) #[true, true, true, true, true, false, false, false, false] #[true, true, true, false, true, true, false, false, false] rfl rfl rfl rfl (two_of HT_.out (by kernel_rfl)) (by decide) (by decide) (fun K hK => ?_) (fun K hK => ?_)
                    · skip
                      refine box_step ?hg (N := 6) ?hd (cs := #[.int .i64 0, .int .i64 0, .bool false, .int .i64 0, .int .i64 0]) (t := 23) ?hr ?_; (case hd => rfl); (case hg => rfl); (case hr => first | (go_simp; done) | (go_simp; rfl))
                      intro gb337 hg w22 hbox hb
                      have n0_ := Aside0.mk (blk_below (g := gb330) (o := .cells #[.int .i64 t331, .int .i64 t332, .bool false, .int .i64 t334, .int .i64 t335] 23 (0, 0)) (by (with_reducible repeat (first | refine blk_drewN ?_ _ | refine blk_drew ?_ | refine blk_alloc ?_ _)); exact BK330.out) hb)
                      have n1_ := Aside0.mk (blk_below (g := gb338) (o := .cells #[.int .i64 0, .int .i64 0, .bool false, .int .i64 0, .int .i64 0] 23 (0, 0)) (by (with_reducible repeat (first | refine blk_drewN ?_ _ | refine blk_drew ?_ | refine blk_alloc ?_ _)); exact BK338.out) hb)
                      have n2_ := Aside0.mk (below_step (by repeat (first | (with_reducible first | exact HB.out | apply below_alloc | apply pw_below_drewN | apply below_drew1 | refine below_set ?_ GE330.out | refine below_set ?_ GE338.out) | exact HB.out)) hb)
                      have n3_ := Aside0.mk (hbox)
                      have n4_ := Aside0.mk ((by rw [hg]; exact (below_size (by repeat (first | (with_reducible first | exact HB.out | apply below_alloc | apply pw_below_drewN | apply below_drew1 | refine below_set ?_ GE330.out | refine below_set ?_ GE338.out) | exact HB.out))) : w.heap.size ≤ gb337))
                      have n5_ := Aside0.mk ((by rw [hg]; exact (below_size (by repeat (first | (with_reducible first | exact HB.out | apply below_alloc | apply pw_below_drewN | apply below_drew1 | refine below_set ?_ GE330.out | refine below_set ?_ GE338.out) | exact HB.out))) : w.heap.size ≤ gb337))
                      have n6_ := Aside0.mk ((by rw [hg]; exact Nat.ne_of_lt (blk_lt (g := gb330) (o := .cells #[.int .i64 t331, .int .i64 t332, .bool false, .int .i64 t334, .int .i64 t335] 23 (0, 0)) (by (with_reducible repeat (first | refine blk_drewN ?_ _ | refine blk_drew ?_ | refine blk_alloc ?_ _)); exact BK330.out)) : gb330 ≠ gb337))
                      have n7_ := Aside0.mk ((by rw [hg]; exact Nat.ne_of_gt (blk_lt (g := gb330) (o := .cells #[.int .i64 t331, .int .i64 t332, .bool false, .int .i64 t334, .int .i64 t335] 23 (0, 0)) (by (with_reducible repeat (first | refine blk_drewN ?_ _ | refine blk_drew ?_ | refine blk_alloc ?_ _)); exact BK330.out)) : gb337 ≠ gb330))
                      have n8_ := Aside0.mk ((by rw [hg]; exact Nat.ne_of_lt (blk_lt (g := gb338) (o := .cells #[.int .i64 0, .int .i64 0, .bool false, .int .i64 0, .int .i64 0] 23 (0, 0)) (by (with_reducible repeat (first | refine blk_drewN ?_ _ | refine blk_drew ?_ | refine blk_alloc ?_ _)); exact BK338.out)) : gb338 ≠ gb337))
                      have n9_ := Aside0.mk ((by rw [hg]; exact Nat.ne_of_gt (blk_lt (g := gb338) (o := .cells #[.int .i64 0, .int .i64 0, .bool false, .int .i64 0, .int .i64 0] 23 (0, 0)) (by (with_reducible repeat (first | refine blk_drewN ?_ _ | refine blk_drew ?_ | refine blk_alloc ?_ _)); exact BK338.out)) : gb337 ≠ gb338))
                      clear BK330
                      clear BK338
                      clear HB
                      have BK330 := n0_
                      have BK338 := n1_
                      have HB := n2_
                      have BK337 := n3_
                      have GW337 := n4_
                      have GE337 := n5_
                      have NB330_337 := n6_
                      have NB337_330 := n7_
                      have NB338_337 := n8_
                      have NB337_338 := n9_
                      clear n0_ n1_ n2_ n3_ n4_ n5_ n6_ n7_ n8_ n9_
                      clear hb hbox hg
                      refine hK.out _ _ ⟨(blk_cell BK330.out 0).trans rfl, (blk_cell BK330.out 1).trans rfl, (blk_cell BK330.out 2).trans rfl, (blk_cell BK330.out 3).trans rfl, (blk_cell BK330.out 4).trans rfl⟩ (fun hHeld => ?_)
                      clear hK K
                      refine norm_ (a' := ?_) ?_ ?_
                      rotate_left
                      · show Act.put _ (some 6) _ = _
                        simp only [Act.put, List.setIfInBounds_toArray, List.set_cons_zero, List.set_cons_succ, i64_w, i32_w]
                        rfl
                      exact norm_ (by first | (simp only [putAll, Act.put, List.setIfInBounds_toArray, List.set_cons_zero, List.set_cons_succ]; done) | (simp only [putAll, Act.put, List.setIfInBounds_toArray, List.set_cons_zero, List.set_cons_succ]; rfl)) (hJ3_4 (gb337, gb338) _ ⟨hHeld, (by (with_reducible repeat (first | refine blk_drewN ?_ _ | refine blk_drew ?_ | refine blk_alloc ?_ _)); exact BK330.out), (by (with_reducible repeat (first | refine blk_drewN ?_ _ | refine blk_drew ?_ | refine blk_alloc ?_ _)); exact BK337.out), (by (with_reducible repeat (first | refine blk_drewN ?_ _ | refine blk_drew ?_ | refine blk_alloc ?_ _)); exact BK338.out), GW337.out, GE337.out, NB330_337.out, NB337_330.out, NB338_337.out, NB337_338.out, GW338.out, GE338.out, NB330_338.out, NB338_330.out, (by repeat (first | (with_reducible first | exact HB.out | apply below_alloc | apply pw_below_drewN | apply below_drew1 | refine below_set ?_ GE330.out | refine below_set ?_ GE338.out | refine below_set ?_ GE337.out) | exact HB.out))⟩)
                    · skip
                      refine box_step ?hg (N := 8) ?hd (cs := #[.int .i64 0, .int .i64 0, .bool false, .int .i64 0, .int .i64 0]) (t := 23) ?hr ?_; (case hd => rfl); (case hg => rfl); (case hr => first | (go_simp; done) | (go_simp; rfl))
                      intro gb339 hg w22 hbox hb
                      have n0_ := Aside0.mk (blk_below (g := gb330) (o := .cells #[.int .i64 t331, .int .i64 t332, .bool false, .int .i64 t334, .int .i64 t335] 23 (0, 0)) (by (with_reducible repeat (first | refine blk_drewN ?_ _ | refine blk_drew ?_ | refine blk_alloc ?_ _)); exact BK330.out) hb)
                      have n1_ := Aside0.mk (blk_below (g := gb338) (o := .cells #[.int .i64 0, .int .i64 0, .bool false, .int .i64 0, .int .i64 0] 23 (0, 0)) (by (with_reducible repeat (first | refine blk_drewN ?_ _ | refine blk_drew ?_ | refine blk_alloc ?_ _)); exact BK338.out) hb)
                      have n2_ := Aside0.mk (below_step (by repeat (first | (with_reducible first | exact HB.out | apply below_alloc | apply pw_below_drewN | apply below_drew1 | refine below_set ?_ GE330.out | refine below_set ?_ GE338.out) | exact HB.out)) hb)
                      have n3_ := Aside0.mk (hbox)
                      have n4_ := Aside0.mk ((by rw [hg]; exact (below_size (by repeat (first | (with_reducible first | exact HB.out | apply below_alloc | apply pw_below_drewN | apply below_drew1 | refine below_set ?_ GE330.out | refine below_set ?_ GE338.out) | exact HB.out))) : w.heap.size ≤ gb339))
                      have n5_ := Aside0.mk ((by rw [hg]; exact (below_size (by repeat (first | (with_reducible first | exact HB.out | apply below_alloc | apply pw_below_drewN | apply below_drew1 | refine below_set ?_ GE330.out | refine below_set ?_ GE338.out) | exact HB.out))) : w.heap.size ≤ gb339))
                      have n6_ := Aside0.mk ((by rw [hg]; exact Nat.ne_of_lt (blk_lt (g := gb330) (o := .cells #[.int .i64 t331, .int .i64 t332, .bool false, .int .i64 t334, .int .i64 t335] 23 (0, 0)) (by (with_reducible repeat (first | refine blk_drewN ?_ _ | refine blk_drew ?_ | refine blk_alloc ?_ _)); exact BK330.out)) : gb330 ≠ gb339))
                      have n7_ := Aside0.mk ((by rw [hg]; exact Nat.ne_of_gt (blk_lt (g := gb330) (o := .cells #[.int .i64 t331, .int .i64 t332, .bool false, .int .i64 t334, .int .i64 t335] 23 (0, 0)) (by (with_reducible repeat (first | refine blk_drewN ?_ _ | refine blk_drew ?_ | refine blk_alloc ?_ _)); exact BK330.out)) : gb339 ≠ gb330))
                      have n8_ := Aside0.mk ((by rw [hg]; exact Nat.ne_of_lt (blk_lt (g := gb338) (o := .cells #[.int .i64 0, .int .i64 0, .bool false, .int .i64 0, .int .i64 0] 23 (0, 0)) (by (with_reducible repeat (first | refine blk_drewN ?_ _ | refine blk_drew ?_ | refine blk_alloc ?_ _)); exact BK338.out)) : gb338 ≠ gb339))
                      have n9_ := Aside0.mk ((by rw [hg]; exact Nat.ne_of_gt (blk_lt (g := gb338) (o := .cells #[.int .i64 0, .int .i64 0, .bool false, .int .i64 0, .int .i64 0] 23 (0, 0)) (by (with_reducible repeat (first | refine blk_drewN ?_ _ | refine blk_drew ?_ | refine blk_alloc ?_ _)); exact BK338.out)) : gb339 ≠ gb338))
                      clear BK330
                      clear BK338
                      clear HB
                      have BK330 := n0_
                      have BK338 := n1_
                      have HB := n2_
                      have BK339 := n3_
                      have GW339 := n4_
                      have GE339 := n5_
                      have NB330_339 := n6_
                      have NB339_330 := n7_
                      have NB338_339 := n8_
                      have NB339_338 := n9_
                      clear n0_ n1_ n2_ n3_ n4_ n5_ n6_ n7_ n8_ n9_
                      clear hb hbox hg
                      refine hK.out _ _ ⟨(blk_cell BK330.out 0).trans rfl, (blk_cell BK330.out 1).trans rfl, (blk_cell BK330.out 2).trans rfl, (blk_cell BK330.out 3).trans rfl, (blk_cell BK330.out 4).trans rfl⟩ (fun hHeld => ?_)
                      clear hK K
                      refine norm_ (a' := ?_) ?_ ?_
                      rotate_left
                      · show Act.put _ (some 8) _ = _
                        simp only [Act.put, List.setIfInBounds_toArray, List.set_cons_zero, List.set_cons_succ, i64_w, i32_w]
                        rfl
                      exact norm_ (by first | (simp only [putAll, Act.put, List.setIfInBounds_toArray, List.set_cons_zero, List.set_cons_succ]; done) | (simp only [putAll, Act.put, List.setIfInBounds_toArray, List.set_cons_zero, List.set_cons_succ]; rfl)) (hJ4_5 (gb338, gb339) _ ⟨hHeld, (by (with_reducible repeat (first | refine blk_drewN ?_ _ | refine blk_drew ?_ | refine blk_alloc ?_ _)); exact BK330.out), (by (with_reducible repeat (first | refine blk_drewN ?_ _ | refine blk_drew ?_ | refine blk_alloc ?_ _)); exact BK338.out), (by (with_reducible repeat (first | refine blk_drewN ?_ _ | refine blk_drew ?_ | refine blk_alloc ?_ _)); exact BK339.out), GW338.out, GE338.out, NB330_338.out, NB338_330.out, NB339_338.out, NB338_339.out, GW339.out, GE339.out, NB330_339.out, NB339_330.out, (by repeat (first | (with_reducible first | exact HB.out | apply below_alloc | apply pw_below_drewN | apply below_drew1 | refine below_set ?_ GE330.out | refine below_set ?_ GE338.out | refine below_set ?_ GE339.out) | exact HB.out))⟩)
                · skip
                  rintro gb337 w21 ⟨hS_, h0_, h1_, h2_, h3_, h4_, h5_, h6_⟩
                  have n0_ : Aside0 (w21.heap[gb330]? = some (.cells #[.int .i64 t331, .int .i64 t332, .bool false, .int .i64 t334, .int .i64 t335] 23 (0, 0))) := ⟨h0_⟩
                  have n1_ : Aside0 (w21.heap[gb337]? = some (.cells #[.int .i64 0, .int .i64 0, .bool false, .int .i64 0, .int .i64 0] 23 (0, 0))) := ⟨h1_⟩
                  have n2_ : Aside0 (w.heap.size ≤ gb337) := ⟨h2_⟩
                  have n3_ : Aside0 (w.heap.size ≤ gb337) := ⟨h3_⟩
                  have n4_ : Aside0 (gb330 ≠ gb337) := ⟨h4_⟩
                  have n5_ : Aside0 (gb337 ≠ gb330) := ⟨h5_⟩
                  have n6_ : Aside0 (Below w.heap.size w w21) := ⟨h6_⟩
                  clear BK330
                  clear HB
                  clear h0_ h1_ h2_ h3_ h4_ h5_ h6_
                  have BK330 := n0_
                  have BK337 := n1_
                  have GW337 := n2_
                  have GE337 := n3_
                  have NB330_337 := n4_
                  have NB337_330 := n5_
                  have HB := n6_
                  clear n0_ n1_ n2_ n3_ n4_ n5_ n6_
                  have hHeld : w21.cell? ⟨gb330, 0, none⟩ = some (.int .i64 t331) ∧ w21.cell? ⟨gb330, 1, none⟩ = some (.int .i64 t332) ∧ w21.cell? ⟨gb330, 2, none⟩ = some (.bool false) ∧ w21.cell? ⟨gb330, 3, none⟩ = some (.int .i64 t334) ∧ w21.cell? ⟨gb330, 4, none⟩ = some (.int .i64 t335) := hS_
                  refine norm_ (a' := ?_) ?_ ?_
                  rotate_left
                  · simp only [putAll, Act.put, List.setIfInBounds_toArray, List.set_cons_zero, List.set_cons_succ]
                    rfl
                  refine two_ (i := 4) (j := 5) (Ni := some 7) (Nj := some 8) #[true, true, true, true, true, false, false, false, false] #[true, true, true, true, false, true, false, false, false] rfl rfl rfl rfl (two_of HT_.out (by kernel_rfl)) (by decide) (by decide) (fun K hK => ?_) (fun K hK => ?_)
                  · skip
                    refine box_step ?hg (N := 7) ?hd (cs := #[.int .i64 0, .int .i64 0, .bool false, .int .i64 0, .int .i64 0]) (t := 23) ?hr ?_; (case hd => rfl); (case hg => rfl); (case hr => first | (go_simp; done) | (go_simp; rfl))
                    intro gb338 hg w22 hbox hb
                    have n0_ := Aside0.mk (blk_below (g := gb330) (o := .cells #[.int .i64 t331, .int .i64 t332, .bool false, .int .i64 t334, .int .i64 t335] 23 (0, 0)) (by (with_reducible repeat (first | refine blk_drewN ?_ _ | refine blk_drew ?_ | refine blk_alloc ?_ _)); exact BK330.out) hb)
                    have n1_ := Aside0.mk (blk_below (g := gb337) (o := .cells #[.int .i64 0, .int .i64 0, .bool false, .int .i64 0, .int .i64 0] 23 (0, 0)) (by (with_reducible repeat (first | refine blk_drewN ?_ _ | refine blk_drew ?_ | refine blk_alloc ?_ _)); exact BK337.out) hb)
                    have n2_ := Aside0.mk (below_step (by repeat (first | (with_reducible first | exact HB.out | apply below_alloc | apply pw_below_drewN | apply below_drew1 | refine below_set ?_ GE330.out | refine below_set ?_ GE337.out) | exact HB.out)) hb)
                    have n3_ := Aside0.mk (hbox)
                    have n4_ := Aside0.mk ((by rw [hg]; exact (below_size (by repeat (first | (with_reducible first | exact HB.out | apply below_alloc | apply pw_below_drewN | apply below_drew1 | refine below_set ?_ GE330.out | refine below_set ?_ GE337.out) | exact HB.out))) : w.heap.size ≤ gb338))
                    have n5_ := Aside0.mk ((by rw [hg]; exact (below_size (by repeat (first | (with_reducible first | exact HB.out | apply below_alloc | apply pw_below_drewN | apply below_drew1 | refine below_set ?_ GE330.out | refine below_set ?_ GE337.out) | exact HB.out))) : w.heap.size ≤ gb338))
                    have n6_ := Aside0.mk ((by rw [hg]; exact Nat.ne_of_lt (blk_lt (g := gb330) (o := .cells #[.int .i64 t331, .int .i64 t332, .bool false, .int .i64 t334, .int .i64 t335] 23 (0, 0)) (by (with_reducible repeat (first | refine blk_drewN ?_ _ | refine blk_drew ?_ | refine blk_alloc ?_ _)); exact BK330.out)) : gb330 ≠ gb338))
                    have n7_ := Aside0.mk ((by rw [hg]; exact Nat.ne_of_gt (blk_lt (g := gb330) (o := .cells #[.int .i64 t331, .int .i64 t332, .bool false, .int .i64 t334, .int .i64 t335] 23 (0, 0)) (by (with_reducible repeat (first | refine blk_drewN ?_ _ | refine blk_drew ?_ | refine blk_alloc ?_ _)); exact BK330.out)) : gb338 ≠ gb330))
                    have n8_ := Aside0.mk ((by rw [hg]; exact Nat.ne_of_lt (blk_lt (g := gb337) (o := .cells #[.int .i64 0, .int .i64 0, .bool false, .int .i64 0, .int .i64 0] 23 (0, 0)) (by (with_reducible repeat (first | refine blk_drewN ?_ _ | refine blk_drew ?_ | refine blk_alloc ?_ _)); exact BK337.out)) : gb337 ≠ gb338))
                    have n9_ := Aside0.mk ((by rw [hg]; exact Nat.ne_of_gt (blk_lt (g := gb337) (o := .cells #[.int .i64 0, .int .i64 0, .bool false, .int .i64 0, .int .i64 0] 23 (0, 0)) (by (with_reducible repeat (first | refine blk_drewN ?_ _ | refine blk_drew ?_ | refine blk_alloc ?_ _)); exact BK337.out)) : gb338 ≠ gb337))
                    clear BK330
                    clear BK337
                    clear HB
                    have BK330 := n0_
                    have BK337 := n1_
                    have HB := n2_
                    have BK338 := n3_
                    have GW338 := n4_
                    have GE338 := n5_
                    have NB330_338 := n6_
                    have NB338_330 := n7_
                    have NB337_338 := n8_
                    have NB338_337 := n9_
                    clear n0_ n1_ n2_ n3_ n4_ n5_ n6_ n7_ n8_ n9_
                    clear hb hbox hg
                    refine hK.out _ _ ⟨(blk_cell BK330.out 0).trans rfl, (blk_cell BK330.out 1).trans rfl, (blk_cell BK330.out 2).trans rfl, (blk_cell BK330.out 3).trans rfl, (blk_cell BK330.out 4).trans rfl⟩ (fun hHeld => ?_)
                    clear hK K
                    refine norm_ (a' := ?_) ?_ ?_
                    rotate_left
                    · show Act.put _ (some 7) _ = _
                      simp only [Act.put, List.setIfInBounds_toArray, List.set_cons_zero, List.set_cons_succ, i64_w, i32_w]
                      rfl
                    exact norm_ (by first | (simp only [putAll, Act.put, List.setIfInBounds_toArray, List.set_cons_zero, List.set_cons_succ]; done) | (simp only [putAll, Act.put, List.setIfInBounds_toArray, List.set_cons_zero, List.set_cons_succ]; rfl)) (hJ3_4 (gb337, gb338) _ ⟨hHeld, (by (with_reducible repeat (first | refine blk_drewN ?_ _ | refine blk_drew ?_ | refine blk_alloc ?_ _)); exact BK330.out), (by (with_reducible repeat (first | refine blk_drewN ?_ _ | refine blk_drew ?_ | refine blk_alloc ?_ _)); exact BK337.out), (by (with_reducible repeat (first | refine blk_drewN ?_ _ | refine blk_drew ?_ | refine blk_alloc ?_ _)); exact BK338.out), GW337.out, GE337.out, NB330_337.out, NB337_330.out, NB338_337.out, NB337_338.out, GW338.out, GE338.out, NB330_338.out, NB338_330.out, (by repeat (first | (with_reducible first | exact HB.out | apply below_alloc | apply pw_below_drewN | apply below_drew1 | refine below_set ?_ GE330.out | refine below_set ?_ GE337.out | refine below_set ?_ GE338.out) | exact HB.out))⟩)
                  · skip
                    refine box_step ?hg (N := 8) ?hd (cs := #[.int .i64 0, .int .i64 0, .bool false, .int .i64 0, .int .i64 0]) (t := 23) ?hr ?_; (case hd => rfl); (case hg => rfl); (case hr => first | (go_simp; done) | (go_simp; rfl))
                    intro gb339 hg w22 hbox hb
                    have n0_ := Aside0.mk (blk_below (g := gb330) (o := .cells #[.int .i64 t331, .int .i64 t332, .bool false, .int .i64 t334, .int .i64 t335] 23 (0, 0)) (by (with_reducible repeat (first | refine blk_drewN ?_ _ | refine blk_drew ?_ | refine blk_alloc ?_ _)); exact BK330.out) hb)
                    have n1_ := Aside0.mk (blk_below (g := gb337) (o := .cells #[.int .i64 0, .int .i64 0, .bool false, .int .i64 0, .int .i64 0] 23 (0, 0)) (by (with_reducible repeat (first | refine blk_drewN ?_ _ | refine blk_drew ?_ | refine blk_alloc ?_ _)); exact BK337.out) hb)
                    have n2_ := Aside0.mk (below_step (by repeat (first | (with_reducible first | exact HB.out | apply below_alloc | apply pw_below_drewN | apply below_drew1 | refine below_set ?_ GE330.out | refine below_set ?_ GE337.out) | exact HB.out)) hb)
                    have n3_ := Aside0.mk (hbox)
                    have n4_ := Aside0.mk ((by rw [hg]; exact (below_size (by repeat (first | (with_reducible first | exact HB.out | apply below_alloc | apply pw_below_drewN | apply below_drew1 | refine below_set ?_ GE330.out | refine below_set ?_ GE337.out) | exact HB.out))) : w.heap.size ≤ gb339))
                    have n5_ := Aside0.mk ((by rw [hg]; exact (below_size (by repeat (first | (with_reducible first | exact HB.out | apply below_alloc | apply pw_below_drewN | apply below_drew1 | refine below_set ?_ GE330.out | refine below_set ?_ GE337.out) | exact HB.out))) : w.heap.size ≤ gb339))
                    have n6_ := Aside0.mk ((by rw [hg]; exact Nat.ne_of_lt (blk_lt (g := gb330) (o := .cells #[.int .i64 t331, .int .i64 t332, .bool false, .int .i64 t334, .int .i64 t335] 23 (0, 0)) (by (with_reducible repeat (first | refine blk_drewN ?_ _ | refine blk_drew ?_ | refine blk_alloc ?_ _)); exact BK330.out)) : gb330 ≠ gb339))
                    have n7_ := Aside0.mk ((by rw [hg]; exact Nat.ne_of_gt (blk_lt (g := gb330) (o := .cells #[.int .i64 t331, .int .i64 t332, .bool false, .int .i64 t334, .int .i64 t335] 23 (0, 0)) (by (with_reducible repeat (first | refine blk_drewN ?_ _ | refine blk_drew ?_ | refine blk_alloc ?_ _)); exact BK330.out)) : gb339 ≠ gb330))
                    have n8_ := Aside0.mk ((by rw [hg]; exact Nat.ne_of_lt (blk_lt (g := gb337) (o := .cells #[.int .i64 0, .int .i64 0, .bool false, .int .i64 0, .int .i64 0] 23 (0, 0)) (by (with_reducible repeat (first | refine blk_drewN ?_ _ | refine blk_drew ?_ | refine blk_alloc ?_ _)); exact BK337.out)) : gb337 ≠ gb339))
                    have n9_ := Aside0.mk ((by rw [hg]; exact Nat.ne_of_gt (blk_lt (g := gb337) (o := .cells #[.int .i64 0, .int .i64 0, .bool false, .int .i64 0, .int .i64 0] 23 (0, 0)) (by (with_reducible repeat (first | refine blk_drewN ?_ _ | refine blk_drew ?_ | refine blk_alloc ?_ _)); exact BK337.out)) : gb339 ≠ gb337))
                    clear BK330
                    clear BK337
                    clear HB
                    have BK330 := n0_
                    have BK337 := n1_
                    have HB := n2_
                    have BK339 := n3_
                    have GW339 := n4_
                    have GE339 := n5_
                    have NB330_339 := n6_
                    have NB339_330 := n7_
                    have NB337_339 := n8_
                    have NB339_337 := n9_
                    clear n0_ n1_ n2_ n3_ n4_ n5_ n6_ n7_ n8_ n9_
                    clear hb hbox hg
                    refine hK.out _ _ ⟨(blk_cell BK330.out 0).trans rfl, (blk_cell BK330.out 1).trans rfl, (blk_cell BK330.out 2).trans rfl, (blk_cell BK330.out 3).trans rfl, (blk_cell BK330.out 4).trans rfl⟩ (fun hHeld => ?_)
                    clear hK K
                    refine norm_ (a' := ?_) ?_ ?_
                    rotate_left
                    · show Act.put _ (some 8) _ = _
                      simp only [Act.put, List.setIfInBounds_toArray, List.set_cons_zero, List.set_cons_succ, i64_w, i32_w]
                      rfl
                    exact norm_ (by first | (simp only [putAll, Act.put, List.setIfInBounds_toArray, List.set_cons_zero, List.set_cons_succ]; done) | (simp only [putAll, Act.put, List.setIfInBounds_toArray, List.set_cons_zero, List.set_cons_succ]; rfl)) (hJ3_5 (gb337, gb339) _ ⟨hHeld, (by (with_reducible repeat (first | refine blk_drewN ?_ _ | refine blk_drew ?_ | refine blk_alloc ?_ _)); exact BK330.out), (by (with_reducible repeat (first | refine blk_drewN ?_ _ | refine blk_drew ?_ | refine blk_alloc ?_ _)); exact BK337.out), (by (with_reducible repeat (first | refine blk_drewN ?_ _ | refine blk_drew ?_ | refine blk_alloc ?_ _)); exact BK339.out), GW337.out, GE337.out, NB330_337.out, NB337_330.out, NB339_337.out, NB337_339.out, GW339.out, GE339.out, NB330_339.out, NB339_330.out, (by repeat (first | (with_reducible first | exact HB.out | apply below_alloc | apply pw_below_drewN | apply below_drew1 | refine below_set ?_ GE330.out | refine below_set ?_ GE337.out | refine below_set ?_ GE339.out) | exact HB.out))⟩)
              · skip
                rintro ⟨gb338, gb339⟩ w22 ⟨hS_, h0_, h1_, h2_, h3_, h4_, h5_, h6_, h7_, h8_, h9_, h10_, h11_, h12_, h13_⟩
                have n0_ : Aside0 (w22.heap[gb330]? = some (.cells #[.int .i64 t331, .int .i64 t332, .bool false, .int .i64 t334, .int .i64 t335] 23 (0, 0))) := ⟨h0_⟩
                have n1_ : Aside0 (w22.heap[gb338]? = some (.cells #[.int .i64 0, .int .i64 0, .bool false, .int .i64 0, .int .i64 0] 23 (0, 0))) := ⟨h1_⟩
                have n2_ : Aside0 (w22.heap[gb339]? = some (.cells #[.int .i64 0, .int .i64 0, .bool false, .int .i64 0, .int .i64 0] 23 (0, 0))) := ⟨h2_⟩
                have n3_ : Aside0 (w.heap.size ≤ gb338) := ⟨h3_⟩
                have n4_ : Aside0 (w.heap.size ≤ gb338) := ⟨h4_⟩
                have n5_ : Aside0 (gb330 ≠ gb338) := ⟨h5_⟩
                have n6_ : Aside0 (gb338 ≠ gb330) := ⟨h6_⟩
                have n7_ : Aside0 (gb339 ≠ gb338) := ⟨h7_⟩
                have n8_ : Aside0 (gb338 ≠ gb339) := ⟨h8_⟩
                have n9_ : Aside0 (w.heap.size ≤ gb339) := ⟨h9_⟩
                have n10_ : Aside0 (w.heap.size ≤ gb339) := ⟨h10_⟩
                have n11_ : Aside0 (gb330 ≠ gb339) := ⟨h11_⟩
                have n12_ : Aside0 (gb339 ≠ gb330) := ⟨h12_⟩
                have n13_ : Aside0 (Below w.heap.size w w22) := ⟨h13_⟩
                clear BK330
                clear HB
                clear h0_ h1_ h2_ h3_ h4_ h5_ h6_ h7_ h8_ h9_ h10_ h11_ h12_ h13_
                have BK330 := n0_
                have BK338 := n1_
                have BK339 := n2_
                have GW338 := n3_
                have GE338 := n4_
                have NB330_338 := n5_
                have NB338_330 := n6_
                have NB339_338 := n7_
                have NB338_339 := n8_
                have GW339 := n9_
                have GE339 := n10_
                have NB330_339 := n11_
                have NB339_330 := n12_
                have HB := n13_
                clear n0_ n1_ n2_ n3_ n4_ n5_ n6_ n7_ n8_ n9_ n10_ n11_ n12_ n13_
                have hHeld : w22.cell? ⟨gb330, 0, none⟩ = some (.int .i64 t331) ∧ w22.cell? ⟨gb330, 1, none⟩ = some (.int .i64 t332) ∧ w22.cell? ⟨gb330, 2, none⟩ = some (.bool false) ∧ w22.cell? ⟨gb330, 3, none⟩ = some (.int .i64 t334) ∧ w22.cell? ⟨gb330, 4, none⟩ = some (.int .i64 t335) := hS_
                refine norm_ (a' := ?_) ?_ ?_
                rotate_left
                · simp only [putAll, Act.put, List.setIfInBounds_toArray, List.set_cons_zero, List.set_cons_succ]
                  rfl
                refine one_ (i := 3) (N := some 6) #[true, true, true, true, true, true, false, false, false] rfl rfl (one_of HT_.out (by kernel_rfl)) (by decide) (fun K hK => ?_)
                refine box_step ?hg (N := 6) ?hd (cs := #[.int .i64 0, .int .i64 0, .bool false, .int .i64 0, .int .i64 0]) (t := 23) ?hr ?_; (case hd => rfl); (case hg => rfl); (case hr => first | (go_simp; done) | (go_simp; rfl))
                intro gb337 hg w23 hbox hb
                have n0_ := Aside0.mk (blk_below (g := gb330) (o := .cells #[.int .i64 t331, .int .i64 t332, .bool false, .int .i64 t334, .int .i64 t335] 23 (0, 0)) (by (with_reducible repeat (first | refine blk_drewN ?_ _ | refine blk_drew ?_ | refine blk_alloc ?_ _)); exact BK330.out) hb)
                have n1_ := Aside0.mk (blk_below (g := gb338) (o := .cells #[.int .i64 0, .int .i64 0, .bool false, .int .i64 0, .int .i64 0] 23 (0, 0)) (by (with_reducible repeat (first | refine blk_drewN ?_ _ | refine blk_drew ?_ | refine blk_alloc ?_ _)); exact BK338.out) hb)
                have n2_ := Aside0.mk (blk_below (g := gb339) (o := .cells #[.int .i64 0, .int .i64 0, .bool false, .int .i64 0, .int .i64 0] 23 (0, 0)) (by (with_reducible repeat (first | refine blk_drewN ?_ _ | refine blk_drew ?_ | refine blk_alloc ?_ _)); exact BK339.out) hb)
                have n3_ := Aside0.mk (below_step (by repeat (first | (with_reducible first | exact HB.out | apply below_alloc | apply pw_below_drewN | apply below_drew1 | refine below_set ?_ GE330.out | refine below_set ?_ GE338.out | refine below_set ?_ GE339.out) | exact HB.out)) hb)
                have n4_ := Aside0.mk (hbox)
                have n5_ := Aside0.mk ((by rw [hg]; exact (below_size (by repeat (first | (with_reducible first | exact HB.out | apply below_alloc | apply pw_below_drewN | apply below_drew1 | refine below_set ?_ GE330.out | refine below_set ?_ GE338.out | refine below_set ?_ GE339.out) | exact HB.out))) : w.heap.size ≤ gb337))
                have n6_ := Aside0.mk ((by rw [hg]; exact (below_size (by repeat (first | (with_reducible first | exact HB.out | apply below_alloc | apply pw_below_drewN | apply below_drew1 | refine below_set ?_ GE330.out | refine below_set ?_ GE338.out | refine below_set ?_ GE339.out) | exact HB.out))) : w.heap.size ≤ gb337))
                have n7_ := Aside0.mk ((by rw [hg]; exact Nat.ne_of_lt (blk_lt (g := gb330) (o := .cells #[.int .i64 t331, .int .i64 t332, .bool false, .int .i64 t334, .int .i64 t335] 23 (0, 0)) (by (with_reducible repeat (first | refine blk_drewN ?_ _ | refine blk_drew ?_ | refine blk_alloc ?_ _)); exact BK330.out)) : gb330 ≠ gb337))
                have n8_ := Aside0.mk ((by rw [hg]; exact Nat.ne_of_gt (blk_lt (g := gb330) (o := .cells #[.int .i64 t331, .int .i64 t332, .bool false, .int .i64 t334, .int .i64 t335] 23 (0, 0)) (by (with_reducible repeat (first | refine blk_drewN ?_ _ | refine blk_drew ?_ | refine blk_alloc ?_ _)); exact BK330.out)) : gb337 ≠ gb330))
                have n9_ := Aside0.mk ((by rw [hg]; exact Nat.ne_of_lt (blk_lt (g := gb338) (o := .cells #[.int .i64 0, .int .i64 0, .bool false, .int .i64 0, .int .i64 0] 23 (0, 0)) (by (with_reducible repeat (first | refine blk_drewN ?_ _ | refine blk_drew ?_ | refine blk_alloc ?_ _)); exact BK338.out)) : gb338 ≠ gb337))
                have n10_ := Aside0.mk ((by rw [hg]; exact Nat.ne_of_gt (blk_lt (g := gb338) (o := .cells #[.int .i64 0, .int .i64 0, .bool false, .int .i64 0, .int .i64 0] 23 (0, 0)) (by (with_reducible repeat (first | refine blk_drewN ?_ _ | refine blk_drew ?_ | refine blk_alloc ?_ _)); exact BK338.out)) : gb337 ≠ gb338))
                have n11_ := Aside0.mk ((by rw [hg]; exact Nat.ne_of_lt (blk_lt (g := gb339) (o := .cells #[.int .i64 0, .int .i64 0, .bool false, .int .i64 0, .int .i64 0] 23 (0, 0)) (by (with_reducible repeat (first | refine blk_drewN ?_ _ | refine blk_drew ?_ | refine blk_alloc ?_ _)); exact BK339.out)) : gb339 ≠ gb337))
                have n12_ := Aside0.mk ((by rw [hg]; exact Nat.ne_of_gt (blk_lt (g := gb339) (o := .cells #[.int .i64 0, .int .i64 0, .bool false, .int .i64 0, .int .i64 0] 23 (0, 0)) (by (with_reducible repeat (first | refine blk_drewN ?_ _ | refine blk_drew ?_ | refine blk_alloc ?_ _)); exact BK339.out)) : gb337 ≠ gb339))
                clear BK330
                clear BK338
                clear BK339
                clear HB
                have BK330 := n0_
                have BK338 := n1_
                have BK339 := n2_
                have HB := n3_
                have BK337 := n4_
                have GW337 := n5_
                have GE337 := n6_
                have NB330_337 := n7_
                have NB337_330 := n8_
                have NB338_337 := n9_
                have NB337_338 := n10_
                have NB339_337 := n11_
                have NB337_339 := n12_
                clear n0_ n1_ n2_ n3_ n4_ n5_ n6_ n7_ n8_ n9_ n10_ n11_ n12_
                clear hb hbox hg
                refine hK.out _ _ ⟨(blk_cell BK330.out 0).trans rfl, (blk_cell BK330.out 1).trans rfl, (blk_cell BK330.out 2).trans rfl, (blk_cell BK330.out 3).trans rfl, (blk_cell BK330.out 4).trans rfl⟩ (fun hHeld => ?_)
                clear hK K
                refine norm_ (a' := ?_) ?_ ?_
                rotate_left
                · show Act.put _ (some 6) _ = _
                  simp only [Act.put, List.setIfInBounds_toArray, List.set_cons_zero, List.set_cons_succ, i64_w, i32_w]
                  rfl
                exact norm_ (by first | (simp only [putAll, Act.put, List.setIfInBounds_toArray, List.set_cons_zero, List.set_cons_succ]; done) | (simp only [putAll, Act.put, List.setIfInBounds_toArray, List.set_cons_zero, List.set_cons_succ]; rfl)) (hJ3_4_5 (gb337, gb338, gb339) _ ⟨hHeld, (by (with_reducible repeat (first | refine blk_drewN ?_ _ | refine blk_drew ?_ | refine blk_alloc ?_ _)); exact BK330.out), (by (with_reducible repeat (first | refine blk_drewN ?_ _ | refine blk_drew ?_ | refine blk_alloc ?_ _)); exact BK337.out), (by (with_reducible repeat (first | refine blk_drewN ?_ _ | refine blk_drew ?_ | refine blk_alloc ?_ _)); exact BK338.out), (by (with_reducible repeat (first | refine blk_drewN ?_ _ | refine blk_drew ?_ | refine blk_alloc ?_ _)); exact BK339.out), GW337.out, GE337.out, NB330_337.out, NB337_330.out, NB338_337.out, NB337_338.out, NB339_337.out, NB337_339.out, GW338.out, GE338.out, NB330_338.out, NB338_330.out, NB339_338.out, NB338_339.out, GW339.out, GE339.out, NB330_339.out, NB339_330.out, (by repeat (first | (with_reducible first | exact HB.out | apply below_alloc | apply pw_below_drewN | apply below_drew1 | refine below_set ?_ GE330.out | refine below_set ?_ GE338.out | refine below_set ?_ GE339.out | refine below_set ?_ GE337.out) | exact HB.out))⟩)
            · skip
              rintro ⟨gb337, gb339⟩ w22 ⟨hS_, h0_, h1_, h2_, h3_, h4_, h5_, h6_, h7_, h8_, h9_, h10_, h11_, h12_, h13_⟩
              have n0_ : Aside0 (w22.heap[gb330]? = some (.cells #[.int .i64 t331, .int .i64 t332, .bool false, .int .i64 t334, .int .i64 t335] 23 (0, 0))) := ⟨h0_⟩
              have n1_ : Aside0 (w22.heap[gb337]? = some (.cells #[.int .i64 0, .int .i64 0, .bool false, .int .i64 0, .int .i64 0] 23 (0, 0))) := ⟨h1_⟩
              have n2_ : Aside0 (w22.heap[gb339]? = some (.cells #[.int .i64 0, .int .i64 0, .bool false, .int .i64 0, .int .i64 0] 23 (0, 0))) := ⟨h2_⟩
              have n3_ : Aside0 (w.heap.size ≤ gb337) := ⟨h3_⟩
              have n4_ : Aside0 (w.heap.size ≤ gb337) := ⟨h4_⟩
              have n5_ : Aside0 (gb330 ≠ gb337) := ⟨h5_⟩
              have n6_ : Aside0 (gb337 ≠ gb330) := ⟨h6_⟩
              have n7_ : Aside0 (gb339 ≠ gb337) := ⟨h7_⟩
              have n8_ : Aside0 (gb337 ≠ gb339) := ⟨h8_⟩
              have n9_ : Aside0 (w.heap.size ≤ gb339) := ⟨h9_⟩
              have n10_ : Aside0 (w.heap.size ≤ gb339) := ⟨h10_⟩
              have n11_ : Aside0 (gb330 ≠ gb339) := ⟨h11_⟩
              have n12_ : Aside0 (gb339 ≠ gb330) := ⟨h12_⟩
              have n13_ : Aside0 (Below w.heap.size w w22) := ⟨h13_⟩
              clear BK330
              clear HB
              clear h0_ h1_ h2_ h3_ h4_ h5_ h6_ h7_ h8_ h9_ h10_ h11_ h12_ h13_
              have BK330 := n0_
              have BK337 := n1_
              have BK339 := n2_
              have GW337 := n3_
              have GE337 := n4_
              have NB330_337 := n5_
              have NB337_330 := n6_
              have NB339_337 := n7_
              have NB337_339 := n8_
              have GW339 := n9_
              have GE339 := n10_
              have NB330_339 := n11_
              have NB339_330 := n12_
              have HB := n13_
              clear n0_ n1_ n2_ n3_ n4_ n5_ n6_ n7_ n8_ n9_ n10_ n11_ n12_ n13_
              have hHeld : w22.cell? ⟨gb330, 0, none⟩ = some (.int .i64 t331) ∧ w22.cell? ⟨gb330, 1, none⟩ = some (.int .i64 t332) ∧ w22.cell? ⟨gb330, 2, none⟩ = some (.bool false) ∧ w22.cell? ⟨gb330, 3, none⟩ = some (.int .i64 t334) ∧ w22.cell? ⟨gb330, 4, none⟩ = some (.int .i64 t335) := hS_
              refine norm_ (a' := ?_) ?_ ?_
              rotate_left
              · simp only [putAll, Act.put, List.setIfInBounds_toArray, List.set_cons_zero, List.set_cons_succ]
                rfl
              refine one_ (i := 4) (N := some 7) #[true, true, true, true, true, true, false, false, false] rfl rfl (one_of HT_.out (by kernel_rfl)) (by decide) (fun K hK => ?_)
              refine box_step ?hg (N := 7) ?hd (cs := #[.int .i64 0, .int .i64 0, .bool false, .int .i64 0, .int .i64 0]) (t := 23) ?hr ?_; (case hd => rfl); (case hg => rfl); (case hr => first | (go_simp; done) | (go_simp; rfl))
              intro gb338 hg w23 hbox hb
              have n0_ := Aside0.mk (blk_below (g := gb330) (o := .cells #[.int .i64 t331, .int .i64 t332, .bool false, .int .i64 t334, .int .i64 t335] 23 (0, 0)) (by (with_reducible repeat (first | refine blk_drewN ?_ _ | refine blk_drew ?_ | refine blk_alloc ?_ _)); exact BK330.out) hb)
              have n1_ := Aside0.mk (blk_below (g := gb337) (o := .cells #[.int .i64 0, .int .i64 0, .bool false, .int .i64 0, .int .i64 0] 23 (0, 0)) (by (with_reducible repeat (first | refine blk_drewN ?_ _ | refine blk_drew ?_ | refine blk_alloc ?_ _)); exact BK337.out) hb)
              have n2_ := Aside0.mk (blk_below (g := gb339) (o := .cells #[.int .i64 0, .int .i64 0, .bool false, .int .i64 0, .int .i64 0] 23 (0, 0)) (by (with_reducible repeat (first | refine blk_drewN ?_ _ | refine blk_drew ?_ | refine blk_alloc ?_ _)); exact BK339.out) hb)
              have n3_ := Aside0.mk (below_step (by repeat (first | (with_reducible first | exact HB.out | apply below_alloc | apply pw_below_drewN | apply below_drew1 | refine below_set ?_ GE330.out | refine below_set ?_ GE337.out | refine below_set ?_ GE339.out) | exact HB.out)) hb)
              have n4_ := Aside0.mk (hbox)
              have n5_ := Aside0.mk ((by rw [hg]; exact (below_size (by repeat (first | (with_reducible first | exact HB.out | apply below_alloc | apply pw_below_drewN | apply below_drew1 | refine below_set ?_ GE330.out | refine below_set ?_ GE337.out | refine below_set ?_ GE339.out) | exact HB.out))) : w.heap.size ≤ gb338))
              have n6_ := Aside0.mk ((by rw [hg]; exact (below_size (by repeat (first | (with_reducible first | exact HB.out | apply below_alloc | apply pw_below_drewN | apply below_drew1 | refine below_set ?_ GE330.out | refine below_set ?_ GE337.out | refine below_set ?_ GE339.out) | exact HB.out))) : w.heap.size ≤ gb338))
              have n7_ := Aside0.mk ((by rw [hg]; exact Nat.ne_of_lt (blk_lt (g := gb330) (o := .cells #[.int .i64 t331, .int .i64 t332, .bool false, .int .i64 t334, .int .i64 t335] 23 (0, 0)) (by (with_reducible repeat (first | refine blk_drewN ?_ _ | refine blk_drew ?_ | refine blk_alloc ?_ _)); exact BK330.out)) : gb330 ≠ gb338))
              have n8_ := Aside0.mk ((by rw [hg]; exact Nat.ne_of_gt (blk_lt (g := gb330) (o := .cells #[.int .i64 t331, .int .i64 t332, .bool false, .int .i64 t334, .int .i64 t335] 23 (0, 0)) (by (with_reducible repeat (first | refine blk_drewN ?_ _ | refine blk_drew ?_ | refine blk_alloc ?_ _)); exact BK330.out)) : gb338 ≠ gb330))
              have n9_ := Aside0.mk ((by rw [hg]; exact Nat.ne_of_lt (blk_lt (g := gb337) (o := .cells #[.int .i64 0, .int .i64 0, .bool false, .int .i64 0, .int .i64 0] 23 (0, 0)) (by (with_reducible repeat (first | refine blk_drewN ?_ _ | refine blk_drew ?_ | refine blk_alloc ?_ _)); exact BK337.out)) : gb337 ≠ gb338))
              have n10_ := Aside0.mk ((by rw [hg]; exact Nat.ne_of_gt (blk_lt (g := gb337) (o := .cells #[.int .i64 0, .int .i64 0, .bool false, .int .i64 0, .int .i64 0] 23 (0, 0)) (by (with_reducible repeat (first | refine blk_drewN ?_ _ | refine blk_drew ?_ | refine blk_alloc ?_ _)); exact BK337.out)) : gb338 ≠ gb337))
              have n11_ := Aside0.mk ((by rw [hg]; exact Nat.ne_of_lt (blk_lt (g := gb339) (o := .cells #[.int .i64 0, .int .i64 0, .bool false, .int .i64 0, .int .i64 0] 23 (0, 0)) (by (with_reducible repeat (first | refine blk_drewN ?_ _ | refine blk_drew ?_ | refine blk_alloc ?_ _)); exact BK339.out)) : gb339 ≠ gb338))
              have n12_ := Aside0.mk ((by rw [hg]; exact Nat.ne_of_gt (blk_lt (g := gb339) (o := .cells #[.int .i64 0, .int .i64 0, .bool false, .int .i64 0, .int .i64 0] 23 (0, 0)) (by (with_reducible repeat (first | refine blk_drewN ?_ _ | refine blk_drew ?_ | refine blk_alloc ?_ _)); exact BK339.out)) : gb338 ≠ gb339))
              clear BK330
              clear BK337
              clear BK339
              clear HB
              have BK330 := n0_
              have BK337 := n1_
              have BK339 := n2_
              have HB := n3_
              have BK338 := n4_
              have GW338 := n5_
              have GE338 := n6_
              have NB330_338 := n7_
              have NB338_330 := n8_
              have NB337_338 := n9_
              have NB338_337 := n10_
              have NB339_338 := n11_
              have NB338_339 := n12_
              clear n0_ n1_ n2_ n3_ n4_ n5_ n6_ n7_ n8_ n9_ n10_ n11_ n12_
              clear hb hbox hg
              refine hK.out _ _ ⟨(blk_cell BK330.out 0).trans rfl, (blk_cell BK330.out 1).trans rfl, (blk_cell BK330.out 2).trans rfl, (blk_cell BK330.out 3).trans rfl, (blk_cell BK330.out 4).trans rfl⟩ (fun hHeld => ?_)
              clear hK K
              refine norm_ (a' := ?_) ?_ ?_
              rotate_left
              · show Act.put _ (some 7) _ = _
                simp only [Act.put, List.setIfInBounds_toArray, List.set_cons_zero, List.set_cons_succ, i64_w, i32_w]
                rfl
              exact norm_ (by first | (simp only [putAll, Act.put, List.setIfInBounds_toArray, List.set_cons_zero, List.set_cons_succ]; done) | (simp only [putAll, Act.put, List.setIfInBounds_toArray, List.set_cons_zero, List.set_cons_succ]; rfl)) (hJ3_4_5 (gb337, gb338, gb339) _ ⟨hHeld, (by (with_reducible repeat (first | refine blk_drewN ?_ _ | refine blk_drew ?_ | refine blk_alloc ?_ _)); exact BK330.out), (by (with_reducible repeat (first | refine blk_drewN ?_ _ | refine blk_drew ?_ | refine blk_alloc ?_ _)); exact BK337.out), (by (with_reducible repeat (first | refine blk_drewN ?_ _ | refine blk_drew ?_ | refine blk_alloc ?_ _)); exact BK338.out), (by (with_reducible repeat (first | refine blk_drewN ?_ _ | refine blk_drew ?_ | refine blk_alloc ?_ _)); exact BK339.out), GW337.out, GE337.out, NB330_337.out, NB337_330.out, NB338_337.out, NB337_338.out, NB339_337.out, NB337_339.out, GW338.out, GE338.out, NB330_338.out, NB338_330.out, NB339_338.out, NB338_339.out, GW339.out, GE339.out, NB330_339.out, NB339_330.out, (by repeat (first | (with_reducible first | exact HB.out | apply below_alloc | apply pw_below_drewN | apply below_drew1 | refine below_set ?_ GE330.out | refine below_set ?_ GE337.out | refine below_set ?_ GE339.out | refine below_set ?_ GE338.out) | exact HB.out))⟩)
          · skip
            rintro ⟨gb337, gb338⟩ w22 ⟨hS_, h0_, h1_, h2_, h3_, h4_, h5_, h6_, h7_, h8_, h9_, h10_, h11_, h12_, h13_⟩
            have n0_ : Aside0 (w22.heap[gb330]? = some (.cells #[.int .i64 t331, .int .i64 t332, .bool false, .int .i64 t334, .int .i64 t335] 23 (0, 0))) := ⟨h0_⟩
            have n1_ : Aside0 (w22.heap[gb337]? = some (.cells #[.int .i64 0, .int .i64 0, .bool false, .int .i64 0, .int .i64 0] 23 (0, 0))) := ⟨h1_⟩
            have n2_ : Aside0 (w22.heap[gb338]? = some (.cells #[.int .i64 0, .int .i64 0, .bool false, .int .i64 0, .int .i64 0] 23 (0, 0))) := ⟨h2_⟩
            have n3_ : Aside0 (w.heap.size ≤ gb337) := ⟨h3_⟩
            have n4_ : Aside0 (w.heap.size ≤ gb337) := ⟨h4_⟩
            have n5_ : Aside0 (gb330 ≠ gb337) := ⟨h5_⟩
            have n6_ : Aside0 (gb337 ≠ gb330) := ⟨h6_⟩
            have n7_ : Aside0 (gb338 ≠ gb337) := ⟨h7_⟩
            have n8_ : Aside0 (gb337 ≠ gb338) := ⟨h8_⟩
            have n9_ : Aside0 (w.heap.size ≤ gb338) := ⟨h9_⟩
            have n10_ : Aside0 (w.heap.size ≤ gb338) := ⟨h10_⟩
            have n11_ : Aside0 (gb330 ≠ gb338) := ⟨h11_⟩
            have n12_ : Aside0 (gb338 ≠ gb330) := ⟨h12_⟩
            have n13_ : Aside0 (Below w.heap.size w w22) := ⟨h13_⟩
            clear BK330
            clear HB
            clear h0_ h1_ h2_ h3_ h4_ h5_ h6_ h7_ h8_ h9_ h10_ h11_ h12_ h13_
            have BK330 := n0_
            have BK337 := n1_
            have BK338 := n2_
            have GW337 := n3_
            have GE337 := n4_
            have NB330_337 := n5_
            have NB337_330 := n6_
            have NB338_337 := n7_
            have NB337_338 := n8_
            have GW338 := n9_
            have GE338 := n10_
            have NB330_338 := n11_
            have NB338_330 := n12_
            have HB := n13_
            clear n0_ n1_ n2_ n3_ n4_ n5_ n6_ n7_ n8_ n9_ n10_ n11_ n12_ n13_
            have hHeld : w22.cell? ⟨gb330, 0, none⟩ = some (.int .i64 t331) ∧ w22.cell? ⟨gb330, 1, none⟩ = some (.int .i64 t332) ∧ w22.cell? ⟨gb330, 2, none⟩ = some (.bool false) ∧ w22.cell? ⟨gb330, 3, none⟩ = some (.int .i64 t334) ∧ w22.cell? ⟨gb330, 4, none⟩ = some (.int .i64 t335) := hS_
            refine norm_ (a' := ?_) ?_ ?_
            rotate_left
            · simp only [putAll, Act.put, List.setIfInBounds_toArray, List.set_cons_zero, List.set_cons_succ]
              rfl
            refine one_ (i := 5) (N := some 8) #[true, true, true, true, true, true, false, false, false] rfl rfl (one_of HT_.out (by kernel_rfl)) (by decide) (fun K hK => ?_)
            refine box_step ?hg (N := 8) ?hd (cs := #[.int .i64 0, .int .i64 0, .bool false, .int .i64 0, .int .i64 0]) (t := 23) ?hr ?_; (case hd => rfl); (case hg => rfl); (case hr => first | (go_simp; done) | (go_simp; rfl))
            intro gb339 hg w23 hbox hb
            have n0_ := Aside0.mk (blk_below (g := gb330) (o := .cells #[.int .i64 t331, .int .i64 t332, .bool false, .int .i64 t334, .int .i64 t335] 23 (0, 0)) (by (with_reducible repeat (first | refine blk_drewN ?_ _ | refine blk_drew ?_ | refine blk_alloc ?_ _)); exact BK330.out) hb)
            have n1_ := Aside0.mk (blk_below (g := gb337) (o := .cells #[.int .i64 0, .int .i64 0, .bool false, .int .i64 0, .int .i64 0] 23 (0, 0)) (by (with_reducible repeat (first | refine blk_drewN ?_ _ | refine blk_drew ?_ | refine blk_alloc ?_ _)); exact BK337.out) hb)
            have n2_ := Aside0.mk (blk_below (g := gb338) (o := .cells #[.int .i64 0, .int .i64 0, .bool false, .int .i64 0, .int .i64 0] 23 (0, 0)) (by (with_reducible repeat (first | refine blk_drewN ?_ _ | refine blk_drew ?_ | refine blk_alloc ?_ _)); exact BK338.out) hb)
            have n3_ := Aside0.mk (below_step (by repeat (first | (with_reducible first | exact HB.out | apply below_alloc | apply pw_below_drewN | apply below_drew1 | refine below_set ?_ GE330.out | refine below_set ?_ GE337.out | refine below_set ?_ GE338.out) | exact HB.out)) hb)
            have n4_ := Aside0.mk (hbox)
            have n5_ := Aside0.mk ((by rw [hg]; exact (below_size (by repeat (first | (with_reducible first | exact HB.out | apply below_alloc | apply pw_below_drewN | apply below_drew1 | refine below_set ?_ GE330.out | refine below_set ?_ GE337.out | refine below_set ?_ GE338.out) | exact HB.out))) : w.heap.size ≤ gb339))
            have n6_ := Aside0.mk ((by rw [hg]; exact (below_size (by repeat (first | (with_reducible first | exact HB.out | apply below_alloc | apply pw_below_drewN | apply below_drew1 | refine below_set ?_ GE330.out | refine below_set ?_ GE337.out | refine below_set ?_ GE338.out) | exact HB.out))) : w.heap.size ≤ gb339))
            have n7_ := Aside0.mk ((by rw [hg]; exact Nat.ne_of_lt (blk_lt (g := gb330) (o := .cells #[.int .i64 t331, .int .i64 t332, .bool false, .int .i64 t334, .int .i64 t335] 23 (0, 0)) (by (with_reducible repeat (first | refine blk_drewN ?_ _ | refine blk_drew ?_ | refine blk_alloc ?_ _)); exact BK330.out)) : gb330 ≠ gb339))
            have n8_ := Aside0.mk ((by rw [hg]; exact Nat.ne_of_gt (blk_lt (g := gb330) (o := .cells #[.int .i64 t331, .int .i64 t332, .bool false, .int .i64 t334, .int .i64 t335] 23 (0, 0)) (by (with_reducible repeat (first | refine blk_drewN ?_ _ | refine blk_drew ?_ | refine blk_alloc ?_ _)); exact BK330.out)) : gb339 ≠ gb330))
            have n9_ := Aside0.mk ((by rw [hg]; exact Nat.ne_of_lt (blk_lt (g := gb337) (o := .cells #[.int .i64 0, .int .i64 0, .bool false, .int .i64 0, .int .i64 0] 23 (0, 0)) (by (with_reducible repeat (first | refine blk_drewN ?_ _ | refine blk_drew ?_ | refine blk_alloc ?_ _)); exact BK337.out)) : gb337 ≠ gb339))
            have n10_ := Aside0.mk ((by rw [hg]; exact Nat.ne_of_gt (blk_lt (g := gb337) (o := .cells #[.int .i64 0, .int .i64 0, .bool false, .int .i64 0, .int .i64 0] 23 (0, 0)) (by (with_reducible repeat (first | refine blk_drewN ?_ _ | refine blk_drew ?_ | refine blk_alloc ?_ _)); exact BK337.out)) : gb339 ≠ gb337))
            have n11_ := Aside0.mk ((by rw [hg]; exact Nat.ne_of_lt (blk_lt (g := gb338) (o := .cells #[.int .i64 0, .int .i64 0, .bool false, .int .i64 0, .int .i64 0] 23 (0, 0)) (by (with_reducible repeat (first | refine blk_drewN ?_ _ | refine blk_drew ?_ | refine blk_alloc ?_ _)); exact BK338.out)) : gb338 ≠ gb339))
            have n12_ := Aside0.mk ((by rw [hg]; exact Nat.ne_of_gt (blk_lt (g := gb338) (o := .cells #[.int .i64 0, .int .i64 0, .bool false, .int .i64 0, .int .i64 0] 23 (0, 0)) (by (with_reducible repeat (first | refine blk_drewN ?_ _ | refine blk_drew ?_ | refine blk_alloc ?_ _)); exact BK338.out)) : gb339 ≠ gb338))
            clear BK330
            clear BK337
            clear BK338
            clear HB
            have BK330 := n0_
            have BK337 := n1_
            have BK338 := n2_
            have HB := n3_
            have BK339 := n4_
            have GW339 := n5_
            have GE339 := n6_
            have NB330_339 := n7_
            have NB339_330 := n8_
            have NB337_339 := n9_
            have NB339_337 := n10_
            have NB338_339 := n11_
            have NB339_338 := n12_
            clear n0_ n1_ n2_ n3_ n4_ n5_ n6_ n7_ n8_ n9_ n10_ n11_ n12_
            clear hb hbox hg
            refine hK.out _ _ ⟨(blk_cell BK330.out 0).trans rfl, (blk_cell BK330.out 1).trans rfl, (blk_cell BK330.out 2).trans rfl, (blk_cell BK330.out 3).trans rfl, (blk_cell BK330.out 4).trans rfl⟩ (fun hHeld => ?_)
            clear hK K
            refine norm_ (a' := ?_) ?_ ?_
            rotate_left
            · show Act.put _ (some 8) _ = _
              simp only [Act.put, List.setIfInBounds_toArray, List.set_cons_zero, List.set_cons_succ, i64_w, i32_w]
              rfl
            exact norm_ (by first | (simp only [putAll, Act.put, List.setIfInBounds_toArray, List.set_cons_zero, List.set_cons_succ]; done) | (simp only [putAll, Act.put, List.setIfInBounds_toArray, List.set_cons_zero, List.set_cons_succ]; rfl)) (hJ3_4_5 (gb337, gb338, gb339) _ ⟨hHeld, (by (with_reducible repeat (first | refine blk_drewN ?_ _ | refine blk_drew ?_ | refine blk_alloc ?_ _)); exact BK330.out), (by (with_reducible repeat (first | refine blk_drewN ?_ _ | refine blk_drew ?_ | refine blk_alloc ?_ _)); exact BK337.out), (by (with_reducible repeat (first | refine blk_drewN ?_ _ | refine blk_drew ?_ | refine blk_alloc ?_ _)); exact BK338.out), (by (with_reducible repeat (first | refine blk_drewN ?_ _ | refine blk_drew ?_ | refine blk_alloc ?_ _)); exact BK339.out), GW337.out, GE337.out, NB330_337.out, NB337_330.out, NB338_337.out, NB337_338.out, NB339_337.out, NB337_339.out, GW338.out, GE338.out, NB330_338.out, NB338_330.out, NB339_338.out, NB338_339.out, GW339.out, GE339.out, NB330_339.out, NB339_330.out, (by repeat (first | (with_reducible first | exact HB.out | apply below_alloc | apply pw_below_drewN | apply below_drew1 | refine below_set ?_ GE330.out | refine below_set ?_ GE337.out | refine below_set ?_ GE338.out | refine below_set ?_ GE339.out) | exact HB.out))⟩)
        rintro ⟨gb337, gb338, gb339⟩ w23 ⟨hS_, h0_, h1_, h2_, h3_, h4_, h5_, h6_, h7_, h8_, h9_, h10_, h11_, h12_, h13_, h14_, h15_, h16_, h17_, h18_, h19_, h20_, h21_, h22_⟩
        have n0_ : Aside0 (w23.heap[gb330]? = some (.cells #[.int .i64 t331, .int .i64 t332, .bool false, .int .i64 t334, .int .i64 t335] 23 (0, 0))) := ⟨h0_⟩
        have n1_ : Aside0 (w23.heap[gb337]? = some (.cells #[.int .i64 0, .int .i64 0, .bool false, .int .i64 0, .int .i64 0] 23 (0, 0))) := ⟨h1_⟩
        have n2_ : Aside0 (w23.heap[gb338]? = some (.cells #[.int .i64 0, .int .i64 0, .bool false, .int .i64 0, .int .i64 0] 23 (0, 0))) := ⟨h2_⟩
        have n3_ : Aside0 (w23.heap[gb339]? = some (.cells #[.int .i64 0, .int .i64 0, .bool false, .int .i64 0, .int .i64 0] 23 (0, 0))) := ⟨h3_⟩
        have n4_ : Aside0 (w.heap.size ≤ gb337) := ⟨h4_⟩
        have n5_ : Aside0 (w.heap.size ≤ gb337) := ⟨h5_⟩
        have n6_ : Aside0 (gb330 ≠ gb337) := ⟨h6_⟩
        have n7_ : Aside0 (gb337 ≠ gb330) := ⟨h7_⟩
        have n8_ : Aside0 (gb338 ≠ gb337) := ⟨h8_⟩
        have n9_ : Aside0 (gb337 ≠ gb338) := ⟨h9_⟩
        have n10_ : Aside0 (gb339 ≠ gb337) := ⟨h10_⟩
        have n11_ : Aside0 (gb337 ≠ gb339) := ⟨h11_⟩
        have n12_ : Aside0 (w.heap.size ≤ gb338) := ⟨h12_⟩
        have n13_ : Aside0 (w.heap.size ≤ gb338) := ⟨h13_⟩
        have n14_ : Aside0 (gb330 ≠ gb338) := ⟨h14_⟩
        have n15_ : Aside0 (gb338 ≠ gb330) := ⟨h15_⟩
        have n16_ : Aside0 (gb339 ≠ gb338) := ⟨h16_⟩
        have n17_ : Aside0 (gb338 ≠ gb339) := ⟨h17_⟩
        have n18_ : Aside0 (w.heap.size ≤ gb339) := ⟨h18_⟩
        have n19_ : Aside0 (w.heap.size ≤ gb339) := ⟨h19_⟩
        have n20_ : Aside0 (gb330 ≠ gb339) := ⟨h20_⟩
        have n21_ : Aside0 (gb339 ≠ gb330) := ⟨h21_⟩
        have n22_ : Aside0 (Below w.heap.size w w23) := ⟨h22_⟩
        clear BK330
        clear HB
        clear h0_ h1_ h2_ h3_ h4_ h5_ h6_ h7_ h8_ h9_ h10_ h11_ h12_ h13_ h14_ h15_ h16_ h17_ h18_ h19_ h20_ h21_ h22_
        have BK330 := n0_
        have BK337 := n1_
        have BK338 := n2_
        have BK339 := n3_
        have GW337 := n4_
        have GE337 := n5_
        have NB330_337 := n6_
        have NB337_330 := n7_
        have NB338_337 := n8_
        have NB337_338 := n9_
        have NB339_337 := n10_
        have NB337_339 := n11_
        have GW338 := n12_
        have GE338 := n13_
        have NB330_338 := n14_
        have NB338_330 := n15_
        have NB339_338 := n16_
        have NB338_339 := n17_
        have GW339 := n18_
        have GE339 := n19_
        have NB330_339 := n20_
        have NB339_330 := n21_
        have HB := n22_
        clear n0_ n1_ n2_ n3_ n4_ n5_ n6_ n7_ n8_ n9_ n10_ n11_ n12_ n13_ n14_ n15_ n16_ n17_ n18_ n19_ n20_ n21_ n22_
        have hHeld : w23.cell? ⟨gb330, 0, none⟩ = some (.int .i64 t331) ∧ w23.cell? ⟨gb330, 1, none⟩ = some (.int .i64 t332) ∧ w23.cell? ⟨gb330, 2, none⟩ = some (.bool false) ∧ w23.cell? ⟨gb330, 3, none⟩ = some (.int .i64 t334) ∧ w23.cell? ⟨gb330, 4, none⟩ = some (.int .i64 t335) := hS_
        refine norm_ (a' := ?_) ?_ ?_
        rotate_left
        · simp only [putAll, Act.put, List.setIfInBounds_toArray, List.set_cons_zero, List.set_cons_succ]
          rfl
        refine one_ (i := 6) (N := none) #[true, true, true, true, true, true, true, false, false] rfl rfl (one_of HT_.out (by kernel_rfl)) (by decide) (fun K hK => ?_)
        have hs24 : w23.cell? ⟨gb337, 0, none⟩ = some (.int .i64 0) := (blk_cell BK337.out 0).trans rfl
        have hfs24 := blk_frozen BK337.out 0
        have hns24_0 := NB330_337.out
        have hns24_2 := NB338_337.out
        have hns24_3 := NB339_337.out
        have hms24_0 := NB337_330.out
        have hms24_2 := NB337_338.out
        have hms24_3 := NB337_339.out
        have hs25 : w23.cell? ⟨gb337, 1, none⟩ = some (.int .i64 0) := (blk_cell BK337.out 1).trans rfl
        have hfs25 := blk_frozen BK337.out 1
        have hns25_0 := NB330_337.out
        have hns25_2 := NB338_337.out
        have hns25_3 := NB339_337.out
        have hms25_0 := NB337_330.out
        have hms25_2 := NB337_338.out
        have hms25_3 := NB337_339.out
        have hs26 : w23.cell? ⟨gb337, 2, none⟩ = some (.bool false) := (blk_cell BK337.out 2).trans rfl
        have hfs26 := blk_frozen BK337.out 2
        have hns26_0 := NB330_337.out
        have hns26_2 := NB338_337.out
        have hns26_3 := NB339_337.out
        have hms26_0 := NB337_330.out
        have hms26_2 := NB337_338.out
        have hms26_3 := NB337_339.out
        have hs27 : w23.cell? ⟨gb337, 3, none⟩ = some (.int .i64 0) := (blk_cell BK337.out 3).trans rfl
        have hfs27 := blk_frozen BK337.out 3
        have hns27_0 := NB330_337.out
        have hns27_2 := NB338_337.out
        have hns27_3 := NB339_337.out
        have hms27_0 := NB337_330.out
        have hms27_2 := NB337_338.out
        have hms27_3 := NB337_339.out
        have hs28 : w23.cell? ⟨gb337, 4, none⟩ = some (.int .i64 0) := (blk_cell BK337.out 4).trans rfl
        have hfs28 := blk_frozen BK337.out 4
        have hns28_0 := NB330_337.out
        have hns28_2 := NB338_337.out
        have hns28_3 := NB339_337.out
        have hms28_0 := NB337_330.out
        have hms28_2 := NB337_338.out
        have hms28_3 := NB337_339.out
        refine skip_ (w1 := ?_) (by rfl) rfl ?_ ?_
        rotate_left
        · go_simp
          rfl
        refine hK.out _ _ ⟨((cell_far (p := ⟨gb337, _, none⟩) NB330_337.out _).trans (((cell_far (p := ⟨gb337, _, none⟩) NB330_337.out _).trans (((cell_far (p := ⟨gb337, _, none⟩) NB330_337.out _).trans (((cell_far (p := ⟨gb337, _, none⟩) NB330_337.out _).trans (((cell_far (p := ⟨gb337, _, none⟩) NB330_337.out _).trans (hHeld.1)))))))))), ((cell_far (p := ⟨gb337, _, none⟩) NB330_337.out _).trans (((cell_far (p := ⟨gb337, _, none⟩) NB330_337.out _).trans (((cell_far (p := ⟨gb337, _, none⟩) NB330_337.out _).trans (((cell_far (p := ⟨gb337, _, none⟩) NB330_337.out _).trans (((cell_far (p := ⟨gb337, _, none⟩) NB330_337.out _).trans (hHeld.2.1)))))))))), ((cell_far (p := ⟨gb337, _, none⟩) NB330_337.out _).trans (((cell_far (p := ⟨gb337, _, none⟩) NB330_337.out _).trans (((cell_far (p := ⟨gb337, _, none⟩) NB330_337.out _).trans (((cell_far (p := ⟨gb337, _, none⟩) NB330_337.out _).trans (((cell_far (p := ⟨gb337, _, none⟩) NB330_337.out _).trans (hHeld.2.2.1)))))))))), ((cell_far (p := ⟨gb337, _, none⟩) NB330_337.out _).trans (((cell_far (p := ⟨gb337, _, none⟩) NB330_337.out _).trans (((cell_far (p := ⟨gb337, _, none⟩) NB330_337.out _).trans (((cell_far (p := ⟨gb337, _, none⟩) NB330_337.out _).trans (((cell_far (p := ⟨gb337, _, none⟩) NB330_337.out _).trans (hHeld.2.2.2.1)))))))))), ((cell_far (p := ⟨gb337, _, none⟩) NB330_337.out _).trans (((cell_far (p := ⟨gb337, _, none⟩) NB330_337.out _).trans (((cell_far (p := ⟨gb337, _, none⟩) NB330_337.out _).trans (((cell_far (p := ⟨gb337, _, none⟩) NB330_337.out _).trans (((cell_far (p := ⟨gb337, _, none⟩) NB330_337.out _).trans (hHeld.2.2.2.2))))))))))⟩ (fun hHeld => ?_)
        clear hK K
        have m337_ := Aside0.mk (blk_put (cs' := #[.int .i64 t331, .int .i64 t332, .bool false, .int .i64 t334, .int .i64 t335]) (blk_put (blk_put (blk_put (blk_put BK337.out 0 (.int .i64 t331) rfl) 1 (.int .i64 t332) rfl) 2 (.bool false) rfl) 3 (.int .i64 t334) rfl) 4 (.int .i64 t335) rfl)
        have m330_ := Aside0.mk (blk_far (blk_far (blk_far (blk_far (blk_far BK330.out (p := ⟨gb337, 0, none⟩) NB330_337.out (.int .i64 t331)) (p := ⟨gb337, 1, none⟩) NB330_337.out (.int .i64 t332)) (p := ⟨gb337, 2, none⟩) NB330_337.out (.bool false)) (p := ⟨gb337, 3, none⟩) NB330_337.out (.int .i64 t334)) (p := ⟨gb337, 4, none⟩) NB330_337.out (.int .i64 t335))
        have m338_ := Aside0.mk (blk_far (blk_far (blk_far (blk_far (blk_far BK338.out (p := ⟨gb337, 0, none⟩) NB338_337.out (.int .i64 t331)) (p := ⟨gb337, 1, none⟩) NB338_337.out (.int .i64 t332)) (p := ⟨gb337, 2, none⟩) NB338_337.out (.bool false)) (p := ⟨gb337, 3, none⟩) NB338_337.out (.int .i64 t334)) (p := ⟨gb337, 4, none⟩) NB338_337.out (.int .i64 t335))
        have m339_ := Aside0.mk (blk_far (blk_far (blk_far (blk_far (blk_far BK339.out (p := ⟨gb337, 0, none⟩) NB339_337.out (.int .i64 t331)) (p := ⟨gb337, 1, none⟩) NB339_337.out (.int .i64 t332)) (p := ⟨gb337, 2, none⟩) NB339_337.out (.bool false)) (p := ⟨gb337, 3, none⟩) NB339_337.out (.int .i64 t334)) (p := ⟨gb337, 4, none⟩) NB339_337.out (.int .i64 t335))
        have mb_ := Aside0.mk (below_set (g := gb337) (j := 4) (v := .int .i64 t335) (below_set (g := gb337) (j := 3) (v := .int .i64 t334) (below_set (g := gb337) (j := 2) (v := .bool false) (below_set (g := gb337) (j := 1) (v := .int .i64 t332) (below_set (g := gb337) (j := 0) (v := .int .i64 t331) HB.out GE337.out) GE337.out) GE337.out) GE337.out) GE337.out)
        clear BK330 BK337 BK338 BK339 HB
        (try clear hfs24)
        (try clear hfs25)
        (try clear hfs26)
        (try clear hfs27)
        (try clear hfs28)
        (try clear hms24_0)
        (try clear hms24_2)
        (try clear hms24_3)
        (try clear hms25_0)
        (try clear hms25_2)
        (try clear hms25_3)
        (try clear hms26_0)
        (try clear hms26_2)
        (try clear hms26_3)
        (try clear hms27_0)
        (try clear hms27_2)
        (try clear hms27_3)
        (try clear hms28_0)
        (try clear hms28_2)
        (try clear hms28_3)
        (try clear hns24_0)
        (try clear hns24_2)
        (try clear hns24_3)
        (try clear hns25_0)
        (try clear hns25_2)
        (try clear hns25_3)
        (try clear hns26_0)
        (try clear hns26_2)
        (try clear hns26_3)
        (try clear hns27_0)
        (try clear hns27_2)
        (try clear hns27_3)
        (try clear hns28_0)
        (try clear hns28_2)
        (try clear hns28_3)
        (try clear hs24)
        (try clear hs25)
        (try clear hs26)
        (try clear hs27)
        (try clear hs28)
        generalize (((((w23.setCell ⟨gb337, 0, none⟩ (.int .i64 t331)).setCell ⟨gb337, 1, none⟩ (.int .i64 t332)).setCell ⟨gb337, 2, none⟩ (.bool false)).setCell ⟨gb337, 3, none⟩ (.int .i64 t334)).setCell ⟨gb337, 4, none⟩ (.int .i64 t335)) = w23 at m330_ m337_ m338_ m339_ mb_ hHeld ⊢
        have BK330 := m330_
        have BK337 := m337_
        have BK338 := m338_
        have BK339 := m339_
        have HB := mb_
        clear m330_ m337_ m338_ m339_ mb_
        refine one_ (i := 7) (N := none) #[true, true, true, true, true, true, true, true, false] rfl rfl (one_of HT_.out (by kernel_rfl)) (by decide) (fun K hK => ?_)
        have hs29 : w23.cell? ⟨gb338, 0, none⟩ = some (.int .i64 0) := (blk_cell BK338.out 0).trans rfl
        have hfs29 := blk_frozen BK338.out 0
        have hns29_0 := NB330_338.out
        have hns29_1 := NB337_338.out
        have hns29_3 := NB339_338.out
        have hms29_0 := NB338_330.out
        have hms29_1 := NB338_337.out
        have hms29_3 := NB338_339.out
        have hs30 : w23.cell? ⟨gb338, 1, none⟩ = some (.int .i64 0) := (blk_cell BK338.out 1).trans rfl
        have hfs30 := blk_frozen BK338.out 1
        have hns30_0 := NB330_338.out
        have hns30_1 := NB337_338.out
        have hns30_3 := NB339_338.out
        have hms30_0 := NB338_330.out
        have hms30_1 := NB338_337.out
        have hms30_3 := NB338_339.out
        have hs31 : w23.cell? ⟨gb338, 2, none⟩ = some (.bool false) := (blk_cell BK338.out 2).trans rfl
        have hfs31 := blk_frozen BK338.out 2
        have hns31_0 := NB330_338.out
        have hns31_1 := NB337_338.out
        have hns31_3 := NB339_338.out
        have hms31_0 := NB338_330.out
        have hms31_1 := NB338_337.out
        have hms31_3 := NB338_339.out
        have hs32 : w23.cell? ⟨gb338, 3, none⟩ = some (.int .i64 0) := (blk_cell BK338.out 3).trans rfl
        have hfs32 := blk_frozen BK338.out 3
        have hns32_0 := NB330_338.out
        have hns32_1 := NB337_338.out
        have hns32_3 := NB339_338.out
        have hms32_0 := NB338_330.out
        have hms32_1 := NB338_337.out
        have hms32_3 := NB338_339.out
        have hs33 : w23.cell? ⟨gb338, 4, none⟩ = some (.int .i64 0) := (blk_cell BK338.out 4).trans rfl
        have hfs33 := blk_frozen BK338.out 4
        have hns33_0 := NB330_338.out
        have hns33_1 := NB337_338.out
        have hns33_3 := NB339_338.out
        have hms33_0 := NB338_330.out
        have hms33_1 := NB338_337.out
        have hms33_3 := NB338_339.out
        refine skip_ (w1 := ?_) (by rfl) rfl ?_ ?_
        rotate_left
        · go_simp
          rfl
        refine hK.out _ _ ⟨((cell_far (p := ⟨gb338, _, none⟩) NB330_338.out _).trans (((cell_far (p := ⟨gb338, _, none⟩) NB330_338.out _).trans (((cell_far (p := ⟨gb338, _, none⟩) NB330_338.out _).trans (((cell_far (p := ⟨gb338, _, none⟩) NB330_338.out _).trans (((cell_far (p := ⟨gb338, _, none⟩) NB330_338.out _).trans (hHeld.1)))))))))), ((cell_far (p := ⟨gb338, _, none⟩) NB330_338.out _).trans (((cell_far (p := ⟨gb338, _, none⟩) NB330_338.out _).trans (((cell_far (p := ⟨gb338, _, none⟩) NB330_338.out _).trans (((cell_far (p := ⟨gb338, _, none⟩) NB330_338.out _).trans (((cell_far (p := ⟨gb338, _, none⟩) NB330_338.out _).trans (hHeld.2.1)))))))))), ((cell_far (p := ⟨gb338, _, none⟩) NB330_338.out _).trans (((cell_far (p := ⟨gb338, _, none⟩) NB330_338.out _).trans (((cell_far (p := ⟨gb338, _, none⟩) NB330_338.out _).trans (((cell_far (p := ⟨gb338, _, none⟩) NB330_338.out _).trans (((cell_far (p := ⟨gb338, _, none⟩) NB330_338.out _).trans (hHeld.2.2.1)))))))))), ((cell_far (p := ⟨gb338, _, none⟩) NB330_338.out _).trans (((cell_far (p := ⟨gb338, _, none⟩) NB330_338.out _).trans (((cell_far (p := ⟨gb338, _, none⟩) NB330_338.out _).trans (((cell_far (p := ⟨gb338, _, none⟩) NB330_338.out _).trans (((cell_far (p := ⟨gb338, _, none⟩) NB330_338.out _).trans (hHeld.2.2.2.1)))))))))), ((cell_far (p := ⟨gb338, _, none⟩) NB330_338.out _).trans (((cell_far (p := ⟨gb338, _, none⟩) NB330_338.out _).trans (((cell_far (p := ⟨gb338, _, none⟩) NB330_338.out _).trans (((cell_far (p := ⟨gb338, _, none⟩) NB330_338.out _).trans (((cell_far (p := ⟨gb338, _, none⟩) NB330_338.out _).trans (hHeld.2.2.2.2))))))))))⟩ (fun hHeld => ?_)
        clear hK K
        have m338_ := Aside0.mk (blk_put (cs' := #[.int .i64 t331, .int .i64 t332, .bool false, .int .i64 t334, .int .i64 t335]) (blk_put (blk_put (blk_put (blk_put BK338.out 0 (.int .i64 t331) rfl) 1 (.int .i64 t332) rfl) 2 (.bool false) rfl) 3 (.int .i64 t334) rfl) 4 (.int .i64 t335) rfl)
        have m330_ := Aside0.mk (blk_far (blk_far (blk_far (blk_far (blk_far BK330.out (p := ⟨gb338, 0, none⟩) NB330_338.out (.int .i64 t331)) (p := ⟨gb338, 1, none⟩) NB330_338.out (.int .i64 t332)) (p := ⟨gb338, 2, none⟩) NB330_338.out (.bool false)) (p := ⟨gb338, 3, none⟩) NB330_338.out (.int .i64 t334)) (p := ⟨gb338, 4, none⟩) NB330_338.out (.int .i64 t335))
        have m337_ := Aside0.mk (blk_far (blk_far (blk_far (blk_far (blk_far BK337.out (p := ⟨gb338, 0, none⟩) NB337_338.out (.int .i64 t331)) (p := ⟨gb338, 1, none⟩) NB337_338.out (.int .i64 t332)) (p := ⟨gb338, 2, none⟩) NB337_338.out (.bool false)) (p := ⟨gb338, 3, none⟩) NB337_338.out (.int .i64 t334)) (p := ⟨gb338, 4, none⟩) NB337_338.out (.int .i64 t335))
        have m339_ := Aside0.mk (blk_far (blk_far (blk_far (blk_far (blk_far BK339.out (p := ⟨gb338, 0, none⟩) NB339_338.out (.int .i64 t331)) (p := ⟨gb338, 1, none⟩) NB339_338.out (.int .i64 t332)) (p := ⟨gb338, 2, none⟩) NB339_338.out (.bool false)) (p := ⟨gb338, 3, none⟩) NB339_338.out (.int .i64 t334)) (p := ⟨gb338, 4, none⟩) NB339_338.out (.int .i64 t335))
        have mb_ := Aside0.mk (below_set (g := gb338) (j := 4) (v := .int .i64 t335) (below_set (g := gb338) (j := 3) (v := .int .i64 t334) (below_set (g := gb338) (j := 2) (v := .bool false) (below_set (g := gb338) (j := 1) (v := .int .i64 t332) (below_set (g := gb338) (j := 0) (v := .int .i64 t331) HB.out GE338.out) GE338.out) GE338.out) GE338.out) GE338.out)
        clear BK330 BK337 BK338 BK339 HB
        (try clear hfs25)
        (try clear hfs26)
        (try clear hfs27)
        (try clear hfs28)
        (try clear hfs29)
        (try clear hfs30)
        (try clear hfs31)
        (try clear hfs32)
        (try clear hfs33)
        (try clear hms24_2)
        (try clear hms24_3)
        (try clear hms25_0)
        (try clear hms25_2)
        (try clear hms25_3)
        (try clear hms26_0)
        (try clear hms26_2)
        (try clear hms26_3)
        (try clear hms27_0)
        (try clear hms27_2)
        (try clear hms27_3)
        (try clear hms28_0)
        (try clear hms28_2)
        (try clear hms28_3)
        (try clear hms29_0)
        (try clear hms29_1)
        (try clear hms29_3)
        (try clear hms30_0)
        (try clear hms30_1)
        (try clear hms30_3)
        (try clear hms31_0)
        (try clear hms31_1)
        (try clear hms31_3)
        (try clear hms32_0)
        (try clear hms32_1)
        (try clear hms32_3)
        (try clear hms33_0)
        (try clear hms33_1)
        (try clear hms33_3)
        (try clear hns25_0)
        (try clear hns25_2)
        (try clear hns25_3)
        (try clear hns26_0)
        (try clear hns26_2)
        (try clear hns26_3)
        (try clear hns27_0)
        (try clear hns27_2)
        (try clear hns27_3)
        (try clear hns28_0)
        (try clear hns28_2)
        (try clear hns28_3)
        (try clear hns29_0)
        (try clear hns29_1)
        (try clear hns29_3)
        (try clear hns30_0)
        (try clear hns30_1)
        (try clear hns30_3)
        (try clear hns31_0)
        (try clear hns31_1)
        (try clear hns31_3)
        (try clear hns32_0)
        (try clear hns32_1)
        (try clear hns32_3)
        (try clear hns33_0)
        (try clear hns33_1)
        (try clear hns33_3)
        (try clear hs25)
        (try clear hs26)
        (try clear hs27)
        (try clear hs28)
        (try clear hs29)
        (try clear hs30)
        (try clear hs31)
        (try clear hs32)
        (try clear hs33)
        generalize (((((w23.setCell ⟨gb338, 0, none⟩ (.int .i64 t331)).setCell ⟨gb338, 1, none⟩ (.int .i64 t332)).setCell ⟨gb338, 2, none⟩ (.bool false)).setCell ⟨gb338, 3, none⟩ (.int .i64 t334)).setCell ⟨gb338, 4, none⟩ (.int .i64 t335)) = w23 at m330_ m337_ m338_ m339_ mb_ hHeld ⊢
        have BK330 := m330_
        have BK337 := m337_
        have BK338 := m338_
        have BK339 := m339_
        have HB := mb_
        clear m330_ m337_ m338_ m339_ mb_
        refine one_ (i := 8) (N := none) #[true, true, true, true, true, true, true, true, true] rfl rfl (one_of HT_.out (by kernel_rfl)) (by decide) (fun K hK => ?_)
        have hs34 : w23.cell? ⟨gb339, 0, none⟩ = some (.int .i64 0) := (blk_cell BK339.out 0).trans rfl
        have hfs34 := blk_frozen BK339.out 0
        have hns34_0 := NB330_339.out
        have hns34_1 := NB337_339.out
        have hns34_2 := NB338_339.out
        have hms34_0 := NB339_330.out
        have hms34_1 := NB339_337.out
        have hms34_2 := NB339_338.out
        have hs35 : w23.cell? ⟨gb339, 1, none⟩ = some (.int .i64 0) := (blk_cell BK339.out 1).trans rfl
        have hfs35 := blk_frozen BK339.out 1
        have hns35_0 := NB330_339.out
        have hns35_1 := NB337_339.out
        have hns35_2 := NB338_339.out
        have hms35_0 := NB339_330.out
        have hms35_1 := NB339_337.out
        have hms35_2 := NB339_338.out
        have hs36 : w23.cell? ⟨gb339, 2, none⟩ = some (.bool false) := (blk_cell BK339.out 2).trans rfl
        have hfs36 := blk_frozen BK339.out 2
        have hns36_0 := NB330_339.out
        have hns36_1 := NB337_339.out
        have hns36_2 := NB338_339.out
        have hms36_0 := NB339_330.out
        have hms36_1 := NB339_337.out
        have hms36_2 := NB339_338.out
        have hs37 : w23.cell? ⟨gb339, 3, none⟩ = some (.int .i64 0) := (blk_cell BK339.out 3).trans rfl
        have hfs37 := blk_frozen BK339.out 3
        have hns37_0 := NB330_339.out
        have hns37_1 := NB337_339.out
        have hns37_2 := NB338_339.out
        have hms37_0 := NB339_330.out
        have hms37_1 := NB339_337.out
        have hms37_2 := NB339_338.out
        have hs38 : w23.cell? ⟨gb339, 4, none⟩ = some (.int .i64 0) := (blk_cell BK339.out 4).trans rfl
        have hfs38 := blk_frozen BK339.out 4
        have hns38_0 := NB330_339.out
        have hns38_1 := NB337_339.out
        have hns38_2 := NB338_339.out
        have hms38_0 := NB339_330.out
        have hms38_1 := NB339_337.out
        have hms38_2 := NB339_338.out
        refine skip_ (w1 := ?_) (by rfl) rfl ?_ ?_
        rotate_left
        · go_simp
          rfl
        refine hK.out _ _ ⟨((cell_far (p := ⟨gb339, _, none⟩) NB330_339.out _).trans (((cell_far (p := ⟨gb339, _, none⟩) NB330_339.out _).trans (((cell_far (p := ⟨gb339, _, none⟩) NB330_339.out _).trans (((cell_far (p := ⟨gb339, _, none⟩) NB330_339.out _).trans (((cell_far (p := ⟨gb339, _, none⟩) NB330_339.out _).trans (hHeld.1)))))))))), ((cell_far (p := ⟨gb339, _, none⟩) NB330_339.out _).trans (((cell_far (p := ⟨gb339, _, none⟩) NB330_339.out _).trans (((cell_far (p := ⟨gb339, _, none⟩) NB330_339.out _).trans (((cell_far (p := ⟨gb339, _, none⟩) NB330_339.out _).trans (((cell_far (p := ⟨gb339, _, none⟩) NB330_339.out _).trans (hHeld.2.1)))))))))), ((cell_far (p := ⟨gb339, _, none⟩) NB330_339.out _).trans (((cell_far (p := ⟨gb339, _, none⟩) NB330_339.out _).trans (((cell_far (p := ⟨gb339, _, none⟩) NB330_339.out _).trans (((cell_far (p := ⟨gb339, _, none⟩) NB330_339.out _).trans (((cell_far (p := ⟨gb339, _, none⟩) NB330_339.out _).trans (hHeld.2.2.1)))))))))), ((cell_far (p := ⟨gb339, _, none⟩) NB330_339.out _).trans (((cell_far (p := ⟨gb339, _, none⟩) NB330_339.out _).trans (((cell_far (p := ⟨gb339, _, none⟩) NB330_339.out _).trans (((cell_far (p := ⟨gb339, _, none⟩) NB330_339.out _).trans (((cell_far (p := ⟨gb339, _, none⟩) NB330_339.out _).trans (hHeld.2.2.2.1)))))))))), ((cell_far (p := ⟨gb339, _, none⟩) NB330_339.out _).trans (((cell_far (p := ⟨gb339, _, none⟩) NB330_339.out _).trans (((cell_far (p := ⟨gb339, _, none⟩) NB330_339.out _).trans (((cell_far (p := ⟨gb339, _, none⟩) NB330_339.out _).trans (((cell_far (p := ⟨gb339, _, none⟩) NB330_339.out _).trans (hHeld.2.2.2.2))))))))))⟩ (fun hHeld => ?_)
        clear hK K
        have m339_ := Aside0.mk (blk_put (cs' := #[.int .i64 t331, .int .i64 t332, .bool false, .int .i64 t334, .int .i64 t335]) (blk_put (blk_put (blk_put (blk_put BK339.out 0 (.int .i64 t331) rfl) 1 (.int .i64 t332) rfl) 2 (.bool false) rfl) 3 (.int .i64 t334) rfl) 4 (.int .i64 t335) rfl)
        have m330_ := Aside0.mk (blk_far (blk_far (blk_far (blk_far (blk_far BK330.out (p := ⟨gb339, 0, none⟩) NB330_339.out (.int .i64 t331)) (p := ⟨gb339, 1, none⟩) NB330_339.out (.int .i64 t332)) (p := ⟨gb339, 2, none⟩) NB330_339.out (.bool false)) (p := ⟨gb339, 3, none⟩) NB330_339.out (.int .i64 t334)) (p := ⟨gb339, 4, none⟩) NB330_339.out (.int .i64 t335))
        have m337_ := Aside0.mk (blk_far (blk_far (blk_far (blk_far (blk_far BK337.out (p := ⟨gb339, 0, none⟩) NB337_339.out (.int .i64 t331)) (p := ⟨gb339, 1, none⟩) NB337_339.out (.int .i64 t332)) (p := ⟨gb339, 2, none⟩) NB337_339.out (.bool false)) (p := ⟨gb339, 3, none⟩) NB337_339.out (.int .i64 t334)) (p := ⟨gb339, 4, none⟩) NB337_339.out (.int .i64 t335))
        have m338_ := Aside0.mk (blk_far (blk_far (blk_far (blk_far (blk_far BK338.out (p := ⟨gb339, 0, none⟩) NB338_339.out (.int .i64 t331)) (p := ⟨gb339, 1, none⟩) NB338_339.out (.int .i64 t332)) (p := ⟨gb339, 2, none⟩) NB338_339.out (.bool false)) (p := ⟨gb339, 3, none⟩) NB338_339.out (.int .i64 t334)) (p := ⟨gb339, 4, none⟩) NB338_339.out (.int .i64 t335))
        have mb_ := Aside0.mk (below_set (g := gb339) (j := 4) (v := .int .i64 t335) (below_set (g := gb339) (j := 3) (v := .int .i64 t334) (below_set (g := gb339) (j := 2) (v := .bool false) (below_set (g := gb339) (j := 1) (v := .int .i64 t332) (below_set (g := gb339) (j := 0) (v := .int .i64 t331) HB.out GE339.out) GE339.out) GE339.out) GE339.out) GE339.out)
        clear BK330 BK337 BK338 BK339 HB
        (try clear hfs34)
        (try clear hfs35)
        (try clear hfs36)
        (try clear hfs37)
        (try clear hfs38)
        (try clear hms34_0)
        (try clear hms34_1)
        (try clear hms34_2)
        (try clear hms35_0)
        (try clear hms35_1)
        (try clear hms35_2)
        (try clear hms36_0)
        (try clear hms36_1)
        (try clear hms36_2)
        (try clear hms37_0)
        (try clear hms37_1)
        (try clear hms37_2)
        (try clear hms38_0)
        (try clear hms38_1)
        (try clear hms38_2)
        (try clear hns34_0)
        (try clear hns34_1)
        (try clear hns34_2)
        (try clear hns35_0)
        (try clear hns35_1)
        (try clear hns35_2)
        (try clear hns36_0)
        (try clear hns36_1)
        (try clear hns36_2)
        (try clear hns37_0)
        (try clear hns37_1)
        (try clear hns37_2)
        (try clear hns38_0)
        (try clear hns38_1)
        (try clear hns38_2)
        (try clear hs34)
        (try clear hs35)
        (try clear hs36)
        (try clear hs37)
        (try clear hs38)
        generalize (((((w23.setCell ⟨gb339, 0, none⟩ (.int .i64 t331)).setCell ⟨gb339, 1, none⟩ (.int .i64 t332)).setCell ⟨gb339, 2, none⟩ (.bool false)).setCell ⟨gb339, 3, none⟩ (.int .i64 t334)).setCell ⟨gb339, 4, none⟩ (.int .i64 t335)) = w23 at m330_ m337_ m338_ m339_ mb_ ⊢
        have BK330 := m330_
        have BK337 := m337_
        have BK338 := m338_
        have BK339 := m339_
        have HB := mb_
        clear m330_ m337_ m338_ m339_ mb_
        refine done_ (done_of HT_.out (by kernel_rfl)) ?_
        obtain ⟨i039, hi039, _, hsz39, _⟩ := info_parts info5
        obtain ⟨hcut39, hA39, hC39⟩ := print_take_of (P := Try.prog) (Value.int .u8) 0 40 5 .i64 Try.underlying40 hi039 hsz39 A1 c1 l1 (ji11) (of_decide_eq_true (by first | (with_reducible assumption) | assumption)) (of_decide_eq_true (by first | (with_reducible assumption) | assumption)) HC1.out
        have HR340 := Aside0.mk (Kd.C_of_reads (h1 := fun _ => rfl) (hA39 _ (Kd.reads_of_C HR1.out)))
        have HC340 := Aside0.mk hC39
        clear hA39 hC39 hi039 hsz39
        try go_wp2
        go_loopg [25] k (fun kq v25 w' => ∃ (x25_1 : Int) (x338000_1 : Int) (x338001_1 : Int) (x338002_1 : Bool) (x338003_1 : Int) (x338004_1 : Int) (x339000_1 : Int) (x339001_1 : Int) (x339002_1 : Bool) (x339003_1 : Int) (x339004_1 : Int) (x340000_1 : Int) (x340001_1 : Int) (x340002_1 : Bool) (x340003_1 : Int) (x340004_1 : Int), v25 = .int .i64 x25_1 ∧ Aside0 (jackstaylaw06_ConfMerges.l0 kq (l1.take ((ji11) : Int).toNat) ((l1.take ((ji11) : Int).toNat).length : Int) x25_1 t331 t332 false t334 t335 x338000_1 x338001_1 x338002_1 x338003_1 x338004_1 x339000_1 x339001_1 x339002_1 x339003_1 x339004_1 x340000_1 x340001_1 x340002_1 x340003_1 x340004_1 = some r) ∧ Aside0 (kq ≤ k) ∧ Aside0 (w'.heap[gb330]? = some (.cells #[.int .i64 t331, .int .i64 t332, .bool false, .int .i64 t334, .int .i64 t335] 23 (0, 0))) ∧ Aside0 (w'.heap[gb337]? = some (.cells #[.int .i64 x338000_1, .int .i64 x338001_1, .bool x338002_1, .int .i64 x338003_1, .int .i64 x338004_1] 23 (0, 0))) ∧ Aside0 (w'.heap[gb338]? = some (.cells #[.int .i64 x339000_1, .int .i64 x339001_1, .bool x339002_1, .int .i64 x339003_1, .int .i64 x339004_1] 23 (0, 0))) ∧ Aside0 (w'.heap[gb339]? = some (.cells #[.int .i64 x340000_1, .int .i64 x340001_1, .bool x340002_1, .int .i64 x340003_1, .int .i64 x340004_1] 23 (0, 0))) ∧ Aside0 (Below w.heap.size w w'))
        case atStart => exact ⟨(0), (t331), (t332), (false), (t334), (t335), (t331), (t332), (false), (t334), (t335), (t331), (t332), (false), (t334), (t335), (by first | rfl | (simp; done) | (simp [*]; done)), H', ⟨Nat.le_refl _⟩, ⟨BK330.out⟩, ⟨BK337.out⟩, ⟨BK338.out⟩, ⟨BK339.out⟩, ⟨by repeat (first | (with_reducible first | exact HB.out | apply below_alloc | apply pw_below_drewN | apply below_drew1 | refine below_set ?_ GE330.out | refine below_set ?_ GE337.out | refine below_set ?_ GE338.out | refine below_set ?_ GE339.out) | exact HB.out)⟩⟩
        case round =>
          clear H'
          try clear c1
          try clear p2
          obtain ⟨x25_1, x338000_1, x338001_1, x338002_1, x338003_1, x338004_1, x339000_1, x339001_1, x339002_1, x339003_1, x339004_1, x340000_1, x340001_1, x340002_1, x340003_1, x340004_1, rfl, HA, HK1, BK330, BK337, BK338, BK339, HB⟩ := hrel
          cases gk with
          | zero => exact absurd HA.out (by simp [jackstaylaw06_ConfMerges.l0])
          | succ k1 =>
            have H := HA.out
            clear HA
            simp only [jackstaylaw06_ConfMerges.l0] at H
            by_cases c40 : x25_1 < ((l1.take ((ji11) : Int).toNat).length : Int)
            · rw [if_pos c40] at H
              have c40b0 : decide (x25_1 < ((l1.take ((ji11) : Int).toNat).length : Int)) = true := decide_eq_true c40
              (try (have c40b0z := c40b0; simp only [List.length_drop, List.length_take] at c40b0z))
              (try (have c40b0y : decide (x25_1 < max ji11 0) = true := decide_eq_true (by have h_ := of_decide_eq_true c40b0z; omega)))
              clear c40
              by_cases c41 : 0 ≤ x25_1
              · rw [if_pos c41] at H
                have c41b0 : decide (0 ≤ x25_1) = true := decide_eq_true c41
                clear c41
                by_cases c42 : x25_1 < ((l1.take ((ji11) : Int).toNat).length : Int)
                · rw [if_pos c42] at H
                  have c42b0 : decide (x25_1 < ((l1.take ((ji11) : Int).toNat).length : Int)) = true := decide_eq_true c42
                  (try (have c42b0z := c42b0; simp only [List.length_drop, List.length_take] at c42b0z))
                  (try (have c42b0y : decide (x25_1 < max ji11 0) = true := decide_eq_true (by have h_ := of_decide_eq_true c42b0z; omega)))
                  clear c42
                  replace H := Option.bind_eq_some_iff.mp H
                  obtain ⟨⟨t343, t344, t345, t346, t347, t348⟩, A430, H⟩ := H
                  replace H : ((jackstaylaw06_ConfMerges_1.f ((1 + (Int.tmod (rd (l1.take ((ji11) : Int).toNat) x25_1) 9)) % 256)).bind fun t349 => (if t349 = true then ((conf_Event.f k1 x339000_1 x339001_1 x339002_1 x339003_1 x339004_1 ((1 + (Int.tmod (rd (l1.take ((ji11) : Int).toNat) x25_1) 9)) % 256)).bind fun bt350 => (if t345 = true then (if (t345 == bt350.2.2.1) = true then (if t343 = bt350.1 then ((jackstaylaw06_awake.f k1).bind fun t356 => (some t356)) else (some false)) else (some false)) else (if bt350.2.2.1 = true then (if (t345 == bt350.2.2.1) = true then (if t343 = bt350.1 then ((jackstaylaw06_awake.f k1).bind fun t357 => (some t357)) else (some false)) else (some false)) else (jackstaylaw06_ConfMerges.l0 k1 (l1.take ((ji11) : Int).toNat) ((l1.take ((ji11) : Int).toNat).length : Int) (wrap64 (x25_1 + 1)) t331 t332 false t334 t335 t343 t344 t345 t346 t347 bt350.1 bt350.2.1 bt350.2.2.1 bt350.2.2.2.1 bt350.2.2.2.2.1 x340000_1 x340001_1 x340002_1 x340003_1 x340004_1)))) else ((conf_Event.f k1 x340000_1 x340001_1 x340002_1 x340003_1 x340004_1 ((1 + (Int.tmod (rd (l1.take ((ji11) : Int).toNat) x25_1) 9)) % 256)).bind fun bt358 => (if t345 = true then (if (t345 == x339002_1) = true then (if t343 = x339000_1 then ((jackstaylaw06_awake.f k1).bind fun t364 => (some t364)) else (some false)) else (some false)) else (if x339002_1 = true then (if (t345 == x339002_1) = true then (if t343 = x339000_1 then ((jackstaylaw06_awake.f k1).bind fun t365 => (some t365)) else (some false)) else (some false)) else (jackstaylaw06_ConfMerges.l0 k1 (l1.take ((ji11) : Int).toNat) ((l1.take ((ji11) : Int).toNat).length : Int) (wrap64 (x25_1 + 1)) t331 t332 false t334 t335 t343 t344 t345 t346 t347 x339000_1 x339001_1 x339002_1 x339003_1 x339004_1 bt358.1 bt358.2.1 bt358.2.2.1 bt358.2.2.2.1 bt358.2.2.2.2.1)))))) = some r := H
                  have A43 := Aside0.mk A430
                  clear A430
                  replace H := Option.bind_eq_some_iff.mp H
                  obtain ⟨t349, A440, H⟩ := H
                  replace H : (if t349 = true then ((conf_Event.f k1 x339000_1 x339001_1 x339002_1 x339003_1 x339004_1 ((1 + (Int.tmod (rd (l1.take ((ji11) : Int).toNat) x25_1) 9)) % 256)).bind fun bt350 => (if t345 = true then (if (t345 == bt350.2.2.1) = true then (if t343 = bt350.1 then ((jackstaylaw06_awake.f k1).bind fun t356 => (some t356)) else (some false)) else (some false)) else (if bt350.2.2.1 = true then (if (t345 == bt350.2.2.1) = true then (if t343 = bt350.1 then ((jackstaylaw06_awake.f k1).bind fun t357 => (some t357)) else (some false)) else (some false)) else (jackstaylaw06_ConfMerges.l0 k1 (l1.take ((ji11) : Int).toNat) ((l1.take ((ji11) : Int).toNat).length : Int) (wrap64 (x25_1 + 1)) t331 t332 false t334 t335 t343 t344 t345 t346 t347 bt350.1 bt350.2.1 bt350.2.2.1 bt350.2.2.2.1 bt350.2.2.2.2.1 x340000_1 x340001_1 x340002_1 x340003_1 x340004_1)))) else ((conf_Event.f k1 x340000_1 x340001_1 x340002_1 x340003_1 x340004_1 ((1 + (Int.tmod (rd (l1.take ((ji11) : Int).toNat) x25_1) 9)) % 256)).bind fun bt358 => (if t345 = true then (if (t345 == x339002_1) = true then (if t343 = x339000_1 then ((jackstaylaw06_awake.f k1).bind fun t364 => (some t364)) else (some false)) else (some false)) else (if x339002_1 = true then (if (t345 == x339002_1) = true then (if t343 = x339000_1 then ((jackstaylaw06_awake.f k1).bind fun t365 => (some t365)) else (some false)) else (some false)) else (jackstaylaw06_ConfMerges.l0 k1 (l1.take ((ji11) : Int).toNat) ((l1.take ((ji11) : Int).toNat).length : Int) (wrap64 (x25_1 + 1)) t331 t332 false t334 t335 t343 t344 t345 t346 t347 x339000_1 x339001_1 x339002_1 x339003_1 x339004_1 bt358.1 bt358.2.1 bt358.2.2.1 bt358.2.2.2.1 bt358.2.2.2.2.1))))) = some r := H
                  have A44 := Aside0.mk A440
                  clear A440
                  by_cases c45 : t349 = true
                  · subst c45
                    have H1 : ((conf_Event.f k1 x339000_1 x339001_1 x339002_1 x339003_1 x339004_1 ((1 + (Int.tmod (rd (l1.take ((ji11) : Int).toNat) x25_1) 9)) % 256)).bind fun bt350 => (if t345 = true then (if (t345 == bt350.2.2.1) = true then (if t343 = bt350.1 then ((jackstaylaw06_awake.f k1).bind fun t356 => (some t356)) else (some false)) else (some false)) else (if bt350.2.2.1 = true then (if (t345 == bt350.2.2.1) = true then (if t343 = bt350.1 then ((jackstaylaw06_awake.f k1).bind fun t357 => (some t357)) else (some false)) else (some false)) else (jackstaylaw06_ConfMerges.l0 k1 (l1.take ((ji11) : Int).toNat) ((l1.take ((ji11) : Int).toNat).length : Int) (wrap64 (x25_1 + 1)) t331 t332 false t334 t335 t343 t344 t345 t346 t347 bt350.1 bt350.2.1 bt350.2.2.1 bt350.2.2.2.1 bt350.2.2.2.2.1 x340000_1 x340001_1 x340002_1 x340003_1 x340004_1)))) = some r := by rw [if_pos rfl] at H; exact H
                    clear H
                    have H := H1
                    clear H1
                    replace H := Option.bind_eq_some_iff.mp H
                    obtain ⟨⟨t350, t351, t352, t353, t354, t355⟩, A460, H⟩ := H
                    replace H : (if t345 = true then (if (t345 == t352) = true then (if t343 = t350 then ((jackstaylaw06_awake.f k1).bind fun t356 => (some t356)) else (some false)) else (some false)) else (if t352 = true then (if (t345 == t352) = true then (if t343 = t350 then ((jackstaylaw06_awake.f k1).bind fun t357 => (some t357)) else (some false)) else (some false)) else (jackstaylaw06_ConfMerges.l0 k1 (l1.take ((ji11) : Int).toNat) ((l1.take ((ji11) : Int).toNat).length : Int) (wrap64 (x25_1 + 1)) t331 t332 false t334 t335 t343 t344 t345 t346 t347 t350 t351 t352 t353 t354 x340000_1 x340001_1 x340002_1 x340003_1 x340004_1))) = some r := H
                    have A46 := Aside0.mk A460
                    clear A460
                    by_cases c47 : t345 = true
                    · subst c47
                      have H1 : (if (true == t352) = true then (if t343 = t350 then ((jackstaylaw06_awake.f k1).bind fun t356 => (some t356)) else (some false)) else (some false)) = some r := by rw [if_pos rfl] at H; exact H
                      clear H
                      have H := H1
                      clear H1
                      by_cases c48 : (true == t352) = true
                      · rw [if_pos c48] at H
                        have c48b0 : (true == t352) = true := c48
                        (try (have c48b0n := c48b0; simp only [beq_false, beq_true, Bool.not_not, Bool.not_true, Bool.not_false, Bool.true_and, Bool.and_true, Bool.false_or, Bool.or_false, Bool.true_bne, Bool.false_bne, Bool.bne_true, Bool.bne_false, Bool.true_beq, Bool.false_beq] at c48b0n; have c48b0o := c48b0n; simp only [Bool.not_eq_false', Bool.not_eq_true'] at c48b0o))
                        (try (have c48b1 : decide (true = t352) = true := by simpa using c48))
                        (try (have c48b2 : (true == t352) = true := by simpa using c48))
                        clear c48
                        by_cases c49 : t343 = t350
                        · rw [if_pos c49] at H
                          have c49b0 : (t343 == t350) = true := beq_iff_eq.mpr c49
                          have c49b1 : (t343 != t350) = false := bne_eq_false_iff_eq.mpr c49
                          clear c49
                          replace H := Option.bind_eq_some_iff.mp H
                          obtain ⟨t356, A500, H⟩ := H
                          replace H : (some t356) = some r := H
                          have A50 := Aside0.mk A500
                          clear A500
                          obtain rfl := Option.some.inj H
                          simp only [Option.some.injEq, Prod.mk.injEq] at H
                          obtain ⟨rfl⟩ := H
                          have p342 : 0 ≤ (x25_1 : Int) := of_decide_eq_true (by first | (with_reducible assumption) | assumption)
                          have q342 : x25_1 < ((l1.take ((ji11) : Int).toNat).length : Int) := of_decide_eq_true (by first | (with_reducible assumption) | assumption)
                          obtain ⟨ad342, e342, hx342_0⟩ := Kd.at_int HR340.out x25_1 p342 q342
                          cases e342
                          (try replace hx342_0 := (HB.out.cell (World.block_lt_of_cell? w _ hx342_0)).trans hx342_0)
                          replace p342 := eq_true p342
                          replace q342 := eq_true q342
                          (try (have q342y : (x25_1 < max ji11 0) = True := eq_true (by have h_ := of_eq_true q342; simp only [List.length_take] at h_; omega)))
                          (try (have q342z := q342; simp only [List.length_drop, List.length_take] at q342z))
                          have hnb51 := NB337_330.out
                          have hnc51 := NB330_337.out
                          have hnb52 := NB337_338.out
                          have hnc52 := NB338_337.out
                          have hnb53 := NB337_339.out
                          have hnc53 := NB339_337.out
                          have hcz54_0 : wr.cell? ⟨gb337, 0, none⟩ = some (.int .i64 x338000_1) := (blk_cell BK337.out 0).trans rfl
                          have hcz54_1 : wr.cell? ⟨gb337, 1, none⟩ = some (.int .i64 x338001_1) := (blk_cell BK337.out 1).trans rfl
                          have hcz54_2 : wr.cell? ⟨gb337, 2, none⟩ = some (.bool x338002_1) := (blk_cell BK337.out 2).trans rfl
                          have hcz54_3 : wr.cell? ⟨gb337, 3, none⟩ = some (.int .i64 x338003_1) := (blk_cell BK337.out 3).trans rfl
                          have hcz54_4 : wr.cell? ⟨gb337, 4, none⟩ = some (.int .i64 x338004_1) := (blk_cell BK337.out 4).trans rfl
                          have hfz54_0 := blk_frozen BK337.out 0
                          have hfz54_1 := blk_frozen BK337.out 1
                          have hfz54_2 := blk_frozen BK337.out 2
                          have hfz54_3 := blk_frozen BK337.out 3
                          have hfz54_4 := blk_frozen BK337.out 4
                          go_wp2_with (first | ((with_reducible refine gate_callee (f := 10) rfl ?_); refine goesL_ (some 35) rfl rfl Try.func10 (by kernel_rfl) rfl #[.agg #[.int .i64 x338000_1, .int .i64 x338001_1, .bool x338002_1, .int .i64 x338003_1, .int .i64 x338004_1], .int .u8 ((1 + (Int.tmod (rd (l1.take ((ji11) : Int).toNat) x25_1) 9)) % 256)] rfl (by (try simp only [List.map_toArray, List.map_cons, List.map_nil]); first | done | (simp only [hji11]; rfl) | rfl | (simp only [List.length_drop, List.length_take]; rfl)) ?_; (with_reducible refine (conf_Event.calls k1 x338000_1 x338001_1 x338002_1 x338003_1 x338004_1 ((1 + (Int.tmod (rd (l1.take ((ji11) : Int).toNat) x25_1) 9)) % 256) t343 t344 true t346 t347 t348 _ A43.out).mono ?_); rintro e w55 ⟨rfl, hb⟩; refine ⟨_, rfl, ?_⟩; have n0_ := Aside0.mk (blk_below (g := gb330) (o := .cells #[.int .i64 t331, .int .i64 t332, .bool false, .int .i64 t334, .int .i64 t335] 23 (0, 0)) (by (with_reducible repeat (first | refine blk_drewN ?_ _ | refine blk_drew ?_ | refine blk_alloc ?_ _)); exact BK330.out) hb); have n1_ := Aside0.mk (blk_below (g := gb337) (o := .cells #[.int .i64 x338000_1, .int .i64 x338001_1, .bool x338002_1, .int .i64 x338003_1, .int .i64 x338004_1] 23 (0, 0)) (by (with_reducible repeat (first | refine blk_drewN ?_ _ | refine blk_drew ?_ | refine blk_alloc ?_ _)); exact BK337.out) hb); have n2_ := Aside0.mk (blk_below (g := gb338) (o := .cells #[.int .i64 x339000_1, .int .i64 x339001_1, .bool x339002_1, .int .i64 x339003_1, .int .i64 x339004_1] 23 (0, 0)) (by (with_reducible repeat (first | refine blk_drewN ?_ _ | refine blk_drew ?_ | refine blk_alloc ?_ _)); exact BK338.out) hb); have n3_ := Aside0.mk (blk_below (g := gb339) (o := .cells #[.int .i64 x340000_1, .int .i64 x340001_1, .bool x340002_1, .int .i64 x340003_1, .int .i64 x340004_1] 23 (0, 0)) (by (with_reducible repeat (first | refine blk_drewN ?_ _ | refine blk_drew ?_ | refine blk_alloc ?_ _)); exact BK339.out) hb); have n4_ := Aside0.mk (below_step (by repeat (first | (with_reducible first | exact HB.out | apply below_alloc | apply pw_below_drewN | apply below_drew1 | refine below_set ?_ GE330.out | refine below_set ?_ GE337.out | refine below_set ?_ GE338.out | refine below_set ?_ GE339.out) | exact HB.out)) hb); clear BK330; clear BK337; clear BK338; clear BK339; clear HB; have BK330 := n0_; have BK337 := n1_; have BK338 := n2_; have BK339 := n3_; have HB := n4_; clear n0_ n1_ n2_ n3_ n4_; (try clear hb); (try clear hb2); (try clear hk); (try clear hi); have hcz56_0 : w55.cell? ⟨gb337, 0, none⟩ = some (.int .i64 x338000_1) := (blk_cell BK337.out 0).trans rfl; have hcz56_1 : w55.cell? ⟨gb337, 1, none⟩ = some (.int .i64 x338001_1) := (blk_cell BK337.out 1).trans rfl; have hcz56_2 : w55.cell? ⟨gb337, 2, none⟩ = some (.bool x338002_1) := (blk_cell BK337.out 2).trans rfl; have hcz56_3 : w55.cell? ⟨gb337, 3, none⟩ = some (.int .i64 x338003_1) := (blk_cell BK337.out 3).trans rfl; have hcz56_4 : w55.cell? ⟨gb337, 4, none⟩ = some (.int .i64 x338004_1) := (blk_cell BK337.out 4).trans rfl; have hfz56_0 := blk_frozen BK337.out 0; have hfz56_1 := blk_frozen BK337.out 1; have hfz56_2 := blk_frozen BK337.out 2; have hfz56_3 := blk_frozen BK337.out 3; have hfz56_4 := blk_frozen BK337.out 4) | (go_at_call 20; (with_reducible refine (jackstaylaw06_ConfMerges_1.calls ((1 + (Int.tmod (rd (l1.take ((ji11) : Int).toNat) x25_1) 9)) % 256) true _ A44.out).mono ?_); rintro e w' ⟨rfl, ⟨nd, rfl⟩⟩; have hnb57 := NB338_330.out; have hnc57 := NB330_338.out; have hnb58 := NB338_339.out; have hnc58 := NB339_338.out; have hcz59_0 : w55.cell? ⟨gb338, 0, none⟩ = some (.int .i64 x339000_1) := (blk_cell BK338.out 0).trans rfl; have hcz59_1 : w55.cell? ⟨gb338, 1, none⟩ = some (.int .i64 x339001_1) := (blk_cell BK338.out 1).trans rfl; have hcz59_2 : w55.cell? ⟨gb338, 2, none⟩ = some (.bool x339002_1) := (blk_cell BK338.out 2).trans rfl; have hcz59_3 : w55.cell? ⟨gb338, 3, none⟩ = some (.int .i64 x339003_1) := (blk_cell BK338.out 3).trans rfl; have hcz59_4 : w55.cell? ⟨gb338, 4, none⟩ = some (.int .i64 x339004_1) := (blk_cell BK338.out 4).trans rfl; have hfz59_0 := blk_frozen BK338.out 0; have hfz59_1 := blk_frozen BK338.out 1; have hfz59_2 := blk_frozen BK338.out 2; have hfz59_3 := blk_frozen BK338.out 3; have hfz59_4 := blk_frozen BK338.out 4) | ((with_reducible refine gate_callee (f := 10) rfl ?_); refine goesL_ (some 44) rfl rfl Try.func10 (by kernel_rfl) rfl #[.agg #[.int .i64 x339000_1, .int .i64 x339001_1, .bool x339002_1, .int .i64 x339003_1, .int .i64 x339004_1], .int .u8 ((1 + (Int.tmod (rd (l1.take ((ji11) : Int).toNat) x25_1) 9)) % 256)] rfl (by (try simp only [List.map_toArray, List.map_cons, List.map_nil]); first | done | (simp only [hji11]; rfl) | rfl | (simp only [List.length_drop, List.length_take]; rfl)) ?_; (with_reducible refine (conf_Event.calls k1 x339000_1 x339001_1 x339002_1 x339003_1 x339004_1 ((1 + (Int.tmod (rd (l1.take ((ji11) : Int).toNat) x25_1) 9)) % 256) t350 t351 t352 t353 t354 t355 _ A46.out).mono ?_); rintro e w60 ⟨rfl, hb⟩; refine ⟨_, rfl, ?_⟩; have n0_ := Aside0.mk (blk_below (g := gb330) (o := .cells #[.int .i64 t331, .int .i64 t332, .bool false, .int .i64 t334, .int .i64 t335] 23 (0, 0)) (by (with_reducible repeat (first | refine blk_drewN ?_ _ | refine blk_drew ?_ | refine blk_alloc ?_ _)); refine blk_far ?_ NB330_337.out _; (with_reducible repeat (first | refine blk_drewN ?_ _ | refine blk_drew ?_ | refine blk_alloc ?_ _)); refine blk_far ?_ NB330_337.out _; (with_reducible repeat (first | refine blk_drewN ?_ _ | refine blk_drew ?_ | refine blk_alloc ?_ _)); refine blk_far ?_ NB330_337.out _; (with_reducible repeat (first | refine blk_drewN ?_ _ | refine blk_drew ?_ | refine blk_alloc ?_ _)); refine blk_far ?_ NB330_337.out _; (with_reducible repeat (first | refine blk_drewN ?_ _ | refine blk_drew ?_ | refine blk_alloc ?_ _)); refine blk_far ?_ NB330_337.out _; (with_reducible repeat (first | refine blk_drewN ?_ _ | refine blk_drew ?_ | refine blk_alloc ?_ _)); exact BK330.out) hb); have n1_ := Aside0.mk (blk_below (g := gb337) (o := .cells #[.int .i64 t343, .int .i64 t344, .bool true, .int .i64 t346, .int .i64 t347] 23 (0, 0)) (by (with_reducible repeat (first | refine blk_drewN ?_ _ | refine blk_drew ?_ | refine blk_alloc ?_ _)); refine blk_put (cs := #[.int .i64 t343, .int .i64 t344, .bool true, .int .i64 t346, .int .i64 x338004_1]) ?_ 4 _ (by first | rfl | (subst_vars; rfl)); (with_reducible repeat (first | refine blk_drewN ?_ _ | refine blk_drew ?_ | refine blk_alloc ?_ _)); refine blk_put (cs := #[.int .i64 t343, .int .i64 t344, .bool true, .int .i64 x338003_1, .int .i64 x338004_1]) ?_ 3 _ (by first | rfl | (subst_vars; rfl)); (with_reducible repeat (first | refine blk_drewN ?_ _ | refine blk_drew ?_ | refine blk_alloc ?_ _)); refine blk_put (cs := #[.int .i64 t343, .int .i64 t344, .bool x338002_1, .int .i64 x338003_1, .int .i64 x338004_1]) ?_ 2 _ (by first | rfl | (subst_vars; rfl)); (with_reducible repeat (first | refine blk_drewN ?_ _ | refine blk_drew ?_ | refine blk_alloc ?_ _)); refine blk_put (cs := #[.int .i64 t343, .int .i64 x338001_1, .bool x338002_1, .int .i64 x338003_1, .int .i64 x338004_1]) ?_ 1 _ (by first | rfl | (subst_vars; rfl)); (with_reducible repeat (first | refine blk_drewN ?_ _ | refine blk_drew ?_ | refine blk_alloc ?_ _)); refine blk_put (cs := #[.int .i64 x338000_1, .int .i64 x338001_1, .bool x338002_1, .int .i64 x338003_1, .int .i64 x338004_1]) ?_ 0 _ (by first | rfl | (subst_vars; rfl)); (with_reducible repeat (first | refine blk_drewN ?_ _ | refine blk_drew ?_ | refine blk_alloc ?_ _)); exact BK337.out) hb); have n2_ := Aside0.mk (blk_below (g := gb338) (o := .cells #[.int .i64 x339000_1, .int .i64 x339001_1, .bool x339002_1, .int .i64 x339003_1, .int .i64 x339004_1] 23 (0, 0)) (by (with_reducible repeat (first | refine blk_drewN ?_ _ | refine blk_drew ?_ | refine blk_alloc ?_ _)); refine blk_far ?_ NB338_337.out _; (with_reducible repeat (first | refine blk_drewN ?_ _ | refine blk_drew ?_ | refine blk_alloc ?_ _)); refine blk_far ?_ NB338_337.out _; (with_reducible repeat (first | refine blk_drewN ?_ _ | refine blk_drew ?_ | refine blk_alloc ?_ _)); refine blk_far ?_ NB338_337.out _; (with_reducible repeat (first | refine blk_drewN ?_ _ | refine blk_drew ?_ | refine blk_alloc ?_ _)); refine blk_far ?_ NB338_337.out _; (with_reducible repeat (first | refine blk_drewN ?_ _ | refine blk_drew ?_ | refine blk_alloc ?_ _)); refine blk_far ?_ NB338_337.out _; (with_reducible repeat (first | refine blk_drewN ?_ _ | refine blk_drew ?_ | refine blk_alloc ?_ _)); exact BK338.out) hb); have n3_ := Aside0.mk (blk_below (g := gb339) (o := .cells #[.int .i64 x340000_1, .int .i64 x340001_1, .bool x340002_1, .int .i64 x340003_1, .int .i64 x340004_1] 23 (0, 0)) (by (with_reducible repeat (first | refine blk_drewN ?_ _ | refine blk_drew ?_ | refine blk_alloc ?_ _)); refine blk_far ?_ NB339_337.out _; (with_reducible repeat (first | refine blk_drewN ?_ _ | refine blk_drew ?_ | refine blk_alloc ?_ _)); refine blk_far ?_ NB339_337.out _; (with_reducible repeat (first | refine blk_drewN ?_ _ | refine blk_drew ?_ | refine blk_alloc ?_ _)); refine blk_far ?_ NB339_337.out _; (with_reducible repeat (first | refine blk_drewN ?_ _ | refine blk_drew ?_ | refine blk_alloc ?_ _)); refine blk_far ?_ NB339_337.out _; (with_reducible repeat (first | refine blk_drewN ?_ _ | refine blk_drew ?_ | refine blk_alloc ?_ _)); refine blk_far ?_ NB339_337.out _; (with_reducible repeat (first | refine blk_drewN ?_ _ | refine blk_drew ?_ | refine blk_alloc ?_ _)); exact BK339.out) hb); have n4_ := Aside0.mk (below_step (by repeat (first | (with_reducible first | exact HB.out | apply below_alloc | apply pw_below_drewN | apply below_drew1 | refine below_set ?_ GE330.out | refine below_set ?_ GE337.out | refine below_set ?_ GE338.out | refine below_set ?_ GE339.out) | exact HB.out)) hb); clear BK330; clear BK337; clear BK338; clear BK339; clear HB; have BK330 := n0_; have BK337 := n1_; have BK338 := n2_; have BK339 := n3_; have HB := n4_; clear n0_ n1_ n2_ n3_ n4_; (try clear hb); (try clear hb2); (try clear hk); (try clear hi); have hcz61_0 : w60.cell? ⟨gb338, 0, none⟩ = some (.int .i64 x339000_1) := (blk_cell BK338.out 0).trans rfl; have hcz61_1 : w60.cell? ⟨gb338, 1, none⟩ = some (.int .i64 x339001_1) := (blk_cell BK338.out 1).trans rfl; have hcz61_2 : w60.cell? ⟨gb338, 2, none⟩ = some (.bool x339002_1) := (blk_cell BK338.out 2).trans rfl; have hcz61_3 : w60.cell? ⟨gb338, 3, none⟩ = some (.int .i64 x339003_1) := (blk_cell BK338.out 3).trans rfl; have hcz61_4 : w60.cell? ⟨gb338, 4, none⟩ = some (.int .i64 x339004_1) := (blk_cell BK338.out 4).trans rfl; have hfz61_0 := blk_frozen BK338.out 0; have hfz61_1 := blk_frozen BK338.out 1; have hfz61_2 := blk_frozen BK338.out 2; have hfz61_3 := blk_frozen BK338.out 3; have hfz61_4 := blk_frozen BK338.out 4; have hcz62_0 : w60.cell? ⟨gb337, 0, none⟩ = some (.int .i64 t343) := (blk_cell BK337.out 0).trans rfl; have hcz62_1 : w60.cell? ⟨gb337, 1, none⟩ = some (.int .i64 t344) := (blk_cell BK337.out 1).trans rfl; have hcz62_2 : w60.cell? ⟨gb337, 2, none⟩ = some (.bool true) := (blk_cell BK337.out 2).trans rfl; have hcz62_3 : w60.cell? ⟨gb337, 3, none⟩ = some (.int .i64 t346) := (blk_cell BK337.out 3).trans rfl; have hcz62_4 : w60.cell? ⟨gb337, 4, none⟩ = some (.int .i64 t347) := (blk_cell BK337.out 4).trans rfl; have hfz62_0 := blk_frozen BK337.out 0; have hfz62_1 := blk_frozen BK337.out 1; have hfz62_2 := blk_frozen BK337.out 2; have hfz62_3 := blk_frozen BK337.out 3; have hfz62_4 := blk_frozen BK337.out 4) | (go_at_call 18; (with_reducible refine (jackstaylaw06_awake.calls k1  t356 _ A50.out).mono ?_); rintro e w63 ⟨rfl, hb⟩; have n0_ := Aside0.mk (blk_below (g := gb330) (o := .cells #[.int .i64 t331, .int .i64 t332, .bool false, .int .i64 t334, .int .i64 t335] 23 (0, 0)) (by (with_reducible repeat (first | refine blk_drewN ?_ _ | refine blk_drew ?_ | refine blk_alloc ?_ _)); refine blk_far ?_ NB330_338.out _; (with_reducible repeat (first | refine blk_drewN ?_ _ | refine blk_drew ?_ | refine blk_alloc ?_ _)); refine blk_far ?_ NB330_338.out _; (with_reducible repeat (first | refine blk_drewN ?_ _ | refine blk_drew ?_ | refine blk_alloc ?_ _)); refine blk_far ?_ NB330_338.out _; (with_reducible repeat (first | refine blk_drewN ?_ _ | refine blk_drew ?_ | refine blk_alloc ?_ _)); refine blk_far ?_ NB330_338.out _; (with_reducible repeat (first | refine blk_drewN ?_ _ | refine blk_drew ?_ | refine blk_alloc ?_ _)); refine blk_far ?_ NB330_338.out _; (with_reducible repeat (first | refine blk_drewN ?_ _ | refine blk_drew ?_ | refine blk_alloc ?_ _)); exact BK330.out) hb); have n1_ := Aside0.mk (blk_below (g := gb337) (o := .cells #[.int .i64 t343, .int .i64 t344, .bool true, .int .i64 t346, .int .i64 t347] 23 (0, 0)) (by (with_reducible repeat (first | refine blk_drewN ?_ _ | refine blk_drew ?_ | refine blk_alloc ?_ _)); refine blk_far ?_ NB337_338.out _; (with_reducible repeat (first | refine blk_drewN ?_ _ | refine blk_drew ?_ | refine blk_alloc ?_ _)); refine blk_far ?_ NB337_338.out _; (with_reducible repeat (first | refine blk_drewN ?_ _ | refine blk_drew ?_ | refine blk_alloc ?_ _)); refine blk_far ?_ NB337_338.out _; (with_reducible repeat (first | refine blk_drewN ?_ _ | refine blk_drew ?_ | refine blk_alloc ?_ _)); refine blk_far ?_ NB337_338.out _; (with_reducible repeat (first | refine blk_drewN ?_ _ | refine blk_drew ?_ | refine blk_alloc ?_ _)); refine blk_far ?_ NB337_338.out _; (with_reducible repeat (first | refine blk_drewN ?_ _ | refine blk_drew ?_ | refine blk_alloc ?_ _)); exact BK337.out) hb); have n2_ := Aside0.mk (blk_below (g := gb338) (o := .cells #[.int .i64 t350, .int .i64 t351, .bool t352, .int .i64 t353, .int .i64 t354] 23 (0, 0)) (by (with_reducible repeat (first | refine blk_drewN ?_ _ | refine blk_drew ?_ | refine blk_alloc ?_ _)); refine blk_put (cs := #[.int .i64 t350, .int .i64 t351, .bool t352, .int .i64 t353, .int .i64 x339004_1]) ?_ 4 _ (by first | rfl | (subst_vars; rfl)); (with_reducible repeat (first | refine blk_drewN ?_ _ | refine blk_drew ?_ | refine blk_alloc ?_ _)); refine blk_put (cs := #[.int .i64 t350, .int .i64 t351, .bool t352, .int .i64 x339003_1, .int .i64 x339004_1]) ?_ 3 _ (by first | rfl | (subst_vars; rfl)); (with_reducible repeat (first | refine blk_drewN ?_ _ | refine blk_drew ?_ | refine blk_alloc ?_ _)); refine blk_put (cs := #[.int .i64 t350, .int .i64 t351, .bool x339002_1, .int .i64 x339003_1, .int .i64 x339004_1]) ?_ 2 _ (by first | rfl | (subst_vars; rfl)); (with_reducible repeat (first | refine blk_drewN ?_ _ | refine blk_drew ?_ | refine blk_alloc ?_ _)); refine blk_put (cs := #[.int .i64 t350, .int .i64 x339001_1, .bool x339002_1, .int .i64 x339003_1, .int .i64 x339004_1]) ?_ 1 _ (by first | rfl | (subst_vars; rfl)); (with_reducible repeat (first | refine blk_drewN ?_ _ | refine blk_drew ?_ | refine blk_alloc ?_ _)); refine blk_put (cs := #[.int .i64 x339000_1, .int .i64 x339001_1, .bool x339002_1, .int .i64 x339003_1, .int .i64 x339004_1]) ?_ 0 _ (by first | rfl | (subst_vars; rfl)); (with_reducible repeat (first | refine blk_drewN ?_ _ | refine blk_drew ?_ | refine blk_alloc ?_ _)); exact BK338.out) hb); have n3_ := Aside0.mk (blk_below (g := gb339) (o := .cells #[.int .i64 x340000_1, .int .i64 x340001_1, .bool x340002_1, .int .i64 x340003_1, .int .i64 x340004_1] 23 (0, 0)) (by (with_reducible repeat (first | refine blk_drewN ?_ _ | refine blk_drew ?_ | refine blk_alloc ?_ _)); refine blk_far ?_ NB339_338.out _; (with_reducible repeat (first | refine blk_drewN ?_ _ | refine blk_drew ?_ | refine blk_alloc ?_ _)); refine blk_far ?_ NB339_338.out _; (with_reducible repeat (first | refine blk_drewN ?_ _ | refine blk_drew ?_ | refine blk_alloc ?_ _)); refine blk_far ?_ NB339_338.out _; (with_reducible repeat (first | refine blk_drewN ?_ _ | refine blk_drew ?_ | refine blk_alloc ?_ _)); refine blk_far ?_ NB339_338.out _; (with_reducible repeat (first | refine blk_drewN ?_ _ | refine blk_drew ?_ | refine blk_alloc ?_ _)); refine blk_far ?_ NB339_338.out _; (with_reducible repeat (first | refine blk_drewN ?_ _ | refine blk_drew ?_ | refine blk_alloc ?_ _)); exact BK339.out) hb); have n4_ := Aside0.mk (below_step (by repeat (first | (with_reducible first | exact HB.out | apply below_alloc | apply pw_below_drewN | apply below_drew1 | refine below_set ?_ GE330.out | refine below_set ?_ GE337.out | refine below_set ?_ GE338.out | refine below_set ?_ GE339.out) | exact HB.out)) hb); clear BK330; clear BK337; clear BK338; clear BK339; clear HB; have BK330 := n0_; have BK337 := n1_; have BK338 := n2_; have BK339 := n3_; have HB := n4_; clear n0_ n1_ n2_ n3_ n4_; (try clear hb); (try clear hb2); (try clear hk); (try clear hi)))
                          go_ret
                          exact ⟨by first | rfl | (simp [errW_none, errW_some] <;> rfl) | (simp only [← hji11]; first | rfl | (simp [errW_none, errW_some] <;> rfl)) | (simp [*, errW_none, errW_some] <;> rfl), by repeat (first | (with_reducible first | exact HB.out | apply below_alloc | apply pw_below_drewN | apply below_drew1 | refine below_set ?_ GE330.out | refine below_set ?_ GE337.out | refine below_set ?_ GE338.out | refine below_set ?_ GE339.out) | exact HB.out)⟩
                        · rw [if_neg c49] at H
                          have c49b0 : (t343 == t350) = false := beq_eq_false_iff_ne.mpr c49
                          have c49b1 : (t343 != t350) = true := bne_iff_ne.mpr c49
                          obtain rfl := Option.some.inj H
                          exact absurd hT_ (by decide)
                      · rw [if_neg c48] at H
                        have c48b0 : (true == t352) = false := by simpa using c48
                        (try (have c48b0n := c48b0; simp only [beq_false, beq_true, Bool.not_not, Bool.not_true, Bool.not_false, Bool.true_and, Bool.and_true, Bool.false_or, Bool.or_false, Bool.true_bne, Bool.false_bne, Bool.bne_true, Bool.bne_false, Bool.true_beq, Bool.false_beq] at c48b0n; have c48b0o := c48b0n; simp only [Bool.not_eq_false', Bool.not_eq_true'] at c48b0o))
                        (try (have c48b1 : decide (true = t352) = false := by simpa using c48))
                        (try (have c48b2 : (true == t352) = false := by simpa using c48))
                        (try (have c48b3 : ¬ (true = t352) := by simpa using c48))
                        clear c48
                        obtain rfl := Option.some.inj H
                        exact absurd hT_ (by decide)
                    · replace c47 := Bool.eq_false_iff.mpr c47
                      subst c47
                      have H1 : (if t352 = true then (if (false == t352) = true then (if t343 = t350 then ((jackstaylaw06_awake.f k1).bind fun t357 => (some t357)) else (some false)) else (some false)) else (jackstaylaw06_ConfMerges.l0 k1 (l1.take ((ji11) : Int).toNat) ((l1.take ((ji11) : Int).toNat).length : Int) (wrap64 (x25_1 + 1)) t331 t332 false t334 t335 t343 t344 false t346 t347 t350 t351 t352 t353 t354 x340000_1 x340001_1 x340002_1 x340003_1 x340004_1)) = some r := by rw [if_neg (show ¬ (false = true) by decide)] at H; exact H
                      clear H
                      have H := H1
                      clear H1
                      by_cases c64 : t352 = true
                      · subst c64
                        have H1 : (if (false == true) = true then (if t343 = t350 then ((jackstaylaw06_awake.f k1).bind fun t357 => (some t357)) else (some false)) else (some false)) = some r := by rw [if_pos rfl] at H; exact H
                        clear H
                        have H := H1
                        clear H1
                        by_cases c65 : (false == true) = true
                        · rw [if_pos c65] at H
                          have c65b0 : (false == true) = true := c65
                          (try (have c65b0n := c65b0; simp only [beq_false, beq_true, Bool.not_not, Bool.not_true, Bool.not_false, Bool.true_and, Bool.and_true, Bool.false_or, Bool.or_false, Bool.true_bne, Bool.false_bne, Bool.bne_true, Bool.bne_false, Bool.true_beq, Bool.false_beq] at c65b0n; have c65b0o := c65b0n; simp only [Bool.not_eq_false', Bool.not_eq_true'] at c65b0o))
                          (try (have c65b1 : decide (false = true) = true := by revert c65; simp))
                          (try (have c65b2 : (false == true) = true := by revert c65; simp))
                          clear c65
                          by_cases c66 : t343 = t350
                          · rw [if_pos c66] at H
                            have c66b0 : (t343 == t350) = true := beq_iff_eq.mpr c66
                            have c66b1 : (t343 != t350) = false := bne_eq_false_iff_eq.mpr c66
                            clear c66
                            replace H := Option.bind_eq_some_iff.mp H
                            obtain ⟨t357, A670, H⟩ := H
                            replace H : (some t357) = some r := H
                            have A67 := Aside0.mk A670
                            clear A670
                            obtain rfl := Option.some.inj H
                            simp only [Option.some.injEq, Prod.mk.injEq] at H
                            obtain ⟨rfl⟩ := H
                            have p342 : 0 ≤ (x25_1 : Int) := of_decide_eq_true (by first | (with_reducible assumption) | assumption)
                            have q342 : x25_1 < ((l1.take ((ji11) : Int).toNat).length : Int) := of_decide_eq_true (by first | (with_reducible assumption) | assumption)
                            obtain ⟨ad342, e342, hx342_0⟩ := Kd.at_int HR340.out x25_1 p342 q342
                            cases e342
                            (try replace hx342_0 := (HB.out.cell (World.block_lt_of_cell? w _ hx342_0)).trans hx342_0)
                            replace p342 := eq_true p342
                            replace q342 := eq_true q342
                            (try (have q342y : (x25_1 < max ji11 0) = True := eq_true (by have h_ := of_eq_true q342; simp only [List.length_take] at h_; omega)))
                            (try (have q342z := q342; simp only [List.length_drop, List.length_take] at q342z))
                            have hnb68 := NB337_330.out
                            have hnc68 := NB330_337.out
                            have hnb69 := NB337_338.out
                            have hnc69 := NB338_337.out
                            have hnb70 := NB337_339.out
                            have hnc70 := NB339_337.out
                            have hcz71_0 : wr.cell? ⟨gb337, 0, none⟩ = some (.int .i64 x338000_1) := (blk_cell BK337.out 0).trans rfl
                            have hcz71_1 : wr.cell? ⟨gb337, 1, none⟩ = some (.int .i64 x338001_1) := (blk_cell BK337.out 1).trans rfl
                            have hcz71_2 : wr.cell? ⟨gb337, 2, none⟩ = some (.bool x338002_1) := (blk_cell BK337.out 2).trans rfl
                            have hcz71_3 : wr.cell? ⟨gb337, 3, none⟩ = some (.int .i64 x338003_1) := (blk_cell BK337.out 3).trans rfl
                            have hcz71_4 : wr.cell? ⟨gb337, 4, none⟩ = some (.int .i64 x338004_1) := (blk_cell BK337.out 4).trans rfl
                            have hfz71_0 := blk_frozen BK337.out 0
                            have hfz71_1 := blk_frozen BK337.out 1
                            have hfz71_2 := blk_frozen BK337.out 2
                            have hfz71_3 := blk_frozen BK337.out 3
                            have hfz71_4 := blk_frozen BK337.out 4
                            go_wp2_with (first | ((with_reducible refine gate_callee (f := 10) rfl ?_); refine goesL_ (some 35) rfl rfl Try.func10 (by kernel_rfl) rfl #[.agg #[.int .i64 x338000_1, .int .i64 x338001_1, .bool x338002_1, .int .i64 x338003_1, .int .i64 x338004_1], .int .u8 ((1 + (Int.tmod (rd (l1.take ((ji11) : Int).toNat) x25_1) 9)) % 256)] rfl (by (try simp only [List.map_toArray, List.map_cons, List.map_nil]); first | done | (simp only [hji11]; rfl) | rfl | (simp only [List.length_drop, List.length_take]; rfl)) ?_; (with_reducible refine (conf_Event.calls k1 x338000_1 x338001_1 x338002_1 x338003_1 x338004_1 ((1 + (Int.tmod (rd (l1.take ((ji11) : Int).toNat) x25_1) 9)) % 256) t343 t344 false t346 t347 t348 _ A43.out).mono ?_); rintro e w72 ⟨rfl, hb⟩; refine ⟨_, rfl, ?_⟩; have n0_ := Aside0.mk (blk_below (g := gb330) (o := .cells #[.int .i64 t331, .int .i64 t332, .bool false, .int .i64 t334, .int .i64 t335] 23 (0, 0)) (by (with_reducible repeat (first | refine blk_drewN ?_ _ | refine blk_drew ?_ | refine blk_alloc ?_ _)); exact BK330.out) hb); have n1_ := Aside0.mk (blk_below (g := gb337) (o := .cells #[.int .i64 x338000_1, .int .i64 x338001_1, .bool x338002_1, .int .i64 x338003_1, .int .i64 x338004_1] 23 (0, 0)) (by (with_reducible repeat (first | refine blk_drewN ?_ _ | refine blk_drew ?_ | refine blk_alloc ?_ _)); exact BK337.out) hb); have n2_ := Aside0.mk (blk_below (g := gb338) (o := .cells #[.int .i64 x339000_1, .int .i64 x339001_1, .bool x339002_1, .int .i64 x339003_1, .int .i64 x339004_1] 23 (0, 0)) (by (with_reducible repeat (first | refine blk_drewN ?_ _ | refine blk_drew ?_ | refine blk_alloc ?_ _)); exact BK338.out) hb); have n3_ := Aside0.mk (blk_below (g := gb339) (o := .cells #[.int .i64 x340000_1, .int .i64 x340001_1, .bool x340002_1, .int .i64 x340003_1, .int .i64 x340004_1] 23 (0, 0)) (by (with_reducible repeat (first | refine blk_drewN ?_ _ | refine blk_drew ?_ | refine blk_alloc ?_ _)); exact BK339.out) hb); have n4_ := Aside0.mk (below_step (by repeat (first | (with_reducible first | exact HB.out | apply below_alloc | apply pw_below_drewN | apply below_drew1 | refine below_set ?_ GE330.out | refine below_set ?_ GE337.out | refine below_set ?_ GE338.out | refine below_set ?_ GE339.out) | exact HB.out)) hb); clear BK330; clear BK337; clear BK338; clear BK339; clear HB; have BK330 := n0_; have BK337 := n1_; have BK338 := n2_; have BK339 := n3_; have HB := n4_; clear n0_ n1_ n2_ n3_ n4_; (try clear hb); (try clear hb2); (try clear hk); (try clear hi); have hcz73_0 : w72.cell? ⟨gb337, 0, none⟩ = some (.int .i64 x338000_1) := (blk_cell BK337.out 0).trans rfl; have hcz73_1 : w72.cell? ⟨gb337, 1, none⟩ = some (.int .i64 x338001_1) := (blk_cell BK337.out 1).trans rfl; have hcz73_2 : w72.cell? ⟨gb337, 2, none⟩ = some (.bool x338002_1) := (blk_cell BK337.out 2).trans rfl; have hcz73_3 : w72.cell? ⟨gb337, 3, none⟩ = some (.int .i64 x338003_1) := (blk_cell BK337.out 3).trans rfl; have hcz73_4 : w72.cell? ⟨gb337, 4, none⟩ = some (.int .i64 x338004_1) := (blk_cell BK337.out 4).trans rfl; have hfz73_0 := blk_frozen BK337.out 0; have hfz73_1 := blk_frozen BK337.out 1; have hfz73_2 := blk_frozen BK337.out 2; have hfz73_3 := blk_frozen BK337.out 3; have hfz73_4 := blk_frozen BK337.out 4) | (go_at_call 20; (with_reducible refine (jackstaylaw06_ConfMerges_1.calls ((1 + (Int.tmod (rd (l1.take ((ji11) : Int).toNat) x25_1) 9)) % 256) true _ A44.out).mono ?_); rintro e w' ⟨rfl, ⟨nd, rfl⟩⟩; have hnb74 := NB338_330.out; have hnc74 := NB330_338.out; have hnb75 := NB338_339.out; have hnc75 := NB339_338.out; have hcz76_0 : w72.cell? ⟨gb338, 0, none⟩ = some (.int .i64 x339000_1) := (blk_cell BK338.out 0).trans rfl; have hcz76_1 : w72.cell? ⟨gb338, 1, none⟩ = some (.int .i64 x339001_1) := (blk_cell BK338.out 1).trans rfl; have hcz76_2 : w72.cell? ⟨gb338, 2, none⟩ = some (.bool x339002_1) := (blk_cell BK338.out 2).trans rfl; have hcz76_3 : w72.cell? ⟨gb338, 3, none⟩ = some (.int .i64 x339003_1) := (blk_cell BK338.out 3).trans rfl; have hcz76_4 : w72.cell? ⟨gb338, 4, none⟩ = some (.int .i64 x339004_1) := (blk_cell BK338.out 4).trans rfl; have hfz76_0 := blk_frozen BK338.out 0; have hfz76_1 := blk_frozen BK338.out 1; have hfz76_2 := blk_frozen BK338.out 2; have hfz76_3 := blk_frozen BK338.out 3; have hfz76_4 := blk_frozen BK338.out 4) | ((with_reducible refine gate_callee (f := 10) rfl ?_); refine goesL_ (some 44) rfl rfl Try.func10 (by kernel_rfl) rfl #[.agg #[.int .i64 x339000_1, .int .i64 x339001_1, .bool x339002_1, .int .i64 x339003_1, .int .i64 x339004_1], .int .u8 ((1 + (Int.tmod (rd (l1.take ((ji11) : Int).toNat) x25_1) 9)) % 256)] rfl (by (try simp only [List.map_toArray, List.map_cons, List.map_nil]); first | done | (simp only [hji11]; rfl) | rfl | (simp only [List.length_drop, List.length_take]; rfl)) ?_; (with_reducible refine (conf_Event.calls k1 x339000_1 x339001_1 x339002_1 x339003_1 x339004_1 ((1 + (Int.tmod (rd (l1.take ((ji11) : Int).toNat) x25_1) 9)) % 256) t350 t351 true t353 t354 t355 _ A46.out).mono ?_); rintro e w77 ⟨rfl, hb⟩; refine ⟨_, rfl, ?_⟩; have n0_ := Aside0.mk (blk_below (g := gb330) (o := .cells #[.int .i64 t331, .int .i64 t332, .bool false, .int .i64 t334, .int .i64 t335] 23 (0, 0)) (by (with_reducible repeat (first | refine blk_drewN ?_ _ | refine blk_drew ?_ | refine blk_alloc ?_ _)); refine blk_far ?_ NB330_337.out _; (with_reducible repeat (first | refine blk_drewN ?_ _ | refine blk_drew ?_ | refine blk_alloc ?_ _)); refine blk_far ?_ NB330_337.out _; (with_reducible repeat (first | refine blk_drewN ?_ _ | refine blk_drew ?_ | refine blk_alloc ?_ _)); refine blk_far ?_ NB330_337.out _; (with_reducible repeat (first | refine blk_drewN ?_ _ | refine blk_drew ?_ | refine blk_alloc ?_ _)); refine blk_far ?_ NB330_337.out _; (with_reducible repeat (first | refine blk_drewN ?_ _ | refine blk_drew ?_ | refine blk_alloc ?_ _)); refine blk_far ?_ NB330_337.out _; (with_reducible repeat (first | refine blk_drewN ?_ _ | refine blk_drew ?_ | refine blk_alloc ?_ _)); exact BK330.out) hb); have n1_ := Aside0.mk (blk_below (g := gb337) (o := .cells #[.int .i64 t343, .int .i64 t344, .bool false, .int .i64 t346, .int .i64 t347] 23 (0, 0)) (by (with_reducible repeat (first | refine blk_drewN ?_ _ | refine blk_drew ?_ | refine blk_alloc ?_ _)); refine blk_put (cs := #[.int .i64 t343, .int .i64 t344, .bool false, .int .i64 t346, .int .i64 x338004_1]) ?_ 4 _ (by first | rfl | (subst_vars; rfl)); (with_reducible repeat (first | refine blk_drewN ?_ _ | refine blk_drew ?_ | refine blk_alloc ?_ _)); refine blk_put (cs := #[.int .i64 t343, .int .i64 t344, .bool false, .int .i64 x338003_1, .int .i64 x338004_1]) ?_ 3 _ (by first | rfl | (subst_vars; rfl)); (with_reducible repeat (first | refine blk_drewN ?_ _ | refine blk_drew ?_ | refine blk_alloc ?_ _)); refine blk_put (cs := #[.int .i64 t343, .int .i64 t344, .bool x338002_1, .int .i64 x338003_1, .int .i64 x338004_1]) ?_ 2 _ (by first | rfl | (subst_vars; rfl)); (with_reducible repeat (first | refine blk_drewN ?_ _ | refine blk_drew ?_ | refine blk_alloc ?_ _)); refine blk_put (cs := #[.int .i64 t343, .int .i64 x338001_1, .bool x338002_1, .int .i64 x338003_1, .int .i64 x338004_1]) ?_ 1 _ (by first | rfl | (subst_vars; rfl)); (with_reducible repeat (first | refine blk_drewN ?_ _ | refine blk_drew ?_ | refine blk_alloc ?_ _)); refine blk_put (cs := #[.int .i64 x338000_1, .int .i64 x338001_1, .bool x338002_1, .int .i64 x338003_1, .int .i64 x338004_1]) ?_ 0 _ (by first | rfl | (subst_vars; rfl)); (with_reducible repeat (first | refine blk_drewN ?_ _ | refine blk_drew ?_ | refine blk_alloc ?_ _)); exact BK337.out) hb); have n2_ := Aside0.mk (blk_below (g := gb338) (o := .cells #[.int .i64 x339000_1, .int .i64 x339001_1, .bool x339002_1, .int .i64 x339003_1, .int .i64 x339004_1] 23 (0, 0)) (by (with_reducible repeat (first | refine blk_drewN ?_ _ | refine blk_drew ?_ | refine blk_alloc ?_ _)); refine blk_far ?_ NB338_337.out _; (with_reducible repeat (first | refine blk_drewN ?_ _ | refine blk_drew ?_ | refine blk_alloc ?_ _)); refine blk_far ?_ NB338_337.out _; (with_reducible repeat (first | refine blk_drewN ?_ _ | refine blk_drew ?_ | refine blk_alloc ?_ _)); refine blk_far ?_ NB338_337.out _; (with_reducible repeat (first | refine blk_drewN ?_ _ | refine blk_drew ?_ | refine blk_alloc ?_ _)); refine blk_far ?_ NB338_337.out _; (with_reducible repeat (first | refine blk_drewN ?_ _ | refine blk_drew ?_ | refine blk_alloc ?_ _)); refine blk_far ?_ NB338_337.out _; (with_reducible repeat (first | refine blk_drewN ?_ _ | refine blk_drew ?_ | refine blk_alloc ?_ _)); exact BK338.out) hb); have n3_ := Aside0.mk (blk_below (g := gb339) (o := .cells #[.int .i64 x340000_1, .int .i64 x340001_1, .bool x340002_1, .int .i64 x340003_1, .int .i64 x340004_1] 23 (0, 0)) (by (with_reducible repeat (first | refine blk_drewN ?_ _ | refine blk_drew ?_ | refine blk_alloc ?_ _)); refine blk_far ?_ NB339_337.out _; (with_reducible repeat (first | refine blk_drewN ?_ _ | refine blk_drew ?_ | refine blk_alloc ?_ _)); refine blk_far ?_ NB339_337.out _; (with_reducible repeat (first | refine blk_drewN ?_ _ | refine blk_drew ?_ | refine blk_alloc ?_ _)); refine blk_far ?_ NB339_337.out _; (with_reducible repeat (first | refine blk_drewN ?_ _ | refine blk_drew ?_ | refine blk_alloc ?_ _)); refine blk_far ?_ NB339_337.out _; (with_reducible repeat (first | refine blk_drewN ?_ _ | refine blk_drew ?_ | refine blk_alloc ?_ _)); refine blk_far ?_ NB339_337.out _; (with_reducible repeat (first | refine blk_drewN ?_ _ | refine blk_drew ?_ | refine blk_alloc ?_ _)); exact BK339.out) hb); have n4_ := Aside0.mk (below_step (by repeat (first | (with_reducible first | exact HB.out | apply below_alloc | apply pw_below_drewN | apply below_drew1 | refine below_set ?_ GE330.out | refine below_set ?_ GE337.out | refine below_set ?_ GE338.out | refine below_set ?_ GE339.out) | exact HB.out)) hb); clear BK330; clear BK337; clear BK338; clear BK339; clear HB; have BK330 := n0_; have BK337 := n1_; have BK338 := n2_; have BK339 := n3_; have HB := n4_; clear n0_ n1_ n2_ n3_ n4_; (try clear hb); (try clear hb2); (try clear hk); (try clear hi); have hcz78_0 : w77.cell? ⟨gb338, 0, none⟩ = some (.int .i64 x339000_1) := (blk_cell BK338.out 0).trans rfl; have hcz78_1 : w77.cell? ⟨gb338, 1, none⟩ = some (.int .i64 x339001_1) := (blk_cell BK338.out 1).trans rfl; have hcz78_2 : w77.cell? ⟨gb338, 2, none⟩ = some (.bool x339002_1) := (blk_cell BK338.out 2).trans rfl; have hcz78_3 : w77.cell? ⟨gb338, 3, none⟩ = some (.int .i64 x339003_1) := (blk_cell BK338.out 3).trans rfl; have hcz78_4 : w77.cell? ⟨gb338, 4, none⟩ = some (.int .i64 x339004_1) := (blk_cell BK338.out 4).trans rfl; have hfz78_0 := blk_frozen BK338.out 0; have hfz78_1 := blk_frozen BK338.out 1; have hfz78_2 := blk_frozen BK338.out 2; have hfz78_3 := blk_frozen BK338.out 3; have hfz78_4 := blk_frozen BK338.out 4; have hcz79_0 : w77.cell? ⟨gb337, 0, none⟩ = some (.int .i64 t343) := (blk_cell BK337.out 0).trans rfl; have hcz79_1 : w77.cell? ⟨gb337, 1, none⟩ = some (.int .i64 t344) := (blk_cell BK337.out 1).trans rfl; have hcz79_2 : w77.cell? ⟨gb337, 2, none⟩ = some (.bool false) := (blk_cell BK337.out 2).trans rfl; have hcz79_3 : w77.cell? ⟨gb337, 3, none⟩ = some (.int .i64 t346) := (blk_cell BK337.out 3).trans rfl; have hcz79_4 : w77.cell? ⟨gb337, 4, none⟩ = some (.int .i64 t347) := (blk_cell BK337.out 4).trans rfl; have hfz79_0 := blk_frozen BK337.out 0; have hfz79_1 := blk_frozen BK337.out 1; have hfz79_2 := blk_frozen BK337.out 2; have hfz79_3 := blk_frozen BK337.out 3; have hfz79_4 := blk_frozen BK337.out 4) | (go_at_call 18; (with_reducible refine (jackstaylaw06_awake.calls k1  t357 _ A67.out).mono ?_); rintro e w80 ⟨rfl, hb⟩; have n0_ := Aside0.mk (blk_below (g := gb330) (o := .cells #[.int .i64 t331, .int .i64 t332, .bool false, .int .i64 t334, .int .i64 t335] 23 (0, 0)) (by (with_reducible repeat (first | refine blk_drewN ?_ _ | refine blk_drew ?_ | refine blk_alloc ?_ _)); refine blk_far ?_ NB330_338.out _; (with_reducible repeat (first | refine blk_drewN ?_ _ | refine blk_drew ?_ | refine blk_alloc ?_ _)); refine blk_far ?_ NB330_338.out _; (with_reducible repeat (first | refine blk_drewN ?_ _ | refine blk_drew ?_ | refine blk_alloc ?_ _)); refine blk_far ?_ NB330_338.out _; (with_reducible repeat (first | refine blk_drewN ?_ _ | refine blk_drew ?_ | refine blk_alloc ?_ _)); refine blk_far ?_ NB330_338.out _; (with_reducible repeat (first | refine blk_drewN ?_ _ | refine blk_drew ?_ | refine blk_alloc ?_ _)); refine blk_far ?_ NB330_338.out _; (with_reducible repeat (first | refine blk_drewN ?_ _ | refine blk_drew ?_ | refine blk_alloc ?_ _)); exact BK330.out) hb); have n1_ := Aside0.mk (blk_below (g := gb337) (o := .cells #[.int .i64 t343, .int .i64 t344, .bool false, .int .i64 t346, .int .i64 t347] 23 (0, 0)) (by (with_reducible repeat (first | refine blk_drewN ?_ _ | refine blk_drew ?_ | refine blk_alloc ?_ _)); refine blk_far ?_ NB337_338.out _; (with_reducible repeat (first | refine blk_drewN ?_ _ | refine blk_drew ?_ | refine blk_alloc ?_ _)); refine blk_far ?_ NB337_338.out _; (with_reducible repeat (first | refine blk_drewN ?_ _ | refine blk_drew ?_ | refine blk_alloc ?_ _)); refine blk_far ?_ NB337_338.out _; (with_reducible repeat (first | refine blk_drewN ?_ _ | refine blk_drew ?_ | refine blk_alloc ?_ _)); refine blk_far ?_ NB337_338.out _; (with_reducible repeat (first | refine blk_drewN ?_ _ | refine blk_drew ?_ | refine blk_alloc ?_ _)); refine blk_far ?_ NB337_338.out _; (with_reducible repeat (first | refine blk_drewN ?_ _ | refine blk_drew ?_ | refine blk_alloc ?_ _)); exact BK337.out) hb); have n2_ := Aside0.mk (blk_below (g := gb338) (o := .cells #[.int .i64 t350, .int .i64 t351, .bool true, .int .i64 t353, .int .i64 t354] 23 (0, 0)) (by (with_reducible repeat (first | refine blk_drewN ?_ _ | refine blk_drew ?_ | refine blk_alloc ?_ _)); refine blk_put (cs := #[.int .i64 t350, .int .i64 t351, .bool true, .int .i64 t353, .int .i64 x339004_1]) ?_ 4 _ (by first | rfl | (subst_vars; rfl)); (with_reducible repeat (first | refine blk_drewN ?_ _ | refine blk_drew ?_ | refine blk_alloc ?_ _)); refine blk_put (cs := #[.int .i64 t350, .int .i64 t351, .bool true, .int .i64 x339003_1, .int .i64 x339004_1]) ?_ 3 _ (by first | rfl | (subst_vars; rfl)); (with_reducible repeat (first | refine blk_drewN ?_ _ | refine blk_drew ?_ | refine blk_alloc ?_ _)); refine blk_put (cs := #[.int .i64 t350, .int .i64 t351, .bool x339002_1, .int .i64 x339003_1, .int .i64 x339004_1]) ?_ 2 _ (by first | rfl | (subst_vars; rfl)); (with_reducible repeat (first | refine blk_drewN ?_ _ | refine blk_drew ?_ | refine blk_alloc ?_ _)); refine blk_put (cs := #[.int .i64 t350, .int .i64 x339001_1, .bool x339002_1, .int .i64 x339003_1, .int .i64 x339004_1]) ?_ 1 _ (by first | rfl | (subst_vars; rfl)); (with_reducible repeat (first | refine blk_drewN ?_ _ | refine blk_drew ?_ | refine blk_alloc ?_ _)); refine blk_put (cs := #[.int .i64 x339000_1, .int .i64 x339001_1, .bool x339002_1, .int .i64 x339003_1, .int .i64 x339004_1]) ?_ 0 _ (by first | rfl | (subst_vars; rfl)); (with_reducible repeat (first | refine blk_drewN ?_ _ | refine blk_drew ?_ | refine blk_alloc ?_ _)); exact BK338.out) hb); have n3_ := Aside0.mk (blk_below (g := gb339) (o := .cells #[.int .i64 x340000_1, .int .i64 x340001_1, .bool x340002_1, .int .i64 x340003_1, .int .i64 x340004_1] 23 (0, 0)) (by (with_reducible repeat (first | refine blk_drewN ?_ _ | refine blk_drew ?_ | refine blk_alloc ?_ _)); refine blk_far ?_ NB339_338.out _; (with_reducible repeat (first | refine blk_drewN ?_ _ | refine blk_drew ?_ | refine blk_alloc ?_ _)); refine blk_far ?_ NB339_338.out _; (with_reducible repeat (first | refine blk_drewN ?_ _ | refine blk_drew ?_ | refine blk_alloc ?_ _)); refine blk_far ?_ NB339_338.out _; (with_reducible repeat (first | refine blk_drewN ?_ _ | refine blk_drew ?_ | refine blk_alloc ?_ _)); refine blk_far ?_ NB339_338.out _; (with_reducible repeat (first | refine blk_drewN ?_ _ | refine blk_drew ?_ | refine blk_alloc ?_ _)); refine blk_far ?_ NB339_338.out _; (with_reducible repeat (first | refine blk_drewN ?_ _ | refine blk_drew ?_ | refine blk_alloc ?_ _)); exact BK339.out) hb); have n4_ := Aside0.mk (below_step (by repeat (first | (with_reducible first | exact HB.out | apply below_alloc | apply pw_below_drewN | apply below_drew1 | refine below_set ?_ GE330.out | refine below_set ?_ GE337.out | refine below_set ?_ GE338.out | refine below_set ?_ GE339.out) | exact HB.out)) hb); clear BK330; clear BK337; clear BK338; clear BK339; clear HB; have BK330 := n0_; have BK337 := n1_; have BK338 := n2_; have BK339 := n3_; have HB := n4_; clear n0_ n1_ n2_ n3_ n4_; (try clear hb); (try clear hb2); (try clear hk); (try clear hi)))
                            go_ret
                            exact ⟨by first | rfl | (simp [errW_none, errW_some] <;> rfl) | (simp only [← hji11]; first | rfl | (simp [errW_none, errW_some] <;> rfl)) | (simp [*, errW_none, errW_some] <;> rfl), by repeat (first | (with_reducible first | exact HB.out | apply below_alloc | apply pw_below_drewN | apply below_drew1 | refine below_set ?_ GE330.out | refine below_set ?_ GE337.out | refine below_set ?_ GE338.out | refine below_set ?_ GE339.out) | exact HB.out)⟩
                          · rw [if_neg c66] at H
                            have c66b0 : (t343 == t350) = false := beq_eq_false_iff_ne.mpr c66
                            have c66b1 : (t343 != t350) = true := bne_iff_ne.mpr c66
                            obtain rfl := Option.some.inj H
                            exact absurd hT_ (by decide)
                        · rw [if_neg c65] at H
                          have c65b0 : (false == true) = false := by revert c65; simp
                          (try (have c65b0n := c65b0; simp only [beq_false, beq_true, Bool.not_not, Bool.not_true, Bool.not_false, Bool.true_and, Bool.and_true, Bool.false_or, Bool.or_false, Bool.true_bne, Bool.false_bne, Bool.bne_true, Bool.bne_false, Bool.true_beq, Bool.false_beq] at c65b0n; have c65b0o := c65b0n; simp only [Bool.not_eq_false', Bool.not_eq_true'] at c65b0o))
                          (try (have c65b1 : decide (false = true) = false := by revert c65; simp))
                          (try (have c65b2 : (false == true) = false := by revert c65; simp))
                          (try (have c65b3 : ¬ (false = true) := by revert c65; simp))
                          clear c65
                          obtain rfl := Option.some.inj H
                          exact absurd hT_ (by decide)
                      · replace c64 := Bool.eq_false_iff.mpr c64
                        subst c64
                        have H1 : (jackstaylaw06_ConfMerges.l0 k1 (l1.take ((ji11) : Int).toNat) ((l1.take ((ji11) : Int).toNat).length : Int) (wrap64 (x25_1 + 1)) t331 t332 false t334 t335 t343 t344 false t346 t347 t350 t351 false t353 t354 x340000_1 x340001_1 x340002_1 x340003_1 x340004_1) = some r := by rw [if_neg (show ¬ (false = true) by decide)] at H; exact H
                        clear H
                        have H := H1
                        clear H1
                        have H' := Aside0.mk H
                        clear H
                        have p342 : 0 ≤ (x25_1 : Int) := of_decide_eq_true (by first | (with_reducible assumption) | assumption)
                        have q342 : x25_1 < ((l1.take ((ji11) : Int).toNat).length : Int) := of_decide_eq_true (by first | (with_reducible assumption) | assumption)
                        obtain ⟨ad342, e342, hx342_0⟩ := Kd.at_int HR340.out x25_1 p342 q342
                        cases e342
                        (try replace hx342_0 := (HB.out.cell (World.block_lt_of_cell? w _ hx342_0)).trans hx342_0)
                        replace p342 := eq_true p342
                        replace q342 := eq_true q342
                        (try (have q342y : (x25_1 < max ji11 0) = True := eq_true (by have h_ := of_eq_true q342; simp only [List.length_take] at h_; omega)))
                        (try (have q342z := q342; simp only [List.length_drop, List.length_take] at q342z))
                        have hnb81 := NB337_330.out
                        have hnc81 := NB330_337.out
                        have hnb82 := NB337_338.out
                        have hnc82 := NB338_337.out
                        have hnb83 := NB337_339.out
                        have hnc83 := NB339_337.out
                        have hcz84_0 : wr.cell? ⟨gb337, 0, none⟩ = some (.int .i64 x338000_1) := (blk_cell BK337.out 0).trans rfl
                        have hcz84_1 : wr.cell? ⟨gb337, 1, none⟩ = some (.int .i64 x338001_1) := (blk_cell BK337.out 1).trans rfl
                        have hcz84_2 : wr.cell? ⟨gb337, 2, none⟩ = some (.bool x338002_1) := (blk_cell BK337.out 2).trans rfl
                        have hcz84_3 : wr.cell? ⟨gb337, 3, none⟩ = some (.int .i64 x338003_1) := (blk_cell BK337.out 3).trans rfl
                        have hcz84_4 : wr.cell? ⟨gb337, 4, none⟩ = some (.int .i64 x338004_1) := (blk_cell BK337.out 4).trans rfl
                        have hfz84_0 := blk_frozen BK337.out 0
                        have hfz84_1 := blk_frozen BK337.out 1
                        have hfz84_2 := blk_frozen BK337.out 2
                        have hfz84_3 := blk_frozen BK337.out 3
                        have hfz84_4 := blk_frozen BK337.out 4
                        go_wp2_with (first | ((with_reducible refine gate_callee (f := 10) rfl ?_); refine goesL_ (some 35) rfl rfl Try.func10 (by kernel_rfl) rfl #[.agg #[.int .i64 x338000_1, .int .i64 x338001_1, .bool x338002_1, .int .i64 x338003_1, .int .i64 x338004_1], .int .u8 ((1 + (Int.tmod (rd (l1.take ((ji11) : Int).toNat) x25_1) 9)) % 256)] rfl (by (try simp only [List.map_toArray, List.map_cons, List.map_nil]); first | done | (simp only [hji11]; rfl) | rfl | (simp only [List.length_drop, List.length_take]; rfl)) ?_; (with_reducible refine (conf_Event.calls k1 x338000_1 x338001_1 x338002_1 x338003_1 x338004_1 ((1 + (Int.tmod (rd (l1.take ((ji11) : Int).toNat) x25_1) 9)) % 256) t343 t344 false t346 t347 t348 _ A43.out).mono ?_); rintro e w85 ⟨rfl, hb⟩; refine ⟨_, rfl, ?_⟩; have n0_ := Aside0.mk (blk_below (g := gb330) (o := .cells #[.int .i64 t331, .int .i64 t332, .bool false, .int .i64 t334, .int .i64 t335] 23 (0, 0)) (by (with_reducible repeat (first | refine blk_drewN ?_ _ | refine blk_drew ?_ | refine blk_alloc ?_ _)); exact BK330.out) hb); have n1_ := Aside0.mk (blk_below (g := gb337) (o := .cells #[.int .i64 x338000_1, .int .i64 x338001_1, .bool x338002_1, .int .i64 x338003_1, .int .i64 x338004_1] 23 (0, 0)) (by (with_reducible repeat (first | refine blk_drewN ?_ _ | refine blk_drew ?_ | refine blk_alloc ?_ _)); exact BK337.out) hb); have n2_ := Aside0.mk (blk_below (g := gb338) (o := .cells #[.int .i64 x339000_1, .int .i64 x339001_1, .bool x339002_1, .int .i64 x339003_1, .int .i64 x339004_1] 23 (0, 0)) (by (with_reducible repeat (first | refine blk_drewN ?_ _ | refine blk_drew ?_ | refine blk_alloc ?_ _)); exact BK338.out) hb); have n3_ := Aside0.mk (blk_below (g := gb339) (o := .cells #[.int .i64 x340000_1, .int .i64 x340001_1, .bool x340002_1, .int .i64 x340003_1, .int .i64 x340004_1] 23 (0, 0)) (by (with_reducible repeat (first | refine blk_drewN ?_ _ | refine blk_drew ?_ | refine blk_alloc ?_ _)); exact BK339.out) hb); have n4_ := Aside0.mk (below_step (by repeat (first | (with_reducible first | exact HB.out | apply below_alloc | apply pw_below_drewN | apply below_drew1 | refine below_set ?_ GE330.out | refine below_set ?_ GE337.out | refine below_set ?_ GE338.out | refine below_set ?_ GE339.out) | exact HB.out)) hb); clear BK330; clear BK337; clear BK338; clear BK339; clear HB; have BK330 := n0_; have BK337 := n1_; have BK338 := n2_; have BK339 := n3_; have HB := n4_; clear n0_ n1_ n2_ n3_ n4_; (try clear hb); (try clear hb2); (try clear hk); (try clear hi); have hcz86_0 : w85.cell? ⟨gb337, 0, none⟩ = some (.int .i64 x338000_1) := (blk_cell BK337.out 0).trans rfl; have hcz86_1 : w85.cell? ⟨gb337, 1, none⟩ = some (.int .i64 x338001_1) := (blk_cell BK337.out 1).trans rfl; have hcz86_2 : w85.cell? ⟨gb337, 2, none⟩ = some (.bool x338002_1) := (blk_cell BK337.out 2).trans rfl; have hcz86_3 : w85.cell? ⟨gb337, 3, none⟩ = some (.int .i64 x338003_1) := (blk_cell BK337.out 3).trans rfl; have hcz86_4 : w85.cell? ⟨gb337, 4, none⟩ = some (.int .i64 x338004_1) := (blk_cell BK337.out 4).trans rfl; have hfz86_0 := blk_frozen BK337.out 0; have hfz86_1 := blk_frozen BK337.out 1; have hfz86_2 := blk_frozen BK337.out 2; have hfz86_3 := blk_frozen BK337.out 3; have hfz86_4 := blk_frozen BK337.out 4) | (go_at_call 20; (with_reducible refine (jackstaylaw06_ConfMerges_1.calls ((1 + (Int.tmod (rd (l1.take ((ji11) : Int).toNat) x25_1) 9)) % 256) true _ A44.out).mono ?_); rintro e w' ⟨rfl, ⟨nd, rfl⟩⟩; have hnb87 := NB338_330.out; have hnc87 := NB330_338.out; have hnb88 := NB338_339.out; have hnc88 := NB339_338.out; have hcz89_0 : w85.cell? ⟨gb338, 0, none⟩ = some (.int .i64 x339000_1) := (blk_cell BK338.out 0).trans rfl; have hcz89_1 : w85.cell? ⟨gb338, 1, none⟩ = some (.int .i64 x339001_1) := (blk_cell BK338.out 1).trans rfl; have hcz89_2 : w85.cell? ⟨gb338, 2, none⟩ = some (.bool x339002_1) := (blk_cell BK338.out 2).trans rfl; have hcz89_3 : w85.cell? ⟨gb338, 3, none⟩ = some (.int .i64 x339003_1) := (blk_cell BK338.out 3).trans rfl; have hcz89_4 : w85.cell? ⟨gb338, 4, none⟩ = some (.int .i64 x339004_1) := (blk_cell BK338.out 4).trans rfl; have hfz89_0 := blk_frozen BK338.out 0; have hfz89_1 := blk_frozen BK338.out 1; have hfz89_2 := blk_frozen BK338.out 2; have hfz89_3 := blk_frozen BK338.out 3; have hfz89_4 := blk_frozen BK338.out 4) | ((with_reducible refine gate_callee (f := 10) rfl ?_); refine goesL_ (some 44) rfl rfl Try.func10 (by kernel_rfl) rfl #[.agg #[.int .i64 x339000_1, .int .i64 x339001_1, .bool x339002_1, .int .i64 x339003_1, .int .i64 x339004_1], .int .u8 ((1 + (Int.tmod (rd (l1.take ((ji11) : Int).toNat) x25_1) 9)) % 256)] rfl (by (try simp only [List.map_toArray, List.map_cons, List.map_nil]); first | done | (simp only [hji11]; rfl) | rfl | (simp only [List.length_drop, List.length_take]; rfl)) ?_; (with_reducible refine (conf_Event.calls k1 x339000_1 x339001_1 x339002_1 x339003_1 x339004_1 ((1 + (Int.tmod (rd (l1.take ((ji11) : Int).toNat) x25_1) 9)) % 256) t350 t351 false t353 t354 t355 _ A46.out).mono ?_); rintro e w90 ⟨rfl, hb⟩; refine ⟨_, rfl, ?_⟩; have n0_ := Aside0.mk (blk_below (g := gb330) (o := .cells #[.int .i64 t331, .int .i64 t332, .bool false, .int .i64 t334, .int .i64 t335] 23 (0, 0)) (by (with_reducible repeat (first | refine blk_drewN ?_ _ | refine blk_drew ?_ | refine blk_alloc ?_ _)); refine blk_far ?_ NB330_337.out _; (with_reducible repeat (first | refine blk_drewN ?_ _ | refine blk_drew ?_ | refine blk_alloc ?_ _)); refine blk_far ?_ NB330_337.out _; (with_reducible repeat (first | refine blk_drewN ?_ _ | refine blk_drew ?_ | refine blk_alloc ?_ _)); refine blk_far ?_ NB330_337.out _; (with_reducible repeat (first | refine blk_drewN ?_ _ | refine blk_drew ?_ | refine blk_alloc ?_ _)); refine blk_far ?_ NB330_337.out _; (with_reducible repeat (first | refine blk_drewN ?_ _ | refine blk_drew ?_ | refine blk_alloc ?_ _)); refine blk_far ?_ NB330_337.out _; (with_reducible repeat (first | refine blk_drewN ?_ _ | refine blk_drew ?_ | refine blk_alloc ?_ _)); exact BK330.out) hb); have n1_ := Aside0.mk (blk_below (g := gb337) (o := .cells #[.int .i64 t343, .int .i64 t344, .bool false, .int .i64 t346, .int .i64 t347] 23 (0, 0)) (by (with_reducible repeat (first | refine blk_drewN ?_ _ | refine blk_drew ?_ | refine blk_alloc ?_ _)); refine blk_put (cs := #[.int .i64 t343, .int .i64 t344, .bool false, .int .i64 t346, .int .i64 x338004_1]) ?_ 4 _ (by first | rfl | (subst_vars; rfl)); (with_reducible repeat (first | refine blk_drewN ?_ _ | refine blk_drew ?_ | refine blk_alloc ?_ _)); refine blk_put (cs := #[.int .i64 t343, .int .i64 t344, .bool false, .int .i64 x338003_1, .int .i64 x338004_1]) ?_ 3 _ (by first | rfl | (subst_vars; rfl)); (with_reducible repeat (first | refine blk_drewN ?_ _ | refine blk_drew ?_ | refine blk_alloc ?_ _)); refine blk_put (cs := #[.int .i64 t343, .int .i64 t344, .bool x338002_1, .int .i64 x338003_1, .int .i64 x338004_1]) ?_ 2 _ (by first | rfl | (subst_vars; rfl)); (with_reducible repeat (first | refine blk_drewN ?_ _ | refine blk_drew ?_ | refine blk_alloc ?_ _)); refine blk_put (cs := #[.int .i64 t343, .int .i64 x338001_1, .bool x338002_1, .int .i64 x338003_1, .int .i64 x338004_1]) ?_ 1 _ (by first | rfl | (subst_vars; rfl)); (with_reducible repeat (first | refine blk_drewN ?_ _ | refine blk_drew ?_ | refine blk_alloc ?_ _)); refine blk_put (cs := #[.int .i64 x338000_1, .int .i64 x338001_1, .bool x338002_1, .int .i64 x338003_1, .int .i64 x338004_1]) ?_ 0 _ (by first | rfl | (subst_vars; rfl)); (with_reducible repeat (first | refine blk_drewN ?_ _ | refine blk_drew ?_ | refine blk_alloc ?_ _)); exact BK337.out) hb); have n2_ := Aside0.mk (blk_below (g := gb338) (o := .cells #[.int .i64 x339000_1, .int .i64 x339001_1, .bool x339002_1, .int .i64 x339003_1, .int .i64 x339004_1] 23 (0, 0)) (by (with_reducible repeat (first | refine blk_drewN ?_ _ | refine blk_drew ?_ | refine blk_alloc ?_ _)); refine blk_far ?_ NB338_337.out _; (with_reducible repeat (first | refine blk_drewN ?_ _ | refine blk_drew ?_ | refine blk_alloc ?_ _)); refine blk_far ?_ NB338_337.out _; (with_reducible repeat (first | refine blk_drewN ?_ _ | refine blk_drew ?_ | refine blk_alloc ?_ _)); refine blk_far ?_ NB338_337.out _; (with_reducible repeat (first | refine blk_drewN ?_ _ | refine blk_drew ?_ | refine blk_alloc ?_ _)); refine blk_far ?_ NB338_337.out _; (with_reducible repeat (first | refine blk_drewN ?_ _ | refine blk_drew ?_ | refine blk_alloc ?_ _)); refine blk_far ?_ NB338_337.out _; (with_reducible repeat (first | refine blk_drewN ?_ _ | refine blk_drew ?_ | refine blk_alloc ?_ _)); exact BK338.out) hb); have n3_ := Aside0.mk (blk_below (g := gb339) (o := .cells #[.int .i64 x340000_1, .int .i64 x340001_1, .bool x340002_1, .int .i64 x340003_1, .int .i64 x340004_1] 23 (0, 0)) (by (with_reducible repeat (first | refine blk_drewN ?_ _ | refine blk_drew ?_ | refine blk_alloc ?_ _)); refine blk_far ?_ NB339_337.out _; (with_reducible repeat (first | refine blk_drewN ?_ _ | refine blk_drew ?_ | refine blk_alloc ?_ _)); refine blk_far ?_ NB339_337.out _; (with_reducible repeat (first | refine blk_drewN ?_ _ | refine blk_drew ?_ | refine blk_alloc ?_ _)); refine blk_far ?_ NB339_337.out _; (with_reducible repeat (first | refine blk_drewN ?_ _ | refine blk_drew ?_ | refine blk_alloc ?_ _)); refine blk_far ?_ NB339_337.out _; (with_reducible repeat (first | refine blk_drewN ?_ _ | refine blk_drew ?_ | refine blk_alloc ?_ _)); refine blk_far ?_ NB339_337.out _; (with_reducible repeat (first | refine blk_drewN ?_ _ | refine blk_drew ?_ | refine blk_alloc ?_ _)); exact BK339.out) hb); have n4_ := Aside0.mk (below_step (by repeat (first | (with_reducible first | exact HB.out | apply below_alloc | apply pw_below_drewN | apply below_drew1 | refine below_set ?_ GE330.out | refine below_set ?_ GE337.out | refine below_set ?_ GE338.out | refine below_set ?_ GE339.out) | exact HB.out)) hb); clear BK330; clear BK337; clear BK338; clear BK339; clear HB; have BK330 := n0_; have BK337 := n1_; have BK338 := n2_; have BK339 := n3_; have HB := n4_; clear n0_ n1_ n2_ n3_ n4_; (try clear hb); (try clear hb2); (try clear hk); (try clear hi); have hcz91_0 : w90.cell? ⟨gb338, 0, none⟩ = some (.int .i64 x339000_1) := (blk_cell BK338.out 0).trans rfl; have hcz91_1 : w90.cell? ⟨gb338, 1, none⟩ = some (.int .i64 x339001_1) := (blk_cell BK338.out 1).trans rfl; have hcz91_2 : w90.cell? ⟨gb338, 2, none⟩ = some (.bool x339002_1) := (blk_cell BK338.out 2).trans rfl; have hcz91_3 : w90.cell? ⟨gb338, 3, none⟩ = some (.int .i64 x339003_1) := (blk_cell BK338.out 3).trans rfl; have hcz91_4 : w90.cell? ⟨gb338, 4, none⟩ = some (.int .i64 x339004_1) := (blk_cell BK338.out 4).trans rfl; have hfz91_0 := blk_frozen BK338.out 0; have hfz91_1 := blk_frozen BK338.out 1; have hfz91_2 := blk_frozen BK338.out 2; have hfz91_3 := blk_frozen BK338.out 3; have hfz91_4 := blk_frozen BK338.out 4; have hcz92_0 : w90.cell? ⟨gb337, 0, none⟩ = some (.int .i64 t343) := (blk_cell BK337.out 0).trans rfl; have hcz92_1 : w90.cell? ⟨gb337, 1, none⟩ = some (.int .i64 t344) := (blk_cell BK337.out 1).trans rfl; have hcz92_2 : w90.cell? ⟨gb337, 2, none⟩ = some (.bool false) := (blk_cell BK337.out 2).trans rfl; have hcz92_3 : w90.cell? ⟨gb337, 3, none⟩ = some (.int .i64 t346) := (blk_cell BK337.out 3).trans rfl; have hcz92_4 : w90.cell? ⟨gb337, 4, none⟩ = some (.int .i64 t347) := (blk_cell BK337.out 4).trans rfl; have hfz92_0 := blk_frozen BK337.out 0; have hfz92_1 := blk_frozen BK337.out 1; have hfz92_2 := blk_frozen BK337.out 2; have hfz92_3 := blk_frozen BK337.out 3; have hfz92_4 := blk_frozen BK337.out 4))
                        (first | go_roundg k1 | ((try simp only [← hji11]); go_roundg k1))
                        case measure => have := HK1.out; omega
                        case rel => exact ⟨(wrap64 (x25_1 + 1)), (t343), (t344), (false), (t346), (t347), (t350), (t351), (false), (t353), (t354), (x340000_1), (x340001_1), (x340002_1), (x340003_1), (x340004_1), (by first | rfl | (simp; done) | (simp [*]; done)), H', ⟨by have := HK1.out; omega⟩, ⟨by (with_reducible repeat (first | refine blk_drewN ?_ _ | refine blk_drew ?_ | refine blk_alloc ?_ _)); refine blk_far ?_ NB330_338.out _; (with_reducible repeat (first | refine blk_drewN ?_ _ | refine blk_drew ?_ | refine blk_alloc ?_ _)); refine blk_far ?_ NB330_338.out _; (with_reducible repeat (first | refine blk_drewN ?_ _ | refine blk_drew ?_ | refine blk_alloc ?_ _)); refine blk_far ?_ NB330_338.out _; (with_reducible repeat (first | refine blk_drewN ?_ _ | refine blk_drew ?_ | refine blk_alloc ?_ _)); refine blk_far ?_ NB330_338.out _; (with_reducible repeat (first | refine blk_drewN ?_ _ | refine blk_drew ?_ | refine blk_alloc ?_ _)); refine blk_far ?_ NB330_338.out _; (with_reducible repeat (first | refine blk_drewN ?_ _ | refine blk_drew ?_ | refine blk_alloc ?_ _)); exact BK330.out⟩, ⟨by (with_reducible repeat (first | refine blk_drewN ?_ _ | refine blk_drew ?_ | refine blk_alloc ?_ _)); refine blk_far ?_ NB337_338.out _; (with_reducible repeat (first | refine blk_drewN ?_ _ | refine blk_drew ?_ | refine blk_alloc ?_ _)); refine blk_far ?_ NB337_338.out _; (with_reducible repeat (first | refine blk_drewN ?_ _ | refine blk_drew ?_ | refine blk_alloc ?_ _)); refine blk_far ?_ NB337_338.out _; (with_reducible repeat (first | refine blk_drewN ?_ _ | refine blk_drew ?_ | refine blk_alloc ?_ _)); refine blk_far ?_ NB337_338.out _; (with_reducible repeat (first | refine blk_drewN ?_ _ | refine blk_drew ?_ | refine blk_alloc ?_ _)); refine blk_far ?_ NB337_338.out _; (with_reducible repeat (first | refine blk_drewN ?_ _ | refine blk_drew ?_ | refine blk_alloc ?_ _)); exact BK337.out⟩, ⟨by (with_reducible repeat (first | refine blk_drewN ?_ _ | refine blk_drew ?_ | refine blk_alloc ?_ _)); refine blk_put (cs := #[.int .i64 t350, .int .i64 t351, .bool false, .int .i64 t353, .int .i64 x339004_1]) ?_ 4 _ rfl; (with_reducible repeat (first | refine blk_drewN ?_ _ | refine blk_drew ?_ | refine blk_alloc ?_ _)); refine blk_put (cs := #[.int .i64 t350, .int .i64 t351, .bool false, .int .i64 x339003_1, .int .i64 x339004_1]) ?_ 3 _ rfl; (with_reducible repeat (first | refine blk_drewN ?_ _ | refine blk_drew ?_ | refine blk_alloc ?_ _)); refine blk_put (cs := #[.int .i64 t350, .int .i64 t351, .bool x339002_1, .int .i64 x339003_1, .int .i64 x339004_1]) ?_ 2 _ rfl; (with_reducible repeat (first | refine blk_drewN ?_ _ | refine blk_drew ?_ | refine blk_alloc ?_ _)); refine blk_put (cs := #[.int .i64 t350, .int .i64 x339001_1, .bool x339002_1, .int .i64 x339003_1, .int .i64 x339004_1]) ?_ 1 _ rfl; (with_reducible repeat (first | refine blk_drewN ?_ _ | refine blk_drew ?_ | refine blk_alloc ?_ _)); refine blk_put (cs := #[.int .i64 x339000_1, .int .i64 x339001_1, .bool x339002_1, .int .i64 x339003_1, .int .i64 x339004_1]) ?_ 0 _ rfl; (with_reducible repeat (first | refine blk_drewN ?_ _ | refine blk_drew ?_ | refine blk_alloc ?_ _)); exact BK338.out⟩, ⟨by (with_reducible repeat (first | refine blk_drewN ?_ _ | refine blk_drew ?_ | refine blk_alloc ?_ _)); refine blk_far ?_ NB339_338.out _; (with_reducible repeat (first | refine blk_drewN ?_ _ | refine blk_drew ?_ | refine blk_alloc ?_ _)); refine blk_far ?_ NB339_338.out _; (with_reducible repeat (first | refine blk_drewN ?_ _ | refine blk_drew ?_ | refine blk_alloc ?_ _)); refine blk_far ?_ NB339_338.out _; (with_reducible repeat (first | refine blk_drewN ?_ _ | refine blk_drew ?_ | refine blk_alloc ?_ _)); refine blk_far ?_ NB339_338.out _; (with_reducible repeat (first | refine blk_drewN ?_ _ | refine blk_drew ?_ | refine blk_alloc ?_ _)); refine blk_far ?_ NB339_338.out _; (with_reducible repeat (first | refine blk_drewN ?_ _ | refine blk_drew ?_ | refine blk_alloc ?_ _)); exact BK339.out⟩, ⟨by repeat (first | (with_reducible first | exact HB.out | apply below_alloc | apply pw_below_drewN | apply below_drew1 | refine below_set ?_ GE330.out | refine below_set ?_ GE337.out | refine below_set ?_ GE338.out | refine below_set ?_ GE339.out) | exact HB.out)⟩⟩
                  · replace c45 := Bool.eq_false_iff.mpr c45
                    subst c45
                    have H1 : ((conf_Event.f k1 x340000_1 x340001_1 x340002_1 x340003_1 x340004_1 ((1 + (Int.tmod (rd (l1.take ((ji11) : Int).toNat) x25_1) 9)) % 256)).bind fun bt358 => (if t345 = true then (if (t345 == x339002_1) = true then (if t343 = x339000_1 then ((jackstaylaw06_awake.f k1).bind fun t364 => (some t364)) else (some false)) else (some false)) else (if x339002_1 = true then (if (t345 == x339002_1) = true then (if t343 = x339000_1 then ((jackstaylaw06_awake.f k1).bind fun t365 => (some t365)) else (some false)) else (some false)) else (jackstaylaw06_ConfMerges.l0 k1 (l1.take ((ji11) : Int).toNat) ((l1.take ((ji11) : Int).toNat).length : Int) (wrap64 (x25_1 + 1)) t331 t332 false t334 t335 t343 t344 t345 t346 t347 x339000_1 x339001_1 x339002_1 x339003_1 x339004_1 bt358.1 bt358.2.1 bt358.2.2.1 bt358.2.2.2.1 bt358.2.2.2.2.1)))) = some r := by rw [if_neg (show ¬ (false = true) by decide)] at H; exact H
                    clear H
                    have H := H1
                    clear H1
                    replace H := Option.bind_eq_some_iff.mp H
                    obtain ⟨⟨t358, t359, t360, t361, t362, t363⟩, A930, H⟩ := H
                    replace H : (if t345 = true then (if (t345 == x339002_1) = true then (if t343 = x339000_1 then ((jackstaylaw06_awake.f k1).bind fun t364 => (some t364)) else (some false)) else (some false)) else (if x339002_1 = true then (if (t345 == x339002_1) = true then (if t343 = x339000_1 then ((jackstaylaw06_awake.f k1).bind fun t365 => (some t365)) else (some false)) else (some false)) else (jackstaylaw06_ConfMerges.l0 k1 (l1.take ((ji11) : Int).toNat) ((l1.take ((ji11) : Int).toNat).length : Int) (wrap64 (x25_1 + 1)) t331 t332 false t334 t335 t343 t344 t345 t346 t347 x339000_1 x339001_1 x339002_1 x339003_1 x339004_1 t358 t359 t360 t361 t362))) = some r := H
                    have A93 := Aside0.mk A930
                    clear A930
                    by_cases c94 : t345 = true
                    · subst c94
                      have H1 : (if (true == x339002_1) = true then (if t343 = x339000_1 then ((jackstaylaw06_awake.f k1).bind fun t364 => (some t364)) else (some false)) else (some false)) = some r := by rw [if_pos rfl] at H; exact H
                      clear H
                      have H := H1
                      clear H1
                      by_cases c95 : (true == x339002_1) = true
                      · rw [if_pos c95] at H
                        have c95b0 : (true == x339002_1) = true := c95
                        (try (have c95b0n := c95b0; simp only [beq_false, beq_true, Bool.not_not, Bool.not_true, Bool.not_false, Bool.true_and, Bool.and_true, Bool.false_or, Bool.or_false, Bool.true_bne, Bool.false_bne, Bool.bne_true, Bool.bne_false, Bool.true_beq, Bool.false_beq] at c95b0n; have c95b0o := c95b0n; simp only [Bool.not_eq_false', Bool.not_eq_true'] at c95b0o))
                        (try (have c95b1 : decide (true = x339002_1) = true := by simpa using c95))
                        (try (have c95b2 : (true == x339002_1) = true := by simpa using c95))
                        clear c95
                        by_cases c96 : t343 = x339000_1
                        · rw [if_pos c96] at H
                          have c96b0 : (t343 == x339000_1) = true := beq_iff_eq.mpr c96
                          have c96b1 : (t343 != x339000_1) = false := bne_eq_false_iff_eq.mpr c96
                          clear c96
                          replace H := Option.bind_eq_some_iff.mp H
                          obtain ⟨t364, A970, H⟩ := H
                          replace H : (some t364) = some r := H
                          have A97 := Aside0.mk A970
                          clear A970
                          obtain rfl := Option.some.inj H
                          simp only [Option.some.injEq, Prod.mk.injEq] at H
                          obtain ⟨rfl⟩ := H
                          have p342 : 0 ≤ (x25_1 : Int) := of_decide_eq_true (by first | (with_reducible assumption) | assumption)
                          have q342 : x25_1 < ((l1.take ((ji11) : Int).toNat).length : Int) := of_decide_eq_true (by first | (with_reducible assumption) | assumption)
                          obtain ⟨ad342, e342, hx342_0⟩ := Kd.at_int HR340.out x25_1 p342 q342
                          cases e342
                          (try replace hx342_0 := (HB.out.cell (World.block_lt_of_cell? w _ hx342_0)).trans hx342_0)
                          replace p342 := eq_true p342
                          replace q342 := eq_true q342
                          (try (have q342y : (x25_1 < max ji11 0) = True := eq_true (by have h_ := of_eq_true q342; simp only [List.length_take] at h_; omega)))
                          (try (have q342z := q342; simp only [List.length_drop, List.length_take] at q342z))
                          have hnb98 := NB337_330.out
                          have hnc98 := NB330_337.out
                          have hnb99 := NB337_338.out
                          have hnc99 := NB338_337.out
                          have hnb100 := NB337_339.out
                          have hnc100 := NB339_337.out
                          have hcz101_0 : wr.cell? ⟨gb337, 0, none⟩ = some (.int .i64 x338000_1) := (blk_cell BK337.out 0).trans rfl
                          have hcz101_1 : wr.cell? ⟨gb337, 1, none⟩ = some (.int .i64 x338001_1) := (blk_cell BK337.out 1).trans rfl
                          have hcz101_2 : wr.cell? ⟨gb337, 2, none⟩ = some (.bool x338002_1) := (blk_cell BK337.out 2).trans rfl
                          have hcz101_3 : wr.cell? ⟨gb337, 3, none⟩ = some (.int .i64 x338003_1) := (blk_cell BK337.out 3).trans rfl
                          have hcz101_4 : wr.cell? ⟨gb337, 4, none⟩ = some (.int .i64 x338004_1) := (blk_cell BK337.out 4).trans rfl
                          have hfz101_0 := blk_frozen BK337.out 0
                          have hfz101_1 := blk_frozen BK337.out 1
                          have hfz101_2 := blk_frozen BK337.out 2
                          have hfz101_3 := blk_frozen BK337.out 3
                          have hfz101_4 := blk_frozen BK337.out 4
                          go_wp2_with (first | ((with_reducible refine gate_callee (f := 10) rfl ?_); refine goesL_ (some 35) rfl rfl Try.func10 (by kernel_rfl) rfl #[.agg #[.int .i64 x338000_1, .int .i64 x338001_1, .bool x338002_1, .int .i64 x338003_1, .int .i64 x338004_1], .int .u8 ((1 + (Int.tmod (rd (l1.take ((ji11) : Int).toNat) x25_1) 9)) % 256)] rfl (by (try simp only [List.map_toArray, List.map_cons, List.map_nil]); first | done | (simp only [hji11]; rfl) | rfl | (simp only [List.length_drop, List.length_take]; rfl)) ?_; (with_reducible refine (conf_Event.calls k1 x338000_1 x338001_1 x338002_1 x338003_1 x338004_1 ((1 + (Int.tmod (rd (l1.take ((ji11) : Int).toNat) x25_1) 9)) % 256) t343 t344 true t346 t347 t348 _ A43.out).mono ?_); rintro e w102 ⟨rfl, hb⟩; refine ⟨_, rfl, ?_⟩; have n0_ := Aside0.mk (blk_below (g := gb330) (o := .cells #[.int .i64 t331, .int .i64 t332, .bool false, .int .i64 t334, .int .i64 t335] 23 (0, 0)) (by (with_reducible repeat (first | refine blk_drewN ?_ _ | refine blk_drew ?_ | refine blk_alloc ?_ _)); exact BK330.out) hb); have n1_ := Aside0.mk (blk_below (g := gb337) (o := .cells #[.int .i64 x338000_1, .int .i64 x338001_1, .bool x338002_1, .int .i64 x338003_1, .int .i64 x338004_1] 23 (0, 0)) (by (with_reducible repeat (first | refine blk_drewN ?_ _ | refine blk_drew ?_ | refine blk_alloc ?_ _)); exact BK337.out) hb); have n2_ := Aside0.mk (blk_below (g := gb338) (o := .cells #[.int .i64 x339000_1, .int .i64 x339001_1, .bool x339002_1, .int .i64 x339003_1, .int .i64 x339004_1] 23 (0, 0)) (by (with_reducible repeat (first | refine blk_drewN ?_ _ | refine blk_drew ?_ | refine blk_alloc ?_ _)); exact BK338.out) hb); have n3_ := Aside0.mk (blk_below (g := gb339) (o := .cells #[.int .i64 x340000_1, .int .i64 x340001_1, .bool x340002_1, .int .i64 x340003_1, .int .i64 x340004_1] 23 (0, 0)) (by (with_reducible repeat (first | refine blk_drewN ?_ _ | refine blk_drew ?_ | refine blk_alloc ?_ _)); exact BK339.out) hb); have n4_ := Aside0.mk (below_step (by repeat (first | (with_reducible first | exact HB.out | apply below_alloc | apply pw_below_drewN | apply below_drew1 | refine below_set ?_ GE330.out | refine below_set ?_ GE337.out | refine below_set ?_ GE338.out | refine below_set ?_ GE339.out) | exact HB.out)) hb); clear BK330; clear BK337; clear BK338; clear BK339; clear HB; have BK330 := n0_; have BK337 := n1_; have BK338 := n2_; have BK339 := n3_; have HB := n4_; clear n0_ n1_ n2_ n3_ n4_; (try clear hb); (try clear hb2); (try clear hk); (try clear hi); have hcz103_0 : w102.cell? ⟨gb337, 0, none⟩ = some (.int .i64 x338000_1) := (blk_cell BK337.out 0).trans rfl; have hcz103_1 : w102.cell? ⟨gb337, 1, none⟩ = some (.int .i64 x338001_1) := (blk_cell BK337.out 1).trans rfl; have hcz103_2 : w102.cell? ⟨gb337, 2, none⟩ = some (.bool x338002_1) := (blk_cell BK337.out 2).trans rfl; have hcz103_3 : w102.cell? ⟨gb337, 3, none⟩ = some (.int .i64 x338003_1) := (blk_cell BK337.out 3).trans rfl; have hcz103_4 : w102.cell? ⟨gb337, 4, none⟩ = some (.int .i64 x338004_1) := (blk_cell BK337.out 4).trans rfl; have hfz103_0 := blk_frozen BK337.out 0; have hfz103_1 := blk_frozen BK337.out 1; have hfz103_2 := blk_frozen BK337.out 2; have hfz103_3 := blk_frozen BK337.out 3; have hfz103_4 := blk_frozen BK337.out 4) | (go_at_call 20; (with_reducible refine (jackstaylaw06_ConfMerges_1.calls ((1 + (Int.tmod (rd (l1.take ((ji11) : Int).toNat) x25_1) 9)) % 256) false _ A44.out).mono ?_); rintro e w' ⟨rfl, ⟨nd, rfl⟩⟩; have hnb104 := NB339_330.out; have hnc104 := NB330_339.out; have hnb105 := NB339_338.out; have hnc105 := NB338_339.out; have hcz106_0 : w102.cell? ⟨gb339, 0, none⟩ = some (.int .i64 x340000_1) := (blk_cell BK339.out 0).trans rfl; have hcz106_1 : w102.cell? ⟨gb339, 1, none⟩ = some (.int .i64 x340001_1) := (blk_cell BK339.out 1).trans rfl; have hcz106_2 : w102.cell? ⟨gb339, 2, none⟩ = some (.bool x340002_1) := (blk_cell BK339.out 2).trans rfl; have hcz106_3 : w102.cell? ⟨gb339, 3, none⟩ = some (.int .i64 x340003_1) := (blk_cell BK339.out 3).trans rfl; have hcz106_4 : w102.cell? ⟨gb339, 4, none⟩ = some (.int .i64 x340004_1) := (blk_cell BK339.out 4).trans rfl; have hfz106_0 := blk_frozen BK339.out 0; have hfz106_1 := blk_frozen BK339.out 1; have hfz106_2 := blk_frozen BK339.out 2; have hfz106_3 := blk_frozen BK339.out 3; have hfz106_4 := blk_frozen BK339.out 4) | ((with_reducible refine gate_callee (f := 10) rfl ?_); refine goesL_ (some 50) rfl rfl Try.func10 (by kernel_rfl) rfl #[.agg #[.int .i64 x340000_1, .int .i64 x340001_1, .bool x340002_1, .int .i64 x340003_1, .int .i64 x340004_1], .int .u8 ((1 + (Int.tmod (rd (l1.take ((ji11) : Int).toNat) x25_1) 9)) % 256)] rfl (by (try simp only [List.map_toArray, List.map_cons, List.map_nil]); first | done | (simp only [hji11]; rfl) | rfl | (simp only [List.length_drop, List.length_take]; rfl)) ?_; (with_reducible refine (conf_Event.calls k1 x340000_1 x340001_1 x340002_1 x340003_1 x340004_1 ((1 + (Int.tmod (rd (l1.take ((ji11) : Int).toNat) x25_1) 9)) % 256) t358 t359 t360 t361 t362 t363 _ A93.out).mono ?_); rintro e w107 ⟨rfl, hb⟩; refine ⟨_, rfl, ?_⟩; have n0_ := Aside0.mk (blk_below (g := gb330) (o := .cells #[.int .i64 t331, .int .i64 t332, .bool false, .int .i64 t334, .int .i64 t335] 23 (0, 0)) (by (with_reducible repeat (first | refine blk_drewN ?_ _ | refine blk_drew ?_ | refine blk_alloc ?_ _)); refine blk_far ?_ NB330_337.out _; (with_reducible repeat (first | refine blk_drewN ?_ _ | refine blk_drew ?_ | refine blk_alloc ?_ _)); refine blk_far ?_ NB330_337.out _; (with_reducible repeat (first | refine blk_drewN ?_ _ | refine blk_drew ?_ | refine blk_alloc ?_ _)); refine blk_far ?_ NB330_337.out _; (with_reducible repeat (first | refine blk_drewN ?_ _ | refine blk_drew ?_ | refine blk_alloc ?_ _)); refine blk_far ?_ NB330_337.out _; (with_reducible repeat (first | refine blk_drewN ?_ _ | refine blk_drew ?_ | refine blk_alloc ?_ _)); refine blk_far ?_ NB330_337.out _; (with_reducible repeat (first | refine blk_drewN ?_ _ | refine blk_drew ?_ | refine blk_alloc ?_ _)); exact BK330.out) hb); have n1_ := Aside0.mk (blk_below (g := gb337) (o := .cells #[.int .i64 t343, .int .i64 t344, .bool true, .int .i64 t346, .int .i64 t347] 23 (0, 0)) (by (with_reducible repeat (first | refine blk_drewN ?_ _ | refine blk_drew ?_ | refine blk_alloc ?_ _)); refine blk_put (cs := #[.int .i64 t343, .int .i64 t344, .bool true, .int .i64 t346, .int .i64 x338004_1]) ?_ 4 _ (by first | rfl | (subst_vars; rfl)); (with_reducible repeat (first | refine blk_drewN ?_ _ | refine blk_drew ?_ | refine blk_alloc ?_ _)); refine blk_put (cs := #[.int .i64 t343, .int .i64 t344, .bool true, .int .i64 x338003_1, .int .i64 x338004_1]) ?_ 3 _ (by first | rfl | (subst_vars; rfl)); (with_reducible repeat (first | refine blk_drewN ?_ _ | refine blk_drew ?_ | refine blk_alloc ?_ _)); refine blk_put (cs := #[.int .i64 t343, .int .i64 t344, .bool x338002_1, .int .i64 x338003_1, .int .i64 x338004_1]) ?_ 2 _ (by first | rfl | (subst_vars; rfl)); (with_reducible repeat (first | refine blk_drewN ?_ _ | refine blk_drew ?_ | refine blk_alloc ?_ _)); refine blk_put (cs := #[.int .i64 t343, .int .i64 x338001_1, .bool x338002_1, .int .i64 x338003_1, .int .i64 x338004_1]) ?_ 1 _ (by first | rfl | (subst_vars; rfl)); (with_reducible repeat (first | refine blk_drewN ?_ _ | refine blk_drew ?_ | refine blk_alloc ?_ _)); refine blk_put (cs := #[.int .i64 x338000_1, .int .i64 x338001_1, .bool x338002_1, .int .i64 x338003_1, .int .i64 x338004_1]) ?_ 0 _ (by first | rfl | (subst_vars; rfl)); (with_reducible repeat (first | refine blk_drewN ?_ _ | refine blk_drew ?_ | refine blk_alloc ?_ _)); exact BK337.out) hb); have n2_ := Aside0.mk (blk_below (g := gb338) (o := .cells #[.int .i64 x339000_1, .int .i64 x339001_1, .bool x339002_1, .int .i64 x339003_1, .int .i64 x339004_1] 23 (0, 0)) (by (with_reducible repeat (first | refine blk_drewN ?_ _ | refine blk_drew ?_ | refine blk_alloc ?_ _)); refine blk_far ?_ NB338_337.out _; (with_reducible repeat (first | refine blk_drewN ?_ _ | refine blk_drew ?_ | refine blk_alloc ?_ _)); refine blk_far ?_ NB338_337.out _; (with_reducible repeat (first | refine blk_drewN ?_ _ | refine blk_drew ?_ | refine blk_alloc ?_ _)); refine blk_far ?_ NB338_337.out _; (with_reducible repeat (first | refine blk_drewN ?_ _ | refine blk_drew ?_ | refine blk_alloc ?_ _)); refine blk_far ?_ NB338_337.out _; (with_reducible repeat (first | refine blk_drewN ?_ _ | refine blk_drew ?_ | refine blk_alloc ?_ _)); refine blk_far ?_ NB338_337.out _; (with_reducible repeat (first | refine blk_drewN ?_ _ | refine blk_drew ?_ | refine blk_alloc ?_ _)); exact BK338.out) hb); have n3_ := Aside0.mk (blk_below (g := gb339) (o := .cells #[.int .i64 x340000_1, .int .i64 x340001_1, .bool x340002_1, .int .i64 x340003_1, .int .i64 x340004_1] 23 (0, 0)) (by (with_reducible repeat (first | refine blk_drewN ?_ _ | refine blk_drew ?_ | refine blk_alloc ?_ _)); refine blk_far ?_ NB339_337.out _; (with_reducible repeat (first | refine blk_drewN ?_ _ | refine blk_drew ?_ | refine blk_alloc ?_ _)); refine blk_far ?_ NB339_337.out _; (with_reducible repeat (first | refine blk_drewN ?_ _ | refine blk_drew ?_ | refine blk_alloc ?_ _)); refine blk_far ?_ NB339_337.out _; (with_reducible repeat (first | refine blk_drewN ?_ _ | refine blk_drew ?_ | refine blk_alloc ?_ _)); refine blk_far ?_ NB339_337.out _; (with_reducible repeat (first | refine blk_drewN ?_ _ | refine blk_drew ?_ | refine blk_alloc ?_ _)); refine blk_far ?_ NB339_337.out _; (with_reducible repeat (first | refine blk_drewN ?_ _ | refine blk_drew ?_ | refine blk_alloc ?_ _)); exact BK339.out) hb); have n4_ := Aside0.mk (below_step (by repeat (first | (with_reducible first | exact HB.out | apply below_alloc | apply pw_below_drewN | apply below_drew1 | refine below_set ?_ GE330.out | refine below_set ?_ GE337.out | refine below_set ?_ GE338.out | refine below_set ?_ GE339.out) | exact HB.out)) hb); clear BK330; clear BK337; clear BK338; clear BK339; clear HB; have BK330 := n0_; have BK337 := n1_; have BK338 := n2_; have BK339 := n3_; have HB := n4_; clear n0_ n1_ n2_ n3_ n4_; (try clear hb); (try clear hb2); (try clear hk); (try clear hi); have hcz108_0 : w107.cell? ⟨gb339, 0, none⟩ = some (.int .i64 x340000_1) := (blk_cell BK339.out 0).trans rfl; have hcz108_1 : w107.cell? ⟨gb339, 1, none⟩ = some (.int .i64 x340001_1) := (blk_cell BK339.out 1).trans rfl; have hcz108_2 : w107.cell? ⟨gb339, 2, none⟩ = some (.bool x340002_1) := (blk_cell BK339.out 2).trans rfl; have hcz108_3 : w107.cell? ⟨gb339, 3, none⟩ = some (.int .i64 x340003_1) := (blk_cell BK339.out 3).trans rfl; have hcz108_4 : w107.cell? ⟨gb339, 4, none⟩ = some (.int .i64 x340004_1) := (blk_cell BK339.out 4).trans rfl; have hfz108_0 := blk_frozen BK339.out 0; have hfz108_1 := blk_frozen BK339.out 1; have hfz108_2 := blk_frozen BK339.out 2; have hfz108_3 := blk_frozen BK339.out 3; have hfz108_4 := blk_frozen BK339.out 4; have hcz109_0 : w107.cell? ⟨gb337, 0, none⟩ = some (.int .i64 t343) := (blk_cell BK337.out 0).trans rfl; have hcz109_1 : w107.cell? ⟨gb337, 1, none⟩ = some (.int .i64 t344) := (blk_cell BK337.out 1).trans rfl; have hcz109_2 : w107.cell? ⟨gb337, 2, none⟩ = some (.bool true) := (blk_cell BK337.out 2).trans rfl; have hcz109_3 : w107.cell? ⟨gb337, 3, none⟩ = some (.int .i64 t346) := (blk_cell BK337.out 3).trans rfl; have hcz109_4 : w107.cell? ⟨gb337, 4, none⟩ = some (.int .i64 t347) := (blk_cell BK337.out 4).trans rfl; have hfz109_0 := blk_frozen BK337.out 0; have hfz109_1 := blk_frozen BK337.out 1; have hfz109_2 := blk_frozen BK337.out 2; have hfz109_3 := blk_frozen BK337.out 3; have hfz109_4 := blk_frozen BK337.out 4; have hnb110 := NB338_330.out; have hnc110 := NB330_338.out; have hcz111_0 : w107.cell? ⟨gb338, 0, none⟩ = some (.int .i64 x339000_1) := (blk_cell BK338.out 0).trans rfl; have hcz111_1 : w107.cell? ⟨gb338, 1, none⟩ = some (.int .i64 x339001_1) := (blk_cell BK338.out 1).trans rfl; have hcz111_2 : w107.cell? ⟨gb338, 2, none⟩ = some (.bool x339002_1) := (blk_cell BK338.out 2).trans rfl; have hcz111_3 : w107.cell? ⟨gb338, 3, none⟩ = some (.int .i64 x339003_1) := (blk_cell BK338.out 3).trans rfl; have hcz111_4 : w107.cell? ⟨gb338, 4, none⟩ = some (.int .i64 x339004_1) := (blk_cell BK338.out 4).trans rfl; have hfz111_0 := blk_frozen BK338.out 0; have hfz111_1 := blk_frozen BK338.out 1; have hfz111_2 := blk_frozen BK338.out 2; have hfz111_3 := blk_frozen BK338.out 3; have hfz111_4 := blk_frozen BK338.out 4) | (go_at_call 18; (with_reducible refine (jackstaylaw06_awake.calls k1  t364 _ A97.out).mono ?_); rintro e w112 ⟨rfl, hb⟩; have n0_ := Aside0.mk (blk_below (g := gb330) (o := .cells #[.int .i64 t331, .int .i64 t332, .bool false, .int .i64 t334, .int .i64 t335] 23 (0, 0)) (by (with_reducible repeat (first | refine blk_drewN ?_ _ | refine blk_drew ?_ | refine blk_alloc ?_ _)); refine blk_far ?_ NB330_339.out _; (with_reducible repeat (first | refine blk_drewN ?_ _ | refine blk_drew ?_ | refine blk_alloc ?_ _)); refine blk_far ?_ NB330_339.out _; (with_reducible repeat (first | refine blk_drewN ?_ _ | refine blk_drew ?_ | refine blk_alloc ?_ _)); refine blk_far ?_ NB330_339.out _; (with_reducible repeat (first | refine blk_drewN ?_ _ | refine blk_drew ?_ | refine blk_alloc ?_ _)); refine blk_far ?_ NB330_339.out _; (with_reducible repeat (first | refine blk_drewN ?_ _ | refine blk_drew ?_ | refine blk_alloc ?_ _)); refine blk_far ?_ NB330_339.out _; (with_reducible repeat (first | refine blk_drewN ?_ _ | refine blk_drew ?_ | refine blk_alloc ?_ _)); exact BK330.out) hb); have n1_ := Aside0.mk (blk_below (g := gb337) (o := .cells #[.int .i64 t343, .int .i64 t344, .bool true, .int .i64 t346, .int .i64 t347] 23 (0, 0)) (by (with_reducible repeat (first | refine blk_drewN ?_ _ | refine blk_drew ?_ | refine blk_alloc ?_ _)); refine blk_far ?_ NB337_339.out _; (with_reducible repeat (first | refine blk_drewN ?_ _ | refine blk_drew ?_ | refine blk_alloc ?_ _)); refine blk_far ?_ NB337_339.out _; (with_reducible repeat (first | refine blk_drewN ?_ _ | refine blk_drew ?_ | refine blk_alloc ?_ _)); refine blk_far ?_ NB337_339.out _; (with_reducible repeat (first | refine blk_drewN ?_ _ | refine blk_drew ?_ | refine blk_alloc ?_ _)); refine blk_far ?_ NB337_339.out _; (with_reducible repeat (first | refine blk_drewN ?_ _ | refine blk_drew ?_ | refine blk_alloc ?_ _)); refine blk_far ?_ NB337_339.out _; (with_reducible repeat (first | refine blk_drewN ?_ _ | refine blk_drew ?_ | refine blk_alloc ?_ _)); exact BK337.out) hb); have n2_ := Aside0.mk (blk_below (g := gb338) (o := .cells #[.int .i64 x339000_1, .int .i64 x339001_1, .bool x339002_1, .int .i64 x339003_1, .int .i64 x339004_1] 23 (0, 0)) (by (with_reducible repeat (first | refine blk_drewN ?_ _ | refine blk_drew ?_ | refine blk_alloc ?_ _)); refine blk_far ?_ NB338_339.out _; (with_reducible repeat (first | refine blk_drewN ?_ _ | refine blk_drew ?_ | refine blk_alloc ?_ _)); refine blk_far ?_ NB338_339.out _; (with_reducible repeat (first | refine blk_drewN ?_ _ | refine blk_drew ?_ | refine blk_alloc ?_ _)); refine blk_far ?_ NB338_339.out _; (with_reducible repeat (first | refine blk_drewN ?_ _ | refine blk_drew ?_ | refine blk_alloc ?_ _)); refine blk_far ?_ NB338_339.out _; (with_reducible repeat (first | refine blk_drewN ?_ _ | refine blk_drew ?_ | refine blk_alloc ?_ _)); refine blk_far ?_ NB338_339.out _; (with_reducible repeat (first | refine blk_drewN ?_ _ | refine blk_drew ?_ | refine blk_alloc ?_ _)); exact BK338.out) hb); have n3_ := Aside0.mk (blk_below (g := gb339) (o := .cells #[.int .i64 t358, .int .i64 t359, .bool t360, .int .i64 t361, .int .i64 t362] 23 (0, 0)) (by (with_reducible repeat (first | refine blk_drewN ?_ _ | refine blk_drew ?_ | refine blk_alloc ?_ _)); refine blk_put (cs := #[.int .i64 t358, .int .i64 t359, .bool t360, .int .i64 t361, .int .i64 x340004_1]) ?_ 4 _ (by first | rfl | (subst_vars; rfl)); (with_reducible repeat (first | refine blk_drewN ?_ _ | refine blk_drew ?_ | refine blk_alloc ?_ _)); refine blk_put (cs := #[.int .i64 t358, .int .i64 t359, .bool t360, .int .i64 x340003_1, .int .i64 x340004_1]) ?_ 3 _ (by first | rfl | (subst_vars; rfl)); (with_reducible repeat (first | refine blk_drewN ?_ _ | refine blk_drew ?_ | refine blk_alloc ?_ _)); refine blk_put (cs := #[.int .i64 t358, .int .i64 t359, .bool x340002_1, .int .i64 x340003_1, .int .i64 x340004_1]) ?_ 2 _ (by first | rfl | (subst_vars; rfl)); (with_reducible repeat (first | refine blk_drewN ?_ _ | refine blk_drew ?_ | refine blk_alloc ?_ _)); refine blk_put (cs := #[.int .i64 t358, .int .i64 x340001_1, .bool x340002_1, .int .i64 x340003_1, .int .i64 x340004_1]) ?_ 1 _ (by first | rfl | (subst_vars; rfl)); (with_reducible repeat (first | refine blk_drewN ?_ _ | refine blk_drew ?_ | refine blk_alloc ?_ _)); refine blk_put (cs := #[.int .i64 x340000_1, .int .i64 x340001_1, .bool x340002_1, .int .i64 x340003_1, .int .i64 x340004_1]) ?_ 0 _ (by first | rfl | (subst_vars; rfl)); (with_reducible repeat (first | refine blk_drewN ?_ _ | refine blk_drew ?_ | refine blk_alloc ?_ _)); exact BK339.out) hb); have n4_ := Aside0.mk (below_step (by repeat (first | (with_reducible first | exact HB.out | apply below_alloc | apply pw_below_drewN | apply below_drew1 | refine below_set ?_ GE330.out | refine below_set ?_ GE337.out | refine below_set ?_ GE338.out | refine below_set ?_ GE339.out) | exact HB.out)) hb); clear BK330; clear BK337; clear BK338; clear BK339; clear HB; have BK330 := n0_; have BK337 := n1_; have BK338 := n2_; have BK339 := n3_; have HB := n4_; clear n0_ n1_ n2_ n3_ n4_; (try clear hb); (try clear hb2); (try clear hk); (try clear hi)))
                          go_ret
                          exact ⟨by first | rfl | (simp [errW_none, errW_some] <;> rfl) | (simp only [← hji11]; first | rfl | (simp [errW_none, errW_some] <;> rfl)) | (simp [*, errW_none, errW_some] <;> rfl), by repeat (first | (with_reducible first | exact HB.out | apply below_alloc | apply pw_below_drewN | apply below_drew1 | refine below_set ?_ GE330.out | refine below_set ?_ GE337.out | refine below_set ?_ GE338.out | refine below_set ?_ GE339.out) | exact HB.out)⟩
                        · rw [if_neg c96] at H
                          have c96b0 : (t343 == x339000_1) = false := beq_eq_false_iff_ne.mpr c96
                          have c96b1 : (t343 != x339000_1) = true := bne_iff_ne.mpr c96
                          obtain rfl := Option.some.inj H
                          exact absurd hT_ (by decide)
                      · rw [if_neg c95] at H
                        have c95b0 : (true == x339002_1) = false := by simpa using c95
                        (try (have c95b0n := c95b0; simp only [beq_false, beq_true, Bool.not_not, Bool.not_true, Bool.not_false, Bool.true_and, Bool.and_true, Bool.false_or, Bool.or_false, Bool.true_bne, Bool.false_bne, Bool.bne_true, Bool.bne_false, Bool.true_beq, Bool.false_beq] at c95b0n; have c95b0o := c95b0n; simp only [Bool.not_eq_false', Bool.not_eq_true'] at c95b0o))
                        (try (have c95b1 : decide (true = x339002_1) = false := by simpa using c95))
                        (try (have c95b2 : (true == x339002_1) = false := by simpa using c95))
                        (try (have c95b3 : ¬ (true = x339002_1) := by simpa using c95))
                        clear c95
                        obtain rfl := Option.some.inj H
                        exact absurd hT_ (by decide)
                    · replace c94 := Bool.eq_false_iff.mpr c94
                      subst c94
                      have H1 : (if x339002_1 = true then (if (false == x339002_1) = true then (if t343 = x339000_1 then ((jackstaylaw06_awake.f k1).bind fun t365 => (some t365)) else (some false)) else (some false)) else (jackstaylaw06_ConfMerges.l0 k1 (l1.take ((ji11) : Int).toNat) ((l1.take ((ji11) : Int).toNat).length : Int) (wrap64 (x25_1 + 1)) t331 t332 false t334 t335 t343 t344 false t346 t347 x339000_1 x339001_1 x339002_1 x339003_1 x339004_1 t358 t359 t360 t361 t362)) = some r := by rw [if_neg (show ¬ (false = true) by decide)] at H; exact H
                      clear H
                      have H := H1
                      clear H1
                      by_cases c113 : x339002_1 = true
                      · subst c113
                        have H1 : (if (false == true) = true then (if t343 = x339000_1 then ((jackstaylaw06_awake.f k1).bind fun t365 => (some t365)) else (some false)) else (some false)) = some r := by rw [if_pos rfl] at H; exact H
                        clear H
                        have H := H1
                        clear H1
                        by_cases c114 : (false == true) = true
                        · rw [if_pos c114] at H
                          have c114b0 : (false == true) = true := c114
                          (try (have c114b0n := c114b0; simp only [beq_false, beq_true, Bool.not_not, Bool.not_true, Bool.not_false, Bool.true_and, Bool.and_true, Bool.false_or, Bool.or_false, Bool.true_bne, Bool.false_bne, Bool.bne_true, Bool.bne_false, Bool.true_beq, Bool.false_beq] at c114b0n; have c114b0o := c114b0n; simp only [Bool.not_eq_false', Bool.not_eq_true'] at c114b0o))
                          (try (have c114b1 : decide (false = true) = true := by revert c114; simp))
                          (try (have c114b2 : (false == true) = true := by revert c114; simp))
                          clear c114
                          by_cases c115 : t343 = x339000_1
                          · rw [if_pos c115] at H
                            have c115b0 : (t343 == x339000_1) = true := beq_iff_eq.mpr c115
                            have c115b1 : (t343 != x339000_1) = false := bne_eq_false_iff_eq.mpr c115
                            clear c115
                            replace H := Option.bind_eq_some_iff.mp H
                            obtain ⟨t365, A1160, H⟩ := H
                            replace H : (some t365) = some r := H
                            have A116 := Aside0.mk A1160
                            clear A1160
                            obtain rfl := Option.some.inj H
                            simp only [Option.some.injEq, Prod.mk.injEq] at H
                            obtain ⟨rfl⟩ := H
                            have p342 : 0 ≤ (x25_1 : Int) := of_decide_eq_true (by first | (with_reducible assumption) | assumption)
                            have q342 : x25_1 < ((l1.take ((ji11) : Int).toNat).length : Int) := of_decide_eq_true (by first | (with_reducible assumption) | assumption)
                            obtain ⟨ad342, e342, hx342_0⟩ := Kd.at_int HR340.out x25_1 p342 q342
                            cases e342
                            (try replace hx342_0 := (HB.out.cell (World.block_lt_of_cell? w _ hx342_0)).trans hx342_0)
                            replace p342 := eq_true p342
                            replace q342 := eq_true q342
                            (try (have q342y : (x25_1 < max ji11 0) = True := eq_true (by have h_ := of_eq_true q342; simp only [List.length_take] at h_; omega)))
                            (try (have q342z := q342; simp only [List.length_drop, List.length_take] at q342z))
                            have hnb117 := NB337_330.out
                            have hnc117 := NB330_337.out
                            have hnb118 := NB337_338.out
                            have hnc118 := NB338_337.out
                            have hnb119 := NB337_339.out
                            have hnc119 := NB339_337.out
                            have hcz120_0 : wr.cell? ⟨gb337, 0, none⟩ = some (.int .i64 x338000_1) := (blk_cell BK337.out 0).trans rfl
                            have hcz120_1 : wr.cell? ⟨gb337, 1, none⟩ = some (.int .i64 x338001_1) := (blk_cell BK337.out 1).trans rfl
                            have hcz120_2 : wr.cell? ⟨gb337, 2, none⟩ = some (.bool x338002_1) := (blk_cell BK337.out 2).trans rfl
                            have hcz120_3 : wr.cell? ⟨gb337, 3, none⟩ = some (.int .i64 x338003_1) := (blk_cell BK337.out 3).trans rfl
                            have hcz120_4 : wr.cell? ⟨gb337, 4, none⟩ = some (.int .i64 x338004_1) := (blk_cell BK337.out 4).trans rfl
                            have hfz120_0 := blk_frozen BK337.out 0
                            have hfz120_1 := blk_frozen BK337.out 1
                            have hfz120_2 := blk_frozen BK337.out 2
                            have hfz120_3 := blk_frozen BK337.out 3
                            have hfz120_4 := blk_frozen BK337.out 4
                            go_wp2_with (first | ((with_reducible refine gate_callee (f := 10) rfl ?_); refine goesL_ (some 35) rfl rfl Try.func10 (by kernel_rfl) rfl #[.agg #[.int .i64 x338000_1, .int .i64 x338001_1, .bool x338002_1, .int .i64 x338003_1, .int .i64 x338004_1], .int .u8 ((1 + (Int.tmod (rd (l1.take ((ji11) : Int).toNat) x25_1) 9)) % 256)] rfl (by (try simp only [List.map_toArray, List.map_cons, List.map_nil]); first | done | (simp only [hji11]; rfl) | rfl | (simp only [List.length_drop, List.length_take]; rfl)) ?_; (with_reducible refine (conf_Event.calls k1 x338000_1 x338001_1 x338002_1 x338003_1 x338004_1 ((1 + (Int.tmod (rd (l1.take ((ji11) : Int).toNat) x25_1) 9)) % 256) t343 t344 false t346 t347 t348 _ A43.out).mono ?_); rintro e w121 ⟨rfl, hb⟩; refine ⟨_, rfl, ?_⟩; have n0_ := Aside0.mk (blk_below (g := gb330) (o := .cells #[.int .i64 t331, .int .i64 t332, .bool false, .int .i64 t334, .int .i64 t335] 23 (0, 0)) (by (with_reducible repeat (first | refine blk_drewN ?_ _ | refine blk_drew ?_ | refine blk_alloc ?_ _)); exact BK330.out) hb); have n1_ := Aside0.mk (blk_below (g := gb337) (o := .cells #[.int .i64 x338000_1, .int .i64 x338001_1, .bool x338002_1, .int .i64 x338003_1, .int .i64 x338004_1] 23 (0, 0)) (by (with_reducible repeat (first | refine blk_drewN ?_ _ | refine blk_drew ?_ | refine blk_alloc ?_ _)); exact BK337.out) hb); have n2_ := Aside0.mk (blk_below (g := gb338) (o := .cells #[.int .i64 x339000_1, .int .i64 x339001_1, .bool true, .int .i64 x339003_1, .int .i64 x339004_1] 23 (0, 0)) (by (with_reducible repeat (first | refine blk_drewN ?_ _ | refine blk_drew ?_ | refine blk_alloc ?_ _)); exact BK338.out) hb); have n3_ := Aside0.mk (blk_below (g := gb339) (o := .cells #[.int .i64 x340000_1, .int .i64 x340001_1, .bool x340002_1, .int .i64 x340003_1, .int .i64 x340004_1] 23 (0, 0)) (by (with_reducible repeat (first | refine blk_drewN ?_ _ | refine blk_drew ?_ | refine blk_alloc ?_ _)); exact BK339.out) hb); have n4_ := Aside0.mk (below_step (by repeat (first | (with_reducible first | exact HB.out | apply below_alloc | apply pw_below_drewN | apply below_drew1 | refine below_set ?_ GE330.out | refine below_set ?_ GE337.out | refine below_set ?_ GE338.out | refine below_set ?_ GE339.out) | exact HB.out)) hb); clear BK330; clear BK337; clear BK338; clear BK339; clear HB; have BK330 := n0_; have BK337 := n1_; have BK338 := n2_; have BK339 := n3_; have HB := n4_; clear n0_ n1_ n2_ n3_ n4_; (try clear hb); (try clear hb2); (try clear hk); (try clear hi); have hcz122_0 : w121.cell? ⟨gb337, 0, none⟩ = some (.int .i64 x338000_1) := (blk_cell BK337.out 0).trans rfl; have hcz122_1 : w121.cell? ⟨gb337, 1, none⟩ = some (.int .i64 x338001_1) := (blk_cell BK337.out 1).trans rfl; have hcz122_2 : w121.cell? ⟨gb337, 2, none⟩ = some (.bool x338002_1) := (blk_cell BK337.out 2).trans rfl; have hcz122_3 : w121.cell? ⟨gb337, 3, none⟩ = some (.int .i64 x338003_1) := (blk_cell BK337.out 3).trans rfl; have hcz122_4 : w121.cell? ⟨gb337, 4, none⟩ = some (.int .i64 x338004_1) := (blk_cell BK337.out 4).trans rfl; have hfz122_0 := blk_frozen BK337.out 0; have hfz122_1 := blk_frozen BK337.out 1; have hfz122_2 := blk_frozen BK337.out 2; have hfz122_3 := blk_frozen BK337.out 3; have hfz122_4 := blk_frozen BK337.out 4) | (go_at_call 20; (with_reducible refine (jackstaylaw06_ConfMerges_1.calls ((1 + (Int.tmod (rd (l1.take ((ji11) : Int).toNat) x25_1) 9)) % 256) false _ A44.out).mono ?_); rintro e w' ⟨rfl, ⟨nd, rfl⟩⟩; have hnb123 := NB339_330.out; have hnc123 := NB330_339.out; have hnb124 := NB339_338.out; have hnc124 := NB338_339.out; have hcz125_0 : w121.cell? ⟨gb339, 0, none⟩ = some (.int .i64 x340000_1) := (blk_cell BK339.out 0).trans rfl; have hcz125_1 : w121.cell? ⟨gb339, 1, none⟩ = some (.int .i64 x340001_1) := (blk_cell BK339.out 1).trans rfl; have hcz125_2 : w121.cell? ⟨gb339, 2, none⟩ = some (.bool x340002_1) := (blk_cell BK339.out 2).trans rfl; have hcz125_3 : w121.cell? ⟨gb339, 3, none⟩ = some (.int .i64 x340003_1) := (blk_cell BK339.out 3).trans rfl; have hcz125_4 : w121.cell? ⟨gb339, 4, none⟩ = some (.int .i64 x340004_1) := (blk_cell BK339.out 4).trans rfl; have hfz125_0 := blk_frozen BK339.out 0; have hfz125_1 := blk_frozen BK339.out 1; have hfz125_2 := blk_frozen BK339.out 2; have hfz125_3 := blk_frozen BK339.out 3; have hfz125_4 := blk_frozen BK339.out 4) | ((with_reducible refine gate_callee (f := 10) rfl ?_); refine goesL_ (some 50) rfl rfl Try.func10 (by kernel_rfl) rfl #[.agg #[.int .i64 x340000_1, .int .i64 x340001_1, .bool x340002_1, .int .i64 x340003_1, .int .i64 x340004_1], .int .u8 ((1 + (Int.tmod (rd (l1.take ((ji11) : Int).toNat) x25_1) 9)) % 256)] rfl (by (try simp only [List.map_toArray, List.map_cons, List.map_nil]); first | done | (simp only [hji11]; rfl) | rfl | (simp only [List.length_drop, List.length_take]; rfl)) ?_; (with_reducible refine (conf_Event.calls k1 x340000_1 x340001_1 x340002_1 x340003_1 x340004_1 ((1 + (Int.tmod (rd (l1.take ((ji11) : Int).toNat) x25_1) 9)) % 256) t358 t359 t360 t361 t362 t363 _ A93.out).mono ?_); rintro e w126 ⟨rfl, hb⟩; refine ⟨_, rfl, ?_⟩; have n0_ := Aside0.mk (blk_below (g := gb330) (o := .cells #[.int .i64 t331, .int .i64 t332, .bool false, .int .i64 t334, .int .i64 t335] 23 (0, 0)) (by (with_reducible repeat (first | refine blk_drewN ?_ _ | refine blk_drew ?_ | refine blk_alloc ?_ _)); refine blk_far ?_ NB330_337.out _; (with_reducible repeat (first | refine blk_drewN ?_ _ | refine blk_drew ?_ | refine blk_alloc ?_ _)); refine blk_far ?_ NB330_337.out _; (with_reducible repeat (first | refine blk_drewN ?_ _ | refine blk_drew ?_ | refine blk_alloc ?_ _)); refine blk_far ?_ NB330_337.out _; (with_reducible repeat (first | refine blk_drewN ?_ _ | refine blk_drew ?_ | refine blk_alloc ?_ _)); refine blk_far ?_ NB330_337.out _; (with_reducible repeat (first | refine blk_drewN ?_ _ | refine blk_drew ?_ | refine blk_alloc ?_ _)); refine blk_far ?_ NB330_337.out _; (with_reducible repeat (first | refine blk_drewN ?_ _ | refine blk_drew ?_ | refine blk_alloc ?_ _)); exact BK330.out) hb); have n1_ := Aside0.mk (blk_below (g := gb337) (o := .cells #[.int .i64 t343, .int .i64 t344, .bool false, .int .i64 t346, .int .i64 t347] 23 (0, 0)) (by (with_reducible repeat (first | refine blk_drewN ?_ _ | refine blk_drew ?_ | refine blk_alloc ?_ _)); refine blk_put (cs := #[.int .i64 t343, .int .i64 t344, .bool false, .int .i64 t346, .int .i64 x338004_1]) ?_ 4 _ (by first | rfl | (subst_vars; rfl)); (with_reducible repeat (first | refine blk_drewN ?_ _ | refine blk_drew ?_ | refine blk_alloc ?_ _)); refine blk_put (cs := #[.int .i64 t343, .int .i64 t344, .bool false, .int .i64 x338003_1, .int .i64 x338004_1]) ?_ 3 _ (by first | rfl | (subst_vars; rfl)); (with_reducible repeat (first | refine blk_drewN ?_ _ | refine blk_drew ?_ | refine blk_alloc ?_ _)); refine blk_put (cs := #[.int .i64 t343, .int .i64 t344, .bool x338002_1, .int .i64 x338003_1, .int .i64 x338004_1]) ?_ 2 _ (by first | rfl | (subst_vars; rfl)); (with_reducible repeat (first | refine blk_drewN ?_ _ | refine blk_drew ?_ | refine blk_alloc ?_ _)); refine blk_put (cs := #[.int .i64 t343, .int .i64 x338001_1, .bool x338002_1, .int .i64 x338003_1, .int .i64 x338004_1]) ?_ 1 _ (by first | rfl | (subst_vars; rfl)); (with_reducible repeat (first | refine blk_drewN ?_ _ | refine blk_drew ?_ | refine blk_alloc ?_ _)); refine blk_put (cs := #[.int .i64 x338000_1, .int .i64 x338001_1, .bool x338002_1, .int .i64 x338003_1, .int .i64 x338004_1]) ?_ 0 _ (by first | rfl | (subst_vars; rfl)); (with_reducible repeat (first | refine blk_drewN ?_ _ | refine blk_drew ?_ | refine blk_alloc ?_ _)); exact BK337.out) hb); have n2_ := Aside0.mk (blk_below (g := gb338) (o := .cells #[.int .i64 x339000_1, .int .i64 x339001_1, .bool true, .int .i64 x339003_1, .int .i64 x339004_1] 23 (0, 0)) (by (with_reducible repeat (first | refine blk_drewN ?_ _ | refine blk_drew ?_ | refine blk_alloc ?_ _)); refine blk_far ?_ NB338_337.out _; (with_reducible repeat (first | refine blk_drewN ?_ _ | refine blk_drew ?_ | refine blk_alloc ?_ _)); refine blk_far ?_ NB338_337.out _; (with_reducible repeat (first | refine blk_drewN ?_ _ | refine blk_drew ?_ | refine blk_alloc ?_ _)); refine blk_far ?_ NB338_337.out _; (with_reducible repeat (first | refine blk_drewN ?_ _ | refine blk_drew ?_ | refine blk_alloc ?_ _)); refine blk_far ?_ NB338_337.out _; (with_reducible repeat (first | refine blk_drewN ?_ _ | refine blk_drew ?_ | refine blk_alloc ?_ _)); refine blk_far ?_ NB338_337.out _; (with_reducible repeat (first | refine blk_drewN ?_ _ | refine blk_drew ?_ | refine blk_alloc ?_ _)); exact BK338.out) hb); have n3_ := Aside0.mk (blk_below (g := gb339) (o := .cells #[.int .i64 x340000_1, .int .i64 x340001_1, .bool x340002_1, .int .i64 x340003_1, .int .i64 x340004_1] 23 (0, 0)) (by (with_reducible repeat (first | refine blk_drewN ?_ _ | refine blk_drew ?_ | refine blk_alloc ?_ _)); refine blk_far ?_ NB339_337.out _; (with_reducible repeat (first | refine blk_drewN ?_ _ | refine blk_drew ?_ | refine blk_alloc ?_ _)); refine blk_far ?_ NB339_337.out _; (with_reducible repeat (first | refine blk_drewN ?_ _ | refine blk_drew ?_ | refine blk_alloc ?_ _)); refine blk_far ?_ NB339_337.out _; (with_reducible repeat (first | refine blk_drewN ?_ _ | refine blk_drew ?_ | refine blk_alloc ?_ _)); refine blk_far ?_ NB339_337.out _; (with_reducible repeat (first | refine blk_drewN ?_ _ | refine blk_drew ?_ | refine blk_alloc ?_ _)); refine blk_far ?_ NB339_337.out _; (with_reducible repeat (first | refine blk_drewN ?_ _ | refine blk_drew ?_ | refine blk_alloc ?_ _)); exact BK339.out) hb); have n4_ := Aside0.mk (below_step (by repeat (first | (with_reducible first | exact HB.out | apply below_alloc | apply pw_below_drewN | apply below_drew1 | refine below_set ?_ GE330.out | refine below_set ?_ GE337.out | refine below_set ?_ GE338.out | refine below_set ?_ GE339.out) | exact HB.out)) hb); clear BK330; clear BK337; clear BK338; clear BK339; clear HB; have BK330 := n0_; have BK337 := n1_; have BK338 := n2_; have BK339 := n3_; have HB := n4_; clear n0_ n1_ n2_ n3_ n4_; (try clear hb); (try clear hb2); (try clear hk); (try clear hi); have hcz127_0 : w126.cell? ⟨gb339, 0, none⟩ = some (.int .i64 x340000_1) := (blk_cell BK339.out 0).trans rfl; have hcz127_1 : w126.cell? ⟨gb339, 1, none⟩ = some (.int .i64 x340001_1) := (blk_cell BK339.out 1).trans rfl; have hcz127_2 : w126.cell? ⟨gb339, 2, none⟩ = some (.bool x340002_1) := (blk_cell BK339.out 2).trans rfl; have hcz127_3 : w126.cell? ⟨gb339, 3, none⟩ = some (.int .i64 x340003_1) := (blk_cell BK339.out 3).trans rfl; have hcz127_4 : w126.cell? ⟨gb339, 4, none⟩ = some (.int .i64 x340004_1) := (blk_cell BK339.out 4).trans rfl; have hfz127_0 := blk_frozen BK339.out 0; have hfz127_1 := blk_frozen BK339.out 1; have hfz127_2 := blk_frozen BK339.out 2; have hfz127_3 := blk_frozen BK339.out 3; have hfz127_4 := blk_frozen BK339.out 4; have hcz128_0 : w126.cell? ⟨gb337, 0, none⟩ = some (.int .i64 t343) := (blk_cell BK337.out 0).trans rfl; have hcz128_1 : w126.cell? ⟨gb337, 1, none⟩ = some (.int .i64 t344) := (blk_cell BK337.out 1).trans rfl; have hcz128_2 : w126.cell? ⟨gb337, 2, none⟩ = some (.bool false) := (blk_cell BK337.out 2).trans rfl; have hcz128_3 : w126.cell? ⟨gb337, 3, none⟩ = some (.int .i64 t346) := (blk_cell BK337.out 3).trans rfl; have hcz128_4 : w126.cell? ⟨gb337, 4, none⟩ = some (.int .i64 t347) := (blk_cell BK337.out 4).trans rfl; have hfz128_0 := blk_frozen BK337.out 0; have hfz128_1 := blk_frozen BK337.out 1; have hfz128_2 := blk_frozen BK337.out 2; have hfz128_3 := blk_frozen BK337.out 3; have hfz128_4 := blk_frozen BK337.out 4; have hnb129 := NB338_330.out; have hnc129 := NB330_338.out; have hcz130_0 : w126.cell? ⟨gb338, 0, none⟩ = some (.int .i64 x339000_1) := (blk_cell BK338.out 0).trans rfl; have hcz130_1 : w126.cell? ⟨gb338, 1, none⟩ = some (.int .i64 x339001_1) := (blk_cell BK338.out 1).trans rfl; have hcz130_2 : w126.cell? ⟨gb338, 2, none⟩ = some (.bool true) := (blk_cell BK338.out 2).trans rfl; have hcz130_3 : w126.cell? ⟨gb338, 3, none⟩ = some (.int .i64 x339003_1) := (blk_cell BK338.out 3).trans rfl; have hcz130_4 : w126.cell? ⟨gb338, 4, none⟩ = some (.int .i64 x339004_1) := (blk_cell BK338.out 4).trans rfl; have hfz130_0 := blk_frozen BK338.out 0; have hfz130_1 := blk_frozen BK338.out 1; have hfz130_2 := blk_frozen BK338.out 2; have hfz130_3 := blk_frozen BK338.out 3; have hfz130_4 := blk_frozen BK338.out 4) | (go_at_call 18; (with_reducible refine (jackstaylaw06_awake.calls k1  t365 _ A116.out).mono ?_); rintro e w131 ⟨rfl, hb⟩; have n0_ := Aside0.mk (blk_below (g := gb330) (o := .cells #[.int .i64 t331, .int .i64 t332, .bool false, .int .i64 t334, .int .i64 t335] 23 (0, 0)) (by (with_reducible repeat (first | refine blk_drewN ?_ _ | refine blk_drew ?_ | refine blk_alloc ?_ _)); refine blk_far ?_ NB330_339.out _; (with_reducible repeat (first | refine blk_drewN ?_ _ | refine blk_drew ?_ | refine blk_alloc ?_ _)); refine blk_far ?_ NB330_339.out _; (with_reducible repeat (first | refine blk_drewN ?_ _ | refine blk_drew ?_ | refine blk_alloc ?_ _)); refine blk_far ?_ NB330_339.out _; (with_reducible repeat (first | refine blk_drewN ?_ _ | refine blk_drew ?_ | refine blk_alloc ?_ _)); refine blk_far ?_ NB330_339.out _; (with_reducible repeat (first | refine blk_drewN ?_ _ | refine blk_drew ?_ | refine blk_alloc ?_ _)); refine blk_far ?_ NB330_339.out _; (with_reducible repeat (first | refine blk_drewN ?_ _ | refine blk_drew ?_ | refine blk_alloc ?_ _)); exact BK330.out) hb); have n1_ := Aside0.mk (blk_below (g := gb337) (o := .cells #[.int .i64 t343, .int .i64 t344, .bool false, .int .i64 t346, .int .i64 t347] 23 (0, 0)) (by (with_reducible repeat (first | refine blk_drewN ?_ _ | refine blk_drew ?_ | refine blk_alloc ?_ _)); refine blk_far ?_ NB337_339.out _; (with_reducible repeat (first | refine blk_drewN ?_ _ | refine blk_drew ?_ | refine blk_alloc ?_ _)); refine blk_far ?_ NB337_339.out _; (with_reducible repeat (first | refine blk_drewN ?_ _ | refine blk_drew ?_ | refine blk_alloc ?_ _)); refine blk_far ?_ NB337_339.out _; (with_reducible repeat (first | refine blk_drewN ?_ _ | refine blk_drew ?_ | refine blk_alloc ?_ _)); refine blk_far ?_ NB337_339.out _; (with_reducible repeat (first | refine blk_drewN ?_ _ | refine blk_drew ?_ | refine blk_alloc ?_ _)); refine blk_far ?_ NB337_339.out _; (with_reducible repeat (first | refine blk_drewN ?_ _ | refine blk_drew ?_ | refine blk_alloc ?_ _)); exact BK337.out) hb); have n2_ := Aside0.mk (blk_below (g := gb338) (o := .cells #[.int .i64 x339000_1, .int .i64 x339001_1, .bool true, .int .i64 x339003_1, .int .i64 x339004_1] 23 (0, 0)) (by (with_reducible repeat (first | refine blk_drewN ?_ _ | refine blk_drew ?_ | refine blk_alloc ?_ _)); refine blk_far ?_ NB338_339.out _; (with_reducible repeat (first | refine blk_drewN ?_ _ | refine blk_drew ?_ | refine blk_alloc ?_ _)); refine blk_far ?_ NB338_339.out _; (with_reducible repeat (first | refine blk_drewN ?_ _ | refine blk_drew ?_ | refine blk_alloc ?_ _)); refine blk_far ?_ NB338_339.out _; (with_reducible repeat (first | refine blk_drewN ?_ _ | refine blk_drew ?_ | refine blk_alloc ?_ _)); refine blk_far ?_ NB338_339.out _; (with_reducible repeat (first | refine blk_drewN ?_ _ | refine blk_drew ?_ | refine blk_alloc ?_ _)); refine blk_far ?_ NB338_339.out _; (with_reducible repeat (first | refine blk_drewN ?_ _ | refine blk_drew ?_ | refine blk_alloc ?_ _)); exact BK338.out) hb); have n3_ := Aside0.mk (blk_below (g := gb339) (o := .cells #[.int .i64 t358, .int .i64 t359, .bool t360, .int .i64 t361, .int .i64 t362] 23 (0, 0)) (by (with_reducible repeat (first | refine blk_drewN ?_ _ | refine blk_drew ?_ | refine blk_alloc ?_ _)); refine blk_put (cs := #[.int .i64 t358, .int .i64 t359, .bool t360, .int .i64 t361, .int .i64 x340004_1]) ?_ 4 _ (by first | rfl | (subst_vars; rfl)); (with_reducible repeat (first | refine blk_drewN ?_ _ | refine blk_drew ?_ | refine blk_alloc ?_ _)); refine blk_put (cs := #[.int .i64 t358, .int .i64 t359, .bool t360, .int .i64 x340003_1, .int .i64 x340004_1]) ?_ 3 _ (by first | rfl | (subst_vars; rfl)); (with_reducible repeat (first | refine blk_drewN ?_ _ | refine blk_drew ?_ | refine blk_alloc ?_ _)); refine blk_put (cs := #[.int .i64 t358, .int .i64 t359, .bool x340002_1, .int .i64 x340003_1, .int .i64 x340004_1]) ?_ 2 _ (by first | rfl | (subst_vars; rfl)); (with_reducible repeat (first | refine blk_drewN ?_ _ | refine blk_drew ?_ | refine blk_alloc ?_ _)); refine blk_put (cs := #[.int .i64 t358, .int .i64 x340001_1, .bool x340002_1, .int .i64 x340003_1, .int .i64 x340004_1]) ?_ 1 _ (by first | rfl | (subst_vars; rfl)); (with_reducible repeat (first | refine blk_drewN ?_ _ | refine blk_drew ?_ | refine blk_alloc ?_ _)); refine blk_put (cs := #[.int .i64 x340000_1, .int .i64 x340001_1, .bool x340002_1, .int .i64 x340003_1, .int .i64 x340004_1]) ?_ 0 _ (by first | rfl | (subst_vars; rfl)); (with_reducible repeat (first | refine blk_drewN ?_ _ | refine blk_drew ?_ | refine blk_alloc ?_ _)); exact BK339.out) hb); have n4_ := Aside0.mk (below_step (by repeat (first | (with_reducible first | exact HB.out | apply below_alloc | apply pw_below_drewN | apply below_drew1 | refine below_set ?_ GE330.out | refine below_set ?_ GE337.out | refine below_set ?_ GE338.out | refine below_set ?_ GE339.out) | exact HB.out)) hb); clear BK330; clear BK337; clear BK338; clear BK339; clear HB; have BK330 := n0_; have BK337 := n1_; have BK338 := n2_; have BK339 := n3_; have HB := n4_; clear n0_ n1_ n2_ n3_ n4_; (try clear hb); (try clear hb2); (try clear hk); (try clear hi)))
                            go_ret
                            exact ⟨by first | rfl | (simp [errW_none, errW_some] <;> rfl) | (simp only [← hji11]; first | rfl | (simp [errW_none, errW_some] <;> rfl)) | (simp [*, errW_none, errW_some] <;> rfl), by repeat (first | (with_reducible first | exact HB.out | apply below_alloc | apply pw_below_drewN | apply below_drew1 | refine below_set ?_ GE330.out | refine below_set ?_ GE337.out | refine below_set ?_ GE338.out | refine below_set ?_ GE339.out) | exact HB.out)⟩
                          · rw [if_neg c115] at H
                            have c115b0 : (t343 == x339000_1) = false := beq_eq_false_iff_ne.mpr c115
                            have c115b1 : (t343 != x339000_1) = true := bne_iff_ne.mpr c115
                            obtain rfl := Option.some.inj H
                            exact absurd hT_ (by decide)
                        · rw [if_neg c114] at H
                          have c114b0 : (false == true) = false := by revert c114; simp
                          (try (have c114b0n := c114b0; simp only [beq_false, beq_true, Bool.not_not, Bool.not_true, Bool.not_false, Bool.true_and, Bool.and_true, Bool.false_or, Bool.or_false, Bool.true_bne, Bool.false_bne, Bool.bne_true, Bool.bne_false, Bool.true_beq, Bool.false_beq] at c114b0n; have c114b0o := c114b0n; simp only [Bool.not_eq_false', Bool.not_eq_true'] at c114b0o))
                          (try (have c114b1 : decide (false = true) = false := by revert c114; simp))
                          (try (have c114b2 : (false == true) = false := by revert c114; simp))
                          (try (have c114b3 : ¬ (false = true) := by revert c114; simp))
                          clear c114
                          obtain rfl := Option.some.inj H
                          exact absurd hT_ (by decide)
                      · replace c113 := Bool.eq_false_iff.mpr c113
                        subst c113
                        have H1 : (jackstaylaw06_ConfMerges.l0 k1 (l1.take ((ji11) : Int).toNat) ((l1.take ((ji11) : Int).toNat).length : Int) (wrap64 (x25_1 + 1)) t331 t332 false t334 t335 t343 t344 false t346 t347 x339000_1 x339001_1 false x339003_1 x339004_1 t358 t359 t360 t361 t362) = some r := by rw [if_neg (show ¬ (false = true) by decide)] at H; exact H
                        clear H
                        have H := H1
                        clear H1
                        have H' := Aside0.mk H
                        clear H
                        have p342 : 0 ≤ (x25_1 : Int) := of_decide_eq_true (by first | (with_reducible assumption) | assumption)
                        have q342 : x25_1 < ((l1.take ((ji11) : Int).toNat).length : Int) := of_decide_eq_true (by first | (with_reducible assumption) | assumption)
                        obtain ⟨ad342, e342, hx342_0⟩ := Kd.at_int HR340.out x25_1 p342 q342
                        cases e342
                        (try replace hx342_0 := (HB.out.cell (World.block_lt_of_cell? w _ hx342_0)).trans hx342_0)
                        replace p342 := eq_true p342
                        replace q342 := eq_true q342
                        (try (have q342y : (x25_1 < max ji11 0) = True := eq_true (by have h_ := of_eq_true q342; simp only [List.length_take] at h_; omega)))
                        (try (have q342z := q342; simp only [List.length_drop, List.length_take] at q342z))
                        have hnb132 := NB337_330.out
                        have hnc132 := NB330_337.out
                        have hnb133 := NB337_338.out
                        have hnc133 := NB338_337.out
                        have hnb134 := NB337_339.out
                        have hnc134 := NB339_337.out
                        have hcz135_0 : wr.cell? ⟨gb337, 0, none⟩ = some (.int .i64 x338000_1) := (blk_cell BK337.out 0).trans rfl
                        have hcz135_1 : wr.cell? ⟨gb337, 1, none⟩ = some (.int .i64 x338001_1) := (blk_cell BK337.out 1).trans rfl
                        have hcz135_2 : wr.cell? ⟨gb337, 2, none⟩ = some (.bool x338002_1) := (blk_cell BK337.out 2).trans rfl
                        have hcz135_3 : wr.cell? ⟨gb337, 3, none⟩ = some (.int .i64 x338003_1) := (blk_cell BK337.out 3).trans rfl
                        have hcz135_4 : wr.cell? ⟨gb337, 4, none⟩ = some (.int .i64 x338004_1) := (blk_cell BK337.out 4).trans rfl
                        have hfz135_0 := blk_frozen BK337.out 0
                        have hfz135_1 := blk_frozen BK337.out 1
                        have hfz135_2 := blk_frozen BK337.out 2
                        have hfz135_3 := blk_frozen BK337.out 3
                        have hfz135_4 := blk_frozen BK337.out 4
                        go_wp2_with (first | ((with_reducible refine gate_callee (f := 10) rfl ?_); refine goesL_ (some 35) rfl rfl Try.func10 (by kernel_rfl) rfl #[.agg #[.int .i64 x338000_1, .int .i64 x338001_1, .bool x338002_1, .int .i64 x338003_1, .int .i64 x338004_1], .int .u8 ((1 + (Int.tmod (rd (l1.take ((ji11) : Int).toNat) x25_1) 9)) % 256)] rfl (by (try simp only [List.map_toArray, List.map_cons, List.map_nil]); first | done | (simp only [hji11]; rfl) | rfl | (simp only [List.length_drop, List.length_take]; rfl)) ?_; (with_reducible refine (conf_Event.calls k1 x338000_1 x338001_1 x338002_1 x338003_1 x338004_1 ((1 + (Int.tmod (rd (l1.take ((ji11) : Int).toNat) x25_1) 9)) % 256) t343 t344 false t346 t347 t348 _ A43.out).mono ?_); rintro e w136 ⟨rfl, hb⟩; refine ⟨_, rfl, ?_⟩; have n0_ := Aside0.mk (blk_below (g := gb330) (o := .cells #[.int .i64 t331, .int .i64 t332, .bool false, .int .i64 t334, .int .i64 t335] 23 (0, 0)) (by (with_reducible repeat (first | refine blk_drewN ?_ _ | refine blk_drew ?_ | refine blk_alloc ?_ _)); exact BK330.out) hb); have n1_ := Aside0.mk (blk_below (g := gb337) (o := .cells #[.int .i64 x338000_1, .int .i64 x338001_1, .bool x338002_1, .int .i64 x338003_1, .int .i64 x338004_1] 23 (0, 0)) (by (with_reducible repeat (first | refine blk_drewN ?_ _ | refine blk_drew ?_ | refine blk_alloc ?_ _)); exact BK337.out) hb); have n2_ := Aside0.mk (blk_below (g := gb338) (o := .cells #[.int .i64 x339000_1, .int .i64 x339001_1, .bool false, .int .i64 x339003_1, .int .i64 x339004_1] 23 (0, 0)) (by (with_reducible repeat (first | refine blk_drewN ?_ _ | refine blk_drew ?_ | refine blk_alloc ?_ _)); exact BK338.out) hb); have n3_ := Aside0.mk (blk_below (g := gb339) (o := .cells #[.int .i64 x340000_1, .int .i64 x340001_1, .bool x340002_1, .int .i64 x340003_1, .int .i64 x340004_1] 23 (0, 0)) (by (with_reducible repeat (first | refine blk_drewN ?_ _ | refine blk_drew ?_ | refine blk_alloc ?_ _)); exact BK339.out) hb); have n4_ := Aside0.mk (below_step (by repeat (first | (with_reducible first | exact HB.out | apply below_alloc | apply pw_below_drewN | apply below_drew1 | refine below_set ?_ GE330.out | refine below_set ?_ GE337.out | refine below_set ?_ GE338.out | refine below_set ?_ GE339.out) | exact HB.out)) hb); clear BK330; clear BK337; clear BK338; clear BK339; clear HB; have BK330 := n0_; have BK337 := n1_; have BK338 := n2_; have BK339 := n3_; have HB := n4_; clear n0_ n1_ n2_ n3_ n4_; (try clear hb); (try clear hb2); (try clear hk); (try clear hi); have hcz137_0 : w136.cell? ⟨gb337, 0, none⟩ = some (.int .i64 x338000_1) := (blk_cell BK337.out 0).trans rfl; have hcz137_1 : w136.cell? ⟨gb337, 1, none⟩ = some (.int .i64 x338001_1) := (blk_cell BK337.out 1).trans rfl; have hcz137_2 : w136.cell? ⟨gb337, 2, none⟩ = some (.bool x338002_1) := (blk_cell BK337.out 2).trans rfl; have hcz137_3 : w136.cell? ⟨gb337, 3, none⟩ = some (.int .i64 x338003_1) := (blk_cell BK337.out 3).trans rfl; have hcz137_4 : w136.cell? ⟨gb337, 4, none⟩ = some (.int .i64 x338004_1) := (blk_cell BK337.out 4).trans rfl; have hfz137_0 := blk_frozen BK337.out 0; have hfz137_1 := blk_frozen BK337.out 1; have hfz137_2 := blk_frozen BK337.out 2; have hfz137_3 := blk_frozen BK337.out 3; have hfz137_4 := blk_frozen BK337.out 4) | (go_at_call 20; (with_reducible refine (jackstaylaw06_ConfMerges_1.calls ((1 + (Int.tmod (rd (l1.take ((ji11) : Int).toNat) x25_1) 9)) % 256) false _ A44.out).mono ?_); rintro e w' ⟨rfl, ⟨nd, rfl⟩⟩; have hnb138 := NB339_330.out; have hnc138 := NB330_339.out; have hnb139 := NB339_338.out; have hnc139 := NB338_339.out; have hcz140_0 : w136.cell? ⟨gb339, 0, none⟩ = some (.int .i64 x340000_1) := (blk_cell BK339.out 0).trans rfl; have hcz140_1 : w136.cell? ⟨gb339, 1, none⟩ = some (.int .i64 x340001_1) := (blk_cell BK339.out 1).trans rfl; have hcz140_2 : w136.cell? ⟨gb339, 2, none⟩ = some (.bool x340002_1) := (blk_cell BK339.out 2).trans rfl; have hcz140_3 : w136.cell? ⟨gb339, 3, none⟩ = some (.int .i64 x340003_1) := (blk_cell BK339.out 3).trans rfl; have hcz140_4 : w136.cell? ⟨gb339, 4, none⟩ = some (.int .i64 x340004_1) := (blk_cell BK339.out 4).trans rfl; have hfz140_0 := blk_frozen BK339.out 0; have hfz140_1 := blk_frozen BK339.out 1; have hfz140_2 := blk_frozen BK339.out 2; have hfz140_3 := blk_frozen BK339.out 3; have hfz140_4 := blk_frozen BK339.out 4) | ((with_reducible refine gate_callee (f := 10) rfl ?_); refine goesL_ (some 50) rfl rfl Try.func10 (by kernel_rfl) rfl #[.agg #[.int .i64 x340000_1, .int .i64 x340001_1, .bool x340002_1, .int .i64 x340003_1, .int .i64 x340004_1], .int .u8 ((1 + (Int.tmod (rd (l1.take ((ji11) : Int).toNat) x25_1) 9)) % 256)] rfl (by (try simp only [List.map_toArray, List.map_cons, List.map_nil]); first | done | (simp only [hji11]; rfl) | rfl | (simp only [List.length_drop, List.length_take]; rfl)) ?_; (with_reducible refine (conf_Event.calls k1 x340000_1 x340001_1 x340002_1 x340003_1 x340004_1 ((1 + (Int.tmod (rd (l1.take ((ji11) : Int).toNat) x25_1) 9)) % 256) t358 t359 t360 t361 t362 t363 _ A93.out).mono ?_); rintro e w141 ⟨rfl, hb⟩; refine ⟨_, rfl, ?_⟩; have n0_ := Aside0.mk (blk_below (g := gb330) (o := .cells #[.int .i64 t331, .int .i64 t332, .bool false, .int .i64 t334, .int .i64 t335] 23 (0, 0)) (by (with_reducible repeat (first | refine blk_drewN ?_ _ | refine blk_drew ?_ | refine blk_alloc ?_ _)); refine blk_far ?_ NB330_337.out _; (with_reducible repeat (first | refine blk_drewN ?_ _ | refine blk_drew ?_ | refine blk_alloc ?_ _)); refine blk_far ?_ NB330_337.out _; (with_reducible repeat (first | refine blk_drewN ?_ _ | refine blk_drew ?_ | refine blk_alloc ?_ _)); refine blk_far ?_ NB330_337.out _; (with_reducible repeat (first | refine blk_drewN ?_ _ | refine blk_drew ?_ | refine blk_alloc ?_ _)); refine blk_far ?_ NB330_337.out _; (with_reducible repeat (first | refine blk_drewN ?_ _ | refine blk_drew ?_ | refine blk_alloc ?_ _)); refine blk_far ?_ NB330_337.out _; (with_reducible repeat (first | refine blk_drewN ?_ _ | refine blk_drew ?_ | refine blk_alloc ?_ _)); exact BK330.out) hb); have n1_ := Aside0.mk (blk_below (g := gb337) (o := .cells #[.int .i64 t343, .int .i64 t344, .bool false, .int .i64 t346, .int .i64 t347] 23 (0, 0)) (by (with_reducible repeat (first | refine blk_drewN ?_ _ | refine blk_drew ?_ | refine blk_alloc ?_ _)); refine blk_put (cs := #[.int .i64 t343, .int .i64 t344, .bool false, .int .i64 t346, .int .i64 x338004_1]) ?_ 4 _ (by first | rfl | (subst_vars; rfl)); (with_reducible repeat (first | refine blk_drewN ?_ _ | refine blk_drew ?_ | refine blk_alloc ?_ _)); refine blk_put (cs := #[.int .i64 t343, .int .i64 t344, .bool false, .int .i64 x338003_1, .int .i64 x338004_1]) ?_ 3 _ (by first | rfl | (subst_vars; rfl)); (with_reducible repeat (first | refine blk_drewN ?_ _ | refine blk_drew ?_ | refine blk_alloc ?_ _)); refine blk_put (cs := #[.int .i64 t343, .int .i64 t344, .bool x338002_1, .int .i64 x338003_1, .int .i64 x338004_1]) ?_ 2 _ (by first | rfl | (subst_vars; rfl)); (with_reducible repeat (first | refine blk_drewN ?_ _ | refine blk_drew ?_ | refine blk_alloc ?_ _)); refine blk_put (cs := #[.int .i64 t343, .int .i64 x338001_1, .bool x338002_1, .int .i64 x338003_1, .int .i64 x338004_1]) ?_ 1 _ (by first | rfl | (subst_vars; rfl)); (with_reducible repeat (first | refine blk_drewN ?_ _ | refine blk_drew ?_ | refine blk_alloc ?_ _)); refine blk_put (cs := #[.int .i64 x338000_1, .int .i64 x338001_1, .bool x338002_1, .int .i64 x338003_1, .int .i64 x338004_1]) ?_ 0 _ (by first | rfl | (subst_vars; rfl)); (with_reducible repeat (first | refine blk_drewN ?_ _ | refine blk_drew ?_ | refine blk_alloc ?_ _)); exact BK337.out) hb); have n2_ := Aside0.mk (blk_below (g := gb338) (o := .cells #[.int .i64 x339000_1, .int .i64 x339001_1, .bool false, .int .i64 x339003_1, .int .i64 x339004_1] 23 (0, 0)) (by (with_reducible repeat (first | refine blk_drewN ?_ _ | refine blk_drew ?_ | refine blk_alloc ?_ _)); refine blk_far ?_ NB338_337.out _; (with_reducible repeat (first | refine blk_drewN ?_ _ | refine blk_drew ?_ | refine blk_alloc ?_ _)); refine blk_far ?_ NB338_337.out _; (with_reducible repeat (first | refine blk_drewN ?_ _ | refine blk_drew ?_ | refine blk_alloc ?_ _)); refine blk_far ?_ NB338_337.out _; (with_reducible repeat (first | refine blk_drewN ?_ _ | refine blk_drew ?_ | refine blk_alloc ?_ _)); refine blk_far ?_ NB338_337.out _; (with_reducible repeat (first | refine blk_drewN ?_ _ | refine blk_drew ?_ | refine blk_alloc ?_ _)); refine blk_far ?_ NB338_337.out _; (with_reducible repeat (first | refine blk_drewN ?_ _ | refine blk_drew ?_ | refine blk_alloc ?_ _)); exact BK338.out) hb); have n3_ := Aside0.mk (blk_below (g := gb339) (o := .cells #[.int .i64 x340000_1, .int .i64 x340001_1, .bool x340002_1, .int .i64 x340003_1, .int .i64 x340004_1] 23 (0, 0)) (by (with_reducible repeat (first | refine blk_drewN ?_ _ | refine blk_drew ?_ | refine blk_alloc ?_ _)); refine blk_far ?_ NB339_337.out _; (with_reducible repeat (first | refine blk_drewN ?_ _ | refine blk_drew ?_ | refine blk_alloc ?_ _)); refine blk_far ?_ NB339_337.out _; (with_reducible repeat (first | refine blk_drewN ?_ _ | refine blk_drew ?_ | refine blk_alloc ?_ _)); refine blk_far ?_ NB339_337.out _; (with_reducible repeat (first | refine blk_drewN ?_ _ | refine blk_drew ?_ | refine blk_alloc ?_ _)); refine blk_far ?_ NB339_337.out _; (with_reducible repeat (first | refine blk_drewN ?_ _ | refine blk_drew ?_ | refine blk_alloc ?_ _)); refine blk_far ?_ NB339_337.out _; (with_reducible repeat (first | refine blk_drewN ?_ _ | refine blk_drew ?_ | refine blk_alloc ?_ _)); exact BK339.out) hb); have n4_ := Aside0.mk (below_step (by repeat (first | (with_reducible first | exact HB.out | apply below_alloc | apply pw_below_drewN | apply below_drew1 | refine below_set ?_ GE330.out | refine below_set ?_ GE337.out | refine below_set ?_ GE338.out | refine below_set ?_ GE339.out) | exact HB.out)) hb); clear BK330; clear BK337; clear BK338; clear BK339; clear HB; have BK330 := n0_; have BK337 := n1_; have BK338 := n2_; have BK339 := n3_; have HB := n4_; clear n0_ n1_ n2_ n3_ n4_; (try clear hb); (try clear hb2); (try clear hk); (try clear hi); have hcz142_0 : w141.cell? ⟨gb339, 0, none⟩ = some (.int .i64 x340000_1) := (blk_cell BK339.out 0).trans rfl; have hcz142_1 : w141.cell? ⟨gb339, 1, none⟩ = some (.int .i64 x340001_1) := (blk_cell BK339.out 1).trans rfl; have hcz142_2 : w141.cell? ⟨gb339, 2, none⟩ = some (.bool x340002_1) := (blk_cell BK339.out 2).trans rfl; have hcz142_3 : w141.cell? ⟨gb339, 3, none⟩ = some (.int .i64 x340003_1) := (blk_cell BK339.out 3).trans rfl; have hcz142_4 : w141.cell? ⟨gb339, 4, none⟩ = some (.int .i64 x340004_1) := (blk_cell BK339.out 4).trans rfl; have hfz142_0 := blk_frozen BK339.out 0; have hfz142_1 := blk_frozen BK339.out 1; have hfz142_2 := blk_frozen BK339.out 2; have hfz142_3 := blk_frozen BK339.out 3; have hfz142_4 := blk_frozen BK339.out 4; have hcz143_0 : w141.cell? ⟨gb337, 0, none⟩ = some (.int .i64 t343) := (blk_cell BK337.out 0).trans rfl; have hcz143_1 : w141.cell? ⟨gb337, 1, none⟩ = some (.int .i64 t344) := (blk_cell BK337.out 1).trans rfl; have hcz143_2 : w141.cell? ⟨gb337, 2, none⟩ = some (.bool false) := (blk_cell BK337.out 2).trans rfl; have hcz143_3 : w141.cell? ⟨gb337, 3, none⟩ = some (.int .i64 t346) := (blk_cell BK337.out 3).trans rfl; have hcz143_4 : w141.cell? ⟨gb337, 4, none⟩ = some (.int .i64 t347) := (blk_cell BK337.out 4).trans rfl; have hfz143_0 := blk_frozen BK337.out 0; have hfz143_1 := blk_frozen BK337.out 1; have hfz143_2 := blk_frozen BK337.out 2; have hfz143_3 := blk_frozen BK337.out 3; have hfz143_4 := blk_frozen BK337.out 4; have hnb144 := NB338_330.out; have hnc144 := NB330_338.out; have hcz145_0 : w141.cell? ⟨gb338, 0, none⟩ = some (.int .i64 x339000_1) := (blk_cell BK338.out 0).trans rfl; have hcz145_1 : w141.cell? ⟨gb338, 1, none⟩ = some (.int .i64 x339001_1) := (blk_cell BK338.out 1).trans rfl; have hcz145_2 : w141.cell? ⟨gb338, 2, none⟩ = some (.bool false) := (blk_cell BK338.out 2).trans rfl; have hcz145_3 : w141.cell? ⟨gb338, 3, none⟩ = some (.int .i64 x339003_1) := (blk_cell BK338.out 3).trans rfl; have hcz145_4 : w141.cell? ⟨gb338, 4, none⟩ = some (.int .i64 x339004_1) := (blk_cell BK338.out 4).trans rfl; have hfz145_0 := blk_frozen BK338.out 0; have hfz145_1 := blk_frozen BK338.out 1; have hfz145_2 := blk_frozen BK338.out 2; have hfz145_3 := blk_frozen BK338.out 3; have hfz145_4 := blk_frozen BK338.out 4))
                        (first | go_roundg k1 | ((try simp only [← hji11]); go_roundg k1))
                        case measure => have := HK1.out; omega
                        case rel => exact ⟨(wrap64 (x25_1 + 1)), (t343), (t344), (false), (t346), (t347), (x339000_1), (x339001_1), (false), (x339003_1), (x339004_1), (t358), (t359), (t360), (t361), (t362), (by first | rfl | (simp; done) | (simp [*]; done)), H', ⟨by have := HK1.out; omega⟩, ⟨by (with_reducible repeat (first | refine blk_drewN ?_ _ | refine blk_drew ?_ | refine blk_alloc ?_ _)); refine blk_far ?_ NB330_339.out _; (with_reducible repeat (first | refine blk_drewN ?_ _ | refine blk_drew ?_ | refine blk_alloc ?_ _)); refine blk_far ?_ NB330_339.out _; (with_reducible repeat (first | refine blk_drewN ?_ _ | refine blk_drew ?_ | refine blk_alloc ?_ _)); refine blk_far ?_ NB330_339.out _; (with_reducible repeat (first | refine blk_drewN ?_ _ | refine blk_drew ?_ | refine blk_alloc ?_ _)); refine blk_far ?_ NB330_339.out _; (with_reducible repeat (first | refine blk_drewN ?_ _ | refine blk_drew ?_ | refine blk_alloc ?_ _)); refine blk_far ?_ NB330_339.out _; (with_reducible repeat (first | refine blk_drewN ?_ _ | refine blk_drew ?_ | refine blk_alloc ?_ _)); exact BK330.out⟩, ⟨by (with_reducible repeat (first | refine blk_drewN ?_ _ | refine blk_drew ?_ | refine blk_alloc ?_ _)); refine blk_far ?_ NB337_339.out _; (with_reducible repeat (first | refine blk_drewN ?_ _ | refine blk_drew ?_ | refine blk_alloc ?_ _)); refine blk_far ?_ NB337_339.out _; (with_reducible repeat (first | refine blk_drewN ?_ _ | refine blk_drew ?_ | refine blk_alloc ?_ _)); refine blk_far ?_ NB337_339.out _; (with_reducible repeat (first | refine blk_drewN ?_ _ | refine blk_drew ?_ | refine blk_alloc ?_ _)); refine blk_far ?_ NB337_339.out _; (with_reducible repeat (first | refine blk_drewN ?_ _ | refine blk_drew ?_ | refine blk_alloc ?_ _)); refine blk_far ?_ NB337_339.out _; (with_reducible repeat (first | refine blk_drewN ?_ _ | refine blk_drew ?_ | refine blk_alloc ?_ _)); exact BK337.out⟩, ⟨by (with_reducible repeat (first | refine blk_drewN ?_ _ | refine blk_drew ?_ | refine blk_alloc ?_ _)); refine blk_far ?_ NB338_339.out _; (with_reducible repeat (first | refine blk_drewN ?_ _ | refine blk_drew ?_ | refine blk_alloc ?_ _)); refine blk_far ?_ NB338_339.out _; (with_reducible repeat (first | refine blk_drewN ?_ _ | refine blk_drew ?_ | refine blk_alloc ?_ _)); refine blk_far ?_ NB338_339.out _; (with_reducible repeat (first | refine blk_drewN ?_ _ | refine blk_drew ?_ | refine blk_alloc ?_ _)); refine blk_far ?_ NB338_339.out _; (with_reducible repeat (first | refine blk_drewN ?_ _ | refine blk_drew ?_ | refine blk_alloc ?_ _)); refine blk_far ?_ NB338_339.out _; (with_reducible repeat (first | refine blk_drewN ?_ _ | refine blk_drew ?_ | refine blk_alloc ?_ _)); exact BK338.out⟩, ⟨by (with_reducible repeat (first | refine blk_drewN ?_ _ | refine blk_drew ?_ | refine blk_alloc ?_ _)); refine blk_put (cs := #[.int .i64 t358, .int .i64 t359, .bool t360, .int .i64 t361, .int .i64 x340004_1]) ?_ 4 _ rfl; (with_reducible repeat (first | refine blk_drewN ?_ _ | refine blk_drew ?_ | refine blk_alloc ?_ _)); refine blk_put (cs := #[.int .i64 t358, .int .i64 t359, .bool t360, .int .i64 x340003_1, .int .i64 x340004_1]) ?_ 3 _ rfl; (with_reducible repeat (first | refine blk_drewN ?_ _ | refine blk_drew ?_ | refine blk_alloc ?_ _)); refine blk_put (cs := #[.int .i64 t358, .int .i64 t359, .bool x340002_1, .int .i64 x340003_1, .int .i64 x340004_1]) ?_ 2 _ rfl; (with_reducible repeat (first | refine blk_drewN ?_ _ | refine blk_drew ?_ | refine blk_alloc ?_ _)); refine blk_put (cs := #[.int .i64 t358, .int .i64 x340001_1, .bool x340002_1, .int .i64 x340003_1, .int .i64 x340004_1]) ?_ 1 _ rfl; (with_reducible repeat (first | refine blk_drewN ?_ _ | refine blk_drew ?_ | refine blk_alloc ?_ _)); refine blk_put (cs := #[.int .i64 x340000_1, .int .i64 x340001_1, .bool x340002_1, .int .i64 x340003_1, .int .i64 x340004_1]) ?_ 0 _ rfl; (with_reducible repeat (first | refine blk_drewN ?_ _ | refine blk_drew ?_ | refine blk_alloc ?_ _)); exact BK339.out⟩, ⟨by repeat (first | (with_reducible first | exact HB.out | apply below_alloc | apply pw_below_drewN | apply below_drew1 | refine below_set ?_ GE330.out | refine below_set ?_ GE337.out | refine below_set ?_ GE338.out | refine below_set ?_ GE339.out) | exact HB.out)⟩⟩
                · rw [if_neg c42] at H
                  exact absurd H (by simp)
              · rw [if_neg c41] at H
                exact absurd H (by simp)
            · rw [if_neg c40] at H
              have c40b0 : decide (x25_1 < ((l1.take ((ji11) : Int).toNat).length : Int)) = false := decide_eq_false c40
              (try (have c40b0z := c40b0; simp only [List.length_drop, List.length_take] at c40b0z))
              (try (have c40b0y : decide (x25_1 < max ji11 0) = false := decide_eq_false (by have h_ := of_decide_eq_false c40b0z; first | omega | (have h2_ := hji11; unfold mn at h2_; split at h2_ <;> omega))))
              clear c40
              by_cases c146 : x338000_1 = x339000_1
              · rw [if_pos c146] at H
                have c146b0 : (x338000_1 == x339000_1) = true := beq_iff_eq.mpr c146
                have c146b1 : (x338000_1 != x339000_1) = false := bne_eq_false_iff_eq.mpr c146
                clear c146
                by_cases c147 : x338001_1 = x340001_1
                · rw [if_pos c147] at H
                  have c147b0 : (x338001_1 == x340001_1) = true := beq_iff_eq.mpr c147
                  have c147b1 : (x338001_1 != x340001_1) = false := bne_eq_false_iff_eq.mpr c147
                  clear c147
                  by_cases c148 : x339001_1 = t332
                  · rw [if_pos c148] at H
                    have c148b0 : (x339001_1 == t332) = true := beq_iff_eq.mpr c148
                    have c148b1 : (x339001_1 != t332) = false := bne_eq_false_iff_eq.mpr c148
                    clear c148
                    by_cases c149 : x340000_1 = t331
                    · rw [if_pos c149] at H
                      have c149b0 : (x340000_1 == t331) = true := beq_iff_eq.mpr c149
                      have c149b1 : (x340000_1 != t331) = false := bne_eq_false_iff_eq.mpr c149
                      clear c149
                      replace H := Option.bind_eq_some_iff.mp H
                      obtain ⟨t341, A1500, H⟩ := H
                      replace H : (some t341) = some r := H
                      have A150 := Aside0.mk A1500
                      clear A1500
                      obtain rfl := Option.some.inj H
                      simp only [Option.some.injEq, Prod.mk.injEq] at H
                      obtain ⟨rfl⟩ := H
                      have hnb151 := NB337_330.out
                      have hnc151 := NB330_337.out
                      have hnb152 := NB337_338.out
                      have hnc152 := NB338_337.out
                      have hnb153 := NB337_339.out
                      have hnc153 := NB339_337.out
                      have hcz154_0 : wr.cell? ⟨gb337, 0, none⟩ = some (.int .i64 x338000_1) := (blk_cell BK337.out 0).trans rfl
                      have hcz154_1 : wr.cell? ⟨gb337, 1, none⟩ = some (.int .i64 x338001_1) := (blk_cell BK337.out 1).trans rfl
                      have hcz154_2 : wr.cell? ⟨gb337, 2, none⟩ = some (.bool x338002_1) := (blk_cell BK337.out 2).trans rfl
                      have hcz154_3 : wr.cell? ⟨gb337, 3, none⟩ = some (.int .i64 x338003_1) := (blk_cell BK337.out 3).trans rfl
                      have hcz154_4 : wr.cell? ⟨gb337, 4, none⟩ = some (.int .i64 x338004_1) := (blk_cell BK337.out 4).trans rfl
                      have hfz154_0 := blk_frozen BK337.out 0
                      have hfz154_1 := blk_frozen BK337.out 1
                      have hfz154_2 := blk_frozen BK337.out 2
                      have hfz154_3 := blk_frozen BK337.out 3
                      have hfz154_4 := blk_frozen BK337.out 4
                      have hnb155 := NB338_330.out
                      have hnc155 := NB330_338.out
                      have hnb156 := NB338_339.out
                      have hnc156 := NB339_338.out
                      have hcz157_0 : wr.cell? ⟨gb338, 0, none⟩ = some (.int .i64 x339000_1) := (blk_cell BK338.out 0).trans rfl
                      have hcz157_1 : wr.cell? ⟨gb338, 1, none⟩ = some (.int .i64 x339001_1) := (blk_cell BK338.out 1).trans rfl
                      have hcz157_2 : wr.cell? ⟨gb338, 2, none⟩ = some (.bool x339002_1) := (blk_cell BK338.out 2).trans rfl
                      have hcz157_3 : wr.cell? ⟨gb338, 3, none⟩ = some (.int .i64 x339003_1) := (blk_cell BK338.out 3).trans rfl
                      have hcz157_4 : wr.cell? ⟨gb338, 4, none⟩ = some (.int .i64 x339004_1) := (blk_cell BK338.out 4).trans rfl
                      have hfz157_0 := blk_frozen BK338.out 0
                      have hfz157_1 := blk_frozen BK338.out 1
                      have hfz157_2 := blk_frozen BK338.out 2
                      have hfz157_3 := blk_frozen BK338.out 3
                      have hfz157_4 := blk_frozen BK338.out 4
                      have hnb158 := NB339_330.out
                      have hnc158 := NB330_339.out
                      have hcz159_0 : wr.cell? ⟨gb339, 0, none⟩ = some (.int .i64 x340000_1) := (blk_cell BK339.out 0).trans rfl
                      have hcz159_1 : wr.cell? ⟨gb339, 1, none⟩ = some (.int .i64 x340001_1) := (blk_cell BK339.out 1).trans rfl
                      have hcz159_2 : wr.cell? ⟨gb339, 2, none⟩ = some (.bool x340002_1) := (blk_cell BK339.out 2).trans rfl
                      have hcz159_3 : wr.cell? ⟨gb339, 3, none⟩ = some (.int .i64 x340003_1) := (blk_cell BK339.out 3).trans rfl
                      have hcz159_4 : wr.cell? ⟨gb339, 4, none⟩ = some (.int .i64 x340004_1) := (blk_cell BK339.out 4).trans rfl
                      have hfz159_0 := blk_frozen BK339.out 0
                      have hfz159_1 := blk_frozen BK339.out 1
                      have hfz159_2 := blk_frozen BK339.out 2
                      have hfz159_3 := blk_frozen BK339.out 3
                      have hfz159_4 := blk_frozen BK339.out 4
                      have hcz160_0 : wr.cell? ⟨gb330, 0, none⟩ = some (.int .i64 t331) := (blk_cell BK330.out 0).trans rfl
                      have hcz160_1 : wr.cell? ⟨gb330, 1, none⟩ = some (.int .i64 t332) := (blk_cell BK330.out 1).trans rfl
                      have hcz160_2 : wr.cell? ⟨gb330, 2, none⟩ = some (.bool false) := (blk_cell BK330.out 2).trans rfl
                      have hcz160_3 : wr.cell? ⟨gb330, 3, none⟩ = some (.int .i64 t334) := (blk_cell BK330.out 3).trans rfl
                      have hcz160_4 : wr.cell? ⟨gb330, 4, none⟩ = some (.int .i64 t335) := (blk_cell BK330.out 4).trans rfl
                      have hfz160_0 := blk_frozen BK330.out 0
                      have hfz160_1 := blk_frozen BK330.out 1
                      have hfz160_2 := blk_frozen BK330.out 2
                      have hfz160_3 := blk_frozen BK330.out 3
                      have hfz160_4 := blk_frozen BK330.out 4
                      go_wp2_with (first | (go_at_call 18; (with_reducible refine (jackstaylaw06_awake.calls k1  t341 _ A150.out).mono ?_); rintro e w161 ⟨rfl, hb⟩; have n0_ := Aside0.mk (blk_below (g := gb330) (o := .cells #[.int .i64 t331, .int .i64 t332, .bool false, .int .i64 t334, .int .i64 t335] 23 (0, 0)) (by (with_reducible repeat (first | refine blk_drewN ?_ _ | refine blk_drew ?_ | refine blk_alloc ?_ _)); exact BK330.out) hb); have n1_ := Aside0.mk (blk_below (g := gb337) (o := .cells #[.int .i64 x338000_1, .int .i64 x338001_1, .bool x338002_1, .int .i64 x338003_1, .int .i64 x338004_1] 23 (0, 0)) (by (with_reducible repeat (first | refine blk_drewN ?_ _ | refine blk_drew ?_ | refine blk_alloc ?_ _)); exact BK337.out) hb); have n2_ := Aside0.mk (blk_below (g := gb338) (o := .cells #[.int .i64 x339000_1, .int .i64 x339001_1, .bool x339002_1, .int .i64 x339003_1, .int .i64 x339004_1] 23 (0, 0)) (by (with_reducible repeat (first | refine blk_drewN ?_ _ | refine blk_drew ?_ | refine blk_alloc ?_ _)); exact BK338.out) hb); have n3_ := Aside0.mk (blk_below (g := gb339) (o := .cells #[.int .i64 x340000_1, .int .i64 x340001_1, .bool x340002_1, .int .i64 x340003_1, .int .i64 x340004_1] 23 (0, 0)) (by (with_reducible repeat (first | refine blk_drewN ?_ _ | refine blk_drew ?_ | refine blk_alloc ?_ _)); exact BK339.out) hb); have n4_ := Aside0.mk (below_step (by repeat (first | (with_reducible first | exact HB.out | apply below_alloc | apply pw_below_drewN | apply below_drew1 | refine below_set ?_ GE330.out | refine below_set ?_ GE337.out | refine below_set ?_ GE338.out | refine below_set ?_ GE339.out) | exact HB.out)) hb); clear BK330; clear BK337; clear BK338; clear BK339; clear HB; have BK330 := n0_; have BK337 := n1_; have BK338 := n2_; have BK339 := n3_; have HB := n4_; clear n0_ n1_ n2_ n3_ n4_; (try clear hb); (try clear hb2); (try clear hk); (try clear hi)))
                      go_ret
                      exact ⟨by first | rfl | (simp [errW_none, errW_some] <;> rfl) | (simp only [← hji11]; first | rfl | (simp [errW_none, errW_some] <;> rfl)) | (simp [*, errW_none, errW_some] <;> rfl), by repeat (first | (with_reducible first | exact HB.out | apply below_alloc | apply pw_below_drewN | apply below_drew1 | refine below_set ?_ GE330.out | refine below_set ?_ GE337.out | refine below_set ?_ GE338.out | refine below_set ?_ GE339.out) | exact HB.out)⟩
                    · rw [if_neg c149] at H
                      have c149b0 : (x340000_1 == t331) = false := beq_eq_false_iff_ne.mpr c149
                      have c149b1 : (x340000_1 != t331) = true := bne_iff_ne.mpr c149
                      obtain rfl := Option.some.inj H
                      exact absurd hT_ (by decide)
                  · rw [if_neg c148] at H
                    have c148b0 : (x339001_1 == t332) = false := beq_eq_false_iff_ne.mpr c148
                    have c148b1 : (x339001_1 != t332) = true := bne_iff_ne.mpr c148
                    obtain rfl := Option.some.inj H
                    exact absurd hT_ (by decide)
                · rw [if_neg c147] at H
                  have c147b0 : (x338001_1 == x340001_1) = false := beq_eq_false_iff_ne.mpr c147
                  have c147b1 : (x338001_1 != x340001_1) = true := bne_iff_ne.mpr c147
                  obtain rfl := Option.some.inj H
                  exact absurd hT_ (by decide)
              · rw [if_neg c146] at H
                have c146b0 : (x338000_1 == x339000_1) = false := beq_eq_false_iff_ne.mpr c146
                have c146b1 : (x338000_1 != x339000_1) = true := bne_iff_ne.mpr c146
                obtain rfl := Option.some.inj H
                exact absurd hT_ (by decide)
      · rw [if_neg c13] at H
        exact absurd H (by simp)
    · rw [if_neg c12] at H
      exact absurd H (by simp)

end Go.Proofs.Ytgpdcgbohodfoaa.P
