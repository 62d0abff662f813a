/- What Go functions of this seat answer: their contracts, printed by a program of this session's; Lean checks each. -/
import Derived.Test.YtjpnkapjnnighaaPx0
import Derived.Test.YtjpnkapjnnighaaPx2
import Derived.Test.YtjpnkapjnnighaaPx3
import Derived.Test.YtjpnkapjnnighaaPx6
namespace Go.Proofs.Ytjpnkapjnnighaa.P
open Go.RowKit Go.Proofs.YtjpnkapjnnighaaW.PrintWords Go.Proofs.YtjpnkapjnnighaaW.PrintLast Go.Proofs.YtjpnkapjnnighaaW.PrintMore
attribute [local go_sem] max2_int min2_int max_two min_two max_three min_three max_four min_four   -- for this text's walks alone
set_option linter.unusedVariables false
set_option linter.unusedSimpArgs false

/-! ### jackstaylaw02_StuffRows: function 6 -/
mutual
def jackstaylaw02_StuffRows.l0 : Nat → List Bool → List Bool → Int → List Bool → Int → Int → Bool → Int → Option (Bool)
  | 0, _, _, _, _, _, _, _, _ => none
  | k + 1, x0, x4, x5, x18, x19, x20, x283000, x283001 => if x20 < x19 then (if 0 ≤ x20 then (if x20 < (x18.length : Int) then ((stuff_Owed.f x283000 x283001).bind fun bt290 => ((stuff_Next.f k x283000 x283001 (rdOf false x18 x20)).bind fun bt292 => (if bt292.2.2 = 1 then (if (bt290.2 != true) = true then (jackstaylaw02_StuffRows.j1 k x0 x4 x5 x20 (rdOf false x18 x20) bt292.2.2 x18 x19 x20 true bt292.1 bt292.2.1) else (if bt290.2 = true then (jackstaylaw02_StuffRows.j1 k x0 x4 x5 x20 (rdOf false x18 x20) bt292.2.2 x18 x19 x20 ((bt292.2.2 == 1) != ((rdOf false x18 x20) == bt290.1)) bt292.1 bt292.2.1) else (jackstaylaw02_StuffRows.j1 k x0 x4 x5 x20 (rdOf false x18 x20) bt292.2.2 x18 x19 x20 false bt292.1 bt292.2.1))) else (if (bt290.2 != (bt292.2.2 == 2)) = true then (jackstaylaw02_StuffRows.j1 k x0 x4 x5 x20 (rdOf false x18 x20) bt292.2.2 x18 x19 x20 true bt292.1 bt292.2.1) else (if bt290.2 = true then (jackstaylaw02_StuffRows.j1 k x0 x4 x5 x20 (rdOf false x18 x20) bt292.2.2 x18 x19 x20 ((bt292.2.2 == 1) != ((rdOf false x18 x20) == bt290.1)) bt292.1 bt292.2.1) else (jackstaylaw02_StuffRows.j1 k x0 x4 x5 x20 (rdOf false x18 x20) bt292.2.2 x18 x19 x20 false bt292.1 bt292.2.1)))))) else (none)) else (none)) else ((stuff_Take.f k x0).bind fun bt283 => (if bt283.2 = x5 then ((jackstaylow_Same.f k bt283.1 x4).bind fun t287 => (if t287 = true then ((jackstaylaw02_awake.f k).bind fun t288 => (some t288)) else (some false))) else (some false)))
def jackstaylaw02_StuffRows.j1 : Nat → List Bool → List Bool → Int → Int → Bool → Int → List Bool → Int → Int → Bool → Bool → Int → Option (Bool)
  | 0, _, _, _, _, _, _, _, _, _, _, _, _ => none
  | k + 1, x0, x4, x5, x6, x7, x11, x18, x19, x20, x54, x296000, x296001 => if x54 = true then (some false) else (if x11 = 2 then ((stuff_Take.f k x0).bind fun bt296 => (if bt296.2 = x6 then ((jackstaylow_Same.f k bt296.1 x4).bind fun t300 => (if t300 = true then ((jackstaylaw02_awake.f k).bind fun t301 => (some t301)) else (some false))) else (some false))) else (if x11 = 0 then (if x4.length < 140737488355328 then (if (x296000 != x7) = true then (some false) else (if x296001 < 1 then (some false) else (if x296001 > 5 then (some false) else (jackstaylaw02_StuffRows.l0 k x0 (x4 ++ [x7]) x5 x18 x19 (wrap64 (x20 + 1)) x296000 x296001)))) else (none)) else (if (x296000 != x7) = true then (some false) else (if x296001 < 1 then (some false) else (if x296001 > 5 then (some false) else (jackstaylaw02_StuffRows.l0 k x0 x4 x5 x18 x19 (wrap64 (x20 + 1)) x296000 x296001))))))
end
def jackstaylaw02_StuffRows.f (k : Nat) (l0 : List Bool) : Option (Bool) := if (l0.length : Int) > 400 then ((jackstaylaw02_awake.f k).bind fun t281 => (some t281)) else (jackstaylaw02_StuffRows.l0 k l0 ([] : List Bool) (-1) l0 (l0.length : Int) 0 false 0)
theorem jackstaylaw02_StuffRows.mono_l : ∀ k, (∀ y0 y1 y2 y3 y4 y5 y6 y7, LeO (jackstaylaw02_StuffRows.l0 k y0 y1 y2 y3 y4 y5 y6 y7) (jackstaylaw02_StuffRows.l0 (k + 1) y0 y1 y2 y3 y4 y5 y6 y7)) ∧ (∀ y0 y1 y2 y3 y4 y5 y6 y7 y8 y9 y10 y11, LeO (jackstaylaw02_StuffRows.j1 k y0 y1 y2 y3 y4 y5 y6 y7 y8 y9 y10 y11) (jackstaylaw02_StuffRows.j1 (k + 1) y0 y1 y2 y3 y4 y5 y6 y7 y8 y9 y10 y11))
  | 0 => ⟨fun _ _ _ _ _ _ _ _ r h => by simp [jackstaylaw02_StuffRows.l0] at h, fun _ _ _ _ _ _ _ _ _ _ _ _ r h => by simp [jackstaylaw02_StuffRows.j1] at h⟩
  | k + 1 => by
    obtain ⟨ih0, ih1⟩ := jackstaylaw02_StuffRows.mono_l k
    refine ⟨?_, ?_⟩
    · intro y0 y1 y2 y3 y4 y5 y6 y7
      unfold jackstaylaw02_StuffRows.l0
      repeat' first
      | (with_reducible exact ih0 _ _ _ _ _ _ _ _)
      | (with_reducible exact ih1 _ _ _ _ _ _ _ _ _ _ _ _)
      | (with_reducible exact jackstaylaw02_awake.mono _)
      | (with_reducible exact jackstaylow_Same.mono _ _ _)
      | (with_reducible exact stuff_Next.mono _ _ _ _)
      | (with_reducible exact stuff_Take.mono _ _)
      | (with_reducible exact LeO.refl _)
      | (with_reducible exact LeO.none _)
      | (with_reducible refine LeO.ite ?_ ?_)
      | (with_reducible refine LeO.bind ?_ (fun _ => ?_))
      | exact ih0 _ _ _ _ _ _ _ _
      | exact ih1 _ _ _ _ _ _ _ _ _ _ _ _
      | exact jackstaylaw02_awake.mono _
      | exact jackstaylow_Same.mono _ _ _
      | exact stuff_Next.mono _ _ _ _
      | exact stuff_Take.mono _ _
      | exact LeO.none _
      | refine LeO.ite ?_ ?_
      | refine LeO.bind ?_ (fun _ => ?_)
    · intro y0 y1 y2 y3 y4 y5 y6 y7 y8 y9 y10 y11
      unfold jackstaylaw02_StuffRows.j1
      repeat' first
      | (with_reducible exact ih0 _ _ _ _ _ _ _ _)
      | (with_reducible exact ih1 _ _ _ _ _ _ _ _ _ _ _ _)
      | (with_reducible exact jackstaylaw02_awake.mono _)
      | (with_reducible exact jackstaylow_Same.mono _ _ _)
      | (with_reducible exact stuff_Next.mono _ _ _ _)
      | (with_reducible exact stuff_Take.mono _ _)
      | (with_reducible exact LeO.refl _)
      | (with_reducible exact LeO.none _)
      | (with_reducible refine LeO.ite ?_ ?_)
      | (with_reducible refine LeO.bind ?_ (fun _ => ?_))
      | exact ih0 _ _ _ _ _ _ _ _
      | exact ih1 _ _ _ _ _ _ _ _ _ _ _ _
      | exact jackstaylaw02_awake.mono _
      | exact jackstaylow_Same.mono _ _ _
      | exact stuff_Next.mono _ _ _ _
      | exact stuff_Take.mono _ _
      | exact LeO.none _
      | refine LeO.ite ?_ ?_
      | refine LeO.bind ?_ (fun _ => ?_)
theorem jackstaylaw02_StuffRows.mono : ∀ a0 k, LeO (jackstaylaw02_StuffRows.f k a0) (jackstaylaw02_StuffRows.f (k + 1) a0) := by
  intro a0 k
  obtain ⟨ih0, ih1⟩ := jackstaylaw02_StuffRows.mono_l k
  unfold jackstaylaw02_StuffRows.f
  repeat' first
      | (with_reducible exact ih0 _ _ _ _ _ _ _ _)
      | (with_reducible exact ih1 _ _ _ _ _ _ _ _ _ _ _ _)
      | (with_reducible exact jackstaylaw02_awake.mono _)
      | (with_reducible exact jackstaylow_Same.mono _ _ _)
      | (with_reducible exact stuff_Next.mono _ _ _ _)
      | (with_reducible exact stuff_Take.mono _ _)
      | (with_reducible exact LeO.refl _)
      | (with_reducible exact LeO.none _)
      | (with_reducible refine LeO.ite ?_ ?_)
      | (with_reducible refine LeO.bind ?_ (fun _ => ?_))
      | exact ih0 _ _ _ _ _ _ _ _
      | exact ih1 _ _ _ _ _ _ _ _ _ _ _ _
      | exact jackstaylaw02_awake.mono _
      | exact jackstaylow_Same.mono _ _ _
      | exact stuff_Next.mono _ _ _ _
      | exact stuff_Take.mono _ _
      | exact LeO.none _
      | refine LeO.ite ?_ ?_
      | refine LeO.bind ?_ (fun _ => ?_)
set_option maxHeartbeats 8000000 in
set_option maxRecDepth 100000 in
theorem jackstaylaw02_StuffRows.calls (k : Nat) (A0 : Option Addr) (c0 : Nat) (l0 : List Bool) (r : Bool) (w : World) (hr0 : Kd.C Kd.bool w A0 l0.length l0) (hc0 : l0.length ≤ c0) (h : jackstaylaw02_StuffRows.f k l0 = some r) :
    Calls Try.prog 6 #[.slice A0 l0.length c0] w fun e w' => e = .returned (.bool r) ∧ Below w.heap.size w w' := by
  have hu23 := Try.underlying23
  have HR0 := Aside0.mk hr0
  have HC0 := Aside0.mk hc0
  clear hr0 hc0
  have HB := Aside0.mk (Below.refl w.heap.size w)
  have H : (if (l0.length : Int) > 400 then ((jackstaylaw02_awake.f k).bind fun t281 => (some t281)) else (jackstaylaw02_StuffRows.l0 k l0 ([] : List Bool) (-1) l0 (l0.length : Int) 0 false 0)) = some r := h
  clear h
  by_cases c2 : (l0.length : Int) > 400
  · rw [if_pos c2] at H
    have c2b0 : decide (400 < (l0.length : Int)) = true := decide_eq_true c2
    have c2b1 : decide (400 < l0.length) = true := decide_eq_true (by omega)
    clear c2
    replace H := Option.bind_eq_some_iff.mp H
    obtain ⟨t281, A30, H⟩ := H
    replace H : (some t281) = some r := H
    have A3 := Aside0.mk A30
    clear A30
    obtain rfl := Option.some.inj H
    go_enter Try.func6, Try.ntmps6
    go_wp2_with (first | ((with_reducible refine gate_callee (f := 7) rfl ?_); refine goesL_ (some 17) rfl rfl Try.func7 (by kernel_rfl) rfl #[] rfl (by (try simp only [List.map_toArray, List.map_cons, List.map_nil]); first | done | rfl | (simp only [List.length_drop, List.length_take]; rfl)) ?_; (with_reducible refine (jackstaylaw02_awake.calls k  t281 _ A3.out).mono ?_); rintro e w4 ⟨rfl, hb⟩; refine ⟨_, rfl, ?_⟩; have n0_ := Aside0.mk (below_step (by repeat (first | (with_reducible first | exact HB.out | apply below_alloc | apply pw_below_drewN | apply below_drew1) | exact HB.out)) hb); clear HB; have HB := n0_; clear n0_; (try clear hb); (try clear hb2); (try clear hk); (try clear hi)))
    go_ret
    exact ⟨by first | rfl | (simp [errW_none, errW_some] <;> rfl) | (simp [*, errW_none, errW_some] <;> rfl), by repeat (first | (with_reducible first | exact HB.out | apply below_alloc | apply pw_below_drewN | apply below_drew1) | exact HB.out)⟩
  · rw [if_neg c2] at H
    have c2b0 : decide (400 < (l0.length : Int)) = false := decide_eq_false c2
    have c2b1 : decide (400 < l0.length) = false := decide_eq_false (by omega)
    clear c2
    have H' := Aside0.mk H
    clear H
    go_enter Try.func6, Try.ntmps6
    go_wp2_with (first | ((with_reducible refine gate_dst (N := 3) rfl ?_); refine box_event ?hg (N := 3) ?hd (cs := #[.bool false, .int .u8 0]) (t := 23) ?hr ?_; (case hd => rfl); (case hg => rfl); (case hr => first | (go_simp; done) | (go_simp; rfl)); intro gb282 hg w5 hbox hb; have n0_ := Aside0.mk (below_step (by repeat (first | (with_reducible first | exact HB.out | apply below_alloc | apply pw_below_drewN | apply below_drew1) | exact HB.out)) hb); have n1_ := Aside0.mk (hbox); have n2_ := Aside0.mk ((by rw [hg]; exact (below_size (by repeat (first | (with_reducible first | exact HB.out | apply below_alloc | apply pw_below_drewN | apply below_drew1) | exact HB.out))) : w.heap.size ≤ gb282)); have n3_ := Aside0.mk ((by rw [hg]; exact (below_size (by repeat (first | (with_reducible first | exact HB.out | apply below_alloc | apply pw_below_drewN | apply below_drew1) | exact HB.out))) : w.heap.size ≤ gb282)); clear HB; have HB := n0_; have BK282 := n1_; have GW282 := n2_; have GE282 := n3_; clear n0_ n1_ n2_ n3_; clear hb hbox hg))
    go_loopg [4, 5, 20] k (fun kq v4 v5 v20 w' => ∃ (x4_1 : List Bool) (x5_1 : Int) (x20_1 : Int) (x283000_1 : Bool) (x283001_1 : Int), v5 = .int .i64 x5_1 ∧ v20 = .int .i64 x20_1 ∧ Aside0 (jackstaylaw02_StuffRows.l0 kq l0 x4_1 x5_1 l0 (l0.length : Int) x20_1 x283000_1 x283001_1 = some r) ∧ Aside0 (kq ≤ k) ∧ Aside0 (Kd.R Kd.bool 4 w' w.heap.size (fun _ => True) v4 x4_1) ∧ Aside0 (w'.heap[gb282]? = some (.cells #[.bool x283000_1, .int .u8 x283001_1] 23 (0, 0))) ∧ Aside0 (Below w.heap.size w w'))
    case atStart => exact ⟨(([] : List Bool)), ((-1)), (0), (false), (0), (by first | rfl | (simp; done) | (simp [*]; done)), (by first | rfl | (simp; done) | (simp [*]; done)), H', ⟨Nat.le_refl _⟩, ⟨by first | exact Kd.R_nil _ _ _ _ _ | exact Kd.N_nil _ _ _ _ _ | exact Kd.V_nil _ _ _ _ _ | exact Kd.Q_nil _ _ _ _ _ | exact Kd.S_nil _ _ _ _ _⟩, ⟨by (with_reducible repeat (first | refine blk_drewN ?_ _ | refine blk_drew ?_ | refine blk_alloc ?_ _)); exact BK282.out⟩, ⟨by repeat (first | (with_reducible first | exact HB.out | apply below_alloc | apply pw_below_drewN | apply below_drew1 | refine below_set ?_ GE282.out) | exact HB.out)⟩⟩
    case round =>
      clear H'
      try clear c2
      try clear c2b0
      try clear c2b1
      try clear p2
      obtain ⟨x4_1, x5_1, x20_1, x283000_1, x283001_1, rfl, rfl, HA, HK1, HO_4, BK282, HB⟩ := hrel
      cases gk with
      | zero => exact absurd HA.out (by simp [jackstaylaw02_StuffRows.l0])
      | succ k1 =>
        have H := HA.out
        clear HA
        simp only [jackstaylaw02_StuffRows.l0] at H
        by_cases c6 : x20_1 < (l0.length : Int)
        · rw [if_pos c6] at H
          have c6b0 : decide (x20_1 < (l0.length : Int)) = true := decide_eq_true c6
          clear c6
          by_cases c7 : 0 ≤ x20_1
          · rw [if_pos c7] at H
            have c7b0 : decide (0 ≤ x20_1) = true := decide_eq_true c7
            clear c7
            by_cases c8 : x20_1 < (l0.length : Int)
            · rw [if_pos c8] at H
              have c8b0 : decide (x20_1 < (l0.length : Int)) = true := decide_eq_true c8
              clear c8
              replace H := Option.bind_eq_some_iff.mp H
              obtain ⟨⟨t290, t291⟩, A90, H⟩ := H
              replace H : ((stuff_Next.f k1 x283000_1 x283001_1 (rdOf false l0 x20_1)).bind fun bt292 => (if bt292.2.2 = 1 then (if (t291 != true) = true then (jackstaylaw02_StuffRows.j1 k1 l0 x4_1 x5_1 x20_1 (rdOf false l0 x20_1) bt292.2.2 l0 (l0.length : Int) x20_1 true bt292.1 bt292.2.1) else (if t291 = true then (jackstaylaw02_StuffRows.j1 k1 l0 x4_1 x5_1 x20_1 (rdOf false l0 x20_1) bt292.2.2 l0 (l0.length : Int) x20_1 ((bt292.2.2 == 1) != ((rdOf false l0 x20_1) == t290)) bt292.1 bt292.2.1) else (jackstaylaw02_StuffRows.j1 k1 l0 x4_1 x5_1 x20_1 (rdOf false l0 x20_1) bt292.2.2 l0 (l0.length : Int) x20_1 false bt292.1 bt292.2.1))) else (if (t291 != (bt292.2.2 == 2)) = true then (jackstaylaw02_StuffRows.j1 k1 l0 x4_1 x5_1 x20_1 (rdOf false l0 x20_1) bt292.2.2 l0 (l0.length : Int) x20_1 true bt292.1 bt292.2.1) else (if t291 = true then (jackstaylaw02_StuffRows.j1 k1 l0 x4_1 x5_1 x20_1 (rdOf false l0 x20_1) bt292.2.2 l0 (l0.length : Int) x20_1 ((bt292.2.2 == 1) != ((rdOf false l0 x20_1) == t290)) bt292.1 bt292.2.1) else (jackstaylaw02_StuffRows.j1 k1 l0 x4_1 x5_1 x20_1 (rdOf false l0 x20_1) bt292.2.2 l0 (l0.length : Int) x20_1 false bt292.1 bt292.2.1))))) = some r := H
              have A9 := Aside0.mk A90
              clear A90
              replace H := Option.bind_eq_some_iff.mp H
              obtain ⟨⟨t292, t293, t294⟩, A100, H⟩ := H
              replace H : (if t294 = 1 then (if (t291 != true) = true then (jackstaylaw02_StuffRows.j1 k1 l0 x4_1 x5_1 x20_1 (rdOf false l0 x20_1) t294 l0 (l0.length : Int) x20_1 true t292 t293) else (if t291 = true then (jackstaylaw02_StuffRows.j1 k1 l0 x4_1 x5_1 x20_1 (rdOf false l0 x20_1) t294 l0 (l0.length : Int) x20_1 ((t294 == 1) != ((rdOf false l0 x20_1) == t290)) t292 t293) else (jackstaylaw02_StuffRows.j1 k1 l0 x4_1 x5_1 x20_1 (rdOf false l0 x20_1) t294 l0 (l0.length : Int) x20_1 false t292 t293))) else (if (t291 != (t294 == 2)) = true then (jackstaylaw02_StuffRows.j1 k1 l0 x4_1 x5_1 x20_1 (rdOf false l0 x20_1) t294 l0 (l0.length : Int) x20_1 true t292 t293) else (if t291 = true then (jackstaylaw02_StuffRows.j1 k1 l0 x4_1 x5_1 x20_1 (rdOf false l0 x20_1) t294 l0 (l0.length : Int) x20_1 ((t294 == 1) != ((rdOf false l0 x20_1) == t290)) t292 t293) else (jackstaylaw02_StuffRows.j1 k1 l0 x4_1 x5_1 x20_1 (rdOf false l0 x20_1) t294 l0 (l0.length : Int) x20_1 false t292 t293)))) = some r := H
              have A10 := Aside0.mk A100
              clear A100
              have HC11 := Aside0.mk H
              clear H
              have p289 : 0 ≤ (x20_1 : Int) := of_decide_eq_true (by first | (with_reducible assumption) | assumption)
              have q289 : x20_1 < (l0.length : Int) := of_decide_eq_true (by first | (with_reducible assumption) | assumption)
              obtain ⟨ad289, e289, hx289_0⟩ := Kd.at_bool HR0.out x20_1 p289 q289
              cases e289
              (try replace hx289_0 := (HB.out.cell (World.block_lt_of_cell? w _ hx289_0)).trans hx289_0)
              replace p289 := eq_true p289
              replace q289 := eq_true q289
              have hcz12_0 : wr.cell? ⟨gb282, 0, none⟩ = some (.bool x283000_1) := (blk_cell BK282.out 0).trans rfl
              have hcz12_1 : wr.cell? ⟨gb282, 1, none⟩ = some (.int .u8 x283001_1) := (blk_cell BK282.out 1).trans rfl
              have hfz12_0 := blk_frozen BK282.out 0
              have hfz12_1 := blk_frozen BK282.out 1
              go_upto_region 11 with (first | ((with_reducible refine gate_callee (f := 9) rfl ?_); refine goesL_ (some 27) rfl rfl Try.func9 (by kernel_rfl) rfl #[.agg #[.bool x283000_1, .int .u8 x283001_1]] rfl (by (try simp only [List.map_toArray, List.map_cons, List.map_nil]); first | done | rfl | (simp only [List.length_drop, List.length_take]; rfl)) ?_; (with_reducible refine (stuff_Owed.calls x283000_1 x283001_1 t290 t291 _ A9.out).mono ?_); rintro e w13 ⟨rfl, hb⟩; refine ⟨_, rfl, ?_⟩; have n0_ := Aside0.mk (Kd.R_below (by (with_reducible repeat (first | apply Kd.R_alloc | apply Kd.R_drewN | apply Kd.R_drew)); exact HO_4.out) hb); have n1_ := Aside0.mk (blk_below (g := gb282) (o := .cells #[.bool x283000_1, .int .u8 x283001_1] 23 (0, 0)) (by (with_reducible repeat (first | refine blk_drewN ?_ _ | refine blk_drew ?_ | refine blk_alloc ?_ _)); exact BK282.out) hb); have n2_ := Aside0.mk (below_step (by repeat (first | (with_reducible first | exact HB.out | apply below_alloc | apply pw_below_drewN | apply below_drew1 | refine below_set ?_ GE282.out) | exact HB.out)) hb); clear HO_4; clear BK282; clear HB; have HO_4 := n0_; have BK282 := n1_; have HB := n2_; clear n0_ n1_ n2_; (try clear hb); (try clear hb2); (try clear hk); (try clear hi); have hcz14_0 : w13.cell? ⟨gb282, 0, none⟩ = some (.bool x283000_1) := (blk_cell BK282.out 0).trans rfl; have hcz14_1 : w13.cell? ⟨gb282, 1, none⟩ = some (.int .u8 x283001_1) := (blk_cell BK282.out 1).trans rfl; have hfz14_0 := blk_frozen BK282.out 0; have hfz14_1 := blk_frozen BK282.out 1) | ((with_reducible refine gate_callee (f := 8) rfl ?_); refine goesL_ (some 33) rfl rfl Try.func8 (by kernel_rfl) rfl #[.agg #[.bool x283000_1, .int .u8 x283001_1], .bool (rdOf false l0 x20_1)] rfl (by (try simp only [List.map_toArray, List.map_cons, List.map_nil]); first | done | rfl | (simp only [List.length_drop, List.length_take]; rfl)) ?_; (with_reducible refine (stuff_Next.calls k1 x283000_1 x283001_1 (rdOf false l0 x20_1) t292 t293 t294 _ A10.out).mono ?_); rintro e w15 ⟨rfl, hb⟩; refine ⟨_, rfl, ?_⟩; have n0_ := Aside0.mk (Kd.R_below (by (with_reducible repeat (first | apply Kd.R_alloc | apply Kd.R_drewN | apply Kd.R_drew)); exact HO_4.out) hb); have n1_ := Aside0.mk (blk_below (g := gb282) (o := .cells #[.bool x283000_1, .int .u8 x283001_1] 23 (0, 0)) (by (with_reducible repeat (first | refine blk_drewN ?_ _ | refine blk_drew ?_ | refine blk_alloc ?_ _)); exact BK282.out) hb); have n2_ := Aside0.mk (below_step (by repeat (first | (with_reducible first | exact HB.out | apply below_alloc | apply pw_below_drewN | apply below_drew1 | refine below_set ?_ GE282.out) | exact HB.out)) hb); clear HO_4; clear BK282; clear HB; have HO_4 := n0_; have BK282 := n1_; have HB := n2_; clear n0_ n1_ n2_; (try clear hb); (try clear hb2); (try clear hk); (try clear hi)) | ((with_reducible refine gate_dst (N := 10) rfl ?_); refine box_event ?hg (N := 10) ?hd (cs := #[.bool false, .int .u8 0]) (t := 23) ?hr ?_; (case hd => rfl); (case hg => rfl); (case hr => first | (go_simp; done) | (go_simp; rfl)); intro gb295 hg w16 hbox hb; have n0_ := Aside0.mk (Kd.R_below (by (with_reducible repeat (first | apply Kd.R_alloc | apply Kd.R_drewN | apply Kd.R_drew)); exact HO_4.out) hb); have n1_ := Aside0.mk (blk_below (g := gb282) (o := .cells #[.bool x283000_1, .int .u8 x283001_1] 23 (0, 0)) (by (with_reducible repeat (first | refine blk_drewN ?_ _ | refine blk_drew ?_ | refine blk_alloc ?_ _)); exact BK282.out) hb); have n2_ := Aside0.mk (below_step (by repeat (first | (with_reducible first | exact HB.out | apply below_alloc | apply pw_below_drewN | apply below_drew1 | refine below_set ?_ GE282.out) | exact HB.out)) hb); have n3_ := Aside0.mk (hbox); have n4_ := Aside0.mk ((by rw [hg]; exact (below_size (by repeat (first | (with_reducible first | exact HB.out | apply below_alloc | apply pw_below_drewN | apply below_drew1 | refine below_set ?_ GE282.out) | exact HB.out))) : w.heap.size ≤ gb295)); have n5_ := Aside0.mk ((by rw [hg]; exact (below_size (by repeat (first | (with_reducible first | exact HB.out | apply below_alloc | apply pw_below_drewN | apply below_drew1 | refine below_set ?_ GE282.out) | exact HB.out))) : w.heap.size ≤ gb295)); have n6_ := Aside0.mk ((by rw [hg]; exact Nat.ne_of_lt (blk_lt (g := gb282) (o := .cells #[.bool x283000_1, .int .u8 x283001_1] 23 (0, 0)) (by (with_reducible repeat (first | refine blk_drewN ?_ _ | refine blk_drew ?_ | refine blk_alloc ?_ _)); exact BK282.out)) : gb282 ≠ gb295)); have n7_ := Aside0.mk ((by rw [hg]; exact Nat.ne_of_gt (blk_lt (g := gb282) (o := .cells #[.bool x283000_1, .int .u8 x283001_1] 23 (0, 0)) (by (with_reducible repeat (first | refine blk_drewN ?_ _ | refine blk_drew ?_ | refine blk_alloc ?_ _)); exact BK282.out)) : gb295 ≠ gb282)); clear HO_4; clear BK282; clear HB; have HO_4 := n0_; have BK282 := n1_; have HB := n2_; have BK295 := n3_; have GW295 := n4_; have GE295 := n5_; have NB282_295 := n6_; have NB295_282 := n7_; clear n0_ n1_ n2_ n3_ n4_ n5_ n6_ n7_; clear hb hbox hg; have hnb17 := NB295_282.out; have hnc17 := NB282_295.out; have hcz18_0 : w16.cell? ⟨gb295, 0, none⟩ = some (.bool false) := (blk_cell BK295.out 0).trans rfl; have hcz18_1 : w16.cell? ⟨gb295, 1, none⟩ = some (.int .u8 0) := (blk_cell BK295.out 1).trans rfl; have hfz18_0 := blk_frozen BK295.out 0; have hfz18_1 := blk_frozen BK295.out 1))
              (try simp only [Act.put, List.setIfInBounds_toArray, List.set_cons_zero, List.set_cons_succ])
              go_cut [54] (fun v54 wc => ∃ (kq : Nat) (x54_10 : Bool), v54 = .bool x54_10 ∧ Aside0 (jackstaylaw02_StuffRows.j1 kq l0 x4_1 x5_1 x20_1 (rdOf false l0 x20_1) t294 l0 (l0.length : Int) x20_1 x54_10 t292 t293 = some r) ∧ Aside0 (kq ≤ k1) ∧ Aside0 (Kd.R Kd.bool 4 wc w.heap.size (fun _ => True) u4 x4_1) ∧ Aside0 (wc.heap[gb282]? = some (.cells #[.bool x283000_1, .int .u8 x283001_1] 23 (0, 0))) ∧ Aside0 (wc.heap[gb295]? = some (.cells #[.bool t292, .int .u8 t293] 23 (0, 0))) ∧ Aside0 (Below w.heap.size w wc))
              case first =>
                have H := HC11.out
                clear HC11
                by_cases c19 : t294 = 1
                · rw [if_pos c19] at H
                  have c19b0 : (t294 == 1) = true := beq_iff_eq.mpr c19
                  have c19b1 : (t294 != 1) = false := bne_eq_false_iff_eq.mpr c19
                  clear c19
                  (first | rw [c19b0] | (simp only [i64_w, i32_w]; rw [c19b0]) | skip)
                  by_cases c20 : (t291 != true) = true
                  · rw [if_pos c20] at H
                    have c20b0 : (t291 != true) = true := c20
                    (try (have c20b1 : decide (t291 = true) = false := by simpa using c20))
                    (try (have c20b2 : (t291 == true) = false := by simpa using c20))
                    (try (have c20b3 : ¬ (t291 = true) := by simpa using c20))
                    clear c20
                    have H' := Aside0.mk H
                    clear H
                    go_wp2
                    go_meet
                    case rel => exact ⟨_, (true), (by first | rfl | (simp; done) | (simp [*]; done)), H', ⟨by have := HK1.out; first | omega | exact Nat.le_refl _⟩, ⟨by (with_reducible repeat (first | apply Kd.R_alloc | apply Kd.R_drewN | apply Kd.R_drew)); exact Kd.R_mono (Kd.R_far (p := ⟨gb295, 1, none⟩) (Kd.R_far (p := ⟨gb295, 0, none⟩) (Kd.R_types HO_4.out BK295.out (by decide)) (fun _ hk => hk.2) (.bool t292)) (fun _ hk => hk.2) (.int .u8 t293)) (fun _ hk => trivial)⟩, ⟨by (with_reducible repeat (first | refine blk_drewN ?_ _ | refine blk_drew ?_ | refine blk_alloc ?_ _)); refine blk_far ?_ NB282_295.out _; (with_reducible repeat (first | refine blk_drewN ?_ _ | refine blk_drew ?_ | refine blk_alloc ?_ _)); refine blk_far ?_ NB282_295.out _; (with_reducible repeat (first | refine blk_drewN ?_ _ | refine blk_drew ?_ | refine blk_alloc ?_ _)); exact BK282.out⟩, ⟨by (with_reducible repeat (first | refine blk_drewN ?_ _ | refine blk_drew ?_ | refine blk_alloc ?_ _)); refine blk_put (cs := #[.bool t292, .int .u8 0]) ?_ 1 _ rfl; (with_reducible repeat (first | refine blk_drewN ?_ _ | refine blk_drew ?_ | refine blk_alloc ?_ _)); refine blk_put (cs := #[.bool false, .int .u8 0]) ?_ 0 _ rfl; (with_reducible repeat (first | refine blk_drewN ?_ _ | refine blk_drew ?_ | refine blk_alloc ?_ _)); exact BK295.out⟩, ⟨by repeat (first | (with_reducible first | exact HB.out | apply below_alloc | apply pw_below_drewN | apply below_drew1 | refine below_set ?_ GE282.out | refine below_set ?_ GE295.out) | exact HB.out)⟩⟩
                  · rw [if_neg c20] at H
                    have c20b0 : (t291 != true) = false := by simpa using c20
                    (try (have c20b1 : decide (t291 = true) = true := by simpa using c20))
                    (try (have c20b2 : (t291 == true) = true := by simpa using c20))
                    clear c20
                    by_cases c21 : t291 = true
                    · subst c21
                      have H1 : (jackstaylaw02_StuffRows.j1 k1 l0 x4_1 x5_1 x20_1 (rdOf false l0 x20_1) t294 l0 (l0.length : Int) x20_1 ((t294 == 1) != ((rdOf false l0 x20_1) == t290)) t292 t293) = some r := by rw [if_pos rfl] at H; exact H
                      clear H
                      have H := H1
                      clear H1
                      have H' := Aside0.mk H
                      clear H
                      go_wp2
                      go_meet
                      case rel => exact ⟨_, (((t294 == 1) != ((rdOf false l0 x20_1) == t290))), (by first | rfl | (simp; done) | (simp [*]; done)), H', ⟨by have := HK1.out; first | omega | exact Nat.le_refl _⟩, ⟨by (with_reducible repeat (first | apply Kd.R_alloc | apply Kd.R_drewN | apply Kd.R_drew)); exact Kd.R_mono (Kd.R_far (p := ⟨gb295, 1, none⟩) (Kd.R_far (p := ⟨gb295, 0, none⟩) (Kd.R_types HO_4.out BK295.out (by decide)) (fun _ hk => hk.2) (.bool t292)) (fun _ hk => hk.2) (.int .u8 t293)) (fun _ hk => trivial)⟩, ⟨by (with_reducible repeat (first | refine blk_drewN ?_ _ | refine blk_drew ?_ | refine blk_alloc ?_ _)); refine blk_far ?_ NB282_295.out _; (with_reducible repeat (first | refine blk_drewN ?_ _ | refine blk_drew ?_ | refine blk_alloc ?_ _)); refine blk_far ?_ NB282_295.out _; (with_reducible repeat (first | refine blk_drewN ?_ _ | refine blk_drew ?_ | refine blk_alloc ?_ _)); exact BK282.out⟩, ⟨by (with_reducible repeat (first | refine blk_drewN ?_ _ | refine blk_drew ?_ | refine blk_alloc ?_ _)); refine blk_put (cs := #[.bool t292, .int .u8 0]) ?_ 1 _ rfl; (with_reducible repeat (first | refine blk_drewN ?_ _ | refine blk_drew ?_ | refine blk_alloc ?_ _)); refine blk_put (cs := #[.bool false, .int .u8 0]) ?_ 0 _ rfl; (with_reducible repeat (first | refine blk_drewN ?_ _ | refine blk_drew ?_ | refine blk_alloc ?_ _)); exact BK295.out⟩, ⟨by repeat (first | (with_reducible first | exact HB.out | apply below_alloc | apply pw_below_drewN | apply below_drew1 | refine below_set ?_ GE282.out | refine below_set ?_ GE295.out) | exact HB.out)⟩⟩
                    · replace c21 := Bool.eq_false_iff.mpr c21
                      subst c21
                      have H1 : (jackstaylaw02_StuffRows.j1 k1 l0 x4_1 x5_1 x20_1 (rdOf false l0 x20_1) t294 l0 (l0.length : Int) x20_1 false t292 t293) = some r := by rw [if_neg (show ¬ (false = true) by decide)] at H; exact H
                      clear H
                      have H := H1
                      clear H1
                      have H' := Aside0.mk H
                      clear H
                      go_wp2
                      go_meet
                      case rel => exact ⟨_, (false), (by first | rfl | (simp; done) | (simp [*]; done)), H', ⟨by have := HK1.out; first | omega | exact Nat.le_refl _⟩, ⟨by (with_reducible repeat (first | apply Kd.R_alloc | apply Kd.R_drewN | apply Kd.R_drew)); exact Kd.R_mono (Kd.R_far (p := ⟨gb295, 1, none⟩) (Kd.R_far (p := ⟨gb295, 0, none⟩) (Kd.R_types HO_4.out BK295.out (by decide)) (fun _ hk => hk.2) (.bool t292)) (fun _ hk => hk.2) (.int .u8 t293)) (fun _ hk => trivial)⟩, ⟨by (with_reducible repeat (first | refine blk_drewN ?_ _ | refine blk_drew ?_ | refine blk_alloc ?_ _)); refine blk_far ?_ NB282_295.out _; (with_reducible repeat (first | refine blk_drewN ?_ _ | refine blk_drew ?_ | refine blk_alloc ?_ _)); refine blk_far ?_ NB282_295.out _; (with_reducible repeat (first | refine blk_drewN ?_ _ | refine blk_drew ?_ | refine blk_alloc ?_ _)); exact BK282.out⟩, ⟨by (with_reducible repeat (first | refine blk_drewN ?_ _ | refine blk_drew ?_ | refine blk_alloc ?_ _)); refine blk_put (cs := #[.bool t292, .int .u8 0]) ?_ 1 _ rfl; (with_reducible repeat (first | refine blk_drewN ?_ _ | refine blk_drew ?_ | refine blk_alloc ?_ _)); refine blk_put (cs := #[.bool false, .int .u8 0]) ?_ 0 _ rfl; (with_reducible repeat (first | refine blk_drewN ?_ _ | refine blk_drew ?_ | refine blk_alloc ?_ _)); exact BK295.out⟩, ⟨by repeat (first | (with_reducible first | exact HB.out | apply below_alloc | apply pw_below_drewN | apply below_drew1 | refine below_set ?_ GE282.out | refine below_set ?_ GE295.out) | exact HB.out)⟩⟩
                · rw [if_neg c19] at H
                  have c19b0 : (t294 == 1) = false := beq_eq_false_iff_ne.mpr c19
                  have c19b1 : (t294 != 1) = true := bne_iff_ne.mpr c19
                  (first | rw [c19b0] | (simp only [i64_w, i32_w]; rw [c19b0]) | skip)
                  by_cases c22 : (t291 != (t294 == 2)) = true
                  · rw [if_pos c22] at H
                    have c22b0 : (t291 != (t294 == 2)) = true := c22
                    (try (have c22b1 : decide (t291 = (t294 == 2)) = false := by simpa using c22))
                    (try (have c22b2 : (t291 == (t294 == 2)) = false := by simpa using c22))
                    (try (have c22b3 : ¬ (t291 = (t294 == 2)) := by simpa using c22))
                    clear c22
                    have H' := Aside0.mk H
                    clear H
                    go_wp2
                    go_meet
                    case rel => exact ⟨_, (true), (by first | rfl | (simp; done) | (simp [*]; done)), H', ⟨by have := HK1.out; first | omega | exact Nat.le_refl _⟩, ⟨by (with_reducible repeat (first | apply Kd.R_alloc | apply Kd.R_drewN | apply Kd.R_drew)); exact Kd.R_mono (Kd.R_far (p := ⟨gb295, 1, none⟩) (Kd.R_far (p := ⟨gb295, 0, none⟩) (Kd.R_types HO_4.out BK295.out (by decide)) (fun _ hk => hk.2) (.bool t292)) (fun _ hk => hk.2) (.int .u8 t293)) (fun _ hk => trivial)⟩, ⟨by (with_reducible repeat (first | refine blk_drewN ?_ _ | refine blk_drew ?_ | refine blk_alloc ?_ _)); refine blk_far ?_ NB282_295.out _; (with_reducible repeat (first | refine blk_drewN ?_ _ | refine blk_drew ?_ | refine blk_alloc ?_ _)); refine blk_far ?_ NB282_295.out _; (with_reducible repeat (first | refine blk_drewN ?_ _ | refine blk_drew ?_ | refine blk_alloc ?_ _)); exact BK282.out⟩, ⟨by (with_reducible repeat (first | refine blk_drewN ?_ _ | refine blk_drew ?_ | refine blk_alloc ?_ _)); refine blk_put (cs := #[.bool t292, .int .u8 0]) ?_ 1 _ rfl; (with_reducible repeat (first | refine blk_drewN ?_ _ | refine blk_drew ?_ | refine blk_alloc ?_ _)); refine blk_put (cs := #[.bool false, .int .u8 0]) ?_ 0 _ rfl; (with_reducible repeat (first | refine blk_drewN ?_ _ | refine blk_drew ?_ | refine blk_alloc ?_ _)); exact BK295.out⟩, ⟨by repeat (first | (with_reducible first | exact HB.out | apply below_alloc | apply pw_below_drewN | apply below_drew1 | refine below_set ?_ GE282.out | refine below_set ?_ GE295.out) | exact HB.out)⟩⟩
                  · rw [if_neg c22] at H
                    have c22b0 : (t291 != (t294 == 2)) = false := by simpa using c22
                    (try (have c22b1 : decide (t291 = (t294 == 2)) = true := by simpa using c22))
                    (try (have c22b2 : (t291 == (t294 == 2)) = true := by simpa using c22))
                    clear c22
                    by_cases c23 : t291 = true
                    · subst c23
                      have H1 : (jackstaylaw02_StuffRows.j1 k1 l0 x4_1 x5_1 x20_1 (rdOf false l0 x20_1) t294 l0 (l0.length : Int) x20_1 ((t294 == 1) != ((rdOf false l0 x20_1) == t290)) t292 t293) = some r := by rw [if_pos rfl] at H; exact H
                      clear H
                      have H := H1
                      clear H1
                      have H' := Aside0.mk H
                      clear H
                      go_wp2
                      go_meet
                      case rel => exact ⟨_, (((t294 == 1) != ((rdOf false l0 x20_1) == t290))), (by first | rfl | (simp; done) | (simp [*]; done)), H', ⟨by have := HK1.out; first | omega | exact Nat.le_refl _⟩, ⟨by (with_reducible repeat (first | apply Kd.R_alloc | apply Kd.R_drewN | apply Kd.R_drew)); exact Kd.R_mono (Kd.R_far (p := ⟨gb295, 1, none⟩) (Kd.R_far (p := ⟨gb295, 0, none⟩) (Kd.R_types HO_4.out BK295.out (by decide)) (fun _ hk => hk.2) (.bool t292)) (fun _ hk => hk.2) (.int .u8 t293)) (fun _ hk => trivial)⟩, ⟨by (with_reducible repeat (first | refine blk_drewN ?_ _ | refine blk_drew ?_ | refine blk_alloc ?_ _)); refine blk_far ?_ NB282_295.out _; (with_reducible repeat (first | refine blk_drewN ?_ _ | refine blk_drew ?_ | refine blk_alloc ?_ _)); refine blk_far ?_ NB282_295.out _; (with_reducible repeat (first | refine blk_drewN ?_ _ | refine blk_drew ?_ | refine blk_alloc ?_ _)); exact BK282.out⟩, ⟨by (with_reducible repeat (first | refine blk_drewN ?_ _ | refine blk_drew ?_ | refine blk_alloc ?_ _)); refine blk_put (cs := #[.bool t292, .int .u8 0]) ?_ 1 _ rfl; (with_reducible repeat (first | refine blk_drewN ?_ _ | refine blk_drew ?_ | refine blk_alloc ?_ _)); refine blk_put (cs := #[.bool false, .int .u8 0]) ?_ 0 _ rfl; (with_reducible repeat (first | refine blk_drewN ?_ _ | refine blk_drew ?_ | refine blk_alloc ?_ _)); exact BK295.out⟩, ⟨by repeat (first | (with_reducible first | exact HB.out | apply below_alloc | apply pw_below_drewN | apply below_drew1 | refine below_set ?_ GE282.out | refine below_set ?_ GE295.out) | exact HB.out)⟩⟩
                    · replace c23 := Bool.eq_false_iff.mpr c23
                      subst c23
                      have H1 : (jackstaylaw02_StuffRows.j1 k1 l0 x4_1 x5_1 x20_1 (rdOf false l0 x20_1) t294 l0 (l0.length : Int) x20_1 false t292 t293) = some r := by rw [if_neg (show ¬ (false = true) by decide)] at H; exact H
                      clear H
                      have H := H1
                      clear H1
                      have H' := Aside0.mk H
                      clear H
                      go_wp2
                      go_meet
                      case rel => exact ⟨_, (false), (by first | rfl | (simp; done) | (simp [*]; done)), H', ⟨by have := HK1.out; first | omega | exact Nat.le_refl _⟩, ⟨by (with_reducible repeat (first | apply Kd.R_alloc | apply Kd.R_drewN | apply Kd.R_drew)); exact Kd.R_mono (Kd.R_far (p := ⟨gb295, 1, none⟩) (Kd.R_far (p := ⟨gb295, 0, none⟩) (Kd.R_types HO_4.out BK295.out (by decide)) (fun _ hk => hk.2) (.bool t292)) (fun _ hk => hk.2) (.int .u8 t293)) (fun _ hk => trivial)⟩, ⟨by (with_reducible repeat (first | refine blk_drewN ?_ _ | refine blk_drew ?_ | refine blk_alloc ?_ _)); refine blk_far ?_ NB282_295.out _; (with_reducible repeat (first | refine blk_drewN ?_ _ | refine blk_drew ?_ | refine blk_alloc ?_ _)); refine blk_far ?_ NB282_295.out _; (with_reducible repeat (first | refine blk_drewN ?_ _ | refine blk_drew ?_ | refine blk_alloc ?_ _)); exact BK282.out⟩, ⟨by (with_reducible repeat (first | refine blk_drewN ?_ _ | refine blk_drew ?_ | refine blk_alloc ?_ _)); refine blk_put (cs := #[.bool t292, .int .u8 0]) ?_ 1 _ rfl; (with_reducible repeat (first | refine blk_drewN ?_ _ | refine blk_drew ?_ | refine blk_alloc ?_ _)); refine blk_put (cs := #[.bool false, .int .u8 0]) ?_ 0 _ rfl; (with_reducible repeat (first | refine blk_drewN ?_ _ | refine blk_drew ?_ | refine blk_alloc ?_ _)); exact BK295.out⟩, ⟨by repeat (first | (with_reducible first | exact HB.out | apply below_alloc | apply pw_below_drewN | apply below_drew1 | refine below_set ?_ GE282.out | refine below_set ?_ GE295.out) | exact HB.out)⟩⟩
              case rest =>
                clear HC11
                try clear c1
                try clear c2
                try clear c2b0
                try clear c2b1
                try clear p2
                try clear q2
                try clear hx2
                try clear c6
                try clear c6b0
                try clear c7
                try clear c7b0
                try clear c8
                try clear c8b0
                try clear c9
                try clear c17
                try clear c19
                try clear c19b0
                try clear c19b1
                try clear c20
                try clear c20b0
                try clear c20b1
                try clear c20b2
                try clear c21
                try clear c22
                try clear c22b0
                try clear c22b1
                try clear c22b2
                try clear c23
                try clear hcz12_0
                try clear hcz12_1
                try clear hcz14_0
                try clear hcz14_1
                try clear hcz18_0
                try clear hcz18_1
                try clear hfz12_0
                try clear hfz12_1
                try clear hfz14_0
                try clear hfz14_1
                try clear hfz18_0
                try clear hfz18_1
                try clear hx289_0
                try clear p2
                try clear p289
                try clear q289
                obtain ⟨kq, x54_10, rfl, HA, HJ10, HO_4, BK282, BK295, HB⟩ := hcut
                cases kq with
                | zero => exact absurd HA.out (by simp [jackstaylaw02_StuffRows.j1])
                | succ kj10 =>
                  have H := HA.out
                  clear HA
                  simp only [jackstaylaw02_StuffRows.j1] at H
                  by_cases c24 : x54_10 = true
                  · subst c24
                    have H1 : (some false) = some r := by rw [if_pos rfl] at H; exact H
                    clear H
                    have H := H1
                    clear H1
                    obtain rfl := Option.some.inj H
                    go_wp2
                    go_ret
                    exact ⟨by first | rfl | (simp [errW_none, errW_some] <;> rfl) | (simp [*, errW_none, errW_some] <;> rfl), by repeat (first | (with_reducible first | exact HB.out | apply below_alloc | apply pw_below_drewN | apply below_drew1 | refine below_set ?_ GE282.out | refine below_set ?_ GE295.out) | exact HB.out)⟩
                  · replace c24 := Bool.eq_false_iff.mpr c24
                    subst c24
                    have H1 : (if t294 = 2 then ((stuff_Take.f kj10 l0).bind fun bt296 => (if bt296.2 = x20_1 then ((jackstaylow_Same.f kj10 bt296.1 x4_1).bind fun t300 => (if t300 = true then ((jackstaylaw02_awake.f kj10).bind fun t301 => (some t301)) else (some false))) else (some false))) else (if t294 = 0 then (if x4_1.length < 140737488355328 then (if (t292 != (rdOf false l0 x20_1)) = true then (some false) else (if t293 < 1 then (some false) else (if t293 > 5 then (some false) else (jackstaylaw02_StuffRows.l0 kj10 l0 (x4_1 ++ [(rdOf false l0 x20_1)]) x5_1 l0 (l0.length : Int) (wrap64 (x20_1 + 1)) t292 t293)))) else (none)) else (if (t292 != (rdOf false l0 x20_1)) = true then (some false) else (if t293 < 1 then (some false) else (if t293 > 5 then (some false) else (jackstaylaw02_StuffRows.l0 kj10 l0 x4_1 x5_1 l0 (l0.length : Int) (wrap64 (x20_1 + 1)) t292 t293)))))) = some r := by rw [if_neg (show ¬ (false = true) by decide)] at H; exact H
                    clear H
                    have H := H1
                    clear H1
                    by_cases c25 : t294 = 2
                    · rw [if_pos c25] at H
                      have c25b0 : (t294 == 2) = true := beq_iff_eq.mpr c25
                      have c25b1 : (t294 != 2) = false := bne_eq_false_iff_eq.mpr c25
                      clear c25
                      replace H := Option.bind_eq_some_iff.mp H
                      obtain ⟨⟨t296, t297⟩, A260, H⟩ := H
                      replace H : (if t297 = x20_1 then ((jackstaylow_Same.f kj10 t296 x4_1).bind fun t300 => (if t300 = true then ((jackstaylaw02_awake.f kj10).bind fun t301 => (some t301)) else (some false))) else (some false)) = some r := H
                      have A26 := Aside0.mk A260
                      clear A260
                      by_cases c27 : t297 = x20_1
                      · rw [if_pos c27] at H
                        have c27b0 : (t297 == x20_1) = true := beq_iff_eq.mpr c27
                        have c27b1 : (t297 != x20_1) = false := bne_eq_false_iff_eq.mpr c27
                        clear c27
                        replace H := Option.bind_eq_some_iff.mp H
                        obtain ⟨t300, A280, H⟩ := H
                        replace H : (if t300 = true then ((jackstaylaw02_awake.f kj10).bind fun t301 => (some t301)) else (some false)) = some r := H
                        have A28 := Aside0.mk A280
                        clear A280
                        by_cases c29 : t300 = true
                        · subst c29
                          have H1 : ((jackstaylaw02_awake.f kj10).bind fun t301 => (some t301)) = some r := by rw [if_pos rfl] at H; exact H
                          clear H
                          have H := H1
                          clear H1
                          replace H := Option.bind_eq_some_iff.mp H
                          obtain ⟨t301, A300, H⟩ := H
                          replace H : (some t301) = some r := H
                          have A30 := Aside0.mk A300
                          clear A300
                          obtain rfl := Option.some.inj H
                          go_wp2_with (first | ((with_reducible refine gate_callee (f := 12) rfl ?_); refine goesL_ (some 82) rfl rfl Try.func12 (by kernel_rfl) rfl #[.slice (some ad289) l0.length c0] rfl (by (try simp only [List.map_toArray, List.map_cons, List.map_nil]); first | done | rfl | (simp only [List.length_drop, List.length_take]; rfl)) ?_; (with_reducible refine (stuff_Take.calls kj10 _ _ l0 t296 t297 _ ?side1 ?side2 A26.out).mono ?_); (case side1 => repeat (first | exact (Kd.C_below HR0.out HB.out) | (with_reducible refine Kd.C_alloc ?_ _) | (with_reducible refine Kd.C_drewN ?_ _) | (with_reducible refine Kd.C_drew ?_))); (case side2 => exact HC0.out); rintro e w31 ⟨v298, rfl, ho0, hb⟩; refine ⟨_, rfl, ?_⟩; have n0_ := Aside0.mk (Kd.R_elder' (by (with_reducible repeat (first | apply Kd.R_alloc | apply Kd.R_drewN | apply Kd.R_drew)); exact HO_4.out) (Kd.R_base ho0) hb); have n1_ := Aside0.mk (Kd.R_lower (Kd.R_new' ho0 (Kd.R_lt (by (with_reducible repeat (first | apply Kd.R_alloc | apply Kd.R_drewN | apply Kd.R_drew)); exact HO_4.out))) (below_size (by repeat (first | (with_reducible first | exact HB.out | apply below_alloc | apply pw_below_drewN | apply below_drew1 | refine below_set ?_ GE282.out | refine below_set ?_ GE295.out) | exact HB.out)))); have n2_ := Aside0.mk (blk_below (g := gb282) (o := .cells #[.bool x283000_1, .int .u8 x283001_1] 23 (0, 0)) (by (with_reducible repeat (first | refine blk_drewN ?_ _ | refine blk_drew ?_ | refine blk_alloc ?_ _)); exact BK282.out) hb); have n3_ := Aside0.mk (blk_below (g := gb295) (o := .cells #[.bool t292, .int .u8 t293] 23 (0, 0)) (by (with_reducible repeat (first | refine blk_drewN ?_ _ | refine blk_drew ?_ | refine blk_alloc ?_ _)); exact BK295.out) hb); have n4_ := Aside0.mk (below_step (by repeat (first | (with_reducible first | exact HB.out | apply below_alloc | apply pw_below_drewN | apply below_drew1 | refine below_set ?_ GE282.out | refine below_set ?_ GE295.out) | exact HB.out)) hb); clear HO_4; clear BK282; clear BK295; clear HB; have HO_4 := n0_; have HO299 := n1_; have BK282 := n2_; have BK295 := n3_; have HB := n4_; clear n0_ n1_ n2_ n3_ n4_; (try clear hb); (try clear hb2); (try clear hk); (try clear hi); (try clear ho0); obtain ⟨Ao32, co32, eo32⟩ := Kd.R_slice HO299.out; subst eo32; obtain ⟨Ao33, co33, eo33⟩ := Kd.R_slice HO_4.out; subst eo33) | (go_at_call 14; (with_reducible refine (jackstaylow_Same.calls kj10 _ _ t296 _ _ x4_1 true _ ?side1 ?side2 ?side3 ?side4 A28.out).mono ?_); (case side1 => repeat (first | exact (Kd.R_reads' HO299.out).2.2 | (with_reducible refine Kd.C_alloc ?_ _) | (with_reducible refine Kd.C_drewN ?_ _) | (with_reducible refine Kd.C_drew ?_))); (case side2 => exact (Kd.R_reads' HO299.out).2.1); (case side3 => repeat (first | exact (Kd.R_reads' HO_4.out).2.2 | (with_reducible refine Kd.C_alloc ?_ _) | (with_reducible refine Kd.C_drewN ?_ _) | (with_reducible refine Kd.C_drew ?_))); (case side4 => exact (Kd.R_reads' HO_4.out).2.1); rintro e w' ⟨rfl, ⟨nd, rfl⟩⟩) | (go_at_call 7; (with_reducible refine (jackstaylaw02_awake.calls kj10  t301 _ A30.out).mono ?_); rintro e w34 ⟨rfl, hb⟩; have n0_ := Aside0.mk (Kd.R_below (by (with_reducible repeat (first | apply Kd.R_alloc | apply Kd.R_drewN | apply Kd.R_drew)); exact HO_4.out) hb); have n1_ := Aside0.mk (Kd.R_below (by (with_reducible repeat (first | apply Kd.R_alloc | apply Kd.R_drewN | apply Kd.R_drew)); exact HO299.out) hb); have n2_ := Aside0.mk (blk_below (g := gb282) (o := .cells #[.bool x283000_1, .int .u8 x283001_1] 23 (0, 0)) (by (with_reducible repeat (first | refine blk_drewN ?_ _ | refine blk_drew ?_ | refine blk_alloc ?_ _)); exact BK282.out) hb); have n3_ := Aside0.mk (blk_below (g := gb295) (o := .cells #[.bool t292, .int .u8 t293] 23 (0, 0)) (by (with_reducible repeat (first | refine blk_drewN ?_ _ | refine blk_drew ?_ | refine blk_alloc ?_ _)); exact BK295.out) hb); have n4_ := Aside0.mk (below_step (by repeat (first | (with_reducible first | exact HB.out | apply below_alloc | apply pw_below_drewN | apply below_drew1 | refine below_set ?_ GE282.out | refine below_set ?_ GE295.out) | exact HB.out)) hb); clear HO_4; clear HO299; clear BK282; clear BK295; clear HB; have HO_4 := n0_; have HO299 := n1_; have BK282 := n2_; have BK295 := n3_; have HB := n4_; clear n0_ n1_ n2_ n3_ n4_; (try clear hb); (try clear hb2); (try clear hk); (try clear hi)))
                          go_ret
                          exact ⟨by first | rfl | (simp [errW_none, errW_some] <;> rfl) | (simp [*, errW_none, errW_some] <;> rfl), by repeat (first | (with_reducible first | exact HB.out | apply below_alloc | apply pw_below_drewN | apply below_drew1 | refine below_set ?_ GE282.out | refine below_set ?_ GE295.out) | exact HB.out)⟩
                        · replace c29 := Bool.eq_false_iff.mpr c29
                          subst c29
                          have H1 : (some false) = some r := by rw [if_neg (show ¬ (false = true) by decide)] at H; exact H
                          clear H
                          have H := H1
                          clear H1
                          obtain rfl := Option.some.inj H
                          go_wp2_with (first | ((with_reducible refine gate_callee (f := 12) rfl ?_); refine goesL_ (some 82) rfl rfl Try.func12 (by kernel_rfl) rfl #[.slice (some ad289) l0.length c0] rfl (by (try simp only [List.map_toArray, List.map_cons, List.map_nil]); first | done | rfl | (simp only [List.length_drop, List.length_take]; rfl)) ?_; (with_reducible refine (stuff_Take.calls kj10 _ _ l0 t296 t297 _ ?side1 ?side2 A26.out).mono ?_); (case side1 => repeat (first | exact (Kd.C_below HR0.out HB.out) | (with_reducible refine Kd.C_alloc ?_ _) | (with_reducible refine Kd.C_drewN ?_ _) | (with_reducible refine Kd.C_drew ?_))); (case side2 => exact HC0.out); rintro e w35 ⟨v298, rfl, ho0, hb⟩; refine ⟨_, rfl, ?_⟩; have n0_ := Aside0.mk (Kd.R_elder' (by (with_reducible repeat (first | apply Kd.R_alloc | apply Kd.R_drewN | apply Kd.R_drew)); exact HO_4.out) (Kd.R_base ho0) hb); have n1_ := Aside0.mk (Kd.R_lower (Kd.R_new' ho0 (Kd.R_lt (by (with_reducible repeat (first | apply Kd.R_alloc | apply Kd.R_drewN | apply Kd.R_drew)); exact HO_4.out))) (below_size (by repeat (first | (with_reducible first | exact HB.out | apply below_alloc | apply pw_below_drewN | apply below_drew1 | refine below_set ?_ GE282.out | refine below_set ?_ GE295.out) | exact HB.out)))); have n2_ := Aside0.mk (blk_below (g := gb282) (o := .cells #[.bool x283000_1, .int .u8 x283001_1] 23 (0, 0)) (by (with_reducible repeat (first | refine blk_drewN ?_ _ | refine blk_drew ?_ | refine blk_alloc ?_ _)); exact BK282.out) hb); have n3_ := Aside0.mk (blk_below (g := gb295) (o := .cells #[.bool t292, .int .u8 t293] 23 (0, 0)) (by (with_reducible repeat (first | refine blk_drewN ?_ _ | refine blk_drew ?_ | refine blk_alloc ?_ _)); exact BK295.out) hb); have n4_ := Aside0.mk (below_step (by repeat (first | (with_reducible first | exact HB.out | apply below_alloc | apply pw_below_drewN | apply below_drew1 | refine below_set ?_ GE282.out | refine below_set ?_ GE295.out) | exact HB.out)) hb); clear HO_4; clear BK282; clear BK295; clear HB; have HO_4 := n0_; have HO299 := n1_; have BK282 := n2_; have BK295 := n3_; have HB := n4_; clear n0_ n1_ n2_ n3_ n4_; (try clear hb); (try clear hb2); (try clear hk); (try clear hi); (try clear ho0); obtain ⟨Ao36, co36, eo36⟩ := Kd.R_slice HO299.out; subst eo36; obtain ⟨Ao37, co37, eo37⟩ := Kd.R_slice HO_4.out; subst eo37) | (go_at_call 14; (with_reducible refine (jackstaylow_Same.calls kj10 _ _ t296 _ _ x4_1 false _ ?side1 ?side2 ?side3 ?side4 A28.out).mono ?_); (case side1 => repeat (first | exact (Kd.R_reads' HO299.out).2.2 | (with_reducible refine Kd.C_alloc ?_ _) | (with_reducible refine Kd.C_drewN ?_ _) | (with_reducible refine Kd.C_drew ?_))); (case side2 => exact (Kd.R_reads' HO299.out).2.1); (case side3 => repeat (first | exact (Kd.R_reads' HO_4.out).2.2 | (with_reducible refine Kd.C_alloc ?_ _) | (with_reducible refine Kd.C_drewN ?_ _) | (with_reducible refine Kd.C_drew ?_))); (case side4 => exact (Kd.R_reads' HO_4.out).2.1); rintro e w' ⟨rfl, ⟨nd, rfl⟩⟩))
                          go_ret
                          exact ⟨by first | rfl | (simp [errW_none, errW_some] <;> rfl) | (simp [*, errW_none, errW_some] <;> rfl), by repeat (first | (with_reducible first | exact HB.out | apply below_alloc | apply pw_below_drewN | apply below_drew1 | refine below_set ?_ GE282.out | refine below_set ?_ GE295.out) | exact HB.out)⟩
                      · rw [if_neg c27] at H
                        have c27b0 : (t297 == x20_1) = false := beq_eq_false_iff_ne.mpr c27
                        have c27b1 : (t297 != x20_1) = true := bne_iff_ne.mpr c27
                        obtain rfl := Option.some.inj H
                        go_wp2_with (first | ((with_reducible refine gate_callee (f := 12) rfl ?_); refine goesL_ (some 82) rfl rfl Try.func12 (by kernel_rfl) rfl #[.slice (some ad289) l0.length c0] rfl (by (try simp only [List.map_toArray, List.map_cons, List.map_nil]); first | done | rfl | (simp only [List.length_drop, List.length_take]; rfl)) ?_; (with_reducible refine (stuff_Take.calls kj10 _ _ l0 t296 t297 _ ?side1 ?side2 A26.out).mono ?_); (case side1 => repeat (first | exact (Kd.C_below HR0.out HB.out) | (with_reducible refine Kd.C_alloc ?_ _) | (with_reducible refine Kd.C_drewN ?_ _) | (with_reducible refine Kd.C_drew ?_))); (case side2 => exact HC0.out); rintro e w38 ⟨v298, rfl, ho0, hb⟩; refine ⟨_, rfl, ?_⟩; have n0_ := Aside0.mk (Kd.R_elder' (by (with_reducible repeat (first | apply Kd.R_alloc | apply Kd.R_drewN | apply Kd.R_drew)); exact HO_4.out) (Kd.R_base ho0) hb); have n1_ := Aside0.mk (Kd.R_lower (Kd.R_new' ho0 (Kd.R_lt (by (with_reducible repeat (first | apply Kd.R_alloc | apply Kd.R_drewN | apply Kd.R_drew)); exact HO_4.out))) (below_size (by repeat (first | (with_reducible first | exact HB.out | apply below_alloc | apply pw_below_drewN | apply below_drew1 | refine below_set ?_ GE282.out | refine below_set ?_ GE295.out) | exact HB.out)))); have n2_ := Aside0.mk (blk_below (g := gb282) (o := .cells #[.bool x283000_1, .int .u8 x283001_1] 23 (0, 0)) (by (with_reducible repeat (first | refine blk_drewN ?_ _ | refine blk_drew ?_ | refine blk_alloc ?_ _)); exact BK282.out) hb); have n3_ := Aside0.mk (blk_below (g := gb295) (o := .cells #[.bool t292, .int .u8 t293] 23 (0, 0)) (by (with_reducible repeat (first | refine blk_drewN ?_ _ | refine blk_drew ?_ | refine blk_alloc ?_ _)); exact BK295.out) hb); have n4_ := Aside0.mk (below_step (by repeat (first | (with_reducible first | exact HB.out | apply below_alloc | apply pw_below_drewN | apply below_drew1 | refine below_set ?_ GE282.out | refine below_set ?_ GE295.out) | exact HB.out)) hb); clear HO_4; clear BK282; clear BK295; clear HB; have HO_4 := n0_; have HO299 := n1_; have BK282 := n2_; have BK295 := n3_; have HB := n4_; clear n0_ n1_ n2_ n3_ n4_; (try clear hb); (try clear hb2); (try clear hk); (try clear hi); (try clear ho0)))
                        go_ret
                        exact ⟨by first | rfl | (simp [errW_none, errW_some] <;> rfl) | (simp [*, errW_none, errW_some] <;> rfl), by repeat (first | (with_reducible first | exact HB.out | apply below_alloc | apply pw_below_drewN | apply below_drew1 | refine below_set ?_ GE282.out | refine below_set ?_ GE295.out) | exact HB.out)⟩
                    · rw [if_neg c25] at H
                      have c25b0 : (t294 == 2) = false := beq_eq_false_iff_ne.mpr c25
                      have c25b1 : (t294 != 2) = true := bne_iff_ne.mpr c25
                      by_cases c39 : t294 = 0
                      · rw [if_pos c39] at H
                        have c39b0 : (t294 == 0) = true := beq_iff_eq.mpr c39
                        have c39b1 : (t294 != 0) = false := bne_eq_false_iff_eq.mpr c39
                        clear c39
                        by_cases c40 : x4_1.length < 140737488355328
                        · rw [if_pos c40] at H
                          have LMc40 := Aside0.mk c40
                          clear c40
                          obtain ⟨y302, hy302⟩ : ∃ y_ : List Bool, y_ = (x4_1 ++ [(rdOf false l0 x20_1)]) := ⟨_, rfl⟩
                          replace H : (if (t292 != (rdOf false l0 x20_1)) = true then (some false) else (if t293 < 1 then (some false) else (if t293 > 5 then (some false) else (jackstaylaw02_StuffRows.l0 kj10 l0 y302 x5_1 l0 (l0.length : Int) (wrap64 (x20_1 + 1)) t292 t293)))) = some r := by first | (rw [hy302]; with_reducible exact H) | (have H2_ := (Option.bind_some _ _).symm.trans H; rw [hy302]; with_reducible exact H2_) | (have H2_ := (Option.bind_some _ _).symm.trans H; with_reducible exact H2_) | with_reducible exact H | (rw [hy302]; exact H) | exact H
                          have Ny302 := Aside0.mk hy302
                          clear hy302
                          by_cases c41 : (t292 != (rdOf false l0 x20_1)) = true
                          · rw [if_pos c41] at H
                            have c41b0 : (t292 != (rdOf false l0 x20_1)) = true := c41
                            (try (have c41b1 : decide (t292 = (rdOf false l0 x20_1)) = false := by simpa using c41))
                            (try (have c41b2 : (t292 == (rdOf false l0 x20_1)) = false := by simpa using c41))
                            (try (have c41b3 : ¬ (t292 = (rdOf false l0 x20_1)) := by simpa using c41))
                            clear c41
                            obtain rfl := Option.some.inj H
                            go_wp2_with (first | ((with_reducible refine gate_builtin (b := .append) (xs := #[.tmp 60, .tmp 62]) rfl ?_); at_builtin; refine Kd.R_append Kd.bool (w0 := w) w.heap.size rfl (.tmp 60) (.tmp 62) 24 4 (.bool false) 1 rfl Try.underlying24 info4 rfl (by decide) (by omega) u4 x4_1 (rdOf false l0 x20_1) [.bool (rdOf false l0 x20_1)] (fun _ => True) (fun _ => False) rfl rfl ?aP (fun _ hk => hk.elim) ?aF ?aO ?aB ?aS ?aL ?_; (case aP => exact rfl); (case aB => exact (by repeat (first | (with_reducible first | exact HB.out | apply below_alloc | apply pw_below_drewN | apply below_drew1 | refine below_set ?_ GE282.out | refine below_set ?_ GE295.out) | exact HB.out))); (case aF => exact (fun _ _ => trivial)); (case aO => exact (by (with_reducible repeat (first | apply Kd.R_alloc | apply Kd.R_drewN | apply Kd.R_drew)); exact HO_4.out)); (case aS => exact (below_size (by repeat (first | (with_reducible first | exact HB.out | apply below_alloc | apply pw_below_drewN | apply below_drew1 | refine below_set ?_ GE282.out | refine below_set ?_ GE295.out) | exact HB.out)))); (case aL => have := LMc40.out; omega); intro v303 w42 ho hb hg hat; rw [← Ny302.out] at ho; have n0_ := Aside0.mk (blk_grown (g := gb282) (o := .cells #[.bool x283000_1, .int .u8 x283001_1] 23 (0, 0)) (by (with_reducible repeat (first | refine blk_drewN ?_ _ | refine blk_drew ?_ | refine blk_alloc ?_ _)); exact BK282.out) hg (Kd.R_ne HO_4.out BK282.out (by decide))); have n1_ := Aside0.mk (blk_grown (g := gb295) (o := .cells #[.bool t292, .int .u8 t293] 23 (0, 0)) (by (with_reducible repeat (first | refine blk_drewN ?_ _ | refine blk_drew ?_ | refine blk_alloc ?_ _)); exact BK295.out) hg (Kd.R_ne HO_4.out BK295.out (by decide))); have n2_ := Aside0.mk (hb); have n3_ := Aside0.mk (ho); clear BK282; clear BK295; clear HB; clear HO_4; have BK282 := n0_; have BK295 := n1_; have HB := n2_; have HO304 := n3_; clear n0_ n1_ n2_ n3_; clear ho hb hg hat; have hnb43 := NB295_282.out; have hnc43 := NB282_295.out; have hcz44_0 : w42.cell? ⟨gb295, 0, none⟩ = some (.bool t292) := (blk_cell BK295.out 0).trans rfl; have hcz44_1 : w42.cell? ⟨gb295, 1, none⟩ = some (.int .u8 t293) := (blk_cell BK295.out 1).trans rfl; have hfz44_0 := blk_frozen BK295.out 0; have hfz44_1 := blk_frozen BK295.out 1; have hcz45_0 : w42.cell? ⟨gb282, 0, none⟩ = some (.bool x283000_1) := (blk_cell BK282.out 0).trans rfl; have hcz45_1 : w42.cell? ⟨gb282, 1, none⟩ = some (.int .u8 x283001_1) := (blk_cell BK282.out 1).trans rfl; have hfz45_0 := blk_frozen BK282.out 0; have hfz45_1 := blk_frozen BK282.out 1))
                            go_ret
                            exact ⟨by first | rfl | (simp [errW_none, errW_some] <;> rfl) | (simp [*, errW_none, errW_some] <;> rfl), by repeat (first | (with_reducible first | exact HB.out | apply below_alloc | apply pw_below_drewN | apply below_drew1 | refine below_set ?_ GE282.out | refine below_set ?_ GE295.out) | exact HB.out)⟩
                          · rw [if_neg c41] at H
                            have c41b0 : (t292 != (rdOf false l0 x20_1)) = false := by simpa using c41
                            (try (have c41b1 : decide (t292 = (rdOf false l0 x20_1)) = true := by simpa using c41))
                            (try (have c41b2 : (t292 == (rdOf false l0 x20_1)) = true := by simpa using c41))
                            clear c41
                            by_cases c46 : t293 < 1
                            · rw [if_pos c46] at H
                              have c46b0 : decide (t293 < 1) = true := decide_eq_true c46
                              clear c46
                              obtain rfl := Option.some.inj H
                              go_wp2_with (first | ((with_reducible refine gate_builtin (b := .append) (xs := #[.tmp 60, .tmp 62]) rfl ?_); at_builtin; refine Kd.R_append Kd.bool (w0 := w) w.heap.size rfl (.tmp 60) (.tmp 62) 24 4 (.bool false) 1 rfl Try.underlying24 info4 rfl (by decide) (by omega) u4 x4_1 (rdOf false l0 x20_1) [.bool (rdOf false l0 x20_1)] (fun _ => True) (fun _ => False) rfl rfl ?aP (fun _ hk => hk.elim) ?aF ?aO ?aB ?aS ?aL ?_; (case aP => exact rfl); (case aB => exact (by repeat (first | (with_reducible first | exact HB.out | apply below_alloc | apply pw_below_drewN | apply below_drew1 | refine below_set ?_ GE282.out | refine below_set ?_ GE295.out) | exact HB.out))); (case aF => exact (fun _ _ => trivial)); (case aO => exact (by (with_reducible repeat (first | apply Kd.R_alloc | apply Kd.R_drewN | apply Kd.R_drew)); exact HO_4.out)); (case aS => exact (below_size (by repeat (first | (with_reducible first | exact HB.out | apply below_alloc | apply pw_below_drewN | apply below_drew1 | refine below_set ?_ GE282.out | refine below_set ?_ GE295.out) | exact HB.out)))); (case aL => have := LMc40.out; omega); intro v303 w47 ho hb hg hat; rw [← Ny302.out] at ho; have n0_ := Aside0.mk (blk_grown (g := gb282) (o := .cells #[.bool x283000_1, .int .u8 x283001_1] 23 (0, 0)) (by (with_reducible repeat (first | refine blk_drewN ?_ _ | refine blk_drew ?_ | refine blk_alloc ?_ _)); exact BK282.out) hg (Kd.R_ne HO_4.out BK282.out (by decide))); have n1_ := Aside0.mk (blk_grown (g := gb295) (o := .cells #[.bool t292, .int .u8 t293] 23 (0, 0)) (by (with_reducible repeat (first | refine blk_drewN ?_ _ | refine blk_drew ?_ | refine blk_alloc ?_ _)); exact BK295.out) hg (Kd.R_ne HO_4.out BK295.out (by decide))); have n2_ := Aside0.mk (hb); have n3_ := Aside0.mk (ho); clear BK282; clear BK295; clear HB; clear HO_4; have BK282 := n0_; have BK295 := n1_; have HB := n2_; have HO304 := n3_; clear n0_ n1_ n2_ n3_; clear ho hb hg hat; have hnb48 := NB295_282.out; have hnc48 := NB282_295.out; have hcz49_0 : w47.cell? ⟨gb295, 0, none⟩ = some (.bool t292) := (blk_cell BK295.out 0).trans rfl; have hcz49_1 : w47.cell? ⟨gb295, 1, none⟩ = some (.int .u8 t293) := (blk_cell BK295.out 1).trans rfl; have hfz49_0 := blk_frozen BK295.out 0; have hfz49_1 := blk_frozen BK295.out 1; have hcz50_0 : w47.cell? ⟨gb282, 0, none⟩ = some (.bool x283000_1) := (blk_cell BK282.out 0).trans rfl; have hcz50_1 : w47.cell? ⟨gb282, 1, none⟩ = some (.int .u8 x283001_1) := (blk_cell BK282.out 1).trans rfl; have hfz50_0 := blk_frozen BK282.out 0; have hfz50_1 := blk_frozen BK282.out 1))
                              go_ret
                              exact ⟨by first | rfl | (simp [errW_none, errW_some] <;> rfl) | (simp [*, errW_none, errW_some] <;> rfl), by repeat (first | (with_reducible first | exact HB.out | apply below_alloc | apply pw_below_drewN | apply below_drew1 | refine below_set ?_ GE282.out | refine below_set ?_ GE295.out) | exact HB.out)⟩
                            · rw [if_neg c46] at H
                              have c46b0 : decide (t293 < 1) = false := decide_eq_false c46
                              clear c46
                              by_cases c51 : t293 > 5
                              · rw [if_pos c51] at H
                                have c51b0 : decide (5 < t293) = true := decide_eq_true c51
                                clear c51
                                obtain rfl := Option.some.inj H
                                go_wp2_with (first | ((with_reducible refine gate_builtin (b := .append) (xs := #[.tmp 60, .tmp 62]) rfl ?_); at_builtin; refine Kd.R_append Kd.bool (w0 := w) w.heap.size rfl (.tmp 60) (.tmp 62) 24 4 (.bool false) 1 rfl Try.underlying24 info4 rfl (by decide) (by omega) u4 x4_1 (rdOf false l0 x20_1) [.bool (rdOf false l0 x20_1)] (fun _ => True) (fun _ => False) rfl rfl ?aP (fun _ hk => hk.elim) ?aF ?aO ?aB ?aS ?aL ?_; (case aP => exact rfl); (case aB => exact (by repeat (first | (with_reducible first | exact HB.out | apply below_alloc | apply pw_below_drewN | apply below_drew1 | refine below_set ?_ GE282.out | refine below_set ?_ GE295.out) | exact HB.out))); (case aF => exact (fun _ _ => trivial)); (case aO => exact (by (with_reducible repeat (first | apply Kd.R_alloc | apply Kd.R_drewN | apply Kd.R_drew)); exact HO_4.out)); (case aS => exact (below_size (by repeat (first | (with_reducible first | exact HB.out | apply below_alloc | apply pw_below_drewN | apply below_drew1 | refine below_set ?_ GE282.out | refine below_set ?_ GE295.out) | exact HB.out)))); (case aL => have := LMc40.out; omega); intro v303 w52 ho hb hg hat; rw [← Ny302.out] at ho; have n0_ := Aside0.mk (blk_grown (g := gb282) (o := .cells #[.bool x283000_1, .int .u8 x283001_1] 23 (0, 0)) (by (with_reducible repeat (first | refine blk_drewN ?_ _ | refine blk_drew ?_ | refine blk_alloc ?_ _)); exact BK282.out) hg (Kd.R_ne HO_4.out BK282.out (by decide))); have n1_ := Aside0.mk (blk_grown (g := gb295) (o := .cells #[.bool t292, .int .u8 t293] 23 (0, 0)) (by (with_reducible repeat (first | refine blk_drewN ?_ _ | refine blk_drew ?_ | refine blk_alloc ?_ _)); exact BK295.out) hg (Kd.R_ne HO_4.out BK295.out (by decide))); have n2_ := Aside0.mk (hb); have n3_ := Aside0.mk (ho); clear BK282; clear BK295; clear HB; clear HO_4; have BK282 := n0_; have BK295 := n1_; have HB := n2_; have HO304 := n3_; clear n0_ n1_ n2_ n3_; clear ho hb hg hat; have hnb53 := NB295_282.out; have hnc53 := NB282_295.out; have hcz54_0 : w52.cell? ⟨gb295, 0, none⟩ = some (.bool t292) := (blk_cell BK295.out 0).trans rfl; have hcz54_1 : w52.cell? ⟨gb295, 1, none⟩ = some (.int .u8 t293) := (blk_cell BK295.out 1).trans rfl; have hfz54_0 := blk_frozen BK295.out 0; have hfz54_1 := blk_frozen BK295.out 1; have hcz55_0 : w52.cell? ⟨gb282, 0, none⟩ = some (.bool x283000_1) := (blk_cell BK282.out 0).trans rfl; have hcz55_1 : w52.cell? ⟨gb282, 1, none⟩ = some (.int .u8 x283001_1) := (blk_cell BK282.out 1).trans rfl; have hfz55_0 := blk_frozen BK282.out 0; have hfz55_1 := blk_frozen BK282.out 1))
                                go_ret
                                exact ⟨by first | rfl | (simp [errW_none, errW_some] <;> rfl) | (simp [*, errW_none, errW_some] <;> rfl), by repeat (first | (with_reducible first | exact HB.out | apply below_alloc | apply pw_below_drewN | apply below_drew1 | refine below_set ?_ GE282.out | refine below_set ?_ GE295.out) | exact HB.out)⟩
                              · rw [if_neg c51] at H
                                have c51b0 : decide (5 < t293) = false := decide_eq_false c51
                                clear c51
                                have H' := Aside0.mk H
                                clear H
                                go_wp2_with (first | ((with_reducible refine gate_builtin (b := .append) (xs := #[.tmp 60, .tmp 62]) rfl ?_); at_builtin; refine Kd.R_append Kd.bool (w0 := w) w.heap.size rfl (.tmp 60) (.tmp 62) 24 4 (.bool false) 1 rfl Try.underlying24 info4 rfl (by decide) (by omega) u4 x4_1 (rdOf false l0 x20_1) [.bool (rdOf false l0 x20_1)] (fun _ => True) (fun _ => False) rfl rfl ?aP (fun _ hk => hk.elim) ?aF ?aO ?aB ?aS ?aL ?_; (case aP => exact rfl); (case aB => exact (by repeat (first | (with_reducible first | exact HB.out | apply below_alloc | apply pw_below_drewN | apply below_drew1 | refine below_set ?_ GE282.out | refine below_set ?_ GE295.out) | exact HB.out))); (case aF => exact (fun _ _ => trivial)); (case aO => exact (by (with_reducible repeat (first | apply Kd.R_alloc | apply Kd.R_drewN | apply Kd.R_drew)); exact HO_4.out)); (case aS => exact (below_size (by repeat (first | (with_reducible first | exact HB.out | apply below_alloc | apply pw_below_drewN | apply below_drew1 | refine below_set ?_ GE282.out | refine below_set ?_ GE295.out) | exact HB.out)))); (case aL => have := LMc40.out; omega); intro v303 w56 ho hb hg hat; rw [← Ny302.out] at ho; have n0_ := Aside0.mk (blk_grown (g := gb282) (o := .cells #[.bool x283000_1, .int .u8 x283001_1] 23 (0, 0)) (by (with_reducible repeat (first | refine blk_drewN ?_ _ | refine blk_drew ?_ | refine blk_alloc ?_ _)); exact BK282.out) hg (Kd.R_ne HO_4.out BK282.out (by decide))); have n1_ := Aside0.mk (blk_grown (g := gb295) (o := .cells #[.bool t292, .int .u8 t293] 23 (0, 0)) (by (with_reducible repeat (first | refine blk_drewN ?_ _ | refine blk_drew ?_ | refine blk_alloc ?_ _)); exact BK295.out) hg (Kd.R_ne HO_4.out BK295.out (by decide))); have n2_ := Aside0.mk (hb); have n3_ := Aside0.mk (ho); clear BK282; clear BK295; clear HB; clear HO_4; have BK282 := n0_; have BK295 := n1_; have HB := n2_; have HO304 := n3_; clear n0_ n1_ n2_ n3_; clear ho hb hg hat; have hnb57 := NB295_282.out; have hnc57 := NB282_295.out; have hcz58_0 : w56.cell? ⟨gb295, 0, none⟩ = some (.bool t292) := (blk_cell BK295.out 0).trans rfl; have hcz58_1 : w56.cell? ⟨gb295, 1, none⟩ = some (.int .u8 t293) := (blk_cell BK295.out 1).trans rfl; have hfz58_0 := blk_frozen BK295.out 0; have hfz58_1 := blk_frozen BK295.out 1; have hcz59_0 : w56.cell? ⟨gb282, 0, none⟩ = some (.bool x283000_1) := (blk_cell BK282.out 0).trans rfl; have hcz59_1 : w56.cell? ⟨gb282, 1, none⟩ = some (.int .u8 x283001_1) := (blk_cell BK282.out 1).trans rfl; have hfz59_0 := blk_frozen BK282.out 0; have hfz59_1 := blk_frozen BK282.out 1))
                                go_roundg kj10
                                case measure => have := HK1.out; have := HJ10.out; omega
                                case rel => exact ⟨(y302), (x5_1), (wrap64 (x20_1 + 1)), (t292), (t293), (by first | rfl | (simp; done) | (simp [*]; done)), (by first | rfl | (simp; done) | (simp [*]; done)), H', ⟨by have := HK1.out; have := HJ10.out; omega⟩, ⟨by (with_reducible repeat (first | apply Kd.R_alloc | apply Kd.R_drewN | apply Kd.R_drew)); exact Kd.R_mono (Kd.R_far (p := ⟨gb282, 1, none⟩) (Kd.R_far (p := ⟨gb282, 0, none⟩) (Kd.R_types HO304.out BK282.out (by decide)) (fun _ hk => hk.2) (.bool t292)) (fun _ hk => hk.2) (.int .u8 t293)) (fun _ hk => trivial)⟩, ⟨by (with_reducible repeat (first | refine blk_drewN ?_ _ | refine blk_drew ?_ | refine blk_alloc ?_ _)); refine blk_put (cs := #[.bool t292, .int .u8 x283001_1]) ?_ 1 _ rfl; (with_reducible repeat (first | refine blk_drewN ?_ _ | refine blk_drew ?_ | refine blk_alloc ?_ _)); refine blk_put (cs := #[.bool x283000_1, .int .u8 x283001_1]) ?_ 0 _ rfl; (with_reducible repeat (first | refine blk_drewN ?_ _ | refine blk_drew ?_ | refine blk_alloc ?_ _)); exact BK282.out⟩, ⟨by repeat (first | (with_reducible first | exact HB.out | apply below_alloc | apply pw_below_drewN | apply below_drew1 | refine below_set ?_ GE282.out | refine below_set ?_ GE295.out) | exact HB.out)⟩⟩
                        · rw [if_neg c40] at H
                          exact absurd H (by simp)
                      · rw [if_neg c39] at H
                        have c39b0 : (t294 == 0) = false := beq_eq_false_iff_ne.mpr c39
                        have c39b1 : (t294 != 0) = true := bne_iff_ne.mpr c39
                        by_cases c60 : (t292 != (rdOf false l0 x20_1)) = true
                        · rw [if_pos c60] at H
                          have c60b0 : (t292 != (rdOf false l0 x20_1)) = true := c60
                          (try (have c60b1 : decide (t292 = (rdOf false l0 x20_1)) = false := by simpa using c60))
                          (try (have c60b2 : (t292 == (rdOf false l0 x20_1)) = false := by simpa using c60))
                          (try (have c60b3 : ¬ (t292 = (rdOf false l0 x20_1)) := by simpa using c60))
                          clear c60
                          obtain rfl := Option.some.inj H
                          have hnb61 := NB295_282.out
                          have hnc61 := NB282_295.out
                          have hcz62_0 : wc.cell? ⟨gb295, 0, none⟩ = some (.bool t292) := (blk_cell BK295.out 0).trans rfl
                          have hcz62_1 : wc.cell? ⟨gb295, 1, none⟩ = some (.int .u8 t293) := (blk_cell BK295.out 1).trans rfl
                          have hfz62_0 := blk_frozen BK295.out 0
                          have hfz62_1 := blk_frozen BK295.out 1
                          have hcz63_0 : wc.cell? ⟨gb282, 0, none⟩ = some (.bool x283000_1) := (blk_cell BK282.out 0).trans rfl
                          have hcz63_1 : wc.cell? ⟨gb282, 1, none⟩ = some (.int .u8 x283001_1) := (blk_cell BK282.out 1).trans rfl
                          have hfz63_0 := blk_frozen BK282.out 0
                          have hfz63_1 := blk_frozen BK282.out 1
                          go_wp2
                          go_ret
                          exact ⟨by first | rfl | (simp [errW_none, errW_some] <;> rfl) | (simp [*, errW_none, errW_some] <;> rfl), by repeat (first | (with_reducible first | exact HB.out | apply below_alloc | apply pw_below_drewN | apply below_drew1 | refine below_set ?_ GE282.out | refine below_set ?_ GE295.out) | exact HB.out)⟩
                        · rw [if_neg c60] at H
                          have c60b0 : (t292 != (rdOf false l0 x20_1)) = false := by simpa using c60
                          (try (have c60b1 : decide (t292 = (rdOf false l0 x20_1)) = true := by simpa using c60))
                          (try (have c60b2 : (t292 == (rdOf false l0 x20_1)) = true := by simpa using c60))
                          clear c60
                          by_cases c64 : t293 < 1
                          · rw [if_pos c64] at H
                            have c64b0 : decide (t293 < 1) = true := decide_eq_true c64
                            clear c64
                            obtain rfl := Option.some.inj H
                            have hnb65 := NB295_282.out
                            have hnc65 := NB282_295.out
                            have hcz66_0 : wc.cell? ⟨gb295, 0, none⟩ = some (.bool t292) := (blk_cell BK295.out 0).trans rfl
                            have hcz66_1 : wc.cell? ⟨gb295, 1, none⟩ = some (.int .u8 t293) := (blk_cell BK295.out 1).trans rfl
                            have hfz66_0 := blk_frozen BK295.out 0
                            have hfz66_1 := blk_frozen BK295.out 1
                            have hcz67_0 : wc.cell? ⟨gb282, 0, none⟩ = some (.bool x283000_1) := (blk_cell BK282.out 0).trans rfl
                            have hcz67_1 : wc.cell? ⟨gb282, 1, none⟩ = some (.int .u8 x283001_1) := (blk_cell BK282.out 1).trans rfl
                            have hfz67_0 := blk_frozen BK282.out 0
                            have hfz67_1 := blk_frozen BK282.out 1
                            go_wp2
                            go_ret
                            exact ⟨by first | rfl | (simp [errW_none, errW_some] <;> rfl) | (simp [*, errW_none, errW_some] <;> rfl), by repeat (first | (with_reducible first | exact HB.out | apply below_alloc | apply pw_below_drewN | apply below_drew1 | refine below_set ?_ GE282.out | refine below_set ?_ GE295.out) | exact HB.out)⟩
                          · rw [if_neg c64] at H
                            have c64b0 : decide (t293 < 1) = false := decide_eq_false c64
                            clear c64
                            by_cases c68 : t293 > 5
                            · rw [if_pos c68] at H
                              have c68b0 : decide (5 < t293) = true := decide_eq_true c68
                              clear c68
                              obtain rfl := Option.some.inj H
                              have hnb69 := NB295_282.out
                              have hnc69 := NB282_295.out
                              have hcz70_0 : wc.cell? ⟨gb295, 0, none⟩ = some (.bool t292) := (blk_cell BK295.out 0).trans rfl
                              have hcz70_1 : wc.cell? ⟨gb295, 1, none⟩ = some (.int .u8 t293) := (blk_cell BK295.out 1).trans rfl
                              have hfz70_0 := blk_frozen BK295.out 0
                              have hfz70_1 := blk_frozen BK295.out 1
                              have hcz71_0 : wc.cell? ⟨gb282, 0, none⟩ = some (.bool x283000_1) := (blk_cell BK282.out 0).trans rfl
                              have hcz71_1 : wc.cell? ⟨gb282, 1, none⟩ = some (.int .u8 x283001_1) := (blk_cell BK282.out 1).trans rfl
                              have hfz71_0 := blk_frozen BK282.out 0
                              have hfz71_1 := blk_frozen BK282.out 1
                              go_wp2
                              go_ret
                              exact ⟨by first | rfl | (simp [errW_none, errW_some] <;> rfl) | (simp [*, errW_none, errW_some] <;> rfl), by repeat (first | (with_reducible first | exact HB.out | apply below_alloc | apply pw_below_drewN | apply below_drew1 | refine below_set ?_ GE282.out | refine below_set ?_ GE295.out) | exact HB.out)⟩
                            · rw [if_neg c68] at H
                              have c68b0 : decide (5 < t293) = false := decide_eq_false c68
                              clear c68
                              have H' := Aside0.mk H
                              clear H
                              have hnb72 := NB295_282.out
                              have hnc72 := NB282_295.out
                              have hcz73_0 : wc.cell? ⟨gb295, 0, none⟩ = some (.bool t292) := (blk_cell BK295.out 0).trans rfl
                              have hcz73_1 : wc.cell? ⟨gb295, 1, none⟩ = some (.int .u8 t293) := (blk_cell BK295.out 1).trans rfl
                              have hfz73_0 := blk_frozen BK295.out 0
                              have hfz73_1 := blk_frozen BK295.out 1
                              have hcz74_0 : wc.cell? ⟨gb282, 0, none⟩ = some (.bool x283000_1) := (blk_cell BK282.out 0).trans rfl
                              have hcz74_1 : wc.cell? ⟨gb282, 1, none⟩ = some (.int .u8 x283001_1) := (blk_cell BK282.out 1).trans rfl
                              have hfz74_0 := blk_frozen BK282.out 0
                              have hfz74_1 := blk_frozen BK282.out 1
                              go_wp2
                              go_roundg kj10
                              case measure => have := HK1.out; have := HJ10.out; omega
                              case rel => exact ⟨(x4_1), (x5_1), (wrap64 (x20_1 + 1)), (t292), (t293), (by first | rfl | (simp; done) | (simp [*]; done)), (by first | rfl | (simp; done) | (simp [*]; done)), H', ⟨by have := HK1.out; have := HJ10.out; omega⟩, ⟨by (with_reducible repeat (first | apply Kd.R_alloc | apply Kd.R_drewN | apply Kd.R_drew)); exact Kd.R_mono (Kd.R_far (p := ⟨gb282, 1, none⟩) (Kd.R_far (p := ⟨gb282, 0, none⟩) (Kd.R_types HO_4.out BK282.out (by decide)) (fun _ hk => hk.2) (.bool t292)) (fun _ hk => hk.2) (.int .u8 t293)) (fun _ hk => trivial)⟩, ⟨by (with_reducible repeat (first | refine blk_drewN ?_ _ | refine blk_drew ?_ | refine blk_alloc ?_ _)); refine blk_put (cs := #[.bool t292, .int .u8 x283001_1]) ?_ 1 _ rfl; (with_reducible repeat (first | refine blk_drewN ?_ _ | refine blk_drew ?_ | refine blk_alloc ?_ _)); refine blk_put (cs := #[.bool x283000_1, .int .u8 x283001_1]) ?_ 0 _ rfl; (with_reducible repeat (first | refine blk_drewN ?_ _ | refine blk_drew ?_ | refine blk_alloc ?_ _)); exact BK282.out⟩, ⟨by repeat (first | (with_reducible first | exact HB.out | apply below_alloc | apply pw_below_drewN | apply below_drew1 | refine below_set ?_ GE282.out | refine below_set ?_ GE295.out) | exact HB.out)⟩⟩
            · rw [if_neg c8] at H
              exact absurd H (by simp)
          · rw [if_neg c7] at H
            exact absurd H (by simp)
        · rw [if_neg c6] at H
          have c6b0 : decide (x20_1 < (l0.length : Int)) = false := decide_eq_false c6
          clear c6
          replace H := Option.bind_eq_some_iff.mp H
          obtain ⟨⟨t283, t284⟩, A750, H⟩ := H
          replace H : (if t284 = x5_1 then ((jackstaylow_Same.f k1 t283 x4_1).bind fun t287 => (if t287 = true then ((jackstaylaw02_awake.f k1).bind fun t288 => (some t288)) else (some false))) else (some false)) = some r := H
          have A75 := Aside0.mk A750
          clear A750
          by_cases c76 : t284 = x5_1
          · rw [if_pos c76] at H
            have c76b0 : (t284 == x5_1) = true := beq_iff_eq.mpr c76
            have c76b1 : (t284 != x5_1) = false := bne_eq_false_iff_eq.mpr c76
            clear c76
            replace H := Option.bind_eq_some_iff.mp H
            obtain ⟨t287, A770, H⟩ := H
            replace H : (if t287 = true then ((jackstaylaw02_awake.f k1).bind fun t288 => (some t288)) else (some false)) = some r := H
            have A77 := Aside0.mk A770
            clear A770
            by_cases c78 : t287 = true
            · subst c78
              have H1 : ((jackstaylaw02_awake.f k1).bind fun t288 => (some t288)) = some r := by rw [if_pos rfl] at H; exact H
              clear H
              have H := H1
              clear H1
              replace H := Option.bind_eq_some_iff.mp H
              obtain ⟨t288, A790, H⟩ := H
              replace H : (some t288) = some r := H
              have A79 := Aside0.mk A790
              clear A790
              obtain rfl := Option.some.inj H
              go_wp2_with (first | ((with_reducible refine gate_callee (f := 12) rfl ?_); refine goesL_ (some 82) rfl rfl Try.func12 (by kernel_rfl) rfl #[.slice A0 l0.length c0] rfl (by (try simp only [List.map_toArray, List.map_cons, List.map_nil]); first | done | rfl | (simp only [List.length_drop, List.length_take]; rfl)) ?_; (with_reducible refine (stuff_Take.calls k1 _ _ l0 t283 t284 _ ?side1 ?side2 A75.out).mono ?_); (case side1 => repeat (first | exact (Kd.C_below HR0.out HB.out) | (with_reducible refine Kd.C_alloc ?_ _) | (with_reducible refine Kd.C_drewN ?_ _) | (with_reducible refine Kd.C_drew ?_))); (case side2 => exact HC0.out); rintro e w80 ⟨v285, rfl, ho0, hb⟩; refine ⟨_, rfl, ?_⟩; have n0_ := Aside0.mk (Kd.R_elder' (by (with_reducible repeat (first | apply Kd.R_alloc | apply Kd.R_drewN | apply Kd.R_drew)); exact HO_4.out) (Kd.R_base ho0) hb); have n1_ := Aside0.mk (Kd.R_lower (Kd.R_new' ho0 (Kd.R_lt (by (with_reducible repeat (first | apply Kd.R_alloc | apply Kd.R_drewN | apply Kd.R_drew)); exact HO_4.out))) (below_size (by repeat (first | (with_reducible first | exact HB.out | apply below_alloc | apply pw_below_drewN | apply below_drew1 | refine below_set ?_ GE282.out) | exact HB.out)))); have n2_ := Aside0.mk (blk_below (g := gb282) (o := .cells #[.bool x283000_1, .int .u8 x283001_1] 23 (0, 0)) (by (with_reducible repeat (first | refine blk_drewN ?_ _ | refine blk_drew ?_ | refine blk_alloc ?_ _)); exact BK282.out) hb); have n3_ := Aside0.mk (below_step (by repeat (first | (with_reducible first | exact HB.out | apply below_alloc | apply pw_below_drewN | apply below_drew1 | refine below_set ?_ GE282.out) | exact HB.out)) hb); clear HO_4; clear BK282; clear HB; have HO_4 := n0_; have HO286 := n1_; have BK282 := n2_; have HB := n3_; clear n0_ n1_ n2_ n3_; (try clear hb); (try clear hb2); (try clear hk); (try clear hi); (try clear ho0); obtain ⟨Ao81, co81, eo81⟩ := Kd.R_slice HO286.out; subst eo81; obtain ⟨Ao82, co82, eo82⟩ := Kd.R_slice HO_4.out; subst eo82) | (go_at_call 14; (with_reducible refine (jackstaylow_Same.calls k1 _ _ t283 _ _ x4_1 true _ ?side1 ?side2 ?side3 ?side4 A77.out).mono ?_); (case side1 => repeat (first | exact (Kd.R_reads' HO286.out).2.2 | (with_reducible refine Kd.C_alloc ?_ _) | (with_reducible refine Kd.C_drewN ?_ _) | (with_reducible refine Kd.C_drew ?_))); (case side2 => exact (Kd.R_reads' HO286.out).2.1); (case side3 => repeat (first | exact (Kd.R_reads' HO_4.out).2.2 | (with_reducible refine Kd.C_alloc ?_ _) | (with_reducible refine Kd.C_drewN ?_ _) | (with_reducible refine Kd.C_drew ?_))); (case side4 => exact (Kd.R_reads' HO_4.out).2.1); rintro e w' ⟨rfl, ⟨nd, rfl⟩⟩) | (go_at_call 7; (with_reducible refine (jackstaylaw02_awake.calls k1  t288 _ A79.out).mono ?_); rintro e w83 ⟨rfl, hb⟩; have n0_ := Aside0.mk (Kd.R_below (by (with_reducible repeat (first | apply Kd.R_alloc | apply Kd.R_drewN | apply Kd.R_drew)); exact HO_4.out) hb); have n1_ := Aside0.mk (Kd.R_below (by (with_reducible repeat (first | apply Kd.R_alloc | apply Kd.R_drewN | apply Kd.R_drew)); exact HO286.out) hb); have n2_ := Aside0.mk (blk_below (g := gb282) (o := .cells #[.bool x283000_1, .int .u8 x283001_1] 23 (0, 0)) (by (with_reducible repeat (first | refine blk_drewN ?_ _ | refine blk_drew ?_ | refine blk_alloc ?_ _)); exact BK282.out) hb); have n3_ := Aside0.mk (below_step (by repeat (first | (with_reducible first | exact HB.out | apply below_alloc | apply pw_below_drewN | apply below_drew1 | refine below_set ?_ GE282.out) | exact HB.out)) hb); clear HO_4; clear HO286; clear BK282; clear HB; have HO_4 := n0_; have HO286 := n1_; have BK282 := n2_; have HB := n3_; clear n0_ n1_ n2_ n3_; (try clear hb); (try clear hb2); (try clear hk); (try clear hi)))
              go_ret
              exact ⟨by first | rfl | (simp [errW_none, errW_some] <;> rfl) | (simp [*, errW_none, errW_some] <;> rfl), by repeat (first | (with_reducible first | exact HB.out | apply below_alloc | apply pw_below_drewN | apply below_drew1 | refine below_set ?_ GE282.out) | exact HB.out)⟩
            · replace c78 := Bool.eq_false_iff.mpr c78
              subst c78
              have H1 : (some false) = some r := by rw [if_neg (show ¬ (false = true) by decide)] at H; exact H
              clear H
              have H := H1
              clear H1
              obtain rfl := Option.some.inj H
              go_wp2_with (first | ((with_reducible refine gate_callee (f := 12) rfl ?_); refine goesL_ (some 82) rfl rfl Try.func12 (by kernel_rfl) rfl #[.slice A0 l0.length c0] rfl (by (try simp only [List.map_toArray, List.map_cons, List.map_nil]); first | done | rfl | (simp only [List.length_drop, List.length_take]; rfl)) ?_; (with_reducible refine (stuff_Take.calls k1 _ _ l0 t283 t284 _ ?side1 ?side2 A75.out).mono ?_); (case side1 => repeat (first | exact (Kd.C_below HR0.out HB.out) | (with_reducible refine Kd.C_alloc ?_ _) | (with_reducible refine Kd.C_drewN ?_ _) | (with_reducible refine Kd.C_drew ?_))); (case side2 => exact HC0.out); rintro e w84 ⟨v285, rfl, ho0, hb⟩; refine ⟨_, rfl, ?_⟩; have n0_ := Aside0.mk (Kd.R_elder' (by (with_reducible repeat (first | apply Kd.R_alloc | apply Kd.R_drewN | apply Kd.R_drew)); exact HO_4.out) (Kd.R_base ho0) hb); have n1_ := Aside0.mk (Kd.R_lower (Kd.R_new' ho0 (Kd.R_lt (by (with_reducible repeat (first | apply Kd.R_alloc | apply Kd.R_drewN | apply Kd.R_drew)); exact HO_4.out))) (below_size (by repeat (first | (with_reducible first | exact HB.out | apply below_alloc | apply pw_below_drewN | apply below_drew1 | refine below_set ?_ GE282.out) | exact HB.out)))); have n2_ := Aside0.mk (blk_below (g := gb282) (o := .cells #[.bool x283000_1, .int .u8 x283001_1] 23 (0, 0)) (by (with_reducible repeat (first | refine blk_drewN ?_ _ | refine blk_drew ?_ | refine blk_alloc ?_ _)); exact BK282.out) hb); have n3_ := Aside0.mk (below_step (by repeat (first | (with_reducible first | exact HB.out | apply below_alloc | apply pw_below_drewN | apply below_drew1 | refine below_set ?_ GE282.out) | exact HB.out)) hb); clear HO_4; clear BK282; clear HB; have HO_4 := n0_; have HO286 := n1_; have BK282 := n2_; have HB := n3_; clear n0_ n1_ n2_ n3_; (try clear hb); (try clear hb2); (try clear hk); (try clear hi); (try clear ho0); obtain ⟨Ao85, co85, eo85⟩ := Kd.R_slice HO286.out; subst eo85; obtain ⟨Ao86, co86, eo86⟩ := Kd.R_slice HO_4.out; subst eo86) | (go_at_call 14; (with_reducible refine (jackstaylow_Same.calls k1 _ _ t283 _ _ x4_1 false _ ?side1 ?side2 ?side3 ?side4 A77.out).mono ?_); (case side1 => repeat (first | exact (Kd.R_reads' HO286.out).2.2 | (with_reducible refine Kd.C_alloc ?_ _) | (with_reducible refine Kd.C_drewN ?_ _) | (with_reducible refine Kd.C_drew ?_))); (case side2 => exact (Kd.R_reads' HO286.out).2.1); (case side3 => repeat (first | exact (Kd.R_reads' HO_4.out).2.2 | (with_reducible refine Kd.C_alloc ?_ _) | (with_reducible refine Kd.C_drewN ?_ _) | (with_reducible refine Kd.C_drew ?_))); (case side4 => exact (Kd.R_reads' HO_4.out).2.1); rintro e w' ⟨rfl, ⟨nd, rfl⟩⟩))
              go_ret
              exact ⟨by first | rfl | (simp [errW_none, errW_some] <;> rfl) | (simp [*, errW_none, errW_some] <;> rfl), by repeat (first | (with_reducible first | exact HB.out | apply below_alloc | apply pw_below_drewN | apply below_drew1 | refine below_set ?_ GE282.out) | exact HB.out)⟩
          · rw [if_neg c76] at H
            have c76b0 : (t284 == x5_1) = false := beq_eq_false_iff_ne.mpr c76
            have c76b1 : (t284 != x5_1) = true := bne_iff_ne.mpr c76
            obtain rfl := Option.some.inj H
            go_wp2_with (first | ((with_reducible refine gate_callee (f := 12) rfl ?_); refine goesL_ (some 82) rfl rfl Try.func12 (by kernel_rfl) rfl #[.slice A0 l0.length c0] rfl (by (try simp only [List.map_toArray, List.map_cons, List.map_nil]); first | done | rfl | (simp only [List.length_drop, List.length_take]; rfl)) ?_; (with_reducible refine (stuff_Take.calls k1 _ _ l0 t283 t284 _ ?side1 ?side2 A75.out).mono ?_); (case side1 => repeat (first | exact (Kd.C_below HR0.out HB.out) | (with_reducible refine Kd.C_alloc ?_ _) | (with_reducible refine Kd.C_drewN ?_ _) | (with_reducible refine Kd.C_drew ?_))); (case side2 => exact HC0.out); rintro e w87 ⟨v285, rfl, ho0, hb⟩; refine ⟨_, rfl, ?_⟩; have n0_ := Aside0.mk (Kd.R_elder' (by (with_reducible repeat (first | apply Kd.R_alloc | apply Kd.R_drewN | apply Kd.R_drew)); exact HO_4.out) (Kd.R_base ho0) hb); have n1_ := Aside0.mk (Kd.R_lower (Kd.R_new' ho0 (Kd.R_lt (by (with_reducible repeat (first | apply Kd.R_alloc | apply Kd.R_drewN | apply Kd.R_drew)); exact HO_4.out))) (below_size (by repeat (first | (with_reducible first | exact HB.out | apply below_alloc | apply pw_below_drewN | apply below_drew1 | refine below_set ?_ GE282.out) | exact HB.out)))); have n2_ := Aside0.mk (blk_below (g := gb282) (o := .cells #[.bool x283000_1, .int .u8 x283001_1] 23 (0, 0)) (by (with_reducible repeat (first | refine blk_drewN ?_ _ | refine blk_drew ?_ | refine blk_alloc ?_ _)); exact BK282.out) hb); have n3_ := Aside0.mk (below_step (by repeat (first | (with_reducible first | exact HB.out | apply below_alloc | apply pw_below_drewN | apply below_drew1 | refine below_set ?_ GE282.out) | exact HB.out)) hb); clear HO_4; clear BK282; clear HB; have HO_4 := n0_; have HO286 := n1_; have BK282 := n2_; have HB := n3_; clear n0_ n1_ n2_ n3_; (try clear hb); (try clear hb2); (try clear hk); (try clear hi); (try clear ho0)))
            go_ret
            exact ⟨by first | rfl | (simp [errW_none, errW_some] <;> rfl) | (simp [*, errW_none, errW_some] <;> rfl), by repeat (first | (with_reducible first | exact HB.out | apply below_alloc | apply pw_below_drewN | apply below_drew1 | refine below_set ?_ GE282.out) | exact HB.out)⟩

end Go.Proofs.Ytjpnkapjnnighaa.P
