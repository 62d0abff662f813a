/- What Go functions of this seat answer: their contracts, printed by a program of this session's; Lean checks each. -/
import Derived.Test.YtgpdcgbohodfoaaPx0
import Derived.Test.YtgpdcgbohodfoaaPx1
import Derived.Test.YtgpdcgbohodfoaaPx3
import Derived.Test.YtgpdcgbohodfoaaPx4
import Derived.Test.YtgpdcgbohodfoaaPx5
namespace Go.Proofs.Ytgpdcgbohodfoaa.P
open Go.RowKit Go.Proofs.YtgpdcgbohodfoaaW.PrintWords Go.Proofs.YtgpdcgbohodfoaaW.PrintLast Go.Proofs.YtgpdcgbohodfoaaW.PrintMore
attribute [local go_sem] max2_int min2_int max_two min_two max_three min_three max_four min_four   -- for this text's walks alone
set_option linter.unusedVariables false
set_option linter.unusedSimpArgs false

attribute [local go_sem high] eqA23
/-! ### jackstaylaw06_ConfBack: function 4 -/
mutual
def jackstaylaw06_ConfBack.l0 : Nat → Int → Int → List (S34) → Int → Int → Int → Int → Bool → Int → Int → Option (Bool)
  | 0, _, _, _, _, _, _, _, _, _, _ => none
  | k + 1, x4, x5, x14, x15, x16, x213000, x213001, x213002, x213003, x213004 => if x16 < x15 then (if 0 ≤ x16 then (if x16 < (x14.length : Int) then (if ((rd_T34 x14 x16).f0) = 0 then (jackstaylaw06_ConfBack.l1 k x4 x5 x14 x15 x16 (wrap64 (1 + (wrap64 ((rd_T34 x14 x16).f2)))) 0 x213000 x213001 x213002 x213003 x213004 ((rd_T34 x14 x16).f0) ((rd_T34 x14 x16).f1) ((rd_T34 x14 x16).f2)) else ((conf_Event.f k x213000 x213001 x213002 x213003 x213004 ((rd_T34 x14 x16).f0)).bind fun bt221 => (if (!(bt221.1 == x213000) || (!(bt221.2.1 == x213001) || (!(bt221.2.2.1 == x213002) || (!(bt221.2.2.2.1 == x213003) || (!(bt221.2.2.2.2.1 == x213004)))))) = true then (if x213002 = true then (some false) else (jackstaylaw06_ConfBack.l0 k x4 x5 x14 x15 (wrap64 (x16 + 1)) bt221.1 bt221.2.1 bt221.2.2.1 bt221.2.2.2.1 bt221.2.2.2.2.1)) else (jackstaylaw06_ConfBack.l0 k x4 x5 x14 x15 (wrap64 (x16 + 1)) bt221.1 bt221.2.1 bt221.2.2.1 bt221.2.2.2.1 bt221.2.2.2.2.1)))) else (none)) else (none)) else (if x213002 = true then ((jackstaylaw06_awake.f k).bind fun t217 => (some t217)) else (some false))
def jackstaylaw06_ConfBack.l1 : Nat → Int → Int → List (S34) → Int → Int → Int → Int → Int → Int → Bool → Int → Int → Int → Bool → Int → Option (Bool)
  | 0, _, _, _, _, _, _, _, _, _, _, _, _, _, _, _ => none
  | k + 1, x4, x5, x14, x15, x16, x41, x42, x213000, x213001, x213002, x213003, x213004, x220000, x220001, x220002 => if x42 < x41 then ((conf_Bit.f k x213000 x213001 x213002 x213003 x213004 x220001).bind fun bt227 => (if x220001 = true then (jackstaylaw06_ConfBack.j2 k (wrap64 (x4 + 1)) x5 x14 x15 x16 x41 x42 bt227.1 bt227.2.1 bt227.2.2.1 bt227.2.2.2.1 bt227.2.2.2.2 x220000 x220001 x220002) else (jackstaylaw06_ConfBack.j2 k 0 x5 x14 x15 x16 x41 x42 bt227.1 bt227.2.1 bt227.2.2.1 bt227.2.2.2.1 bt227.2.2.2.2 x220000 x220001 x220002))) else (jackstaylaw06_ConfBack.l0 k x4 x5 x14 x15 (wrap64 (x16 + 1)) x213000 x213001 x213002 x213003 x213004)
def jackstaylaw06_ConfBack.j2 : Nat → Int → Int → List (S34) → Int → Int → Int → Int → Int → Int → Bool → Int → Int → Int → Bool → Int → Option (Bool)
  | 0, _, _, _, _, _, _, _, _, _, _, _, _, _, _, _ => none
  | k + 1, x4, x5, x14, x15, x16, x41, x42, x213000, x213001, x213002, x213003, x213004, x220000, x220001, x220002 => if x4 = 11 then (jackstaylaw06_ConfBack.j3 k 0 (wrap64 (x5 + 1)) x14 x15 x16 x41 x42 x213000 x213001 x213002 x213003 x213004 x220000 x220001 x220002) else (jackstaylaw06_ConfBack.j3 k x4 x5 x14 x15 x16 x41 x42 x213000 x213001 x213002 x213003 x213004 x220000 x220001 x220002)
def jackstaylaw06_ConfBack.j3 : Nat → Int → Int → List (S34) → Int → Int → Int → Int → Int → Int → Bool → Int → Int → Int → Bool → Int → Option (Bool)
  | 0, _, _, _, _, _, _, _, _, _, _, _, _, _, _, _ => none
  | k + 1, x4, x5, x14, x15, x16, x41, x42, x213000, x213001, x213002, x213003, x213004, x220000, x220001, x220002 => if (x213002 != (decide (x5 < 128))) = true then (some false) else (if x213002 = true then (jackstaylaw06_ConfBack.l1 k x4 x5 x14 x15 x16 x41 (wrap64 (x42 + 1)) x213000 x213001 x213002 x213003 x213004 x220000 x220001 x220002) else (if (x213000 == 0 && (x213001 == 0 && (!x213002 && (x213003 == 0 && (x213004 == 0))))) = true then ((conf_Mode.f k x213000 x213001 x213002 x213003 x213004).bind fun t232 => (if t232 = 0 then ((jackstaylaw06_awake.f k).bind fun t233 => (some t233)) else (some false))) else (some false)))
end
def jackstaylaw06_ConfBack.f (k : Nat) (l0 : List (S34)) : Option (Bool) := if 0 ≤ (mn (l0.length : Int) 300) then (if (mn (l0.length : Int) 300) ≤ (l0.length : Int) then ((some (l0.take ((mn (l0.length : Int) 300) : Int).toNat : List (S34))).bind fun y213 => (jackstaylaw06_ConfBack.l0 k 0 0 y213 (y213.length : Int) 0 256 0 true 0 0)) else (none)) else (none)
theorem jackstaylaw06_ConfBack.mono_l : ∀ k, (∀ y0 y1 y2 y3 y4 y5 y6 y7 y8 y9, LeO (jackstaylaw06_ConfBack.l0 k y0 y1 y2 y3 y4 y5 y6 y7 y8 y9) (jackstaylaw06_ConfBack.l0 (k + 1) y0 y1 y2 y3 y4 y5 y6 y7 y8 y9)) ∧ (∀ y0 y1 y2 y3 y4 y5 y6 y7 y8 y9 y10 y11 y12 y13 y14, LeO (jackstaylaw06_ConfBack.l1 k y0 y1 y2 y3 y4 y5 y6 y7 y8 y9 y10 y11 y12 y13 y14) (jackstaylaw06_ConfBack.l1 (k + 1) y0 y1 y2 y3 y4 y5 y6 y7 y8 y9 y10 y11 y12 y13 y14)) ∧ (∀ y0 y1 y2 y3 y4 y5 y6 y7 y8 y9 y10 y11 y12 y13 y14, LeO (jackstaylaw06_ConfBack.j2 k y0 y1 y2 y3 y4 y5 y6 y7 y8 y9 y10 y11 y12 y13 y14) (jackstaylaw06_ConfBack.j2 (k + 1) y0 y1 y2 y3 y4 y5 y6 y7 y8 y9 y10 y11 y12 y13 y14)) ∧ (∀ y0 y1 y2 y3 y4 y5 y6 y7 y8 y9 y10 y11 y12 y13 y14, LeO (jackstaylaw06_ConfBack.j3 k y0 y1 y2 y3 y4 y5 y6 y7 y8 y9 y10 y11 y12 y13 y14) (jackstaylaw06_ConfBack.j3 (k + 1) y0 y1 y2 y3 y4 y5 y6 y7 y8 y9 y10 y11 y12 y13 y14))
  | 0 => ⟨fun _ _ _ _ _ _ _ _ _ _ r h => by simp [jackstaylaw06_ConfBack.l0] at h, fun _ _ _ _ _ _ _ _ _ _ _ _ _ _ _ r h => by simp [jackstaylaw06_ConfBack.l1] at h, fun _ _ _ _ _ _ _ _ _ _ _ _ _ _ _ r h => by simp [jackstaylaw06_ConfBack.j2] at h, fun _ _ _ _ _ _ _ _ _ _ _ _ _ _ _ r h => by simp [jackstaylaw06_ConfBack.j3] at h⟩
  | k + 1 => by
    obtain ⟨ih0, ih1, ih2, ih3⟩ := jackstaylaw06_ConfBack.mono_l k
    refine ⟨?_, ?_, ?_, ?_⟩
    · intro y0 y1 y2 y3 y4 y5 y6 y7 y8 y9
      unfold jackstaylaw06_ConfBack.l0
      repeat' first
      | (with_reducible exact ih0 _ _ _ _ _ _ _ _ _ _)
      | (with_reducible exact ih1 _ _ _ _ _ _ _ _ _ _ _ _ _ _ _)
      | (with_reducible exact ih2 _ _ _ _ _ _ _ _ _ _ _ _ _ _ _)
      | (with_reducible exact ih3 _ _ _ _ _ _ _ _ _ _ _ _ _ _ _)
      | (with_reducible exact conf_Bit.mono _ _ _ _ _ _ _)
      | (with_reducible exact conf_Event.mono _ _ _ _ _ _ _)
      | (with_reducible exact conf_Mode.mono _ _ _ _ _ _)
      | (with_reducible exact jackstaylaw06_awake.mono _)
      | (with_reducible exact LeO.refl _)
      | (with_reducible exact LeO.none _)
      | (with_reducible refine LeO.ite ?_ ?_)
      | (with_reducible refine LeO.bind ?_ (fun _ => ?_))
      | exact ih0 _ _ _ _ _ _ _ _ _ _
      | exact ih1 _ _ _ _ _ _ _ _ _ _ _ _ _ _ _
      | exact ih2 _ _ _ _ _ _ _ _ _ _ _ _ _ _ _
      | exact ih3 _ _ _ _ _ _ _ _ _ _ _ _ _ _ _
      | exact conf_Bit.mono _ _ _ _ _ _ _
      | exact conf_Event.mono _ _ _ _ _ _ _
      | exact conf_Mode.mono _ _ _ _ _ _
      | exact jackstaylaw06_awake.mono _
      | exact LeO.none _
      | refine LeO.ite ?_ ?_
      | refine LeO.bind ?_ (fun _ => ?_)
    · intro y0 y1 y2 y3 y4 y5 y6 y7 y8 y9 y10 y11 y12 y13 y14
      unfold jackstaylaw06_ConfBack.l1
      repeat' first
      | (with_reducible exact ih0 _ _ _ _ _ _ _ _ _ _)
      | (with_reducible exact ih1 _ _ _ _ _ _ _ _ _ _ _ _ _ _ _)
      | (with_reducible exact ih2 _ _ _ _ _ _ _ _ _ _ _ _ _ _ _)
      | (with_reducible exact ih3 _ _ _ _ _ _ _ _ _ _ _ _ _ _ _)
      | (with_reducible exact conf_Bit.mono _ _ _ _ _ _ _)
      | (with_reducible exact conf_Event.mono _ _ _ _ _ _ _)
      | (with_reducible exact conf_Mode.mono _ _ _ _ _ _)
      | (with_reducible exact jackstaylaw06_awake.mono _)
      | (with_reducible exact LeO.refl _)
      | (with_reducible exact LeO.none _)
      | (with_reducible refine LeO.ite ?_ ?_)
      | (with_reducible refine LeO.bind ?_ (fun _ => ?_))
      | exact ih0 _ _ _ _ _ _ _ _ _ _
      | exact ih1 _ _ _ _ _ _ _ _ _ _ _ _ _ _ _
      | exact ih2 _ _ _ _ _ _ _ _ _ _ _ _ _ _ _
      | exact ih3 _ _ _ _ _ _ _ _ _ _ _ _ _ _ _
      | exact conf_Bit.mono _ _ _ _ _ _ _
      | exact conf_Event.mono _ _ _ _ _ _ _
      | exact conf_Mode.mono _ _ _ _ _ _
      | exact jackstaylaw06_awake.mono _
      | exact LeO.none _
      | refine LeO.ite ?_ ?_
      | refine LeO.bind ?_ (fun _ => ?_)
    · intro y0 y1 y2 y3 y4 y5 y6 y7 y8 y9 y10 y11 y12 y13 y14
      unfold jackstaylaw06_ConfBack.j2
      repeat' first
      | (with_reducible exact ih0 _ _ _ _ _ _ _ _ _ _)
      | (with_reducible exact ih1 _ _ _ _ _ _ _ _ _ _ _ _ _ _ _)
      | (with_reducible exact ih2 _ _ _ _ _ _ _ _ _ _ _ _ _ _ _)
      | (with_reducible exact ih3 _ _ _ _ _ _ _ _ _ _ _ _ _ _ _)
      | (with_reducible exact conf_Bit.mono _ _ _ _ _ _ _)
      | (with_reducible exact conf_Event.mono _ _ _ _ _ _ _)
      | (with_reducible exact conf_Mode.mono _ _ _ _ _ _)
      | (with_reducible exact jackstaylaw06_awake.mono _)
      | (with_reducible exact LeO.refl _)
      | (with_reducible exact LeO.none _)
      | (with_reducible refine LeO.ite ?_ ?_)
      | (with_reducible refine LeO.bind ?_ (fun _ => ?_))
      | exact ih0 _ _ _ _ _ _ _ _ _ _
      | exact ih1 _ _ _ _ _ _ _ _ _ _ _ _ _ _ _
      | exact ih2 _ _ _ _ _ _ _ _ _ _ _ _ _ _ _
      | exact ih3 _ _ _ _ _ _ _ _ _ _ _ _ _ _ _
      | exact conf_Bit.mono _ _ _ _ _ _ _
      | exact conf_Event.mono _ _ _ _ _ _ _
      | exact conf_Mode.mono _ _ _ _ _ _
      | exact jackstaylaw06_awake.mono _
      | exact LeO.none _
      | refine LeO.ite ?_ ?_
      | refine LeO.bind ?_ (fun _ => ?_)
    · intro y0 y1 y2 y3 y4 y5 y6 y7 y8 y9 y10 y11 y12 y13 y14
      unfold jackstaylaw06_ConfBack.j3
      repeat' first
      | (with_reducible exact ih0 _ _ _ _ _ _ _ _ _ _)
      | (with_reducible exact ih1 _ _ _ _ _ _ _ _ _ _ _ _ _ _ _)
      | (with_reducible exact ih2 _ _ _ _ _ _ _ _ _ _ _ _ _ _ _)
      | (with_reducible exact ih3 _ _ _ _ _ _ _ _ _ _ _ _ _ _ _)
      | (with_reducible exact conf_Bit.mono _ _ _ _ _ _ _)
      | (with_reducible exact conf_Event.mono _ _ _ _ _ _ _)
      | (with_reducible exact conf_Mode.mono _ _ _ _ _ _)
      | (with_reducible exact jackstaylaw06_awake.mono _)
      | (with_reducible exact LeO.refl _)
      | (with_reducible exact LeO.none _)
      | (with_reducible refine LeO.ite ?_ ?_)
      | (with_reducible refine LeO.bind ?_ (fun _ => ?_))
      | exact ih0 _ _ _ _ _ _ _ _ _ _
      | exact ih1 _ _ _ _ _ _ _ _ _ _ _ _ _ _ _
      | exact ih2 _ _ _ _ _ _ _ _ _ _ _ _ _ _ _
      | exact ih3 _ _ _ _ _ _ _ _ _ _ _ _ _ _ _
      | exact conf_Bit.mono _ _ _ _ _ _ _
      | exact conf_Event.mono _ _ _ _ _ _ _
      | exact conf_Mode.mono _ _ _ _ _ _
      | exact jackstaylaw06_awake.mono _
      | exact LeO.none _
      | refine LeO.ite ?_ ?_
      | refine LeO.bind ?_ (fun _ => ?_)
theorem jackstaylaw06_ConfBack.mono : ∀ a0 k, LeO (jackstaylaw06_ConfBack.f k a0) (jackstaylaw06_ConfBack.f (k + 1) a0) := by
  intro a0 k
  obtain ⟨ih0, ih1, ih2, ih3⟩ := jackstaylaw06_ConfBack.mono_l k
  unfold jackstaylaw06_ConfBack.f
  repeat' first
      | (with_reducible exact ih0 _ _ _ _ _ _ _ _ _ _)
      | (with_reducible exact ih1 _ _ _ _ _ _ _ _ _ _ _ _ _ _ _)
      | (with_reducible exact ih2 _ _ _ _ _ _ _ _ _ _ _ _ _ _ _)
      | (with_reducible exact ih3 _ _ _ _ _ _ _ _ _ _ _ _ _ _ _)
      | (with_reducible exact conf_Bit.mono _ _ _ _ _ _ _)
      | (with_reducible exact conf_Event.mono _ _ _ _ _ _ _)
      | (with_reducible exact conf_Mode.mono _ _ _ _ _ _)
      | (with_reducible exact jackstaylaw06_awake.mono _)
      | (with_reducible exact LeO.refl _)
      | (with_reducible exact LeO.none _)
      | (with_reducible refine LeO.ite ?_ ?_)
      | (with_reducible refine LeO.bind ?_ (fun _ => ?_))
      | exact ih0 _ _ _ _ _ _ _ _ _ _
      | exact ih1 _ _ _ _ _ _ _ _ _ _ _ _ _ _ _
      | exact ih2 _ _ _ _ _ _ _ _ _ _ _ _ _ _ _
      | exact ih3 _ _ _ _ _ _ _ _ _ _ _ _ _ _ _
      | exact conf_Bit.mono _ _ _ _ _ _ _
      | exact conf_Event.mono _ _ _ _ _ _ _
      | exact conf_Mode.mono _ _ _ _ _ _
      | exact jackstaylaw06_awake.mono _
      | exact LeO.none _
      | refine LeO.ite ?_ ?_
      | refine LeO.bind ?_ (fun _ => ?_)
set_option maxHeartbeats 8000000 in
set_option maxRecDepth 100000 in
theorem jackstaylaw06_ConfBack.calls (k : Nat) (A0 : Option Addr) (c0 : Nat) (l0 : List (S34)) (r : Bool) (w : World) (hr0 : Kd.C k34 w A0 l0.length l0) (hc0 : l0.length ≤ c0) (h : jackstaylaw06_ConfBack.f k l0 = some r) (hT_ : r = true) :
    Calls Try.prog 4 #[.slice A0 l0.length c0] w fun e w' => e = .returned (.bool r) ∧ Below w.heap.size w w' := by
  have hu23 := Try.underlying23
  have hu34 := Try.underlying34
  have HR0 := Aside0.mk hr0
  have HC0 := Aside0.mk hc0
  clear hr0 hc0
  have HB := Aside0.mk (Below.refl w.heap.size w)
  have H : (if 0 ≤ (mn (l0.length : Int) 300) then (if (mn (l0.length : Int) 300) ≤ (l0.length : Int) then ((some (l0.take ((mn (l0.length : Int) 300) : Int).toNat : List (S34))).bind fun y213 => (jackstaylaw06_ConfBack.l0 k 0 0 y213 (y213.length : Int) 0 256 0 true 0 0)) else (none)) else (none)) = some r := h
  clear h
  obtain ⟨ji2, hji2⟩ : ∃ j_ : Int, (mn (l0.length : Int) 300) = j_ := ⟨_, rfl⟩
  replace H : (if 0 ≤ (ji2) then (if (ji2) ≤ (l0.length : Int) then ((some (l0.take ((ji2) : Int).toNat : List (S34))).bind fun y213 => (jackstaylaw06_ConfBack.l0 k 0 0 y213 (y213.length : Int) 0 256 0 true 0 0)) else (none)) else (none)) = some r := by first | (rw [hji2] at H; exact H) | (simp only [hji2] at H ⊢; exact H)
  (try (have hji2h : ji2 ≤ 300 := by (rw [← hji2]; unfold mn; (repeat' split) <;> omega)))
  (try (have hji2g : ji2 ≤ 64 := by omega))
  (try (have hji2l : 0 ≤ ji2 := by (rw [← hji2]; unfold mn; (repeat' split) <;> omega)))
  (try (have hji2m : 0 ≤ ji2 := by omega))
  have hji2_ : (if 300 < (l0.length : Int) then 300 else (l0.length : Int)) = ji2 := hji2
  by_cases c3 : 0 ≤ (ji2)
  · rw [if_pos c3] at H
    have c3b0 := eq_true c3
    have c3b1 : decide (0 ≤ (ji2)) = true := decide_eq_true c3
    clear c3
    by_cases c4 : (ji2) ≤ (l0.length : Int)
    · rw [if_pos c4] at H
      have c4b0 := eq_true c4
      have c4b1 : decide ((ji2) ≤ (l0.length : Int)) = true := decide_eq_true c4
      clear c4
      obtain ⟨y213, hy213⟩ : ∃ y_ : List (S34), y_ = (l0.take ((ji2) : Int).toNat) := ⟨_, rfl⟩
      replace H : (jackstaylaw06_ConfBack.l0 k 0 0 y213 (y213.length : Int) 0 256 0 true 0 0) = some r := by first | (rw [hy213]; with_reducible exact H) | (have H2_ := (Option.bind_some _ _).symm.trans H; rw [hy213]; with_reducible exact H2_) | (have H2_ := (Option.bind_some _ _).symm.trans H; with_reducible exact H2_) | with_reducible exact H | (rw [hy213]; exact H) | exact H
      have Ny213 := Aside0.mk hy213
      clear hy213
      have H' := Aside0.mk H
      clear H
      go_enter Try.func4, Try.ntmps4
      go_wp2_with (first | ((with_reducible refine gate_dst (N := 3) rfl ?_); refine box_event ?hg (N := 3) ?hd (cs := #[.int .i64 0, .int .i64 0, .bool false, .int .i64 0, .int .i64 0]) (t := 23) ?hr ?_; (case hd => rfl); (case hg => rfl); (case hr => first | (go_simp; done) | (go_simp; rfl)); intro gb212 hg w5 hbox hb; have n0_ := Aside0.mk (below_step (by repeat (first | (with_reducible first | exact HB.out | apply below_alloc | apply pw_below_drewN | apply below_drew1) | exact HB.out)) hb); have n1_ := Aside0.mk (hbox); have n2_ := Aside0.mk ((by rw [hg]; exact (below_size (by repeat (first | (with_reducible first | exact HB.out | apply below_alloc | apply pw_below_drewN | apply below_drew1) | exact HB.out))) : w.heap.size ≤ gb212)); have n3_ := Aside0.mk ((by rw [hg]; exact (below_size (by repeat (first | (with_reducible first | exact HB.out | apply below_alloc | apply pw_below_drewN | apply below_drew1) | exact HB.out))) : w.heap.size ≤ gb212)); clear HB; have HB := n0_; have BK212 := n1_; have GW212 := n2_; have GE212 := n3_; clear n0_ n1_ n2_ n3_; clear hb hbox hg; have hcz6_0 : w5.cell? ⟨gb212, 0, none⟩ = some (.int .i64 0) := (blk_cell BK212.out 0).trans rfl; have hcz6_1 : w5.cell? ⟨gb212, 1, none⟩ = some (.int .i64 0) := (blk_cell BK212.out 1).trans rfl; have hcz6_2 : w5.cell? ⟨gb212, 2, none⟩ = some (.bool false) := (blk_cell BK212.out 2).trans rfl; have hcz6_3 : w5.cell? ⟨gb212, 3, none⟩ = some (.int .i64 0) := (blk_cell BK212.out 3).trans rfl; have hcz6_4 : w5.cell? ⟨gb212, 4, none⟩ = some (.int .i64 0) := (blk_cell BK212.out 4).trans rfl; have hfz6_0 := blk_frozen BK212.out 0; have hfz6_1 := blk_frozen BK212.out 1; have hfz6_2 := blk_frozen BK212.out 2; have hfz6_3 := blk_frozen BK212.out 3; have hfz6_4 := blk_frozen BK212.out 4) | ((with_reducible refine gate_store (t := 23) (p := 3) rfl ?_); refine store_event (t := 23) (p := 3) (v := ?vo_w7) (w1 := (((((w5.setCell ⟨gb212, 0, none⟩ (.int .i64 256)).setCell ⟨gb212, 1, none⟩ (.int .i64 0)).setCell ⟨gb212, 2, none⟩ (.bool true)).setCell ⟨gb212, 3, none⟩ (.int .i64 0)).setCell ⟨gb212, 4, none⟩ (.int .i64 0))) ?hg ?ho ?hn ?hr ?_; (case ho => rfl); (case hg => rfl); (case hn => rfl); (case hr => first | (go_simp; done) | (go_simp; rfl)); intro w7 hw; have n0_ : Aside0 (w7.heap[gb212]? = some (.cells #[.int .i64 256, .int .i64 0, .bool true, .int .i64 0, .int .i64 0] 23 (0, 0))) := ⟨(by rw [hw]; exact (by (with_reducible repeat (first | refine blk_drewN ?_ _ | refine blk_drew ?_ | refine blk_alloc ?_ _)); refine blk_put (cs := #[.int .i64 256, .int .i64 0, .bool true, .int .i64 0, .int .i64 0]) ?_ 4 _ (by first | rfl | (subst_vars; rfl)); (with_reducible repeat (first | refine blk_drewN ?_ _ | refine blk_drew ?_ | refine blk_alloc ?_ _)); refine blk_put (cs := #[.int .i64 256, .int .i64 0, .bool true, .int .i64 0, .int .i64 0]) ?_ 3 _ (by first | rfl | (subst_vars; rfl)); (with_reducible repeat (first | refine blk_drewN ?_ _ | refine blk_drew ?_ | refine blk_alloc ?_ _)); refine blk_put (cs := #[.int .i64 256, .int .i64 0, .bool false, .int .i64 0, .int .i64 0]) ?_ 2 _ (by first | rfl | (subst_vars; rfl)); (with_reducible repeat (first | refine blk_drewN ?_ _ | refine blk_drew ?_ | refine blk_alloc ?_ _)); refine blk_put (cs := #[.int .i64 256, .int .i64 0, .bool false, .int .i64 0, .int .i64 0]) ?_ 1 _ (by first | rfl | (subst_vars; rfl)); (with_reducible repeat (first | refine blk_drewN ?_ _ | refine blk_drew ?_ | refine blk_alloc ?_ _)); refine blk_put (cs := #[.int .i64 0, .int .i64 0, .bool false, .int .i64 0, .int .i64 0]) ?_ 0 _ (by first | rfl | (subst_vars; rfl)); (with_reducible repeat (first | refine blk_drewN ?_ _ | refine blk_drew ?_ | refine blk_alloc ?_ _)); exact BK212.out))⟩; have n1_ : Aside0 (Below w.heap.size w w7) := ⟨(by rw [hw]; exact (by repeat (first | (with_reducible first | exact HB.out | apply below_alloc | apply pw_below_drewN | apply below_drew1 | refine below_set ?_ GE212.out) | exact HB.out)))⟩; clear hw; clear BK212; clear HB; have BK212 := n0_; have HB := n1_; clear n0_ n1_; have q8 : ((ji2) : Int) ≤ ((l0.length : Int) : Int) := of_decide_eq_true (by first | (with_reducible assumption) | assumption); obtain ⟨i08, hi08, _, hsz8, _⟩ := info_parts info34; have hroom8 : l0.length ≤ c0 := HC0.out; have hC8 : Kd.C k34 _ A0 l0.length l0 := HR0.out; have hcut8 := cut_to (P := Try.prog) 32 34 .i64 Try.underlying32 hi08 A0 l0.length c0 (ji2) (of_decide_eq_true (by first | (with_reducible assumption) | assumption)) q8 hroom8; have hr8 := Kd.C_take (m := ((ji2) : Int).toNat) hC8 (by omega); have hy8 : y213.length = ((ji2) : Int).toNat := (by rw [Ny213.out, List.length_take]; omega); rw [← Ny213.out] at hr8; rw [← hy8] at hcut8; have HR216 := Aside0.mk hr8; have HC216 := Aside0.mk (show y213.length ≤ c0 from by omega); clear hr8 hC8 hroom8 hi08 hsz8; have KY8 := Aside0.mk hy8; clear hy8; replace q8 := eq_true q8))
      go_loopg [4, 5, 16] k (fun kq v4 v5 v16 w' => ∃ (x4_1 : Int) (x5_1 : Int) (x16_1 : Int) (x213000_1 : Int) (x213001_1 : Int) (x213002_1 : Bool) (x213003_1 : Int) (x213004_1 : Int), v4 = .int .i64 x4_1 ∧ v5 = .int .i64 x5_1 ∧ v16 = .int .i64 x16_1 ∧ Aside0 (jackstaylaw06_ConfBack.l0 kq x4_1 x5_1 y213 (y213.length : Int) x16_1 x213000_1 x213001_1 x213002_1 x213003_1 x213004_1 = some r) ∧ Aside0 (kq ≤ k) ∧ Aside0 (w'.heap[gb212]? = some (.cells #[.int .i64 x213000_1, .int .i64 x213001_1, .bool x213002_1, .int .i64 x213003_1, .int .i64 x213004_1] 23 (0, 0))) ∧ Aside0 (Below w.heap.size w w'))
      case atStart => exact ⟨(0), (0), (0), (256), (0), (true), (0), (0), (by first | rfl | (simp; done) | (simp [*]; done)), (by first | rfl | (simp; done) | (simp [*]; done)), (by first | rfl | (simp; done) | (simp [*]; done)), H', ⟨Nat.le_refl _⟩, ⟨by (with_reducible repeat (first | refine blk_drewN ?_ _ | refine blk_drew ?_ | refine blk_alloc ?_ _)); exact BK212.out⟩, ⟨by repeat (first | (with_reducible first | exact HB.out | apply below_alloc | apply pw_below_drewN | apply below_drew1 | refine below_set ?_ GE212.out) | exact HB.out)⟩⟩
      case round =>
        clear H'
        try clear p2
        try clear c3
        try clear c3b0
        try clear c3b1
        try clear c4
        try clear c4b0
        try clear c4b1
        try clear q8
        try clear hcz6_0
        try clear hcz6_1
        try clear hcz6_2
        try clear hcz6_3
        try clear hcz6_4
        try clear hfz6_0
        try clear hfz6_1
        try clear hfz6_2
        try clear hfz6_3
        try clear hfz6_4
        try clear q8
        obtain ⟨x4_1, x5_1, x16_1, x213000_1, x213001_1, x213002_1, x213003_1, x213004_1, rfl, rfl, rfl, HA, HK1, BK212, HB⟩ := hrel
        cases gk with
        | zero => exact absurd HA.out (by simp [jackstaylaw06_ConfBack.l0])
        | succ k1 =>
          have H := HA.out
          clear HA
          simp only [jackstaylaw06_ConfBack.l0] at H
          by_cases c9 : x16_1 < (y213.length : Int)
          · rw [if_pos c9] at H
            have c9b0 : decide (x16_1 < (y213.length : Int)) = true := decide_eq_true c9
            clear c9
            by_cases c10 : 0 ≤ x16_1
            · rw [if_pos c10] at H
              have c10b0 : decide (0 ≤ x16_1) = true := decide_eq_true c10
              clear c10
              by_cases c11 : x16_1 < (y213.length : Int)
              · rw [if_pos c11] at H
                have c11b0 : decide (x16_1 < (y213.length : Int)) = true := decide_eq_true c11
                clear c11
                by_cases c12 : ((rd_T34 y213 x16_1).f0) = 0
                · rw [if_pos c12] at H
                  have c12b0 : (((rd_T34 y213 x16_1).f0) == 0) = true := beq_iff_eq.mpr c12
                  have c12b1 : (((rd_T34 y213 x16_1).f0) != 0) = false := bne_eq_false_iff_eq.mpr c12
                  clear c12
                  have H' := Aside0.mk H
                  clear H
                  have p218 : 0 ≤ (x16_1 : Int) := of_decide_eq_true (by first | (with_reducible assumption) | assumption)
                  have q218 : x16_1 < (y213.length : Int) := of_decide_eq_true (by first | (with_reducible assumption) | assumption)
                  obtain ⟨ad218, e218, hx218_0, hx218_1, hx218_2⟩ := at_T34 HR216.out x16_1 p218 q218
                  cases e218
                  (try replace hx218_0 := (HB.out.cell (World.block_lt_of_cell? w _ hx218_0)).trans hx218_0)
                  (try replace hx218_1 := (HB.out.cell (World.block_lt_of_cell? w _ hx218_1)).trans hx218_1)
                  (try replace hx218_2 := (HB.out.cell (World.block_lt_of_cell? w _ hx218_2)).trans hx218_2)
                  replace p218 := eq_true p218
                  replace q218 := eq_true q218
                  (try (have q218z := q218; simp only [List.length_drop, List.length_take] at q218z))
                  go_wp2_with (first | ((with_reducible refine gate_dst (N := 7) rfl ?_); refine box_event ?hg (N := 7) ?hd (cs := #[.int .u8 0, .bool false, .int .u8 0]) (t := 34) ?hr ?_; (case hd => rfl); (case hg => rfl); (case hr => first | (go_simp; done) | (go_simp; rfl)); intro gb219 hg w13 hbox hb; have n0_ := Aside0.mk (blk_below (g := gb212) (o := .cells #[.int .i64 x213000_1, .int .i64 x213001_1, .bool x213002_1, .int .i64 x213003_1, .int .i64 x213004_1] 23 (0, 0)) (by (with_reducible repeat (first | refine blk_drewN ?_ _ | refine blk_drew ?_ | refine blk_alloc ?_ _)); exact BK212.out) hb); have n1_ := Aside0.mk (below_step (by repeat (first | (with_reducible first | exact HB.out | apply below_alloc | apply pw_below_drewN | apply below_drew1 | refine below_set ?_ GE212.out) | exact HB.out)) hb); have n2_ := Aside0.mk (hbox); have n3_ := Aside0.mk ((by rw [hg]; exact (below_size (by repeat (first | (with_reducible first | exact HB.out | apply below_alloc | apply pw_below_drewN | apply below_drew1 | refine below_set ?_ GE212.out) | exact HB.out))) : w.heap.size ≤ gb219)); have n4_ := Aside0.mk ((by rw [hg]; exact (below_size (by repeat (first | (with_reducible first | exact HB.out | apply below_alloc | apply pw_below_drewN | apply below_drew1 | refine below_set ?_ GE212.out) | exact HB.out))) : w.heap.size ≤ gb219)); have n5_ := Aside0.mk ((by rw [hg]; exact Nat.ne_of_lt (blk_lt (g := gb212) (o := .cells #[.int .i64 x213000_1, .int .i64 x213001_1, .bool x213002_1, .int .i64 x213003_1, .int .i64 x213004_1] 23 (0, 0)) (by (with_reducible repeat (first | refine blk_drewN ?_ _ | refine blk_drew ?_ | refine blk_alloc ?_ _)); exact BK212.out)) : gb212 ≠ gb219)); have n6_ := Aside0.mk ((by rw [hg]; exact Nat.ne_of_gt (blk_lt (g := gb212) (o := .cells #[.int .i64 x213000_1, .int .i64 x213001_1, .bool x213002_1, .int .i64 x213003_1, .int .i64 x213004_1] 23 (0, 0)) (by (with_reducible repeat (first | refine blk_drewN ?_ _ | refine blk_drew ?_ | refine blk_alloc ?_ _)); exact BK212.out)) : gb219 ≠ gb212)); clear BK212; clear HB; have BK212 := n0_; have HB := n1_; have BK219 := n2_; have GW219 := n3_; have GE219 := n4_; have NB212_219 := n5_; have NB219_212 := n6_; clear n0_ n1_ n2_ n3_ n4_ n5_ n6_; clear hb hbox hg; have hnb14 := NB219_212.out; have hnc14 := NB212_219.out; have hcz15_0 : w13.cell? ⟨gb219, 0, none⟩ = some (.int .u8 0) := (blk_cell BK219.out 0).trans rfl; have hcz15_1 : w13.cell? ⟨gb219, 1, none⟩ = some (.bool false) := (blk_cell BK219.out 1).trans rfl; have hcz15_2 : w13.cell? ⟨gb219, 2, none⟩ = some (.int .u8 0) := (blk_cell BK219.out 2).trans rfl; have hfz15_0 := blk_frozen BK219.out 0; have hfz15_1 := blk_frozen BK219.out 1; have hfz15_2 := blk_frozen BK219.out 2))
                  go_loopg [4, 5, 42] k1 (fun kq v4 v5 v42 w' => ∃ (x4_2 : Int) (x5_2 : Int) (x42_2 : Int) (x213000_2 : Int) (x213001_2 : Int) (x213002_2 : Bool) (x213003_2 : Int) (x213004_2 : Int), v4 = .int .i64 x4_2 ∧ v5 = .int .i64 x5_2 ∧ v42 = .int .i64 x42_2 ∧ Aside0 (jackstaylaw06_ConfBack.l1 kq x4_2 x5_2 y213 (y213.length : Int) x16_1 (wrap64 (1 + (wrap64 ((rd_T34 y213 x16_1).f2)))) x42_2 x213000_2 x213001_2 x213002_2 x213003_2 x213004_2 ((rd_T34 y213 x16_1).f0) ((rd_T34 y213 x16_1).f1) ((rd_T34 y213 x16_1).f2) = some r) ∧ Aside0 (kq ≤ k1) ∧ Aside0 (w'.heap[gb212]? = some (.cells #[.int .i64 x213000_2, .int .i64 x213001_2, .bool x213002_2, .int .i64 x213003_2, .int .i64 x213004_2] 23 (0, 0))) ∧ Aside0 (w'.heap[gb219]? = some (.cells #[.int .u8 ((rd_T34 y213 x16_1).f0), .bool ((rd_T34 y213 x16_1).f1), .int .u8 ((rd_T34 y213 x16_1).f2)] 34 (0, 0))) ∧ Aside0 (Below w.heap.size w w'))
                  case atStart => exact ⟨(x4_1), (x5_1), (0), (x213000_1), (x213001_1), (x213002_1), (x213003_1), (x213004_1), (by first | rfl | (simp; done) | (simp [*]; done)), (by first | rfl | (simp; done) | (simp [*]; done)), (by first | rfl | (simp; done) | (simp [*]; done)), H', ⟨Nat.le_refl _⟩, ⟨by (with_reducible repeat (first | refine blk_drewN ?_ _ | refine blk_drew ?_ | refine blk_alloc ?_ _)); refine blk_far ?_ NB212_219.out _; (with_reducible repeat (first | refine blk_drewN ?_ _ | refine blk_drew ?_ | refine blk_alloc ?_ _)); refine blk_far ?_ NB212_219.out _; (with_reducible repeat (first | refine blk_drewN ?_ _ | refine blk_drew ?_ | refine blk_alloc ?_ _)); refine blk_far ?_ NB212_219.out _; (with_reducible repeat (first | refine blk_drewN ?_ _ | refine blk_drew ?_ | refine blk_alloc ?_ _)); exact BK212.out⟩, ⟨by (with_reducible repeat (first | refine blk_drewN ?_ _ | refine blk_drew ?_ | refine blk_alloc ?_ _)); refine blk_put (cs := #[.int .u8 ((rd_T34 y213 x16_1).f0), .bool ((rd_T34 y213 x16_1).f1), .int .u8 0]) ?_ 2 _ rfl; (with_reducible repeat (first | refine blk_drewN ?_ _ | refine blk_drew ?_ | refine blk_alloc ?_ _)); refine blk_put (cs := #[.int .u8 ((rd_T34 y213 x16_1).f0), .bool false, .int .u8 0]) ?_ 1 _ rfl; (with_reducible repeat (first | refine blk_drewN ?_ _ | refine blk_drew ?_ | refine blk_alloc ?_ _)); refine blk_put (cs := #[.int .u8 0, .bool false, .int .u8 0]) ?_ 0 _ rfl; (with_reducible repeat (first | refine blk_drewN ?_ _ | refine blk_drew ?_ | refine blk_alloc ?_ _)); exact BK219.out⟩, ⟨by repeat (first | (with_reducible first | exact HB.out | apply below_alloc | apply pw_below_drewN | apply below_drew1 | refine below_set ?_ GE212.out | refine below_set ?_ GE219.out) | exact HB.out)⟩⟩
                  case round =>
                    clear H'
                    try clear c1
                    try clear p2
                    try clear q2
                    try clear hx2
                    try clear c3
                    try clear c3b0
                    try clear c3b1
                    try clear c4
                    try clear c4b0
                    try clear c4b1
                    try clear p6
                    try clear q8
                    try clear c9
                    try clear c9b0
                    try clear c10
                    try clear c10b0
                    try clear c11
                    try clear c11b0
                    try clear c12
                    try clear c12b0
                    try clear c12b1
                    try clear c14
                    try clear hcz15_0
                    try clear hcz15_1
                    try clear hcz15_2
                    try clear hcz6_0
                    try clear hcz6_1
                    try clear hcz6_2
                    try clear hcz6_3
                    try clear hcz6_4
                    try clear hfz15_0
                    try clear hfz15_1
                    try clear hfz15_2
                    try clear hfz6_0
                    try clear hfz6_1
                    try clear hfz6_2
                    try clear hfz6_3
                    try clear hfz6_4
                    try clear hx218_0
                    try clear hx218_1
                    try clear hx218_2
                    try clear p2
                    try clear p218
                    try clear q218
                    try clear q8
                    obtain ⟨x4_2, x5_2, x42_2, x213000_2, x213001_2, x213002_2, x213003_2, x213004_2, rfl, rfl, rfl, HA, HK2, BK212, BK219, HB⟩ := hrel
                    cases gk with
                    | zero => exact absurd HA.out (by simp [jackstaylaw06_ConfBack.l1])
                    | succ k2 =>
                      have H := HA.out
                      clear HA
                      simp only [jackstaylaw06_ConfBack.l1] at H
                      by_cases c16 : x42_2 < (wrap64 (1 + (wrap64 ((rd_T34 y213 x16_1).f2))))
                      · rw [if_pos c16] at H
                        have c16b0 : decide (x42_2 < (wrap64 (1 + (wrap64 ((rd_T34 y213 x16_1).f2))))) = true := decide_eq_true c16
                        clear c16
                        replace H := Option.bind_eq_some_iff.mp H
                        obtain ⟨⟨t227, t228, t229, t230, t231⟩, A170, H⟩ := H
                        replace H : (if ((rd_T34 y213 x16_1).f1) = true then (jackstaylaw06_ConfBack.j2 k2 (wrap64 (x4_2 + 1)) x5_2 y213 (y213.length : Int) x16_1 (wrap64 (1 + (wrap64 ((rd_T34 y213 x16_1).f2)))) x42_2 t227 t228 t229 t230 t231 ((rd_T34 y213 x16_1).f0) ((rd_T34 y213 x16_1).f1) ((rd_T34 y213 x16_1).f2)) else (jackstaylaw06_ConfBack.j2 k2 0 x5_2 y213 (y213.length : Int) x16_1 (wrap64 (1 + (wrap64 ((rd_T34 y213 x16_1).f2)))) x42_2 t227 t228 t229 t230 t231 ((rd_T34 y213 x16_1).f0) ((rd_T34 y213 x16_1).f1) ((rd_T34 y213 x16_1).f2))) = some r := H
                        have A17 := Aside0.mk A170
                        clear A170
                        have HC18 := Aside0.mk H
                        clear H
                        have hnb19 := NB212_219.out
                        have hnc19 := NB219_212.out
                        have hcz20_0 : wr.cell? ⟨gb212, 0, none⟩ = some (.int .i64 x213000_2) := (blk_cell BK212.out 0).trans rfl
                        have hcz20_1 : wr.cell? ⟨gb212, 1, none⟩ = some (.int .i64 x213001_2) := (blk_cell BK212.out 1).trans rfl
                        have hcz20_2 : wr.cell? ⟨gb212, 2, none⟩ = some (.bool x213002_2) := (blk_cell BK212.out 2).trans rfl
                        have hcz20_3 : wr.cell? ⟨gb212, 3, none⟩ = some (.int .i64 x213003_2) := (blk_cell BK212.out 3).trans rfl
                        have hcz20_4 : wr.cell? ⟨gb212, 4, none⟩ = some (.int .i64 x213004_2) := (blk_cell BK212.out 4).trans rfl
                        have hfz20_0 := blk_frozen BK212.out 0
                        have hfz20_1 := blk_frozen BK212.out 1
                        have hfz20_2 := blk_frozen BK212.out 2
                        have hfz20_3 := blk_frozen BK212.out 3
                        have hfz20_4 := blk_frozen BK212.out 4
                        have hcz21_0 : wr.cell? ⟨gb219, 0, none⟩ = some (.int .u8 ((rd_T34 y213 x16_1).f0)) := (blk_cell BK219.out 0).trans rfl
                        have hcz21_1 : wr.cell? ⟨gb219, 1, none⟩ = some (.bool ((rd_T34 y213 x16_1).f1)) := (blk_cell BK219.out 1).trans rfl
                        have hcz21_2 : wr.cell? ⟨gb219, 2, none⟩ = some (.int .u8 ((rd_T34 y213 x16_1).f2)) := (blk_cell BK219.out 2).trans rfl
                        have hfz21_0 := blk_frozen BK219.out 0
                        have hfz21_1 := blk_frozen BK219.out 1
                        have hfz21_2 := blk_frozen BK219.out 2
                        go_upto_if 52 with (first | ((with_reducible refine gate_callee (f := 16) rfl ?_); refine goesL_ (some 47) rfl rfl Try.func16 (by kernel_rfl) rfl #[.agg #[.int .i64 x213000_2, .int .i64 x213001_2, .bool x213002_2, .int .i64 x213003_2, .int .i64 x213004_2], .bool ((rd_T34 y213 x16_1).f1)] rfl (by (try simp only [List.map_toArray, List.map_cons, List.map_nil]); first | done | rfl | (simp only [List.length_drop, List.length_take]; rfl)) ?_; (with_reducible refine (conf_Bit.calls k2 x213000_2 x213001_2 x213002_2 x213003_2 x213004_2 ((rd_T34 y213 x16_1).f1) t227 t228 t229 t230 t231 _ A17.out).mono ?_); rintro e w22 ⟨rfl, hb⟩; refine ⟨_, rfl, ?_⟩; have n0_ := Aside0.mk (blk_below (g := gb212) (o := .cells #[.int .i64 x213000_2, .int .i64 x213001_2, .bool x213002_2, .int .i64 x213003_2, .int .i64 x213004_2] 23 (0, 0)) (by (with_reducible repeat (first | refine blk_drewN ?_ _ | refine blk_drew ?_ | refine blk_alloc ?_ _)); exact BK212.out) hb); have n1_ := Aside0.mk (blk_below (g := gb219) (o := .cells #[.int .u8 ((rd_T34 y213 x16_1).f0), .bool ((rd_T34 y213 x16_1).f1), .int .u8 ((rd_T34 y213 x16_1).f2)] 34 (0, 0)) (by (with_reducible repeat (first | refine blk_drewN ?_ _ | refine blk_drew ?_ | refine blk_alloc ?_ _)); exact BK219.out) hb); have n2_ := Aside0.mk (below_step (by repeat (first | (with_reducible first | exact HB.out | apply below_alloc | apply pw_below_drewN | apply below_drew1 | refine below_set ?_ GE212.out | refine below_set ?_ GE219.out) | exact HB.out)) hb); clear BK212; clear BK219; clear HB; have BK212 := n0_; have BK219 := n1_; have HB := n2_; clear n0_ n1_ n2_; (try clear hb); (try clear hb2); (try clear hk); (try clear hi); have hcz23_0 : w22.cell? ⟨gb212, 0, none⟩ = some (.int .i64 x213000_2) := (blk_cell BK212.out 0).trans rfl; have hcz23_1 : w22.cell? ⟨gb212, 1, none⟩ = some (.int .i64 x213001_2) := (blk_cell BK212.out 1).trans rfl; have hcz23_2 : w22.cell? ⟨gb212, 2, none⟩ = some (.bool x213002_2) := (blk_cell BK212.out 2).trans rfl; have hcz23_3 : w22.cell? ⟨gb212, 3, none⟩ = some (.int .i64 x213003_2) := (blk_cell BK212.out 3).trans rfl; have hcz23_4 : w22.cell? ⟨gb212, 4, none⟩ = some (.int .i64 x213004_2) := (blk_cell BK212.out 4).trans rfl; have hfz23_0 := blk_frozen BK212.out 0; have hfz23_1 := blk_frozen BK212.out 1; have hfz23_2 := blk_frozen BK212.out 2; have hfz23_3 := blk_frozen BK212.out 3; have hfz23_4 := blk_frozen BK212.out 4; have hcz24_0 : w22.cell? ⟨gb219, 0, none⟩ = some (.int .u8 ((rd_T34 y213 x16_1).f0)) := (blk_cell BK219.out 0).trans rfl; have hcz24_1 : w22.cell? ⟨gb219, 1, none⟩ = some (.bool ((rd_T34 y213 x16_1).f1)) := (blk_cell BK219.out 1).trans rfl; have hcz24_2 : w22.cell? ⟨gb219, 2, none⟩ = some (.int .u8 ((rd_T34 y213 x16_1).f2)) := (blk_cell BK219.out 2).trans rfl; have hfz24_0 := blk_frozen BK219.out 0; have hfz24_1 := blk_frozen BK219.out 1; have hfz24_2 := blk_frozen BK219.out 2))
                        (try simp only [Act.put, List.setIfInBounds_toArray, List.set_cons_zero, List.set_cons_succ])
                        go_cut [4] (fun v4 wc => ∃ (kq : Nat) (x4_17 : Int), v4 = .int .i64 x4_17 ∧ Aside0 (jackstaylaw06_ConfBack.j2 kq x4_17 x5_2 y213 (y213.length : Int) x16_1 (wrap64 (1 + (wrap64 ((rd_T34 y213 x16_1).f2)))) x42_2 t227 t228 t229 t230 t231 ((rd_T34 y213 x16_1).f0) ((rd_T34 y213 x16_1).f1) ((rd_T34 y213 x16_1).f2) = some r) ∧ Aside0 (kq ≤ k2) ∧ Aside0 (wc.heap[gb212]? = some (.cells #[.int .i64 t227, .int .i64 t228, .bool t229, .int .i64 t230, .int .i64 t231] 23 (0, 0))) ∧ Aside0 (wc.heap[gb219]? = some (.cells #[.int .u8 ((rd_T34 y213 x16_1).f0), .bool ((rd_T34 y213 x16_1).f1), .int .u8 ((rd_T34 y213 x16_1).f2)] 34 (0, 0))) ∧ Aside0 (Below w.heap.size w wc))
                        case first =>
                          have H := HC18.out
                          clear HC18
                          by_cases c25 : ((rd_T34 y213 x16_1).f1) = true
                          · rw [if_pos c25] at H
                            have c25b0 : ((rd_T34 y213 x16_1).f1) = true := c25
                            clear c25
                            (first | (refine wp_cond_true (congrArg Value.bool c25b0) ?_) | (refine wp_cond_false (congrArg (fun b_ => Value.bool (!b_)) c25b0) ?_) | rw [c25b0] | (simp only [i64_w, i32_w]; rw [c25b0]) | skip)
                            have H' := Aside0.mk H
                            clear H
                            go_wp2
                            go_meet
                            case rel => exact ⟨_, (wrap64 (x4_2 + 1)), (by first | rfl | (simp; done) | (simp [*]; done)), H', ⟨by have := HK1.out; have := HK2.out; first | omega | exact Nat.le_refl _⟩, ⟨by (with_reducible repeat (first | refine blk_drewN ?_ _ | refine blk_drew ?_ | refine blk_alloc ?_ _)); refine blk_put (cs := #[.int .i64 t227, .int .i64 t228, .bool t229, .int .i64 t230, .int .i64 x213004_2]) ?_ 4 _ rfl; (with_reducible repeat (first | refine blk_drewN ?_ _ | refine blk_drew ?_ | refine blk_alloc ?_ _)); refine blk_put (cs := #[.int .i64 t227, .int .i64 t228, .bool t229, .int .i64 x213003_2, .int .i64 x213004_2]) ?_ 3 _ rfl; (with_reducible repeat (first | refine blk_drewN ?_ _ | refine blk_drew ?_ | refine blk_alloc ?_ _)); refine blk_put (cs := #[.int .i64 t227, .int .i64 t228, .bool x213002_2, .int .i64 x213003_2, .int .i64 x213004_2]) ?_ 2 _ rfl; (with_reducible repeat (first | refine blk_drewN ?_ _ | refine blk_drew ?_ | refine blk_alloc ?_ _)); refine blk_put (cs := #[.int .i64 t227, .int .i64 x213001_2, .bool x213002_2, .int .i64 x213003_2, .int .i64 x213004_2]) ?_ 1 _ rfl; (with_reducible repeat (first | refine blk_drewN ?_ _ | refine blk_drew ?_ | refine blk_alloc ?_ _)); refine blk_put (cs := #[.int .i64 x213000_2, .int .i64 x213001_2, .bool x213002_2, .int .i64 x213003_2, .int .i64 x213004_2]) ?_ 0 _ rfl; (with_reducible repeat (first | refine blk_drewN ?_ _ | refine blk_drew ?_ | refine blk_alloc ?_ _)); exact BK212.out⟩, ⟨by (with_reducible repeat (first | refine blk_drewN ?_ _ | refine blk_drew ?_ | refine blk_alloc ?_ _)); refine blk_far ?_ NB219_212.out _; (with_reducible repeat (first | refine blk_drewN ?_ _ | refine blk_drew ?_ | refine blk_alloc ?_ _)); refine blk_far ?_ NB219_212.out _; (with_reducible repeat (first | refine blk_drewN ?_ _ | refine blk_drew ?_ | refine blk_alloc ?_ _)); refine blk_far ?_ NB219_212.out _; (with_reducible repeat (first | refine blk_drewN ?_ _ | refine blk_drew ?_ | refine blk_alloc ?_ _)); refine blk_far ?_ NB219_212.out _; (with_reducible repeat (first | refine blk_drewN ?_ _ | refine blk_drew ?_ | refine blk_alloc ?_ _)); refine blk_far ?_ NB219_212.out _; (with_reducible repeat (first | refine blk_drewN ?_ _ | refine blk_drew ?_ | refine blk_alloc ?_ _)); exact BK219.out⟩, ⟨by repeat (first | (with_reducible first | exact HB.out | apply below_alloc | apply pw_below_drewN | apply below_drew1 | refine below_set ?_ GE212.out | refine below_set ?_ GE219.out) | exact HB.out)⟩⟩
                          · rw [if_neg c25] at H
                            have c25b0 : ((rd_T34 y213 x16_1).f1) = false := by simpa using c25
                            clear c25
                            (first | (refine wp_cond_false (congrArg Value.bool c25b0) ?_) | (refine wp_cond_true (congrArg (fun b_ => Value.bool (!b_)) c25b0) ?_) | rw [c25b0] | (simp only [i64_w, i32_w]; rw [c25b0]) | skip)
                            have H' := Aside0.mk H
                            clear H
                            go_wp2
                            go_meet
                            case rel => exact ⟨_, (0), (by first | rfl | (simp; done) | (simp [*]; done)), H', ⟨by have := HK1.out; have := HK2.out; first | omega | exact Nat.le_refl _⟩, ⟨by (with_reducible repeat (first | refine blk_drewN ?_ _ | refine blk_drew ?_ | refine blk_alloc ?_ _)); refine blk_put (cs := #[.int .i64 t227, .int .i64 t228, .bool t229, .int .i64 t230, .int .i64 x213004_2]) ?_ 4 _ rfl; (with_reducible repeat (first | refine blk_drewN ?_ _ | refine blk_drew ?_ | refine blk_alloc ?_ _)); refine blk_put (cs := #[.int .i64 t227, .int .i64 t228, .bool t229, .int .i64 x213003_2, .int .i64 x213004_2]) ?_ 3 _ rfl; (with_reducible repeat (first | refine blk_drewN ?_ _ | refine blk_drew ?_ | refine blk_alloc ?_ _)); refine blk_put (cs := #[.int .i64 t227, .int .i64 t228, .bool x213002_2, .int .i64 x213003_2, .int .i64 x213004_2]) ?_ 2 _ rfl; (with_reducible repeat (first | refine blk_drewN ?_ _ | refine blk_drew ?_ | refine blk_alloc ?_ _)); refine blk_put (cs := #[.int .i64 t227, .int .i64 x213001_2, .bool x213002_2, .int .i64 x213003_2, .int .i64 x213004_2]) ?_ 1 _ rfl; (with_reducible repeat (first | refine blk_drewN ?_ _ | refine blk_drew ?_ | refine blk_alloc ?_ _)); refine blk_put (cs := #[.int .i64 x213000_2, .int .i64 x213001_2, .bool x213002_2, .int .i64 x213003_2, .int .i64 x213004_2]) ?_ 0 _ rfl; (with_reducible repeat (first | refine blk_drewN ?_ _ | refine blk_drew ?_ | refine blk_alloc ?_ _)); exact BK212.out⟩, ⟨by (with_reducible repeat (first | refine blk_drewN ?_ _ | refine blk_drew ?_ | refine blk_alloc ?_ _)); refine blk_far ?_ NB219_212.out _; (with_reducible repeat (first | refine blk_drewN ?_ _ | refine blk_drew ?_ | refine blk_alloc ?_ _)); refine blk_far ?_ NB219_212.out _; (with_reducible repeat (first | refine blk_drewN ?_ _ | refine blk_drew ?_ | refine blk_alloc ?_ _)); refine blk_far ?_ NB219_212.out _; (with_reducible repeat (first | refine blk_drewN ?_ _ | refine blk_drew ?_ | refine blk_alloc ?_ _)); refine blk_far ?_ NB219_212.out _; (with_reducible repeat (first | refine blk_drewN ?_ _ | refine blk_drew ?_ | refine blk_alloc ?_ _)); refine blk_far ?_ NB219_212.out _; (with_reducible repeat (first | refine blk_drewN ?_ _ | refine blk_drew ?_ | refine blk_alloc ?_ _)); exact BK219.out⟩, ⟨by repeat (first | (with_reducible first | exact HB.out | apply below_alloc | apply pw_below_drewN | apply below_drew1 | refine below_set ?_ GE212.out | refine below_set ?_ GE219.out) | exact HB.out)⟩⟩
                        case rest =>
                          clear HC18
                          try clear c1
                          try clear c2
                          try clear p2
                          try clear q2
                          try clear hx2
                          try clear c3
                          try clear c3b0
                          try clear c3b1
                          try clear c4
                          try clear c4b0
                          try clear c4b1
                          try clear p6
                          try clear q8
                          try clear c9
                          try clear c9b0
                          try clear c10
                          try clear c10b0
                          try clear c11
                          try clear c11b0
                          try clear c12
                          try clear c12b0
                          try clear c12b1
                          try clear c14
                          try clear c16
                          try clear c16b0
                          try clear c19
                          try clear p21
                          try clear q21
                          try clear hx21
                          try clear c25
                          try clear c25b0
                          try clear hcz15_0
                          try clear hcz15_1
                          try clear hcz15_2
                          try clear hcz20_0
                          try clear hcz20_1
                          try clear hcz20_2
                          try clear hcz20_3
                          try clear hcz20_4
                          try clear hcz21_0
                          try clear hcz21_1
                          try clear hcz21_2
                          try clear hcz23_0
                          try clear hcz23_1
                          try clear hcz23_2
                          try clear hcz23_3
                          try clear hcz23_4
                          try clear hcz24_0
                          try clear hcz24_1
                          try clear hcz24_2
                          try clear hcz6_0
                          try clear hcz6_1
                          try clear hcz6_2
                          try clear hcz6_3
                          try clear hcz6_4
                          try clear hfz15_0
                          try clear hfz15_1
                          try clear hfz15_2
                          try clear hfz20_0
                          try clear hfz20_1
                          try clear hfz20_2
                          try clear hfz20_3
                          try clear hfz20_4
                          try clear hfz21_0
                          try clear hfz21_1
                          try clear hfz21_2
                          try clear hfz23_0
                          try clear hfz23_1
                          try clear hfz23_2
                          try clear hfz23_3
                          try clear hfz23_4
                          try clear hfz24_0
                          try clear hfz24_1
                          try clear hfz24_2
                          try clear hfz6_0
                          try clear hfz6_1
                          try clear hfz6_2
                          try clear hfz6_3
                          try clear hfz6_4
                          try clear hx218_0
                          try clear hx218_1
                          try clear hx218_2
                          try clear p2
                          try clear p218
                          try clear p6
                          try clear q2
                          try clear q218
                          try clear q8
                          obtain ⟨kq, x4_17, rfl, HA, HJ17, BK212, BK219, HB⟩ := hcut
                          cases kq with
                          | zero => exact absurd HA.out (by simp [jackstaylaw06_ConfBack.j2])
                          | succ kj17 =>
                            have H := HA.out
                            clear HA
                            simp only [jackstaylaw06_ConfBack.j2] at H
                            have HC26 := Aside0.mk H
                            clear H
                            go_upto_if 54 with (fail)
                            go_cut [4, 5] (fun v4 v5 wc => ∃ (kq : Nat) (x4_25 : Int) (x5_25 : Int), v4 = .int .i64 x4_25 ∧ v5 = .int .i64 x5_25 ∧ Aside0 (jackstaylaw06_ConfBack.j3 kq x4_25 x5_25 y213 (y213.length : Int) x16_1 (wrap64 (1 + (wrap64 ((rd_T34 y213 x16_1).f2)))) x42_2 t227 t228 t229 t230 t231 ((rd_T34 y213 x16_1).f0) ((rd_T34 y213 x16_1).f1) ((rd_T34 y213 x16_1).f2) = some r) ∧ Aside0 (kq ≤ kj17) ∧ Aside0 (wc.heap[gb212]? = some (.cells #[.int .i64 t227, .int .i64 t228, .bool t229, .int .i64 t230, .int .i64 t231] 23 (0, 0))) ∧ Aside0 (wc.heap[gb219]? = some (.cells #[.int .u8 ((rd_T34 y213 x16_1).f0), .bool ((rd_T34 y213 x16_1).f1), .int .u8 ((rd_T34 y213 x16_1).f2)] 34 (0, 0))) ∧ Aside0 (Below w.heap.size w wc))
                            case first =>
                              have H := HC26.out
                              clear HC26
                              by_cases c27 : x4_17 = 11
                              · rw [if_pos c27] at H
                                have c27b0 : (x4_17 == 11) = true := beq_iff_eq.mpr c27
                                have c27b1 : (x4_17 != 11) = false := bne_eq_false_iff_eq.mpr c27
                                clear c27
                                (first | rw [c27b0] | (simp only [i64_w, i32_w]; rw [c27b0]) | skip)
                                have H' := Aside0.mk H
                                clear H
                                go_wp2
                                go_meet
                                case rel => exact ⟨_, (0), (wrap64 (x5_2 + 1)), (by first | rfl | (simp; done) | (simp [*]; done)), (by first | rfl | (simp; done) | (simp [*]; done)), H', ⟨by have := HK1.out; have := HK2.out; have := HJ17.out; first | omega | exact Nat.le_refl _⟩, ⟨by (with_reducible repeat (first | refine blk_drewN ?_ _ | refine blk_drew ?_ | refine blk_alloc ?_ _)); exact BK212.out⟩, ⟨by (with_reducible repeat (first | refine blk_drewN ?_ _ | refine blk_drew ?_ | refine blk_alloc ?_ _)); exact BK219.out⟩, ⟨by repeat (first | (with_reducible first | exact HB.out | apply below_alloc | apply pw_below_drewN | apply below_drew1 | refine below_set ?_ GE212.out | refine below_set ?_ GE219.out) | exact HB.out)⟩⟩
                              · rw [if_neg c27] at H
                                have c27b0 : (x4_17 == 11) = false := beq_eq_false_iff_ne.mpr c27
                                have c27b1 : (x4_17 != 11) = true := bne_iff_ne.mpr c27
                                (first | rw [c27b0] | (simp only [i64_w, i32_w]; rw [c27b0]) | skip)
                                have H' := Aside0.mk H
                                clear H
                                go_wp2
                                go_meet
                                case rel => exact ⟨_, (x4_17), (x5_2), (by first | rfl | (simp; done) | (simp [*]; done)), (by first | rfl | (simp; done) | (simp [*]; done)), H', ⟨by have := HK1.out; have := HK2.out; have := HJ17.out; first | omega | exact Nat.le_refl _⟩, ⟨by (with_reducible repeat (first | refine blk_drewN ?_ _ | refine blk_drew ?_ | refine blk_alloc ?_ _)); exact BK212.out⟩, ⟨by (with_reducible repeat (first | refine blk_drewN ?_ _ | refine blk_drew ?_ | refine blk_alloc ?_ _)); exact BK219.out⟩, ⟨by repeat (first | (with_reducible first | exact HB.out | apply below_alloc | apply pw_below_drewN | apply below_drew1 | refine below_set ?_ GE212.out | refine below_set ?_ GE219.out) | exact HB.out)⟩⟩
                            case rest =>
                              clear HC26
                              try clear c1
                              try clear c2
                              try clear p2
                              try clear q2
                              try clear hx2
                              try clear c3
                              try clear c3b0
                              try clear c3b1
                              try clear c4
                              try clear c4b0
                              try clear c4b1
                              try clear p6
                              try clear q8
                              try clear c9
                              try clear c9b0
                              try clear c10
                              try clear c10b0
                              try clear c11
                              try clear c11b0
                              try clear c12
                              try clear c12b0
                              try clear c12b1
                              try clear c14
                              try clear c16
                              try clear c16b0
                              try clear c19
                              try clear p21
                              try clear q21
                              try clear hx21
                              try clear c25
                              try clear c25b0
                              try clear c27
                              try clear c27b0
                              try clear c27b1
                              try clear hcz15_0
                              try clear hcz15_1
                              try clear hcz15_2
                              try clear hcz20_0
                              try clear hcz20_1
                              try clear hcz20_2
                              try clear hcz20_3
                              try clear hcz20_4
                              try clear hcz21_0
                              try clear hcz21_1
                              try clear hcz21_2
                              try clear hcz23_0
                              try clear hcz23_1
                              try clear hcz23_2
                              try clear hcz23_3
                              try clear hcz23_4
                              try clear hcz24_0
                              try clear hcz24_1
                              try clear hcz24_2
                              try clear hcz6_0
                              try clear hcz6_1
                              try clear hcz6_2
                              try clear hcz6_3
                              try clear hcz6_4
                              try clear hfz15_0
                              try clear hfz15_1
                              try clear hfz15_2
                              try clear hfz20_0
                              try clear hfz20_1
                              try clear hfz20_2
                              try clear hfz20_3
                              try clear hfz20_4
                              try clear hfz21_0
                              try clear hfz21_1
                              try clear hfz21_2
                              try clear hfz23_0
                              try clear hfz23_1
                              try clear hfz23_2
                              try clear hfz23_3
                              try clear hfz23_4
                              try clear hfz24_0
                              try clear hfz24_1
                              try clear hfz24_2
                              try clear hfz6_0
                              try clear hfz6_1
                              try clear hfz6_2
                              try clear hfz6_3
                              try clear hfz6_4
                              try clear hx218_0
                              try clear hx218_1
                              try clear hx218_2
                              try clear p2
                              try clear p21
                              try clear p218
                              try clear p6
                              try clear q2
                              try clear q21
                              try clear q218
                              try clear q8
                              obtain ⟨kq, x4_25, x5_25, rfl, rfl, HA, HJ25, BK212, BK219, HB⟩ := hcut
                              cases kq with
                              | zero => exact absurd HA.out (by simp [jackstaylaw06_ConfBack.j3])
                              | succ kj25 =>
                                have H := HA.out
                                clear HA
                                simp only [jackstaylaw06_ConfBack.j3] at H
                                by_cases c28 : (t229 != (decide (x5_25 < 128))) = true
                                · rw [if_pos c28] at H
                                  have c28b0 : (t229 != (decide (x5_25 < 128))) = true := c28
                                  (try (have c28b1 : decide (t229 = (decide (x5_25 < 128))) = false := by simpa using c28))
                                  (try (have c28b2 : (t229 == (decide (x5_25 < 128))) = false := by simpa using c28))
                                  (try (have c28b3 : ¬ (t229 = (decide (x5_25 < 128))) := by simpa using c28))
                                  clear c28
                                  obtain rfl := Option.some.inj H
                                  exact absurd hT_ (by decide)
                                · rw [if_neg c28] at H
                                  have c28b0 : (t229 != (decide (x5_25 < 128))) = false := by simpa using c28
                                  (try (have c28b1 : decide (t229 = (decide (x5_25 < 128))) = true := by simpa using c28))
                                  (try (have c28b2 : (t229 == (decide (x5_25 < 128))) = true := by simpa using c28))
                                  clear c28
                                  by_cases c29 : t229 = true
                                  · subst c29
                                    have H1 : (jackstaylaw06_ConfBack.l1 kj25 x4_25 x5_25 y213 (y213.length : Int) x16_1 (wrap64 (1 + (wrap64 ((rd_T34 y213 x16_1).f2)))) (wrap64 (x42_2 + 1)) t227 t228 true t230 t231 ((rd_T34 y213 x16_1).f0) ((rd_T34 y213 x16_1).f1) ((rd_T34 y213 x16_1).f2)) = some r := by rw [if_pos rfl] at H; exact H
                                    clear H
                                    have H := H1
                                    clear H1
                                    have H' := Aside0.mk H
                                    clear H
                                    have hnb30 := NB212_219.out
                                    have hnc30 := NB219_212.out
                                    have hcz31_0 : wc.cell? ⟨gb212, 0, none⟩ = some (.int .i64 t227) := (blk_cell BK212.out 0).trans rfl
                                    have hcz31_1 : wc.cell? ⟨gb212, 1, none⟩ = some (.int .i64 t228) := (blk_cell BK212.out 1).trans rfl
                                    have hcz31_2 : wc.cell? ⟨gb212, 2, none⟩ = some (.bool true) := (blk_cell BK212.out 2).trans rfl
                                    have hcz31_3 : wc.cell? ⟨gb212, 3, none⟩ = some (.int .i64 t230) := (blk_cell BK212.out 3).trans rfl
                                    have hcz31_4 : wc.cell? ⟨gb212, 4, none⟩ = some (.int .i64 t231) := (blk_cell BK212.out 4).trans rfl
                                    have hfz31_0 := blk_frozen BK212.out 0
                                    have hfz31_1 := blk_frozen BK212.out 1
                                    have hfz31_2 := blk_frozen BK212.out 2
                                    have hfz31_3 := blk_frozen BK212.out 3
                                    have hfz31_4 := blk_frozen BK212.out 4
                                    go_wp2
                                    (first | go_roundg kj25 | ((try simp only [← hji2]); go_roundg kj25))
                                    case measure => have := HK1.out; have := HK2.out; have := HJ17.out; have := HJ25.out; omega
                                    case rel => exact ⟨(x4_25), (x5_25), (wrap64 (x42_2 + 1)), (t227), (t228), (true), (t230), (t231), (by first | rfl | (simp; done) | (simp [*]; done)), (by first | rfl | (simp; done) | (simp [*]; done)), (by first | rfl | (simp; done) | (simp [*]; done)), H', ⟨by have := HK1.out; have := HK2.out; have := HJ17.out; have := HJ25.out; omega⟩, ⟨by (with_reducible repeat (first | refine blk_drewN ?_ _ | refine blk_drew ?_ | refine blk_alloc ?_ _)); exact BK212.out⟩, ⟨by (with_reducible repeat (first | refine blk_drewN ?_ _ | refine blk_drew ?_ | refine blk_alloc ?_ _)); exact BK219.out⟩, ⟨by repeat (first | (with_reducible first | exact HB.out | apply below_alloc | apply pw_below_drewN | apply below_drew1 | refine below_set ?_ GE212.out | refine below_set ?_ GE219.out) | exact HB.out)⟩⟩
                                  · replace c29 := Bool.eq_false_iff.mpr c29
                                    subst c29
                                    have H1 : (if (t227 == 0 && (t228 == 0 && (!false && (t230 == 0 && (t231 == 0))))) = true then ((conf_Mode.f kj25 t227 t228 false t230 t231).bind fun t232 => (if t232 = 0 then ((jackstaylaw06_awake.f kj25).bind fun t233 => (some t233)) else (some false))) else (some false)) = some r := by rw [if_neg (show ¬ (false = true) by decide)] at H; exact H
                                    clear H
                                    have H := H1
                                    clear H1
                                    by_cases c32 : (t227 == 0 && (t228 == 0 && (!false && (t230 == 0 && (t231 == 0))))) = true
                                    · rw [if_pos c32] at H
                                      have c32b0 : (t227 == 0 && (t228 == 0 && (!false && (t230 == 0 && (t231 == 0))))) = true := c32
                                      (try (have c32b0n := c32b0; simp only [beq_false, beq_true, Bool.not_not, Bool.not_true, Bool.not_false, Bool.true_and, Bool.and_true, Bool.false_or, Bool.or_false] at c32b0n))
                                      (try (have c32b1 : decide (t227 = 0 && (t228 == 0 && (!false && (t230 == 0 && (t231 == 0))))) = true := by simpa using c32))
                                      (try (have c32b2 : (t227 == 0 && (t228 == 0 && (!false && (t230 == 0 && (t231 == 0))))) = true := by simpa using c32))
                                      clear c32
                                      replace H := Option.bind_eq_some_iff.mp H
                                      obtain ⟨t232, A330, H⟩ := H
                                      replace H : (if t232 = 0 then ((jackstaylaw06_awake.f kj25).bind fun t233 => (some t233)) else (some false)) = some r := H
                                      have A33 := Aside0.mk A330
                                      clear A330
                                      by_cases c34 : t232 = 0
                                      · rw [if_pos c34] at H
                                        have c34b0 : (t232 == 0) = true := beq_iff_eq.mpr c34
                                        have c34b1 : (t232 != 0) = false := bne_eq_false_iff_eq.mpr c34
                                        clear c34
                                        replace H := Option.bind_eq_some_iff.mp H
                                        obtain ⟨t233, A350, H⟩ := H
                                        replace H : (some t233) = some r := H
                                        have A35 := Aside0.mk A350
                                        clear A350
                                        obtain rfl := Option.some.inj H
                                        simp only [Option.some.injEq, Prod.mk.injEq] at H
                                        obtain ⟨rfl⟩ := H
                                        have hnb36 := NB212_219.out
                                        have hnc36 := NB219_212.out
                                        have hcz37_0 : wc.cell? ⟨gb212, 0, none⟩ = some (.int .i64 t227) := (blk_cell BK212.out 0).trans rfl
                                        have hcz37_1 : wc.cell? ⟨gb212, 1, none⟩ = some (.int .i64 t228) := (blk_cell BK212.out 1).trans rfl
                                        have hcz37_2 : wc.cell? ⟨gb212, 2, none⟩ = some (.bool false) := (blk_cell BK212.out 2).trans rfl
                                        have hcz37_3 : wc.cell? ⟨gb212, 3, none⟩ = some (.int .i64 t230) := (blk_cell BK212.out 3).trans rfl
                                        have hcz37_4 : wc.cell? ⟨gb212, 4, none⟩ = some (.int .i64 t231) := (blk_cell BK212.out 4).trans rfl
                                        have hfz37_0 := blk_frozen BK212.out 0
                                        have hfz37_1 := blk_frozen BK212.out 1
                                        have hfz37_2 := blk_frozen BK212.out 2
                                        have hfz37_3 := blk_frozen BK212.out 3
                                        have hfz37_4 := blk_frozen BK212.out 4
                                        go_wp2_with (first | (go_at_call 14; (with_reducible refine (conf_Mode.calls kj25 t227 t228 false t230 t231 t232 _ A33.out).mono ?_); rintro e w38 ⟨rfl, hb⟩; have n0_ := Aside0.mk (blk_below (g := gb212) (o := .cells #[.int .i64 t227, .int .i64 t228, .bool false, .int .i64 t230, .int .i64 t231] 23 (0, 0)) (by (with_reducible repeat (first | refine blk_drewN ?_ _ | refine blk_drew ?_ | refine blk_alloc ?_ _)); exact BK212.out) hb); have n1_ := Aside0.mk (blk_below (g := gb219) (o := .cells #[.int .u8 ((rd_T34 y213 x16_1).f0), .bool ((rd_T34 y213 x16_1).f1), .int .u8 ((rd_T34 y213 x16_1).f2)] 34 (0, 0)) (by (with_reducible repeat (first | refine blk_drewN ?_ _ | refine blk_drew ?_ | refine blk_alloc ?_ _)); exact BK219.out) hb); have n2_ := Aside0.mk (below_step (by repeat (first | (with_reducible first | exact HB.out | apply below_alloc | apply pw_below_drewN | apply below_drew1 | refine below_set ?_ GE212.out | refine below_set ?_ GE219.out) | exact HB.out)) hb); clear BK212; clear BK219; clear HB; have BK212 := n0_; have BK219 := n1_; have HB := n2_; clear n0_ n1_ n2_; (try clear hb); (try clear hb2); (try clear hk); (try clear hi)) | (go_at_call 18; (with_reducible refine (jackstaylaw06_awake.calls kj25  t233 _ A35.out).mono ?_); rintro e w39 ⟨rfl, hb⟩; have n0_ := Aside0.mk (blk_below (g := gb212) (o := .cells #[.int .i64 t227, .int .i64 t228, .bool false, .int .i64 t230, .int .i64 t231] 23 (0, 0)) (by (with_reducible repeat (first | refine blk_drewN ?_ _ | refine blk_drew ?_ | refine blk_alloc ?_ _)); exact BK212.out) hb); have n1_ := Aside0.mk (blk_below (g := gb219) (o := .cells #[.int .u8 ((rd_T34 y213 x16_1).f0), .bool ((rd_T34 y213 x16_1).f1), .int .u8 ((rd_T34 y213 x16_1).f2)] 34 (0, 0)) (by (with_reducible repeat (first | refine blk_drewN ?_ _ | refine blk_drew ?_ | refine blk_alloc ?_ _)); exact BK219.out) hb); have n2_ := Aside0.mk (below_step (by repeat (first | (with_reducible first | exact HB.out | apply below_alloc | apply pw_below_drewN | apply below_drew1 | refine below_set ?_ GE212.out | refine below_set ?_ GE219.out) | exact HB.out)) hb); clear BK212; clear BK219; clear HB; have BK212 := n0_; have BK219 := n1_; have HB := n2_; clear n0_ n1_ n2_; (try clear hb); (try clear hb2); (try clear hk); (try clear hi)))
                                        go_ret
                                        exact ⟨by first | rfl | (simp [errW_none, errW_some] <;> rfl) | (simp only [← hji2]; first | rfl | (simp [errW_none, errW_some] <;> rfl)) | (simp [*, errW_none, errW_some] <;> rfl), by repeat (first | (with_reducible first | exact HB.out | apply below_alloc | apply pw_below_drewN | apply below_drew1 | refine below_set ?_ GE212.out | refine below_set ?_ GE219.out) | exact HB.out)⟩
                                      · rw [if_neg c34] at H
                                        have c34b0 : (t232 == 0) = false := beq_eq_false_iff_ne.mpr c34
                                        have c34b1 : (t232 != 0) = true := bne_iff_ne.mpr c34
                                        obtain rfl := Option.some.inj H
                                        exact absurd hT_ (by decide)
                                    · rw [if_neg c32] at H
                                      have c32b0 : (t227 == 0 && (t228 == 0 && (!false && (t230 == 0 && (t231 == 0))))) = false := by simpa using c32
                                      (try (have c32b0n := c32b0; simp only [beq_false, beq_true, Bool.not_not, Bool.not_true, Bool.not_false, Bool.true_and, Bool.and_true, Bool.false_or, Bool.or_false] at c32b0n))
                                      (try (have c32b1 : decide (t227 = 0 && (t228 == 0 && (!false && (t230 == 0 && (t231 == 0))))) = false := by simpa using c32))
                                      (try (have c32b2 : (t227 == 0 && (t228 == 0 && (!false && (t230 == 0 && (t231 == 0))))) = false := by simpa using c32))
                                      (try (have c32b3 : ¬ (t227 = 0 && (t228 == 0 && (!false && (t230 == 0 && (t231 == 0))))) := by simpa using c32))
                                      clear c32
                                      obtain rfl := Option.some.inj H
                                      exact absurd hT_ (by decide)
                      · rw [if_neg c16] at H
                        have c16b0 : decide (x42_2 < (wrap64 (1 + (wrap64 ((rd_T34 y213 x16_1).f2))))) = false := decide_eq_false c16
                        clear c16
                        have H' := Aside0.mk H
                        clear H
                        go_wp2
                        (first | go_roundg k2 | ((try simp only [← hji2]); go_roundg k2))
                        case measure => have := HK1.out; have := HK2.out; omega
                        case rel => exact ⟨(x4_2), (x5_2), (wrap64 (x16_1 + 1)), (x213000_2), (x213001_2), (x213002_2), (x213003_2), (x213004_2), (by first | rfl | (simp; done) | (simp [*]; done)), (by first | rfl | (simp; done) | (simp [*]; done)), (by first | rfl | (simp; done) | (simp [*]; done)), H', ⟨by have := HK1.out; have := HK2.out; omega⟩, ⟨by (with_reducible repeat (first | refine blk_drewN ?_ _ | refine blk_drew ?_ | refine blk_alloc ?_ _)); exact BK212.out⟩, ⟨by repeat (first | (with_reducible first | exact HB.out | apply below_alloc | apply pw_below_drewN | apply below_drew1 | refine below_set ?_ GE212.out | refine below_set ?_ GE219.out) | exact HB.out)⟩⟩
                · rw [if_neg c12] at H
                  have c12b0 : (((rd_T34 y213 x16_1).f0) == 0) = false := beq_eq_false_iff_ne.mpr c12
                  have c12b1 : (((rd_T34 y213 x16_1).f0) != 0) = true := bne_iff_ne.mpr c12
                  replace H := Option.bind_eq_some_iff.mp H
                  obtain ⟨⟨t221, t222, t223, t224, t225, t226⟩, A400, H⟩ := H
                  replace H : (if (!(t221 == x213000_1) || (!(t222 == x213001_1) || (!(t223 == x213002_1) || (!(t224 == x213003_1) || (!(t225 == x213004_1)))))) = true then (if x213002_1 = true then (some false) else (jackstaylaw06_ConfBack.l0 k1 x4_1 x5_1 y213 (y213.length : Int) (wrap64 (x16_1 + 1)) t221 t222 t223 t224 t225)) else (jackstaylaw06_ConfBack.l0 k1 x4_1 x5_1 y213 (y213.length : Int) (wrap64 (x16_1 + 1)) t221 t222 t223 t224 t225)) = some r := H
                  have A40 := Aside0.mk A400
                  clear A400
                  by_cases c41 : (!(t221 == x213000_1) || (!(t222 == x213001_1) || (!(t223 == x213002_1) || (!(t224 == x213003_1) || (!(t225 == x213004_1)))))) = true
                  · rw [if_pos c41] at H
                    have c41b0 : (!(t221 == x213000_1) || (!(t222 == x213001_1) || (!(t223 == x213002_1) || (!(t224 == x213003_1) || (!(t225 == x213004_1)))))) = true := c41
                    clear c41
                    by_cases c42 : x213002_1 = true
                    · subst c42
                      have H1 : (some false) = some r := by rw [if_pos rfl] at H; exact H
                      clear H
                      have H := H1
                      clear H1
                      obtain rfl := Option.some.inj H
                      exact absurd hT_ (by decide)
                    · replace c42 := Bool.eq_false_iff.mpr c42
                      subst c42
                      (try (have c32b0n := c32b0; simp only [beq_false, beq_true, Bool.not_not, Bool.not_true, Bool.not_false, Bool.true_and, Bool.and_true, Bool.false_or, Bool.or_false] at c32b0n))
                      (try (have c41b0n := c41b0; simp only [beq_false, beq_true, Bool.not_not, Bool.not_true, Bool.not_false, Bool.true_and, Bool.and_true, Bool.false_or, Bool.or_false] at c41b0n))
                      have H1 : (jackstaylaw06_ConfBack.l0 k1 x4_1 x5_1 y213 (y213.length : Int) (wrap64 (x16_1 + 1)) t221 t222 t223 t224 t225) = some r := by rw [if_neg (show ¬ (false = true) by decide)] at H; exact H
                      clear H
                      have H := H1
                      clear H1
                      have H' := Aside0.mk H
                      clear H
                      have p218 : 0 ≤ (x16_1 : Int) := of_decide_eq_true (by first | (with_reducible assumption) | assumption)
                      have q218 : x16_1 < (y213.length : Int) := of_decide_eq_true (by first | (with_reducible assumption) | assumption)
                      obtain ⟨ad218, e218, hx218_0, hx218_1, hx218_2⟩ := at_T34 HR216.out x16_1 p218 q218
                      cases e218
                      (try replace hx218_0 := (HB.out.cell (World.block_lt_of_cell? w _ hx218_0)).trans hx218_0)
                      (try replace hx218_1 := (HB.out.cell (World.block_lt_of_cell? w _ hx218_1)).trans hx218_1)
                      (try replace hx218_2 := (HB.out.cell (World.block_lt_of_cell? w _ hx218_2)).trans hx218_2)
                      replace p218 := eq_true p218
                      replace q218 := eq_true q218
                      (try (have q218z := q218; simp only [List.length_drop, List.length_take] at q218z))
                      go_wp2_with (first | ((with_reducible refine gate_dst (N := 7) rfl ?_); refine box_event ?hg (N := 7) ?hd (cs := #[.int .u8 0, .bool false, .int .u8 0]) (t := 34) ?hr ?_; (case hd => rfl); (case hg => rfl); (case hr => first | (go_simp; done) | (go_simp; rfl)); intro gb219 hg w43 hbox hb; have n0_ := Aside0.mk (blk_below (g := gb212) (o := .cells #[.int .i64 x213000_1, .int .i64 x213001_1, .bool false, .int .i64 x213003_1, .int .i64 x213004_1] 23 (0, 0)) (by (with_reducible repeat (first | refine blk_drewN ?_ _ | refine blk_drew ?_ | refine blk_alloc ?_ _)); exact BK212.out) hb); have n1_ := Aside0.mk (below_step (by repeat (first | (with_reducible first | exact HB.out | apply below_alloc | apply pw_below_drewN | apply below_drew1 | refine below_set ?_ GE212.out) | exact HB.out)) hb); have n2_ := Aside0.mk (hbox); have n3_ := Aside0.mk ((by rw [hg]; exact (below_size (by repeat (first | (with_reducible first | exact HB.out | apply below_alloc | apply pw_below_drewN | apply below_drew1 | refine below_set ?_ GE212.out) | exact HB.out))) : w.heap.size ≤ gb219)); have n4_ := Aside0.mk ((by rw [hg]; exact (below_size (by repeat (first | (with_reducible first | exact HB.out | apply below_alloc | apply pw_below_drewN | apply below_drew1 | refine below_set ?_ GE212.out) | exact HB.out))) : w.heap.size ≤ gb219)); have n5_ := Aside0.mk ((by rw [hg]; exact Nat.ne_of_lt (blk_lt (g := gb212) (o := .cells #[.int .i64 x213000_1, .int .i64 x213001_1, .bool false, .int .i64 x213003_1, .int .i64 x213004_1] 23 (0, 0)) (by (with_reducible repeat (first | refine blk_drewN ?_ _ | refine blk_drew ?_ | refine blk_alloc ?_ _)); exact BK212.out)) : gb212 ≠ gb219)); have n6_ := Aside0.mk ((by rw [hg]; exact Nat.ne_of_gt (blk_lt (g := gb212) (o := .cells #[.int .i64 x213000_1, .int .i64 x213001_1, .bool false, .int .i64 x213003_1, .int .i64 x213004_1] 23 (0, 0)) (by (with_reducible repeat (first | refine blk_drewN ?_ _ | refine blk_drew ?_ | refine blk_alloc ?_ _)); exact BK212.out)) : gb219 ≠ gb212)); clear BK212; clear HB; have BK212 := n0_; have HB := n1_; have BK219 := n2_; have GW219 := n3_; have GE219 := n4_; have NB212_219 := n5_; have NB219_212 := n6_; clear n0_ n1_ n2_ n3_ n4_ n5_ n6_; clear hb hbox hg; have hnb44 := NB219_212.out; have hnc44 := NB212_219.out; have hcz45_0 : w43.cell? ⟨gb219, 0, none⟩ = some (.int .u8 0) := (blk_cell BK219.out 0).trans rfl; have hcz45_1 : w43.cell? ⟨gb219, 1, none⟩ = some (.bool false) := (blk_cell BK219.out 1).trans rfl; have hcz45_2 : w43.cell? ⟨gb219, 2, none⟩ = some (.int .u8 0) := (blk_cell BK219.out 2).trans rfl; have hfz45_0 := blk_frozen BK219.out 0; have hfz45_1 := blk_frozen BK219.out 1; have hfz45_2 := blk_frozen BK219.out 2; have hcz46_0 : w43.cell? ⟨gb212, 0, none⟩ = some (.int .i64 x213000_1) := (blk_cell BK212.out 0).trans rfl; have hcz46_1 : w43.cell? ⟨gb212, 1, none⟩ = some (.int .i64 x213001_1) := (blk_cell BK212.out 1).trans rfl; have hcz46_2 : w43.cell? ⟨gb212, 2, none⟩ = some (.bool false) := (blk_cell BK212.out 2).trans rfl; have hcz46_3 : w43.cell? ⟨gb212, 3, none⟩ = some (.int .i64 x213003_1) := (blk_cell BK212.out 3).trans rfl; have hcz46_4 : w43.cell? ⟨gb212, 4, none⟩ = some (.int .i64 x213004_1) := (blk_cell BK212.out 4).trans rfl; have hfz46_0 := blk_frozen BK212.out 0; have hfz46_1 := blk_frozen BK212.out 1; have hfz46_2 := blk_frozen BK212.out 2; have hfz46_3 := blk_frozen BK212.out 3; have hfz46_4 := blk_frozen BK212.out 4) | ((with_reducible refine gate_dst (N := 8) rfl ?_); refine box_event ?hg (N := 8) ?hd (cs := #[.int .i64 0, .int .i64 0, .bool false, .int .i64 0, .int .i64 0]) (t := 23) ?hr ?_; (case hd => rfl); (case hg => rfl); (case hr => first | (go_simp; done) | (go_simp; rfl)); intro gb220 hg w47 hbox hb; have n0_ := Aside0.mk (blk_below (g := gb212) (o := .cells #[.int .i64 x213000_1, .int .i64 x213001_1, .bool false, .int .i64 x213003_1, .int .i64 x213004_1] 23 (0, 0)) (by (with_reducible repeat (first | refine blk_drewN ?_ _ | refine blk_drew ?_ | refine blk_alloc ?_ _)); refine blk_far ?_ NB212_219.out _; (with_reducible repeat (first | refine blk_drewN ?_ _ | refine blk_drew ?_ | refine blk_alloc ?_ _)); refine blk_far ?_ NB212_219.out _; (with_reducible repeat (first | refine blk_drewN ?_ _ | refine blk_drew ?_ | refine blk_alloc ?_ _)); refine blk_far ?_ NB212_219.out _; (with_reducible repeat (first | refine blk_drewN ?_ _ | refine blk_drew ?_ | refine blk_alloc ?_ _)); exact BK212.out) hb); have n1_ := Aside0.mk (blk_below (g := gb219) (o := .cells #[.int .u8 ((rd_T34 y213 x16_1).f0), .bool ((rd_T34 y213 x16_1).f1), .int .u8 ((rd_T34 y213 x16_1).f2)] 34 (0, 0)) (by (with_reducible repeat (first | refine blk_drewN ?_ _ | refine blk_drew ?_ | refine blk_alloc ?_ _)); refine blk_put (cs := #[.int .u8 ((rd_T34 y213 x16_1).f0), .bool ((rd_T34 y213 x16_1).f1), .int .u8 0]) ?_ 2 _ rfl; (with_reducible repeat (first | refine blk_drewN ?_ _ | refine blk_drew ?_ | refine blk_alloc ?_ _)); refine blk_put (cs := #[.int .u8 ((rd_T34 y213 x16_1).f0), .bool false, .int .u8 0]) ?_ 1 _ rfl; (with_reducible repeat (first | refine blk_drewN ?_ _ | refine blk_drew ?_ | refine blk_alloc ?_ _)); refine blk_put (cs := #[.int .u8 0, .bool false, .int .u8 0]) ?_ 0 _ rfl; (with_reducible repeat (first | refine blk_drewN ?_ _ | refine blk_drew ?_ | refine blk_alloc ?_ _)); exact BK219.out) hb); have n2_ := Aside0.mk (below_step (by repeat (first | (with_reducible first | exact HB.out | apply below_alloc | apply pw_below_drewN | apply below_drew1 | refine below_set ?_ GE212.out | refine below_set ?_ GE219.out) | exact HB.out)) hb); have n3_ := Aside0.mk (hbox); have n4_ := Aside0.mk ((by rw [hg]; exact (below_size (by repeat (first | (with_reducible first | exact HB.out | apply below_alloc | apply pw_below_drewN | apply below_drew1 | refine below_set ?_ GE212.out | refine below_set ?_ GE219.out) | exact HB.out))) : w.heap.size ≤ gb220)); have n5_ := Aside0.mk ((by rw [hg]; exact (below_size (by repeat (first | (with_reducible first | exact HB.out | apply below_alloc | apply pw_below_drewN | apply below_drew1 | refine below_set ?_ GE212.out | refine below_set ?_ GE219.out) | exact HB.out))) : w.heap.size ≤ gb220)); have n6_ := Aside0.mk ((by rw [hg]; exact Nat.ne_of_lt (blk_lt (g := gb212) (o := .cells #[.int .i64 x213000_1, .int .i64 x213001_1, .bool false, .int .i64 x213003_1, .int .i64 x213004_1] 23 (0, 0)) (by (with_reducible repeat (first | refine blk_drewN ?_ _ | refine blk_drew ?_ | refine blk_alloc ?_ _)); refine blk_far ?_ NB212_219.out _; (with_reducible repeat (first | refine blk_drewN ?_ _ | refine blk_drew ?_ | refine blk_alloc ?_ _)); refine blk_far ?_ NB212_219.out _; (with_reducible repeat (first | refine blk_drewN ?_ _ | refine blk_drew ?_ | refine blk_alloc ?_ _)); refine blk_far ?_ NB212_219.out _; (with_reducible repeat (first | refine blk_drewN ?_ _ | refine blk_drew ?_ | refine blk_alloc ?_ _)); exact BK212.out)) : gb212 ≠ gb220)); have n7_ := Aside0.mk ((by rw [hg]; exact Nat.ne_of_gt (blk_lt (g := gb212) (o := .cells #[.int .i64 x213000_1, .int .i64 x213001_1, .bool false, .int .i64 x213003_1, .int .i64 x213004_1] 23 (0, 0)) (by (with_reducible repeat (first | refine blk_drewN ?_ _ | refine blk_drew ?_ | refine blk_alloc ?_ _)); refine blk_far ?_ NB212_219.out _; (with_reducible repeat (first | refine blk_drewN ?_ _ | refine blk_drew ?_ | refine blk_alloc ?_ _)); refine blk_far ?_ NB212_219.out _; (with_reducible repeat (first | refine blk_drewN ?_ _ | refine blk_drew ?_ | refine blk_alloc ?_ _)); refine blk_far ?_ NB212_219.out _; (with_reducible repeat (first | refine blk_drewN ?_ _ | refine blk_drew ?_ | refine blk_alloc ?_ _)); exact BK212.out)) : gb220 ≠ gb212)); have n8_ := Aside0.mk ((by rw [hg]; exact Nat.ne_of_lt (blk_lt (g := gb219) (o := .cells #[.int .u8 ((rd_T34 y213 x16_1).f0), .bool ((rd_T34 y213 x16_1).f1), .int .u8 ((rd_T34 y213 x16_1).f2)] 34 (0, 0)) (by (with_reducible repeat (first | refine blk_drewN ?_ _ | refine blk_drew ?_ | refine blk_alloc ?_ _)); refine blk_put (cs := #[.int .u8 ((rd_T34 y213 x16_1).f0), .bool ((rd_T34 y213 x16_1).f1), .int .u8 0]) ?_ 2 _ rfl; (with_reducible repeat (first | refine blk_drewN ?_ _ | refine blk_drew ?_ | refine blk_alloc ?_ _)); refine blk_put (cs := #[.int .u8 ((rd_T34 y213 x16_1).f0), .bool false, .int .u8 0]) ?_ 1 _ rfl; (with_reducible repeat (first | refine blk_drewN ?_ _ | refine blk_drew ?_ | refine blk_alloc ?_ _)); refine blk_put (cs := #[.int .u8 0, .bool false, .int .u8 0]) ?_ 0 _ rfl; (with_reducible repeat (first | refine blk_drewN ?_ _ | refine blk_drew ?_ | refine blk_alloc ?_ _)); exact BK219.out)) : gb219 ≠ gb220)); have n9_ := Aside0.mk ((by rw [hg]; exact Nat.ne_of_gt (blk_lt (g := gb219) (o := .cells #[.int .u8 ((rd_T34 y213 x16_1).f0), .bool ((rd_T34 y213 x16_1).f1), .int .u8 ((rd_T34 y213 x16_1).f2)] 34 (0, 0)) (by (with_reducible repeat (first | refine blk_drewN ?_ _ | refine blk_drew ?_ | refine blk_alloc ?_ _)); refine blk_put (cs := #[.int .u8 ((rd_T34 y213 x16_1).f0), .bool ((rd_T34 y213 x16_1).f1), .int .u8 0]) ?_ 2 _ rfl; (with_reducible repeat (first | refine blk_drewN ?_ _ | refine blk_drew ?_ | refine blk_alloc ?_ _)); refine blk_put (cs := #[.int .u8 ((rd_T34 y213 x16_1).f0), .bool false, .int .u8 0]) ?_ 1 _ rfl; (with_reducible repeat (first | refine blk_drewN ?_ _ | refine blk_drew ?_ | refine blk_alloc ?_ _)); refine blk_put (cs := #[.int .u8 0, .bool false, .int .u8 0]) ?_ 0 _ rfl; (with_reducible repeat (first | refine blk_drewN ?_ _ | refine blk_drew ?_ | refine blk_alloc ?_ _)); exact BK219.out)) : gb220 ≠ gb219)); clear BK212; clear BK219; clear HB; have BK212 := n0_; have BK219 := n1_; have HB := n2_; have BK220 := n3_; have GW220 := n4_; have GE220 := n5_; have NB212_220 := n6_; have NB220_212 := n7_; have NB219_220 := n8_; have NB220_219 := n9_; clear n0_ n1_ n2_ n3_ n4_ n5_ n6_ n7_ n8_ n9_; clear hb hbox hg; have hnb48 := NB220_212.out; have hnc48 := NB212_220.out; have hnb49 := NB220_219.out; have hnc49 := NB219_220.out; have hcz50_0 : w47.cell? ⟨gb220, 0, none⟩ = some (.int .i64 0) := (blk_cell BK220.out 0).trans rfl; have hcz50_1 : w47.cell? ⟨gb220, 1, none⟩ = some (.int .i64 0) := (blk_cell BK220.out 1).trans rfl; have hcz50_2 : w47.cell? ⟨gb220, 2, none⟩ = some (.bool false) := (blk_cell BK220.out 2).trans rfl; have hcz50_3 : w47.cell? ⟨gb220, 3, none⟩ = some (.int .i64 0) := (blk_cell BK220.out 3).trans rfl; have hcz50_4 : w47.cell? ⟨gb220, 4, none⟩ = some (.int .i64 0) := (blk_cell BK220.out 4).trans rfl; have hfz50_0 := blk_frozen BK220.out 0; have hfz50_1 := blk_frozen BK220.out 1; have hfz50_2 := blk_frozen BK220.out 2; have hfz50_3 := blk_frozen BK220.out 3; have hfz50_4 := blk_frozen BK220.out 4; have hcz51_0 : w47.cell? ⟨gb212, 0, none⟩ = some (.int .i64 x213000_1) := (blk_cell BK212.out 0).trans rfl; have hcz51_1 : w47.cell? ⟨gb212, 1, none⟩ = some (.int .i64 x213001_1) := (blk_cell BK212.out 1).trans rfl; have hcz51_2 : w47.cell? ⟨gb212, 2, none⟩ = some (.bool false) := (blk_cell BK212.out 2).trans rfl; have hcz51_3 : w47.cell? ⟨gb212, 3, none⟩ = some (.int .i64 x213003_1) := (blk_cell BK212.out 3).trans rfl; have hcz51_4 : w47.cell? ⟨gb212, 4, none⟩ = some (.int .i64 x213004_1) := (blk_cell BK212.out 4).trans rfl; have hfz51_0 := blk_frozen BK212.out 0; have hfz51_1 := blk_frozen BK212.out 1; have hfz51_2 := blk_frozen BK212.out 2; have hfz51_3 := blk_frozen BK212.out 3; have hfz51_4 := blk_frozen BK212.out 4; have hcz52_0 : w47.cell? ⟨gb219, 0, none⟩ = some (.int .u8 ((rd_T34 y213 x16_1).f0)) := (blk_cell BK219.out 0).trans rfl; have hcz52_1 : w47.cell? ⟨gb219, 1, none⟩ = some (.bool ((rd_T34 y213 x16_1).f1)) := (blk_cell BK219.out 1).trans rfl; have hcz52_2 : w47.cell? ⟨gb219, 2, none⟩ = some (.int .u8 ((rd_T34 y213 x16_1).f2)) := (blk_cell BK219.out 2).trans rfl; have hfz52_0 := blk_frozen BK219.out 0; have hfz52_1 := blk_frozen BK219.out 1; have hfz52_2 := blk_frozen BK219.out 2) | ((with_reducible refine gate_callee (f := 10) rfl ?_); refine goesL_ (some 28) rfl rfl Try.func10 (by kernel_rfl) rfl #[.agg #[.int .i64 x213000_1, .int .i64 x213001_1, .bool false, .int .i64 x213003_1, .int .i64 x213004_1], .int .u8 ((rd_T34 y213 x16_1).f0)] rfl (by (try simp only [List.map_toArray, List.map_cons, List.map_nil]); first | done | rfl | (simp only [List.length_drop, List.length_take]; rfl)) ?_; (with_reducible refine (conf_Event.calls k1 x213000_1 x213001_1 false x213003_1 x213004_1 ((rd_T34 y213 x16_1).f0) t221 t222 t223 t224 t225 t226 _ A40.out).mono ?_); rintro e w53 ⟨rfl, hb⟩; refine ⟨_, rfl, ?_⟩; have n0_ := Aside0.mk (blk_below (g := gb212) (o := .cells #[.int .i64 x213000_1, .int .i64 x213001_1, .bool false, .int .i64 x213003_1, .int .i64 x213004_1] 23 (0, 0)) (by (with_reducible repeat (first | refine blk_drewN ?_ _ | refine blk_drew ?_ | refine blk_alloc ?_ _)); refine blk_far ?_ NB212_220.out _; (with_reducible repeat (first | refine blk_drewN ?_ _ | refine blk_drew ?_ | refine blk_alloc ?_ _)); refine blk_far ?_ NB212_220.out _; (with_reducible repeat (first | refine blk_drewN ?_ _ | refine blk_drew ?_ | refine blk_alloc ?_ _)); refine blk_far ?_ NB212_220.out _; (with_reducible repeat (first | refine blk_drewN ?_ _ | refine blk_drew ?_ | refine blk_alloc ?_ _)); refine blk_far ?_ NB212_220.out _; (with_reducible repeat (first | refine blk_drewN ?_ _ | refine blk_drew ?_ | refine blk_alloc ?_ _)); refine blk_far ?_ NB212_220.out _; (with_reducible repeat (first | refine blk_drewN ?_ _ | refine blk_drew ?_ | refine blk_alloc ?_ _)); exact BK212.out) hb); have n1_ := Aside0.mk (blk_below (g := gb219) (o := .cells #[.int .u8 ((rd_T34 y213 x16_1).f0), .bool ((rd_T34 y213 x16_1).f1), .int .u8 ((rd_T34 y213 x16_1).f2)] 34 (0, 0)) (by (with_reducible repeat (first | refine blk_drewN ?_ _ | refine blk_drew ?_ | refine blk_alloc ?_ _)); refine blk_far ?_ NB219_220.out _; (with_reducible repeat (first | refine blk_drewN ?_ _ | refine blk_drew ?_ | refine blk_alloc ?_ _)); refine blk_far ?_ NB219_220.out _; (with_reducible repeat (first | refine blk_drewN ?_ _ | refine blk_drew ?_ | refine blk_alloc ?_ _)); refine blk_far ?_ NB219_220.out _; (with_reducible repeat (first | refine blk_drewN ?_ _ | refine blk_drew ?_ | refine blk_alloc ?_ _)); refine blk_far ?_ NB219_220.out _; (with_reducible repeat (first | refine blk_drewN ?_ _ | refine blk_drew ?_ | refine blk_alloc ?_ _)); refine blk_far ?_ NB219_220.out _; (with_reducible repeat (first | refine blk_drewN ?_ _ | refine blk_drew ?_ | refine blk_alloc ?_ _)); exact BK219.out) hb); have n2_ := Aside0.mk (blk_below (g := gb220) (o := .cells #[.int .i64 x213000_1, .int .i64 x213001_1, .bool false, .int .i64 x213003_1, .int .i64 x213004_1] 23 (0, 0)) (by (with_reducible repeat (first | refine blk_drewN ?_ _ | refine blk_drew ?_ | refine blk_alloc ?_ _)); refine blk_put (cs := #[.int .i64 x213000_1, .int .i64 x213001_1, .bool false, .int .i64 x213003_1, .int .i64 0]) ?_ 4 _ rfl; (with_reducible repeat (first | refine blk_drewN ?_ _ | refine blk_drew ?_ | refine blk_alloc ?_ _)); refine blk_put (cs := #[.int .i64 x213000_1, .int .i64 x213001_1, .bool false, .int .i64 0, .int .i64 0]) ?_ 3 _ rfl; (with_reducible repeat (first | refine blk_drewN ?_ _ | refine blk_drew ?_ | refine blk_alloc ?_ _)); refine blk_put (cs := #[.int .i64 x213000_1, .int .i64 x213001_1, .bool false, .int .i64 0, .int .i64 0]) ?_ 2 _ rfl; (with_reducible repeat (first | refine blk_drewN ?_ _ | refine blk_drew ?_ | refine blk_alloc ?_ _)); refine blk_put (cs := #[.int .i64 x213000_1, .int .i64 0, .bool false, .int .i64 0, .int .i64 0]) ?_ 1 _ rfl; (with_reducible repeat (first | refine blk_drewN ?_ _ | refine blk_drew ?_ | refine blk_alloc ?_ _)); refine blk_put (cs := #[.int .i64 0, .int .i64 0, .bool false, .int .i64 0, .int .i64 0]) ?_ 0 _ rfl; (with_reducible repeat (first | refine blk_drewN ?_ _ | refine blk_drew ?_ | refine blk_alloc ?_ _)); exact BK220.out) hb); have n3_ := Aside0.mk (below_step (by repeat (first | (with_reducible first | exact HB.out | apply below_alloc | apply pw_below_drewN | apply below_drew1 | refine below_set ?_ GE212.out | refine below_set ?_ GE219.out | refine below_set ?_ GE220.out) | exact HB.out)) hb); clear BK212; clear BK219; clear BK220; clear HB; have BK212 := n0_; have BK219 := n1_; have BK220 := n2_; have HB := n3_; clear n0_ n1_ n2_ n3_; (try clear hb); (try clear hb2); (try clear hk); (try clear hi); have hcz54_0 : w53.cell? ⟨gb212, 0, none⟩ = some (.int .i64 x213000_1) := (blk_cell BK212.out 0).trans rfl; have hcz54_1 : w53.cell? ⟨gb212, 1, none⟩ = some (.int .i64 x213001_1) := (blk_cell BK212.out 1).trans rfl; have hcz54_2 : w53.cell? ⟨gb212, 2, none⟩ = some (.bool false) := (blk_cell BK212.out 2).trans rfl; have hcz54_3 : w53.cell? ⟨gb212, 3, none⟩ = some (.int .i64 x213003_1) := (blk_cell BK212.out 3).trans rfl; have hcz54_4 : w53.cell? ⟨gb212, 4, none⟩ = some (.int .i64 x213004_1) := (blk_cell BK212.out 4).trans rfl; have hfz54_0 := blk_frozen BK212.out 0; have hfz54_1 := blk_frozen BK212.out 1; have hfz54_2 := blk_frozen BK212.out 2; have hfz54_3 := blk_frozen BK212.out 3; have hfz54_4 := blk_frozen BK212.out 4; have hcz55_0 : w53.cell? ⟨gb220, 0, none⟩ = some (.int .i64 x213000_1) := (blk_cell BK220.out 0).trans rfl; have hcz55_1 : w53.cell? ⟨gb220, 1, none⟩ = some (.int .i64 x213001_1) := (blk_cell BK220.out 1).trans rfl; have hcz55_2 : w53.cell? ⟨gb220, 2, none⟩ = some (.bool false) := (blk_cell BK220.out 2).trans rfl; have hcz55_3 : w53.cell? ⟨gb220, 3, none⟩ = some (.int .i64 x213003_1) := (blk_cell BK220.out 3).trans rfl; have hcz55_4 : w53.cell? ⟨gb220, 4, none⟩ = some (.int .i64 x213004_1) := (blk_cell BK220.out 4).trans rfl; have hfz55_0 := blk_frozen BK220.out 0; have hfz55_1 := blk_frozen BK220.out 1; have hfz55_2 := blk_frozen BK220.out 2; have hfz55_3 := blk_frozen BK220.out 3; have hfz55_4 := blk_frozen BK220.out 4))
                      (first | go_roundg k1 | ((try simp only [← hji2]); go_roundg k1))
                      case measure => have := HK1.out; omega
                      case rel => exact ⟨(x4_1), (x5_1), (wrap64 (x16_1 + 1)), (t221), (t222), (t223), (t224), (t225), (by first | rfl | (simp; done) | (simp [*]; done)), (by first | rfl | (simp; done) | (simp [*]; done)), (by first | rfl | (simp; done) | (simp [*]; done)), H', ⟨by have := HK1.out; omega⟩, ⟨by (with_reducible repeat (first | refine blk_drewN ?_ _ | refine blk_drew ?_ | refine blk_alloc ?_ _)); refine blk_put (cs := #[.int .i64 t221, .int .i64 t222, .bool t223, .int .i64 t224, .int .i64 x213004_1]) ?_ 4 _ rfl; (with_reducible repeat (first | refine blk_drewN ?_ _ | refine blk_drew ?_ | refine blk_alloc ?_ _)); refine blk_put (cs := #[.int .i64 t221, .int .i64 t222, .bool t223, .int .i64 x213003_1, .int .i64 x213004_1]) ?_ 3 _ rfl; (with_reducible repeat (first | refine blk_drewN ?_ _ | refine blk_drew ?_ | refine blk_alloc ?_ _)); refine blk_put (cs := #[.int .i64 t221, .int .i64 t222, .bool false, .int .i64 x213003_1, .int .i64 x213004_1]) ?_ 2 _ rfl; (with_reducible repeat (first | refine blk_drewN ?_ _ | refine blk_drew ?_ | refine blk_alloc ?_ _)); refine blk_put (cs := #[.int .i64 t221, .int .i64 x213001_1, .bool false, .int .i64 x213003_1, .int .i64 x213004_1]) ?_ 1 _ rfl; (with_reducible repeat (first | refine blk_drewN ?_ _ | refine blk_drew ?_ | refine blk_alloc ?_ _)); refine blk_put (cs := #[.int .i64 x213000_1, .int .i64 x213001_1, .bool false, .int .i64 x213003_1, .int .i64 x213004_1]) ?_ 0 _ rfl; (with_reducible repeat (first | refine blk_drewN ?_ _ | refine blk_drew ?_ | refine blk_alloc ?_ _)); exact BK212.out⟩, ⟨by repeat (first | (with_reducible first | exact HB.out | apply below_alloc | apply pw_below_drewN | apply below_drew1 | refine below_set ?_ GE212.out | refine below_set ?_ GE219.out | refine below_set ?_ GE220.out) | exact HB.out)⟩⟩
                  · rw [if_neg c41] at H
                    have c41b0 : (!(t221 == x213000_1) || (!(t222 == x213001_1) || (!(t223 == x213002_1) || (!(t224 == x213003_1) || (!(t225 == x213004_1)))))) = false := by simpa using c41
                    clear c41
                    have H' := Aside0.mk H
                    clear H
                    have p218 : 0 ≤ (x16_1 : Int) := of_decide_eq_true (by first | (with_reducible assumption) | assumption)
                    have q218 : x16_1 < (y213.length : Int) := of_decide_eq_true (by first | (with_reducible assumption) | assumption)
                    obtain ⟨ad218, e218, hx218_0, hx218_1, hx218_2⟩ := at_T34 HR216.out x16_1 p218 q218
                    cases e218
                    (try replace hx218_0 := (HB.out.cell (World.block_lt_of_cell? w _ hx218_0)).trans hx218_0)
                    (try replace hx218_1 := (HB.out.cell (World.block_lt_of_cell? w _ hx218_1)).trans hx218_1)
                    (try replace hx218_2 := (HB.out.cell (World.block_lt_of_cell? w _ hx218_2)).trans hx218_2)
                    replace p218 := eq_true p218
                    replace q218 := eq_true q218
                    (try (have q218z := q218; simp only [List.length_drop, List.length_take] at q218z))
                    go_wp2_with (first | ((with_reducible refine gate_dst (N := 7) rfl ?_); refine box_event ?hg (N := 7) ?hd (cs := #[.int .u8 0, .bool false, .int .u8 0]) (t := 34) ?hr ?_; (case hd => rfl); (case hg => rfl); (case hr => first | (go_simp; done) | (go_simp; rfl)); intro gb219 hg w56 hbox hb; have n0_ := Aside0.mk (blk_below (g := gb212) (o := .cells #[.int .i64 x213000_1, .int .i64 x213001_1, .bool x213002_1, .int .i64 x213003_1, .int .i64 x213004_1] 23 (0, 0)) (by (with_reducible repeat (first | refine blk_drewN ?_ _ | refine blk_drew ?_ | refine blk_alloc ?_ _)); exact BK212.out) hb); have n1_ := Aside0.mk (below_step (by repeat (first | (with_reducible first | exact HB.out | apply below_alloc | apply pw_below_drewN | apply below_drew1 | refine below_set ?_ GE212.out) | exact HB.out)) hb); have n2_ := Aside0.mk (hbox); have n3_ := Aside0.mk ((by rw [hg]; exact (below_size (by repeat (first | (with_reducible first | exact HB.out | apply below_alloc | apply pw_below_drewN | apply below_drew1 | refine below_set ?_ GE212.out) | exact HB.out))) : w.heap.size ≤ gb219)); have n4_ := Aside0.mk ((by rw [hg]; exact (below_size (by repeat (first | (with_reducible first | exact HB.out | apply below_alloc | apply pw_below_drewN | apply below_drew1 | refine below_set ?_ GE212.out) | exact HB.out))) : w.heap.size ≤ gb219)); have n5_ := Aside0.mk ((by rw [hg]; exact Nat.ne_of_lt (blk_lt (g := gb212) (o := .cells #[.int .i64 x213000_1, .int .i64 x213001_1, .bool x213002_1, .int .i64 x213003_1, .int .i64 x213004_1] 23 (0, 0)) (by (with_reducible repeat (first | refine blk_drewN ?_ _ | refine blk_drew ?_ | refine blk_alloc ?_ _)); exact BK212.out)) : gb212 ≠ gb219)); have n6_ := Aside0.mk ((by rw [hg]; exact Nat.ne_of_gt (blk_lt (g := gb212) (o := .cells #[.int .i64 x213000_1, .int .i64 x213001_1, .bool x213002_1, .int .i64 x213003_1, .int .i64 x213004_1] 23 (0, 0)) (by (with_reducible repeat (first | refine blk_drewN ?_ _ | refine blk_drew ?_ | refine blk_alloc ?_ _)); exact BK212.out)) : gb219 ≠ gb212)); clear BK212; clear HB; have BK212 := n0_; have HB := n1_; have BK219 := n2_; have GW219 := n3_; have GE219 := n4_; have NB212_219 := n5_; have NB219_212 := n6_; clear n0_ n1_ n2_ n3_ n4_ n5_ n6_; clear hb hbox hg; have hnb57 := NB219_212.out; have hnc57 := NB212_219.out; have hcz58_0 : w56.cell? ⟨gb219, 0, none⟩ = some (.int .u8 0) := (blk_cell BK219.out 0).trans rfl; have hcz58_1 : w56.cell? ⟨gb219, 1, none⟩ = some (.bool false) := (blk_cell BK219.out 1).trans rfl; have hcz58_2 : w56.cell? ⟨gb219, 2, none⟩ = some (.int .u8 0) := (blk_cell BK219.out 2).trans rfl; have hfz58_0 := blk_frozen BK219.out 0; have hfz58_1 := blk_frozen BK219.out 1; have hfz58_2 := blk_frozen BK219.out 2; have hcz59_0 : w56.cell? ⟨gb212, 0, none⟩ = some (.int .i64 x213000_1) := (blk_cell BK212.out 0).trans rfl; have hcz59_1 : w56.cell? ⟨gb212, 1, none⟩ = some (.int .i64 x213001_1) := (blk_cell BK212.out 1).trans rfl; have hcz59_2 : w56.cell? ⟨gb212, 2, none⟩ = some (.bool x213002_1) := (blk_cell BK212.out 2).trans rfl; have hcz59_3 : w56.cell? ⟨gb212, 3, none⟩ = some (.int .i64 x213003_1) := (blk_cell BK212.out 3).trans rfl; have hcz59_4 : w56.cell? ⟨gb212, 4, none⟩ = some (.int .i64 x213004_1) := (blk_cell BK212.out 4).trans rfl; have hfz59_0 := blk_frozen BK212.out 0; have hfz59_1 := blk_frozen BK212.out 1; have hfz59_2 := blk_frozen BK212.out 2; have hfz59_3 := blk_frozen BK212.out 3; have hfz59_4 := blk_frozen BK212.out 4) | ((with_reducible refine gate_dst (N := 8) rfl ?_); refine box_event ?hg (N := 8) ?hd (cs := #[.int .i64 0, .int .i64 0, .bool false, .int .i64 0, .int .i64 0]) (t := 23) ?hr ?_; (case hd => rfl); (case hg => rfl); (case hr => first | (go_simp; done) | (go_simp; rfl)); intro gb220 hg w60 hbox hb; have n0_ := Aside0.mk (blk_below (g := gb212) (o := .cells #[.int .i64 x213000_1, .int .i64 x213001_1, .bool x213002_1, .int .i64 x213003_1, .int .i64 x213004_1] 23 (0, 0)) (by (with_reducible repeat (first | refine blk_drewN ?_ _ | refine blk_drew ?_ | refine blk_alloc ?_ _)); refine blk_far ?_ NB212_219.out _; (with_reducible repeat (first | refine blk_drewN ?_ _ | refine blk_drew ?_ | refine blk_alloc ?_ _)); refine blk_far ?_ NB212_219.out _; (with_reducible repeat (first | refine blk_drewN ?_ _ | refine blk_drew ?_ | refine blk_alloc ?_ _)); refine blk_far ?_ NB212_219.out _; (with_reducible repeat (first | refine blk_drewN ?_ _ | refine blk_drew ?_ | refine blk_alloc ?_ _)); exact BK212.out) hb); have n1_ := Aside0.mk (blk_below (g := gb219) (o := .cells #[.int .u8 ((rd_T34 y213 x16_1).f0), .bool ((rd_T34 y213 x16_1).f1), .int .u8 ((rd_T34 y213 x16_1).f2)] 34 (0, 0)) (by (with_reducible repeat (first | refine blk_drewN ?_ _ | refine blk_drew ?_ | refine blk_alloc ?_ _)); refine blk_put (cs := #[.int .u8 ((rd_T34 y213 x16_1).f0), .bool ((rd_T34 y213 x16_1).f1), .int .u8 0]) ?_ 2 _ rfl; (with_reducible repeat (first | refine blk_drewN ?_ _ | refine blk_drew ?_ | refine blk_alloc ?_ _)); refine blk_put (cs := #[.int .u8 ((rd_T34 y213 x16_1).f0), .bool false, .int .u8 0]) ?_ 1 _ rfl; (with_reducible repeat (first | refine blk_drewN ?_ _ | refine blk_drew ?_ | refine blk_alloc ?_ _)); refine blk_put (cs := #[.int .u8 0, .bool false, .int .u8 0]) ?_ 0 _ rfl; (with_reducible repeat (first | refine blk_drewN ?_ _ | refine blk_drew ?_ | refine blk_alloc ?_ _)); exact BK219.out) hb); have n2_ := Aside0.mk (below_step (by repeat (first | (with_reducible first | exact HB.out | apply below_alloc | apply pw_below_drewN | apply below_drew1 | refine below_set ?_ GE212.out | refine below_set ?_ GE219.out) | exact HB.out)) hb); have n3_ := Aside0.mk (hbox); have n4_ := Aside0.mk ((by rw [hg]; exact (below_size (by repeat (first | (with_reducible first | exact HB.out | apply below_alloc | apply pw_below_drewN | apply below_drew1 | refine below_set ?_ GE212.out | refine below_set ?_ GE219.out) | exact HB.out))) : w.heap.size ≤ gb220)); have n5_ := Aside0.mk ((by rw [hg]; exact (below_size (by repeat (first | (with_reducible first | exact HB.out | apply below_alloc | apply pw_below_drewN | apply below_drew1 | refine below_set ?_ GE212.out | refine below_set ?_ GE219.out) | exact HB.out))) : w.heap.size ≤ gb220)); have n6_ := Aside0.mk ((by rw [hg]; exact Nat.ne_of_lt (blk_lt (g := gb212) (o := .cells #[.int .i64 x213000_1, .int .i64 x213001_1, .bool x213002_1, .int .i64 x213003_1, .int .i64 x213004_1] 23 (0, 0)) (by (with_reducible repeat (first | refine blk_drewN ?_ _ | refine blk_drew ?_ | refine blk_alloc ?_ _)); refine blk_far ?_ NB212_219.out _; (with_reducible repeat (first | refine blk_drewN ?_ _ | refine blk_drew ?_ | refine blk_alloc ?_ _)); refine blk_far ?_ NB212_219.out _; (with_reducible repeat (first | refine blk_drewN ?_ _ | refine blk_drew ?_ | refine blk_alloc ?_ _)); refine blk_far ?_ NB212_219.out _; (with_reducible repeat (first | refine blk_drewN ?_ _ | refine blk_drew ?_ | refine blk_alloc ?_ _)); exact BK212.out)) : gb212 ≠ gb220)); have n7_ := Aside0.mk ((by rw [hg]; exact Nat.ne_of_gt (blk_lt (g := gb212) (o := .cells #[.int .i64 x213000_1, .int .i64 x213001_1, .bool x213002_1, .int .i64 x213003_1, .int .i64 x213004_1] 23 (0, 0)) (by (with_reducible repeat (first | refine blk_drewN ?_ _ | refine blk_drew ?_ | refine blk_alloc ?_ _)); refine blk_far ?_ NB212_219.out _; (with_reducible repeat (first | refine blk_drewN ?_ _ | refine blk_drew ?_ | refine blk_alloc ?_ _)); refine blk_far ?_ NB212_219.out _; (with_reducible repeat (first | refine blk_drewN ?_ _ | refine blk_drew ?_ | refine blk_alloc ?_ _)); refine blk_far ?_ NB212_219.out _; (with_reducible repeat (first | refine blk_drewN ?_ _ | refine blk_drew ?_ | refine blk_alloc ?_ _)); exact BK212.out)) : gb220 ≠ gb212)); have n8_ := Aside0.mk ((by rw [hg]; exact Nat.ne_of_lt (blk_lt (g := gb219) (o := .cells #[.int .u8 ((rd_T34 y213 x16_1).f0), .bool ((rd_T34 y213 x16_1).f1), .int .u8 ((rd_T34 y213 x16_1).f2)] 34 (0, 0)) (by (with_reducible repeat (first | refine blk_drewN ?_ _ | refine blk_drew ?_ | refine blk_alloc ?_ _)); refine blk_put (cs := #[.int .u8 ((rd_T34 y213 x16_1).f0), .bool ((rd_T34 y213 x16_1).f1), .int .u8 0]) ?_ 2 _ rfl; (with_reducible repeat (first | refine blk_drewN ?_ _ | refine blk_drew ?_ | refine blk_alloc ?_ _)); refine blk_put (cs := #[.int .u8 ((rd_T34 y213 x16_1).f0), .bool false, .int .u8 0]) ?_ 1 _ rfl; (with_reducible repeat (first | refine blk_drewN ?_ _ | refine blk_drew ?_ | refine blk_alloc ?_ _)); refine blk_put (cs := #[.int .u8 0, .bool false, .int .u8 0]) ?_ 0 _ rfl; (with_reducible repeat (first | refine blk_drewN ?_ _ | refine blk_drew ?_ | refine blk_alloc ?_ _)); exact BK219.out)) : gb219 ≠ gb220)); have n9_ := Aside0.mk ((by rw [hg]; exact Nat.ne_of_gt (blk_lt (g := gb219) (o := .cells #[.int .u8 ((rd_T34 y213 x16_1).f0), .bool ((rd_T34 y213 x16_1).f1), .int .u8 ((rd_T34 y213 x16_1).f2)] 34 (0, 0)) (by (with_reducible repeat (first | refine blk_drewN ?_ _ | refine blk_drew ?_ | refine blk_alloc ?_ _)); refine blk_put (cs := #[.int .u8 ((rd_T34 y213 x16_1).f0), .bool ((rd_T34 y213 x16_1).f1), .int .u8 0]) ?_ 2 _ rfl; (with_reducible repeat (first | refine blk_drewN ?_ _ | refine blk_drew ?_ | refine blk_alloc ?_ _)); refine blk_put (cs := #[.int .u8 ((rd_T34 y213 x16_1).f0), .bool false, .int .u8 0]) ?_ 1 _ rfl; (with_reducible repeat (first | refine blk_drewN ?_ _ | refine blk_drew ?_ | refine blk_alloc ?_ _)); refine blk_put (cs := #[.int .u8 0, .bool false, .int .u8 0]) ?_ 0 _ rfl; (with_reducible repeat (first | refine blk_drewN ?_ _ | refine blk_drew ?_ | refine blk_alloc ?_ _)); exact BK219.out)) : gb220 ≠ gb219)); clear BK212; clear BK219; clear HB; have BK212 := n0_; have BK219 := n1_; have HB := n2_; have BK220 := n3_; have GW220 := n4_; have GE220 := n5_; have NB212_220 := n6_; have NB220_212 := n7_; have NB219_220 := n8_; have NB220_219 := n9_; clear n0_ n1_ n2_ n3_ n4_ n5_ n6_ n7_ n8_ n9_; clear hb hbox hg; have hnb61 := NB220_212.out; have hnc61 := NB212_220.out; have hnb62 := NB220_219.out; have hnc62 := NB219_220.out; have hcz63_0 : w60.cell? ⟨gb220, 0, none⟩ = some (.int .i64 0) := (blk_cell BK220.out 0).trans rfl; have hcz63_1 : w60.cell? ⟨gb220, 1, none⟩ = some (.int .i64 0) := (blk_cell BK220.out 1).trans rfl; have hcz63_2 : w60.cell? ⟨gb220, 2, none⟩ = some (.bool false) := (blk_cell BK220.out 2).trans rfl; have hcz63_3 : w60.cell? ⟨gb220, 3, none⟩ = some (.int .i64 0) := (blk_cell BK220.out 3).trans rfl; have hcz63_4 : w60.cell? ⟨gb220, 4, none⟩ = some (.int .i64 0) := (blk_cell BK220.out 4).trans rfl; have hfz63_0 := blk_frozen BK220.out 0; have hfz63_1 := blk_frozen BK220.out 1; have hfz63_2 := blk_frozen BK220.out 2; have hfz63_3 := blk_frozen BK220.out 3; have hfz63_4 := blk_frozen BK220.out 4; have hcz64_0 : w60.cell? ⟨gb212, 0, none⟩ = some (.int .i64 x213000_1) := (blk_cell BK212.out 0).trans rfl; have hcz64_1 : w60.cell? ⟨gb212, 1, none⟩ = some (.int .i64 x213001_1) := (blk_cell BK212.out 1).trans rfl; have hcz64_2 : w60.cell? ⟨gb212, 2, none⟩ = some (.bool x213002_1) := (blk_cell BK212.out 2).trans rfl; have hcz64_3 : w60.cell? ⟨gb212, 3, none⟩ = some (.int .i64 x213003_1) := (blk_cell BK212.out 3).trans rfl; have hcz64_4 : w60.cell? ⟨gb212, 4, none⟩ = some (.int .i64 x213004_1) := (blk_cell BK212.out 4).trans rfl; have hfz64_0 := blk_frozen BK212.out 0; have hfz64_1 := blk_frozen BK212.out 1; have hfz64_2 := blk_frozen BK212.out 2; have hfz64_3 := blk_frozen BK212.out 3; have hfz64_4 := blk_frozen BK212.out 4; have hcz65_0 : w60.cell? ⟨gb219, 0, none⟩ = some (.int .u8 ((rd_T34 y213 x16_1).f0)) := (blk_cell BK219.out 0).trans rfl; have hcz65_1 : w60.cell? ⟨gb219, 1, none⟩ = some (.bool ((rd_T34 y213 x16_1).f1)) := (blk_cell BK219.out 1).trans rfl; have hcz65_2 : w60.cell? ⟨gb219, 2, none⟩ = some (.int .u8 ((rd_T34 y213 x16_1).f2)) := (blk_cell BK219.out 2).trans rfl; have hfz65_0 := blk_frozen BK219.out 0; have hfz65_1 := blk_frozen BK219.out 1; have hfz65_2 := blk_frozen BK219.out 2) | ((with_reducible refine gate_callee (f := 10) rfl ?_); refine goesL_ (some 28) rfl rfl Try.func10 (by kernel_rfl) rfl #[.agg #[.int .i64 x213000_1, .int .i64 x213001_1, .bool x213002_1, .int .i64 x213003_1, .int .i64 x213004_1], .int .u8 ((rd_T34 y213 x16_1).f0)] rfl (by (try simp only [List.map_toArray, List.map_cons, List.map_nil]); first | done | rfl | (simp only [List.length_drop, List.length_take]; rfl)) ?_; (with_reducible refine (conf_Event.calls k1 x213000_1 x213001_1 x213002_1 x213003_1 x213004_1 ((rd_T34 y213 x16_1).f0) t221 t222 t223 t224 t225 t226 _ A40.out).mono ?_); rintro e w66 ⟨rfl, hb⟩; refine ⟨_, rfl, ?_⟩; have n0_ := Aside0.mk (blk_below (g := gb212) (o := .cells #[.int .i64 x213000_1, .int .i64 x213001_1, .bool x213002_1, .int .i64 x213003_1, .int .i64 x213004_1] 23 (0, 0)) (by (with_reducible repeat (first | refine blk_drewN ?_ _ | refine blk_drew ?_ | refine blk_alloc ?_ _)); refine blk_far ?_ NB212_220.out _; (with_reducible repeat (first | refine blk_drewN ?_ _ | refine blk_drew ?_ | refine blk_alloc ?_ _)); refine blk_far ?_ NB212_220.out _; (with_reducible repeat (first | refine blk_drewN ?_ _ | refine blk_drew ?_ | refine blk_alloc ?_ _)); refine blk_far ?_ NB212_220.out _; (with_reducible repeat (first | refine blk_drewN ?_ _ | refine blk_drew ?_ | refine blk_alloc ?_ _)); refine blk_far ?_ NB212_220.out _; (with_reducible repeat (first | refine blk_drewN ?_ _ | refine blk_drew ?_ | refine blk_alloc ?_ _)); refine blk_far ?_ NB212_220.out _; (with_reducible repeat (first | refine blk_drewN ?_ _ | refine blk_drew ?_ | refine blk_alloc ?_ _)); exact BK212.out) hb); have n1_ := Aside0.mk (blk_below (g := gb219) (o := .cells #[.int .u8 ((rd_T34 y213 x16_1).f0), .bool ((rd_T34 y213 x16_1).f1), .int .u8 ((rd_T34 y213 x16_1).f2)] 34 (0, 0)) (by (with_reducible repeat (first | refine blk_drewN ?_ _ | refine blk_drew ?_ | refine blk_alloc ?_ _)); refine blk_far ?_ NB219_220.out _; (with_reducible repeat (first | refine blk_drewN ?_ _ | refine blk_drew ?_ | refine blk_alloc ?_ _)); refine blk_far ?_ NB219_220.out _; (with_reducible repeat (first | refine blk_drewN ?_ _ | refine blk_drew ?_ | refine blk_alloc ?_ _)); refine blk_far ?_ NB219_220.out _; (with_reducible repeat (first | refine blk_drewN ?_ _ | refine blk_drew ?_ | refine blk_alloc ?_ _)); refine blk_far ?_ NB219_220.out _; (with_reducible repeat (first | refine blk_drewN ?_ _ | refine blk_drew ?_ | refine blk_alloc ?_ _)); refine blk_far ?_ NB219_220.out _; (with_reducible repeat (first | refine blk_drewN ?_ _ | refine blk_drew ?_ | refine blk_alloc ?_ _)); exact BK219.out) hb); have n2_ := Aside0.mk (blk_below (g := gb220) (o := .cells #[.int .i64 x213000_1, .int .i64 x213001_1, .bool x213002_1, .int .i64 x213003_1, .int .i64 x213004_1] 23 (0, 0)) (by (with_reducible repeat (first | refine blk_drewN ?_ _ | refine blk_drew ?_ | refine blk_alloc ?_ _)); refine blk_put (cs := #[.int .i64 x213000_1, .int .i64 x213001_1, .bool x213002_1, .int .i64 x213003_1, .int .i64 0]) ?_ 4 _ rfl; (with_reducible repeat (first | refine blk_drewN ?_ _ | refine blk_drew ?_ | refine blk_alloc ?_ _)); refine blk_put (cs := #[.int .i64 x213000_1, .int .i64 x213001_1, .bool x213002_1, .int .i64 0, .int .i64 0]) ?_ 3 _ rfl; (with_reducible repeat (first | refine blk_drewN ?_ _ | refine blk_drew ?_ | refine blk_alloc ?_ _)); refine blk_put (cs := #[.int .i64 x213000_1, .int .i64 x213001_1, .bool false, .int .i64 0, .int .i64 0]) ?_ 2 _ rfl; (with_reducible repeat (first | refine blk_drewN ?_ _ | refine blk_drew ?_ | refine blk_alloc ?_ _)); refine blk_put (cs := #[.int .i64 x213000_1, .int .i64 0, .bool false, .int .i64 0, .int .i64 0]) ?_ 1 _ rfl; (with_reducible repeat (first | refine blk_drewN ?_ _ | refine blk_drew ?_ | refine blk_alloc ?_ _)); refine blk_put (cs := #[.int .i64 0, .int .i64 0, .bool false, .int .i64 0, .int .i64 0]) ?_ 0 _ rfl; (with_reducible repeat (first | refine blk_drewN ?_ _ | refine blk_drew ?_ | refine blk_alloc ?_ _)); exact BK220.out) hb); have n3_ := Aside0.mk (below_step (by repeat (first | (with_reducible first | exact HB.out | apply below_alloc | apply pw_below_drewN | apply below_drew1 | refine below_set ?_ GE212.out | refine below_set ?_ GE219.out | refine below_set ?_ GE220.out) | exact HB.out)) hb); clear BK212; clear BK219; clear BK220; clear HB; have BK212 := n0_; have BK219 := n1_; have BK220 := n2_; have HB := n3_; clear n0_ n1_ n2_ n3_; (try clear hb); (try clear hb2); (try clear hk); (try clear hi); have hcz67_0 : w66.cell? ⟨gb212, 0, none⟩ = some (.int .i64 x213000_1) := (blk_cell BK212.out 0).trans rfl; have hcz67_1 : w66.cell? ⟨gb212, 1, none⟩ = some (.int .i64 x213001_1) := (blk_cell BK212.out 1).trans rfl; have hcz67_2 : w66.cell? ⟨gb212, 2, none⟩ = some (.bool x213002_1) := (blk_cell BK212.out 2).trans rfl; have hcz67_3 : w66.cell? ⟨gb212, 3, none⟩ = some (.int .i64 x213003_1) := (blk_cell BK212.out 3).trans rfl; have hcz67_4 : w66.cell? ⟨gb212, 4, none⟩ = some (.int .i64 x213004_1) := (blk_cell BK212.out 4).trans rfl; have hfz67_0 := blk_frozen BK212.out 0; have hfz67_1 := blk_frozen BK212.out 1; have hfz67_2 := blk_frozen BK212.out 2; have hfz67_3 := blk_frozen BK212.out 3; have hfz67_4 := blk_frozen BK212.out 4; have hcz68_0 : w66.cell? ⟨gb220, 0, none⟩ = some (.int .i64 x213000_1) := (blk_cell BK220.out 0).trans rfl; have hcz68_1 : w66.cell? ⟨gb220, 1, none⟩ = some (.int .i64 x213001_1) := (blk_cell BK220.out 1).trans rfl; have hcz68_2 : w66.cell? ⟨gb220, 2, none⟩ = some (.bool x213002_1) := (blk_cell BK220.out 2).trans rfl; have hcz68_3 : w66.cell? ⟨gb220, 3, none⟩ = some (.int .i64 x213003_1) := (blk_cell BK220.out 3).trans rfl; have hcz68_4 : w66.cell? ⟨gb220, 4, none⟩ = some (.int .i64 x213004_1) := (blk_cell BK220.out 4).trans rfl; have hfz68_0 := blk_frozen BK220.out 0; have hfz68_1 := blk_frozen BK220.out 1; have hfz68_2 := blk_frozen BK220.out 2; have hfz68_3 := blk_frozen BK220.out 3; have hfz68_4 := blk_frozen BK220.out 4))
                    (first | go_roundg k1 | ((try simp only [← hji2]); go_roundg k1))
                    case measure => have := HK1.out; omega
                    case rel => exact ⟨(x4_1), (x5_1), (wrap64 (x16_1 + 1)), (t221), (t222), (t223), (t224), (t225), (by first | rfl | (simp; done) | (simp [*]; done)), (by first | rfl | (simp; done) | (simp [*]; done)), (by first | rfl | (simp; done) | (simp [*]; done)), H', ⟨by have := HK1.out; omega⟩, ⟨by (with_reducible repeat (first | refine blk_drewN ?_ _ | refine blk_drew ?_ | refine blk_alloc ?_ _)); refine blk_put (cs := #[.int .i64 t221, .int .i64 t222, .bool t223, .int .i64 t224, .int .i64 x213004_1]) ?_ 4 _ rfl; (with_reducible repeat (first | refine blk_drewN ?_ _ | refine blk_drew ?_ | refine blk_alloc ?_ _)); refine blk_put (cs := #[.int .i64 t221, .int .i64 t222, .bool t223, .int .i64 x213003_1, .int .i64 x213004_1]) ?_ 3 _ rfl; (with_reducible repeat (first | refine blk_drewN ?_ _ | refine blk_drew ?_ | refine blk_alloc ?_ _)); refine blk_put (cs := #[.int .i64 t221, .int .i64 t222, .bool x213002_1, .int .i64 x213003_1, .int .i64 x213004_1]) ?_ 2 _ rfl; (with_reducible repeat (first | refine blk_drewN ?_ _ | refine blk_drew ?_ | refine blk_alloc ?_ _)); refine blk_put (cs := #[.int .i64 t221, .int .i64 x213001_1, .bool x213002_1, .int .i64 x213003_1, .int .i64 x213004_1]) ?_ 1 _ rfl; (with_reducible repeat (first | refine blk_drewN ?_ _ | refine blk_drew ?_ | refine blk_alloc ?_ _)); refine blk_put (cs := #[.int .i64 x213000_1, .int .i64 x213001_1, .bool x213002_1, .int .i64 x213003_1, .int .i64 x213004_1]) ?_ 0 _ rfl; (with_reducible repeat (first | refine blk_drewN ?_ _ | refine blk_drew ?_ | refine blk_alloc ?_ _)); exact BK212.out⟩, ⟨by repeat (first | (with_reducible first | exact HB.out | apply below_alloc | apply pw_below_drewN | apply below_drew1 | refine below_set ?_ GE212.out | refine below_set ?_ GE219.out | refine below_set ?_ GE220.out) | exact HB.out)⟩⟩
              · rw [if_neg c11] at H
                exact absurd H (by simp)
            · rw [if_neg c10] at H
              exact absurd H (by simp)
          · rw [if_neg c9] at H
            have c9b0 : decide (x16_1 < (y213.length : Int)) = false := decide_eq_false c9
            clear c9
            by_cases c69 : x213002_1 = true
            · subst c69
              have H1 : ((jackstaylaw06_awake.f k1).bind fun t217 => (some t217)) = some r := by rw [if_pos rfl] at H; exact H
              clear H
              have H := H1
              clear H1
              replace H := Option.bind_eq_some_iff.mp H
              obtain ⟨t217, A700, H⟩ := H
              replace H : (some t217) = some r := H
              have A70 := Aside0.mk A700
              clear A700
              obtain rfl := Option.some.inj H
              simp only [Option.some.injEq, Prod.mk.injEq] at H
              obtain ⟨rfl⟩ := H
              have hcz71_0 : wr.cell? ⟨gb212, 0, none⟩ = some (.int .i64 x213000_1) := (blk_cell BK212.out 0).trans rfl
              have hcz71_1 : wr.cell? ⟨gb212, 1, none⟩ = some (.int .i64 x213001_1) := (blk_cell BK212.out 1).trans rfl
              have hcz71_2 : wr.cell? ⟨gb212, 2, none⟩ = some (.bool true) := (blk_cell BK212.out 2).trans rfl
              have hcz71_3 : wr.cell? ⟨gb212, 3, none⟩ = some (.int .i64 x213003_1) := (blk_cell BK212.out 3).trans rfl
              have hcz71_4 : wr.cell? ⟨gb212, 4, none⟩ = some (.int .i64 x213004_1) := (blk_cell BK212.out 4).trans rfl
              have hfz71_0 := blk_frozen BK212.out 0
              have hfz71_1 := blk_frozen BK212.out 1
              have hfz71_2 := blk_frozen BK212.out 2
              have hfz71_3 := blk_frozen BK212.out 3
              have hfz71_4 := blk_frozen BK212.out 4
              go_wp2_with (first | (go_at_call 18; (with_reducible refine (jackstaylaw06_awake.calls k1  t217 _ A70.out).mono ?_); rintro e w72 ⟨rfl, hb⟩; have n0_ := Aside0.mk (blk_below (g := gb212) (o := .cells #[.int .i64 x213000_1, .int .i64 x213001_1, .bool true, .int .i64 x213003_1, .int .i64 x213004_1] 23 (0, 0)) (by (with_reducible repeat (first | refine blk_drewN ?_ _ | refine blk_drew ?_ | refine blk_alloc ?_ _)); exact BK212.out) hb); have n1_ := Aside0.mk (below_step (by repeat (first | (with_reducible first | exact HB.out | apply below_alloc | apply pw_below_drewN | apply below_drew1 | refine below_set ?_ GE212.out) | exact HB.out)) hb); clear BK212; clear HB; have BK212 := n0_; have HB := n1_; clear n0_ n1_; (try clear hb); (try clear hb2); (try clear hk); (try clear hi)))
              go_ret
              exact ⟨by first | rfl | (simp [errW_none, errW_some] <;> rfl) | (simp only [← hji2]; first | rfl | (simp [errW_none, errW_some] <;> rfl)) | (simp [*, errW_none, errW_some] <;> rfl), by repeat (first | (with_reducible first | exact HB.out | apply below_alloc | apply pw_below_drewN | apply below_drew1 | refine below_set ?_ GE212.out) | exact HB.out)⟩
            · replace c69 := Bool.eq_false_iff.mpr c69
              subst c69
              (try (have c41b0n := c41b0; simp only [beq_false, beq_true, Bool.not_not, Bool.not_true, Bool.not_false, Bool.true_and, Bool.and_true, Bool.false_or, Bool.or_false] at c41b0n))
              have H1 : (some false) = some r := by rw [if_neg (show ¬ (false = true) by decide)] at H; exact H
              clear H
              have H := H1
              clear H1
              obtain rfl := Option.some.inj H
              exact absurd hT_ (by decide)
    · rw [if_neg c4] at H
      exact absurd H (by simp)
  · rw [if_neg c3] at H
    exact absurd H (by simp)

end Go.Proofs.Ytgpdcgbohodfoaa.P
