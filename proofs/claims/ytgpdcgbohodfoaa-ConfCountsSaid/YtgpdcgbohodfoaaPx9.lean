/- What Go functions of this seat answer: their contracts, printed by a program of this session's; Lean checks each. -/
import Derived.Test.YtgpdcgbohodfoaaPx0
import Derived.Test.YtgpdcgbohodfoaaPx3
import Derived.Test.YtgpdcgbohodfoaaPx4
import Derived.Test.YtgpdcgbohodfoaaPx5
namespace Go.Proofs.Ytgpdcgbohodfoaa.P
open Go.RowKit Go.Proofs.YtgpdcgbohodfoaaW.PrintWords Go.Proofs.YtgpdcgbohodfoaaW.PrintLast Go.Proofs.YtgpdcgbohodfoaaW.PrintMore
attribute [local go_sem] max2_int min2_int max_two min_two max_three min_three max_four min_four   -- for this text's walks alone
set_option linter.unusedVariables false
set_option linter.unusedSimpArgs false

/-! ### jackstaylaw06_ConfCounts: function 6 -/
mutual
def jackstaylaw06_ConfCounts.l0 : Nat → Int → Int → Int → Int → Int → Int → Int → Int → Bool → Int → Int → Option (Bool)
  | 0, _, _, _, _, _, _, _, _, _, _, _ => none
  | k + 1, x9, x10, x11, x12, x26, x27, x266000, x266001, x266002, x266003, x266004 => if x27 < x26 then ((conf_Event.f k x266000 x266001 x266002 x266003 x266004 1).bind fun bt266 => (jackstaylaw06_ConfCounts.l0 k x9 x10 x11 x12 x26 (wrap64 (x27 + 1)) bt266.1 bt266.2.1 bt266.2.2.1 bt266.2.2.2.1 bt266.2.2.2.2.1)) else (jackstaylaw06_ConfCounts.l1 k x9 x10 x11 x12 x10 0 x266000 x266001 x266002 x266003 x266004)
def jackstaylaw06_ConfCounts.l1 : Nat → Int → Int → Int → Int → Int → Int → Int → Int → Bool → Int → Int → Option (Bool)
  | 0, _, _, _, _, _, _, _, _, _, _, _ => none
  | k + 1, x9, x10, x11, x12, x35, x36, x266000, x266001, x266002, x266003, x266004 => if x36 < x35 then ((conf_Event.f k x266000 x266001 x266002 x266003 x266004 9).bind fun bt272 => (jackstaylaw06_ConfCounts.l1 k x9 x10 x11 x12 x35 (wrap64 (x36 + 1)) bt272.1 bt272.2.1 bt272.2.2.1 bt272.2.2.2.1 bt272.2.2.2.2.1)) else (jackstaylaw06_ConfCounts.l2 k x9 x10 x11 x12 x11 0 x266000 x266001 x266002 x266003 x266004)
def jackstaylaw06_ConfCounts.l2 : Nat → Int → Int → Int → Int → Int → Int → Int → Int → Bool → Int → Int → Option (Bool)
  | 0, _, _, _, _, _, _, _, _, _, _, _ => none
  | k + 1, x9, x10, x11, x12, x44, x45, x266000, x266001, x266002, x266003, x266004 => if x45 < x44 then ((conf_Event.f k x266000 x266001 x266002 x266003 x266004 5).bind fun bt278 => (jackstaylaw06_ConfCounts.l2 k x9 x10 x11 x12 x44 (wrap64 (x45 + 1)) bt278.1 bt278.2.1 bt278.2.2.1 bt278.2.2.2.1 bt278.2.2.2.2.1)) else (jackstaylaw06_ConfCounts.l3 k x9 x10 x11 x12 x12 0 x266000 x266001 x266002 x266003 x266004)
def jackstaylaw06_ConfCounts.l3 : Nat → Int → Int → Int → Int → Int → Int → Int → Int → Bool → Int → Int → Option (Bool)
  | 0, _, _, _, _, _, _, _, _, _, _, _ => none
  | k + 1, x9, x10, x11, x12, x53, x54, x266000, x266001, x266002, x266003, x266004 => if x54 < x53 then ((conf_Event.f k x266000 x266001 x266002 x266003 x266004 8).bind fun bt284 => (jackstaylaw06_ConfCounts.l3 k x9 x10 x11 x12 x53 (wrap64 (x54 + 1)) bt284.1 bt284.2.1 bt284.2.2.1 bt284.2.2.2.1 bt284.2.2.2.2.1)) else (if x266001 = (mx (wrap64 (x9 - x10)) 0) then (if x266000 = (mx (wrap64 ((wrap64 (8 * x11)) - x12)) 0) then (if x266002 = true then (some false) else ((conf_Mode.f k x266000 x266001 x266002 x266003 x266004).bind fun t290 => (if ((t290 == 1) == (decide (x266000 > 127))) = true then ((jackstaylaw06_awake.f k).bind fun t291 => (some t291)) else (some false)))) else (some false)) else (some false))
end
def jackstaylaw06_ConfCounts.f (k : Nat) (a0 : Int) (a1 : Int) (a2 : Int) (a3 : Int) : Option (Bool) := jackstaylaw06_ConfCounts.l0 k (wrap64 (Int.tmod a0 41)) (wrap64 (Int.tmod a1 41)) (wrap64 (Int.tmod a2 31)) (wrap64 (Int.tmod a3 41)) (wrap64 (Int.tmod a0 41)) 0 0 0 false 0 0
theorem jackstaylaw06_ConfCounts.mono_l : ∀ k, (∀ y0 y1 y2 y3 y4 y5 y6 y7 y8 y9 y10, LeO (jackstaylaw06_ConfCounts.l0 k y0 y1 y2 y3 y4 y5 y6 y7 y8 y9 y10) (jackstaylaw06_ConfCounts.l0 (k + 1) y0 y1 y2 y3 y4 y5 y6 y7 y8 y9 y10)) ∧ (∀ y0 y1 y2 y3 y4 y5 y6 y7 y8 y9 y10, LeO (jackstaylaw06_ConfCounts.l1 k y0 y1 y2 y3 y4 y5 y6 y7 y8 y9 y10) (jackstaylaw06_ConfCounts.l1 (k + 1) y0 y1 y2 y3 y4 y5 y6 y7 y8 y9 y10)) ∧ (∀ y0 y1 y2 y3 y4 y5 y6 y7 y8 y9 y10, LeO (jackstaylaw06_ConfCounts.l2 k y0 y1 y2 y3 y4 y5 y6 y7 y8 y9 y10) (jackstaylaw06_ConfCounts.l2 (k + 1) y0 y1 y2 y3 y4 y5 y6 y7 y8 y9 y10)) ∧ (∀ y0 y1 y2 y3 y4 y5 y6 y7 y8 y9 y10, LeO (jackstaylaw06_ConfCounts.l3 k y0 y1 y2 y3 y4 y5 y6 y7 y8 y9 y10) (jackstaylaw06_ConfCounts.l3 (k + 1) y0 y1 y2 y3 y4 y5 y6 y7 y8 y9 y10))
  | 0 => ⟨fun _ _ _ _ _ _ _ _ _ _ _ r h => by simp [jackstaylaw06_ConfCounts.l0] at h, fun _ _ _ _ _ _ _ _ _ _ _ r h => by simp [jackstaylaw06_ConfCounts.l1] at h, fun _ _ _ _ _ _ _ _ _ _ _ r h => by simp [jackstaylaw06_ConfCounts.l2] at h, fun _ _ _ _ _ _ _ _ _ _ _ r h => by simp [jackstaylaw06_ConfCounts.l3] at h⟩
  | k + 1 => by
    obtain ⟨ih0, ih1, ih2, ih3⟩ := jackstaylaw06_ConfCounts.mono_l k
    refine ⟨?_, ?_, ?_, ?_⟩
    · intro y0 y1 y2 y3 y4 y5 y6 y7 y8 y9 y10
      unfold jackstaylaw06_ConfCounts.l0
      repeat' first
      | (with_reducible exact ih0 _ _ _ _ _ _ _ _ _ _ _)
      | (with_reducible exact ih1 _ _ _ _ _ _ _ _ _ _ _)
      | (with_reducible exact ih2 _ _ _ _ _ _ _ _ _ _ _)
      | (with_reducible exact ih3 _ _ _ _ _ _ _ _ _ _ _)
      | (with_reducible exact conf_Event.mono _ _ _ _ _ _ _)
      | (with_reducible exact conf_Mode.mono _ _ _ _ _ _)
      | (with_reducible exact jackstaylaw06_awake.mono _)
      | (with_reducible exact LeO.refl _)
      | (with_reducible exact LeO.none _)
      | (with_reducible refine LeO.ite ?_ ?_)
      | (with_reducible refine LeO.bind ?_ (fun _ => ?_))
      | exact ih0 _ _ _ _ _ _ _ _ _ _ _
      | exact ih1 _ _ _ _ _ _ _ _ _ _ _
      | exact ih2 _ _ _ _ _ _ _ _ _ _ _
      | exact ih3 _ _ _ _ _ _ _ _ _ _ _
      | exact conf_Event.mono _ _ _ _ _ _ _
      | exact conf_Mode.mono _ _ _ _ _ _
      | exact jackstaylaw06_awake.mono _
      | exact LeO.none _
      | refine LeO.ite ?_ ?_
      | refine LeO.bind ?_ (fun _ => ?_)
    · intro y0 y1 y2 y3 y4 y5 y6 y7 y8 y9 y10
      unfold jackstaylaw06_ConfCounts.l1
      repeat' first
      | (with_reducible exact ih0 _ _ _ _ _ _ _ _ _ _ _)
      | (with_reducible exact ih1 _ _ _ _ _ _ _ _ _ _ _)
      | (with_reducible exact ih2 _ _ _ _ _ _ _ _ _ _ _)
      | (with_reducible exact ih3 _ _ _ _ _ _ _ _ _ _ _)
      | (with_reducible exact conf_Event.mono _ _ _ _ _ _ _)
      | (with_reducible exact conf_Mode.mono _ _ _ _ _ _)
      | (with_reducible exact jackstaylaw06_awake.mono _)
      | (with_reducible exact LeO.refl _)
      | (with_reducible exact LeO.none _)
      | (with_reducible refine LeO.ite ?_ ?_)
      | (with_reducible refine LeO.bind ?_ (fun _ => ?_))
      | exact ih0 _ _ _ _ _ _ _ _ _ _ _
      | exact ih1 _ _ _ _ _ _ _ _ _ _ _
      | exact ih2 _ _ _ _ _ _ _ _ _ _ _
      | exact ih3 _ _ _ _ _ _ _ _ _ _ _
      | exact conf_Event.mono _ _ _ _ _ _ _
      | exact conf_Mode.mono _ _ _ _ _ _
      | exact jackstaylaw06_awake.mono _
      | exact LeO.none _
      | refine LeO.ite ?_ ?_
      | refine LeO.bind ?_ (fun _ => ?_)
    · intro y0 y1 y2 y3 y4 y5 y6 y7 y8 y9 y10
      unfold jackstaylaw06_ConfCounts.l2
      repeat' first
      | (with_reducible exact ih0 _ _ _ _ _ _ _ _ _ _ _)
      | (with_reducible exact ih1 _ _ _ _ _ _ _ _ _ _ _)
      | (with_reducible exact ih2 _ _ _ _ _ _ _ _ _ _ _)
      | (with_reducible exact ih3 _ _ _ _ _ _ _ _ _ _ _)
      | (with_reducible exact conf_Event.mono _ _ _ _ _ _ _)
      | (with_reducible exact conf_Mode.mono _ _ _ _ _ _)
      | (with_reducible exact jackstaylaw06_awake.mono _)
      | (with_reducible exact LeO.refl _)
      | (with_reducible exact LeO.none _)
      | (with_reducible refine LeO.ite ?_ ?_)
      | (with_reducible refine LeO.bind ?_ (fun _ => ?_))
      | exact ih0 _ _ _ _ _ _ _ _ _ _ _
      | exact ih1 _ _ _ _ _ _ _ _ _ _ _
      | exact ih2 _ _ _ _ _ _ _ _ _ _ _
      | exact ih3 _ _ _ _ _ _ _ _ _ _ _
      | exact conf_Event.mono _ _ _ _ _ _ _
      | exact conf_Mode.mono _ _ _ _ _ _
      | exact jackstaylaw06_awake.mono _
      | exact LeO.none _
      | refine LeO.ite ?_ ?_
      | refine LeO.bind ?_ (fun _ => ?_)
    · intro y0 y1 y2 y3 y4 y5 y6 y7 y8 y9 y10
      unfold jackstaylaw06_ConfCounts.l3
      repeat' first
      | (with_reducible exact ih0 _ _ _ _ _ _ _ _ _ _ _)
      | (with_reducible exact ih1 _ _ _ _ _ _ _ _ _ _ _)
      | (with_reducible exact ih2 _ _ _ _ _ _ _ _ _ _ _)
      | (with_reducible exact ih3 _ _ _ _ _ _ _ _ _ _ _)
      | (with_reducible exact conf_Event.mono _ _ _ _ _ _ _)
      | (with_reducible exact conf_Mode.mono _ _ _ _ _ _)
      | (with_reducible exact jackstaylaw06_awake.mono _)
      | (with_reducible exact LeO.refl _)
      | (with_reducible exact LeO.none _)
      | (with_reducible refine LeO.ite ?_ ?_)
      | (with_reducible refine LeO.bind ?_ (fun _ => ?_))
      | exact ih0 _ _ _ _ _ _ _ _ _ _ _
      | exact ih1 _ _ _ _ _ _ _ _ _ _ _
      | exact ih2 _ _ _ _ _ _ _ _ _ _ _
      | exact ih3 _ _ _ _ _ _ _ _ _ _ _
      | exact conf_Event.mono _ _ _ _ _ _ _
      | exact conf_Mode.mono _ _ _ _ _ _
      | exact jackstaylaw06_awake.mono _
      | exact LeO.none _
      | refine LeO.ite ?_ ?_
      | refine LeO.bind ?_ (fun _ => ?_)
theorem jackstaylaw06_ConfCounts.mono : ∀ a0 a1 a2 a3 k, LeO (jackstaylaw06_ConfCounts.f k a0 a1 a2 a3) (jackstaylaw06_ConfCounts.f (k + 1) a0 a1 a2 a3) := by
  intro a0 a1 a2 a3 k
  obtain ⟨ih0, ih1, ih2, ih3⟩ := jackstaylaw06_ConfCounts.mono_l k
  unfold jackstaylaw06_ConfCounts.f
  repeat' first
      | (with_reducible exact ih0 _ _ _ _ _ _ _ _ _ _ _)
      | (with_reducible exact ih1 _ _ _ _ _ _ _ _ _ _ _)
      | (with_reducible exact ih2 _ _ _ _ _ _ _ _ _ _ _)
      | (with_reducible exact ih3 _ _ _ _ _ _ _ _ _ _ _)
      | (with_reducible exact conf_Event.mono _ _ _ _ _ _ _)
      | (with_reducible exact conf_Mode.mono _ _ _ _ _ _)
      | (with_reducible exact jackstaylaw06_awake.mono _)
      | (with_reducible exact LeO.refl _)
      | (with_reducible exact LeO.none _)
      | (with_reducible refine LeO.ite ?_ ?_)
      | (with_reducible refine LeO.bind ?_ (fun _ => ?_))
      | exact ih0 _ _ _ _ _ _ _ _ _ _ _
      | exact ih1 _ _ _ _ _ _ _ _ _ _ _
      | exact ih2 _ _ _ _ _ _ _ _ _ _ _
      | exact ih3 _ _ _ _ _ _ _ _ _ _ _
      | exact conf_Event.mono _ _ _ _ _ _ _
      | exact conf_Mode.mono _ _ _ _ _ _
      | exact jackstaylaw06_awake.mono _
      | exact LeO.none _
      | refine LeO.ite ?_ ?_
      | refine LeO.bind ?_ (fun _ => ?_)
def jackstaylaw06_ConfCounts.T19 : Bool × List (List Nat × List Nat) := (true, [([], []), ([0], [0]), ([], []), ([], []), ([2, 3], [2, 3]), ([4], [4]), ([1, 5], [1, 5]), ([6], [6]), ([7], [7]), ([8, 7], [7, 8]), ([7], [7]), ([10, 7], [7, 10]), ([7], [7]), ([11, 12, 7], [7, 11, 12]), ([13, 7], [7, 13]), ([9, 14, 7], [7, 9, 14]), ([7, 15], [7, 15]), ([16, 7], [16]), ([17], [17]), ([18, 17], [17, 18]), ([19, 17], [17, 19]), ([17, 20], [17, 20]), ([21, 17], [21]), ([22], [22]), ([23, 22, 22], [22, 23]), ([24, 22], [22, 24]), ([22], [22]), ([26, 22], [22, 26]), ([27, 22], [22, 27]), ([25, 28, 22], [22, 25, 28]), ([22, 29], [22, 29]), ([30, 24], [30]), ([31, 31], [31]), ([31, 32], [31, 32]), ([33, 32, 0, 1, 2, 3, 4, 5, 6, 7, 8, 9, 10, 11, 12, 13, 14, 15, 16, 17, 18, 19, 20, 21, 22, 23, 24, 25, 26, 27, 28, 29, 30, 31, 32, 33], [33])])
def jackstaylaw06_ConfCounts.B19 : List Nat := [0, 1, 0, 0, 12, 28, 63, 127, 255, 511, 255, 1279, 255, 7423, 15615, 32767, 65535, 131071, 262143, 524287, 1048575, 2097151, 4194303, 8388607, 16777215, 33554431, 8388607, 75497471, 209715199, 536870911, 1073741823, 2147483647, 4294967295, 8589934591, 17179869183]
theorem jackstaylaw06_ConfCounts.tab19 : rtab .any (opsOf Try.f6 19) = jackstaylaw06_ConfCounts.T19 := by kernel_rfl
theorem jackstaylaw06_ConfCounts.bits19 : waitsOk jackstaylaw06_ConfCounts.T19.2 jackstaylaw06_ConfCounts.B19 = true := by kernel_rfl
set_option maxHeartbeats 8000000 in
set_option maxRecDepth 100000 in
theorem jackstaylaw06_ConfCounts.calls (k : Nat) (a0 : Int) (a1 : Int) (a2 : Int) (a3 : Int) (r : Bool) (w : World) (h : jackstaylaw06_ConfCounts.f k a0 a1 a2 a3 = some r) (hT_ : r = true) :
    Calls Try.prog 6 #[.int .u8 a0, .int .u8 a1, .int .u8 a2, .int .u8 a3] w fun e w' => e = .returned (.bool r) ∧ Below w.heap.size w w' := by
  have hu23 := Try.underlying23
  have HB := Aside0.mk (Below.refl w.heap.size w)
  have H : (jackstaylaw06_ConfCounts.l0 k (wrap64 (Int.tmod a0 41)) (wrap64 (Int.tmod a1 41)) (wrap64 (Int.tmod a2 31)) (wrap64 (Int.tmod a3 41)) (wrap64 (Int.tmod a0 41)) 0 0 0 false 0 0) = some r := h
  clear h
  have H' := Aside0.mk H
  clear H
  go_enter Try.func6, Try.ntmps6
  go_wp2_with (first | ((with_reducible refine gate_dst (N := 13) rfl ?_); (try (refine gate_guard (by rfl) ?_; dsimp only)); refine box_event ?hg (N := 13) ?hd (cs := #[.int .i64 0, .int .i64 0, .bool false, .int .i64 0, .int .i64 0]) (t := 23) ?hr ?_; (case hd => rfl); (case hg => rfl); (case hr => first | (go_simp; done) | (go_simp; rfl)); intro gb265 hg w5 hbox hb; have n0_ := Aside0.mk (below_step (by repeat (first | (with_reducible first | exact HB.out | apply below_alloc | apply pw_below_drewN | apply below_drew1) | exact HB.out)) hb); have n1_ := Aside0.mk (hbox); have n2_ := Aside0.mk ((by rw [hg]; exact (below_size (by repeat (first | (with_reducible first | exact HB.out | apply below_alloc | apply pw_below_drewN | apply below_drew1) | exact HB.out))) : w.heap.size ≤ gb265)); have n3_ := Aside0.mk ((by rw [hg]; exact (below_size (by repeat (first | (with_reducible first | exact HB.out | apply below_alloc | apply pw_below_drewN | apply below_drew1) | exact HB.out))) : w.heap.size ≤ gb265)); clear HB; have HB := n0_; have BK265 := n1_; have GW265 := n2_; have GE265 := n3_; clear n0_ n1_ n2_ n3_; clear hb hbox hg))
  go_loopg [27] k (fun kq v27 w' => ∃ (x27_1 : Int) (x266000_1 : Int) (x266001_1 : Int) (x266002_1 : Bool) (x266003_1 : Int) (x266004_1 : Int), v27 = .int .i64 x27_1 ∧ Aside0 (jackstaylaw06_ConfCounts.l0 kq (wrap64 (Int.tmod a0 41)) (wrap64 (Int.tmod a1 41)) (wrap64 (Int.tmod a2 31)) (wrap64 (Int.tmod a3 41)) (wrap64 (Int.tmod a0 41)) x27_1 x266000_1 x266001_1 x266002_1 x266003_1 x266004_1 = some r) ∧ Aside0 (kq ≤ k) ∧ Aside0 (w'.heap[gb265]? = some (.cells #[.int .i64 x266000_1, .int .i64 x266001_1, .bool x266002_1, .int .i64 x266003_1, .int .i64 x266004_1] 23 (0, 0))) ∧ Aside0 (Below w.heap.size w w'))
  case atStart => exact ⟨(0), (0), (0), (false), (0), (0), (by first | rfl | (simp; done) | (simp [*]; done)), H', ⟨Nat.le_refl _⟩, ⟨by (with_reducible repeat (first | refine blk_drewN ?_ _ | refine blk_drew ?_ | refine blk_alloc ?_ _)); exact BK265.out⟩, ⟨by repeat (first | (with_reducible first | exact HB.out | apply below_alloc | apply pw_below_drewN | apply below_drew1 | refine below_set ?_ GE265.out) | exact HB.out)⟩⟩
  case round =>
    clear H'
    try clear p2
    obtain ⟨x27_1, x266000_1, x266001_1, x266002_1, x266003_1, x266004_1, rfl, HA, HK1, BK265, HB⟩ := hrel
    cases gk with
    | zero => exact absurd HA.out (by simp [jackstaylaw06_ConfCounts.l0])
    | succ k1 =>
      have H := HA.out
      clear HA
      simp only [jackstaylaw06_ConfCounts.l0] at H
      by_cases c6 : x27_1 < (wrap64 (Int.tmod a0 41))
      · rw [if_pos c6] at H
        have c6b0 : decide (x27_1 < (wrap64 (Int.tmod a0 41))) = true := decide_eq_true c6
        clear c6
        replace H := Option.bind_eq_some_iff.mp H
        obtain ⟨⟨t266, t267, t268, t269, t270, t271⟩, A70, H⟩ := H
        replace H : (jackstaylaw06_ConfCounts.l0 k1 (wrap64 (Int.tmod a0 41)) (wrap64 (Int.tmod a1 41)) (wrap64 (Int.tmod a2 31)) (wrap64 (Int.tmod a3 41)) (wrap64 (Int.tmod a0 41)) (wrap64 (x27_1 + 1)) t266 t267 t268 t269 t270) = some r := H
        have A7 := Aside0.mk A70
        clear A70
        have H' := Aside0.mk H
        clear H
        have hcz8_0 : wr.cell? ⟨gb265, 0, none⟩ = some (.int .i64 x266000_1) := (blk_cell BK265.out 0).trans rfl
        have hcz8_1 : wr.cell? ⟨gb265, 1, none⟩ = some (.int .i64 x266001_1) := (blk_cell BK265.out 1).trans rfl
        have hcz8_2 : wr.cell? ⟨gb265, 2, none⟩ = some (.bool x266002_1) := (blk_cell BK265.out 2).trans rfl
        have hcz8_3 : wr.cell? ⟨gb265, 3, none⟩ = some (.int .i64 x266003_1) := (blk_cell BK265.out 3).trans rfl
        have hcz8_4 : wr.cell? ⟨gb265, 4, none⟩ = some (.int .i64 x266004_1) := (blk_cell BK265.out 4).trans rfl
        have hfz8_0 := blk_frozen BK265.out 0
        have hfz8_1 := blk_frozen BK265.out 1
        have hfz8_2 := blk_frozen BK265.out 2
        have hfz8_3 := blk_frozen BK265.out 3
        have hfz8_4 := blk_frozen BK265.out 4
        go_wp2_with (first | ((with_reducible refine gate_callee (f := 10) rfl ?_); refine goesL_ (some 31) rfl rfl Try.func10 (by kernel_rfl) rfl #[.agg #[.int .i64 x266000_1, .int .i64 x266001_1, .bool x266002_1, .int .i64 x266003_1, .int .i64 x266004_1], .int .u8 1] rfl (by (try simp only [List.map_toArray, List.map_cons, List.map_nil]); first | done | rfl | (simp only [List.length_drop, List.length_take]; rfl)) ?_; (with_reducible refine (conf_Event.calls k1 x266000_1 x266001_1 x266002_1 x266003_1 x266004_1 1 t266 t267 t268 t269 t270 t271 _ A7.out).mono ?_); rintro e w9 ⟨rfl, hb⟩; refine ⟨_, rfl, ?_⟩; have n0_ := Aside0.mk (blk_below (g := gb265) (o := .cells #[.int .i64 x266000_1, .int .i64 x266001_1, .bool x266002_1, .int .i64 x266003_1, .int .i64 x266004_1] 23 (0, 0)) (by (with_reducible repeat (first | refine blk_drewN ?_ _ | refine blk_drew ?_ | refine blk_alloc ?_ _)); exact BK265.out) hb); have n1_ := Aside0.mk (below_step (by repeat (first | (with_reducible first | exact HB.out | apply below_alloc | apply pw_below_drewN | apply below_drew1 | refine below_set ?_ GE265.out) | exact HB.out)) hb); clear BK265; clear HB; have BK265 := n0_; have HB := n1_; clear n0_ n1_; (try clear hb); (try clear hb2); (try clear hk); (try clear hi); have hcz10_0 : w9.cell? ⟨gb265, 0, none⟩ = some (.int .i64 x266000_1) := (blk_cell BK265.out 0).trans rfl; have hcz10_1 : w9.cell? ⟨gb265, 1, none⟩ = some (.int .i64 x266001_1) := (blk_cell BK265.out 1).trans rfl; have hcz10_2 : w9.cell? ⟨gb265, 2, none⟩ = some (.bool x266002_1) := (blk_cell BK265.out 2).trans rfl; have hcz10_3 : w9.cell? ⟨gb265, 3, none⟩ = some (.int .i64 x266003_1) := (blk_cell BK265.out 3).trans rfl; have hcz10_4 : w9.cell? ⟨gb265, 4, none⟩ = some (.int .i64 x266004_1) := (blk_cell BK265.out 4).trans rfl; have hfz10_0 := blk_frozen BK265.out 0; have hfz10_1 := blk_frozen BK265.out 1; have hfz10_2 := blk_frozen BK265.out 2; have hfz10_3 := blk_frozen BK265.out 3; have hfz10_4 := blk_frozen BK265.out 4))
        go_roundg k1
        case measure => have := HK1.out; omega
        case rel => exact ⟨(wrap64 (x27_1 + 1)), (t266), (t267), (t268), (t269), (t270), (by first | rfl | (simp; done) | (simp [*]; done)), H', ⟨by have := HK1.out; omega⟩, ⟨by (with_reducible repeat (first | refine blk_drewN ?_ _ | refine blk_drew ?_ | refine blk_alloc ?_ _)); refine blk_put (cs := #[.int .i64 t266, .int .i64 t267, .bool t268, .int .i64 t269, .int .i64 x266004_1]) ?_ 4 _ rfl; (with_reducible repeat (first | refine blk_drewN ?_ _ | refine blk_drew ?_ | refine blk_alloc ?_ _)); refine blk_put (cs := #[.int .i64 t266, .int .i64 t267, .bool t268, .int .i64 x266003_1, .int .i64 x266004_1]) ?_ 3 _ rfl; (with_reducible repeat (first | refine blk_drewN ?_ _ | refine blk_drew ?_ | refine blk_alloc ?_ _)); refine blk_put (cs := #[.int .i64 t266, .int .i64 t267, .bool x266002_1, .int .i64 x266003_1, .int .i64 x266004_1]) ?_ 2 _ rfl; (with_reducible repeat (first | refine blk_drewN ?_ _ | refine blk_drew ?_ | refine blk_alloc ?_ _)); refine blk_put (cs := #[.int .i64 t266, .int .i64 x266001_1, .bool x266002_1, .int .i64 x266003_1, .int .i64 x266004_1]) ?_ 1 _ rfl; (with_reducible repeat (first | refine blk_drewN ?_ _ | refine blk_drew ?_ | refine blk_alloc ?_ _)); refine blk_put (cs := #[.int .i64 x266000_1, .int .i64 x266001_1, .bool x266002_1, .int .i64 x266003_1, .int .i64 x266004_1]) ?_ 0 _ rfl; (with_reducible repeat (first | refine blk_drewN ?_ _ | refine blk_drew ?_ | refine blk_alloc ?_ _)); exact BK265.out⟩, ⟨by repeat (first | (with_reducible first | exact HB.out | apply below_alloc | apply pw_below_drewN | apply below_drew1 | refine below_set ?_ GE265.out) | exact HB.out)⟩⟩
      · rw [if_neg c6] at H
        have c6b0 : decide (x27_1 < (wrap64 (Int.tmod a0 41))) = false := decide_eq_false c6
        clear c6
        have H' := Aside0.mk H
        clear H
        go_wp2
        go_loopg [36] k1 (fun kq v36 w' => ∃ (x36_2 : Int) (x266000_2 : Int) (x266001_2 : Int) (x266002_2 : Bool) (x266003_2 : Int) (x266004_2 : Int), v36 = .int .i64 x36_2 ∧ Aside0 (jackstaylaw06_ConfCounts.l1 kq (wrap64 (Int.tmod a0 41)) (wrap64 (Int.tmod a1 41)) (wrap64 (Int.tmod a2 31)) (wrap64 (Int.tmod a3 41)) (wrap64 (Int.tmod a1 41)) x36_2 x266000_2 x266001_2 x266002_2 x266003_2 x266004_2 = some r) ∧ Aside0 (kq ≤ k1) ∧ Aside0 (w'.heap[gb265]? = some (.cells #[.int .i64 x266000_2, .int .i64 x266001_2, .bool x266002_2, .int .i64 x266003_2, .int .i64 x266004_2] 23 (0, 0))) ∧ Aside0 (Below w.heap.size w w'))
        case atStart => exact ⟨(0), (x266000_1), (x266001_1), (x266002_1), (x266003_1), (x266004_1), (by first | rfl | (simp; done) | (simp [*]; done)), H', ⟨Nat.le_refl _⟩, ⟨by (with_reducible repeat (first | refine blk_drewN ?_ _ | refine blk_drew ?_ | refine blk_alloc ?_ _)); exact BK265.out⟩, ⟨by repeat (first | (with_reducible first | exact HB.out | apply below_alloc | apply pw_below_drewN | apply below_drew1 | refine below_set ?_ GE265.out) | exact HB.out)⟩⟩
        case round =>
          clear H'
          try clear c1
          try clear p2
          try clear c6
          try clear c6b0
          try clear p6
          try clear c10
          try clear hcz10_0
          try clear hcz10_1
          try clear hcz10_2
          try clear hcz10_3
          try clear hcz10_4
          try clear hcz8_0
          try clear hcz8_1
          try clear hcz8_2
          try clear hcz8_3
          try clear hcz8_4
          try clear hfz10_0
          try clear hfz10_1
          try clear hfz10_2
          try clear hfz10_3
          try clear hfz10_4
          try clear hfz8_0
          try clear hfz8_1
          try clear hfz8_2
          try clear hfz8_3
          try clear hfz8_4
          try clear p2
          obtain ⟨x36_2, x266000_2, x266001_2, x266002_2, x266003_2, x266004_2, rfl, HA, HK2, BK265, HB⟩ := hrel
          cases gk with
          | zero => exact absurd HA.out (by simp [jackstaylaw06_ConfCounts.l1])
          | succ k2 =>
            have H := HA.out
            clear HA
            simp only [jackstaylaw06_ConfCounts.l1] at H
            by_cases c11 : x36_2 < (wrap64 (Int.tmod a1 41))
            · rw [if_pos c11] at H
              have c11b0 : decide (x36_2 < (wrap64 (Int.tmod a1 41))) = true := decide_eq_true c11
              clear c11
              replace H := Option.bind_eq_some_iff.mp H
              obtain ⟨⟨t272, t273, t274, t275, t276, t277⟩, A120, H⟩ := H
              replace H : (jackstaylaw06_ConfCounts.l1 k2 (wrap64 (Int.tmod a0 41)) (wrap64 (Int.tmod a1 41)) (wrap64 (Int.tmod a2 31)) (wrap64 (Int.tmod a3 41)) (wrap64 (Int.tmod a1 41)) (wrap64 (x36_2 + 1)) t272 t273 t274 t275 t276) = some r := H
              have A12 := Aside0.mk A120
              clear A120
              have H' := Aside0.mk H
              clear H
              have hcz13_0 : wr.cell? ⟨gb265, 0, none⟩ = some (.int .i64 x266000_2) := (blk_cell BK265.out 0).trans rfl
              have hcz13_1 : wr.cell? ⟨gb265, 1, none⟩ = some (.int .i64 x266001_2) := (blk_cell BK265.out 1).trans rfl
              have hcz13_2 : wr.cell? ⟨gb265, 2, none⟩ = some (.bool x266002_2) := (blk_cell BK265.out 2).trans rfl
              have hcz13_3 : wr.cell? ⟨gb265, 3, none⟩ = some (.int .i64 x266003_2) := (blk_cell BK265.out 3).trans rfl
              have hcz13_4 : wr.cell? ⟨gb265, 4, none⟩ = some (.int .i64 x266004_2) := (blk_cell BK265.out 4).trans rfl
              have hfz13_0 := blk_frozen BK265.out 0
              have hfz13_1 := blk_frozen BK265.out 1
              have hfz13_2 := blk_frozen BK265.out 2
              have hfz13_3 := blk_frozen BK265.out 3
              have hfz13_4 := blk_frozen BK265.out 4
              go_wp2_with (first | ((with_reducible refine gate_callee (f := 10) rfl ?_); refine goesL_ (some 40) rfl rfl Try.func10 (by kernel_rfl) rfl #[.agg #[.int .i64 x266000_2, .int .i64 x266001_2, .bool x266002_2, .int .i64 x266003_2, .int .i64 x266004_2], .int .u8 9] rfl (by (try simp only [List.map_toArray, List.map_cons, List.map_nil]); first | done | rfl | (simp only [List.length_drop, List.length_take]; rfl)) ?_; (with_reducible refine (conf_Event.calls k2 x266000_2 x266001_2 x266002_2 x266003_2 x266004_2 9 t272 t273 t274 t275 t276 t277 _ A12.out).mono ?_); rintro e w14 ⟨rfl, hb⟩; refine ⟨_, rfl, ?_⟩; have n0_ := Aside0.mk (blk_below (g := gb265) (o := .cells #[.int .i64 x266000_2, .int .i64 x266001_2, .bool x266002_2, .int .i64 x266003_2, .int .i64 x266004_2] 23 (0, 0)) (by (with_reducible repeat (first | refine blk_drewN ?_ _ | refine blk_drew ?_ | refine blk_alloc ?_ _)); exact BK265.out) hb); have n1_ := Aside0.mk (below_step (by repeat (first | (with_reducible first | exact HB.out | apply below_alloc | apply pw_below_drewN | apply below_drew1 | refine below_set ?_ GE265.out) | exact HB.out)) hb); clear BK265; clear HB; have BK265 := n0_; have HB := n1_; clear n0_ n1_; (try clear hb); (try clear hb2); (try clear hk); (try clear hi); have hcz15_0 : w14.cell? ⟨gb265, 0, none⟩ = some (.int .i64 x266000_2) := (blk_cell BK265.out 0).trans rfl; have hcz15_1 : w14.cell? ⟨gb265, 1, none⟩ = some (.int .i64 x266001_2) := (blk_cell BK265.out 1).trans rfl; have hcz15_2 : w14.cell? ⟨gb265, 2, none⟩ = some (.bool x266002_2) := (blk_cell BK265.out 2).trans rfl; have hcz15_3 : w14.cell? ⟨gb265, 3, none⟩ = some (.int .i64 x266003_2) := (blk_cell BK265.out 3).trans rfl; have hcz15_4 : w14.cell? ⟨gb265, 4, none⟩ = some (.int .i64 x266004_2) := (blk_cell BK265.out 4).trans rfl; have hfz15_0 := blk_frozen BK265.out 0; have hfz15_1 := blk_frozen BK265.out 1; have hfz15_2 := blk_frozen BK265.out 2; have hfz15_3 := blk_frozen BK265.out 3; have hfz15_4 := blk_frozen BK265.out 4))
              go_roundg k2
              case measure => have := HK1.out; have := HK2.out; omega
              case rel => exact ⟨(wrap64 (x36_2 + 1)), (t272), (t273), (t274), (t275), (t276), (by first | rfl | (simp; done) | (simp [*]; done)), H', ⟨by have := HK1.out; have := HK2.out; omega⟩, ⟨by (with_reducible repeat (first | refine blk_drewN ?_ _ | refine blk_drew ?_ | refine blk_alloc ?_ _)); refine blk_put (cs := #[.int .i64 t272, .int .i64 t273, .bool t274, .int .i64 t275, .int .i64 x266004_2]) ?_ 4 _ rfl; (with_reducible repeat (first | refine blk_drewN ?_ _ | refine blk_drew ?_ | refine blk_alloc ?_ _)); refine blk_put (cs := #[.int .i64 t272, .int .i64 t273, .bool t274, .int .i64 x266003_2, .int .i64 x266004_2]) ?_ 3 _ rfl; (with_reducible repeat (first | refine blk_drewN ?_ _ | refine blk_drew ?_ | refine blk_alloc ?_ _)); refine blk_put (cs := #[.int .i64 t272, .int .i64 t273, .bool x266002_2, .int .i64 x266003_2, .int .i64 x266004_2]) ?_ 2 _ rfl; (with_reducible repeat (first | refine blk_drewN ?_ _ | refine blk_drew ?_ | refine blk_alloc ?_ _)); refine blk_put (cs := #[.int .i64 t272, .int .i64 x266001_2, .bool x266002_2, .int .i64 x266003_2, .int .i64 x266004_2]) ?_ 1 _ rfl; (with_reducible repeat (first | refine blk_drewN ?_ _ | refine blk_drew ?_ | refine blk_alloc ?_ _)); refine blk_put (cs := #[.int .i64 x266000_2, .int .i64 x266001_2, .bool x266002_2, .int .i64 x266003_2, .int .i64 x266004_2]) ?_ 0 _ rfl; (with_reducible repeat (first | refine blk_drewN ?_ _ | refine blk_drew ?_ | refine blk_alloc ?_ _)); exact BK265.out⟩, ⟨by repeat (first | (with_reducible first | exact HB.out | apply below_alloc | apply pw_below_drewN | apply below_drew1 | refine below_set ?_ GE265.out) | exact HB.out)⟩⟩
            · rw [if_neg c11] at H
              have c11b0 : decide (x36_2 < (wrap64 (Int.tmod a1 41))) = false := decide_eq_false c11
              clear c11
              have H' := Aside0.mk H
              clear H
              go_wp2
              go_loopg [45] k2 (fun kq v45 w' => ∃ (x45_3 : Int) (x266000_3 : Int) (x266001_3 : Int) (x266002_3 : Bool) (x266003_3 : Int) (x266004_3 : Int), v45 = .int .i64 x45_3 ∧ Aside0 (jackstaylaw06_ConfCounts.l2 kq (wrap64 (Int.tmod a0 41)) (wrap64 (Int.tmod a1 41)) (wrap64 (Int.tmod a2 31)) (wrap64 (Int.tmod a3 41)) (wrap64 (Int.tmod a2 31)) x45_3 x266000_3 x266001_3 x266002_3 x266003_3 x266004_3 = some r) ∧ Aside0 (kq ≤ k2) ∧ Aside0 (w'.heap[gb265]? = some (.cells #[.int .i64 x266000_3, .int .i64 x266001_3, .bool x266002_3, .int .i64 x266003_3, .int .i64 x266004_3] 23 (0, 0))) ∧ Aside0 (Below w.heap.size w w'))
              case atStart => exact ⟨(0), (x266000_2), (x266001_2), (x266002_2), (x266003_2), (x266004_2), (by first | rfl | (simp; done) | (simp [*]; done)), H', ⟨Nat.le_refl _⟩, ⟨by (with_reducible repeat (first | refine blk_drewN ?_ _ | refine blk_drew ?_ | refine blk_alloc ?_ _)); exact BK265.out⟩, ⟨by repeat (first | (with_reducible first | exact HB.out | apply below_alloc | apply pw_below_drewN | apply below_drew1 | refine below_set ?_ GE265.out) | exact HB.out)⟩⟩
              case round =>
                clear H'
                try clear c1
                try clear p2
                try clear c6
                try clear c6b0
                try clear p6
                try clear c10
                try clear c11
                try clear c11b0
                try clear hcz10_0
                try clear hcz10_1
                try clear hcz10_2
                try clear hcz10_3
                try clear hcz10_4
                try clear hcz13_0
                try clear hcz13_1
                try clear hcz13_2
                try clear hcz13_3
                try clear hcz13_4
                try clear hcz15_0
                try clear hcz15_1
                try clear hcz15_2
                try clear hcz15_3
                try clear hcz15_4
                try clear hcz8_0
                try clear hcz8_1
                try clear hcz8_2
                try clear hcz8_3
                try clear hcz8_4
                try clear hfz10_0
                try clear hfz10_1
                try clear hfz10_2
                try clear hfz10_3
                try clear hfz10_4
                try clear hfz13_0
                try clear hfz13_1
                try clear hfz13_2
                try clear hfz13_3
                try clear hfz13_4
                try clear hfz15_0
                try clear hfz15_1
                try clear hfz15_2
                try clear hfz15_3
                try clear hfz15_4
                try clear hfz8_0
                try clear hfz8_1
                try clear hfz8_2
                try clear hfz8_3
                try clear hfz8_4
                try clear p2
                try clear p6
                obtain ⟨x45_3, x266000_3, x266001_3, x266002_3, x266003_3, x266004_3, rfl, HA, HK3, BK265, HB⟩ := hrel
                cases gk with
                | zero => exact absurd HA.out (by simp [jackstaylaw06_ConfCounts.l2])
                | succ k3 =>
                  have H := HA.out
                  clear HA
                  simp only [jackstaylaw06_ConfCounts.l2] at H
                  by_cases c16 : x45_3 < (wrap64 (Int.tmod a2 31))
                  · rw [if_pos c16] at H
                    have c16b0 : decide (x45_3 < (wrap64 (Int.tmod a2 31))) = true := decide_eq_true c16
                    clear c16
                    replace H := Option.bind_eq_some_iff.mp H
                    obtain ⟨⟨t278, t279, t280, t281, t282, t283⟩, A170, H⟩ := H
                    replace H : (jackstaylaw06_ConfCounts.l2 k3 (wrap64 (Int.tmod a0 41)) (wrap64 (Int.tmod a1 41)) (wrap64 (Int.tmod a2 31)) (wrap64 (Int.tmod a3 41)) (wrap64 (Int.tmod a2 31)) (wrap64 (x45_3 + 1)) t278 t279 t280 t281 t282) = some r := H
                    have A17 := Aside0.mk A170
                    clear A170
                    have H' := Aside0.mk H
                    clear H
                    have hcz18_0 : wr.cell? ⟨gb265, 0, none⟩ = some (.int .i64 x266000_3) := (blk_cell BK265.out 0).trans rfl
                    have hcz18_1 : wr.cell? ⟨gb265, 1, none⟩ = some (.int .i64 x266001_3) := (blk_cell BK265.out 1).trans rfl
                    have hcz18_2 : wr.cell? ⟨gb265, 2, none⟩ = some (.bool x266002_3) := (blk_cell BK265.out 2).trans rfl
                    have hcz18_3 : wr.cell? ⟨gb265, 3, none⟩ = some (.int .i64 x266003_3) := (blk_cell BK265.out 3).trans rfl
                    have hcz18_4 : wr.cell? ⟨gb265, 4, none⟩ = some (.int .i64 x266004_3) := (blk_cell BK265.out 4).trans rfl
                    have hfz18_0 := blk_frozen BK265.out 0
                    have hfz18_1 := blk_frozen BK265.out 1
                    have hfz18_2 := blk_frozen BK265.out 2
                    have hfz18_3 := blk_frozen BK265.out 3
                    have hfz18_4 := blk_frozen BK265.out 4
                    go_wp2_with (first | ((with_reducible refine gate_callee (f := 10) rfl ?_); refine goesL_ (some 49) rfl rfl Try.func10 (by kernel_rfl) rfl #[.agg #[.int .i64 x266000_3, .int .i64 x266001_3, .bool x266002_3, .int .i64 x266003_3, .int .i64 x266004_3], .int .u8 5] rfl (by (try simp only [List.map_toArray, List.map_cons, List.map_nil]); first | done | rfl | (simp only [List.length_drop, List.length_take]; rfl)) ?_; (with_reducible refine (conf_Event.calls k3 x266000_3 x266001_3 x266002_3 x266003_3 x266004_3 5 t278 t279 t280 t281 t282 t283 _ A17.out).mono ?_); rintro e w19 ⟨rfl, hb⟩; refine ⟨_, rfl, ?_⟩; have n0_ := Aside0.mk (blk_below (g := gb265) (o := .cells #[.int .i64 x266000_3, .int .i64 x266001_3, .bool x266002_3, .int .i64 x266003_3, .int .i64 x266004_3] 23 (0, 0)) (by (with_reducible repeat (first | refine blk_drewN ?_ _ | refine blk_drew ?_ | refine blk_alloc ?_ _)); exact BK265.out) hb); have n1_ := Aside0.mk (below_step (by repeat (first | (with_reducible first | exact HB.out | apply below_alloc | apply pw_below_drewN | apply below_drew1 | refine below_set ?_ GE265.out) | exact HB.out)) hb); clear BK265; clear HB; have BK265 := n0_; have HB := n1_; clear n0_ n1_; (try clear hb); (try clear hb2); (try clear hk); (try clear hi); have hcz20_0 : w19.cell? ⟨gb265, 0, none⟩ = some (.int .i64 x266000_3) := (blk_cell BK265.out 0).trans rfl; have hcz20_1 : w19.cell? ⟨gb265, 1, none⟩ = some (.int .i64 x266001_3) := (blk_cell BK265.out 1).trans rfl; have hcz20_2 : w19.cell? ⟨gb265, 2, none⟩ = some (.bool x266002_3) := (blk_cell BK265.out 2).trans rfl; have hcz20_3 : w19.cell? ⟨gb265, 3, none⟩ = some (.int .i64 x266003_3) := (blk_cell BK265.out 3).trans rfl; have hcz20_4 : w19.cell? ⟨gb265, 4, none⟩ = some (.int .i64 x266004_3) := (blk_cell BK265.out 4).trans rfl; have hfz20_0 := blk_frozen BK265.out 0; have hfz20_1 := blk_frozen BK265.out 1; have hfz20_2 := blk_frozen BK265.out 2; have hfz20_3 := blk_frozen BK265.out 3; have hfz20_4 := blk_frozen BK265.out 4))
                    go_roundg k3
                    case measure => have := HK1.out; have := HK2.out; have := HK3.out; omega
                    case rel => exact ⟨(wrap64 (x45_3 + 1)), (t278), (t279), (t280), (t281), (t282), (by first | rfl | (simp; done) | (simp [*]; done)), H', ⟨by have := HK1.out; have := HK2.out; have := HK3.out; omega⟩, ⟨by (with_reducible repeat (first | refine blk_drewN ?_ _ | refine blk_drew ?_ | refine blk_alloc ?_ _)); refine blk_put (cs := #[.int .i64 t278, .int .i64 t279, .bool t280, .int .i64 t281, .int .i64 x266004_3]) ?_ 4 _ rfl; (with_reducible repeat (first | refine blk_drewN ?_ _ | refine blk_drew ?_ | refine blk_alloc ?_ _)); refine blk_put (cs := #[.int .i64 t278, .int .i64 t279, .bool t280, .int .i64 x266003_3, .int .i64 x266004_3]) ?_ 3 _ rfl; (with_reducible repeat (first | refine blk_drewN ?_ _ | refine blk_drew ?_ | refine blk_alloc ?_ _)); refine blk_put (cs := #[.int .i64 t278, .int .i64 t279, .bool x266002_3, .int .i64 x266003_3, .int .i64 x266004_3]) ?_ 2 _ rfl; (with_reducible repeat (first | refine blk_drewN ?_ _ | refine blk_drew ?_ | refine blk_alloc ?_ _)); refine blk_put (cs := #[.int .i64 t278, .int .i64 x266001_3, .bool x266002_3, .int .i64 x266003_3, .int .i64 x266004_3]) ?_ 1 _ rfl; (with_reducible repeat (first | refine blk_drewN ?_ _ | refine blk_drew ?_ | refine blk_alloc ?_ _)); refine blk_put (cs := #[.int .i64 x266000_3, .int .i64 x266001_3, .bool x266002_3, .int .i64 x266003_3, .int .i64 x266004_3]) ?_ 0 _ rfl; (with_reducible repeat (first | refine blk_drewN ?_ _ | refine blk_drew ?_ | refine blk_alloc ?_ _)); exact BK265.out⟩, ⟨by repeat (first | (with_reducible first | exact HB.out | apply below_alloc | apply pw_below_drewN | apply below_drew1 | refine below_set ?_ GE265.out) | exact HB.out)⟩⟩
                  · rw [if_neg c16] at H
                    have c16b0 : decide (x45_3 < (wrap64 (Int.tmod a2 31))) = false := decide_eq_false c16
                    clear c16
                    have H' := Aside0.mk H
                    clear H
                    go_wp2
                    go_loopg [54] k3 (fun kq v54 w' => ∃ (x54_4 : Int) (x266000_4 : Int) (x266001_4 : Int) (x266002_4 : Bool) (x266003_4 : Int) (x266004_4 : Int), v54 = .int .i64 x54_4 ∧ Aside0 (jackstaylaw06_ConfCounts.l3 kq (wrap64 (Int.tmod a0 41)) (wrap64 (Int.tmod a1 41)) (wrap64 (Int.tmod a2 31)) (wrap64 (Int.tmod a3 41)) (wrap64 (Int.tmod a3 41)) x54_4 x266000_4 x266001_4 x266002_4 x266003_4 x266004_4 = some r) ∧ Aside0 (kq ≤ k3) ∧ Aside0 (w'.heap[gb265]? = some (.cells #[.int .i64 x266000_4, .int .i64 x266001_4, .bool x266002_4, .int .i64 x266003_4, .int .i64 x266004_4] 23 (0, 0))) ∧ Aside0 (Below w.heap.size w w'))
                    case atStart => exact ⟨(0), (x266000_3), (x266001_3), (x266002_3), (x266003_3), (x266004_3), (by first | rfl | (simp; done) | (simp [*]; done)), H', ⟨Nat.le_refl _⟩, ⟨by (with_reducible repeat (first | refine blk_drewN ?_ _ | refine blk_drew ?_ | refine blk_alloc ?_ _)); exact BK265.out⟩, ⟨by repeat (first | (with_reducible first | exact HB.out | apply below_alloc | apply pw_below_drewN | apply below_drew1 | refine below_set ?_ GE265.out) | exact HB.out)⟩⟩
                    case round =>
                      clear H'
                      try clear c1
                      try clear p2
                      try clear c6
                      try clear c6b0
                      try clear p6
                      try clear c10
                      try clear c11
                      try clear c11b0
                      try clear c16
                      try clear c16b0
                      try clear hcz10_0
                      try clear hcz10_1
                      try clear hcz10_2
                      try clear hcz10_3
                      try clear hcz10_4
                      try clear hcz13_0
                      try clear hcz13_1
                      try clear hcz13_2
                      try clear hcz13_3
                      try clear hcz13_4
                      try clear hcz15_0
                      try clear hcz15_1
                      try clear hcz15_2
                      try clear hcz15_3
                      try clear hcz15_4
                      try clear hcz18_0
                      try clear hcz18_1
                      try clear hcz18_2
                      try clear hcz18_3
                      try clear hcz18_4
                      try clear hcz20_0
                      try clear hcz20_1
                      try clear hcz20_2
                      try clear hcz20_3
                      try clear hcz20_4
                      try clear hcz8_0
                      try clear hcz8_1
                      try clear hcz8_2
                      try clear hcz8_3
                      try clear hcz8_4
                      try clear hfz10_0
                      try clear hfz10_1
                      try clear hfz10_2
                      try clear hfz10_3
                      try clear hfz10_4
                      try clear hfz13_0
                      try clear hfz13_1
                      try clear hfz13_2
                      try clear hfz13_3
                      try clear hfz13_4
                      try clear hfz15_0
                      try clear hfz15_1
                      try clear hfz15_2
                      try clear hfz15_3
                      try clear hfz15_4
                      try clear hfz18_0
                      try clear hfz18_1
                      try clear hfz18_2
                      try clear hfz18_3
                      try clear hfz18_4
                      try clear hfz20_0
                      try clear hfz20_1
                      try clear hfz20_2
                      try clear hfz20_3
                      try clear hfz20_4
                      try clear hfz8_0
                      try clear hfz8_1
                      try clear hfz8_2
                      try clear hfz8_3
                      try clear hfz8_4
                      try clear p2
                      try clear p6
                      obtain ⟨x54_4, x266000_4, x266001_4, x266002_4, x266003_4, x266004_4, rfl, HA, HK4, BK265, HB⟩ := hrel
                      cases gk with
                      | zero => exact absurd HA.out (by simp [jackstaylaw06_ConfCounts.l3])
                      | succ k4 =>
                        have H := HA.out
                        clear HA
                        simp only [jackstaylaw06_ConfCounts.l3] at H
                        by_cases c21 : x54_4 < (wrap64 (Int.tmod a3 41))
                        · rw [if_pos c21] at H
                          have c21b0 : decide (x54_4 < (wrap64 (Int.tmod a3 41))) = true := decide_eq_true c21
                          clear c21
                          replace H := Option.bind_eq_some_iff.mp H
                          obtain ⟨⟨t284, t285, t286, t287, t288, t289⟩, A220, H⟩ := H
                          replace H : (jackstaylaw06_ConfCounts.l3 k4 (wrap64 (Int.tmod a0 41)) (wrap64 (Int.tmod a1 41)) (wrap64 (Int.tmod a2 31)) (wrap64 (Int.tmod a3 41)) (wrap64 (Int.tmod a3 41)) (wrap64 (x54_4 + 1)) t284 t285 t286 t287 t288) = some r := H
                          have A22 := Aside0.mk A220
                          clear A220
                          have H' := Aside0.mk H
                          clear H
                          have hcz23_0 : wr.cell? ⟨gb265, 0, none⟩ = some (.int .i64 x266000_4) := (blk_cell BK265.out 0).trans rfl
                          have hcz23_1 : wr.cell? ⟨gb265, 1, none⟩ = some (.int .i64 x266001_4) := (blk_cell BK265.out 1).trans rfl
                          have hcz23_2 : wr.cell? ⟨gb265, 2, none⟩ = some (.bool x266002_4) := (blk_cell BK265.out 2).trans rfl
                          have hcz23_3 : wr.cell? ⟨gb265, 3, none⟩ = some (.int .i64 x266003_4) := (blk_cell BK265.out 3).trans rfl
                          have hcz23_4 : wr.cell? ⟨gb265, 4, none⟩ = some (.int .i64 x266004_4) := (blk_cell BK265.out 4).trans rfl
                          have hfz23_0 := blk_frozen BK265.out 0
                          have hfz23_1 := blk_frozen BK265.out 1
                          have hfz23_2 := blk_frozen BK265.out 2
                          have hfz23_3 := blk_frozen BK265.out 3
                          have hfz23_4 := blk_frozen BK265.out 4
                          go_wp2_with (first | ((with_reducible refine gate_callee (f := 10) rfl ?_); refine goesL_ (some 58) rfl rfl Try.func10 (by kernel_rfl) rfl #[.agg #[.int .i64 x266000_4, .int .i64 x266001_4, .bool x266002_4, .int .i64 x266003_4, .int .i64 x266004_4], .int .u8 8] rfl (by (try simp only [List.map_toArray, List.map_cons, List.map_nil]); first | done | rfl | (simp only [List.length_drop, List.length_take]; rfl)) ?_; (with_reducible refine (conf_Event.calls k4 x266000_4 x266001_4 x266002_4 x266003_4 x266004_4 8 t284 t285 t286 t287 t288 t289 _ A22.out).mono ?_); rintro e w24 ⟨rfl, hb⟩; refine ⟨_, rfl, ?_⟩; have n0_ := Aside0.mk (blk_below (g := gb265) (o := .cells #[.int .i64 x266000_4, .int .i64 x266001_4, .bool x266002_4, .int .i64 x266003_4, .int .i64 x266004_4] 23 (0, 0)) (by (with_reducible repeat (first | refine blk_drewN ?_ _ | refine blk_drew ?_ | refine blk_alloc ?_ _)); exact BK265.out) hb); have n1_ := Aside0.mk (below_step (by repeat (first | (with_reducible first | exact HB.out | apply below_alloc | apply pw_below_drewN | apply below_drew1 | refine below_set ?_ GE265.out) | exact HB.out)) hb); clear BK265; clear HB; have BK265 := n0_; have HB := n1_; clear n0_ n1_; (try clear hb); (try clear hb2); (try clear hk); (try clear hi); have hcz25_0 : w24.cell? ⟨gb265, 0, none⟩ = some (.int .i64 x266000_4) := (blk_cell BK265.out 0).trans rfl; have hcz25_1 : w24.cell? ⟨gb265, 1, none⟩ = some (.int .i64 x266001_4) := (blk_cell BK265.out 1).trans rfl; have hcz25_2 : w24.cell? ⟨gb265, 2, none⟩ = some (.bool x266002_4) := (blk_cell BK265.out 2).trans rfl; have hcz25_3 : w24.cell? ⟨gb265, 3, none⟩ = some (.int .i64 x266003_4) := (blk_cell BK265.out 3).trans rfl; have hcz25_4 : w24.cell? ⟨gb265, 4, none⟩ = some (.int .i64 x266004_4) := (blk_cell BK265.out 4).trans rfl; have hfz25_0 := blk_frozen BK265.out 0; have hfz25_1 := blk_frozen BK265.out 1; have hfz25_2 := blk_frozen BK265.out 2; have hfz25_3 := blk_frozen BK265.out 3; have hfz25_4 := blk_frozen BK265.out 4))
                          go_roundg k4
                          case measure => have := HK1.out; have := HK2.out; have := HK3.out; have := HK4.out; omega
                          case rel => exact ⟨(wrap64 (x54_4 + 1)), (t284), (t285), (t286), (t287), (t288), (by first | rfl | (simp; done) | (simp [*]; done)), H', ⟨by have := HK1.out; have := HK2.out; have := HK3.out; have := HK4.out; omega⟩, ⟨by (with_reducible repeat (first | refine blk_drewN ?_ _ | refine blk_drew ?_ | refine blk_alloc ?_ _)); refine blk_put (cs := #[.int .i64 t284, .int .i64 t285, .bool t286, .int .i64 t287, .int .i64 x266004_4]) ?_ 4 _ rfl; (with_reducible repeat (first | refine blk_drewN ?_ _ | refine blk_drew ?_ | refine blk_alloc ?_ _)); refine blk_put (cs := #[.int .i64 t284, .int .i64 t285, .bool t286, .int .i64 x266003_4, .int .i64 x266004_4]) ?_ 3 _ rfl; (with_reducible repeat (first | refine blk_drewN ?_ _ | refine blk_drew ?_ | refine blk_alloc ?_ _)); refine blk_put (cs := #[.int .i64 t284, .int .i64 t285, .bool x266002_4, .int .i64 x266003_4, .int .i64 x266004_4]) ?_ 2 _ rfl; (with_reducible repeat (first | refine blk_drewN ?_ _ | refine blk_drew ?_ | refine blk_alloc ?_ _)); refine blk_put (cs := #[.int .i64 t284, .int .i64 x266001_4, .bool x266002_4, .int .i64 x266003_4, .int .i64 x266004_4]) ?_ 1 _ rfl; (with_reducible repeat (first | refine blk_drewN ?_ _ | refine blk_drew ?_ | refine blk_alloc ?_ _)); refine blk_put (cs := #[.int .i64 x266000_4, .int .i64 x266001_4, .bool x266002_4, .int .i64 x266003_4, .int .i64 x266004_4]) ?_ 0 _ rfl; (with_reducible repeat (first | refine blk_drewN ?_ _ | refine blk_drew ?_ | refine blk_alloc ?_ _)); exact BK265.out⟩, ⟨by repeat (first | (with_reducible first | exact HB.out | apply below_alloc | apply pw_below_drewN | apply below_drew1 | refine below_set ?_ GE265.out) | exact HB.out)⟩⟩
                        · rw [if_neg c21] at H
                          have c21b0 : decide (x54_4 < (wrap64 (Int.tmod a3 41))) = false := decide_eq_false c21
                          clear c21
                          obtain ⟨ji26, hji26⟩ : ∃ j_ : Int, (mx (wrap64 ((wrap64 (Int.tmod a0 41)) - (wrap64 (Int.tmod a1 41)))) 0) = j_ := ⟨_, rfl⟩
                          replace H : (if x266001_4 = (ji26) then (if x266000_4 = (mx (wrap64 ((wrap64 (8 * (wrap64 (Int.tmod a2 31)))) - (wrap64 (Int.tmod a3 41)))) 0) then (if x266002_4 = true then (some false) else ((conf_Mode.f k4 x266000_4 x266001_4 x266002_4 x266003_4 x266004_4).bind fun t290 => (if ((t290 == 1) == (decide (x266000_4 > 127))) = true then ((jackstaylaw06_awake.f k4).bind fun t291 => (some t291)) else (some false)))) else (some false)) else (some false)) = some r := by first | (rw [hji26] at H; exact H) | (simp only [hji26] at H ⊢; exact H)
                          have hji26_ : (if (wrap64 ((wrap64 (Int.tmod a0 41)) - (wrap64 (Int.tmod a1 41)))) < 0 then 0 else (wrap64 ((wrap64 (Int.tmod a0 41)) - (wrap64 (Int.tmod a1 41))))) = ji26 := hji26
                          by_cases c27 : x266001_4 = (ji26)
                          · rw [if_pos c27] at H
                            have c27b0 : (x266001_4 == (ji26)) = true := beq_iff_eq.mpr c27
                            have c27b1 : (x266001_4 != (ji26)) = false := bne_eq_false_iff_eq.mpr c27
                            clear c27
                            obtain ⟨ji28, hji28⟩ : ∃ j_ : Int, (mx (wrap64 ((wrap64 (8 * (wrap64 (Int.tmod a2 31)))) - (wrap64 (Int.tmod a3 41)))) 0) = j_ := ⟨_, rfl⟩
                            replace H : (if x266000_4 = (ji28) then (if x266002_4 = true then (some false) else ((conf_Mode.f k4 x266000_4 x266001_4 x266002_4 x266003_4 x266004_4).bind fun t290 => (if ((t290 == 1) == (decide (x266000_4 > 127))) = true then ((jackstaylaw06_awake.f k4).bind fun t291 => (some t291)) else (some false)))) else (some false)) = some r := by first | (rw [hji28] at H; exact H) | (simp only [hji28] at H ⊢; exact H)
                            have hji28_ : (if (wrap64 ((wrap64 (8 * (wrap64 (Int.tmod a2 31)))) - (wrap64 (Int.tmod a3 41)))) < 0 then 0 else (wrap64 ((wrap64 (8 * (wrap64 (Int.tmod a2 31)))) - (wrap64 (Int.tmod a3 41))))) = ji28 := hji28
                            by_cases c29 : x266000_4 = (ji28)
                            · rw [if_pos c29] at H
                              have c29b0 : (x266000_4 == (ji28)) = true := beq_iff_eq.mpr c29
                              have c29b1 : (x266000_4 != (ji28)) = false := bne_eq_false_iff_eq.mpr c29
                              clear c29
                              by_cases c30 : x266002_4 = true
                              · subst c30
                                have H1 : (some false) = some r := by rw [if_pos rfl] at H; exact H
                                clear H
                                have H := H1
                                clear H1
                                obtain rfl := Option.some.inj H
                                exact absurd hT_ (by decide)
                              · replace c30 := Bool.eq_false_iff.mpr c30
                                subst c30
                                have H1 : ((conf_Mode.f k4 x266000_4 x266001_4 false x266003_4 x266004_4).bind fun t290 => (if ((t290 == 1) == (decide (x266000_4 > 127))) = true then ((jackstaylaw06_awake.f k4).bind fun t291 => (some t291)) else (some false))) = some r := by rw [if_neg (show ¬ (false = true) by decide)] at H; exact H
                                clear H
                                have H := H1
                                clear H1
                                replace H := Option.bind_eq_some_iff.mp H
                                obtain ⟨t290, A310, H⟩ := H
                                replace H : (if ((t290 == 1) == (decide (x266000_4 > 127))) = true then ((jackstaylaw06_awake.f k4).bind fun t291 => (some t291)) else (some false)) = some r := H
                                have A31 := Aside0.mk A310
                                clear A310
                                by_cases c32 : ((t290 == 1) == (decide (x266000_4 > 127))) = true
                                · rw [if_pos c32] at H
                                  have c32b0 : ((t290 == 1) == (decide (x266000_4 > 127))) = true := c32
                                  (try (have c32b1 : decide ((t290 == 1) = (decide (x266000_4 > 127))) = true := by simpa using c32))
                                  (try (have c32b2 : ((t290 == 1) == (decide (x266000_4 > 127))) = true := by simpa using c32))
                                  clear c32
                                  replace H := Option.bind_eq_some_iff.mp H
                                  obtain ⟨t291, A330, H⟩ := H
                                  replace H : (some t291) = some r := H
                                  have A33 := Aside0.mk A330
                                  clear A330
                                  obtain rfl := Option.some.inj H
                                  simp only [Option.some.injEq, Prod.mk.injEq] at H
                                  obtain ⟨rfl⟩ := H
                                  try go_wp2
                                  have n0_ := Aside0.mk (blk_drew BK265.out)
                                  have n1_ := Aside0.mk (below_drew1 HB.out)
                                  clear BK265
                                  clear HB
                                  have BK265 := n0_
                                  have HB := n1_
                                  clear n0_ n1_
                                  refine start_ (n := 35) (S := fun w' => w'.cell? ⟨gb265, 0, none⟩ = some (.int .i64 x266000_4) ∧ w'.cell? ⟨gb265, 1, none⟩ = some (.int .i64 x266001_4) ∧ w'.cell? ⟨gb265, 2, none⟩ = some (.bool false) ∧ w'.cell? ⟨gb265, 3, none⟩ = some (.int .i64 x266003_4) ∧ w'.cell? ⟨gb265, 4, none⟩ = some (.int .i64 x266004_4)) (ds := []) #[false, false, false, false, false, false, false, false, false, false, false, false, false, false, false, false, false, false, false, false, false, false, false, false, false, false, false, false, false, false, false, false, false, false, false] (by kernel_rfl) rfl rfl ⟨(blk_cell BK265.out 0).trans rfl, (blk_cell BK265.out 1).trans rfl, (blk_cell BK265.out 2).trans rfl, (blk_cell BK265.out 3).trans rfl, (blk_cell BK265.out 4).trans rfl⟩ (fun hHeld => ?_); refine with_tabW jackstaylaw06_ConfCounts.tab19 jackstaylaw06_ConfCounts.bits19 (fun HT_ HW_ => ?_)
                                  generalize wr.drew = w34 at BK265 HB hHeld ⊢
                                  refine pure_ (i := 0) (N := some 62) (v := ?_) (a' := ?_) #[true, false, false, false, false, false, false, false, false, false, false, false, false, false, false, false, false, false, false, false, false, false, false, false, false, false, false, false, false, false, false, false, false, false, false] rfl rfl (any_of HT_.out (by kernel_rfl)) (fun _ _ _ h => h) (Or.inl ⟨by rfl, ?_⟩) ?_ ?_
                                  rotate_left
                                  · intro w'
                                    go_simp
                                    with_reducible rfl
                                  rotate_left
                                  · simp only [Act.put, List.setIfInBounds_toArray, List.set_cons_zero, List.set_cons_succ, i64_w, i32_w]
                                    rfl
                                  refine pure_ (i := 2) (N := some 64) (v := ?_) (a' := ?_) #[true, false, true, false, false, false, false, false, false, false, false, false, false, false, false, false, false, false, false, false, false, false, false, false, false, false, false, false, false, false, false, false, false, false, false] rfl rfl (any_of HT_.out (by kernel_rfl)) (fun _ _ _ h => h) (Or.inl ⟨by rfl, ?_⟩) ?_ ?_
                                  rotate_left
                                  · intro w'
                                    go_simp
                                    with_reducible rfl
                                  rotate_left
                                  · simp only [Act.put, List.setIfInBounds_toArray, List.set_cons_zero, List.set_cons_succ, i64_w, i32_w]
                                    rfl
                                  refine pure_ (i := 3) (N := some 65) (v := ?_) (a' := ?_) #[true, false, true, true, false, false, false, false, false, false, false, false, false, false, false, false, false, false, false, false, false, false, false, false, false, false, false, false, false, false, false, false, false, false, false] rfl rfl (any_of HT_.out (by kernel_rfl)) (fun _ _ _ h => h) (Or.inl ⟨by rfl, ?_⟩) ?_ ?_
                                  rotate_left
                                  · intro w'
                                    go_simp
                                    with_reducible rfl
                                  rotate_left
                                  · simp only [Act.put, List.setIfInBounds_toArray, List.set_cons_zero, List.set_cons_succ, i64_w, i32_w]
                                    rfl
                                  refine pure_ (i := 4) (N := some 66) (v := ?_) (a' := ?_) #[true, false, true, true, true, false, false, false, false, false, false, false, false, false, false, false, false, false, false, false, false, false, false, false, false, false, false, false, false, false, false, false, false, false, false] rfl rfl (any_of HT_.out (by kernel_rfl)) (fun _ _ _ h => h) (Or.inl ⟨by rfl, ?_⟩) ?_ ?_
                                  rotate_left
                                  · intro w'
                                    go_simp
                                    with_reducible rfl
                                  rotate_left
                                  · simp only [Act.put, List.setIfInBounds_toArray, List.set_cons_zero, List.set_cons_succ, i64_w, i32_w]
                                    rfl
                                  refine pure_ (i := 5) (N := some 67) (v := ?_) (a' := ?_) #[true, false, true, true, true, true, false, false, false, false, false, false, false, false, false, false, false, false, false, false, false, false, false, false, false, false, false, false, false, false, false, false, false, false, false] rfl rfl (any_of HT_.out (by kernel_rfl)) (fun _ _ _ h => h) (Or.inl ⟨by rfl, ?_⟩) ?_ ?_
                                  rotate_left
                                  · intro w'
                                    go_simp
                                    with_reducible rfl
                                  rotate_left
                                  · simp only [Act.put, List.setIfInBounds_toArray, List.set_cons_zero, List.set_cons_succ, i64_w, i32_w]
                                    rfl
                                  refine take_ (i := 1) (N := some 63) (v := ?_) (a' := ?_) #[true, true, true, true, true, true, false, false, false, false, false, false, false, false, false, false, false, false, false, false, false, false, false, false, false, false, false, false, false, false, false, false, false, false, false] rfl rfl (take_ofW HT_.out HW_.out (by kernel_rfl)) (fun _ _ _ h => h) (Or.inl ⟨by rfl, ?_⟩) hHeld ?_ ?_
                                  rotate_left
                                  · rintro w' ⟨s0, s1, s2, s3, s4⟩
                                    go_simp
                                    with_reducible rfl
                                  rotate_left
                                  · simp only [Act.put, List.setIfInBounds_toArray, List.set_cons_zero, List.set_cons_succ, i64_w, i32_w]
                                    rfl
                                  refine pure_ (i := 6) (N := some 68) (v := ?_) (a' := ?_) #[true, true, true, true, true, true, true, false, false, false, false, false, false, false, false, false, false, false, false, false, false, false, false, false, false, false, false, false, false, false, false, false, false, false, false] rfl rfl (any_of HT_.out (by kernel_rfl)) (fun _ _ _ h => h) (Or.inl ⟨by rfl, ?_⟩) ?_ ?_
                                  rotate_left
                                  · intro w'
                                    go_simp
                                    with_reducible rfl
                                  rotate_left
                                  · simp only [Act.put, List.setIfInBounds_toArray, List.set_cons_zero, List.set_cons_succ, i64_w, i32_w]
                                    rfl
                                  refine pure_ (i := 7) (N := some 69) (v := ?_) (a' := ?_) #[true, true, true, true, true, true, true, true, false, false, false, false, false, false, false, false, false, false, false, false, false, false, false, false, false, false, false, false, false, false, false, false, false, false, false] rfl rfl (any_of HT_.out (by kernel_rfl)) (fun _ _ _ h => h) (Or.inl ⟨by rfl, ?_⟩) ?_ ?_
                                  rotate_left
                                  · intro w'
                                    go_simp
                                    with_reducible rfl
                                  rotate_left
                                  · simp only [Act.put, List.setIfInBounds_toArray, List.set_cons_zero, List.set_cons_succ, i64_w, i32_w]
                                    rfl
                                  refine pure_ (i := 8) (N := some 70) (v := ?_) (a' := ?_) #[true, true, true, true, true, true, true, true, true, false, false, false, false, false, false, false, false, false, false, false, false, false, false, false, false, false, false, false, false, false, false, false, false, false, false] rfl rfl (any_of HT_.out (by kernel_rfl)) (fun _ _ _ h => h) (Or.inl ⟨by rfl, ?_⟩) ?_ ?_
                                  rotate_left
                                  · intro w'
                                    go_simp
                                    with_reducible rfl
                                  rotate_left
                                  · simp only [Act.put, List.setIfInBounds_toArray, List.set_cons_zero, List.set_cons_succ, i64_w, i32_w]
                                    rfl
                                  refine pure_ (i := 10) (N := some 72) (v := ?_) (a' := ?_) #[true, true, true, true, true, true, true, true, true, false, true, false, false, false, false, false, false, false, false, false, false, false, false, false, false, false, false, false, false, false, false, false, false, false, false] rfl rfl (any_of HT_.out (by kernel_rfl)) (fun _ _ _ h => h) (Or.inl ⟨by rfl, ?_⟩) ?_ ?_
                                  rotate_left
                                  · intro w'
                                    go_simp
                                    with_reducible rfl
                                  rotate_left
                                  · simp only [Act.put, List.setIfInBounds_toArray, List.set_cons_zero, List.set_cons_succ, i64_w, i32_w]
                                    rfl
                                  refine pure_ (i := 11) (N := some 73) (v := ?_) (a' := ?_) #[true, true, true, true, true, true, true, true, true, false, true, true, false, false, false, false, false, false, false, false, false, false, false, false, false, false, false, false, false, false, false, false, false, false, false] rfl rfl (any_of HT_.out (by kernel_rfl)) (fun _ _ _ h => h) (Or.inl ⟨by rfl, ?_⟩) ?_ ?_
                                  rotate_left
                                  · intro w'
                                    go_simp
                                    with_reducible rfl
                                  rotate_left
                                  · simp only [Act.put, List.setIfInBounds_toArray, List.set_cons_zero, List.set_cons_succ, i64_w, i32_w]
                                    rfl
                                  refine pure_ (i := 12) (N := some 74) (v := ?_) (a' := ?_) #[true, true, true, true, true, true, true, true, true, false, true, true, true, false, false, false, false, false, false, false, false, false, false, false, false, false, false, false, false, false, false, false, false, false, false] rfl rfl (any_of HT_.out (by kernel_rfl)) (fun _ _ _ h => h) (Or.inl ⟨by rfl, ?_⟩) ?_ ?_
                                  rotate_left
                                  · intro w'
                                    go_simp
                                    with_reducible rfl
                                  rotate_left
                                  · simp only [Act.put, List.setIfInBounds_toArray, List.set_cons_zero, List.set_cons_succ, i64_w, i32_w]
                                    rfl
                                  refine pure_ (i := 13) (N := some 75) (v := ?_) (a' := ?_) #[true, true, true, true, true, true, true, true, true, false, true, true, true, true, false, false, false, false, false, false, false, false, false, false, false, false, false, false, false, false, false, false, false, false, false] rfl rfl (any_of HT_.out (by kernel_rfl)) (fun _ _ _ h => h) (Or.inl ⟨by rfl, ?_⟩) ?_ ?_
                                  rotate_left
                                  · intro w'
                                    go_simp
                                    with_reducible rfl
                                  rotate_left
                                  · simp only [Act.put, List.setIfInBounds_toArray, List.set_cons_zero, List.set_cons_succ, i64_w, i32_w]
                                    rfl
                                  refine pure_ (i := 14) (N := some 76) (v := ?_) (a' := ?_) #[true, true, true, true, true, true, true, true, true, false, true, true, true, true, true, false, false, false, false, false, false, false, false, false, false, false, false, false, false, false, false, false, false, false, false] rfl rfl (any_of HT_.out (by kernel_rfl)) (fun _ _ _ h => h) (Or.inl ⟨by rfl, ?_⟩) ?_ ?_
                                  rotate_left
                                  · intro w'
                                    go_simp
                                    with_reducible rfl
                                  rotate_left
                                  · simp only [Act.put, List.setIfInBounds_toArray, List.set_cons_zero, List.set_cons_succ, i64_w, i32_w]
                                    rfl
                                  refine take_ (i := 9) (N := some 71) (v := ?_) (a' := ?_) #[true, true, true, true, true, true, true, true, true, true, true, true, true, true, true, false, false, false, false, false, false, false, false, false, false, false, false, false, false, false, false, false, false, false, false] rfl rfl (take_ofW HT_.out HW_.out (by kernel_rfl)) (fun _ _ _ h => h) (Or.inl ⟨by rfl, ?_⟩) hHeld ?_ ?_
                                  rotate_left
                                  · rintro w' ⟨s0, s1, s2, s3, s4⟩
                                    go_simp
                                    with_reducible rfl
                                  rotate_left
                                  · simp only [Act.put, List.setIfInBounds_toArray, List.set_cons_zero, List.set_cons_succ, i64_w, i32_w]
                                    rfl
                                  refine pure_ (i := 15) (N := some 77) (v := ?_) (a' := ?_) #[true, true, true, true, true, true, true, true, true, true, true, true, true, true, true, true, false, false, false, false, false, false, false, false, false, false, false, false, false, false, false, false, false, false, false] rfl rfl (any_of HT_.out (by kernel_rfl)) (fun _ _ _ h => h) (Or.inl ⟨by rfl, ?_⟩) ?_ ?_
                                  rotate_left
                                  · intro w'
                                    go_simp
                                    with_reducible rfl
                                  rotate_left
                                  · simp only [Act.put, List.setIfInBounds_toArray, List.set_cons_zero, List.set_cons_succ, i64_w, i32_w]
                                    rfl
                                  refine pure_ (i := 16) (N := some 78) (v := ?_) (a' := ?_) #[true, true, true, true, true, true, true, true, true, true, true, true, true, true, true, true, true, false, false, false, false, false, false, false, false, false, false, false, false, false, false, false, false, false, false] rfl rfl (any_of HT_.out (by kernel_rfl)) (fun _ _ _ h => h) (Or.inl ⟨by rfl, ?_⟩) ?_ ?_
                                  rotate_left
                                  · intro w'
                                    go_simp
                                    with_reducible rfl
                                  rotate_left
                                  · simp only [Act.put, List.setIfInBounds_toArray, List.set_cons_zero, List.set_cons_succ, i64_w, i32_w]
                                    rfl
                                  refine pure_ (i := 17) (N := some 79) (v := ?_) (a' := ?_) #[true, true, true, true, true, true, true, true, true, true, true, true, true, true, true, true, true, true, false, false, false, false, false, false, false, false, false, false, false, false, false, false, false, false, false] rfl rfl (any_of HT_.out (by kernel_rfl)) (fun _ _ _ h => h) (Or.inl ⟨by rfl, ?_⟩) ?_ ?_
                                  rotate_left
                                  · intro w'
                                    go_simp
                                    with_reducible rfl
                                  rotate_left
                                  · simp only [Act.put, List.setIfInBounds_toArray, List.set_cons_zero, List.set_cons_succ, i64_w, i32_w]
                                    rfl
                                  refine pure_ (i := 18) (N := some 80) (v := ?_) (a' := ?_) #[true, true, true, true, true, true, true, true, true, true, true, true, true, true, true, true, true, true, true, false, false, false, false, false, false, false, false, false, false, false, false, false, false, false, false] rfl rfl (any_of HT_.out (by kernel_rfl)) (fun _ _ _ h => h) (Or.inl ⟨by rfl, ?_⟩) ?_ ?_
                                  rotate_left
                                  · intro w'
                                    go_simp
                                    with_reducible rfl
                                  rotate_left
                                  · simp only [Act.put, List.setIfInBounds_toArray, List.set_cons_zero, List.set_cons_succ, i64_w, i32_w]
                                    rfl
                                  refine take_ (i := 19) (N := some 81) (v := ?_) (a' := ?_) #[true, true, true, true, true, true, true, true, true, true, true, true, true, true, true, true, true, true, true, true, false, false, false, false, false, false, false, false, false, false, false, false, false, false, false] rfl rfl (take_ofW HT_.out HW_.out (by kernel_rfl)) (fun _ _ _ h => h) (Or.inl ⟨by rfl, ?_⟩) hHeld ?_ ?_
                                  rotate_left
                                  · rintro w' ⟨s0, s1, s2, s3, s4⟩
                                    go_simp
                                    with_reducible rfl
                                  rotate_left
                                  · simp only [Act.put, List.setIfInBounds_toArray, List.set_cons_zero, List.set_cons_succ, i64_w, i32_w]
                                    rfl
                                  refine pure_ (i := 20) (N := some 82) (v := ?_) (a' := ?_) #[true, true, true, true, true, true, true, true, true, true, true, true, true, true, true, true, true, true, true, true, true, false, false, false, false, false, false, false, false, false, false, false, false, false, false] rfl rfl (any_of HT_.out (by kernel_rfl)) (fun _ _ _ h => h) (Or.inl ⟨by rfl, ?_⟩) ?_ ?_
                                  rotate_left
                                  · intro w'
                                    go_simp
                                    with_reducible rfl
                                  rotate_left
                                  · simp only [Act.put, List.setIfInBounds_toArray, List.set_cons_zero, List.set_cons_succ, i64_w, i32_w]
                                    rfl
                                  refine pure_ (i := 21) (N := some 83) (v := ?_) (a' := ?_) #[true, true, true, true, true, true, true, true, true, true, true, true, true, true, true, true, true, true, true, true, true, true, false, false, false, false, false, false, false, false, false, false, false, false, false] rfl rfl (any_of HT_.out (by kernel_rfl)) (fun _ _ _ h => h) (Or.inl ⟨by rfl, ?_⟩) ?_ ?_
                                  rotate_left
                                  · intro w'
                                    go_simp
                                    with_reducible rfl
                                  rotate_left
                                  · simp only [Act.put, List.setIfInBounds_toArray, List.set_cons_zero, List.set_cons_succ, i64_w, i32_w]
                                    rfl
                                  refine pure_ (i := 22) (N := some 84) (v := ?_) (a' := ?_) #[true, true, true, true, true, true, true, true, true, true, true, true, true, true, true, true, true, true, true, true, true, true, true, false, false, false, false, false, false, false, false, false, false, false, false] rfl rfl (any_of HT_.out (by kernel_rfl)) (fun _ _ _ h => h) (Or.inl ⟨by rfl, ?_⟩) ?_ ?_
                                  rotate_left
                                  · intro w'
                                    go_simp
                                    with_reducible rfl
                                  rotate_left
                                  · simp only [Act.put, List.setIfInBounds_toArray, List.set_cons_zero, List.set_cons_succ, i64_w, i32_w]
                                    rfl
                                  refine pure_ (i := 26) (N := some 88) (v := ?_) (a' := ?_) #[true, true, true, true, true, true, true, true, true, true, true, true, true, true, true, true, true, true, true, true, true, true, true, false, false, false, true, false, false, false, false, false, false, false, false] rfl rfl (any_of HT_.out (by kernel_rfl)) (fun _ _ _ h => h) (Or.inl ⟨by rfl, ?_⟩) ?_ ?_
                                  rotate_left
                                  · intro w'
                                    go_simp
                                    with_reducible rfl
                                  rotate_left
                                  · simp only [Act.put, List.setIfInBounds_toArray, List.set_cons_zero, List.set_cons_succ, i64_w, i32_w]
                                    rfl
                                  refine take_ (i := 23) (N := some 85) (v := ?_) (a' := ?_) #[true, true, true, true, true, true, true, true, true, true, true, true, true, true, true, true, true, true, true, true, true, true, true, true, false, false, true, false, false, false, false, false, false, false, false] rfl rfl (take_ofW HT_.out HW_.out (by kernel_rfl)) (fun _ _ _ h => h) (Or.inl ⟨by rfl, ?_⟩) hHeld ?_ ?_
                                  rotate_left
                                  · rintro w' ⟨s0, s1, s2, s3, s4⟩
                                    go_simp
                                    with_reducible rfl
                                  rotate_left
                                  · simp only [Act.put, List.setIfInBounds_toArray, List.set_cons_zero, List.set_cons_succ, i64_w, i32_w]
                                    rfl
                                  refine take_ (i := 27) (N := some 89) (v := ?_) (a' := ?_) #[true, true, true, true, true, true, true, true, true, true, true, true, true, true, true, true, true, true, true, true, true, true, true, true, false, false, true, true, false, false, false, false, false, false, false] rfl rfl (take_ofW HT_.out HW_.out (by kernel_rfl)) (fun _ _ _ h => h) (Or.inl ⟨by rfl, ?_⟩) hHeld ?_ ?_
                                  rotate_left
                                  · rintro w' ⟨s0, s1, s2, s3, s4⟩
                                    go_simp
                                    with_reducible rfl
                                  rotate_left
                                  · simp only [Act.put, List.setIfInBounds_toArray, List.set_cons_zero, List.set_cons_succ, i64_w, i32_w]
                                    rfl
                                  refine pure_ (i := 28) (N := some 90) (v := ?_) (a' := ?_) #[true, true, true, true, true, true, true, true, true, true, true, true, true, true, true, true, true, true, true, true, true, true, true, true, false, false, true, true, true, false, false, false, false, false, false] rfl rfl (any_of HT_.out (by kernel_rfl)) (fun _ _ _ h => h) (Or.inl ⟨by rfl, ?_⟩) ?_ ?_
                                  rotate_left
                                  · intro w'
                                    go_simp
                                    with_reducible rfl
                                  rotate_left
                                  · simp only [Act.put, List.setIfInBounds_toArray, List.set_cons_zero, List.set_cons_succ, i64_w, i32_w]
                                    rfl
                                  refine one_ (i := 24) (N := some 86) #[true, true, true, true, true, true, true, true, true, true, true, true, true, true, true, true, true, true, true, true, true, true, true, true, true, false, true, true, true, false, false, false, false, false, false] rfl rfl (one_of HT_.out (by kernel_rfl)) (by decide) (fun K hK => ?_)
                                  refine goes_ Try.func14 (by kernel_rfl) rfl #[.agg #[.int .i64 x266000_4, .int .i64 x266001_4, .bool false, .int .i64 x266003_4, .int .i64 x266004_4]] (by rfl) rfl rfl (by (try simp only [List.map_toArray, List.map_cons, List.map_nil]); first | done | rfl | (simp only [List.length_drop, List.length_take]; rfl)) ?_
                                  with_reducible refine (conf_Mode.calls k4 x266000_4 x266001_4 false x266003_4 x266004_4 t290 _ A31.out).mono ?_
                                  rintro e w35 ⟨rfl, hb⟩
                                  refine ⟨_, rfl, ?_⟩
                                  have n0_ := Aside0.mk (blk_below (g := gb265) (o := .cells #[.int .i64 x266000_4, .int .i64 x266001_4, .bool false, .int .i64 x266003_4, .int .i64 x266004_4] 23 (0, 0)) (by (with_reducible repeat (first | refine blk_drewN ?_ _ | refine blk_drew ?_ | refine blk_alloc ?_ _)); exact BK265.out) hb)
                                  have n1_ := Aside0.mk (below_step (by repeat (first | (with_reducible first | exact HB.out | apply below_alloc | apply pw_below_drewN | apply below_drew1 | refine below_set ?_ GE265.out) | exact HB.out)) hb)
                                  clear BK265
                                  clear HB
                                  have BK265 := n0_
                                  have HB := n1_
                                  clear n0_ n1_
                                  (try clear hb)
                                  (try clear hb2)
                                  (try clear hk)
                                  (try clear hi)
                                  refine hK.out _ _ ⟨(blk_cell BK265.out 0).trans rfl, (blk_cell BK265.out 1).trans rfl, (blk_cell BK265.out 2).trans rfl, (blk_cell BK265.out 3).trans rfl, (blk_cell BK265.out 4).trans rfl⟩ (fun hHeld => ?_)
                                  clear hK K
                                  refine norm_ (a' := ?_) ?_ ?_
                                  rotate_left
                                  · show Act.put _ (some 86) _ = _
                                    simp only [Act.put, List.setIfInBounds_toArray, List.set_cons_zero, List.set_cons_succ, i64_w, i32_w]
                                    rfl
                                  refine pure_ (i := 25) (N := some 87) (v := ?_) (a' := ?_) #[true, true, true, true, true, true, true, true, true, true, true, true, true, true, true, true, true, true, true, true, true, true, true, true, true, true, true, true, true, false, false, false, false, false, false] rfl rfl (any_of HT_.out (by kernel_rfl)) (fun _ _ _ h => h) (Or.inl ⟨by rfl, ?_⟩) ?_ ?_
                                  rotate_left
                                  · intro w'
                                    go_simp
                                    with_reducible rfl
                                  rotate_left
                                  · simp only [Act.put, List.setIfInBounds_toArray, List.set_cons_zero, List.set_cons_succ, i64_w, i32_w]
                                    rfl
                                  refine pure_ (i := 29) (N := some 91) (v := ?_) (a' := ?_) #[true, true, true, true, true, true, true, true, true, true, true, true, true, true, true, true, true, true, true, true, true, true, true, true, true, true, true, true, true, true, false, false, false, false, false] rfl rfl (any_of HT_.out (by kernel_rfl)) (fun _ _ _ h => h) (Or.inl ⟨by rfl, ?_⟩) ?_ ?_
                                  rotate_left
                                  · intro w'
                                    go_simp
                                    with_reducible rfl
                                  rotate_left
                                  · simp only [Act.put, List.setIfInBounds_toArray, List.set_cons_zero, List.set_cons_succ, i64_w, i32_w]
                                    rfl
                                  refine pure_ (i := 30) (N := some 92) (v := ?_) (a' := ?_) #[true, true, true, true, true, true, true, true, true, true, true, true, true, true, true, true, true, true, true, true, true, true, true, true, true, true, true, true, true, true, true, false, false, false, false] rfl rfl (any_of HT_.out (by kernel_rfl)) (fun _ _ _ h => h) (Or.inl ⟨by rfl, ?_⟩) ?_ ?_
                                  rotate_left
                                  · intro w'
                                    go_simp
                                    with_reducible rfl
                                  rotate_left
                                  · simp only [Act.put, List.setIfInBounds_toArray, List.set_cons_zero, List.set_cons_succ, i64_w, i32_w]
                                    rfl
                                  refine pure_ (i := 31) (N := some 93) (v := ?_) (a' := ?_) #[true, true, true, true, true, true, true, true, true, true, true, true, true, true, true, true, true, true, true, true, true, true, true, true, true, true, true, true, true, true, true, true, false, false, false] rfl rfl (any_of HT_.out (by kernel_rfl)) (fun _ _ _ h => h) (Or.inl ⟨by rfl, ?_⟩) ?_ ?_
                                  rotate_left
                                  · intro w'
                                    go_simp
                                    with_reducible rfl
                                  rotate_left
                                  · simp only [Act.put, List.setIfInBounds_toArray, List.set_cons_zero, List.set_cons_succ, i64_w, i32_w]
                                    rfl
                                  refine one_ (i := 32) (N := some 94) #[true, true, true, true, true, true, true, true, true, true, true, true, true, true, true, true, true, true, true, true, true, true, true, true, true, true, true, true, true, true, true, true, true, false, false] rfl rfl (one_of HT_.out (by kernel_rfl)) (by decide) (fun K hK => ?_)
                                  refine goes_ Try.func18 (by kernel_rfl) rfl #[] (by rfl) rfl rfl (by (try simp only [List.map_toArray, List.map_cons, List.map_nil]); first | done | rfl | (simp only [List.length_drop, List.length_take]; rfl)) ?_
                                  with_reducible refine (jackstaylaw06_awake.calls k4  t291 _ A33.out).mono ?_
                                  rintro e w36 ⟨rfl, hb⟩
                                  refine ⟨_, rfl, ?_⟩
                                  have n0_ := Aside0.mk (blk_below (g := gb265) (o := .cells #[.int .i64 x266000_4, .int .i64 x266001_4, .bool false, .int .i64 x266003_4, .int .i64 x266004_4] 23 (0, 0)) (by (with_reducible repeat (first | refine blk_drewN ?_ _ | refine blk_drew ?_ | refine blk_alloc ?_ _)); exact BK265.out) hb)
                                  have n1_ := Aside0.mk (below_step (by repeat (first | (with_reducible first | exact HB.out | apply below_alloc | apply pw_below_drewN | apply below_drew1 | refine below_set ?_ GE265.out) | exact HB.out)) hb)
                                  clear BK265
                                  clear HB
                                  have BK265 := n0_
                                  have HB := n1_
                                  clear n0_ n1_
                                  (try clear hb)
                                  (try clear hb2)
                                  (try clear hk)
                                  (try clear hi)
                                  refine hK.out _ _ ⟨(blk_cell BK265.out 0).trans rfl, (blk_cell BK265.out 1).trans rfl, (blk_cell BK265.out 2).trans rfl, (blk_cell BK265.out 3).trans rfl, (blk_cell BK265.out 4).trans rfl⟩ (fun hHeld => ?_)
                                  clear hK K
                                  refine norm_ (a' := ?_) ?_ ?_
                                  rotate_left
                                  · show Act.put _ (some 94) _ = _
                                    simp only [Act.put, List.setIfInBounds_toArray, List.set_cons_zero, List.set_cons_succ, i64_w, i32_w]
                                    rfl
                                  refine pure_ (i := 33) (N := some 95) (v := ?_) (a' := ?_) #[true, true, true, true, true, true, true, true, true, true, true, true, true, true, true, true, true, true, true, true, true, true, true, true, true, true, true, true, true, true, true, true, true, true, false] rfl rfl (any_of HT_.out (by kernel_rfl)) (fun _ _ _ h => h) (Or.inl ⟨by rfl, ?_⟩) ?_ ?_
                                  rotate_left
                                  · intro w'
                                    go_simp
                                    with_reducible rfl
                                  rotate_left
                                  · simp only [Act.put, List.setIfInBounds_toArray, List.set_cons_zero, List.set_cons_succ, i64_w, i32_w]
                                    rfl
                                  refine pure_ (i := 34) (N := some 8) (v := ?_) (a' := ?_) #[true, true, true, true, true, true, true, true, true, true, true, true, true, true, true, true, true, true, true, true, true, true, true, true, true, true, true, true, true, true, true, true, true, true, true] rfl rfl (any_of HT_.out (by kernel_rfl)) (fun _ _ _ h => h) (Or.inl ⟨by rfl, ?_⟩) ?_ ?_
                                  rotate_left
                                  · intro w'
                                    go_simp
                                    with_reducible rfl
                                  rotate_left
                                  · simp only [Act.put, List.setIfInBounds_toArray, List.set_cons_zero, List.set_cons_succ, i64_w, i32_w]
                                    rfl
                                  refine done_ (done_of HT_.out (by kernel_rfl)) ?_
                                  try go_wp2
                                  go_ret
                                  exact ⟨by first | rfl | (simp [errW_none, errW_some] <;> rfl) | (simp only [← hji26, ← hji28]; first | rfl | (simp [errW_none, errW_some] <;> rfl)) | (simp [*, errW_none, errW_some] <;> rfl), by repeat (first | (with_reducible first | exact HB.out | apply below_alloc | apply pw_below_drewN | apply below_drew1 | refine below_set ?_ GE265.out) | exact HB.out)⟩
                                · rw [if_neg c32] at H
                                  have c32b0 : ((t290 == 1) == (decide (x266000_4 > 127))) = false := by simpa using c32
                                  (try (have c32b1 : decide ((t290 == 1) = (decide (x266000_4 > 127))) = false := by simpa using c32))
                                  (try (have c32b2 : ((t290 == 1) == (decide (x266000_4 > 127))) = false := by simpa using c32))
                                  (try (have c32b3 : ¬ ((t290 == 1) = (decide (x266000_4 > 127))) := by simpa using c32))
                                  clear c32
                                  obtain rfl := Option.some.inj H
                                  exact absurd hT_ (by decide)
                            · rw [if_neg c29] at H
                              have c29b0 : (x266000_4 == (ji28)) = false := beq_eq_false_iff_ne.mpr c29
                              have c29b1 : (x266000_4 != (ji28)) = true := bne_iff_ne.mpr c29
                              obtain rfl := Option.some.inj H
                              exact absurd hT_ (by decide)
                          · rw [if_neg c27] at H
                            have c27b0 : (x266001_4 == (ji26)) = false := beq_eq_false_iff_ne.mpr c27
                            have c27b1 : (x266001_4 != (ji26)) = true := bne_iff_ne.mpr c27
                            obtain rfl := Option.some.inj H
                            exact absurd hT_ (by decide)

end Go.Proofs.Ytgpdcgbohodfoaa.P
