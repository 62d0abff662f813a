/- What Go functions of this seat answer: their contracts, printed by a program of this session's; Lean checks each. -/
import Derived.Test.YtgpdcgbohodfoaaPx0
import Derived.Test.YtgpdcgbohodfoaaPx1
import Derived.Test.YtgpdcgbohodfoaaPx3
import Derived.Test.YtgpdcgbohodfoaaPx4
import Derived.Test.YtgpdcgbohodfoaaPx5
namespace Go.Proofs.Ytgpdcgbohodfoaa.P
open Go.RowKit Go.Proofs.YtgpdcgbohodfoaaW.PrintWords Go.Proofs.YtgpdcgbohodfoaaW.PrintLast Go.Proofs.YtgpdcgbohodfoaaW.PrintMore
attribute [local go_sem] max2_int min2_int max_two min_two max_three min_three max_four min_four   -- for this text's walks alone
set_option linter.unusedVariables false
set_option linter.unusedSimpArgs false

attribute [local go_sem high] eqA23
/-! ### jackstaylaw06_ConfBalance: function 8 -/
mutual
def jackstaylaw06_ConfBalance.l0 : Nat → List Int → Int → Int → Int → Int → Bool → Int → Int → Option (Bool)
  | 0, _, _, _, _, _, _, _, _ => none
  | k + 1, x12, x13, x14, x314000, x314001, x314002, x314003, x314004 => if x14 < x13 then (if 0 ≤ x14 then (if x14 < (x12.length : Int) then ((conf_Event.f k x314000 x314001 x314002 x314003 x314004 ((1 + (Int.tmod (rd x12 x14) 7)) % 256)).bind fun bt317 => (if bt317.1 > 8 then (jackstaylaw06_ConfBalance.j1 k ((1 + (Int.tmod (rd x12 x14) 7)) % 256) x12 x13 x14 true bt317.1 bt317.2.1 bt317.2.2.1 bt317.2.2.2.1 bt317.2.2.2.2.1) else (if bt317.2.1 > 8 then (jackstaylaw06_ConfBalance.j1 k ((1 + (Int.tmod (rd x12 x14) 7)) % 256) x12 x13 x14 true bt317.1 bt317.2.1 bt317.2.2.1 bt317.2.2.2.1 bt317.2.2.2.2.1) else ((conf_Mode.f k bt317.1 bt317.2.1 bt317.2.2.1 bt317.2.2.2.1 bt317.2.2.2.2.1).bind fun t323 => (jackstaylaw06_ConfBalance.j1 k ((1 + (Int.tmod (rd x12 x14) 7)) % 256) x12 x13 x14 (t323 != 0) bt317.1 bt317.2.1 bt317.2.2.1 bt317.2.2.2.1 bt317.2.2.2.2.1))))) else (none)) else (none)) else (if (x314000 == 0 && (x314001 == 0 && (!x314002 && (x314003 == 0 && (x314004 == 0))))) = true then ((jackstaylaw06_awake.f k).bind fun t315 => (some t315)) else (some false))
def jackstaylaw06_ConfBalance.j1 : Nat → Int → List Int → Int → Int → Bool → Int → Int → Bool → Int → Int → Option (Bool)
  | 0, _, _, _, _, _, _, _, _, _, _ => none
  | k + 1, x6, x12, x13, x14, x39, x314000, x314001, x314002, x314003, x314004 => if x39 = true then (some false) else (if x6 ≥ 5 then (jackstaylaw06_ConfBalance.j2 k 8 x12 x13 x14 x314000 x314001 x314002 x314003 x314004) else (jackstaylaw06_ConfBalance.j2 k 9 x12 x13 x14 x314000 x314001 x314002 x314003 x314004))
def jackstaylaw06_ConfBalance.j2 : Nat → Int → List Int → Int → Int → Int → Int → Bool → Int → Int → Option (Bool)
  | 0, _, _, _, _, _, _, _, _, _ => none
  | k + 1, x7, x12, x13, x14, x314000, x314001, x314002, x314003, x314004 => jackstaylaw06_ConfBalance.l1 k x7 x12 x13 x14 0 x314000 x314001 x314002 x314003 x314004
def jackstaylaw06_ConfBalance.l1 : Nat → Int → List Int → Int → Int → Int → Int → Int → Bool → Int → Int → Option (Bool)
  | 0, _, _, _, _, _, _, _, _, _, _ => none
  | k + 1, x7, x12, x13, x14, x42, x314000, x314001, x314002, x314003, x314004 => if x42 < 8 then ((conf_Event.f k x314000 x314001 x314002 x314003 x314004 x7).bind fun bt324 => (jackstaylaw06_ConfBalance.l1 k x7 x12 x13 x14 (wrap64 (x42 + 1)) bt324.1 bt324.2.1 bt324.2.2.1 bt324.2.2.2.1 bt324.2.2.2.2.1)) else (jackstaylaw06_ConfBalance.l0 k x12 x13 (wrap64 (x14 + 1)) x314000 x314001 x314002 x314003 x314004)
end
def jackstaylaw06_ConfBalance.f (k : Nat) (l0 : List Int) : Option (Bool) := if 0 ≤ (mn (l0.length : Int) 200) then (if (mn (l0.length : Int) 200) ≤ (l0.length : Int) then (jackstaylaw06_ConfBalance.l0 k (l0.take ((mn (l0.length : Int) 200) : Int).toNat) ((l0.take ((mn (l0.length : Int) 200) : Int).toNat).length : Int) 0 0 0 false 0 0) else (none)) else (none)
theorem jackstaylaw06_ConfBalance.mono_l : ∀ k, (∀ y0 y1 y2 y3 y4 y5 y6 y7, LeO (jackstaylaw06_ConfBalance.l0 k y0 y1 y2 y3 y4 y5 y6 y7) (jackstaylaw06_ConfBalance.l0 (k + 1) y0 y1 y2 y3 y4 y5 y6 y7)) ∧ (∀ y0 y1 y2 y3 y4 y5 y6 y7 y8 y9, LeO (jackstaylaw06_ConfBalance.j1 k y0 y1 y2 y3 y4 y5 y6 y7 y8 y9) (jackstaylaw06_ConfBalance.j1 (k + 1) y0 y1 y2 y3 y4 y5 y6 y7 y8 y9)) ∧ (∀ y0 y1 y2 y3 y4 y5 y6 y7 y8, LeO (jackstaylaw06_ConfBalance.j2 k y0 y1 y2 y3 y4 y5 y6 y7 y8) (jackstaylaw06_ConfBalance.j2 (k + 1) y0 y1 y2 y3 y4 y5 y6 y7 y8)) ∧ (∀ y0 y1 y2 y3 y4 y5 y6 y7 y8 y9, LeO (jackstaylaw06_ConfBalance.l1 k y0 y1 y2 y3 y4 y5 y6 y7 y8 y9) (jackstaylaw06_ConfBalance.l1 (k + 1) y0 y1 y2 y3 y4 y5 y6 y7 y8 y9))
  | 0 => ⟨fun _ _ _ _ _ _ _ _ r h => by simp [jackstaylaw06_ConfBalance.l0] at h, fun _ _ _ _ _ _ _ _ _ _ r h => by simp [jackstaylaw06_ConfBalance.j1] at h, fun _ _ _ _ _ _ _ _ _ r h => by simp [jackstaylaw06_ConfBalance.j2] at h, fun _ _ _ _ _ _ _ _ _ _ r h => by simp [jackstaylaw06_ConfBalance.l1] at h⟩
  | k + 1 => by
    obtain ⟨ih0, ih1, ih2, ih3⟩ := jackstaylaw06_ConfBalance.mono_l k
    refine ⟨?_, ?_, ?_, ?_⟩
    · intro y0 y1 y2 y3 y4 y5 y6 y7
      unfold jackstaylaw06_ConfBalance.l0
      repeat' first
      | (with_reducible exact ih0 _ _ _ _ _ _ _ _)
      | (with_reducible exact ih1 _ _ _ _ _ _ _ _ _ _)
      | (with_reducible exact ih2 _ _ _ _ _ _ _ _ _)
      | (with_reducible exact ih3 _ _ _ _ _ _ _ _ _ _)
      | (with_reducible exact conf_Event.mono _ _ _ _ _ _ _)
      | (with_reducible exact conf_Mode.mono _ _ _ _ _ _)
      | (with_reducible exact jackstaylaw06_awake.mono _)
      | (with_reducible exact LeO.refl _)
      | (with_reducible exact LeO.none _)
      | (with_reducible refine LeO.ite ?_ ?_)
      | (with_reducible refine LeO.bind ?_ (fun _ => ?_))
      | exact ih0 _ _ _ _ _ _ _ _
      | exact ih1 _ _ _ _ _ _ _ _ _ _
      | exact ih2 _ _ _ _ _ _ _ _ _
      | exact ih3 _ _ _ _ _ _ _ _ _ _
      | exact conf_Event.mono _ _ _ _ _ _ _
      | exact conf_Mode.mono _ _ _ _ _ _
      | exact jackstaylaw06_awake.mono _
      | exact LeO.none _
      | refine LeO.ite ?_ ?_
      | refine LeO.bind ?_ (fun _ => ?_)
    · intro y0 y1 y2 y3 y4 y5 y6 y7 y8 y9
      unfold jackstaylaw06_ConfBalance.j1
      repeat' first
      | (with_reducible exact ih0 _ _ _ _ _ _ _ _)
      | (with_reducible exact ih1 _ _ _ _ _ _ _ _ _ _)
      | (with_reducible exact ih2 _ _ _ _ _ _ _ _ _)
      | (with_reducible exact ih3 _ _ _ _ _ _ _ _ _ _)
      | (with_reducible exact conf_Event.mono _ _ _ _ _ _ _)
      | (with_reducible exact conf_Mode.mono _ _ _ _ _ _)
      | (with_reducible exact jackstaylaw06_awake.mono _)
      | (with_reducible exact LeO.refl _)
      | (with_reducible exact LeO.none _)
      | (with_reducible refine LeO.ite ?_ ?_)
      | (with_reducible refine LeO.bind ?_ (fun _ => ?_))
      | exact ih0 _ _ _ _ _ _ _ _
      | exact ih1 _ _ _ _ _ _ _ _ _ _
      | exact ih2 _ _ _ _ _ _ _ _ _
      | exact ih3 _ _ _ _ _ _ _ _ _ _
      | exact conf_Event.mono _ _ _ _ _ _ _
      | exact conf_Mode.mono _ _ _ _ _ _
      | exact jackstaylaw06_awake.mono _
      | exact LeO.none _
      | refine LeO.ite ?_ ?_
      | refine LeO.bind ?_ (fun _ => ?_)
    · intro y0 y1 y2 y3 y4 y5 y6 y7 y8
      unfold jackstaylaw06_ConfBalance.j2
      repeat' first
      | (with_reducible exact ih0 _ _ _ _ _ _ _ _)
      | (with_reducible exact ih1 _ _ _ _ _ _ _ _ _ _)
      | (with_reducible exact ih2 _ _ _ _ _ _ _ _ _)
      | (with_reducible exact ih3 _ _ _ _ _ _ _ _ _ _)
      | (with_reducible exact conf_Event.mono _ _ _ _ _ _ _)
      | (with_reducible exact conf_Mode.mono _ _ _ _ _ _)
      | (with_reducible exact jackstaylaw06_awake.mono _)
      | (with_reducible exact LeO.refl _)
      | (with_reducible exact LeO.none _)
      | (with_reducible refine LeO.ite ?_ ?_)
      | (with_reducible refine LeO.bind ?_ (fun _ => ?_))
      | exact ih0 _ _ _ _ _ _ _ _
      | exact ih1 _ _ _ _ _ _ _ _ _ _
      | exact ih2 _ _ _ _ _ _ _ _ _
      | exact ih3 _ _ _ _ _ _ _ _ _ _
      | exact conf_Event.mono _ _ _ _ _ _ _
      | exact conf_Mode.mono _ _ _ _ _ _
      | exact jackstaylaw06_awake.mono _
      | exact LeO.none _
      | refine LeO.ite ?_ ?_
      | refine LeO.bind ?_ (fun _ => ?_)
    · intro y0 y1 y2 y3 y4 y5 y6 y7 y8 y9
      unfold jackstaylaw06_ConfBalance.l1
      repeat' first
      | (with_reducible exact ih0 _ _ _ _ _ _ _ _)
      | (with_reducible exact ih1 _ _ _ _ _ _ _ _ _ _)
      | (with_reducible exact ih2 _ _ _ _ _ _ _ _ _)
      | (with_reducible exact ih3 _ _ _ _ _ _ _ _ _ _)
      | (with_reducible exact conf_Event.mono _ _ _ _ _ _ _)
      | (with_reducible exact conf_Mode.mono _ _ _ _ _ _)
      | (with_reducible exact jackstaylaw06_awake.mono _)
      | (with_reducible exact LeO.refl _)
      | (with_reducible exact LeO.none _)
      | (with_reducible refine LeO.ite ?_ ?_)
      | (with_reducible refine LeO.bind ?_ (fun _ => ?_))
      | exact ih0 _ _ _ _ _ _ _ _
      | exact ih1 _ _ _ _ _ _ _ _ _ _
      | exact ih2 _ _ _ _ _ _ _ _ _
      | exact ih3 _ _ _ _ _ _ _ _ _ _
      | exact conf_Event.mono _ _ _ _ _ _ _
      | exact conf_Mode.mono _ _ _ _ _ _
      | exact jackstaylaw06_awake.mono _
      | exact LeO.none _
      | refine LeO.ite ?_ ?_
      | refine LeO.bind ?_ (fun _ => ?_)
theorem jackstaylaw06_ConfBalance.mono : ∀ a0 k, LeO (jackstaylaw06_ConfBalance.f k a0) (jackstaylaw06_ConfBalance.f (k + 1) a0) := by
  intro a0 k
  obtain ⟨ih0, ih1, ih2, ih3⟩ := jackstaylaw06_ConfBalance.mono_l k
  unfold jackstaylaw06_ConfBalance.f
  repeat' first
      | (with_reducible exact ih0 _ _ _ _ _ _ _ _)
      | (with_reducible exact ih1 _ _ _ _ _ _ _ _ _ _)
      | (with_reducible exact ih2 _ _ _ _ _ _ _ _ _)
      | (with_reducible exact ih3 _ _ _ _ _ _ _ _ _ _)
      | (with_reducible exact conf_Event.mono _ _ _ _ _ _ _)
      | (with_reducible exact conf_Mode.mono _ _ _ _ _ _)
      | (with_reducible exact jackstaylaw06_awake.mono _)
      | (with_reducible exact LeO.refl _)
      | (with_reducible exact LeO.none _)
      | (with_reducible refine LeO.ite ?_ ?_)
      | (with_reducible refine LeO.bind ?_ (fun _ => ?_))
      | exact ih0 _ _ _ _ _ _ _ _
      | exact ih1 _ _ _ _ _ _ _ _ _ _
      | exact ih2 _ _ _ _ _ _ _ _ _
      | exact ih3 _ _ _ _ _ _ _ _ _ _
      | exact conf_Event.mono _ _ _ _ _ _ _
      | exact conf_Mode.mono _ _ _ _ _ _
      | exact jackstaylaw06_awake.mono _
      | exact LeO.none _
      | refine LeO.ite ?_ ?_
      | refine LeO.bind ?_ (fun _ => ?_)
set_option maxHeartbeats 8000000 in
set_option maxRecDepth 100000 in
theorem jackstaylaw06_ConfBalance.calls (k : Nat) (A0 : Option Addr) (c0 : Nat) (l0 : List Int) (r : Bool) (w : World) (hr0 : Kd.C (Kd.int .u8) w A0 l0.length l0) (hc0 : l0.length ≤ c0) (h : jackstaylaw06_ConfBalance.f k l0 = some r) (hT_ : r = true) :
    Calls Try.prog 8 #[.slice A0 l0.length c0] w fun e w' => e = .returned (.bool r) ∧ Below w.heap.size w w' := by
  have hu23 := Try.underlying23
  have HR0 := Aside0.mk hr0
  have HC0 := Aside0.mk hc0
  clear hr0 hc0
  have HB := Aside0.mk (Below.refl w.heap.size w)
  have H : (if 0 ≤ (mn (l0.length : Int) 200) then (if (mn (l0.length : Int) 200) ≤ (l0.length : Int) then (jackstaylaw06_ConfBalance.l0 k (l0.take ((mn (l0.length : Int) 200) : Int).toNat) ((l0.take ((mn (l0.length : Int) 200) : Int).toNat).length : Int) 0 0 0 false 0 0) else (none)) else (none)) = some r := h
  clear h
  obtain ⟨ji2, hji2⟩ : ∃ j_ : Int, (mn (l0.length : Int) 200) = j_ := ⟨_, rfl⟩
  replace H : (if 0 ≤ (ji2) then (if (ji2) ≤ (l0.length : Int) then (jackstaylaw06_ConfBalance.l0 k (l0.take ((ji2) : Int).toNat) ((l0.take ((ji2) : Int).toNat).length : Int) 0 0 0 false 0 0) else (none)) else (none)) = some r := by first | (rw [hji2] at H; exact H) | (simp only [hji2] at H ⊢; exact H)
  (try (have hji2h : ji2 ≤ 200 := by (rw [← hji2]; unfold mn; (repeat' split) <;> omega)))
  (try (have hji2g : ji2 ≤ 64 := by omega))
  (try (have hji2l : 0 ≤ ji2 := by (rw [← hji2]; unfold mn; (repeat' split) <;> omega)))
  (try (have hji2m : 0 ≤ ji2 := by omega))
  have hji2_ : (if 200 < (l0.length : Int) then 200 else (l0.length : Int)) = ji2 := hji2
  by_cases c3 : 0 ≤ (ji2)
  · rw [if_pos c3] at H
    have c3b0 := eq_true c3
    have c3b1 : decide (0 ≤ (ji2)) = true := decide_eq_true c3
    clear c3
    by_cases c4 : (ji2) ≤ (l0.length : Int)
    · rw [if_pos c4] at H
      have c4b0 := eq_true c4
      have c4b1 : decide ((ji2) ≤ (l0.length : Int)) = true := decide_eq_true c4
      clear c4
      have H' := Aside0.mk H
      clear H
      go_enter Try.func8, Try.ntmps8
      go_wp2_with (first | ((with_reducible refine gate_dst (N := 3) rfl ?_); refine box_event ?hg (N := 3) ?hd (cs := #[.int .i64 0, .int .i64 0, .bool false, .int .i64 0, .int .i64 0]) (t := 23) ?hr ?_; (case hd => rfl); (case hg => rfl); (case hr => first | (go_simp; done) | (go_simp; rfl)); intro gb313 hg w5 hbox hb; have n0_ := Aside0.mk (below_step (by repeat (first | (with_reducible first | exact HB.out | apply below_alloc | apply pw_below_drewN | apply below_drew1) | exact HB.out)) hb); have n1_ := Aside0.mk (hbox); have n2_ := Aside0.mk ((by rw [hg]; exact (below_size (by repeat (first | (with_reducible first | exact HB.out | apply below_alloc | apply pw_below_drewN | apply below_drew1) | exact HB.out))) : w.heap.size ≤ gb313)); have n3_ := Aside0.mk ((by rw [hg]; exact (below_size (by repeat (first | (with_reducible first | exact HB.out | apply below_alloc | apply pw_below_drewN | apply below_drew1) | exact HB.out))) : w.heap.size ≤ gb313)); clear HB; have HB := n0_; have BK313 := n1_; have GW313 := n2_; have GE313 := n3_; clear n0_ n1_ n2_ n3_; clear hb hbox hg; obtain ⟨i06, hi06, _, hsz6, _⟩ := info_parts info5; obtain ⟨hcut6, hA6, hC6⟩ := print_take_of (P := Try.prog) (Value.int .u8) 0 40 5 .i64 Try.underlying40 hi06 hsz6 A0 c0 l0 (ji2) (of_decide_eq_true (by first | (with_reducible assumption) | assumption)) (of_decide_eq_true (by first | (with_reducible assumption) | assumption)) HC0.out; have HR314 := Aside0.mk (Kd.C_of_reads (h1 := fun _ => rfl) (hA6 _ (Kd.reads_of_C HR0.out))); have HC314 := Aside0.mk hC6; clear hA6 hC6 hi06 hsz6))
      go_loopg [14] k (fun kq v14 w' => ∃ (x14_1 : Int) (x314000_1 : Int) (x314001_1 : Int) (x314002_1 : Bool) (x314003_1 : Int) (x314004_1 : Int), v14 = .int .i64 x14_1 ∧ Aside0 (jackstaylaw06_ConfBalance.l0 kq (l0.take ((ji2) : Int).toNat) ((l0.take ((ji2) : Int).toNat).length : Int) x14_1 x314000_1 x314001_1 x314002_1 x314003_1 x314004_1 = some r) ∧ Aside0 (kq ≤ k) ∧ Aside0 (w'.heap[gb313]? = some (.cells #[.int .i64 x314000_1, .int .i64 x314001_1, .bool x314002_1, .int .i64 x314003_1, .int .i64 x314004_1] 23 (0, 0))) ∧ Aside0 (Below w.heap.size w w'))
      case atStart => exact ⟨(0), (0), (0), (false), (0), (0), (by first | rfl | (simp; done) | (simp [*]; done)), H', ⟨Nat.le_refl _⟩, ⟨by (with_reducible repeat (first | refine blk_drewN ?_ _ | refine blk_drew ?_ | refine blk_alloc ?_ _)); exact BK313.out⟩, ⟨by repeat (first | (with_reducible first | exact HB.out | apply below_alloc | apply pw_below_drewN | apply below_drew1 | refine below_set ?_ GE313.out) | exact HB.out)⟩⟩
      case round =>
        clear H'
        try clear p2
        try clear c3
        try clear c3b0
        try clear c3b1
        try clear c4
        try clear c4b0
        try clear c4b1
        obtain ⟨x14_1, x314000_1, x314001_1, x314002_1, x314003_1, x314004_1, rfl, HA, HK1, BK313, HB⟩ := hrel
        cases gk with
        | zero => exact absurd HA.out (by simp [jackstaylaw06_ConfBalance.l0])
        | succ k1 =>
          have H := HA.out
          clear HA
          simp only [jackstaylaw06_ConfBalance.l0] at H
          by_cases c7 : x14_1 < ((l0.take ((ji2) : Int).toNat).length : Int)
          · rw [if_pos c7] at H
            have c7b0 : decide (x14_1 < ((l0.take ((ji2) : Int).toNat).length : Int)) = true := decide_eq_true c7
            (try (have c7b0z := c7b0; simp only [List.length_drop, List.length_take] at c7b0z))
            (try (have c7b0y : decide (x14_1 < max ji2 0) = true := decide_eq_true (by have h_ := of_decide_eq_true c7b0z; omega)))
            clear c7
            by_cases c8 : 0 ≤ x14_1
            · rw [if_pos c8] at H
              have c8b0 : decide (0 ≤ x14_1) = true := decide_eq_true c8
              clear c8
              by_cases c9 : x14_1 < ((l0.take ((ji2) : Int).toNat).length : Int)
              · rw [if_pos c9] at H
                have c9b0 : decide (x14_1 < ((l0.take ((ji2) : Int).toNat).length : Int)) = true := decide_eq_true c9
                (try (have c9b0z := c9b0; simp only [List.length_drop, List.length_take] at c9b0z))
                (try (have c9b0y : decide (x14_1 < max ji2 0) = true := decide_eq_true (by have h_ := of_decide_eq_true c9b0z; omega)))
                clear c9
                replace H := Option.bind_eq_some_iff.mp H
                obtain ⟨⟨t317, t318, t319, t320, t321, t322⟩, A100, H⟩ := H
                replace H : (if t317 > 8 then (jackstaylaw06_ConfBalance.j1 k1 ((1 + (Int.tmod (rd (l0.take ((ji2) : Int).toNat) x14_1) 7)) % 256) (l0.take ((ji2) : Int).toNat) ((l0.take ((ji2) : Int).toNat).length : Int) x14_1 true t317 t318 t319 t320 t321) else (if t318 > 8 then (jackstaylaw06_ConfBalance.j1 k1 ((1 + (Int.tmod (rd (l0.take ((ji2) : Int).toNat) x14_1) 7)) % 256) (l0.take ((ji2) : Int).toNat) ((l0.take ((ji2) : Int).toNat).length : Int) x14_1 true t317 t318 t319 t320 t321) else ((conf_Mode.f k1 t317 t318 t319 t320 t321).bind fun t323 => (jackstaylaw06_ConfBalance.j1 k1 ((1 + (Int.tmod (rd (l0.take ((ji2) : Int).toNat) x14_1) 7)) % 256) (l0.take ((ji2) : Int).toNat) ((l0.take ((ji2) : Int).toNat).length : Int) x14_1 (t323 != 0) t317 t318 t319 t320 t321)))) = some r := H
                have A10 := Aside0.mk A100
                clear A100
                have HC11 := Aside0.mk H
                clear H
                have p316 : 0 ≤ (x14_1 : Int) := of_decide_eq_true (by first | (with_reducible assumption) | assumption)
                have q316 : x14_1 < ((l0.take ((ji2) : Int).toNat).length : Int) := of_decide_eq_true (by first | (with_reducible assumption) | assumption)
                obtain ⟨ad316, e316, hx316_0⟩ := Kd.at_int HR314.out x14_1 p316 q316
                cases e316
                (try replace hx316_0 := (HB.out.cell (World.block_lt_of_cell? w _ hx316_0)).trans hx316_0)
                replace p316 := eq_true p316
                replace q316 := eq_true q316
                (try (have q316y : (x14_1 < max ji2 0) = True := eq_true (by have h_ := of_eq_true q316; simp only [List.length_take] at h_; omega)))
                (try (have q316z := q316; simp only [List.length_drop, List.length_take] at q316z))
                have hcz12_0 : wr.cell? ⟨gb313, 0, none⟩ = some (.int .i64 x314000_1) := (blk_cell BK313.out 0).trans rfl
                have hcz12_1 : wr.cell? ⟨gb313, 1, none⟩ = some (.int .i64 x314001_1) := (blk_cell BK313.out 1).trans rfl
                have hcz12_2 : wr.cell? ⟨gb313, 2, none⟩ = some (.bool x314002_1) := (blk_cell BK313.out 2).trans rfl
                have hcz12_3 : wr.cell? ⟨gb313, 3, none⟩ = some (.int .i64 x314003_1) := (blk_cell BK313.out 3).trans rfl
                have hcz12_4 : wr.cell? ⟨gb313, 4, none⟩ = some (.int .i64 x314004_1) := (blk_cell BK313.out 4).trans rfl
                have hfz12_0 := blk_frozen BK313.out 0
                have hfz12_1 := blk_frozen BK313.out 1
                have hfz12_2 := blk_frozen BK313.out 2
                have hfz12_3 := blk_frozen BK313.out 3
                have hfz12_4 := blk_frozen BK313.out 4
                go_upto_region 7 with (first | ((with_reducible refine gate_callee (f := 10) rfl ?_); refine goesL_ (some 24) rfl rfl Try.func10 (by kernel_rfl) rfl #[.agg #[.int .i64 x314000_1, .int .i64 x314001_1, .bool x314002_1, .int .i64 x314003_1, .int .i64 x314004_1], .int .u8 ((1 + (Int.tmod (rd (l0.take ((ji2) : Int).toNat) x14_1) 7)) % 256)] rfl (by (try simp only [List.map_toArray, List.map_cons, List.map_nil]); first | done | (simp only [hji2]; rfl) | rfl | (simp only [List.length_drop, List.length_take]; rfl)) ?_; (with_reducible refine (conf_Event.calls k1 x314000_1 x314001_1 x314002_1 x314003_1 x314004_1 ((1 + (Int.tmod (rd (l0.take ((ji2) : Int).toNat) x14_1) 7)) % 256) t317 t318 t319 t320 t321 t322 _ A10.out).mono ?_); rintro e w13 ⟨rfl, hb⟩; refine ⟨_, rfl, ?_⟩; have n0_ := Aside0.mk (blk_below (g := gb313) (o := .cells #[.int .i64 x314000_1, .int .i64 x314001_1, .bool x314002_1, .int .i64 x314003_1, .int .i64 x314004_1] 23 (0, 0)) (by (with_reducible repeat (first | refine blk_drewN ?_ _ | refine blk_drew ?_ | refine blk_alloc ?_ _)); exact BK313.out) hb); have n1_ := Aside0.mk (below_step (by repeat (first | (with_reducible first | exact HB.out | apply below_alloc | apply pw_below_drewN | apply below_drew1 | refine below_set ?_ GE313.out) | exact HB.out)) hb); clear BK313; clear HB; have BK313 := n0_; have HB := n1_; clear n0_ n1_; (try clear hb); (try clear hb2); (try clear hk); (try clear hi); have hcz14_0 : w13.cell? ⟨gb313, 0, none⟩ = some (.int .i64 x314000_1) := (blk_cell BK313.out 0).trans rfl; have hcz14_1 : w13.cell? ⟨gb313, 1, none⟩ = some (.int .i64 x314001_1) := (blk_cell BK313.out 1).trans rfl; have hcz14_2 : w13.cell? ⟨gb313, 2, none⟩ = some (.bool x314002_1) := (blk_cell BK313.out 2).trans rfl; have hcz14_3 : w13.cell? ⟨gb313, 3, none⟩ = some (.int .i64 x314003_1) := (blk_cell BK313.out 3).trans rfl; have hcz14_4 : w13.cell? ⟨gb313, 4, none⟩ = some (.int .i64 x314004_1) := (blk_cell BK313.out 4).trans rfl; have hfz14_0 := blk_frozen BK313.out 0; have hfz14_1 := blk_frozen BK313.out 1; have hfz14_2 := blk_frozen BK313.out 2; have hfz14_3 := blk_frozen BK313.out 3; have hfz14_4 := blk_frozen BK313.out 4))
                (try simp only [Act.put, List.setIfInBounds_toArray, List.set_cons_zero, List.set_cons_succ])
                go_cut [39] (fun v39 wc => ∃ (kq : Nat) (x39_10 : Bool), v39 = .bool x39_10 ∧ Aside0 (jackstaylaw06_ConfBalance.j1 kq ((1 + (Int.tmod (rd (l0.take ((ji2) : Int).toNat) x14_1) 7)) % 256) (l0.take ((ji2) : Int).toNat) ((l0.take ((ji2) : Int).toNat).length : Int) x14_1 x39_10 t317 t318 t319 t320 t321 = some r) ∧ Aside0 (kq ≤ k1) ∧ Aside0 (wc.heap[gb313]? = some (.cells #[.int .i64 t317, .int .i64 t318, .bool t319, .int .i64 t320, .int .i64 t321] 23 (0, 0))) ∧ Aside0 (Below w.heap.size w wc))
                case first =>
                  have H := HC11.out
                  clear HC11
                  by_cases c15 : t317 > 8
                  · rw [if_pos c15] at H
                    have c15b0 : decide (8 < t317) = true := decide_eq_true c15
                    clear c15
                    (first | rw [c15b0] | (simp only [i64_w, i32_w]; rw [c15b0]) | skip)
                    have H' := Aside0.mk H
                    clear H
                    have hcz16_0 : w13.cell? ⟨gb313, 0, none⟩ = some (.int .i64 x314000_1) := (blk_cell BK313.out 0).trans rfl
                    have hcz16_1 : w13.cell? ⟨gb313, 1, none⟩ = some (.int .i64 x314001_1) := (blk_cell BK313.out 1).trans rfl
                    have hcz16_2 : w13.cell? ⟨gb313, 2, none⟩ = some (.bool x314002_1) := (blk_cell BK313.out 2).trans rfl
                    have hcz16_3 : w13.cell? ⟨gb313, 3, none⟩ = some (.int .i64 x314003_1) := (blk_cell BK313.out 3).trans rfl
                    have hcz16_4 : w13.cell? ⟨gb313, 4, none⟩ = some (.int .i64 x314004_1) := (blk_cell BK313.out 4).trans rfl
                    have hfz16_0 := blk_frozen BK313.out 0
                    have hfz16_1 := blk_frozen BK313.out 1
                    have hfz16_2 := blk_frozen BK313.out 2
                    have hfz16_3 := blk_frozen BK313.out 3
                    have hfz16_4 := blk_frozen BK313.out 4
                    go_wp2
                    go_meet
                    case rel => exact ⟨_, (true), (by first | rfl | (simp; done) | (simp [*]; done)), H', ⟨by have := HK1.out; first | omega | exact Nat.le_refl _⟩, ⟨by (with_reducible repeat (first | refine blk_drewN ?_ _ | refine blk_drew ?_ | refine blk_alloc ?_ _)); refine blk_put (cs := #[.int .i64 t317, .int .i64 t318, .bool t319, .int .i64 t320, .int .i64 x314004_1]) ?_ 4 _ rfl; (with_reducible repeat (first | refine blk_drewN ?_ _ | refine blk_drew ?_ | refine blk_alloc ?_ _)); refine blk_put (cs := #[.int .i64 t317, .int .i64 t318, .bool t319, .int .i64 x314003_1, .int .i64 x314004_1]) ?_ 3 _ rfl; (with_reducible repeat (first | refine blk_drewN ?_ _ | refine blk_drew ?_ | refine blk_alloc ?_ _)); refine blk_put (cs := #[.int .i64 t317, .int .i64 t318, .bool x314002_1, .int .i64 x314003_1, .int .i64 x314004_1]) ?_ 2 _ rfl; (with_reducible repeat (first | refine blk_drewN ?_ _ | refine blk_drew ?_ | refine blk_alloc ?_ _)); refine blk_put (cs := #[.int .i64 t317, .int .i64 x314001_1, .bool x314002_1, .int .i64 x314003_1, .int .i64 x314004_1]) ?_ 1 _ rfl; (with_reducible repeat (first | refine blk_drewN ?_ _ | refine blk_drew ?_ | refine blk_alloc ?_ _)); refine blk_put (cs := #[.int .i64 x314000_1, .int .i64 x314001_1, .bool x314002_1, .int .i64 x314003_1, .int .i64 x314004_1]) ?_ 0 _ rfl; (with_reducible repeat (first | refine blk_drewN ?_ _ | refine blk_drew ?_ | refine blk_alloc ?_ _)); exact BK313.out⟩, ⟨by repeat (first | (with_reducible first | exact HB.out | apply below_alloc | apply pw_below_drewN | apply below_drew1 | refine below_set ?_ GE313.out) | exact HB.out)⟩⟩
                  · rw [if_neg c15] at H
                    have c15b0 : decide (8 < t317) = false := decide_eq_false c15
                    clear c15
                    (first | rw [c15b0] | (simp only [i64_w, i32_w]; rw [c15b0]) | skip)
                    by_cases c17 : t318 > 8
                    · rw [if_pos c17] at H
                      have c17b0 : decide (8 < t318) = true := decide_eq_true c17
                      clear c17
                      have H' := Aside0.mk H
                      clear H
                      have hcz18_0 : w13.cell? ⟨gb313, 0, none⟩ = some (.int .i64 x314000_1) := (blk_cell BK313.out 0).trans rfl
                      have hcz18_1 : w13.cell? ⟨gb313, 1, none⟩ = some (.int .i64 x314001_1) := (blk_cell BK313.out 1).trans rfl
                      have hcz18_2 : w13.cell? ⟨gb313, 2, none⟩ = some (.bool x314002_1) := (blk_cell BK313.out 2).trans rfl
                      have hcz18_3 : w13.cell? ⟨gb313, 3, none⟩ = some (.int .i64 x314003_1) := (blk_cell BK313.out 3).trans rfl
                      have hcz18_4 : w13.cell? ⟨gb313, 4, none⟩ = some (.int .i64 x314004_1) := (blk_cell BK313.out 4).trans rfl
                      have hfz18_0 := blk_frozen BK313.out 0
                      have hfz18_1 := blk_frozen BK313.out 1
                      have hfz18_2 := blk_frozen BK313.out 2
                      have hfz18_3 := blk_frozen BK313.out 3
                      have hfz18_4 := blk_frozen BK313.out 4
                      go_wp2
                      go_meet
                      case rel => exact ⟨_, (true), (by first | rfl | (simp; done) | (simp [*]; done)), H', ⟨by have := HK1.out; first | omega | exact Nat.le_refl _⟩, ⟨by (with_reducible repeat (first | refine blk_drewN ?_ _ | refine blk_drew ?_ | refine blk_alloc ?_ _)); refine blk_put (cs := #[.int .i64 t317, .int .i64 t318, .bool t319, .int .i64 t320, .int .i64 x314004_1]) ?_ 4 _ rfl; (with_reducible repeat (first | refine blk_drewN ?_ _ | refine blk_drew ?_ | refine blk_alloc ?_ _)); refine blk_put (cs := #[.int .i64 t317, .int .i64 t318, .bool t319, .int .i64 x314003_1, .int .i64 x314004_1]) ?_ 3 _ rfl; (with_reducible repeat (first | refine blk_drewN ?_ _ | refine blk_drew ?_ | refine blk_alloc ?_ _)); refine blk_put (cs := #[.int .i64 t317, .int .i64 t318, .bool x314002_1, .int .i64 x314003_1, .int .i64 x314004_1]) ?_ 2 _ rfl; (with_reducible repeat (first | refine blk_drewN ?_ _ | refine blk_drew ?_ | refine blk_alloc ?_ _)); refine blk_put (cs := #[.int .i64 t317, .int .i64 x314001_1, .bool x314002_1, .int .i64 x314003_1, .int .i64 x314004_1]) ?_ 1 _ rfl; (with_reducible repeat (first | refine blk_drewN ?_ _ | refine blk_drew ?_ | refine blk_alloc ?_ _)); refine blk_put (cs := #[.int .i64 x314000_1, .int .i64 x314001_1, .bool x314002_1, .int .i64 x314003_1, .int .i64 x314004_1]) ?_ 0 _ rfl; (with_reducible repeat (first | refine blk_drewN ?_ _ | refine blk_drew ?_ | refine blk_alloc ?_ _)); exact BK313.out⟩, ⟨by repeat (first | (with_reducible first | exact HB.out | apply below_alloc | apply pw_below_drewN | apply below_drew1 | refine below_set ?_ GE313.out) | exact HB.out)⟩⟩
                    · rw [if_neg c17] at H
                      have c17b0 : decide (8 < t318) = false := decide_eq_false c17
                      clear c17
                      replace H := Option.bind_eq_some_iff.mp H
                      obtain ⟨t323, A190, H⟩ := H
                      replace H : (jackstaylaw06_ConfBalance.j1 k1 ((1 + (Int.tmod (rd (l0.take ((ji2) : Int).toNat) x14_1) 7)) % 256) (l0.take ((ji2) : Int).toNat) ((l0.take ((ji2) : Int).toNat).length : Int) x14_1 (t323 != 0) t317 t318 t319 t320 t321) = some r := H
                      have A19 := Aside0.mk A190
                      clear A190
                      have H' := Aside0.mk H
                      clear H
                      have hcz20_0 : w13.cell? ⟨gb313, 0, none⟩ = some (.int .i64 x314000_1) := (blk_cell BK313.out 0).trans rfl
                      have hcz20_1 : w13.cell? ⟨gb313, 1, none⟩ = some (.int .i64 x314001_1) := (blk_cell BK313.out 1).trans rfl
                      have hcz20_2 : w13.cell? ⟨gb313, 2, none⟩ = some (.bool x314002_1) := (blk_cell BK313.out 2).trans rfl
                      have hcz20_3 : w13.cell? ⟨gb313, 3, none⟩ = some (.int .i64 x314003_1) := (blk_cell BK313.out 3).trans rfl
                      have hcz20_4 : w13.cell? ⟨gb313, 4, none⟩ = some (.int .i64 x314004_1) := (blk_cell BK313.out 4).trans rfl
                      have hfz20_0 := blk_frozen BK313.out 0
                      have hfz20_1 := blk_frozen BK313.out 1
                      have hfz20_2 := blk_frozen BK313.out 2
                      have hfz20_3 := blk_frozen BK313.out 3
                      have hfz20_4 := blk_frozen BK313.out 4
                      go_wp2_with (first | (go_at_call 14; (with_reducible refine (conf_Mode.calls k1 t317 t318 t319 t320 t321 t323 _ A19.out).mono ?_); rintro e w21 ⟨rfl, hb⟩; have n0_ := Aside0.mk (blk_below (g := gb313) (o := .cells #[.int .i64 t317, .int .i64 t318, .bool t319, .int .i64 t320, .int .i64 t321] 23 (0, 0)) (by (with_reducible repeat (first | refine blk_drewN ?_ _ | refine blk_drew ?_ | refine blk_alloc ?_ _)); refine blk_put (cs := #[.int .i64 t317, .int .i64 t318, .bool t319, .int .i64 t320, .int .i64 x314004_1]) ?_ 4 _ rfl; (with_reducible repeat (first | refine blk_drewN ?_ _ | refine blk_drew ?_ | refine blk_alloc ?_ _)); refine blk_put (cs := #[.int .i64 t317, .int .i64 t318, .bool t319, .int .i64 x314003_1, .int .i64 x314004_1]) ?_ 3 _ rfl; (with_reducible repeat (first | refine blk_drewN ?_ _ | refine blk_drew ?_ | refine blk_alloc ?_ _)); refine blk_put (cs := #[.int .i64 t317, .int .i64 t318, .bool x314002_1, .int .i64 x314003_1, .int .i64 x314004_1]) ?_ 2 _ rfl; (with_reducible repeat (first | refine blk_drewN ?_ _ | refine blk_drew ?_ | refine blk_alloc ?_ _)); refine blk_put (cs := #[.int .i64 t317, .int .i64 x314001_1, .bool x314002_1, .int .i64 x314003_1, .int .i64 x314004_1]) ?_ 1 _ rfl; (with_reducible repeat (first | refine blk_drewN ?_ _ | refine blk_drew ?_ | refine blk_alloc ?_ _)); refine blk_put (cs := #[.int .i64 x314000_1, .int .i64 x314001_1, .bool x314002_1, .int .i64 x314003_1, .int .i64 x314004_1]) ?_ 0 _ rfl; (with_reducible repeat (first | refine blk_drewN ?_ _ | refine blk_drew ?_ | refine blk_alloc ?_ _)); exact BK313.out) hb); have n1_ := Aside0.mk (below_step (by repeat (first | (with_reducible first | exact HB.out | apply below_alloc | apply pw_below_drewN | apply below_drew1 | refine below_set ?_ GE313.out) | exact HB.out)) hb); clear BK313; clear HB; have BK313 := n0_; have HB := n1_; clear n0_ n1_; (try clear hb); (try clear hb2); (try clear hk); (try clear hi)))
                      go_meet
                      case rel => exact ⟨_, ((t323 != 0)), (by first | rfl | (simp; done) | (simp [*]; done)), H', ⟨by have := HK1.out; first | omega | exact Nat.le_refl _⟩, ⟨by (with_reducible repeat (first | refine blk_drewN ?_ _ | refine blk_drew ?_ | refine blk_alloc ?_ _)); exact BK313.out⟩, ⟨by repeat (first | (with_reducible first | exact HB.out | apply below_alloc | apply pw_below_drewN | apply below_drew1 | refine below_set ?_ GE313.out) | exact HB.out)⟩⟩
                case rest =>
                  clear HC11
                  try clear c1
                  try clear p2
                  try clear c3
                  try clear c3b0
                  try clear c3b1
                  try clear p3
                  try clear q3
                  try clear hx3
                  try clear c4
                  try clear c4b0
                  try clear c4b1
                  try clear c7
                  try clear c7b0
                  try clear c8
                  try clear c8b0
                  try clear c9
                  try clear c9b0
                  try clear c10
                  try clear c15
                  try clear c15b0
                  try clear c17
                  try clear c17b0
                  try clear hcz12_0
                  try clear hcz12_1
                  try clear hcz12_2
                  try clear hcz12_3
                  try clear hcz12_4
                  try clear hcz14_0
                  try clear hcz14_1
                  try clear hcz14_2
                  try clear hcz14_3
                  try clear hcz14_4
                  try clear hcz16_0
                  try clear hcz16_1
                  try clear hcz16_2
                  try clear hcz16_3
                  try clear hcz16_4
                  try clear hcz18_0
                  try clear hcz18_1
                  try clear hcz18_2
                  try clear hcz18_3
                  try clear hcz18_4
                  try clear hcz20_0
                  try clear hcz20_1
                  try clear hcz20_2
                  try clear hcz20_3
                  try clear hcz20_4
                  try clear hfz12_0
                  try clear hfz12_1
                  try clear hfz12_2
                  try clear hfz12_3
                  try clear hfz12_4
                  try clear hfz14_0
                  try clear hfz14_1
                  try clear hfz14_2
                  try clear hfz14_3
                  try clear hfz14_4
                  try clear hfz16_0
                  try clear hfz16_1
                  try clear hfz16_2
                  try clear hfz16_3
                  try clear hfz16_4
                  try clear hfz18_0
                  try clear hfz18_1
                  try clear hfz18_2
                  try clear hfz18_3
                  try clear hfz18_4
                  try clear hfz20_0
                  try clear hfz20_1
                  try clear hfz20_2
                  try clear hfz20_3
                  try clear hfz20_4
                  try clear hx316_0
                  try clear p2
                  try clear p316
                  try clear q316
                  obtain ⟨kq, x39_10, rfl, HA, HJ10, BK313, HB⟩ := hcut
                  cases kq with
                  | zero => exact absurd HA.out (by simp [jackstaylaw06_ConfBalance.j1])
                  | succ kj10 =>
                    have H := HA.out
                    clear HA
                    simp only [jackstaylaw06_ConfBalance.j1] at H
                    by_cases c22 : x39_10 = true
                    · subst c22
                      have H1 : (some false) = some r := by rw [if_pos rfl] at H; exact H
                      clear H
                      have H := H1
                      clear H1
                      obtain rfl := Option.some.inj H
                      exact absurd hT_ (by decide)
                    · replace c22 := Bool.eq_false_iff.mpr c22
                      subst c22
                      have H1 : (if ((1 + (Int.tmod (rd (l0.take ((ji2) : Int).toNat) x14_1) 7)) % 256) ≥ 5 then (jackstaylaw06_ConfBalance.j2 kj10 8 (l0.take ((ji2) : Int).toNat) ((l0.take ((ji2) : Int).toNat).length : Int) x14_1 t317 t318 t319 t320 t321) else (jackstaylaw06_ConfBalance.j2 kj10 9 (l0.take ((ji2) : Int).toNat) ((l0.take ((ji2) : Int).toNat).length : Int) x14_1 t317 t318 t319 t320 t321)) = some r := by rw [if_neg (show ¬ (false = true) by decide)] at H; exact H
                      clear H
                      have H := H1
                      clear H1
                      have HC23 := Aside0.mk H
                      clear H
                      go_upto_if 41 with (fail)
                      go_cut [7] (fun v7 wc => ∃ (kq : Nat) (x7_22 : Int), v7 = .int .u8 x7_22 ∧ Aside0 (jackstaylaw06_ConfBalance.j2 kq x7_22 (l0.take ((ji2) : Int).toNat) ((l0.take ((ji2) : Int).toNat).length : Int) x14_1 t317 t318 t319 t320 t321 = some r) ∧ Aside0 (kq ≤ kj10) ∧ Aside0 (wc.heap[gb313]? = some (.cells #[.int .i64 t317, .int .i64 t318, .bool t319, .int .i64 t320, .int .i64 t321] 23 (0, 0))) ∧ Aside0 (Below w.heap.size w wc))
                      case first =>
                        have H := HC23.out
                        clear HC23
                        by_cases c24 : ((1 + (Int.tmod (rd (l0.take ((ji2) : Int).toNat) x14_1) 7)) % 256) ≥ 5
                        · rw [if_pos c24] at H
                          have c24b0 : decide (5 ≤ ((1 + (Int.tmod (rd (l0.take ((ji2) : Int).toNat) x14_1) 7)) % 256)) = true := decide_eq_true c24
                          (try (have c24b0z := c24b0; simp only [List.length_drop, List.length_take] at c24b0z))
                          clear c24
                          (first | rw [c24b0] | (simp only [i64_w, i32_w]; rw [c24b0]) | skip)
                          have H' := Aside0.mk H
                          clear H
                          go_wp2
                          go_meet
                          case rel => exact ⟨_, (8), (by first | rfl | (simp; done) | (simp [*]; done)), H', ⟨by have := HK1.out; have := HJ10.out; first | omega | exact Nat.le_refl _⟩, ⟨by (with_reducible repeat (first | refine blk_drewN ?_ _ | refine blk_drew ?_ | refine blk_alloc ?_ _)); exact BK313.out⟩, ⟨by repeat (first | (with_reducible first | exact HB.out | apply below_alloc | apply pw_below_drewN | apply below_drew1 | refine below_set ?_ GE313.out) | exact HB.out)⟩⟩
                        · rw [if_neg c24] at H
                          have c24b0 : decide (5 ≤ ((1 + (Int.tmod (rd (l0.take ((ji2) : Int).toNat) x14_1) 7)) % 256)) = false := decide_eq_false c24
                          (try (have c24b0z := c24b0; simp only [List.length_drop, List.length_take] at c24b0z))
                          clear c24
                          (first | rw [c24b0] | (simp only [i64_w, i32_w]; rw [c24b0]) | skip)
                          have H' := Aside0.mk H
                          clear H
                          go_wp2
                          go_meet
                          case rel => exact ⟨_, (9), (by first | rfl | (simp; done) | (simp [*]; done)), H', ⟨by have := HK1.out; have := HJ10.out; first | omega | exact Nat.le_refl _⟩, ⟨by (with_reducible repeat (first | refine blk_drewN ?_ _ | refine blk_drew ?_ | refine blk_alloc ?_ _)); exact BK313.out⟩, ⟨by repeat (first | (with_reducible first | exact HB.out | apply below_alloc | apply pw_below_drewN | apply below_drew1 | refine below_set ?_ GE313.out) | exact HB.out)⟩⟩
                      case rest =>
                        clear HC23
                        try clear c1
                        try clear c2
                        try clear p2
                        try clear c3
                        try clear c3b0
                        try clear c3b1
                        try clear p3
                        try clear q3
                        try clear hx3
                        try clear c4
                        try clear c4b0
                        try clear c4b1
                        try clear c7
                        try clear c7b0
                        try clear c8
                        try clear c8b0
                        try clear c9
                        try clear c9b0
                        try clear c10
                        try clear c15
                        try clear c15b0
                        try clear c17
                        try clear c17b0
                        try clear c22
                        try clear c24
                        try clear c24b0
                        try clear hcz12_0
                        try clear hcz12_1
                        try clear hcz12_2
                        try clear hcz12_3
                        try clear hcz12_4
                        try clear hcz14_0
                        try clear hcz14_1
                        try clear hcz14_2
                        try clear hcz14_3
                        try clear hcz14_4
                        try clear hcz16_0
                        try clear hcz16_1
                        try clear hcz16_2
                        try clear hcz16_3
                        try clear hcz16_4
                        try clear hcz18_0
                        try clear hcz18_1
                        try clear hcz18_2
                        try clear hcz18_3
                        try clear hcz18_4
                        try clear hcz20_0
                        try clear hcz20_1
                        try clear hcz20_2
                        try clear hcz20_3
                        try clear hcz20_4
                        try clear hfz12_0
                        try clear hfz12_1
                        try clear hfz12_2
                        try clear hfz12_3
                        try clear hfz12_4
                        try clear hfz14_0
                        try clear hfz14_1
                        try clear hfz14_2
                        try clear hfz14_3
                        try clear hfz14_4
                        try clear hfz16_0
                        try clear hfz16_1
                        try clear hfz16_2
                        try clear hfz16_3
                        try clear hfz16_4
                        try clear hfz18_0
                        try clear hfz18_1
                        try clear hfz18_2
                        try clear hfz18_3
                        try clear hfz18_4
                        try clear hfz20_0
                        try clear hfz20_1
                        try clear hfz20_2
                        try clear hfz20_3
                        try clear hfz20_4
                        try clear hx316_0
                        try clear p2
                        try clear p3
                        try clear p316
                        try clear q3
                        try clear q316
                        obtain ⟨kq, x7_22, rfl, HA, HJ22, BK313, HB⟩ := hcut
                        cases kq with
                        | zero => exact absurd HA.out (by simp [jackstaylaw06_ConfBalance.j2])
                        | succ kj22 =>
                          have H := HA.out
                          clear HA
                          simp only [jackstaylaw06_ConfBalance.j2] at H
                          have H' := Aside0.mk H
                          clear H
                          go_wp2
                          go_loopg [42] kj22 (fun kq v42 w' => ∃ (x42_4 : Int) (x314000_4 : Int) (x314001_4 : Int) (x314002_4 : Bool) (x314003_4 : Int) (x314004_4 : Int), v42 = .int .i64 x42_4 ∧ Aside0 (jackstaylaw06_ConfBalance.l1 kq x7_22 (l0.take ((ji2) : Int).toNat) ((l0.take ((ji2) : Int).toNat).length : Int) x14_1 x42_4 x314000_4 x314001_4 x314002_4 x314003_4 x314004_4 = some r) ∧ Aside0 (kq ≤ kj22) ∧ Aside0 (w'.heap[gb313]? = some (.cells #[.int .i64 x314000_4, .int .i64 x314001_4, .bool x314002_4, .int .i64 x314003_4, .int .i64 x314004_4] 23 (0, 0))) ∧ Aside0 (Below w.heap.size w w'))
                          case atStart => exact ⟨(0), (t317), (t318), (t319), (t320), (t321), (by first | rfl | (simp; done) | (simp [*]; done)), H', ⟨Nat.le_refl _⟩, ⟨by (with_reducible repeat (first | refine blk_drewN ?_ _ | refine blk_drew ?_ | refine blk_alloc ?_ _)); exact BK313.out⟩, ⟨by repeat (first | (with_reducible first | exact HB.out | apply below_alloc | apply pw_below_drewN | apply below_drew1 | refine below_set ?_ GE313.out) | exact HB.out)⟩⟩
                          case round =>
                            clear H'
                            try clear c1
                            try clear c2
                            try clear p2
                            try clear c3
                            try clear c3b0
                            try clear c3b1
                            try clear p3
                            try clear q3
                            try clear hx3
                            try clear c4
                            try clear c4b0
                            try clear c4b1
                            try clear c7
                            try clear c7b0
                            try clear c8
                            try clear c8b0
                            try clear c9
                            try clear c9b0
                            try clear c10
                            try clear c15
                            try clear c15b0
                            try clear c17
                            try clear c17b0
                            try clear c22
                            try clear c24
                            try clear c24b0
                            try clear hcz12_0
                            try clear hcz12_1
                            try clear hcz12_2
                            try clear hcz12_3
                            try clear hcz12_4
                            try clear hcz14_0
                            try clear hcz14_1
                            try clear hcz14_2
                            try clear hcz14_3
                            try clear hcz14_4
                            try clear hcz16_0
                            try clear hcz16_1
                            try clear hcz16_2
                            try clear hcz16_3
                            try clear hcz16_4
                            try clear hcz18_0
                            try clear hcz18_1
                            try clear hcz18_2
                            try clear hcz18_3
                            try clear hcz18_4
                            try clear hcz20_0
                            try clear hcz20_1
                            try clear hcz20_2
                            try clear hcz20_3
                            try clear hcz20_4
                            try clear hfz12_0
                            try clear hfz12_1
                            try clear hfz12_2
                            try clear hfz12_3
                            try clear hfz12_4
                            try clear hfz14_0
                            try clear hfz14_1
                            try clear hfz14_2
                            try clear hfz14_3
                            try clear hfz14_4
                            try clear hfz16_0
                            try clear hfz16_1
                            try clear hfz16_2
                            try clear hfz16_3
                            try clear hfz16_4
                            try clear hfz18_0
                            try clear hfz18_1
                            try clear hfz18_2
                            try clear hfz18_3
                            try clear hfz18_4
                            try clear hfz20_0
                            try clear hfz20_1
                            try clear hfz20_2
                            try clear hfz20_3
                            try clear hfz20_4
                            try clear hx316_0
                            try clear p2
                            try clear p3
                            try clear p316
                            try clear q3
                            try clear q316
                            obtain ⟨x42_4, x314000_4, x314001_4, x314002_4, x314003_4, x314004_4, rfl, HA, HK4, BK313, HB⟩ := hrel
                            cases gk with
                            | zero => exact absurd HA.out (by simp [jackstaylaw06_ConfBalance.l1])
                            | succ k4 =>
                              have H := HA.out
                              clear HA
                              simp only [jackstaylaw06_ConfBalance.l1] at H
                              by_cases c25 : x42_4 < 8
                              · rw [if_pos c25] at H
                                have c25b0 : decide (x42_4 < 8) = true := decide_eq_true c25
                                clear c25
                                replace H := Option.bind_eq_some_iff.mp H
                                obtain ⟨⟨t324, t325, t326, t327, t328, t329⟩, A260, H⟩ := H
                                replace H : (jackstaylaw06_ConfBalance.l1 k4 x7_22 (l0.take ((ji2) : Int).toNat) ((l0.take ((ji2) : Int).toNat).length : Int) x14_1 (wrap64 (x42_4 + 1)) t324 t325 t326 t327 t328) = some r := H
                                have A26 := Aside0.mk A260
                                clear A260
                                have H' := Aside0.mk H
                                clear H
                                have hcz27_0 : wr.cell? ⟨gb313, 0, none⟩ = some (.int .i64 x314000_4) := (blk_cell BK313.out 0).trans rfl
                                have hcz27_1 : wr.cell? ⟨gb313, 1, none⟩ = some (.int .i64 x314001_4) := (blk_cell BK313.out 1).trans rfl
                                have hcz27_2 : wr.cell? ⟨gb313, 2, none⟩ = some (.bool x314002_4) := (blk_cell BK313.out 2).trans rfl
                                have hcz27_3 : wr.cell? ⟨gb313, 3, none⟩ = some (.int .i64 x314003_4) := (blk_cell BK313.out 3).trans rfl
                                have hcz27_4 : wr.cell? ⟨gb313, 4, none⟩ = some (.int .i64 x314004_4) := (blk_cell BK313.out 4).trans rfl
                                have hfz27_0 := blk_frozen BK313.out 0
                                have hfz27_1 := blk_frozen BK313.out 1
                                have hfz27_2 := blk_frozen BK313.out 2
                                have hfz27_3 := blk_frozen BK313.out 3
                                have hfz27_4 := blk_frozen BK313.out 4
                                go_wp2_with (first | ((with_reducible refine gate_callee (f := 10) rfl ?_); refine goesL_ (some 47) rfl rfl Try.func10 (by kernel_rfl) rfl #[.agg #[.int .i64 x314000_4, .int .i64 x314001_4, .bool x314002_4, .int .i64 x314003_4, .int .i64 x314004_4], .int .u8 x7_22] rfl (by (try simp only [List.map_toArray, List.map_cons, List.map_nil]); first | done | rfl | (simp only [List.length_drop, List.length_take]; rfl)) ?_; (with_reducible refine (conf_Event.calls k4 x314000_4 x314001_4 x314002_4 x314003_4 x314004_4 x7_22 t324 t325 t326 t327 t328 t329 _ A26.out).mono ?_); rintro e w28 ⟨rfl, hb⟩; refine ⟨_, rfl, ?_⟩; have n0_ := Aside0.mk (blk_below (g := gb313) (o := .cells #[.int .i64 x314000_4, .int .i64 x314001_4, .bool x314002_4, .int .i64 x314003_4, .int .i64 x314004_4] 23 (0, 0)) (by (with_reducible repeat (first | refine blk_drewN ?_ _ | refine blk_drew ?_ | refine blk_alloc ?_ _)); exact BK313.out) hb); have n1_ := Aside0.mk (below_step (by repeat (first | (with_reducible first | exact HB.out | apply below_alloc | apply pw_below_drewN | apply below_drew1 | refine below_set ?_ GE313.out) | exact HB.out)) hb); clear BK313; clear HB; have BK313 := n0_; have HB := n1_; clear n0_ n1_; (try clear hb); (try clear hb2); (try clear hk); (try clear hi); have hcz29_0 : w28.cell? ⟨gb313, 0, none⟩ = some (.int .i64 x314000_4) := (blk_cell BK313.out 0).trans rfl; have hcz29_1 : w28.cell? ⟨gb313, 1, none⟩ = some (.int .i64 x314001_4) := (blk_cell BK313.out 1).trans rfl; have hcz29_2 : w28.cell? ⟨gb313, 2, none⟩ = some (.bool x314002_4) := (blk_cell BK313.out 2).trans rfl; have hcz29_3 : w28.cell? ⟨gb313, 3, none⟩ = some (.int .i64 x314003_4) := (blk_cell BK313.out 3).trans rfl; have hcz29_4 : w28.cell? ⟨gb313, 4, none⟩ = some (.int .i64 x314004_4) := (blk_cell BK313.out 4).trans rfl; have hfz29_0 := blk_frozen BK313.out 0; have hfz29_1 := blk_frozen BK313.out 1; have hfz29_2 := blk_frozen BK313.out 2; have hfz29_3 := blk_frozen BK313.out 3; have hfz29_4 := blk_frozen BK313.out 4))
                                go_roundg k4
                                case measure => have := HK1.out; have := HJ10.out; have := HJ22.out; have := HK4.out; omega
                                case rel => exact ⟨(wrap64 (x42_4 + 1)), (t324), (t325), (t326), (t327), (t328), (by first | rfl | (simp; done) | (simp [*]; done)), H', ⟨by have := HK1.out; have := HJ10.out; have := HJ22.out; have := HK4.out; omega⟩, ⟨by (with_reducible repeat (first | refine blk_drewN ?_ _ | refine blk_drew ?_ | refine blk_alloc ?_ _)); refine blk_put (cs := #[.int .i64 t324, .int .i64 t325, .bool t326, .int .i64 t327, .int .i64 x314004_4]) ?_ 4 _ rfl; (with_reducible repeat (first | refine blk_drewN ?_ _ | refine blk_drew ?_ | refine blk_alloc ?_ _)); refine blk_put (cs := #[.int .i64 t324, .int .i64 t325, .bool t326, .int .i64 x314003_4, .int .i64 x314004_4]) ?_ 3 _ rfl; (with_reducible repeat (first | refine blk_drewN ?_ _ | refine blk_drew ?_ | refine blk_alloc ?_ _)); refine blk_put (cs := #[.int .i64 t324, .int .i64 t325, .bool x314002_4, .int .i64 x314003_4, .int .i64 x314004_4]) ?_ 2 _ rfl; (with_reducible repeat (first | refine blk_drewN ?_ _ | refine blk_drew ?_ | refine blk_alloc ?_ _)); refine blk_put (cs := #[.int .i64 t324, .int .i64 x314001_4, .bool x314002_4, .int .i64 x314003_4, .int .i64 x314004_4]) ?_ 1 _ rfl; (with_reducible repeat (first | refine blk_drewN ?_ _ | refine blk_drew ?_ | refine blk_alloc ?_ _)); refine blk_put (cs := #[.int .i64 x314000_4, .int .i64 x314001_4, .bool x314002_4, .int .i64 x314003_4, .int .i64 x314004_4]) ?_ 0 _ rfl; (with_reducible repeat (first | refine blk_drewN ?_ _ | refine blk_drew ?_ | refine blk_alloc ?_ _)); exact BK313.out⟩, ⟨by repeat (first | (with_reducible first | exact HB.out | apply below_alloc | apply pw_below_drewN | apply below_drew1 | refine below_set ?_ GE313.out) | exact HB.out)⟩⟩
                              · rw [if_neg c25] at H
                                have c25b0 : decide (x42_4 < 8) = false := decide_eq_false c25
                                clear c25
                                have H' := Aside0.mk H
                                clear H
                                go_wp2
                                go_roundg k4
                                case measure => have := HK1.out; have := HJ10.out; have := HJ22.out; have := HK4.out; omega
                                case rel => exact ⟨(wrap64 (x14_1 + 1)), (x314000_4), (x314001_4), (x314002_4), (x314003_4), (x314004_4), (by first | rfl | (simp; done) | (simp [*]; done)), H', ⟨by have := HK1.out; have := HJ10.out; have := HJ22.out; have := HK4.out; omega⟩, ⟨by (with_reducible repeat (first | refine blk_drewN ?_ _ | refine blk_drew ?_ | refine blk_alloc ?_ _)); exact BK313.out⟩, ⟨by repeat (first | (with_reducible first | exact HB.out | apply below_alloc | apply pw_below_drewN | apply below_drew1 | refine below_set ?_ GE313.out) | exact HB.out)⟩⟩
              · rw [if_neg c9] at H
                exact absurd H (by simp)
            · rw [if_neg c8] at H
              exact absurd H (by simp)
          · rw [if_neg c7] at H
            have c7b0 : decide (x14_1 < ((l0.take ((ji2) : Int).toNat).length : Int)) = false := decide_eq_false c7
            (try (have c7b0z := c7b0; simp only [List.length_drop, List.length_take] at c7b0z))
            (try (have c7b0y : decide (x14_1 < max ji2 0) = false := decide_eq_false (by have h_ := of_decide_eq_false c7b0z; first | omega | (have h2_ := hji2; unfold mn at h2_; split at h2_ <;> omega))))
            clear c7
            by_cases c30 : (x314000_1 == 0 && (x314001_1 == 0 && (!x314002_1 && (x314003_1 == 0 && (x314004_1 == 0))))) = true
            · rw [if_pos c30] at H
              have c30b0 : (x314000_1 == 0 && (x314001_1 == 0 && (!x314002_1 && (x314003_1 == 0 && (x314004_1 == 0))))) = true := c30
              (try (have c30b1 : decide (x314000_1 = 0 && (x314001_1 == 0 && (!x314002_1 && (x314003_1 == 0 && (x314004_1 == 0))))) = true := by simpa using c30))
              (try (have c30b2 : (x314000_1 == 0 && (x314001_1 == 0 && (!x314002_1 && (x314003_1 == 0 && (x314004_1 == 0))))) = true := by simpa using c30))
              clear c30
              replace H := Option.bind_eq_some_iff.mp H
              obtain ⟨t315, A310, H⟩ := H
              replace H : (some t315) = some r := H
              have A31 := Aside0.mk A310
              clear A310
              obtain rfl := Option.some.inj H
              simp only [Option.some.injEq, Prod.mk.injEq] at H
              obtain ⟨rfl⟩ := H
              have hcz32_0 : wr.cell? ⟨gb313, 0, none⟩ = some (.int .i64 x314000_1) := (blk_cell BK313.out 0).trans rfl
              have hcz32_1 : wr.cell? ⟨gb313, 1, none⟩ = some (.int .i64 x314001_1) := (blk_cell BK313.out 1).trans rfl
              have hcz32_2 : wr.cell? ⟨gb313, 2, none⟩ = some (.bool x314002_1) := (blk_cell BK313.out 2).trans rfl
              have hcz32_3 : wr.cell? ⟨gb313, 3, none⟩ = some (.int .i64 x314003_1) := (blk_cell BK313.out 3).trans rfl
              have hcz32_4 : wr.cell? ⟨gb313, 4, none⟩ = some (.int .i64 x314004_1) := (blk_cell BK313.out 4).trans rfl
              have hfz32_0 := blk_frozen BK313.out 0
              have hfz32_1 := blk_frozen BK313.out 1
              have hfz32_2 := blk_frozen BK313.out 2
              have hfz32_3 := blk_frozen BK313.out 3
              have hfz32_4 := blk_frozen BK313.out 4
              go_wp2_with (first | (go_at_call 18; (with_reducible refine (jackstaylaw06_awake.calls k1  t315 _ A31.out).mono ?_); rintro e w33 ⟨rfl, hb⟩; have n0_ := Aside0.mk (blk_below (g := gb313) (o := .cells #[.int .i64 x314000_1, .int .i64 x314001_1, .bool x314002_1, .int .i64 x314003_1, .int .i64 x314004_1] 23 (0, 0)) (by (with_reducible repeat (first | refine blk_drewN ?_ _ | refine blk_drew ?_ | refine blk_alloc ?_ _)); exact BK313.out) hb); have n1_ := Aside0.mk (below_step (by repeat (first | (with_reducible first | exact HB.out | apply below_alloc | apply pw_below_drewN | apply below_drew1 | refine below_set ?_ GE313.out) | exact HB.out)) hb); clear BK313; clear HB; have BK313 := n0_; have HB := n1_; clear n0_ n1_; (try clear hb); (try clear hb2); (try clear hk); (try clear hi)))
              go_ret
              exact ⟨by first | rfl | (simp [errW_none, errW_some] <;> rfl) | (simp only [← hji2]; first | rfl | (simp [errW_none, errW_some] <;> rfl)) | (simp [*, errW_none, errW_some] <;> rfl), by repeat (first | (with_reducible first | exact HB.out | apply below_alloc | apply pw_below_drewN | apply below_drew1 | refine below_set ?_ GE313.out) | exact HB.out)⟩
            · rw [if_neg c30] at H
              have c30b0 : (x314000_1 == 0 && (x314001_1 == 0 && (!x314002_1 && (x314003_1 == 0 && (x314004_1 == 0))))) = false := by simpa using c30
              (try (have c30b1 : decide (x314000_1 = 0 && (x314001_1 == 0 && (!x314002_1 && (x314003_1 == 0 && (x314004_1 == 0))))) = false := by simpa using c30))
              (try (have c30b2 : (x314000_1 == 0 && (x314001_1 == 0 && (!x314002_1 && (x314003_1 == 0 && (x314004_1 == 0))))) = false := by simpa using c30))
              (try (have c30b3 : ¬ (x314000_1 = 0 && (x314001_1 == 0 && (!x314002_1 && (x314003_1 == 0 && (x314004_1 == 0))))) := by simpa using c30))
              clear c30
              obtain rfl := Option.some.inj H
              exact absurd hT_ (by decide)
    · rw [if_neg c4] at H
      exact absurd H (by simp)
  · rw [if_neg c3] at H
    exact absurd H (by simp)

end Go.Proofs.Ytgpdcgbohodfoaa.P
