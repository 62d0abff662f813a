/- Printed by the kit and by programs of this work for the claim of aaRowFrameLong, without what the claim does not name. -/
import Derived.Test.YtnnnfnebobaiiaaPx18
import Derived.Test.YtnnnfnebobaiiaaPx19
import Derived.Test.YtnnnfnebobaiiaaPx3
import Derived.Test.YtnnnfnebobaiiaaPx7
import Derived.Test.YtnnnfnebobaiiaaPx8
namespace Go.Proofs.Ytnnnfnebobaiiaa.P
open Go.RowKit Go.Proofs.YtnnnfnebobaiiaaW.PrintWords Go.Proofs.YtnnnfnebobaiiaaW.PrintLast Go.Proofs.YtnnnfnebobaiiaaW.PrintMore
set_option linter.unusedVariables false
set_option linter.unusedSimpArgs false
def jackstaylaw04_awake.f : Option Bool := some true
theorem info4z : (Try.prog.info? 4).map (fun i => (i.zero, i.size, i.bytes)) = some (some (.bool false), 1, 1) := by kernel_rfl
theorem drawn_below {w w' : World} (h : Drawn0 w w') : Below w.heap.size w w' := h.below
set_option maxHeartbeats 8000000 in
set_option maxRecDepth 100000 in
theorem jackstaylaw04_awake.calls (r : Bool) (w : World) (h : jackstaylaw04_awake.f = some r) :
    Calls Try.prog 28 #[] w fun e w' => e = .returned (.bool r) ∧ Below w.heap.size w w' := by
  obtain rfl := Option.some.inj h
  clear h
  have h1 : frame_Body.f 100 291 false false 1 [170] = some (((frame_Body.f 100 291 false false 1 [170]).getD ([], 0)).1, 0) := by decide +kernel
  have hl : (((frame_Body.f 100 291 false false 1 [170]).getD ([], 0)).1).length = 42 := by decide +kernel
  have h2 : jackstaylow_Text.f 100 ((((frame_Body.f 100 291 false false 1 [170]).getD ([], 0)).1).take 27) = some ⟨#[100, 100, 100, 114, 100, 100, 114, 100, 100, 100, 114, 114, 100, 100, 100, 100, 100, 100, 114, 114, 100, 114, 100, 114, 100, 114, 100]⟩ := by decide +kernel
  have h3 : frame_Head.f 100 ((((frame_Body.f 100 291 false false 1 [170]).getD ([], 0)).1).take 18) = some (0, false) := by decide +kernel
  have h4 : frame_Head.f 100 ((((frame_Body.f 100 291 false false 1 [170]).getD ([], 0)).1).take 19) = some (42, true) := by decide +kernel
  have h5 : frame_Body.f 100 5 true true 8 [] = some (((frame_Body.f 100 5 true true 8 []).getD ([], 0)).1, 0) := by decide +kernel
  have hm : (((frame_Body.f 100 5 true true 8 []).getD ([], 0)).1).length = 54 := by decide +kernel
  have h6 : frame_Parse.f 100 (((frame_Body.f 100 291 false false 1 [170]).getD ([], 0)).1) = some (291, false, false, 1, [170], 0) := by kernel_rfl
  have h7 : jackstaylow_SameFrame.f 291 false false 1 [170] 291 false false 1 [170] = some true := by decide +kernel
  have h8 : frame_Right.f 2048 false false 0 [] = some false := by decide +kernel
  have h9 : frame_Before.f 100 1 false false 0 [] 2 false false 0 [] = some true := by decide +kernel
  have h10 : frame_Before.f 100 1 false false 0 [] 262144 true false 0 [] = some true := by decide +kernel
  generalize ((frame_Body.f 100 291 false false 1 [170]).getD ([], 0)).1 = l at *
  generalize ((frame_Body.f 100 5 true true 8 []).getD ([], 0)).1 = m at *
  have hl27 : (l.take 27).length = 27 := by rw [List.length_take, hl]; decide
  have hl18 : (l.take 18).length = 18 := by rw [List.length_take, hl]; decide
  have hl19 : (l.take 19).length = 19 := by rw [List.length_take, hl]; decide
  have H1 := Aside0.mk h1
  have HL := Aside0.mk hl
  have H2 := Aside0.mk h2
  have H3 := Aside0.mk h3
  have H4 := Aside0.mk h4
  have H5 := Aside0.mk h5
  have HM := Aside0.mk hm
  have H6 := Aside0.mk h6
  have H7 := Aside0.mk h7
  have H8 := Aside0.mk h8
  have H9 := Aside0.mk h9
  have H10 := Aside0.mk h10
  have HL27 := Aside0.mk hl27
  have HL18 := Aside0.mk hl18
  have HL19 := Aside0.mk hl19
  clear h1 hl h2 h3 h4 h5 hm h6 h7 h8 h9 h10 hl27 hl18 hl19
  have hu25 := Try.underlying25
  have HB := Aside0.mk (Below.refl w.heap.size w)
  obtain ⟨i4, hi4, _, hsz4, _⟩ := info_parts info4z
  go_enter Try.func28, Try.ntmps28
  go_upto_region 2 with ((with_reducible refine gate_dst (N := 12) rfl ?_); (try (refine gate_guard (by rfl) ?_; dsimp only)); refine Kd.R_lit (Kd.int .u8) (w0 := w) w.heap.size 5 ?hg (N := 12) ?hd (xs := ([170] : List Int)) (inner := [.int .u8 170]) (ok := fun _ => True) (okp := fun _ => True) ?hr ?hp (fun _ hk => hk) trivial (by exact HB.out) (Nat.le_refl _) (by simp) ?_; (case hd => rfl); (case hg => rfl); (case hr => first | (go_simp; done) | (go_simp; rfl)); (case hp => exact (Reps.one (show Kd.M (Kd.int .u8) _ _ _ 170 [.int .u8 170] from rfl) (Reps.none _ _))); intro v2 w2 ho2 hb2 hg2 hn2; clear hg2 hn2; obtain ⟨A2, c2, e2⟩ := Kd.R_slice ho2; subst e2; have HO2 := Aside0.mk ho2; clear HB; have HB := Aside0.mk hb2; clear ho2 hb2)
  have hb_ : Below w2.heap.size w2 (w2.alloc (.cells #[.int .u32 291, .bool false, .bool false, .int .u8 1, .slice A2 1 c2] 25)) := below_alloc (Below.refl _ _) _
  have BK1 := Aside0.mk (blk_new w2 (.cells #[.int .u32 291, .bool false, .bool false, .int .u8 1, .slice A2 1 c2] 25))
  have GE1 := Aside0.mk HB.out.size
  have n0_ := Aside0.mk (Kd.R_below HO2.out hb_)
  have n1_ := Aside0.mk (HB.out.trans (hb_.mono HB.out.size))
  clear HO2 HB hb_
  have HO2 := n0_
  have HB := n1_
  clear n0_ n1_
  generalize (w2.alloc (.cells #[.int .u32 291, .bool false, .bool false, .int .u8 1, .slice A2 1 c2] 25)) = w3 at BK1 HO2 HB ⊢
  generalize w2.heap.size = g1 at BK1 GE1 ⊢
  have hcz1_0 : w3.cell? ⟨g1, 0, none⟩ = some (.int .u32 291) := (blk_cell BK1.out 0).trans rfl
  have hcz1_1 : w3.cell? ⟨g1, 1, none⟩ = some (.bool false) := (blk_cell BK1.out 1).trans rfl
  have hcz1_2 : w3.cell? ⟨g1, 2, none⟩ = some (.bool false) := (blk_cell BK1.out 2).trans rfl
  have hcz1_3 : w3.cell? ⟨g1, 3, none⟩ = some (.int .u8 1) := (blk_cell BK1.out 3).trans rfl
  have hcz1_4 : w3.cell? ⟨g1, 4, none⟩ = some (.slice A2 1 c2) := (blk_cell BK1.out 4).trans rfl
  go_wp2_with fail
  clear hcz1_0 hcz1_1 hcz1_2 hcz1_3 hcz1_4
  refine (frame_Body.calls 100 291 false false 1 A2 c2 [170] l 0 w3 (Kd.R_reads' HO2.out).2.2 (Kd.R_reads' HO2.out).2.1 H1.out).mono ?_
  rintro e w4 ⟨v4, rfl, ho4, hb_⟩
  obtain ⟨A4, c4, e4⟩ := Kd.R_slice ho4
  rw [HL.out] at e4
  subst e4
  have n0_ := Aside0.mk (blk_below BK1.out hb_)
  have n1_ := Aside0.mk (Kd.R_below HO2.out hb_)
  have n2_ := Aside0.mk (HB.out.trans ((hb_).mono HB.out.size))
  clear BK1 HO2 HB
  have BK1 := n0_
  have HO2 := n1_
  have HB := n2_
  clear n0_ n1_ n2_
  have HO4 := Aside0.mk ho4
  clear ho4 hb_
  obtain ⟨hcut27, hrd27, _⟩ := print_take_of (P := Try.prog) Value.bool false 26 4 .i64 Try.underlying26 hi4 hsz4 A4 c4 l (27 : Int) (by decide) (by rw [HL.out]; decide) (by rw [HL.out]; exact (Kd.R_reads' HO4.out).2.1)
  rw [show ((27 : Int).toNat) = 27 from rfl] at hcut27 hrd27
  rw [HL27.out, HL.out] at hcut27
  have HR27 := Aside0.mk hrd27
  clear hrd27
  obtain ⟨hcut18, hrd18, _⟩ := print_take_of (P := Try.prog) Value.bool false 26 4 .i64 Try.underlying26 hi4 hsz4 A4 c4 l (18 : Int) (by decide) (by rw [HL.out]; decide) (by rw [HL.out]; exact (Kd.R_reads' HO4.out).2.1)
  rw [show ((18 : Int).toNat) = 18 from rfl] at hcut18 hrd18
  rw [HL18.out, HL.out] at hcut18
  have HR18 := Aside0.mk hrd18
  clear hrd18
  obtain ⟨hcut19, hrd19, _⟩ := print_take_of (P := Try.prog) Value.bool false 26 4 .i64 Try.underlying26 hi4 hsz4 A4 c4 l (19 : Int) (by decide) (by rw [HL.out]; decide) (by rw [HL.out]; exact (Kd.R_reads' HO4.out).2.1)
  rw [show ((19 : Int).toNat) = 19 from rfl] at hcut19 hrd19
  rw [HL19.out, HL.out] at hcut19
  have HR19 := Aside0.mk hrd19
  clear hrd19
  go_wp2_with fail
  have C_ := jackstaylow_Text.calls 100 A4 c4 (l.take 27) _ w4 (Kd.C_of_reads (h1 := fun _ => rfl) (HR27.out _ (Kd.reads_of_C (Kd.R_reads' HO4.out).2.2))) (by rw [HL27.out]; exact Nat.le_trans (by decide) (Kd.R_reads' HO4.out).2.1) H2.out
  rw [HL27.out] at C_
  refine C_.mono ?_
  clear C_
  rintro e w5 ⟨rfl, hd_⟩
  have hb_ := drawn_below hd_
  clear hd_
  have n0_ := Aside0.mk (blk_below BK1.out hb_)
  have n1_ := Aside0.mk (Kd.R_below HO2.out hb_)
  have n2_ := Aside0.mk (Kd.R_below HO4.out hb_)
  have n3_ := Aside0.mk (HB.out.trans ((hb_).mono HB.out.size))
  clear BK1 HO2 HO4 HB
  have BK1 := n0_
  have HO2 := n1_
  have HO4 := n2_
  have HB := n3_
  clear n0_ n1_ n2_ n3_
  clear hb_
  go_wp2_with fail
  have C_ := frame_Head.calls 100 A4 c4 (l.take 18) _ _ w5 (Kd.C_of_reads (h1 := fun _ => rfl) (HR18.out _ (Kd.reads_of_C (Kd.R_reads' HO4.out).2.2))) (by rw [HL18.out]; exact Nat.le_trans (by decide) (Kd.R_reads' HO4.out).2.1) H3.out
  rw [HL18.out] at C_
  refine C_.mono ?_
  clear C_
  rintro e w6 ⟨rfl, hb_⟩
  have n0_ := Aside0.mk (blk_below BK1.out hb_)
  have n1_ := Aside0.mk (Kd.R_below HO2.out hb_)
  have n2_ := Aside0.mk (Kd.R_below HO4.out hb_)
  have n3_ := Aside0.mk (HB.out.trans ((hb_).mono HB.out.size))
  clear BK1 HO2 HO4 HB
  have BK1 := n0_
  have HO2 := n1_
  have HO4 := n2_
  have HB := n3_
  clear n0_ n1_ n2_ n3_
  clear hb_
  go_wp2_with fail
  have C_ := frame_Head.calls 100 A4 c4 (l.take 19) _ _ w6 (Kd.C_of_reads (h1 := fun _ => rfl) (HR19.out _ (Kd.reads_of_C (Kd.R_reads' HO4.out).2.2))) (by rw [HL19.out]; exact Nat.le_trans (by decide) (Kd.R_reads' HO4.out).2.1) H4.out
  rw [HL19.out] at C_
  refine C_.mono ?_
  clear C_
  rintro e w7 ⟨rfl, hb_⟩
  have n0_ := Aside0.mk (blk_below BK1.out hb_)
  have n1_ := Aside0.mk (Kd.R_below HO2.out hb_)
  have n2_ := Aside0.mk (Kd.R_below HO4.out hb_)
  have n3_ := Aside0.mk (HB.out.trans ((hb_).mono HB.out.size))
  clear BK1 HO2 HO4 HB
  have BK1 := n0_
  have HO2 := n1_
  have HO4 := n2_
  have HB := n3_
  clear n0_ n1_ n2_ n3_
  clear hb_
  go_wp2_with fail
  refine (frame_Body.calls 100 5 true true 8 none 0 [] m 0 w7 (Kd.C_nil _ _) (Nat.le_refl _) H5.out).mono ?_
  rintro e w8 ⟨v8, rfl, ho8, hb_⟩
  obtain ⟨A8, c8, e8⟩ := Kd.R_slice ho8
  rw [HM.out] at e8
  subst e8
  have n0_ := Aside0.mk (blk_below BK1.out hb_)
  have n1_ := Aside0.mk (Kd.R_below HO2.out hb_)
  have n2_ := Aside0.mk (Kd.R_below HO4.out hb_)
  have n3_ := Aside0.mk (HB.out.trans ((hb_).mono HB.out.size))
  clear BK1 HO2 HO4 HB
  have BK1 := n0_
  have HO2 := n1_
  have HO4 := n2_
  have HB := n3_
  clear n0_ n1_ n2_ n3_
  have HO8 := Aside0.mk ho8
  clear ho8 hb_
  go_wp2_with fail
  have C_ := frame_Parse.calls 100 A4 c4 l _ _ _ _ _ _ w8 (Kd.R_reads' HO4.out).2.2 (by rw [HL.out]; exact (Kd.R_reads' HO4.out).2.1) H6.out
  rw [HL.out] at C_
  refine C_.mono ?_
  clear C_
  rintro e w9 ⟨v9, rfl, ho9, hb_⟩
  obtain ⟨A9, c9, e9⟩ := Kd.R_slice ho9
  subst e9
  have n0_ := Aside0.mk (blk_below BK1.out hb_)
  have n1_ := Aside0.mk (Kd.R_below HO2.out hb_)
  have n2_ := Aside0.mk (Kd.R_below HO4.out hb_)
  have n3_ := Aside0.mk (Kd.R_below HO8.out hb_)
  have n4_ := Aside0.mk (HB.out.trans ((hb_).mono HB.out.size))
  clear BK1 HO2 HO4 HO8 HB
  have BK1 := n0_
  have HO2 := n1_
  have HO4 := n2_
  have HO8 := n3_
  have HB := n4_
  clear n0_ n1_ n2_ n3_ n4_
  have HO9 := Aside0.mk ho9
  clear ho9 hb_
  go_upto_region 9 with (fail)
  have hb_ : Below w9.heap.size w9 (w9.alloc (.cells #[.int .u32 291, .bool false, .bool false, .int .u8 1, .slice A9 1 c9] 25)) := below_alloc (Below.refl _ _) _
  have n0_ := Aside0.mk (blk_below BK1.out hb_)
  have n1_ := Aside0.mk (Kd.R_below HO2.out hb_)
  have n2_ := Aside0.mk (Kd.R_below HO4.out hb_)
  have n3_ := Aside0.mk (Kd.R_below HO8.out hb_)
  have n4_ := Aside0.mk (Kd.R_below HO9.out hb_)
  have n5_ := Aside0.mk (HB.out.trans ((hb_).mono HB.out.size))
  clear BK1 HO2 HO4 HO8 HO9 HB
  have BK1 := n0_
  have HO2 := n1_
  have HO4 := n2_
  have HO8 := n3_
  have HO9 := n4_
  have HB := n5_
  clear n0_ n1_ n2_ n3_ n4_ n5_
  have BK9 := Aside0.mk (blk_new w9 (.cells #[.int .u32 291, .bool false, .bool false, .int .u8 1, .slice A9 1 c9] 25))
  clear hb_
  generalize (w9.alloc (.cells #[.int .u32 291, .bool false, .bool false, .int .u8 1, .slice A9 1 c9] 25)) = w10 at BK1 BK9 HO2 HO4 HO8 HO9 HB ⊢
  generalize w9.heap.size = g9 at BK9 HO9 ⊢
  have hcz1_0 : w10.cell? ⟨g1, 0, none⟩ = some (.int .u32 291) := (blk_cell BK1.out 0).trans rfl
  have hcz1_1 : w10.cell? ⟨g1, 1, none⟩ = some (.bool false) := (blk_cell BK1.out 1).trans rfl
  have hcz1_2 : w10.cell? ⟨g1, 2, none⟩ = some (.bool false) := (blk_cell BK1.out 2).trans rfl
  have hcz1_3 : w10.cell? ⟨g1, 3, none⟩ = some (.int .u8 1) := (blk_cell BK1.out 3).trans rfl
  have hcz1_4 : w10.cell? ⟨g1, 4, none⟩ = some (.slice A2 1 c2) := (blk_cell BK1.out 4).trans rfl
  have hcz9_0 : w10.cell? ⟨g9, 0, none⟩ = some (.int .u32 291) := (blk_cell BK9.out 0).trans rfl
  have hcz9_1 : w10.cell? ⟨g9, 1, none⟩ = some (.bool false) := (blk_cell BK9.out 1).trans rfl
  have hcz9_2 : w10.cell? ⟨g9, 2, none⟩ = some (.bool false) := (blk_cell BK9.out 2).trans rfl
  have hcz9_3 : w10.cell? ⟨g9, 3, none⟩ = some (.int .u8 1) := (blk_cell BK9.out 3).trans rfl
  have hcz9_4 : w10.cell? ⟨g9, 4, none⟩ = some (.slice A9 1 c9) := (blk_cell BK9.out 4).trans rfl
  go_wp2_with fail
  clear hcz1_0 hcz1_1 hcz1_2 hcz1_3 hcz1_4
  clear hcz9_0 hcz9_1 hcz9_2 hcz9_3 hcz9_4
  refine (jackstaylow_SameFrame.calls 291 false false 1 A2 c2 [170] 291 false false 1 A9 c9 [170] true w10 (Kd.R_reads' HO2.out).2.2 (Kd.R_reads' HO2.out).2.1 (Kd.R_reads' HO9.out).2.2 (Kd.R_reads' HO9.out).2.1 H7.out).mono ?_
  rintro e w11 ⟨rfl, hb_⟩
  have n0_ := Aside0.mk (blk_below BK1.out hb_)
  have n1_ := Aside0.mk (blk_below BK9.out hb_)
  have n2_ := Aside0.mk (Kd.R_below HO2.out hb_)
  have n3_ := Aside0.mk (Kd.R_below HO4.out hb_)
  have n4_ := Aside0.mk (Kd.R_below HO8.out hb_)
  have n5_ := Aside0.mk (Kd.R_below HO9.out hb_)
  have n6_ := Aside0.mk (HB.out.trans ((hb_).mono HB.out.size))
  clear BK1 BK9 HO2 HO4 HO8 HO9 HB
  have BK1 := n0_
  have BK9 := n1_
  have HO2 := n2_
  have HO4 := n3_
  have HO8 := n4_
  have HO9 := n5_
  have HB := n6_
  clear n0_ n1_ n2_ n3_ n4_ n5_ n6_
  clear hb_
  go_wp2_with fail
  refine (frame_Right.calls 2048 false false 0 none 0 [] false w11 (Kd.C_nil _ _) (Nat.le_refl _) H8.out).mono ?_
  rintro e w12 ⟨rfl, hb_⟩
  have n0_ := Aside0.mk (blk_below BK1.out hb_)
  have n1_ := Aside0.mk (blk_below BK9.out hb_)
  have n2_ := Aside0.mk (Kd.R_below HO2.out hb_)
  have n3_ := Aside0.mk (Kd.R_below HO4.out hb_)
  have n4_ := Aside0.mk (Kd.R_below HO8.out hb_)
  have n5_ := Aside0.mk (Kd.R_below HO9.out hb_)
  have n6_ := Aside0.mk (HB.out.trans ((hb_).mono HB.out.size))
  clear BK1 BK9 HO2 HO4 HO8 HO9 HB
  have BK1 := n0_
  have BK9 := n1_
  have HO2 := n2_
  have HO4 := n3_
  have HO8 := n4_
  have HO9 := n5_
  have HB := n6_
  clear n0_ n1_ n2_ n3_ n4_ n5_ n6_
  clear hb_
  go_wp2_with fail
  refine (frame_Before.calls 100 1 false false 0 none 0 [] 2 false false 0 none 0 [] true w12 (Kd.C_nil _ _) (Nat.le_refl _) (Kd.C_nil _ _) (Nat.le_refl _) H9.out).mono ?_
  rintro e w13 ⟨rfl, hb_⟩
  have n0_ := Aside0.mk (blk_below BK1.out hb_)
  have n1_ := Aside0.mk (blk_below BK9.out hb_)
  have n2_ := Aside0.mk (Kd.R_below HO2.out hb_)
  have n3_ := Aside0.mk (Kd.R_below HO4.out hb_)
  have n4_ := Aside0.mk (Kd.R_below HO8.out hb_)
  have n5_ := Aside0.mk (Kd.R_below HO9.out hb_)
  have n6_ := Aside0.mk (HB.out.trans ((hb_).mono HB.out.size))
  clear BK1 BK9 HO2 HO4 HO8 HO9 HB
  have BK1 := n0_
  have BK9 := n1_
  have HO2 := n2_
  have HO4 := n3_
  have HO8 := n4_
  have HO9 := n5_
  have HB := n6_
  clear n0_ n1_ n2_ n3_ n4_ n5_ n6_
  clear hb_
  go_wp2_with fail
  refine (frame_Before.calls 100 1 false false 0 none 0 [] 262144 true false 0 none 0 [] true w13 (Kd.C_nil _ _) (Nat.le_refl _) (Kd.C_nil _ _) (Nat.le_refl _) H10.out).mono ?_
  rintro e w14 ⟨rfl, hb_⟩
  have n0_ := Aside0.mk (blk_below BK1.out hb_)
  have n1_ := Aside0.mk (blk_below BK9.out hb_)
  have n2_ := Aside0.mk (Kd.R_below HO2.out hb_)
  have n3_ := Aside0.mk (Kd.R_below HO4.out hb_)
  have n4_ := Aside0.mk (Kd.R_below HO8.out hb_)
  have n5_ := Aside0.mk (Kd.R_below HO9.out hb_)
  have n6_ := Aside0.mk (HB.out.trans ((hb_).mono HB.out.size))
  clear BK1 BK9 HO2 HO4 HO8 HO9 HB
  have BK1 := n0_
  have BK9 := n1_
  have HO2 := n2_
  have HO4 := n3_
  have HO8 := n4_
  have HO9 := n5_
  have HB := n6_
  clear n0_ n1_ n2_ n3_ n4_ n5_ n6_
  clear hb_
  go_wp2
  go_ret
  exact ⟨rfl, HB.out⟩
end Go.Proofs.Ytnnnfnebobaiiaa.P
