/- The chapter's examples for layer 3 (jackstaylaw03.awake): they hold. -/
import Derived.Lib.SlBytesConst
import Derived.Test.YtlkeipkehfgogaaPx1
import Derived.Test.YtlkeipkehfgogaaGCrcSum
namespace Go.Proofs.Ytlkeipkehfgogaa.P
open Go.RowKit Go.Proofs.YtlkeipkehfgogaaW.PrintWords Go.Proofs.YtlkeipkehfgogaaW.PrintLast Go.Proofs.YtlkeipkehfgogaaW.PrintMore
attribute [local go_sem] max2_int min2_int max_two min_two max_three min_three max_four min_four   -- for this text's walks alone
set_option linter.unusedVariables false
set_option linter.unusedSimpArgs false
def jackstaylaw03_awake.f : Option Bool := some true
set_option maxHeartbeats 8000000 in
set_option maxRecDepth 100000 in
theorem jackstaylaw03_awake.calls (r : Bool) (w : World) (h : jackstaylaw03_awake.f = some r) :
    Calls Try.prog 7 #[] w fun e w' => e = .returned (.bool r) ∧ Below w.heap.size w w' := by
  obtain rfl := Option.some.inj h
  clear h
  have h1 : crc_Sum.f [] = some 0 := by decide +kernel
  have h2 : crc_Sum.f [true] = some 17817 := by decide +kernel
  have h3 : crc_Sum.f [false] = some 0 := by decide +kernel
  have h4 : bits_OfBytes.f 50 [49, 50, 51, 52, 53, 54, 55, 56, 57] = some ((bits_OfBytes.f 50 [49, 50, 51, 52, 53, 54, 55, 56, 57]).getD []) := by decide +kernel
  have h5 : crc_Sum.f ((bits_OfBytes.f 50 [49, 50, 51, 52, 53, 54, 55, 56, 57]).getD []) = some 1438 := by decide +kernel
  have h6 : crc_Bits.f 50 16384 = some (true :: List.replicate 14 false) := by decide +kernel
  have h7 : jackstaylow_Text.f 50 (true :: List.replicate 14 false) = some ⟨#[114, 100, 100, 100, 100, 100, 100, 100, 100, 100, 100, 100, 100, 100, 100]⟩ := by decide +kernel
  generalize (bits_OfBytes.f 50 [49, 50, 51, 52, 53, 54, 55, 56, 57]).getD [] = t at h4 h5
  have H1 := Aside0.mk h1
  have H2 := Aside0.mk h2
  have H3 := Aside0.mk h3
  have H4 := Aside0.mk h4
  have H5 := Aside0.mk h5
  have H6 := Aside0.mk h6
  have H7 := Aside0.mk h7
  clear h1 h2 h3 h4 h5 h6 h7
  have kc := fun (w : World) (C : Array Value) (n c : Nat) => Lib.run_convert_bytes_const (P := Try.prog) w 34 5 C n c Try.underlying34 Try.underlying5
  go_enter Try.func7, Try.ntmps7
  go_wp2_with fail
  refine (crc_Sum.calls none 0 ([] : List Bool) 0 _ (Kd.C_nil _ _) (Nat.le_refl _) H1.out).mono ?_
  rintro e w1 ⟨rfl, hb1⟩
  go_wp2_with ((with_reducible refine gate_dst (N := 4) rfl ?_); (try (refine gate_guard (by rfl) ?_; dsimp only)); refine Kd.R_lit Kd.bool _ 4 ?hg (N := 4) ?hd (xs := ([true] : List Bool)) (inner := [.bool true]) (ok := fun _ => True) (okp := fun _ => True) ?hr ?hp (fun _ hk => hk) trivial (Below.refl _ _) (Nat.le_refl _) (by simp) ?_; (case hd => rfl); (case hg => rfl); (case hr => first | (go_simp; done) | (go_simp; rfl)); (case hp => exact (Reps.one (show Kd.M Kd.bool _ _ _ true [.bool true] from rfl) (Reps.none _ _))); intro v2 w2 ho2 hb2 hg2 hn2; clear hg2 hn2; obtain ⟨A2, c2, e2⟩ := Kd.R_slice ho2; subst e2; have HO2 := Aside0.mk ho2; have HB2 := Aside0.mk (hb1.trans (hb2.mono hb1.size)); clear ho2 hb2 hb1)
  refine (crc_Sum.calls A2 c2 [true] 17817 _ (Kd.R_reads' HO2.out).2.2 (Kd.R_reads' HO2.out).2.1 H2.out).mono ?_
  clear HO2
  rintro e w3 ⟨rfl, hb3⟩
  have HB3 := Aside0.mk (HB2.out.trans (hb3.mono HB2.out.size))
  clear HB2 hb3
  go_wp2_with ((with_reducible refine gate_dst (N := 9) rfl ?_); (try (refine gate_guard (by rfl) ?_; dsimp only)); refine Kd.R_lit Kd.bool _ 4 ?hg (N := 9) ?hd (xs := ([false] : List Bool)) (inner := [.bool false]) (ok := fun _ => True) (okp := fun _ => True) ?hr ?hp (fun _ hk => hk) trivial (Below.refl _ _) (Nat.le_refl _) (by simp) ?_; (case hd => rfl); (case hg => rfl); (case hr => first | (go_simp; done) | (go_simp; rfl)); (case hp => exact (Reps.one (show Kd.M Kd.bool _ _ _ false [.bool false] from rfl) (Reps.none _ _))); intro v4 w4 ho4 hb4 hg4 hn4; clear hg4 hn4; obtain ⟨A4, c4, e4⟩ := Kd.R_slice ho4; subst e4; have HO4 := Aside0.mk ho4; have HB4 := Aside0.mk (HB3.out.trans (hb4.mono HB3.out.size)); clear ho4 hb4 HB3)
  refine (crc_Sum.calls A4 c4 [false] 0 _ (Kd.R_reads' HO4.out).2.2 (Kd.R_reads' HO4.out).2.1 H3.out).mono ?_
  clear HO4
  rintro e w5 ⟨rfl, hb5⟩
  have HB5 := Aside0.mk (HB4.out.trans (hb5.mono HB4.out.size))
  clear HB4 hb5
  go_wp2_with fail
  have hC := X.C_alloc_marked (enc := Value.int .u8) (h1 := fun _ => rfl) w5 5 (9, 10) ([49, 50, 51, 52, 53, 54, 55, 56, 57] : List Int) 0 (by decide)
  refine (bits_OfBytes.calls 50 _ _ _ t _ hC (Nat.le_refl _) H4.out).mono ?_
  clear hC
  rintro e w6 ⟨v6, rfl, ho6, hb6⟩
  obtain ⟨A6, c6, e6⟩ := Kd.R_slice ho6
  subst e6
  have HO6 := Aside0.mk ho6
  have HB6 := Aside0.mk (HB5.out.trans ((below_alloc (Below.refl w5.heap.size w5) _).trans (hb6.mono (by simp)) |>.mono HB5.out.size))
  clear ho6 hb6 HB5
  go_wp2_with fail
  refine (crc_Sum.calls A6 c6 t 1438 _ (Kd.R_reads' HO6.out).2.2 (Kd.R_reads' HO6.out).2.1 H5.out).mono ?_
  clear HO6
  rintro e w7 ⟨rfl, hb7⟩
  have HB7 := Aside0.mk (HB6.out.trans (hb7.mono HB6.out.size))
  clear HB6 hb7
  go_wp2_with fail
  refine (crc_Bits.calls 50 16384 _ _ H6.out).mono ?_
  rintro e w8 ⟨v8, rfl, ho8, hb8⟩
  obtain ⟨A8, c8, e8⟩ := Kd.R_slice ho8
  subst e8
  have HO8 := Aside0.mk ho8
  have HB8 := Aside0.mk (HB7.out.trans (hb8.mono HB7.out.size))
  clear ho8 hb8 HB7
  go_wp2_with fail
  refine (jackstaylow_Text.calls 50 A8 c8 _ _ _ (Kd.R_reads' HO8.out).2.2 (Kd.R_reads' HO8.out).2.1 H7.out).mono ?_
  rintro e w9 ⟨rfl, ⟨nd, rfl⟩⟩
  go_wp2
  go_ret
  exact ⟨by first | rfl | (simp; done), pw_below_drewN HB8.out _⟩
end Go.Proofs.Ytlkeipkehfgogaa.P
