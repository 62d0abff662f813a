/- One more that drives recessive changes nothing; one more that drives dominant makes the bus dominant: the law's own walk. -/
import Derived.Test.YtlfopdflkkkapaaGWire
namespace Go.Proofs.Ytlfopdflkkkapaa.P
open Go.RowKit Go.Proofs.YtlfopdflkkkapaaW.PrintWords Go.Proofs.YtlfopdflkkkapaaW.PrintLast Go.Proofs.YtlfopdflkkkapaaW.PrintMore
set_option linter.unusedVariables false
set_option linter.unusedSimpArgs false
theorem by_drew {W w1 : World} {nd : Nat} (h : w1 = W.drewN nd) : Below W.heap.size W w1 := by rw [h]; exact pw_below_drewN (Below.refl _ _) nd
set_option maxHeartbeats 8000000 in
set_option maxRecDepth 100000 in
theorem jackstaylaw01_BitsWire.calls (A0 : Option Addr) (c0 : Nat) (l0 : List Bool) (a1 : Int) (w : World) (ha0 : 0 ≤ a1) (ha1 : a1 ≤ 255) (hr0 : Kd.C Kd.bool w A0 l0.length l0) (hc0 : l0.length ≤ c0) :
    Calls Try.prog 4 #[.slice A0 l0.length c0, .int .u8 a1] w fun e w' => e = .returned (.bool true) ∧ Below w.heap.size w w' := by
  have HR0 := Aside0.mk hr0
  have HC0 := Aside0.mk hc0
  clear hr0 hc0
  have HAW : Aside0 (jackstaylaw01_awake.f 60 = some true) := ⟨by decide +kernel⟩
  by_cases hl : l0.length ≤ 100
  · have hd : decide (100 < (l0.length : Int)) = false := decide_eq_false (by omega)
    have hd2 : decide (100 < l0.length) = false := decide_eq_false (by omega)
    obtain ⟨n, hn⟩ : ∃ n : Nat, a1 % ((l0.length : Int) + 1) = (n : Int) := ⟨(a1 % ((l0.length : Int) + 1)).toNat, by have := Int.emod_nonneg a1 (show (l0.length : Int) + 1 ≠ 0 by omega); omega⟩
    have hn2 : n ≤ l0.length := by have := Int.emod_lt_of_pos a1 (show 0 < (l0.length : Int) + 1 by omega); omega
    have HN := Aside0.mk hn2
    clear hn2
    have hlt : (l0.take n).length = n := by rw [List.length_take]; have := HN.out; omega
    have hld : (l0.drop n).length = l0.length - n := List.length_drop
    obtain ⟨i0, hi0, _, hsz, _⟩ := info_parts infoB
    obtain ⟨hcutA, hrdA, _⟩ := print_take_of (P := Try.prog) Value.bool false 25 4 .i64 Try.underlying25 hi0 hsz A0 c0 l0 (n : Int) (by omega) (by have := HN.out; omega) HC0.out
    obtain ⟨A', hcutB, hrd, hcap⟩ := print_drop_of (P := Try.prog) Value.bool false 25 4 .i64 Try.underlying25 hi0 hsz A0 c0 l0 (n : Int) (by omega) (by have := HN.out; omega) HC0.out
    rw [Int.toNat_natCast] at hcutA hrdA hcutB hrd hcap
    rw [hlt] at hcutA
    rw [hld] at hcutB
    have HRA := Aside0.mk hrdA
    have HRB := Aside0.mk hrd
    have HCP := Aside0.mk hcap
    have HLT := Aside0.mk hlt
    have HLD := Aside0.mk hld
    clear hrdA hrd hcap hlt hld
    obtain ⟨k1, hk1⟩ := (bits_Bus.ev l0 (by omega)).rounds
    obtain ⟨k2, hk2⟩ := (bits_Bus.ev ((l0.take n ++ [true]) ++ l0.drop n) (by simp; omega)).rounds
    obtain ⟨k3, hk3⟩ := (bits_Bus.ev ((l0.take n ++ [false]) ++ l0.drop n) (by simp; omega)).rounds
    obtain ⟨k4, hk4⟩ := (bits_Bus.ev (l0.take n) (by simp; omega)).rounds
    obtain ⟨k5, hk5⟩ := (bits_Bus.ev (l0.drop n) (by simp; omega)).rounds
    have hsum : l0.all id = ((l0.take n).all id && (l0.drop n).all id) := by rw [← List.all_append, List.take_append_drop]
    have hw1 : ((l0.take n ++ [true]) ++ l0.drop n).all id = ((l0.take n).all id && (l0.drop n).all id) := by simp
    have hw2 : ((l0.take n ++ [false]) ++ l0.drop n).all id = false := by simp
    rw [hsum] at hk1
    rw [hw1] at hk2
    rw [hw2] at hk3
    clear hsum hw1 hw2
    generalize (l0.take n).all id = a at hk1 hk2 hk4
    generalize (l0.drop n).all id = b at hk1 hk2 hk5
    obtain ⟨l2, hl2⟩ : ∃ l2, l2 = (l0.take n ++ [true]) ++ l0.drop n := ⟨_, rfl⟩
    obtain ⟨l3, hl3⟩ : ∃ l3, l3 = (l0.take n ++ [false]) ++ l0.drop n := ⟨_, rfl⟩
    rw [← hl2] at hk2
    rw [← hl3] at hk3
    have HL2 := Aside0.mk hl2
    have HL3 := Aside0.mk hl3
    clear hl2 hl3
    have HK1 := Aside0.mk hk1
    have HK2 := Aside0.mk hk2
    have HK3 := Aside0.mk hk3
    have HK4 := Aside0.mk hk4
    have HK5 := Aside0.mk hk5
    clear hk1 hk2 hk3 hk4 hk5
    cases a <;> cases b
    · go_enter Try.func4, Try.ntmps4
      go_wp2_with fail
      have C1 : Aside0 (((w.alloc (.cells #[.slice A0 l0.length c0] 25)).alloc (.cells #[.int .i64 (n : Int)] 3)).cell? ⟨w.heap.size, 0, none⟩ = some (.slice A0 l0.length c0)) := ⟨(blk_cell (blk_alloc (blk_new w _) _) 0).trans rfl⟩
      have C2 : Aside0 (((w.alloc (.cells #[.slice A0 l0.length c0] 25)).alloc (.cells #[.int .i64 (n : Int)] 3)).cell? ⟨w.heap.size + 1, 0, none⟩ = some (.int .i64 (n : Int))) := ⟨(blk_cell (by have := blk_new (w.alloc (.cells #[.slice A0 l0.length c0] 25)) (.cells #[.int .i64 (n : Int)] 3); rwa [World.size_alloc] at this) 0).trans rfl⟩
      have HB : Aside0 (Below w.heap.size w ((w.alloc (.cells #[.slice A0 l0.length c0] 25)).alloc (.cells #[.int .i64 (n : Int)] 3))) := ⟨below_alloc (below_alloc (Below.refl _ _) _) _⟩
      generalize ((w.alloc (.cells #[.slice A0 l0.length c0] 25)).alloc (.cells #[.int .i64 (n : Int)] 3)) = W at C1 C2 HB ⊢
      have C_ := bits_Bus.calls k1 A0 c0 l0 _ _ (Kd.C_below HR0.out HB.out) HC0.out HK1.out
      (with_reducible refine C_.mono ?_)
      clear C_
      rintro e w_ ⟨rfl, nd, hdr_⟩
      have hb_ := by_drew hdr_
      clear hdr_
      have n1_ := Aside0.mk (((hb_).cell (p := ⟨w.heap.size, 0, none⟩) (World.block_lt_of_cell? _ _ C1.out)).trans C1.out)
      have n2_ := Aside0.mk (((hb_).cell (p := ⟨w.heap.size + 1, 0, none⟩) (World.block_lt_of_cell? _ _ C2.out)).trans C2.out)
      have n3_ := Aside0.mk (HB.out.trans ((hb_).mono HB.out.size))
      clear C1 C2 HB
      have C1 := n1_
      have C2 := n2_
      have HB := n3_
      clear n1_ n2_ n3_
      clear hb_
      go_wp2_with fail
      have C_ := wire_with.calls w.heap.size (w.heap.size + 1) true A0 c0 l0 n _ C1.out C2.out (Kd.C_below HR0.out HB.out) HC0.out HN.out hl
      rw [← HL2.out] at C_
      (with_reducible refine C_.mono ?_)
      clear C_
      rintro e w_ ⟨v2, rfl, h2, hb_⟩
      obtain ⟨A2, c2, e2⟩ := Kd.R_slice h2
      subst e2
      have HO2 := Aside0.mk h2
      clear h2
      have n1_ := Aside0.mk (((hb_).cell (p := ⟨w.heap.size, 0, none⟩) (World.block_lt_of_cell? _ _ C1.out)).trans C1.out)
      have n2_ := Aside0.mk (((hb_).cell (p := ⟨w.heap.size + 1, 0, none⟩) (World.block_lt_of_cell? _ _ C2.out)).trans C2.out)
      have n3_ := Aside0.mk (HB.out.trans ((hb_).mono HB.out.size))
      clear C1 C2 HB
      have C1 := n1_
      have C2 := n2_
      have HB := n3_
      clear n1_ n2_ n3_
      clear hb_
      go_wp2_with fail
      have C_ := bits_Bus.calls k2 A2 c2 _ _ _ (Kd.R_reads' HO2.out).2.2 (Kd.R_reads' HO2.out).2.1 HK2.out
      (with_reducible refine C_.mono ?_)
      clear C_
      rintro e w_ ⟨rfl, nd, hdr_⟩
      have hb_ := by_drew hdr_
      clear hdr_
      have n1_ := Aside0.mk (((hb_).cell (p := ⟨w.heap.size, 0, none⟩) (World.block_lt_of_cell? _ _ C1.out)).trans C1.out)
      have n2_ := Aside0.mk (((hb_).cell (p := ⟨w.heap.size + 1, 0, none⟩) (World.block_lt_of_cell? _ _ C2.out)).trans C2.out)
      have n3_ := Aside0.mk (HB.out.trans ((hb_).mono HB.out.size))
      clear C1 C2 HB
      have C1 := n1_
      have C2 := n2_
      have HB := n3_
      clear n1_ n2_ n3_
      clear hb_
      go_wp2_with fail
      have C_ := wire_with.calls w.heap.size (w.heap.size + 1) false A0 c0 l0 n _ C1.out C2.out (Kd.C_below HR0.out HB.out) HC0.out HN.out hl
      rw [← HL3.out] at C_
      (with_reducible refine C_.mono ?_)
      clear C_
      rintro e w_ ⟨v3, rfl, h3, hb_⟩
      obtain ⟨A3, c3, e3⟩ := Kd.R_slice h3
      subst e3
      have HO3 := Aside0.mk h3
      clear h3
      have n1_ := Aside0.mk (((hb_).cell (p := ⟨w.heap.size, 0, none⟩) (World.block_lt_of_cell? _ _ C1.out)).trans C1.out)
      have n2_ := Aside0.mk (((hb_).cell (p := ⟨w.heap.size + 1, 0, none⟩) (World.block_lt_of_cell? _ _ C2.out)).trans C2.out)
      have n3_ := Aside0.mk (HB.out.trans ((hb_).mono HB.out.size))
      clear C1 C2 HB
      have C1 := n1_
      have C2 := n2_
      have HB := n3_
      clear n1_ n2_ n3_
      clear hb_
      go_wp2_with fail
      have C_ := bits_Bus.calls k3 A3 c3 _ _ _ (Kd.R_reads' HO3.out).2.2 (Kd.R_reads' HO3.out).2.1 HK3.out
      (with_reducible refine C_.mono ?_)
      clear C_
      rintro e w_ ⟨rfl, nd, hdr_⟩
      have hb_ := by_drew hdr_
      clear hdr_
      have n1_ := Aside0.mk (((hb_).cell (p := ⟨w.heap.size, 0, none⟩) (World.block_lt_of_cell? _ _ C1.out)).trans C1.out)
      have n2_ := Aside0.mk (((hb_).cell (p := ⟨w.heap.size + 1, 0, none⟩) (World.block_lt_of_cell? _ _ C2.out)).trans C2.out)
      have n3_ := Aside0.mk (HB.out.trans ((hb_).mono HB.out.size))
      clear C1 C2 HB
      have C1 := n1_
      have C2 := n2_
      have HB := n3_
      clear n1_ n2_ n3_
      clear hb_
      have hx1 := C1.out
      have hx2 := C2.out
      go_wp2_with fail
      clear hx1 hx2
      have C_ := bits_Bus.calls k4 A0 c0 (l0.take n) _ _ (Kd.C_of_reads (h1 := fun _ => rfl) (HRA.out _ (Kd.reads_of_C (Kd.C_below HR0.out HB.out)))) (by rw [HLT.out]; have := HN.out; have := HC0.out; omega) HK4.out
      rw [HLT.out] at C_
      (with_reducible refine C_.mono ?_)
      clear C_
      rintro e w_ ⟨rfl, nd, hdr_⟩
      have hb_ := by_drew hdr_
      clear hdr_
      have n1_ := Aside0.mk (((hb_).cell (p := ⟨w.heap.size, 0, none⟩) (World.block_lt_of_cell? _ _ C1.out)).trans C1.out)
      have n2_ := Aside0.mk (((hb_).cell (p := ⟨w.heap.size + 1, 0, none⟩) (World.block_lt_of_cell? _ _ C2.out)).trans C2.out)
      have n3_ := Aside0.mk (HB.out.trans ((hb_).mono HB.out.size))
      clear C1 C2 HB
      have C1 := n1_
      have C2 := n2_
      have HB := n3_
      clear n1_ n2_ n3_
      clear hb_
      go_wp2_with fail
      refine (jackstaylaw01_awake.calls 60 true _ HAW.out).mono ?_
      rintro e w_ ⟨rfl, hb_⟩
      have hz := HB.out.trans (hb_.mono HB.out.size)
      clear hb_
      go_wp2
      go_ret
      exact ⟨rfl, hz⟩
    · go_enter Try.func4, Try.ntmps4
      go_wp2_with fail
      have C1 : Aside0 (((w.alloc (.cells #[.slice A0 l0.length c0] 25)).alloc (.cells #[.int .i64 (n : Int)] 3)).cell? ⟨w.heap.size, 0, none⟩ = some (.slice A0 l0.length c0)) := ⟨(blk_cell (blk_alloc (blk_new w _) _) 0).trans rfl⟩
      have C2 : Aside0 (((w.alloc (.cells #[.slice A0 l0.length c0] 25)).alloc (.cells #[.int .i64 (n : Int)] 3)).cell? ⟨w.heap.size + 1, 0, none⟩ = some (.int .i64 (n : Int))) := ⟨(blk_cell (by have := blk_new (w.alloc (.cells #[.slice A0 l0.length c0] 25)) (.cells #[.int .i64 (n : Int)] 3); rwa [World.size_alloc] at this) 0).trans rfl⟩
      have HB : Aside0 (Below w.heap.size w ((w.alloc (.cells #[.slice A0 l0.length c0] 25)).alloc (.cells #[.int .i64 (n : Int)] 3))) := ⟨below_alloc (below_alloc (Below.refl _ _) _) _⟩
      generalize ((w.alloc (.cells #[.slice A0 l0.length c0] 25)).alloc (.cells #[.int .i64 (n : Int)] 3)) = W at C1 C2 HB ⊢
      have C_ := bits_Bus.calls k1 A0 c0 l0 _ _ (Kd.C_below HR0.out HB.out) HC0.out HK1.out
      (with_reducible refine C_.mono ?_)
      clear C_
      rintro e w_ ⟨rfl, nd, hdr_⟩
      have hb_ := by_drew hdr_
      clear hdr_
      have n1_ := Aside0.mk (((hb_).cell (p := ⟨w.heap.size, 0, none⟩) (World.block_lt_of_cell? _ _ C1.out)).trans C1.out)
      have n2_ := Aside0.mk (((hb_).cell (p := ⟨w.heap.size + 1, 0, none⟩) (World.block_lt_of_cell? _ _ C2.out)).trans C2.out)
      have n3_ := Aside0.mk (HB.out.trans ((hb_).mono HB.out.size))
      clear C1 C2 HB
      have C1 := n1_
      have C2 := n2_
      have HB := n3_
      clear n1_ n2_ n3_
      clear hb_
      go_wp2_with fail
      have C_ := wire_with.calls w.heap.size (w.heap.size + 1) true A0 c0 l0 n _ C1.out C2.out (Kd.C_below HR0.out HB.out) HC0.out HN.out hl
      rw [← HL2.out] at C_
      (with_reducible refine C_.mono ?_)
      clear C_
      rintro e w_ ⟨v2, rfl, h2, hb_⟩
      obtain ⟨A2, c2, e2⟩ := Kd.R_slice h2
      subst e2
      have HO2 := Aside0.mk h2
      clear h2
      have n1_ := Aside0.mk (((hb_).cell (p := ⟨w.heap.size, 0, none⟩) (World.block_lt_of_cell? _ _ C1.out)).trans C1.out)
      have n2_ := Aside0.mk (((hb_).cell (p := ⟨w.heap.size + 1, 0, none⟩) (World.block_lt_of_cell? _ _ C2.out)).trans C2.out)
      have n3_ := Aside0.mk (HB.out.trans ((hb_).mono HB.out.size))
      clear C1 C2 HB
      have C1 := n1_
      have C2 := n2_
      have HB := n3_
      clear n1_ n2_ n3_
      clear hb_
      go_wp2_with fail
      have C_ := bits_Bus.calls k2 A2 c2 _ _ _ (Kd.R_reads' HO2.out).2.2 (Kd.R_reads' HO2.out).2.1 HK2.out
      (with_reducible refine C_.mono ?_)
      clear C_
      rintro e w_ ⟨rfl, nd, hdr_⟩
      have hb_ := by_drew hdr_
      clear hdr_
      have n1_ := Aside0.mk (((hb_).cell (p := ⟨w.heap.size, 0, none⟩) (World.block_lt_of_cell? _ _ C1.out)).trans C1.out)
      have n2_ := Aside0.mk (((hb_).cell (p := ⟨w.heap.size + 1, 0, none⟩) (World.block_lt_of_cell? _ _ C2.out)).trans C2.out)
      have n3_ := Aside0.mk (HB.out.trans ((hb_).mono HB.out.size))
      clear C1 C2 HB
      have C1 := n1_
      have C2 := n2_
      have HB := n3_
      clear n1_ n2_ n3_
      clear hb_
      go_wp2_with fail
      have C_ := wire_with.calls w.heap.size (w.heap.size + 1) false A0 c0 l0 n _ C1.out C2.out (Kd.C_below HR0.out HB.out) HC0.out HN.out hl
      rw [← HL3.out] at C_
      (with_reducible refine C_.mono ?_)
      clear C_
      rintro e w_ ⟨v3, rfl, h3, hb_⟩
      obtain ⟨A3, c3, e3⟩ := Kd.R_slice h3
      subst e3
      have HO3 := Aside0.mk h3
      clear h3
      have n1_ := Aside0.mk (((hb_).cell (p := ⟨w.heap.size, 0, none⟩) (World.block_lt_of_cell? _ _ C1.out)).trans C1.out)
      have n2_ := Aside0.mk (((hb_).cell (p := ⟨w.heap.size + 1, 0, none⟩) (World.block_lt_of_cell? _ _ C2.out)).trans C2.out)
      have n3_ := Aside0.mk (HB.out.trans ((hb_).mono HB.out.size))
      clear C1 C2 HB
      have C1 := n1_
      have C2 := n2_
      have HB := n3_
      clear n1_ n2_ n3_
      clear hb_
      go_wp2_with fail
      have C_ := bits_Bus.calls k3 A3 c3 _ _ _ (Kd.R_reads' HO3.out).2.2 (Kd.R_reads' HO3.out).2.1 HK3.out
      (with_reducible refine C_.mono ?_)
      clear C_
      rintro e w_ ⟨rfl, nd, hdr_⟩
      have hb_ := by_drew hdr_
      clear hdr_
      have n1_ := Aside0.mk (((hb_).cell (p := ⟨w.heap.size, 0, none⟩) (World.block_lt_of_cell? _ _ C1.out)).trans C1.out)
      have n2_ := Aside0.mk (((hb_).cell (p := ⟨w.heap.size + 1, 0, none⟩) (World.block_lt_of_cell? _ _ C2.out)).trans C2.out)
      have n3_ := Aside0.mk (HB.out.trans ((hb_).mono HB.out.size))
      clear C1 C2 HB
      have C1 := n1_
      have C2 := n2_
      have HB := n3_
      clear n1_ n2_ n3_
      clear hb_
      have hx1 := C1.out
      have hx2 := C2.out
      go_wp2_with fail
      clear hx1 hx2
      have C_ := bits_Bus.calls k4 A0 c0 (l0.take n) _ _ (Kd.C_of_reads (h1 := fun _ => rfl) (HRA.out _ (Kd.reads_of_C (Kd.C_below HR0.out HB.out)))) (by rw [HLT.out]; have := HN.out; have := HC0.out; omega) HK4.out
      rw [HLT.out] at C_
      (with_reducible refine C_.mono ?_)
      clear C_
      rintro e w_ ⟨rfl, nd, hdr_⟩
      have hb_ := by_drew hdr_
      clear hdr_
      have n1_ := Aside0.mk (((hb_).cell (p := ⟨w.heap.size, 0, none⟩) (World.block_lt_of_cell? _ _ C1.out)).trans C1.out)
      have n2_ := Aside0.mk (((hb_).cell (p := ⟨w.heap.size + 1, 0, none⟩) (World.block_lt_of_cell? _ _ C2.out)).trans C2.out)
      have n3_ := Aside0.mk (HB.out.trans ((hb_).mono HB.out.size))
      clear C1 C2 HB
      have C1 := n1_
      have C2 := n2_
      have HB := n3_
      clear n1_ n2_ n3_
      clear hb_
      go_wp2_with fail
      refine (jackstaylaw01_awake.calls 60 true _ HAW.out).mono ?_
      rintro e w_ ⟨rfl, hb_⟩
      have hz := HB.out.trans (hb_.mono HB.out.size)
      clear hb_
      go_wp2
      go_ret
      exact ⟨rfl, hz⟩
    · go_enter Try.func4, Try.ntmps4
      go_wp2_with fail
      have C1 : Aside0 (((w.alloc (.cells #[.slice A0 l0.length c0] 25)).alloc (.cells #[.int .i64 (n : Int)] 3)).cell? ⟨w.heap.size, 0, none⟩ = some (.slice A0 l0.length c0)) := ⟨(blk_cell (blk_alloc (blk_new w _) _) 0).trans rfl⟩
      have C2 : Aside0 (((w.alloc (.cells #[.slice A0 l0.length c0] 25)).alloc (.cells #[.int .i64 (n : Int)] 3)).cell? ⟨w.heap.size + 1, 0, none⟩ = some (.int .i64 (n : Int))) := ⟨(blk_cell (by have := blk_new (w.alloc (.cells #[.slice A0 l0.length c0] 25)) (.cells #[.int .i64 (n : Int)] 3); rwa [World.size_alloc] at this) 0).trans rfl⟩
      have HB : Aside0 (Below w.heap.size w ((w.alloc (.cells #[.slice A0 l0.length c0] 25)).alloc (.cells #[.int .i64 (n : Int)] 3))) := ⟨below_alloc (below_alloc (Below.refl _ _) _) _⟩
      generalize ((w.alloc (.cells #[.slice A0 l0.length c0] 25)).alloc (.cells #[.int .i64 (n : Int)] 3)) = W at C1 C2 HB ⊢
      have C_ := bits_Bus.calls k1 A0 c0 l0 _ _ (Kd.C_below HR0.out HB.out) HC0.out HK1.out
      (with_reducible refine C_.mono ?_)
      clear C_
      rintro e w_ ⟨rfl, nd, hdr_⟩
      have hb_ := by_drew hdr_
      clear hdr_
      have n1_ := Aside0.mk (((hb_).cell (p := ⟨w.heap.size, 0, none⟩) (World.block_lt_of_cell? _ _ C1.out)).trans C1.out)
      have n2_ := Aside0.mk (((hb_).cell (p := ⟨w.heap.size + 1, 0, none⟩) (World.block_lt_of_cell? _ _ C2.out)).trans C2.out)
      have n3_ := Aside0.mk (HB.out.trans ((hb_).mono HB.out.size))
      clear C1 C2 HB
      have C1 := n1_
      have C2 := n2_
      have HB := n3_
      clear n1_ n2_ n3_
      clear hb_
      go_wp2_with fail
      have C_ := wire_with.calls w.heap.size (w.heap.size + 1) true A0 c0 l0 n _ C1.out C2.out (Kd.C_below HR0.out HB.out) HC0.out HN.out hl
      rw [← HL2.out] at C_
      (with_reducible refine C_.mono ?_)
      clear C_
      rintro e w_ ⟨v2, rfl, h2, hb_⟩
      obtain ⟨A2, c2, e2⟩ := Kd.R_slice h2
      subst e2
      have HO2 := Aside0.mk h2
      clear h2
      have n1_ := Aside0.mk (((hb_).cell (p := ⟨w.heap.size, 0, none⟩) (World.block_lt_of_cell? _ _ C1.out)).trans C1.out)
      have n2_ := Aside0.mk (((hb_).cell (p := ⟨w.heap.size + 1, 0, none⟩) (World.block_lt_of_cell? _ _ C2.out)).trans C2.out)
      have n3_ := Aside0.mk (HB.out.trans ((hb_).mono HB.out.size))
      clear C1 C2 HB
      have C1 := n1_
      have C2 := n2_
      have HB := n3_
      clear n1_ n2_ n3_
      clear hb_
      go_wp2_with fail
      have C_ := bits_Bus.calls k2 A2 c2 _ _ _ (Kd.R_reads' HO2.out).2.2 (Kd.R_reads' HO2.out).2.1 HK2.out
      (with_reducible refine C_.mono ?_)
      clear C_
      rintro e w_ ⟨rfl, nd, hdr_⟩
      have hb_ := by_drew hdr_
      clear hdr_
      have n1_ := Aside0.mk (((hb_).cell (p := ⟨w.heap.size, 0, none⟩) (World.block_lt_of_cell? _ _ C1.out)).trans C1.out)
      have n2_ := Aside0.mk (((hb_).cell (p := ⟨w.heap.size + 1, 0, none⟩) (World.block_lt_of_cell? _ _ C2.out)).trans C2.out)
      have n3_ := Aside0.mk (HB.out.trans ((hb_).mono HB.out.size))
      clear C1 C2 HB
      have C1 := n1_
      have C2 := n2_
      have HB := n3_
      clear n1_ n2_ n3_
      clear hb_
      go_wp2_with fail
      have C_ := wire_with.calls w.heap.size (w.heap.size + 1) false A0 c0 l0 n _ C1.out C2.out (Kd.C_below HR0.out HB.out) HC0.out HN.out hl
      rw [← HL3.out] at C_
      (with_reducible refine C_.mono ?_)
      clear C_
      rintro e w_ ⟨v3, rfl, h3, hb_⟩
      obtain ⟨A3, c3, e3⟩ := Kd.R_slice h3
      subst e3
      have HO3 := Aside0.mk h3
      clear h3
      have n1_ := Aside0.mk (((hb_).cell (p := ⟨w.heap.size, 0, none⟩) (World.block_lt_of_cell? _ _ C1.out)).trans C1.out)
      have n2_ := Aside0.mk (((hb_).cell (p := ⟨w.heap.size + 1, 0, none⟩) (World.block_lt_of_cell? _ _ C2.out)).trans C2.out)
      have n3_ := Aside0.mk (HB.out.trans ((hb_).mono HB.out.size))
      clear C1 C2 HB
      have C1 := n1_
      have C2 := n2_
      have HB := n3_
      clear n1_ n2_ n3_
      clear hb_
      go_wp2_with fail
      have C_ := bits_Bus.calls k3 A3 c3 _ _ _ (Kd.R_reads' HO3.out).2.2 (Kd.R_reads' HO3.out).2.1 HK3.out
      (with_reducible refine C_.mono ?_)
      clear C_
      rintro e w_ ⟨rfl, nd, hdr_⟩
      have hb_ := by_drew hdr_
      clear hdr_
      have n1_ := Aside0.mk (((hb_).cell (p := ⟨w.heap.size, 0, none⟩) (World.block_lt_of_cell? _ _ C1.out)).trans C1.out)
      have n2_ := Aside0.mk (((hb_).cell (p := ⟨w.heap.size + 1, 0, none⟩) (World.block_lt_of_cell? _ _ C2.out)).trans C2.out)
      have n3_ := Aside0.mk (HB.out.trans ((hb_).mono HB.out.size))
      clear C1 C2 HB
      have C1 := n1_
      have C2 := n2_
      have HB := n3_
      clear n1_ n2_ n3_
      clear hb_
      have hx1 := C1.out
      have hx2 := C2.out
      go_wp2_with fail
      clear hx1 hx2
      have C_ := bits_Bus.calls k4 A0 c0 (l0.take n) _ _ (Kd.C_of_reads (h1 := fun _ => rfl) (HRA.out _ (Kd.reads_of_C (Kd.C_below HR0.out HB.out)))) (by rw [HLT.out]; have := HN.out; have := HC0.out; omega) HK4.out
      rw [HLT.out] at C_
      (with_reducible refine C_.mono ?_)
      clear C_
      rintro e w_ ⟨rfl, nd, hdr_⟩
      have hb_ := by_drew hdr_
      clear hdr_
      have n1_ := Aside0.mk (((hb_).cell (p := ⟨w.heap.size, 0, none⟩) (World.block_lt_of_cell? _ _ C1.out)).trans C1.out)
      have n2_ := Aside0.mk (((hb_).cell (p := ⟨w.heap.size + 1, 0, none⟩) (World.block_lt_of_cell? _ _ C2.out)).trans C2.out)
      have n3_ := Aside0.mk (HB.out.trans ((hb_).mono HB.out.size))
      clear C1 C2 HB
      have C1 := n1_
      have C2 := n2_
      have HB := n3_
      clear n1_ n2_ n3_
      clear hb_
      have hx1 := C1.out
      have hx2 := C2.out
      go_wp2_with fail
      clear hx1 hx2
      have C_ := bits_Bus.calls k5 A' (c0 - n) (l0.drop n) _ _ (Kd.C_of_reads (h1 := fun _ => rfl) (HRB.out _ (Kd.reads_of_C (Kd.C_below HR0.out HB.out)))) HCP.out HK5.out
      rw [HLD.out] at C_
      (with_reducible refine C_.mono ?_)
      clear C_
      rintro e w_ ⟨rfl, nd, hdr_⟩
      have hb_ := by_drew hdr_
      clear hdr_
      have n1_ := Aside0.mk (((hb_).cell (p := ⟨w.heap.size, 0, none⟩) (World.block_lt_of_cell? _ _ C1.out)).trans C1.out)
      have n2_ := Aside0.mk (((hb_).cell (p := ⟨w.heap.size + 1, 0, none⟩) (World.block_lt_of_cell? _ _ C2.out)).trans C2.out)
      have n3_ := Aside0.mk (HB.out.trans ((hb_).mono HB.out.size))
      clear C1 C2 HB
      have C1 := n1_
      have C2 := n2_
      have HB := n3_
      clear n1_ n2_ n3_
      clear hb_
      go_wp2_with fail
      refine (jackstaylaw01_awake.calls 60 true _ HAW.out).mono ?_
      rintro e w_ ⟨rfl, hb_⟩
      have hz := HB.out.trans (hb_.mono HB.out.size)
      clear hb_
      go_wp2
      go_ret
      exact ⟨rfl, hz⟩
    · go_enter Try.func4, Try.ntmps4
      go_wp2_with fail
      have C1 : Aside0 (((w.alloc (.cells #[.slice A0 l0.length c0] 25)).alloc (.cells #[.int .i64 (n : Int)] 3)).cell? ⟨w.heap.size, 0, none⟩ = some (.slice A0 l0.length c0)) := ⟨(blk_cell (blk_alloc (blk_new w _) _) 0).trans rfl⟩
      have C2 : Aside0 (((w.alloc (.cells #[.slice A0 l0.length c0] 25)).alloc (.cells #[.int .i64 (n : Int)] 3)).cell? ⟨w.heap.size + 1, 0, none⟩ = some (.int .i64 (n : Int))) := ⟨(blk_cell (by have := blk_new (w.alloc (.cells #[.slice A0 l0.length c0] 25)) (.cells #[.int .i64 (n : Int)] 3); rwa [World.size_alloc] at this) 0).trans rfl⟩
      have HB : Aside0 (Below w.heap.size w ((w.alloc (.cells #[.slice A0 l0.length c0] 25)).alloc (.cells #[.int .i64 (n : Int)] 3))) := ⟨below_alloc (below_alloc (Below.refl _ _) _) _⟩
      generalize ((w.alloc (.cells #[.slice A0 l0.length c0] 25)).alloc (.cells #[.int .i64 (n : Int)] 3)) = W at C1 C2 HB ⊢
      have C_ := bits_Bus.calls k1 A0 c0 l0 _ _ (Kd.C_below HR0.out HB.out) HC0.out HK1.out
      (with_reducible refine C_.mono ?_)
      clear C_
      rintro e w_ ⟨rfl, nd, hdr_⟩
      have hb_ := by_drew hdr_
      clear hdr_
      have n1_ := Aside0.mk (((hb_).cell (p := ⟨w.heap.size, 0, none⟩) (World.block_lt_of_cell? _ _ C1.out)).trans C1.out)
      have n2_ := Aside0.mk (((hb_).cell (p := ⟨w.heap.size + 1, 0, none⟩) (World.block_lt_of_cell? _ _ C2.out)).trans C2.out)
      have n3_ := Aside0.mk (HB.out.trans ((hb_).mono HB.out.size))
      clear C1 C2 HB
      have C1 := n1_
      have C2 := n2_
      have HB := n3_
      clear n1_ n2_ n3_
      clear hb_
      go_wp2_with fail
      have C_ := wire_with.calls w.heap.size (w.heap.size + 1) true A0 c0 l0 n _ C1.out C2.out (Kd.C_below HR0.out HB.out) HC0.out HN.out hl
      rw [← HL2.out] at C_
      (with_reducible refine C_.mono ?_)
      clear C_
      rintro e w_ ⟨v2, rfl, h2, hb_⟩
      obtain ⟨A2, c2, e2⟩ := Kd.R_slice h2
      subst e2
      have HO2 := Aside0.mk h2
      clear h2
      have n1_ := Aside0.mk (((hb_).cell (p := ⟨w.heap.size, 0, none⟩) (World.block_lt_of_cell? _ _ C1.out)).trans C1.out)
      have n2_ := Aside0.mk (((hb_).cell (p := ⟨w.heap.size + 1, 0, none⟩) (World.block_lt_of_cell? _ _ C2.out)).trans C2.out)
      have n3_ := Aside0.mk (HB.out.trans ((hb_).mono HB.out.size))
      clear C1 C2 HB
      have C1 := n1_
      have C2 := n2_
      have HB := n3_
      clear n1_ n2_ n3_
      clear hb_
      go_wp2_with fail
      have C_ := bits_Bus.calls k2 A2 c2 _ _ _ (Kd.R_reads' HO2.out).2.2 (Kd.R_reads' HO2.out).2.1 HK2.out
      (with_reducible refine C_.mono ?_)
      clear C_
      rintro e w_ ⟨rfl, nd, hdr_⟩
      have hb_ := by_drew hdr_
      clear hdr_
      have n1_ := Aside0.mk (((hb_).cell (p := ⟨w.heap.size, 0, none⟩) (World.block_lt_of_cell? _ _ C1.out)).trans C1.out)
      have n2_ := Aside0.mk (((hb_).cell (p := ⟨w.heap.size + 1, 0, none⟩) (World.block_lt_of_cell? _ _ C2.out)).trans C2.out)
      have n3_ := Aside0.mk (HB.out.trans ((hb_).mono HB.out.size))
      clear C1 C2 HB
      have C1 := n1_
      have C2 := n2_
      have HB := n3_
      clear n1_ n2_ n3_
      clear hb_
      go_wp2_with fail
      have C_ := wire_with.calls w.heap.size (w.heap.size + 1) false A0 c0 l0 n _ C1.out C2.out (Kd.C_below HR0.out HB.out) HC0.out HN.out hl
      rw [← HL3.out] at C_
      (with_reducible refine C_.mono ?_)
      clear C_
      rintro e w_ ⟨v3, rfl, h3, hb_⟩
      obtain ⟨A3, c3, e3⟩ := Kd.R_slice h3
      subst e3
      have HO3 := Aside0.mk h3
      clear h3
      have n1_ := Aside0.mk (((hb_).cell (p := ⟨w.heap.size, 0, none⟩) (World.block_lt_of_cell? _ _ C1.out)).trans C1.out)
      have n2_ := Aside0.mk (((hb_).cell (p := ⟨w.heap.size + 1, 0, none⟩) (World.block_lt_of_cell? _ _ C2.out)).trans C2.out)
      have n3_ := Aside0.mk (HB.out.trans ((hb_).mono HB.out.size))
      clear C1 C2 HB
      have C1 := n1_
      have C2 := n2_
      have HB := n3_
      clear n1_ n2_ n3_
      clear hb_
      go_wp2_with fail
      have C_ := bits_Bus.calls k3 A3 c3 _ _ _ (Kd.R_reads' HO3.out).2.2 (Kd.R_reads' HO3.out).2.1 HK3.out
      (with_reducible refine C_.mono ?_)
      clear C_
      rintro e w_ ⟨rfl, nd, hdr_⟩
      have hb_ := by_drew hdr_
      clear hdr_
      have n1_ := Aside0.mk (((hb_).cell (p := ⟨w.heap.size, 0, none⟩) (World.block_lt_of_cell? _ _ C1.out)).trans C1.out)
      have n2_ := Aside0.mk (((hb_).cell (p := ⟨w.heap.size + 1, 0, none⟩) (World.block_lt_of_cell? _ _ C2.out)).trans C2.out)
      have n3_ := Aside0.mk (HB.out.trans ((hb_).mono HB.out.size))
      clear C1 C2 HB
      have C1 := n1_
      have C2 := n2_
      have HB := n3_
      clear n1_ n2_ n3_
      clear hb_
      have hx1 := C1.out
      have hx2 := C2.out
      go_wp2_with fail
      clear hx1 hx2
      have C_ := bits_Bus.calls k4 A0 c0 (l0.take n) _ _ (Kd.C_of_reads (h1 := fun _ => rfl) (HRA.out _ (Kd.reads_of_C (Kd.C_below HR0.out HB.out)))) (by rw [HLT.out]; have := HN.out; have := HC0.out; omega) HK4.out
      rw [HLT.out] at C_
      (with_reducible refine C_.mono ?_)
      clear C_
      rintro e w_ ⟨rfl, nd, hdr_⟩
      have hb_ := by_drew hdr_
      clear hdr_
      have n1_ := Aside0.mk (((hb_).cell (p := ⟨w.heap.size, 0, none⟩) (World.block_lt_of_cell? _ _ C1.out)).trans C1.out)
      have n2_ := Aside0.mk (((hb_).cell (p := ⟨w.heap.size + 1, 0, none⟩) (World.block_lt_of_cell? _ _ C2.out)).trans C2.out)
      have n3_ := Aside0.mk (HB.out.trans ((hb_).mono HB.out.size))
      clear C1 C2 HB
      have C1 := n1_
      have C2 := n2_
      have HB := n3_
      clear n1_ n2_ n3_
      clear hb_
      have hx1 := C1.out
      have hx2 := C2.out
      go_wp2_with fail
      clear hx1 hx2
      have C_ := bits_Bus.calls k5 A' (c0 - n) (l0.drop n) _ _ (Kd.C_of_reads (h1 := fun _ => rfl) (HRB.out _ (Kd.reads_of_C (Kd.C_below HR0.out HB.out)))) HCP.out HK5.out
      rw [HLD.out] at C_
      (with_reducible refine C_.mono ?_)
      clear C_
      rintro e w_ ⟨rfl, nd, hdr_⟩
      have hb_ := by_drew hdr_
      clear hdr_
      have n1_ := Aside0.mk (((hb_).cell (p := ⟨w.heap.size, 0, none⟩) (World.block_lt_of_cell? _ _ C1.out)).trans C1.out)
      have n2_ := Aside0.mk (((hb_).cell (p := ⟨w.heap.size + 1, 0, none⟩) (World.block_lt_of_cell? _ _ C2.out)).trans C2.out)
      have n3_ := Aside0.mk (HB.out.trans ((hb_).mono HB.out.size))
      clear C1 C2 HB
      have C1 := n1_
      have C2 := n2_
      have HB := n3_
      clear n1_ n2_ n3_
      clear hb_
      go_wp2_with fail
      refine (jackstaylaw01_awake.calls 60 true _ HAW.out).mono ?_
      rintro e w_ ⟨rfl, hb_⟩
      have hz := HB.out.trans (hb_.mono HB.out.size)
      clear hb_
      go_wp2
      go_ret
      exact ⟨rfl, hz⟩
  · have hd : decide (100 < (l0.length : Int)) = true := decide_eq_true (by omega)
    have hd2 : decide (100 < l0.length) = true := decide_eq_true (by omega)
    go_enter Try.func4, Try.ntmps4
    go_wp2_with fail
    refine (jackstaylaw01_awake.calls 60 true _ HAW.out).mono ?_
    rintro e w1 ⟨rfl, hb1⟩
    go_wp2
    go_ret
    exact ⟨rfl, below_then (below_alloc (Below.refl _ _) _) (below_alloc (Below.refl _ _) _).size hb1⟩
end Go.Proofs.Ytlfopdflkkkapaa.P
