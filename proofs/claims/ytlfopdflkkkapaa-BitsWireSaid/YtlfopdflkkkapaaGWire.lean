/- One more that drives recessive changes nothing; one more that drives dominant makes the bus dominant: the law's own walk. The function in it holds the bits and the place. -/
import Derived.Test.YtlfopdflkkkapaaPx1
import Derived.Test.YtlfopdflkkkapaaSB
import Derived.Test.YtlfopdflkkkapaaGAnew
namespace Go.Proofs.Ytlfopdflkkkapaa.P
open Go.RowKit Go.Proofs.YtlfopdflkkkapaaW.PrintWords Go.Proofs.YtlfopdflkkkapaaW.PrintLast Go.Proofs.YtlfopdflkkkapaaW.PrintMore
set_option linter.unusedVariables false
set_option linter.unusedSimpArgs false
theorem infoB : (Try.prog.info? 4).map (fun i => (i.zero, i.size, i.bytes)) = some (some (.bool false), 1, 1) := by kernel_rfl
def wire_with.T1 : Bool × List (List Nat × List Nat) := (true, [([], []), ([], []), ([0, 1], [0, 1]), ([2], [2]), ([], []), ([4], [4]), ([3, 5, 3], [3, 5]), ([], []), ([], []), ([7, 8], [7, 8]), ([6, 9, 6], [6, 9]), ([10, 10, 0, 1, 2, 3, 4, 5, 6, 7, 8, 9, 10], [10])])
def wire_with.B1 : List Nat := [0, 0, 3, 7, 0, 16, 63, 0, 0, 384, 1023, 2047]
theorem wire_with.tab1 : rtab .any (opsOf Try.f12 1) = wire_with.T1 := by kernel_rfl
set_option maxHeartbeats 8000000 in
set_option maxRecDepth 100000 in
theorem wire_with.calls (g1 g2 : Nat) (x : Bool) (A0 : Option Addr) (c0 : Nat) (l0 : List Bool) (n : Nat) (w : World) (hb1 : w.cell? ⟨g1, 0, none⟩ = some (.slice A0 l0.length c0)) (hb2 : w.cell? ⟨g2, 0, none⟩ = some (.int .i64 (n : Int)))
    (hr0 : Kd.C Kd.bool w A0 l0.length l0) (hc0 : l0.length ≤ c0) (hn : n ≤ l0.length) (hl : l0.length ≤ 100) :
    Calls Try.prog 12 #[.bool x, .pointer (some ⟨g1, 0, none⟩), .pointer (some ⟨g2, 0, none⟩)] w fun e w' => ∃ v0_ : Value, e = .returned v0_ ∧ Kd.R Kd.bool 4 w' w.heap.size (fun _ => True) v0_ ((l0.take n ++ [x]) ++ l0.drop n) ∧ Below w.heap.size w w' := by
  have hu25 := Try.underlying25
  obtain ⟨i0, hi0, _, hsz, _⟩ := info_parts infoB
  obtain ⟨hcutA, hrdA, _⟩ := print_take_of (P := Try.prog) Value.bool false 25 4 .i64 Try.underlying25 hi0 hsz A0 c0 l0 (n : Int) (by omega) (by omega) hc0
  obtain ⟨A', hcutB, hrd, hcap⟩ := print_drop_of (P := Try.prog) Value.bool false 25 4 .i64 Try.underlying25 hi0 hsz A0 c0 l0 (n : Int) (by omega) (by omega) hc0
  rw [Int.toNat_natCast] at hcutA hrdA hcutB hrd hcap
  have hlt : (l0.take n).length = n := by rw [List.length_take]; omega
  have HR0 := Aside0.mk hr0
  have HRA := Aside0.mk hrdA
  have HRB := Aside0.mk hrd
  have HCP := Aside0.mk hcap
  have HLT := Aside0.mk hlt
  clear hr0 hrdA hrd hcap hlt
  have HB := Aside0.mk (Below.refl w.heap.size w)
  have hg1 : g1 < w.heap.size := World.block_lt_of_cell? w _ hb1
  have hg2 : g2 < w.heap.size := World.block_lt_of_cell? w _ hb2
  go_enter Try.func12, Try.ntmps12
  go_wp2_with fail
  refine start_ (n := 12) (S := fun w' => w'.cell? ⟨g1, 0, none⟩ = some (.slice A0 l0.length c0) ∧ w'.cell? ⟨g2, 0, none⟩ = some (.int .i64 (n : Int))) (ds := []) #[false, false, false, false, false, false, false, false, false, false, false, false] (by kernel_rfl) rfl rfl ⟨hb1, hb2⟩ (fun hHeld => ?_)
  refine with_tab wire_with.tab1 (fun HT_ => ?_)
  refine take_ (i := 0) (N := some 5) (v := ?_) (a' := ?_) #[true, false, false, false, false, false, false, false, false, false, false, false] rfl rfl (take_of HT_.out (by kernel_rfl)) (fun _ _ _ h => h) (Or.inl ⟨by rfl, ?_⟩) hHeld ?_ ?_
  rotate_left
  · intro w' s0
    obtain ⟨s1, s2⟩ := s0
    go_simp
    with_reducible rfl
  rotate_left
  · simp only [Act.put, List.setIfInBounds_toArray, List.set_cons_zero, List.set_cons_succ, i64_w, i32_w]
    rfl
  refine take_ (i := 1) (N := some 6) (v := ?_) (a' := ?_) #[true, true, false, false, false, false, false, false, false, false, false, false] rfl rfl (take_of HT_.out (by kernel_rfl)) (fun _ _ _ h => h) (Or.inl ⟨by rfl, ?_⟩) hHeld ?_ ?_
  rotate_left
  · intro w' s0
    obtain ⟨s1, s2⟩ := s0
    go_simp
    with_reducible rfl
  rotate_left
  · simp only [Act.put, List.setIfInBounds_toArray, List.set_cons_zero, List.set_cons_succ, i64_w, i32_w]
    rfl
  refine pure_ (i := 2) (N := some 7) (v := ?_) (a' := ?_) #[true, true, true, false, false, false, false, false, false, false, false, false] rfl rfl (any_of HT_.out (by kernel_rfl)) (fun _ _ _ h => h) (Or.inl ⟨by rfl, ?_⟩) ?_ ?_
  rotate_left
  · intro w'
    go_simp
    with_reducible rfl
  rotate_left
  · simp only [Act.put, List.setIfInBounds_toArray, List.set_cons_zero, List.set_cons_succ, i64_w, i32_w]
    rfl
  refine take_ (i := 7) (N := some 12) (v := ?_) (a' := ?_) #[true, true, true, false, false, false, false, true, false, false, false, false] rfl rfl (take_of HT_.out (by kernel_rfl)) (fun _ _ _ h => h) (Or.inl ⟨by rfl, ?_⟩) hHeld ?_ ?_
  rotate_left
  · intro w' s0
    obtain ⟨s1, s2⟩ := s0
    go_simp
    with_reducible rfl
  rotate_left
  · simp only [Act.put, List.setIfInBounds_toArray, List.set_cons_zero, List.set_cons_succ, i64_w, i32_w]
    rfl
  refine take_ (i := 8) (N := some 13) (v := ?_) (a' := ?_) #[true, true, true, false, false, false, false, true, true, false, false, false] rfl rfl (take_of HT_.out (by kernel_rfl)) (fun _ _ _ h => h) (Or.inl ⟨by rfl, ?_⟩) hHeld ?_ ?_
  rotate_left
  · intro w' s0
    obtain ⟨s1, s2⟩ := s0
    go_simp
    with_reducible rfl
  rotate_left
  · simp only [Act.put, List.setIfInBounds_toArray, List.set_cons_zero, List.set_cons_succ, i64_w, i32_w]
    rfl
  refine pure_ (i := 9) (N := some 14) (v := ?_) (a' := ?_) #[true, true, true, false, false, false, false, true, true, true, false, false] rfl rfl (any_of HT_.out (by kernel_rfl)) (fun _ _ _ h => h) (Or.inl ⟨by rfl, ?_⟩) ?_ ?_
  rotate_left
  · intro w'
    go_simp
    with_reducible rfl
  rotate_left
  · simp only [Act.put, List.setIfInBounds_toArray, List.set_cons_zero, List.set_cons_succ, i64_w, i32_w]
    rfl
  refine pure_ (i := 4) (N := some 9) (v := ?_) (a' := ?_) #[true, true, true, false, true, false, false, true, true, true, false, false] rfl rfl (any_of HT_.out (by kernel_rfl)) (fun _ _ _ h => h) (Or.inl ⟨by rfl, ?_⟩) ?_ ?_
  rotate_left
  · intro w'
    go_simp
    with_reducible rfl
  rotate_left
  · simp only [Act.put, List.setIfInBounds_toArray, List.set_cons_zero, List.set_cons_succ, i64_w, i32_w]
    rfl
  have HB1 : Below w.heap.size w w.drew := below_drew (Below.refl w.heap.size w)
  generalize w.drew = w1 at HB1 hHeld ⊢
  have hS : ∀ W', Below w.heap.size w W' → W'.cell? ⟨g1, 0, none⟩ = some (.slice A0 l0.length c0) ∧ W'.cell? ⟨g2, 0, none⟩ = some (.int .i64 (n : Int)) := fun W' h => ⟨(h.cell (p := ⟨g1, 0, none⟩) hg1).trans hb1, (h.cell (p := ⟨g2, 0, none⟩) hg2).trans hb2⟩
  have HS := Aside0.mk hS
  have HX1 := Aside0.mk HB1
  clear hS hb1 hb2
  have hAn : Aside0 (jackstaylow_Anew.f (l0.take n) = some (l0.take n)) := ⟨by unfold jackstaylow_Anew.f; rw [if_pos (by rw [HLT.out]; omega)]⟩
  refine join_ (σ := Value × Value) 3 #[true, true, true, true, true, true, false, true, true, true, false, false] (fun s => [(8, s.1), (10, s.2)]) (fun s w' => Kd.R Kd.bool 4 w' w.heap.size (fun _ => True) s.1 (l0.take n) ∧ Kd.R Kd.bool 4 w' w.heap.size (fun _ => True) s.2 [x] ∧ Below w.heap.size w w') ?_ (fun hc_ => ?_)
  · rintro ⟨v8, v10⟩ w3 ⟨h8, h10, hb3⟩
    obtain ⟨A10, c10, e10⟩ := Kd.R_slice h10
    subst e10
    refine norm_ (a' := ?_) ?_ ?_
    rotate_left
    · show Act.put (Act.put _ (some 8) v8) (some 10) _ = _
      simp only [Act.put, List.setIfInBounds_toArray, List.set_cons_zero, List.set_cons_succ, i64_w, i32_w]
      rfl
    refine one_ (i := 6) (N := some 11) #[true, true, true, true, true, true, true, true, true, true, false, false] rfl rfl (one_of HT_.out (by kernel_rfl)) (by decide) (fun K hK => ?_)
    refine Kd.R_append_rows_step Kd.bool (Rr := Kd.bool.K w3) (w0 := w) w.heap.size (by rfl) (.tmp 8) (.tmp 10) 25 4 (.bool false) 1 rfl hu25 infoB rfl (by decide) (by decide) v8 (l0.take n) [x] A10 1 c10 (fun _ => True) (fun _ => False) rfl rfl h8 (Kd.R_reads' h10).2.2 (fun _ _ h => h) (fun _ h => h.elim) (fun _ _ => trivial) hb3 hb3.size (by rw [HLT.out]; omega) ?_
    intro v11 w4 h11 hb4 _ _
    refine hK.out _ _ (HS.out _ hb4) (fun hHeld => ?_)
    clear hK K h8 h10
    refine norm_ (a' := ?_) ?_ ?_
    rotate_left
    · show Act.put _ (some 11) _ = _
      simp only [Act.put, List.setIfInBounds_toArray, List.set_cons_zero, List.set_cons_succ, i64_w, i32_w]
      rfl
    refine one_ (i := 10) (N := some 15) #[true, true, true, true, true, true, true, true, true, true, true, false] rfl rfl (one_of HT_.out (by kernel_rfl)) (by decide) (fun K hK => ?_)
    refine Kd.R_append_rows_step Kd.bool (Rr := Kd.bool.K w4) (w0 := w) w.heap.size (by rfl) (.tmp 11) (.tmp 14) 25 4 (.bool false) 1 rfl hu25 infoB rfl (by decide) (by decide) v11 (l0.take n ++ [x]) (l0.drop n) A' (l0.length - n) (c0 - n) (fun _ => True) (fun _ => False) rfl rfl h11 (by have q_ := Kd.C_of_reads (h1 := fun _ => rfl) (HRB.out _ (Kd.reads_of_C (Kd.C_below HR0.out hb4))); rw [List.length_drop] at q_; exact q_) (fun _ _ h => h) (fun _ h => h.elim) (fun _ _ => trivial) hb4 hb4.size (by rw [List.length_append, HLT.out, List.length_singleton]; omega) ?_
    intro v15 w5 h15 hb5 _ _
    refine hK.out _ _ (HS.out _ hb5) (fun hHeld => ?_)
    clear hK K h11
    refine norm_ (a' := ?_) ?_ ?_
    rotate_left
    · show Act.put _ (some 15) _ = _
      simp only [Act.put, List.setIfInBounds_toArray, List.set_cons_zero, List.set_cons_succ, i64_w, i32_w]
      rfl
    refine pure_ (i := 11) (N := some 4) (v := ?_) (a' := ?_) #[true, true, true, true, true, true, true, true, true, true, true, true] rfl rfl (any_of HT_.out (by kernel_rfl)) (fun _ _ _ h => h) (Or.inl ⟨by rfl, ?_⟩) ?_ ?_
    rotate_left
    · intro w'
      go_simp
      with_reducible rfl
    rotate_left
    · simp only [Act.put, List.setIfInBounds_toArray, List.set_cons_zero, List.set_cons_succ, i64_w, i32_w]
      rfl
    refine done_ (done_of HT_.out (by kernel_rfl)) ?_
    simp only [Exit.inBlock, Exit.then]
    go_wp2_with fail
    go_ret
    exact ⟨v15, rfl, h15, hb5⟩
  · refine two_ (i := 3) (j := 5) (Ni := some 8) (Nj := some 10) #[true, true, true, true, true, false, false, true, true, true, false, false] #[true, true, true, false, true, true, false, true, true, true, false, false] rfl rfl rfl rfl (two_of HT_.out (by kernel_rfl)) (by decide) (by decide) (fun K hK => ?_) (fun K hK => ?_)
    · have C_ := jackstaylow_Anew.calls A0 c0 (l0.take n) (l0.take n) w1 (Kd.C_of_reads (h1 := fun _ => rfl) (HRA.out _ (Kd.reads_of_C (Kd.C_below HR0.out HX1.out)))) (by rw [HLT.out]; omega) hAn.out
      rw [HLT.out] at C_
      refine goes_ Try.func10 (by kernel_rfl) rfl #[.slice A0 n c0] (by rfl) rfl rfl (by (try simp only [List.map_toArray, List.map_cons, List.map_nil]); first | done | rfl) ?_
      refine C_.mono ?_
      rintro e w2 ⟨v8, rfl, h8, hb8⟩
      refine ⟨_, rfl, ?_⟩
      have hq2 : Below w.heap.size w w2 := below_then HB1 HB1.size hb8
      refine hK.out _ _ (HS.out _ hq2) (fun hHeld => ?_)
      clear hK K
      refine one_ (i := 5) (N := some 10) #[true, true, true, true, true, true, false, true, true, true, false, false] rfl rfl (one_of HT_.out (by kernel_rfl)) (by decide) (fun K hK => ?_)
      refine Kd.R_lit_step Kd.bool (w0 := w) w.heap.size 4 (by rfl) (N := 10) rfl (xs := [x]) (inner := [.bool x]) (ok := fun _ => True) (okp := fun _ => True) ?hr (Reps.one (show Kd.M Kd.bool _ _ _ x [.bool x] from rfl) (Reps.none _ _)) (fun _ hk => hk) trivial hq2 hq2.size (by simp) ?_
      case hr => first | (go_simp; done) | (go_simp; rfl)
      intro v10 w3 h10 hq3 hgr_ _
      refine hK.out _ _ (HS.out _ hq3) (fun hHeld => ?_)
      exact hc_ (v8, v10) w3 ⟨Kd.R_grown (Kd.R_lower h8 HB1.size) hgr_ (fun k _ => by simp), h10, hq3⟩
    · refine Kd.R_lit_step Kd.bool (w0 := w) w.heap.size 4 (by rfl) (N := 10) rfl (xs := [x]) (inner := [.bool x]) (ok := fun _ => True) (okp := fun _ => True) ?hr (Reps.one (show Kd.M Kd.bool _ _ _ x [.bool x] from rfl) (Reps.none _ _)) (fun _ hk => hk) trivial HB1 HB1.size (by simp) ?_
      case hr => first | (go_simp; done) | (go_simp; rfl)
      intro v10 w2 h10 hq2 hgr_ _
      refine hK.out _ _ (HS.out _ hq2) (fun hHeld => ?_)
      clear hK K
      have HX2 := Aside0.mk hq2
      refine one_ (i := 3) (N := some 8) #[true, true, true, true, true, true, false, true, true, true, false, false] rfl rfl (one_of HT_.out (by kernel_rfl)) (by decide) (fun K hK => ?_)
      have C_ := jackstaylow_Anew.calls A0 c0 (l0.take n) (l0.take n) w2 (Kd.C_of_reads (h1 := fun _ => rfl) (HRA.out _ (Kd.reads_of_C (Kd.C_below HR0.out HX2.out)))) (by rw [HLT.out]; omega) hAn.out
      rw [HLT.out] at C_
      refine goes_ Try.func10 (by kernel_rfl) rfl #[.slice A0 n c0] (by rfl) rfl rfl (by (try simp only [List.map_toArray, List.map_cons, List.map_nil]); first | done | rfl) ?_
      refine C_.mono ?_
      rintro e w3 ⟨v8, rfl, h8, hb8⟩
      refine ⟨_, rfl, ?_⟩
      have hq3 : Below w.heap.size w w3 := below_then hq2 hq2.size hb8
      refine hK.out _ _ (HS.out _ hq3) (fun hHeld => ?_)
      exact norm_ (by rfl) (hc_ (v8, v10) w3 ⟨Kd.R_lower h8 hq2.size, Kd.R_below h10 hb8, hq3⟩)
end Go.Proofs.Ytlfopdflkkkapaa.P
