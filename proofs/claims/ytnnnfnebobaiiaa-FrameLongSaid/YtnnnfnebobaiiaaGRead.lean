/- Printed by the kit and by programs of this work for the claim of aaRowFrameLong, without what the claim does not name. -/
import Derived.Test.YtnnnfnebobaiiaaPx6
import Derived.Test.YtnnnfnebobaiiaaXO
namespace Go.Proofs.Ytnnnfnebobaiiaa.P
open Go.RowKit Go.Proofs.YtnnnfnebobaiiaaW.PrintWords Go.Proofs.YtnnnfnebobaiiaaW.PrintLast Go.Proofs.YtnnnfnebobaiiaaW.PrintMore
set_option linter.unusedVariables false
set_option linter.unusedSimpArgs false
theorem infoB : (Try.prog.info? 4).map (fun i => (i.zero, i.size, i.bytes)) = some (some (.bool false), 1, 1) := by kernel_rfl
set_option maxHeartbeats 8000000 in
set_option maxRecDepth 100000 in
theorem frame_next.calls (g : Nat) (A : Option Addr) (c n : Nat) (l : List Bool) (w : World) (hb : w.heap[g]? = some (.cells #[.slice A l.length c] 160 (0, 0))) (hc : l.length ≤ c) (hn : n ≤ l.length) :
    Calls Try.prog 117 #[.pointer (some ⟨g, 0, none⟩), .int .i64 (n : Int)] w fun e w' => ∃ A', e = .returned (.slice A n c) ∧ w' = w.setCell ⟨g, 0, none⟩ (.slice A' (l.drop n).length (c - n)) ∧
      (∀ W : World, ReadsOf Value.bool false W A l.length l → ReadsOf Value.bool false W A (l.take n).length (l.take n)) ∧
      (∀ W : World, ReadsOf Value.bool false W A l.length l → ReadsOf Value.bool false W A' (l.drop n).length (l.drop n)) ∧ (l.drop n).length ≤ c - n := by
  have hu75 := Try.underlying160
  have hcz : w.cell? ⟨g, 0, none⟩ = some (.slice A l.length c) := (blk_cell hb 0).trans rfl
  have hfz := blk_frozen hb 0
  obtain ⟨i0, hi0, _, hsz, _⟩ := info_parts infoB
  obtain ⟨hcutA, hrdA, _⟩ := print_take_of (P := Try.prog) Value.bool false 26 4 .i64 Try.underlying26 hi0 hsz A c l (n : Int) (by omega) (by omega) hc
  obtain ⟨A', hcutB, hrd, hcap⟩ := print_drop_of (P := Try.prog) Value.bool false 26 4 .i64 Try.underlying26 hi0 hsz A c l (n : Int) (by omega) (by omega) hc
  rw [Int.toNat_natCast] at hcutA hrdA hcutB hrd hcap
  have hlt : (l.take n).length = n := by rw [List.length_take]; omega
  rw [hlt] at hcutA
  go_enter Try.func117, Try.ntmps117
  go_wp2
  go_ret
  exact ⟨A', by first | rfl | (simp; done), by first | rfl | (simp; done), hrdA, hrd, hcap⟩
def frameAt (W : World) (g : Nat) (A0 : Option Addr) (l0 : List Bool) (p : Nat) : Prop := ∃ A c, W.heap[g]? = some (.cells #[.slice A (l0.drop p).length c] 160 (0, 0)) ∧ (l0.drop p).length ≤ c ∧ ∀ W' : World, ReadsOf Value.bool false W' A0 l0.length l0 → ReadsOf Value.bool false W' A (l0.drop p).length (l0.drop p)
theorem frame_next.at {W : World} {g : Nat} {A0 : Option Addr} {l0 : List Bool} {p : Nat} (n : Nat) (h : frameAt W g A0 l0 p) (hn : p + n ≤ l0.length) :
    Calls Try.prog 117 #[.pointer (some ⟨g, 0, none⟩), .int .i64 (n : Int)] W fun e W' => ∃ A c, e = .returned (.slice A n c) ∧ n ≤ c ∧ ((l0.drop p).take n).length = n ∧
      (∀ W'' : World, ReadsOf Value.bool false W'' A0 l0.length l0 → ReadsOf Value.bool false W'' A ((l0.drop p).take n).length ((l0.drop p).take n)) ∧ frameAt W' g A0 l0 (p + n) ∧ ∃ v, W' = W.setCell ⟨g, 0, none⟩ v := by
  obtain ⟨A, c, hb, hc, hr⟩ := h
  have hl : (l0.drop p).length = l0.length - p := List.length_drop
  refine (frame_next.calls g A c n (l0.drop p) W hb hc (by omega)).mono ?_
  rintro e W' ⟨A', rfl, rfl, h1, h2, h3⟩
  refine ⟨A, c, rfl, by omega, by rw [List.length_take]; omega, fun W'' hw => h1 W'' (hr W'' hw), ⟨A', c - n, ?_, ?_, ?_⟩, _, rfl⟩
  · have := blk_put hb 0 (.slice A' ((l0.drop p).drop n).length (c - n)) rfl
    rw [List.drop_drop] at this
    simpa [List.drop_drop] using this
  · rw [List.drop_drop] at h3
    exact h3
  · intro W'' hw
    have := h2 W'' (hr W'' hw)
    rw [List.drop_drop] at this
    exact this
def frame_read.T7 : Bool × List (List Nat × List Nat) := (true, [([], []), ([0], [0]), ([1], [1]), ([], []), ([3], [3]), ([4, 4], [4]), ([2, 5], [2, 5]), ([0, 1, 2, 3, 4, 5, 6], []), ([7, 6, 5, 0, 1, 2, 3, 4, 5, 6], [6, 7])])
def frame_read.B7 : List Nat := [0, 1, 3, 0, 8, 24, 63, 127, 255]
theorem frame_read.tab7 : rtab .any (opsOf Try.f83 7) = frame_read.T7 := by kernel_rfl
theorem frame_read.bits7 : waitsOk frame_read.T7.2 frame_read.B7 = true := by kernel_rfl
theorem frameAt_far {W : World} {g : Nat} {A0 : Option Addr} {l0 : List Bool} {p : Nat} (h : frameAt W g A0 l0 p) {q : Addr} (hp : g ≠ q.block) (u : Value) : frameAt (W.setCell q u) g A0 l0 p := by
  obtain ⟨A, c, hb, hc, hr⟩ := h
  exact ⟨A, c, blk_far hb hp u, hc, hr⟩
theorem frameAt_below {W W1 : World} {g : Nat} {A0 : Option Addr} {l0 : List Bool} {p : Nat} (h : frameAt W g A0 l0 p) (hb : Below W.heap.size W W1) : frameAt W1 g A0 l0 p := by
  obtain ⟨A, c, hk, hc, hr⟩ := h
  exact ⟨A, c, blk_below hk hb, hc, hr⟩
theorem rd_next (l0 : List Bool) (p : Nat) (h : p < l0.length) : rdOf false ((l0.drop p).take 1) 0 = rdOf false l0 (p : Int) := by
  simp [rdOf, List.getD_eq_getElem?_getD, h]
set_option maxHeartbeats 8000000 in
set_option maxRecDepth 100000 in
theorem frame_read.ext (k : Nat) (A0 : Option Addr) (c0 : Nat) (l0 : List Bool) (w : World) (hr0 : Kd.C Kd.bool w A0 l0.length l0) (hc0 : l0.length ≤ c0) (a b d : Int) (h39 : 39 ≤ l0.length) (h13 : rdOf false l0 13 = true)
    (ha : bits_Number.f k ((l0.drop 1).take 11) = some a) (hb_ : bits_Number.f k ((l0.drop 14).take 18) = some b) (hd_ : bits_Number.f k ((l0.drop 35).take 4) = some d) :
    Calls Try.prog 83 #[.slice A0 l0.length c0] w fun e w' => ∃ v5_ : Value, e = .returned (.agg #[.int .u32 (Go.bits .or .u32 (IntKind.u32.wrap (a * 262144)) b), .bool true, .bool (rdOf false l0 32), .int .u8 (d % 256), v5_]) ∧ Kd.R (Kd.int .u8) 5 w' w.heap.size (fun _ => True) v5_ [] ∧ Below w.heap.size w w' := by
  have hu25 := Try.underlying25
  have hu75 := Try.underlying160
  have HB := Aside0.mk (Below.refl w.heap.size w)
  go_enter Try.func83, Try.ntmps83
  go_wp2_with (first | ((with_reducible refine gate_dst (N := 2) rfl ?_); refine box_event ?hg (N := 2) ?hd (cs := #[.int .u32 0, .bool false, .bool false, .int .u8 0, .slice none 0 0]) (t := 25) ?hr ?_; (case hd => rfl); (case hg => rfl); (case hr => first | (go_simp; done) | (go_simp; rfl)); intro g2 hg w2 hbox hb; have BK2 := Aside0.mk hbox; have HB2 := Aside0.mk (HB.out.trans hb); have GE2 := Aside0.mk (show w.heap.size ≤ g2 by rw [hg]; exact Nat.le_refl _); clear hbox hb hg HB) | ((with_reducible refine gate_dst (N := 7) rfl ?_); refine box_event ?hg (N := 7) ?hd (cs := #[.slice A0 l0.length c0]) (t := 160) ?hr ?_; (case hd => rfl); (case hg => rfl); (case hr => first | (go_simp; done) | (go_simp; rfl)); intro g7 hg w7 hbox hb; have BK7 := Aside0.mk hbox; have BK2b := Aside0.mk (blk_below BK2.out hb); have GE7 := Aside0.mk (show w.heap.size ≤ g7 by rw [hg]; exact HB2.out.size); have HB7 := Aside0.mk (HB2.out.trans (hb.mono HB2.out.size)); clear hbox hb hg BK2 HB2))
  have hne : g2 ≠ g7 := blk_ne BK2b.out BK7.out (by decide)
  have hat : frameAt w7 g7 A0 l0 0 := ⟨A0, c0, BK7.out, by simpa using hc0, fun W' h => by simpa using h⟩
  clear BK7
  have HB := HB7
  clear HB7
  have BK2 := BK2b
  clear BK2b
  refine (frame_next.at (n := 1) (p := 0) hat (by omega)).mono ?_
  rintro e w10 ⟨A10, c10, rfl, hc10, hl10, hr10, hat2, v10, e10⟩
  clear hat
  have hat := hat2
  clear hat2
  have n0_ := blk_far BK2.out (p := ⟨g7, 0, none⟩) hne v10
  rw [← e10] at n0_
  have n_ := Aside0.mk n0_
  clear n0_
  clear BK2
  have BK2 := n_
  clear n_
  have n_ := Aside0.mk (by rw [e10]; exact below_set HB.out GE7.out : Below w.heap.size w w10)
  clear HB
  have HB := n_
  clear n_ e10
  go_wp2_with fail
  refine (frame_next.at (n := 11) (p := 1) hat (by omega)).mono ?_
  rintro e w11 ⟨A11, c11, rfl, hc11, hl11, hr11, hat2, v11, e11⟩
  clear hat
  have hat := hat2
  clear hat2
  have n0_ := blk_far BK2.out (p := ⟨g7, 0, none⟩) hne v11
  rw [← e11] at n0_
  have n_ := Aside0.mk n0_
  clear n0_
  clear BK2
  have BK2 := n_
  clear n_
  have n_ := Aside0.mk (by rw [e11]; exact below_set HB.out GE7.out : Below w.heap.size w w11)
  clear HB
  have HB := n_
  clear n_ e11
  have C11 := bits_Number.calls k A11 c11 _ a w11 (Kd.C_of_reads (h1 := fun _ => rfl) (hr11 _ (Kd.reads_of_C (Kd.C_below hr0 HB.out)))) (by rw [hl11]; exact hc11) ha
  rw [hl11] at C11
  go_wp2_with fail
  refine C11.mono ?_
  rintro e w12 ⟨rfl, nd, rfl⟩
  have hat : frameAt (w11.drewN nd) g7 A0 l0 12 := hat
  have n_ := Aside0.mk (show (w11.drewN nd).heap[g2]? = _ from blk_drewN BK2.out nd)
  clear BK2
  have BK2 := n_
  clear n_
  have n_ := Aside0.mk (pw_below_drewN HB.out nd)
  clear HB
  have HB := n_
  clear n_
  generalize w11.drewN nd = w12 at hat BK2 HB ⊢
  go_wp2_with fail
  have hb13 : Below w12.heap.size w12 (w12.alloc (.cells #[.int .u32 a, .bool false, .bool false, .int .u8 0, .slice none 0 0] 25 (0, 0))) := below_alloc (Below.refl _ _) _
  have BK4 := Aside0.mk (blk_new w12 (.cells #[.int .u32 a, .bool false, .bool false, .int .u8 0, .slice none 0 0] 25 (0, 0)))
  have GE4 := Aside0.mk HB.out.size
  have hne4 : g2 ≠ w12.heap.size := fun h => absurd (h ▸ blk_lt BK2.out) (Nat.lt_irrefl _)
  generalize (w12.alloc (.cells #[.int .u32 a, .bool false, .bool false, .int .u8 0, .slice none 0 0] 25 (0, 0))) = w13 at hb13 BK4 ⊢
  have n_ := frameAt_below hat hb13
  clear hat
  have hat := n_
  clear n_
  have n_ := Aside0.mk (blk_below BK2.out hb13)
  clear BK2
  have BK2 := n_
  clear n_
  have n_ := Aside0.mk (HB.out.trans (hb13.mono HB.out.size))
  clear HB hb13
  have HB := n_
  clear n_
  generalize w12.heap.size = g4 at BK4 GE4 hne4 ⊢
  have hne7 : g4 ≠ g7 := (by obtain ⟨_, _, h, _⟩ := hat; exact blk_ne BK4.out h (by decide))
  refine (frame_next.at (n := 1) (p := 12) (g := g7) (A0 := A0) (l0 := l0) hat (by omega)).mono ?_
  rintro e w14 ⟨A14, c14, rfl, hc14, hl14, hr14, hat2, v14, e14⟩
  clear hat
  have hat := hat2
  clear hat2
  have n0_ := blk_far BK2.out (p := ⟨g7, 0, none⟩) hne v14
  rw [← e14] at n0_
  have n_ := Aside0.mk n0_
  clear BK2 n0_
  have BK2 := n_
  clear n_
  have n0_ := blk_far BK4.out (p := ⟨g7, 0, none⟩) hne7 v14
  rw [← e14] at n0_
  have n_ := Aside0.mk n0_
  clear BK4 n0_
  have BK4 := n_
  clear n_
  have n_ := Aside0.mk (by rw [e14]; exact below_set HB.out GE7.out : Below w.heap.size w w14)
  clear HB
  have HB := n_
  clear n_ e14
  obtain ⟨ad14, ea14, hx14⟩ := Kd.at_bool (Kd.C_of_reads (h1 := fun _ => rfl) (hr14 _ (Kd.reads_of_C (Kd.C_below hr0 HB.out)))) 0 (by decide) (by rw [hl14]; decide)
  rw [rd_next l0 12 (by omega)] at hx14
  subst ea14
  have hx14 : w14.cell? ad14 = some (.bool (rdOf false l0 12)) := by simpa [Go.Addr.add] using hx14
  have hcz14_0 : w14.cell? ⟨g4, 0, none⟩ = some (.int .u32 a) := (blk_cell BK4.out 0).trans rfl
  have hfz14_0 := blk_frozen BK4.out 0
  have hcz14_1 : w14.cell? ⟨g4, 1, none⟩ = some (.bool false) := (blk_cell BK4.out 1).trans rfl
  have hfz14_1 := blk_frozen BK4.out 1
  have hcz14_2 : w14.cell? ⟨g4, 2, none⟩ = some (.bool false) := (blk_cell BK4.out 2).trans rfl
  have hfz14_2 := blk_frozen BK4.out 2
  have hcz14_3 : w14.cell? ⟨g4, 3, none⟩ = some (.int .u8 0) := (blk_cell BK4.out 3).trans rfl
  have hfz14_3 := blk_frozen BK4.out 3
  have hcz14_4 : w14.cell? ⟨g4, 4, none⟩ = some (.slice none 0 0) := (blk_cell BK4.out 4).trans rfl
  have hfz14_4 := blk_frozen BK4.out 4
  go_wp2_with fail
  clear hcz14_0 hfz14_0 hcz14_1 hfz14_1 hcz14_2 hfz14_2 hcz14_3 hfz14_3 hcz14_4 hfz14_4
  have n0_ := Aside0.mk (blk_put (cs' := #[.int .u32 a, .bool false, .bool (rdOf false l0 12), .int .u8 0, .slice none 0 0]) BK4.out 2 (.bool (rdOf false l0 12)) rfl)
  have n1_ := Aside0.mk (blk_far BK2.out (p := ⟨g4, 2, none⟩) hne4 (.bool (rdOf false l0 12)))
  have n2_ := Aside0.mk (below_set (j := 2) (v := .bool (rdOf false l0 12)) HB.out GE4.out)
  have n3_ := frameAt_far hat (q := ⟨g4, 2, none⟩) (Ne.symm hne7) (.bool (rdOf false l0 12))
  clear BK4 BK2 HB hat
  generalize (w14.setCell ⟨g4, 2, none⟩ (.bool (rdOf false l0 12))) = w15 at n0_ n1_ n2_ n3_ ⊢
  have BK4 := n0_
  have BK2 := n1_
  have HB := n2_
  have hat := n3_
  clear n0_ n1_ n2_ n3_
  refine (frame_next.at (n := 1) (p := 13) (g := g7) (A0 := A0) (l0 := l0) hat (by omega)).mono ?_
  rintro e w16 ⟨A16, c16, rfl, hc16, hl16, hr16, hat2, v16, e16⟩
  clear hat
  have hat := hat2
  clear hat2
  have n0_ := blk_far BK2.out (p := ⟨g7, 0, none⟩) hne v16
  rw [← e16] at n0_
  have n_ := Aside0.mk n0_
  clear BK2 n0_
  have BK2 := n_
  clear n_
  have n0_ := blk_far BK4.out (p := ⟨g7, 0, none⟩) hne7 v16
  rw [← e16] at n0_
  have n_ := Aside0.mk n0_
  clear BK4 n0_
  have BK4 := n_
  clear n_
  have n_ := Aside0.mk (by rw [e16]; exact below_set HB.out GE7.out : Below w.heap.size w w16)
  clear HB
  have HB := n_
  clear n_ e16
  obtain ⟨ad16, ea16, hx16⟩ := Kd.at_bool (Kd.C_of_reads (h1 := fun _ => rfl) (hr16 _ (Kd.reads_of_C (Kd.C_below hr0 HB.out)))) 0 (by decide) (by rw [hl16]; decide)
  rw [rd_next l0 13 (by omega)] at hx16
  subst ea16
  have hx16 : w16.cell? ad16 = some (.bool (rdOf false l0 13)) := by simpa [Go.Addr.add] using hx16
  rw [h13] at hx16
  have hcz16_0 : w16.cell? ⟨g4, 0, none⟩ = some (.int .u32 a) := (blk_cell BK4.out 0).trans rfl
  have hfz16_0 := blk_frozen BK4.out 0
  have hcz16_1 : w16.cell? ⟨g4, 1, none⟩ = some (.bool false) := (blk_cell BK4.out 1).trans rfl
  have hfz16_1 := blk_frozen BK4.out 1
  have hcz16_2 : w16.cell? ⟨g4, 2, none⟩ = some (.bool (rdOf false l0 12)) := (blk_cell BK4.out 2).trans rfl
  have hfz16_2 := blk_frozen BK4.out 2
  have hcz16_3 : w16.cell? ⟨g4, 3, none⟩ = some (.int .u8 0) := (blk_cell BK4.out 3).trans rfl
  have hfz16_3 := blk_frozen BK4.out 3
  have hcz16_4 : w16.cell? ⟨g4, 4, none⟩ = some (.slice none 0 0) := (blk_cell BK4.out 4).trans rfl
  have hfz16_4 := blk_frozen BK4.out 4
  go_wp2_with fail
  clear hcz16_0 hfz16_0 hcz16_1 hfz16_1 hcz16_2 hfz16_2 hcz16_3 hfz16_3 hcz16_4 hfz16_4
  have n0_ := Aside0.mk (blk_put (cs' := #[.int .u32 a, .bool true, .bool (rdOf false l0 12), .int .u8 0, .slice none 0 0]) BK4.out 1 (.bool true) rfl)
  have n1_ := Aside0.mk (blk_far BK2.out (p := ⟨g4, 1, none⟩) hne4 (.bool true))
  have n2_ := Aside0.mk (below_set (j := 1) (v := .bool true) HB.out GE4.out)
  have n3_ := frameAt_far hat (q := ⟨g4, 1, none⟩) (Ne.symm hne7) (.bool true)
  clear BK4 BK2 HB hat
  generalize (w16.setCell ⟨g4, 1, none⟩ (.bool true)) = w17 at n0_ n1_ n2_ n3_ ⊢
  have BK4 := n0_
  have BK2 := n1_
  have HB := n2_
  have hat := n3_
  clear n0_ n1_ n2_ n3_
  have n0_ := Aside0.mk (blk_drew BK4.out)
  have n1_ := Aside0.mk (blk_drew BK2.out)
  have n2_ := Aside0.mk (below_drew1 HB.out)
  have n3_ : frameAt w17.drew g7 A0 l0 14 := hat
  clear BK4 BK2 HB hat
  have BK4 := n0_
  have BK2 := n1_
  have HB := n2_
  have hat := n3_
  clear n0_ n1_ n2_ n3_
  refine start_ (n := 9) (S := fun w' => w'.cell? ⟨g4, 0, none⟩ = some (.int .u32 a)) (ds := [8]) #[false, false, false, false, false, false, false, false, false] (by kernel_rfl) rfl rfl ((blk_cell BK4.out 0).trans rfl) (fun hHeld => ?_)
  refine with_tabW frame_read.tab7 frame_read.bits7 (fun HT_ HW_ => ?_)
  generalize w17.drew = w18 at BK4 BK2 HB hat hHeld ⊢
  refine pure_ (i := 0) (N := some 27) (v := ?_) (a' := ?_) #[true, false, false, false, false, false, false, false, false] rfl rfl (any_of HT_.out (by kernel_rfl)) (fun _ _ _ h => h) (Or.inl ⟨by rfl, ?_⟩) ?_ ?_
  rotate_left
  · intro w'
    go_simp
    with_reducible rfl
  rotate_left
  · simp only [Act.put, List.setIfInBounds_toArray, List.set_cons_zero, List.set_cons_succ, i64_w, i32_w]
    rfl
  refine pure_ (i := 3) (N := some 30) (v := ?_) (a' := ?_) #[true, false, false, true, false, false, false, false, false] rfl rfl (any_of HT_.out (by kernel_rfl)) (fun _ _ _ h => h) (Or.inl ⟨by rfl, ?_⟩) ?_ ?_
  rotate_left
  · intro w'
    go_simp
    with_reducible rfl
  rotate_left
  · simp only [Act.put, List.setIfInBounds_toArray, List.set_cons_zero, List.set_cons_succ, i64_w, i32_w]
    rfl
  refine take_ (i := 1) (N := some 28) (v := ?_) (a' := ?_) #[true, true, false, true, false, false, false, false, false] rfl rfl (take_ofW HT_.out HW_.out (by kernel_rfl)) (fun _ _ _ h => h) (Or.inl ⟨by rfl, ?_⟩) hHeld ?_ ?_
  rotate_left
  · intro w' s0
    go_simp
    with_reducible rfl
  rotate_left
  · simp only [Act.put, List.setIfInBounds_toArray, List.set_cons_zero, List.set_cons_succ, i64_w, i32_w]
    rfl
  refine pure_ (i := 2) (N := some 29) (v := ?_) (a' := ?_) #[true, true, true, true, false, false, false, false, false] rfl rfl (any_of HT_.out (by kernel_rfl)) (fun _ _ _ h => h) (Or.inl ⟨by rfl, ?_⟩) ?_ ?_
  rotate_left
  · intro w'
    go_simp
    with_reducible rfl
  rotate_left
  · simp only [Act.put, List.setIfInBounds_toArray, List.set_cons_zero, List.set_cons_succ, i64_w, i32_w]
    rfl
  refine one_ (i := 4) (N := some 31) #[true, true, true, true, true, false, false, false, false] rfl rfl (one_of HT_.out (by kernel_rfl)) (by decide) (fun K hK => ?_)
  refine call_ 117 #[.pointer (some ⟨g7, 0, none⟩), .int .i64 18] (by rfl) rfl (by
    have he_ := enters_ (P := Try.prog) Try.func117 (by kernel_rfl) rfl #[.pointer (some ⟨g7, 0, none⟩), .int .i64 18] w18
    unfold execOp
    simp [resolve, Deferred.ofValue, invoke, Act.eval, he_]) ?_
  refine (frame_next.at (n := 18) (p := 14) (g := g7) (A0 := A0) (l0 := l0) hat (by omega)).mono ?_
  rintro e w19 ⟨A19, c19, rfl, hc19, hl19, hr19, hat2, v19, e19⟩
  refine ⟨_, rfl, ?_⟩
  clear hat
  have hat := hat2
  clear hat2
  have n0_ := blk_far BK2.out (p := ⟨g7, 0, none⟩) hne v19
  rw [← e19] at n0_
  have n_ := Aside0.mk n0_
  clear BK2 n0_
  have BK2 := n_
  clear n_
  have n0_ := blk_far BK4.out (p := ⟨g7, 0, none⟩) hne7 v19
  rw [← e19] at n0_
  have n_ := Aside0.mk n0_
  clear BK4 n0_
  have BK4 := n_
  clear n_
  have n_ := Aside0.mk (by rw [e19]; exact below_set HB.out GE7.out : Below w.heap.size w w19)
  clear HB
  have HB := n_
  clear n_ e19
  refine hK.out _ _ ((blk_cell BK4.out 0).trans rfl) (fun hHeld => ?_)
  clear hK K
  refine norm_ (a' := ?_) ?_ ?_
  rotate_left
  · show Act.put _ (some 31) _ = _
    simp only [Act.put, List.setIfInBounds_toArray, List.set_cons_zero, List.set_cons_succ, i64_w, i32_w]
    rfl
  have C19 := bits_Number.calls k A19 c19 _ b w19 (Kd.C_of_reads (h1 := fun _ => rfl) (hr19 _ (Kd.reads_of_C (Kd.C_below hr0 HB.out)))) (by rw [hl19]; exact hc19) hb_
  rw [hl19] at C19
  refine one_ (i := 5) (N := some 32) #[true, true, true, true, true, true, false, false, false] rfl rfl (one_of HT_.out (by kernel_rfl)) (by decide) (fun K hK => ?_)
  refine goes_ Try.func118 (by kernel_rfl) rfl #[.slice A19 18 c19] (by rfl) rfl rfl (by (try simp only [List.map_toArray, List.map_cons, List.map_nil]); first | done | rfl) ?_
  refine C19.mono ?_
  rintro e w20 ⟨rfl, nd2, rfl⟩
  refine ⟨_, rfl, ?_⟩
  have hat : frameAt (w19.drewN nd2) g7 A0 l0 32 := hat
  have n0_ := Aside0.mk (show (w19.drewN nd2).heap[g2]? = _ from blk_drewN BK2.out nd2)
  have n1_ := Aside0.mk (show (w19.drewN nd2).heap[g4]? = _ from blk_drewN BK4.out nd2)
  have n2_ := Aside0.mk (pw_below_drewN HB.out nd2)
  clear BK2 BK4 HB
  have BK2 := n0_
  have BK4 := n1_
  have HB := n2_
  clear n0_ n1_ n2_
  generalize w19.drewN nd2 = w20 at hat BK2 BK4 HB ⊢
  refine hK.out _ _ ((blk_cell BK4.out 0).trans rfl) (fun hHeld => ?_)
  clear hK K
  refine norm_ (a' := ?_) ?_ ?_
  rotate_left
  · show Act.put _ (some 32) _ = _
    simp only [Act.put, List.setIfInBounds_toArray, List.set_cons_zero, List.set_cons_succ, i64_w, i32_w]
    rfl
  refine pure_ (i := 6) (N := some 33) (v := ?_) (a' := ?_) #[true, true, true, true, true, true, true, false, false] rfl rfl (any_of HT_.out (by kernel_rfl)) (fun _ _ _ h => h) (Or.inl ⟨by rfl, ?_⟩) ?_ ?_
  rotate_left
  · intro w'
    go_simp
    with_reducible rfl
  rotate_left
  · simp only [Act.put, List.setIfInBounds_toArray, List.set_cons_zero, List.set_cons_succ, i64_w, i32_w]
    rfl
  refine pure_ (i := 7) (N := some 34) (v := ?_) (a' := ?_) #[true, true, true, true, true, true, true, true, false] rfl rfl (any_of HT_.out (by kernel_rfl)) (fun _ _ _ h => h) (Or.inl ⟨by rfl, ?_⟩) ?_ ?_
  rotate_left
  · intro w'
    go_simp
    with_reducible rfl
  rotate_left
  · simp only [Act.put, List.setIfInBounds_toArray, List.set_cons_zero, List.set_cons_succ, i64_w, i32_w]
    rfl
  refine last_ (i := 8) (N := none) #[true, true, true, true, true, true, true, true, true] rfl rfl (one_of HT_.out (by kernel_rfl)) (by decide) (fun K hK => ?_)
  have hcz20_0 : w20.cell? ⟨g4, 0, none⟩ = some (.int .u32 a) := (blk_cell BK4.out 0).trans rfl
  have hfz20_0 := blk_frozen BK4.out 0
  have hcz20_1 : w20.cell? ⟨g4, 1, none⟩ = some (.bool true) := (blk_cell BK4.out 1).trans rfl
  have hfz20_1 := blk_frozen BK4.out 1
  have hcz20_2 : w20.cell? ⟨g4, 2, none⟩ = some (.bool (rdOf false l0 12)) := (blk_cell BK4.out 2).trans rfl
  have hfz20_2 := blk_frozen BK4.out 2
  have hcz20_3 : w20.cell? ⟨g4, 3, none⟩ = some (.int .u8 0) := (blk_cell BK4.out 3).trans rfl
  have hfz20_3 := blk_frozen BK4.out 3
  have hcz20_4 : w20.cell? ⟨g4, 4, none⟩ = some (.slice none 0 0) := (blk_cell BK4.out 4).trans rfl
  have hfz20_4 := blk_frozen BK4.out 4
  refine skip_ (w1 := ?_) (by rfl) rfl ?_ ?_
  rotate_left
  · go_simp
    rfl
  refine hK.out _ _ ?_
  clear hK K
  refine done_ (done_of HT_.out (by kernel_rfl)) ?_
  clear hcz20_0 hfz20_0 hcz20_1 hfz20_1 hcz20_2 hfz20_2 hcz20_3 hfz20_3 hcz20_4 hfz20_4
  have n0_ := Aside0.mk (blk_put (cs' := #[.int .u32 (Go.bits .or .u32 (IntKind.u32.wrap (a * 262144)) b), .bool true, .bool (rdOf false l0 12), .int .u8 0, .slice none 0 0]) BK4.out 0 (.int .u32 (Go.bits .or .u32 (IntKind.u32.wrap (a * 262144)) b)) rfl)
  have n1_ := Aside0.mk (blk_far BK2.out (p := ⟨g4, 0, none⟩) hne4 (.int .u32 (Go.bits .or .u32 (IntKind.u32.wrap (a * 262144)) b)))
  have n2_ := Aside0.mk (below_set (j := 0) (v := .int .u32 (Go.bits .or .u32 (IntKind.u32.wrap (a * 262144)) b)) HB.out GE4.out)
  have n3_ := frameAt_far hat (q := ⟨g4, 0, none⟩) (Ne.symm hne7) (.int .u32 (Go.bits .or .u32 (IntKind.u32.wrap (a * 262144)) b))
  clear BK4 BK2 HB hat
  generalize (w20.setCell ⟨g4, 0, none⟩ (.int .u32 (Go.bits .or .u32 (IntKind.u32.wrap (a * 262144)) b))) = w21 at n0_ n1_ n2_ n3_ ⊢
  have BK4 := n0_
  have BK2 := n1_
  have HB := n2_
  have hat := n3_
  clear n0_ n1_ n2_ n3_
  simp only [Exit.inBlock, Exit.then]
  go_wp2_with fail
  refine (frame_next.at (n := 1) (p := 32) (g := g7) (A0 := A0) (l0 := l0) hat (by omega)).mono ?_
  rintro e w22 ⟨A22, c22, rfl, hc22, hl22, hr22, hat2, v22, e22⟩
  clear hat
  have hat := hat2
  clear hat2
  have n0_ := blk_far BK2.out (p := ⟨g7, 0, none⟩) hne v22
  rw [← e22] at n0_
  have n_ := Aside0.mk n0_
  clear BK2 n0_
  have BK2 := n_
  clear n_
  have n0_ := blk_far BK4.out (p := ⟨g7, 0, none⟩) hne7 v22
  rw [← e22] at n0_
  have n_ := Aside0.mk n0_
  clear BK4 n0_
  have BK4 := n_
  clear n_
  have n_ := Aside0.mk (by rw [e22]; exact below_set HB.out GE7.out : Below w.heap.size w w22)
  clear HB
  have HB := n_
  clear n_ e22
  obtain ⟨ad22, ea22, hx22⟩ := Kd.at_bool (Kd.C_of_reads (h1 := fun _ => rfl) (hr22 _ (Kd.reads_of_C (Kd.C_below hr0 HB.out)))) 0 (by decide) (by rw [hl22]; decide)
  rw [rd_next l0 32 (by omega)] at hx22
  subst ea22
  have hx22 : w22.cell? ad22 = some (.bool (rdOf false l0 32)) := by simpa [Go.Addr.add] using hx22
  have hcz22_0 : w22.cell? ⟨g4, 0, none⟩ = some (.int .u32 (Go.bits .or .u32 (IntKind.u32.wrap (a * 262144)) b)) := (blk_cell BK4.out 0).trans rfl
  have hfz22_0 := blk_frozen BK4.out 0
  have hcz22_1 : w22.cell? ⟨g4, 1, none⟩ = some (.bool true) := (blk_cell BK4.out 1).trans rfl
  have hfz22_1 := blk_frozen BK4.out 1
  have hcz22_2 : w22.cell? ⟨g4, 2, none⟩ = some (.bool (rdOf false l0 12)) := (blk_cell BK4.out 2).trans rfl
  have hfz22_2 := blk_frozen BK4.out 2
  have hcz22_3 : w22.cell? ⟨g4, 3, none⟩ = some (.int .u8 0) := (blk_cell BK4.out 3).trans rfl
  have hfz22_3 := blk_frozen BK4.out 3
  have hcz22_4 : w22.cell? ⟨g4, 4, none⟩ = some (.slice none 0 0) := (blk_cell BK4.out 4).trans rfl
  have hfz22_4 := blk_frozen BK4.out 4
  go_wp2_with fail
  clear hcz22_0 hfz22_0 hcz22_1 hfz22_1 hcz22_2 hfz22_2 hcz22_3 hfz22_3 hcz22_4 hfz22_4
  have n0_ := Aside0.mk (blk_put (cs' := #[.int .u32 (Go.bits .or .u32 (IntKind.u32.wrap (a * 262144)) b), .bool true, .bool (rdOf false l0 32), .int .u8 0, .slice none 0 0]) BK4.out 2 (.bool (rdOf false l0 32)) rfl)
  have n1_ := Aside0.mk (blk_far BK2.out (p := ⟨g4, 2, none⟩) hne4 (.bool (rdOf false l0 32)))
  have n2_ := Aside0.mk (below_set (j := 2) (v := .bool (rdOf false l0 32)) HB.out GE4.out)
  have n3_ := frameAt_far hat (q := ⟨g4, 2, none⟩) (Ne.symm hne7) (.bool (rdOf false l0 32))
  clear BK4 BK2 HB hat
  generalize (w22.setCell ⟨g4, 2, none⟩ (.bool (rdOf false l0 32))) = w23 at n0_ n1_ n2_ n3_ ⊢
  have BK4 := n0_
  have BK2 := n1_
  have HB := n2_
  have hat := n3_
  clear n0_ n1_ n2_ n3_
  refine (frame_next.at (n := 1) (p := 33) (g := g7) (A0 := A0) (l0 := l0) hat (by omega)).mono ?_
  rintro e w24 ⟨A24, c24, rfl, hc24, hl24, hr24, hat2, v24, e24⟩
  clear hat
  have hat := hat2
  clear hat2
  have n0_ := blk_far BK2.out (p := ⟨g7, 0, none⟩) hne v24
  rw [← e24] at n0_
  have n_ := Aside0.mk n0_
  clear BK2 n0_
  have BK2 := n_
  clear n_
  have n0_ := blk_far BK4.out (p := ⟨g7, 0, none⟩) hne7 v24
  rw [← e24] at n0_
  have n_ := Aside0.mk n0_
  clear BK4 n0_
  have BK4 := n_
  clear n_
  have n_ := Aside0.mk (by rw [e24]; exact below_set HB.out GE7.out : Below w.heap.size w w24)
  clear HB
  have HB := n_
  clear n_ e24
  go_wp2_with fail
  refine (frame_next.at (n := 1) (p := 34) (g := g7) (A0 := A0) (l0 := l0) hat (by omega)).mono ?_
  rintro e w25 ⟨A25, c25, rfl, hc25, hl25, hr25, hat2, v25, e25⟩
  clear hat
  have hat := hat2
  clear hat2
  have n0_ := blk_far BK2.out (p := ⟨g7, 0, none⟩) hne v25
  rw [← e25] at n0_
  have n_ := Aside0.mk n0_
  clear BK2 n0_
  have BK2 := n_
  clear n_
  have n0_ := blk_far BK4.out (p := ⟨g7, 0, none⟩) hne7 v25
  rw [← e25] at n0_
  have n_ := Aside0.mk n0_
  clear BK4 n0_
  have BK4 := n_
  clear n_
  have n_ := Aside0.mk (by rw [e25]; exact below_set HB.out GE7.out : Below w.heap.size w w25)
  clear HB
  have HB := n_
  clear n_ e25
  go_wp2_with fail
  refine (frame_next.at (n := 4) (p := 35) (g := g7) (A0 := A0) (l0 := l0) hat (by omega)).mono ?_
  rintro e w26 ⟨A26, c26, rfl, hc26, hl26, hr26, hat2, v26, e26⟩
  clear hat
  have hat := hat2
  clear hat2
  have n0_ := blk_far BK2.out (p := ⟨g7, 0, none⟩) hne v26
  rw [← e26] at n0_
  have n_ := Aside0.mk n0_
  clear BK2 n0_
  have BK2 := n_
  clear n_
  have n0_ := blk_far BK4.out (p := ⟨g7, 0, none⟩) hne7 v26
  rw [← e26] at n0_
  have n_ := Aside0.mk n0_
  clear BK4 n0_
  have BK4 := n_
  clear n_
  have n_ := Aside0.mk (by rw [e26]; exact below_set HB.out GE7.out : Below w.heap.size w w26)
  clear HB
  have HB := n_
  clear n_ e26
  have C26 := bits_Number.calls k A26 c26 _ d w26 (Kd.C_of_reads (h1 := fun _ => rfl) (hr26 _ (Kd.reads_of_C (Kd.C_below hr0 HB.out)))) (by rw [hl26]; exact hc26) hd_
  rw [hl26] at C26
  go_wp2_with fail
  refine C26.mono ?_
  rintro e w27 ⟨rfl, nd3, rfl⟩
  have hat : frameAt (w26.drewN nd3) g7 A0 l0 39 := hat
  have n0_ := Aside0.mk (show (w26.drewN nd3).heap[g2]? = _ from blk_drewN BK2.out nd3)
  have n1_ := Aside0.mk (show (w26.drewN nd3).heap[g4]? = _ from blk_drewN BK4.out nd3)
  have n2_ := Aside0.mk (pw_below_drewN HB.out nd3)
  clear BK2 BK4 HB
  have BK2 := n0_
  have BK4 := n1_
  have HB := n2_
  clear n0_ n1_ n2_
  generalize w26.drewN nd3 = w27 at hat BK2 BK4 HB ⊢
  have hcz27_0 : w27.cell? ⟨g4, 0, none⟩ = some (.int .u32 (Go.bits .or .u32 (IntKind.u32.wrap (a * 262144)) b)) := (blk_cell BK4.out 0).trans rfl
  have hfz27_0 := blk_frozen BK4.out 0
  have hcz27_1 : w27.cell? ⟨g4, 1, none⟩ = some (.bool true) := (blk_cell BK4.out 1).trans rfl
  have hfz27_1 := blk_frozen BK4.out 1
  have hcz27_2 : w27.cell? ⟨g4, 2, none⟩ = some (.bool (rdOf false l0 32)) := (blk_cell BK4.out 2).trans rfl
  have hfz27_2 := blk_frozen BK4.out 2
  have hcz27_3 : w27.cell? ⟨g4, 3, none⟩ = some (.int .u8 0) := (blk_cell BK4.out 3).trans rfl
  have hfz27_3 := blk_frozen BK4.out 3
  have hcz27_4 : w27.cell? ⟨g4, 4, none⟩ = some (.slice none 0 0) := (blk_cell BK4.out 4).trans rfl
  have hfz27_4 := blk_frozen BK4.out 4
  have hcz28_0 : w27.cell? ⟨g2, 0, none⟩ = some (.int .u32 0) := (blk_cell BK2.out 0).trans rfl
  have hfz28_0 := blk_frozen BK2.out 0
  have hcz28_1 : w27.cell? ⟨g2, 1, none⟩ = some (.bool false) := (blk_cell BK2.out 1).trans rfl
  have hfz28_1 := blk_frozen BK2.out 1
  have hcz28_2 : w27.cell? ⟨g2, 2, none⟩ = some (.bool false) := (blk_cell BK2.out 2).trans rfl
  have hfz28_2 := blk_frozen BK2.out 2
  have hcz28_3 : w27.cell? ⟨g2, 3, none⟩ = some (.int .u8 0) := (blk_cell BK2.out 3).trans rfl
  have hfz28_3 := blk_frozen BK2.out 3
  have hcz28_4 : w27.cell? ⟨g2, 4, none⟩ = some (.slice none 0 0) := (blk_cell BK2.out 4).trans rfl
  have hfz28_4 := blk_frozen BK2.out 4
  go_wp2_with fail
  refine bodyPost_ret (results_cell_row rfl _ _ g2 25 #[.int .u32 (Go.bits .or .u32 (IntKind.u32.wrap (a * 262144)) b), .bool true, .bool (rdOf false l0 32), .int .u8 (d % 256), .slice none 0 0] (0, 0) _ rfl (by exact blk_put (blk_put (blk_put (blk_put (blk_put (blk_far BK2.out hne4 _) 0 _ rfl) 1 _ rfl) 2 _ rfl) 3 _ rfl) 4 _ rfl) Try.underlying25 rfl (by kernel_rfl)) rfl ?_
  exact ⟨_, rfl, Kd.R_nil _ _ _ _ _, by repeat (first | (with_reducible exact HB.out) | (with_reducible refine below_set ?_ GE2.out) | (with_reducible refine below_set ?_ GE4.out) | exact HB.out)⟩
set_option maxHeartbeats 8000000 in
set_option maxRecDepth 100000 in
theorem frame_read.base (k : Nat) (A0 : Option Addr) (c0 : Nat) (l0 : List Bool) (w : World) (hr0 : Kd.C Kd.bool w A0 l0.length l0) (hc0 : l0.length ≤ c0) (a d : Int) (h19 : 19 ≤ l0.length) (h13 : rdOf false l0 13 = false)
    (ha : bits_Number.f k ((l0.drop 1).take 11) = some a) (hd_ : bits_Number.f k ((l0.drop 15).take 4) = some d) :
    Calls Try.prog 83 #[.slice A0 l0.length c0] w fun e w' => ∃ v5_ : Value, e = .returned (.agg #[.int .u32 a, .bool false, .bool (rdOf false l0 12), .int .u8 (d % 256), v5_]) ∧ Kd.R (Kd.int .u8) 5 w' w.heap.size (fun _ => True) v5_ [] ∧ Below w.heap.size w w' := by
  have hu25 := Try.underlying25
  have hu75 := Try.underlying160
  have HB := Aside0.mk (Below.refl w.heap.size w)
  go_enter Try.func83, Try.ntmps83
  go_wp2_with (first | ((with_reducible refine gate_dst (N := 2) rfl ?_); refine box_event ?hg (N := 2) ?hd (cs := #[.int .u32 0, .bool false, .bool false, .int .u8 0, .slice none 0 0]) (t := 25) ?hr ?_; (case hd => rfl); (case hg => rfl); (case hr => first | (go_simp; done) | (go_simp; rfl)); intro g2 hg w2 hbox hb; have BK2 := Aside0.mk hbox; have HB2 := Aside0.mk (HB.out.trans hb); have GE2 := Aside0.mk (show w.heap.size ≤ g2 by rw [hg]; exact Nat.le_refl _); clear hbox hb hg HB) | ((with_reducible refine gate_dst (N := 7) rfl ?_); refine box_event ?hg (N := 7) ?hd (cs := #[.slice A0 l0.length c0]) (t := 160) ?hr ?_; (case hd => rfl); (case hg => rfl); (case hr => first | (go_simp; done) | (go_simp; rfl)); intro g7 hg w7 hbox hb; have BK7 := Aside0.mk hbox; have BK2b := Aside0.mk (blk_below BK2.out hb); have GE7 := Aside0.mk (show w.heap.size ≤ g7 by rw [hg]; exact HB2.out.size); have HB7 := Aside0.mk (HB2.out.trans (hb.mono HB2.out.size)); clear hbox hb hg BK2 HB2))
  have hne : g2 ≠ g7 := blk_ne BK2b.out BK7.out (by decide)
  have hat : frameAt w7 g7 A0 l0 0 := ⟨A0, c0, BK7.out, by simpa using hc0, fun W' h => by simpa using h⟩
  clear BK7
  have HB := HB7
  clear HB7
  have BK2 := BK2b
  clear BK2b
  refine (frame_next.at (n := 1) (p := 0) hat (by omega)).mono ?_
  rintro e w10 ⟨A10, c10, rfl, hc10, hl10, hr10, hat2, v10, e10⟩
  clear hat
  have hat := hat2
  clear hat2
  have n0_ := blk_far BK2.out (p := ⟨g7, 0, none⟩) hne v10
  rw [← e10] at n0_
  have n_ := Aside0.mk n0_
  clear n0_
  clear BK2
  have BK2 := n_
  clear n_
  have n_ := Aside0.mk (by rw [e10]; exact below_set HB.out GE7.out : Below w.heap.size w w10)
  clear HB
  have HB := n_
  clear n_ e10
  go_wp2_with fail
  refine (frame_next.at (n := 11) (p := 1) hat (by omega)).mono ?_
  rintro e w11 ⟨A11, c11, rfl, hc11, hl11, hr11, hat2, v11, e11⟩
  clear hat
  have hat := hat2
  clear hat2
  have n0_ := blk_far BK2.out (p := ⟨g7, 0, none⟩) hne v11
  rw [← e11] at n0_
  have n_ := Aside0.mk n0_
  clear n0_
  clear BK2
  have BK2 := n_
  clear n_
  have n_ := Aside0.mk (by rw [e11]; exact below_set HB.out GE7.out : Below w.heap.size w w11)
  clear HB
  have HB := n_
  clear n_ e11
  have C11 := bits_Number.calls k A11 c11 _ a w11 (Kd.C_of_reads (h1 := fun _ => rfl) (hr11 _ (Kd.reads_of_C (Kd.C_below hr0 HB.out)))) (by rw [hl11]; exact hc11) ha
  rw [hl11] at C11
  go_wp2_with fail
  refine C11.mono ?_
  rintro e w12 ⟨rfl, nd, rfl⟩
  have hat : frameAt (w11.drewN nd) g7 A0 l0 12 := hat
  have n_ := Aside0.mk (show (w11.drewN nd).heap[g2]? = _ from blk_drewN BK2.out nd)
  clear BK2
  have BK2 := n_
  clear n_
  have n_ := Aside0.mk (pw_below_drewN HB.out nd)
  clear HB
  have HB := n_
  clear n_
  generalize w11.drewN nd = w12 at hat BK2 HB ⊢
  go_wp2_with fail
  have hb13 : Below w12.heap.size w12 (w12.alloc (.cells #[.int .u32 a, .bool false, .bool false, .int .u8 0, .slice none 0 0] 25 (0, 0))) := below_alloc (Below.refl _ _) _
  have BK4 := Aside0.mk (blk_new w12 (.cells #[.int .u32 a, .bool false, .bool false, .int .u8 0, .slice none 0 0] 25 (0, 0)))
  have GE4 := Aside0.mk HB.out.size
  have hne4 : g2 ≠ w12.heap.size := fun h => absurd (h ▸ blk_lt BK2.out) (Nat.lt_irrefl _)
  generalize (w12.alloc (.cells #[.int .u32 a, .bool false, .bool false, .int .u8 0, .slice none 0 0] 25 (0, 0))) = w13 at hb13 BK4 ⊢
  have n_ := frameAt_below hat hb13
  clear hat
  have hat := n_
  clear n_
  have n_ := Aside0.mk (blk_below BK2.out hb13)
  clear BK2
  have BK2 := n_
  clear n_
  have n_ := Aside0.mk (HB.out.trans (hb13.mono HB.out.size))
  clear HB hb13
  have HB := n_
  clear n_
  generalize w12.heap.size = g4 at BK4 GE4 hne4 ⊢
  have hne7 : g4 ≠ g7 := (by obtain ⟨_, _, h, _⟩ := hat; exact blk_ne BK4.out h (by decide))
  refine (frame_next.at (n := 1) (p := 12) (g := g7) (A0 := A0) (l0 := l0) hat (by omega)).mono ?_
  rintro e w14 ⟨A14, c14, rfl, hc14, hl14, hr14, hat2, v14, e14⟩
  clear hat
  have hat := hat2
  clear hat2
  have n0_ := blk_far BK2.out (p := ⟨g7, 0, none⟩) hne v14
  rw [← e14] at n0_
  have n_ := Aside0.mk n0_
  clear BK2 n0_
  have BK2 := n_
  clear n_
  have n0_ := blk_far BK4.out (p := ⟨g7, 0, none⟩) hne7 v14
  rw [← e14] at n0_
  have n_ := Aside0.mk n0_
  clear BK4 n0_
  have BK4 := n_
  clear n_
  have n_ := Aside0.mk (by rw [e14]; exact below_set HB.out GE7.out : Below w.heap.size w w14)
  clear HB
  have HB := n_
  clear n_ e14
  obtain ⟨ad14, ea14, hx14⟩ := Kd.at_bool (Kd.C_of_reads (h1 := fun _ => rfl) (hr14 _ (Kd.reads_of_C (Kd.C_below hr0 HB.out)))) 0 (by decide) (by rw [hl14]; decide)
  rw [rd_next l0 12 (by omega)] at hx14
  subst ea14
  have hx14 : w14.cell? ad14 = some (.bool (rdOf false l0 12)) := by simpa [Go.Addr.add] using hx14
  have hcz14_0 : w14.cell? ⟨g4, 0, none⟩ = some (.int .u32 a) := (blk_cell BK4.out 0).trans rfl
  have hfz14_0 := blk_frozen BK4.out 0
  have hcz14_1 : w14.cell? ⟨g4, 1, none⟩ = some (.bool false) := (blk_cell BK4.out 1).trans rfl
  have hfz14_1 := blk_frozen BK4.out 1
  have hcz14_2 : w14.cell? ⟨g4, 2, none⟩ = some (.bool false) := (blk_cell BK4.out 2).trans rfl
  have hfz14_2 := blk_frozen BK4.out 2
  have hcz14_3 : w14.cell? ⟨g4, 3, none⟩ = some (.int .u8 0) := (blk_cell BK4.out 3).trans rfl
  have hfz14_3 := blk_frozen BK4.out 3
  have hcz14_4 : w14.cell? ⟨g4, 4, none⟩ = some (.slice none 0 0) := (blk_cell BK4.out 4).trans rfl
  have hfz14_4 := blk_frozen BK4.out 4
  go_wp2_with fail
  clear hcz14_0 hfz14_0 hcz14_1 hfz14_1 hcz14_2 hfz14_2 hcz14_3 hfz14_3 hcz14_4 hfz14_4
  have n0_ := Aside0.mk (blk_put (cs' := #[.int .u32 a, .bool false, .bool (rdOf false l0 12), .int .u8 0, .slice none 0 0]) BK4.out 2 (.bool (rdOf false l0 12)) rfl)
  have n1_ := Aside0.mk (blk_far BK2.out (p := ⟨g4, 2, none⟩) hne4 (.bool (rdOf false l0 12)))
  have n2_ := Aside0.mk (below_set (j := 2) (v := .bool (rdOf false l0 12)) HB.out GE4.out)
  have n3_ := frameAt_far hat (q := ⟨g4, 2, none⟩) (Ne.symm hne7) (.bool (rdOf false l0 12))
  clear BK4 BK2 HB hat
  generalize (w14.setCell ⟨g4, 2, none⟩ (.bool (rdOf false l0 12))) = w15 at n0_ n1_ n2_ n3_ ⊢
  have BK4 := n0_
  have BK2 := n1_
  have HB := n2_
  have hat := n3_
  clear n0_ n1_ n2_ n3_
  refine (frame_next.at (n := 1) (p := 13) (g := g7) (A0 := A0) (l0 := l0) hat (by omega)).mono ?_
  rintro e w16 ⟨A16, c16, rfl, hc16, hl16, hr16, hat2, v16, e16⟩
  clear hat
  have hat := hat2
  clear hat2
  have n0_ := blk_far BK2.out (p := ⟨g7, 0, none⟩) hne v16
  rw [← e16] at n0_
  have n_ := Aside0.mk n0_
  clear BK2 n0_
  have BK2 := n_
  clear n_
  have n0_ := blk_far BK4.out (p := ⟨g7, 0, none⟩) hne7 v16
  rw [← e16] at n0_
  have n_ := Aside0.mk n0_
  clear BK4 n0_
  have BK4 := n_
  clear n_
  have n_ := Aside0.mk (by rw [e16]; exact below_set HB.out GE7.out : Below w.heap.size w w16)
  clear HB
  have HB := n_
  clear n_ e16
  obtain ⟨ad16, ea16, hx16⟩ := Kd.at_bool (Kd.C_of_reads (h1 := fun _ => rfl) (hr16 _ (Kd.reads_of_C (Kd.C_below hr0 HB.out)))) 0 (by decide) (by rw [hl16]; decide)
  rw [rd_next l0 13 (by omega)] at hx16
  subst ea16
  have hx16 : w16.cell? ad16 = some (.bool (rdOf false l0 13)) := by simpa [Go.Addr.add] using hx16
  rw [h13] at hx16
  have hcz16_0 : w16.cell? ⟨g4, 0, none⟩ = some (.int .u32 a) := (blk_cell BK4.out 0).trans rfl
  have hfz16_0 := blk_frozen BK4.out 0
  have hcz16_1 : w16.cell? ⟨g4, 1, none⟩ = some (.bool false) := (blk_cell BK4.out 1).trans rfl
  have hfz16_1 := blk_frozen BK4.out 1
  have hcz16_2 : w16.cell? ⟨g4, 2, none⟩ = some (.bool (rdOf false l0 12)) := (blk_cell BK4.out 2).trans rfl
  have hfz16_2 := blk_frozen BK4.out 2
  have hcz16_3 : w16.cell? ⟨g4, 3, none⟩ = some (.int .u8 0) := (blk_cell BK4.out 3).trans rfl
  have hfz16_3 := blk_frozen BK4.out 3
  have hcz16_4 : w16.cell? ⟨g4, 4, none⟩ = some (.slice none 0 0) := (blk_cell BK4.out 4).trans rfl
  have hfz16_4 := blk_frozen BK4.out 4
  go_wp2_with fail
  clear hcz16_0 hfz16_0 hcz16_1 hfz16_1 hcz16_2 hfz16_2 hcz16_3 hfz16_3 hcz16_4 hfz16_4
  have n0_ := Aside0.mk (blk_put (cs' := #[.int .u32 a, .bool false, .bool (rdOf false l0 12), .int .u8 0, .slice none 0 0]) BK4.out 1 (.bool false) rfl)
  have n1_ := Aside0.mk (blk_far BK2.out (p := ⟨g4, 1, none⟩) hne4 (.bool false))
  have n2_ := Aside0.mk (below_set (j := 1) (v := .bool false) HB.out GE4.out)
  have n3_ := frameAt_far hat (q := ⟨g4, 1, none⟩) (Ne.symm hne7) (.bool false)
  clear BK4 BK2 HB hat
  generalize (w16.setCell ⟨g4, 1, none⟩ (.bool false)) = w17 at n0_ n1_ n2_ n3_ ⊢
  have BK4 := n0_
  have BK2 := n1_
  have HB := n2_
  have hat := n3_
  clear n0_ n1_ n2_ n3_
  refine (frame_next.at (n := 1) (p := 14) (g := g7) (A0 := A0) (l0 := l0) hat (by omega)).mono ?_
  rintro e w25 ⟨A25, c25, rfl, hc25, hl25, hr25, hat2, v25, e25⟩
  clear hat
  have hat := hat2
  clear hat2
  have n0_ := blk_far BK2.out (p := ⟨g7, 0, none⟩) hne v25
  rw [← e25] at n0_
  have n_ := Aside0.mk n0_
  clear BK2 n0_
  have BK2 := n_
  clear n_
  have n0_ := blk_far BK4.out (p := ⟨g7, 0, none⟩) hne7 v25
  rw [← e25] at n0_
  have n_ := Aside0.mk n0_
  clear BK4 n0_
  have BK4 := n_
  clear n_
  have n_ := Aside0.mk (by rw [e25]; exact below_set HB.out GE7.out : Below w.heap.size w w25)
  clear HB
  have HB := n_
  clear n_ e25
  go_wp2_with fail
  refine (frame_next.at (n := 4) (p := 15) (g := g7) (A0 := A0) (l0 := l0) hat (by omega)).mono ?_
  rintro e w26 ⟨A26, c26, rfl, hc26, hl26, hr26, hat2, v26, e26⟩
  clear hat
  have hat := hat2
  clear hat2
  have n0_ := blk_far BK2.out (p := ⟨g7, 0, none⟩) hne v26
  rw [← e26] at n0_
  have n_ := Aside0.mk n0_
  clear BK2 n0_
  have BK2 := n_
  clear n_
  have n0_ := blk_far BK4.out (p := ⟨g7, 0, none⟩) hne7 v26
  rw [← e26] at n0_
  have n_ := Aside0.mk n0_
  clear BK4 n0_
  have BK4 := n_
  clear n_
  have n_ := Aside0.mk (by rw [e26]; exact below_set HB.out GE7.out : Below w.heap.size w w26)
  clear HB
  have HB := n_
  clear n_ e26
  have C26 := bits_Number.calls k A26 c26 _ d w26 (Kd.C_of_reads (h1 := fun _ => rfl) (hr26 _ (Kd.reads_of_C (Kd.C_below hr0 HB.out)))) (by rw [hl26]; exact hc26) hd_
  rw [hl26] at C26
  go_wp2_with fail
  refine C26.mono ?_
  rintro e w27 ⟨rfl, nd3, rfl⟩
  have hat : frameAt (w26.drewN nd3) g7 A0 l0 19 := hat
  have n0_ := Aside0.mk (show (w26.drewN nd3).heap[g2]? = _ from blk_drewN BK2.out nd3)
  have n1_ := Aside0.mk (show (w26.drewN nd3).heap[g4]? = _ from blk_drewN BK4.out nd3)
  have n2_ := Aside0.mk (pw_below_drewN HB.out nd3)
  clear BK2 BK4 HB
  have BK2 := n0_
  have BK4 := n1_
  have HB := n2_
  clear n0_ n1_ n2_
  generalize w26.drewN nd3 = w27 at hat BK2 BK4 HB ⊢
  have hcz27_0 : w27.cell? ⟨g4, 0, none⟩ = some (.int .u32 a) := (blk_cell BK4.out 0).trans rfl
  have hfz27_0 := blk_frozen BK4.out 0
  have hcz27_1 : w27.cell? ⟨g4, 1, none⟩ = some (.bool false) := (blk_cell BK4.out 1).trans rfl
  have hfz27_1 := blk_frozen BK4.out 1
  have hcz27_2 : w27.cell? ⟨g4, 2, none⟩ = some (.bool (rdOf false l0 12)) := (blk_cell BK4.out 2).trans rfl
  have hfz27_2 := blk_frozen BK4.out 2
  have hcz27_3 : w27.cell? ⟨g4, 3, none⟩ = some (.int .u8 0) := (blk_cell BK4.out 3).trans rfl
  have hfz27_3 := blk_frozen BK4.out 3
  have hcz27_4 : w27.cell? ⟨g4, 4, none⟩ = some (.slice none 0 0) := (blk_cell BK4.out 4).trans rfl
  have hfz27_4 := blk_frozen BK4.out 4
  have hcz28_0 : w27.cell? ⟨g2, 0, none⟩ = some (.int .u32 0) := (blk_cell BK2.out 0).trans rfl
  have hfz28_0 := blk_frozen BK2.out 0
  have hcz28_1 : w27.cell? ⟨g2, 1, none⟩ = some (.bool false) := (blk_cell BK2.out 1).trans rfl
  have hfz28_1 := blk_frozen BK2.out 1
  have hcz28_2 : w27.cell? ⟨g2, 2, none⟩ = some (.bool false) := (blk_cell BK2.out 2).trans rfl
  have hfz28_2 := blk_frozen BK2.out 2
  have hcz28_3 : w27.cell? ⟨g2, 3, none⟩ = some (.int .u8 0) := (blk_cell BK2.out 3).trans rfl
  have hfz28_3 := blk_frozen BK2.out 3
  have hcz28_4 : w27.cell? ⟨g2, 4, none⟩ = some (.slice none 0 0) := (blk_cell BK2.out 4).trans rfl
  have hfz28_4 := blk_frozen BK2.out 4
  go_wp2_with fail
  refine bodyPost_ret (results_cell_row rfl _ _ g2 25 #[.int .u32 a, .bool false, .bool (rdOf false l0 12), .int .u8 (d % 256), .slice none 0 0] (0, 0) _ rfl (by exact blk_put (blk_put (blk_put (blk_put (blk_put (blk_far BK2.out hne4 _) 0 _ rfl) 1 _ rfl) 2 _ rfl) 3 _ rfl) 4 _ rfl) Try.underlying25 rfl (by kernel_rfl)) rfl ?_
  exact ⟨_, rfl, Kd.R_nil _ _ _ _ _, by repeat (first | (with_reducible exact HB.out) | (with_reducible refine below_set ?_ GE2.out) | (with_reducible refine below_set ?_ GE4.out) | exact HB.out)⟩
def frame_read.f (k : Nat) (l0 : List Bool) : Option (Int × Bool × Bool × Int × List Int) :=
  if rdOf false l0 13 = true then (if 39 ≤ l0.length then ((bits_Number.f k ((l0.drop 1).take 11)).bind fun a => ((bits_Number.f k ((l0.drop 14).take 18)).bind fun b => ((bits_Number.f k ((l0.drop 35).take 4)).bind fun d =>
    (some (Go.bits .or .u32 (IntKind.u32.wrap (a * 262144)) b, true, rdOf false l0 32, d % 256, ([] : List Int)))))) else none)
  else (if 19 ≤ l0.length then ((bits_Number.f k ((l0.drop 1).take 11)).bind fun a => ((bits_Number.f k ((l0.drop 15).take 4)).bind fun d => (some (a, false, rdOf false l0 12, d % 256, ([] : List Int))))) else none)
theorem frame_read.mono : ∀ a0 k, LeO (frame_read.f k a0) (frame_read.f (k + 1) a0) := by
  intro a0 k
  unfold frame_read.f
  repeat' first
      | (with_reducible exact bits_Number.mono _ _)
      | (with_reducible exact LeO.refl _)
      | (with_reducible refine LeO.ite ?_ ?_)
      | (with_reducible refine LeO.bind ?_ (fun _ => ?_))
      | exact bits_Number.mono _ _
      | exact LeO.none _
      | refine LeO.ite ?_ ?_
      | refine LeO.bind ?_ (fun _ => ?_)
theorem frame_read.calls (k : Nat) (A0 : Option Addr) (c0 : Nat) (l0 : List Bool) (r1 : Int) (r2 : Bool) (r3 : Bool) (r4 : Int) (r5 : List Int) (w : World) (hr0 : Kd.C Kd.bool w A0 l0.length l0) (hc0 : l0.length ≤ c0) (h : frame_read.f k l0 = some (r1, r2, r3, r4, r5)) :
    Calls Try.prog 83 #[.slice A0 l0.length c0] w fun e w' => ∃ v4_ : Value, e = .returned (.agg #[.int .u32 r1, .bool r2, .bool r3, .int .u8 r4, v4_]) ∧ Kd.R (Kd.int .u8) 5 w' w.heap.size (fun _ => True) v4_ r5 ∧ Below w.heap.size w w' := by
  unfold frame_read.f at h
  by_cases h13 : rdOf false l0 13 = true
  · rw [if_pos h13] at h
    by_cases h39 : 39 ≤ l0.length
    · rw [if_pos h39] at h
      obtain ⟨a, ha, h⟩ := Option.bind_eq_some_iff.mp h
      obtain ⟨b, hb, h⟩ := Option.bind_eq_some_iff.mp h
      obtain ⟨d, hd, h⟩ := Option.bind_eq_some_iff.mp h
      simp only [Option.some.injEq, Prod.mk.injEq] at h
      obtain ⟨rfl, rfl, rfl, rfl, rfl⟩ := h
      exact frame_read.ext k A0 c0 l0 w hr0 hc0 a b d h39 h13 ha hb hd
    · rw [if_neg h39] at h
      cases h
  · rw [if_neg h13] at h
    by_cases h19 : 19 ≤ l0.length
    · rw [if_pos h19] at h
      obtain ⟨a, ha, h⟩ := Option.bind_eq_some_iff.mp h
      obtain ⟨d, hd, h⟩ := Option.bind_eq_some_iff.mp h
      simp only [Option.some.injEq, Prod.mk.injEq] at h
      obtain ⟨rfl, rfl, rfl, rfl, rfl⟩ := h
      exact frame_read.base k A0 c0 l0 w hr0 hc0 a d h19 (by simpa using h13) ha hd
    · rw [if_neg h19] at h
      cases h
end Go.Proofs.Ytnnnfnebobaiiaa.P
