/- Printed by the kit and by programs of this work for the claim of aaRowFrameLong, without what the claim does not name. -/
import Derived.RangeFuncNested
import Derived.RangeFuncFrom
import Derived.RangeFuncBound
import Derived.RangeFuncCalls
import Derived.RangeFuncLeaves
import Derived.Shelf.Abstract
import Derived.WalkKit
import Derived.OwnWalkIn
import Derived.TacticsInMore
import Derived.LoopNIn
import Derived.LoopIn
import Derived.Test.YtnnnfnebobaiiaaPx6
import Derived.Test.YtnnnfnebobaiiaaXO
namespace Go.Proofs.Ytnnnfnebobaiiaa.P
open Go.RowKit Go.Shelf Go.Proofs.YtnnnfnebobaiiaaW.PrintWords Go.Proofs.YtnnnfnebobaiiaaW.PrintLast Go.Proofs.YtnnnfnebobaiiaaW.PrintMore
attribute [local go_sem] Oper.semAt_some
set_option linter.unusedVariables false
def crcNext (s : Int) (b : Bool) : Int := (crc_Next.f s b).getD 0
theorem crcNext_some (s : Int) (b : Bool) : crc_Next.f s b = some (crcNext s b) := by
  unfold crcNext crc_Next.f
  split <;> rfl
def crcAll : Int → List Bool → List Int
  | _, [] => []
  | s, b :: l => crcNext s b :: crcAll (crcNext s b) l
def crcSum (l : List Bool) : Int := l.foldl crcNext 0
def crc_Sum.f (l0 : List Bool) : Option Int := some (crcSum l0)
theorem crcAll_length : ∀ (l : List Bool) (s : Int), (crcAll s l).length = l.length
  | [], _ => rfl
  | b :: l, s => by simp [crcAll, crcAll_length l]
theorem crcAll_snoc (l : List Bool) (b : Bool) : ∀ s, crcAll s (l ++ [b]) = crcAll s l ++ [crcNext (l.foldl crcNext s) b] := by
  induction l with
  | nil => intro s; rfl
  | cons x l ih => intro s; simp [crcAll, ih]
theorem crcAll_prefix (l m : List Bool) : ∀ s, crcAll s l <+: crcAll s (l ++ m) := by
  induction l with
  | nil => intro s; exact List.nil_prefix
  | cons x l ih => intro s; simpa [crcAll] using ih (crcNext s x)
theorem crc_last : ∀ (l : List Bool) (s : Int), (crcAll s l).getLastD s = l.foldl crcNext s
  | [], _ => rfl
  | b :: l, s => by
    show (crcNext s b :: crcAll (crcNext s b) l).getLastD s = l.foldl crcNext (crcNext s b)
    rw [← crc_last l (crcNext s b)]
    simp [List.getLastD]
    cases crcAll (crcNext s b) l <;> simp
set_option maxRecDepth 100000 in
set_option maxHeartbeats 1000000 in
theorem crcsums_in (n : Nat) (hn : 1 ≤ n) (lp Bs n₀ : Nat) (A : Option Addr) (c : Nat) (l : List Bool) (J Jx : List Int → World → Prop)
    (hY : ∀ pre x W, J pre W → pre.length < l.length → YieldAt .wide (n - 1) Try.prog lp #[.int .u16 x] W fun e W' =>
      (e = .returned (.bool true) ∧ J (pre ++ [x]) W' ∧ Below n₀ W W') ∨ (e = .returned (.bool false) ∧ Jx (pre ++ [x]) W'))
    (W : World) (hJ : AbidesFrom W.heap.size J) (hBs : W.cell? ⟨Bs, 0, none⟩ = some (.slice A l.length c)) (hr : Kd.C Kd.bool W A l.length l)
    (hlow : ∀ W', Below n₀ W W' → Kd.C Kd.bool W' A l.length l) (h0 : J [] W) :
    CallsIn .wide n Try.prog 144 #[.func (.yield lp) #[] #[], .pointer (some ⟨Bs, 0, none⟩)] W fun e W' => (∃ v, e = .returned v) ∧
      ((∃ ys, ys = crcAll 0 l ∧ J ys W') ∨ (∃ pre, pre <+: crcAll 0 l ∧ Jx pre W')) := by
  have HL := Aside0.mk (Kd.C_max hr)
  refine callsIn_of_wp Try.func144 rfl trivial ?_ rfl
  simp only [Try.ntmps144, List.size_toArray, List.length_cons, List.length_nil, Nat.reduceAdd, Nat.reduceSub, Array.replicate_succ, Array.replicate_zero, List.push_toArray, List.append_toArray, List.nil_append, List.cons_append]
  gi_wp2
  gi_loopw [3, 8] (fun s i wr => ∃ k : Nat, k ≤ l.length ∧ i = .int .i64 k ∧ s = .int .u16 ((l.take k).foldl crcNext 0) ∧ J (crcAll 0 (l.take k)) wr ∧ Below n₀ W wr)
    (fun _ i _ => l.length - (intOf i).toNat)
  case atStart => exact ⟨0, Nat.zero_le _, rfl, rfl, h0, Below.refl _ _⟩
  case round =>
    obtain ⟨k, hk, rfl, rfl, hJs, hnx⟩ := hrel
    by_cases hlt : k < l.length
    · have ht : l.take (k + 1) = l.take k ++ [l[k]] := (List.take_append_getElem hlt).symm
      obtain ⟨ad, e, hx⟩ := Kd.at_bool (hlow wr hnx) (k : Int) (by omega) (by omega)
      cases e
      have HT := Aside0.mk ht
      clear ht
      have hrd : rdOf false l (k : Int) = l[k] := by simp [rdOf, List.getD_eq_getElem?_getD, hlt]
      rw [hrd, Int.toNat_natCast] at hx
      clear hrd
      obtain ⟨x, hxe⟩ : ∃ x, x = crcNext ((l.take k).foldl crcNext 0) l[k] := ⟨_, rfl⟩
      have HX := Aside0.mk hxe
      clear hxe
      have hlen : (crcAll 0 (l.take k)).length < l.length := by rw [crcAll_length, List.length_take]; omega
      have HN : Aside0 (crc_Next.f ((l.take k).foldl crcNext 0) l[k] = some x) := ⟨by rw [HX.out]; exact crcNext_some _ _⟩
      have hkb : (k : Int) < 9223372036854775807 := by have := HL.out; omega
      have hge : W.heap.size ≤ wr.heap.size := hnx.size
      have hk1 : (l.take (k + 1)).foldl crcNext 0 = x := by rw [HT.out, List.foldl_append, HX.out]; rfl
      have hk2 : crcAll 0 (l.take (k + 1)) = crcAll 0 (l.take k) ++ [x] := by rw [HT.out, crcAll_snoc, HX.out]
      have HK1 := Aside0.mk hk1
      have HK2 := Aside0.mk hk2
      clear hk1 hk2
      gi_wp2_with (refine ⟨trivial, ?_⟩; gi_at_call 145; refine (callsIn_wide.2 (crc_Next.calls _ _ x wr HN.out)).mono ?_; rintro e w1 ⟨rfl, ⟨m, hm⟩⟩; subst hm; have hJd := hJ _ _ (wr.drewN m) none hJs (grown_of_below (pw_below_drewN (Below.refl _ _) m) none) (fun r e => by cases e); obtain ⟨fn, tmps, assign, body, hy, hR⟩ := hY _ x (wr.drewN m) hJd hlen)
      refine hR.mono ?_
      have hnd : Below n₀ W (wr.drewN m) := pw_below_drewN hnx m
      rintro e W3 (⟨rfl, hJ3, hk3⟩ | ⟨rfl, hJx3⟩)
      · have hW3 := hnd.trans hk3
        gi_wp2
        go_roundw
        case rel => exact ⟨k + 1, by omega, by simp, by rw [HK1.out], by rw [HK2.out]; exact hJ3, hW3⟩
        case measure => simp [intOf]; omega
      · gi_wp2
        refine bodyPost_ret (results_none rfl _ _ _) rfl ?_
        refine ⟨⟨_, rfl⟩, .inr ⟨_, ?_, hJx3⟩⟩
        rw [← HK2.out]
        have := crcAll_prefix (l.take (k + 1)) (l.drop (k + 1)) 0
        rwa [List.take_append_drop] at this
    · obtain rfl : k = l.length := by omega
      have HT : Aside0 (l.take l.length = l) := ⟨List.take_length⟩
      gi_wp2
      go_end0
      exact ⟨⟨_, rfl⟩, .inl ⟨_, rfl, by rw [HT.out] at hJs; exact hJs⟩⟩
theorem crcsums_stops (n : Nat) (hn : 1 ≤ n) (Bs : Nat) (A : Option Addr) (c : Nat) (l : List Bool) (w0 w : World) (hr : Kd.C Kd.bool w0 A l.length l) (hw : Below w0.heap.size w0 w) (hBs : Bs < w.heap.size)
    (hc : w.cell? ⟨Bs, 0, none⟩ = some (.slice A l.length c)) :
    SeqStopsK .wide n Try.prog 144 #[.pointer (some ⟨Bs, 0, none⟩)] (fun x : Int => #[Value.int .u16 x]) (Below w0.heap.size) (fun ys => ys = crcAll 0 l) (fun pre => pre <+: crcAll 0 l) l.length w := fun lp J Jx W hW hJ _ hY h0 => by
  have h1 : Below w0.heap.size w0 W := hw.trans (hW.mono hw.size)
  exact crcsums_in n hn lp Bs w0.heap.size A c l J Jx hY W hJ ((hW.cell (p := ⟨Bs, 0, none⟩) hBs).trans hc) (Kd.C_below hr h1) (fun W' hW' => Kd.C_below hr (h1.trans hW')) h0
set_option maxHeartbeats 1000000 in
theorem crcsums_calls (A : Option Addr) (len c : Nat) (w : World) :
    CallsIn .wide 2 Try.prog 116 #[.slice A len c] w fun e w' => e = .returned (.func (.func 144) #[] #[.pointer (some ⟨w.heap.size, 0, none⟩)]) ∧ w' = w.alloc (.cells #[.slice A len c] 26) := by
  refine callsIn_of_wp Try.func116 rfl trivial ?_ rfl
  simp only [Try.ntmps116, List.size_toArray, List.length_cons, List.length_nil, Nat.reduceAdd, Nat.reduceSub, Array.replicate_succ, Array.replicate_zero, List.push_toArray, List.append_toArray, List.nil_append, List.cons_append]
  gi_wp2
  go_ret
  exact ⟨rfl, rfl⟩
theorem box_cell {W : World} {B : Nat} {v : Value} {t : TypeId} (h : W.heap[B]? = some (.cells #[v] t (0, 0))) : W.cell? ⟨B, 0, none⟩ = some v ∧ W.frozen? ⟨B, 0, none⟩ = false := by
  constructor <;> simp [World.cell?, World.frozen?, h]
theorem box_new (W : World) (v : Value) (t : TypeId) : (W.alloc (.cells #[v] t)).cell? ⟨W.heap.size, 0, none⟩ = some v ∧ (W.alloc (.cells #[v] t)).frozen? ⟨W.heap.size, 0, none⟩ = false := box_cell (World.alloc_heap_new W _)
theorem box_kept {W : World} {a : Addr} {v : Value} (o : Obj) (h : W.cell? a = some v) : (W.alloc o).cell? a = some v := cell_kept h (World.grownBy_alloc W o none) (fun r e => by cases e)
theorem box_thawed {W : World} {a : Addr} {v : Value} (o : Obj) (h : W.cell? a = some v) (hf : W.frozen? a = false) : (W.alloc o).frozen? a = false := (frozen_kept h (World.grownBy_alloc W o none) (fun r e => by cases e)).trans hf
set_option maxRecDepth 100000 in
set_option maxHeartbeats 2000000 in
theorem crc_Sum.calls (A0 : Option Addr) (c0 : Nat) (l0 : List Bool) (r : Int) (w : World) (hr0 : Kd.C Kd.bool w A0 l0.length l0) (hc0 : l0.length ≤ c0) (h : crc_Sum.f l0 = some r) :
    Calls Try.prog 80 #[.slice A0 l0.length c0] w fun e w' => e = .returned (.int .u16 r) ∧ Below w.heap.size w w' := by
  refine (callsIn_wide (n := 3)).1 ?_
  have H := Aside0.mk (Option.some.inj h)
  clear h
  refine callsIn_of_wp_marks Try.func80 rfl trivial ?_ rfl
  simp only [Try.ntmps80, List.size_toArray, List.length_cons, List.length_nil, Nat.reduceAdd, Nat.reduceSub, Array.replicate_succ, Array.replicate_zero, List.push_toArray, List.append_toArray, List.nil_append, List.cons_append]
  gi_wp2_with (refine ⟨trivial, ?_⟩; gi_at_call 116; refine (crcsums_calls _ _ _ _).mono ?_; rintro e w' ⟨rfl, rfl⟩)
  have hs := box_new w (.int .u16 0) 36
  have hb := box_new (w.alloc (.cells #[.int .u16 0] 36)) (.slice A0 l0.length c0) 26
  rw [World.size_alloc] at hb
  have hB0 : Below w.heap.size w ((w.alloc (.cells #[.int .u16 0] 36)).alloc (.cells #[.slice A0 l0.length c0] 26)) := ((Below.refl _ w).alloc (Nat.le_refl _) _).alloc (by simp) _
  refine wpIn_rangeFunc_ownF rfl (by omega) (gf := 144) (lb := #[.pointer (some ⟨w.heap.size + 1, 0, none⟩)]) rfl trivial (enters_of Try.func144 (by kernel_rfl) rfl)
    (crcsums_stops (3 - 1) (by omega) (w.heap.size + 1) A0 c0 l0 w _ hr0 hB0 (by simp) hb.1) belowK_t (belowK_b (by simp; omega)) (Below.refl _ _) (fun _ => rfl)
    (fun pre W => (W.cell? ⟨w.heap.size, 0, none⟩ = some (.int .u16 (pre.getLastD 0)) ∧ W.frozen? ⟨w.heap.size, 0, none⟩ = false) ∧ Below w.heap.size w W)
    (fun _ _ _ => False)
    (OwnFrom.and (Own.from (fun s A B row hs hg hr => ⟨cell_kept hs.1 hg hr, (frozen_kept hs.1 hg hr).trans hs.2⟩) _) (ownFrom_below (Nat.le_refl _) (by simp; omega)))
    (fun _ _ _ _ _ hs _ _ => hs)
    ⟨⟨box_kept _ hs.1, box_thawed _ hs.1 hs.2⟩, hB0⟩
    (fun x => { tmps := #[.slice A0 l0.length c0, undef, .int .u16 0, .pointer (some ⟨w.heap.size, 0, none⟩), .int .u16 x, .slice A0 l0.length c0, .func (.func 144) #[] #[.pointer (some ⟨w.heap.size + 1, 0, none⟩)], .int .u16 x, undef, undef], defers := [] }) ?assign ?body ?done ?stop
  case assign =>
    intro l x W K hK
    gi_wp2
    exact hK
  case body =>
    rintro l pre x W ⟨⟨hc, hf⟩, hB⟩ _
    gi_wp2
    exact ⟨KeepsOthers.setCell _ _ _, (Below.refl w.heap.size W).setCell (p := ⟨w.heap.size, 0, none⟩) (Nat.le_refl _) _, ⟨by rw [show (pre ++ [x]).getLastD 0 = x by simp]; exact World.cell?_setCell_same' _ _ _ (by rw [hc]; rfl), by rw [World.frozen?_setCell]; exact hf⟩, hB.setCell (p := ⟨w.heap.size, 0, none⟩) (Nat.le_refl _) _⟩
  case done =>
    rintro D ys W hD rfl ⟨⟨hc, _⟩, hB⟩ hK
    rw [crc_last, show l0.foldl crcNext 0 = r from H.out] at hc
    gi_wp2
    refine ⟨by simp, .inl ⟨_, _, rfl, run_takeDeferred hK, ?_⟩⟩
    exact ⟨_, results_tmp rfl _ _ _, rfl, hB.trans (belowK_b (w := w) (Nat.le_refl _) W D _ _ (by simp at hD; omega) hK rfl rfl)⟩
  case stop =>
    rintro D c pre W _ _ h _
    exact h.elim
end Go.Proofs.Ytnnnfnebobaiiaa.P
