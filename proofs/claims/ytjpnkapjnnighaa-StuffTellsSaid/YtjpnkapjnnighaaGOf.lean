/- What jackstaylaw02.Of answers: of a text of single bytes, for each whether it is an 'r'. -/
import Derived.Lib.OthersKept
import Derived.WalkSmall
import Derived.LoopTactic
import Derived.Laws.RangeString
import Derived.Laws.RangeAny
import Derived.Test.YtjpnkapjnnighaaPx0
import Derived.Test.YtjpnkapjnnighaaXO
namespace Go.Proofs.Ytjpnkapjnnighaa.P
open Go.RowKit Go.Proofs.YtjpnkapjnnighaaW.PrintWords Go.Proofs.YtjpnkapjnnighaaW.PrintLast Go.Proofs.YtjpnkapjnnighaaW.PrintMore
set_option linter.unusedVariables false
def ofR (s : ByteArray) (n : Nat) : List Bool := (s.data.toList.take n).map fun b => b == 114
def jackstaylaw02_Of.f (s : ByteArray) : Option (List Bool) := if s.size < 140737488355327 ∧ (s.data.toList.all fun b => decide (b.toNat < 128)) = true then some (ofR s s.size) else none
theorem R_iterAt {α : Type} {d : Kd α} {e : Nat} {W : World} {base : Nat} {v : Value} {xs : List α} {k : Nat} (h : d.R e W base (fun j => j ≠ k) v xs) (s : ByteArray) (p : Nat) : d.R e (W.iterAt k s p) base (fun j => j ≠ k) v xs :=
  Kd.R_move h (fun j hj => Lib.iterAt_other W k j s p hj)
theorem iter_kept {W w1 : World} {base k : Nat} {v : Value} {α : Type} {d : Kd α} {e : Nat} {xs : List α} {o : Obj} (h : W.heap[k]? = some o) (hR : d.R e W base (fun j => j ≠ k) v xs) (hg : W.grownBy w1 v.ownBlock) : w1.heap[k]? = some o := by
  have hlt : k < W.heap.size := (Array.getElem?_eq_some_iff.1 h).1
  rw [hg.block k hlt (fun he => hR.1 k he.symm rfl)]
  exact h
theorem heap_alloc_old {W : World} {k : Nat} {o : Obj} (h : W.heap[k]? = some o) (x : Obj) : (W.alloc x).heap[k]? = some o := by
  have hlt : k < W.heap.size := (Array.getElem?_eq_some_iff.1 h).1
  show (W.heap.push x)[k]? = _
  rw [Array.getElem?_push, if_neg (by omega)]
  exact h
set_option maxRecDepth 100000 in
set_option maxHeartbeats 2000000 in
theorem jackstaylaw02_Of.calls (a0 : ByteArray) (r : List Bool) (w : World) (h : jackstaylaw02_Of.f a0 = some r) :
    Calls Try.prog 17 #[.string a0] w fun e w' => ∃ v0_ : Value, e = .returned (v0_) ∧ Kd.R Kd.bool 4 w' w.heap.size (fun _ => True) v0_ r ∧ Below w.heap.size w w' := by
  unfold jackstaylaw02_Of.f at h
  split at h
  · rename_i hc
    obtain ⟨hs, ha0⟩ := hc
    have HR := Aside0.mk (Option.some.inj h)
    have HA := Aside0.mk ha0
    have HS := Aside0.mk hs
    clear h ha0 hs
    go_enter Try.func17, Try.ntmps17
    go_wp2
    go_loopw [3] (fun v w' => ∃ pos : Nat, pos ≤ a0.size ∧ Aside0 (w'.heap[w.heap.size]? = some (.stringIter a0 pos)) ∧ Aside0 (Kd.R Kd.bool 4 w' w.heap.size (fun j => j ≠ w.heap.size) v (ofR a0 pos)) ∧ Aside0 (Below w.heap.size w w')) (fun _ w' => a0.size - w'.iterPos w.heap.size)
    case atStart =>
      refine ⟨0, Nat.zero_le _, ⟨?_⟩, ⟨Kd.R_nil _ _ _ _ _⟩, ⟨below_alloc (Below.refl _ _) _⟩⟩
      show (w.heap.push _)[w.heap.size]? = _
      simp
    case round =>
      obtain ⟨pos, hpos, HI, HO, HB⟩ := hrel
      by_cases hlt : pos < a0.size
      · have hasc : (a0[pos]'hlt).toNat < 128 := by
          have hm : a0[pos] ∈ a0.data.toList := Array.getElem_mem_toList (xs := a0.data) hlt
          have := List.all_eq_true.1 HA.out _ hm
          simpa using this
        have htk : ofR a0 (pos + 1) = ofR a0 pos ++ [a0[pos] == 114] := by
          unfold ofR
          rw [← List.take_append_getElem (by simpa using hlt), List.map_append]
          rfl
        have hbyte : (((a0[pos]'hlt).toNat : Int) == 114) = (a0[pos] == 114) := by
          rw [Bool.eq_iff_iff, beq_iff_eq, beq_iff_eq]
          constructor
          · intro h
            exact UInt8.toNat_inj.1 (by show _ = 114; omega)
          · intro h
            rw [h]
            rfl
        have hlen : (ofR a0 pos).length = pos := by simp [ofR]; omega
        have HT := Aside0.mk htk
        have HY := Aside0.mk hbyte
        have HL := Aside0.mk hlen
        clear htk hbyte hlen
        have hnx := fun ty => Lib.run_next_ascii_at (P := Try.prog) wr w.heap.size a0 pos ty HI.out hlt hasc
        have HI1 := Aside0.mk (Lib.iterAt_heap wr w.heap.size a0 pos (pos + 1) HI.out)
        have HO1 := Aside0.mk (R_iterAt HO.out a0 (pos + 1))
        have HB1 := Aside0.mk (Lib.below_iterAt HB.out (Nat.le_refl _) a0 (pos + 1))
        have hsz : w.heap.size + 1 ≤ (wr.iterAt w.heap.size a0 (pos + 1)).heap.size := by
          have := (Array.getElem?_eq_some_iff.1 HI1.out).1
          omega
        go_wp2_with (first | ((with_reducible refine gate_builtin (b := .append) (xs := #[.tmp 11, .tmp 14]) rfl ?_); at_builtin; refine Kd.R_append Kd.bool (w0 := w) w.heap.size rfl (.tmp 11) (.tmp 14) 24 4 (.bool false) 1 rfl Try.underlying24 info4 rfl (by decide) (by omega) u3 (ofR a0 pos) (((a0[pos]'hlt).toNat : Int) == 114) [.bool (((a0[pos]'hlt).toNat : Int) == 114)] (fun j => j ≠ w.heap.size) (fun _ => False) rfl rfl ?aP (fun _ hk => hk.elim) ?aF ?aO ?aB ?aS ?aL ?_; (case aP => exact rfl); (case aB => exact HB1.out); (case aF => exact (fun k hk => by omega)); (case aO => exact HO1.out); (case aS => omega); (case aL => have := HL.out; have := HS.out; omega); intro v102 w9 ho hb hg hat; have HI2 := Aside0.mk (iter_kept HI1.out HO1.out hg); have HO2 := Aside0.mk ho; have HB2 := Aside0.mk hb; clear ho hb hg hat))
        go_roundw
        case rel => exact ⟨pos + 1, by omega, HI2, ⟨by rw [HT.out, ← HY.out]; exact HO2.out⟩, HB2⟩
        case measure => rw [iterPos_of HI2.out, iterPos_of HI.out]; omega
      · have hnx := fun ty => Lib.run_next_end_at (P := Try.prog) wr w.heap.size a0 pos ty HI.out hlt
        have hpe : pos = a0.size := by omega
        have HP := Aside0.mk hpe
        clear hpe
        go_wp2
        go_ret
        exact ⟨_, rfl, by rw [← HR.out, ← HP.out]; exact Kd.R_mono HO.out (fun _ _ => trivial), HB.out⟩
  · cases h
end Go.Proofs.Ytjpnkapjnnighaa.P
