/- Printed by the kit and by programs of this work for the claim of aaRowFrameLong, without what the claim does not name. -/
import Derived.Laws.BytesArg
import Derived.ChangeKeysEq
import Derived.Test.YtnnnfnebobaiiaaPx18
import Derived.Test.YtnnnfnebobaiiaaPx19
import Derived.Test.YtnnnfnebobaiiaaPx6
import Derived.Test.YtnnnfnebobaiiaaPx7
import Derived.Test.YtnnnfnebobaiiaaLF
import Derived.Test.YtnnnfnebobaiiaaSC
import Derived.Test.YtnnnfnebobaiiaaSB
import Derived.Test.YtnnnfnebobaiiaaPx8
import Derived.Test.YtnnnfnebobaiiaaPx0
import Derived.Test.YtnnnfnebobaiiaaXO
import Derived.Test.YtnnnfnebobaiiaaLB
import Derived.Test.YtnnnfnebobaiiaaEV
namespace Go.Proofs.Ytnnnfnebobaiiaa.P
open Go.RowKit Go.Proofs.YtnnnfnebobaiiaaW.PrintWords Go.Proofs.YtnnnfnebobaiiaaW.PrintLast Go.Proofs.YtnnnfnebobaiiaaW.PrintMore Go.Proofs.Ytnnnfnebobaiiaa.L
set_option linter.unusedSimpArgs false
theorem fr_open {a d : Int} (e r : Bool) {l : List Int} (h0 : (Lit.int .u32 a).wf = true) (h3 : (Lit.int .u8 d).wf = true) (h4 : (∀ x ∈ l, (Lit.int .u8 x).wf = true) ∧ l.length * 1 ≤ reachBytes) :
    ∃ f : Fr, f.Mach ∧ a = (f.id : Int) ∧ e = f.ext ∧ r = f.rem ∧ d = (f.dlc : Int) ∧ l = ints f.data := by
  have b0 := wf_u32 h0
  have b3 := wf_u8 h3
  obtain ⟨b, hb, hb2⟩ := ints_of l 256 (fun x hx => by have := wf_u8 (h4.1 x hx); omega)
  have hl : l.length = b.length := by rw [hb, length_ints]
  have hr : reachBytes ≤ 140737488355328 := by decide
  refine ⟨⟨a.toNat, e, r, d.toNat, b⟩, ⟨by simp only; omega, by simp only; omega, fun x hx => by have := hb2 x hx; omega, ?_⟩, by simp only; omega, rfl, rfl, by simp only; omega, hb⟩
  have := h4.2
  simp only
  omega
theorem frame_Long.is {f : Fr} (h : f.dlc < 256) (d : List Int) : frame_Long.f (f.id : Int) f.ext f.rem (f.dlc : Int) d = some (f.long : Int) := by
  unfold frame_Long.f Fr.long
  rw [w64 (by omega) (by omega)]
  cases f.rem with
  | true => rfl
  | false =>
    simp only [Bool.false_eq_true, if_false]
    congr 1
    unfold mn
    split <;> omega
theorem frame_Right.is {f : Fr} (h : f.dlc < 256) : frame_Right.f (f.id : Int) f.ext f.rem (f.dlc : Int) (ints f.data) = some f.right := by
  unfold frame_Right.f
  rw [frame_Long.is h, length_ints]
  unfold Fr.right Fr.most
  have e : (((f.data.length : Nat) : Int) == ((f.long : Nat) : Int)) = decide (f.data.length = f.long) := by
    rw [Bool.eq_iff_iff, beq_iff_eq, decide_eq_true_iff]
    constructor <;> intro h <;> omega
  cases f.ext with
  | true =>
    simp only [if_true, Option.bind_some, e]
    by_cases h1 : f.id ≤ 536870911
    · rw [if_pos (by omega)]
      by_cases h2 : f.dlc ≤ 15
      · rw [if_pos (by omega)]; simp [h1, h2]
      · rw [if_neg (by omega)]; simp [h2]
    · rw [if_neg (by omega)]; simp [h1]
  | false =>
    simp only [Bool.false_eq_true, if_false, Option.bind_some, e]
    by_cases h1 : f.id ≤ 2047
    · rw [if_pos (by omega)]
      by_cases h2 : f.dlc ≤ 15
      · rw [if_pos (by omega)]; simp [h1, h2]
      · rw [if_neg (by omega)]; simp [h2]
    · rw [if_neg (by omega)]; simp [h1]
theorem frame_Right.ev {f : Fr} (h : f.Mach) : Ev (fun _ => frame_Right.f (f.id : Int) f.ext f.rem (f.dlc : Int) (ints f.data)) f.right := Ev.const (frame_Right.is h.dlc)
theorem frame_first.ev {f : Fr} (h : f.Mach) (d : List Int) : Ev (fun k => frame_first.f k (f.id : Int) f.ext f.rem (f.dlc : Int) d) (firstN f) := by
  simp only [frame_first.f]
  refine Ev.some_bind ?_
  unfold firstN
  cases hx : f.ext with
  | true =>
    refine Ev.pos rfl ?_
    have e : (f.id : Int) / 262144 = ((f.id / 262144 : Nat) : Int) := by omega
    rw [e]
    have hid := h.id
    refine Ev.bind (bits_Of.ev' (f.id / 262144) 11 (by omega) (by decide)) ?_
    refine Ev.pos (by simp [length_bitsN]) (Ev.some_bind (Ev.some_bind ?_))
    refine Ev.pos (by simp [length_bitsN]) (Ev.some_bind ?_)
    refine Ev.bind (bits_Of.ev' f.id 18 (by omega) (by decide)) ?_
    refine Ev.pos (by simp [length_bitsN]) (Ev.some_bind (Ev.some_bind ?_))
    refine Ev.pos (by simp [length_bitsN]) ?_
    exact (Ev.now _).eq (by simp)
  | false =>
    refine Ev.neg (by simp) ?_
    have hid := h.id
    refine Ev.bind (bits_Of.ev' f.id 11 (by omega) (by decide)) ?_
    refine Ev.pos (by simp [length_bitsN]) (Ev.some_bind (Ev.some_bind ?_))
    refine Ev.pos (by simp [length_bitsN]) ?_
    exact (Ev.now _).eq (by simp)
def bodyE (f : Fr) : List Bool × Int := if f.right then (bodyN f, 0) else ([], 40)
theorem frame_Body.ev {f : Fr} (h : f.Mach) : Ev (fun k => frame_Body.f k (f.id : Int) f.ext f.rem (f.dlc : Int) (ints f.data)) (bodyE f) := by
  simp only [frame_Body.f]
  refine Ev.bind (frame_Right.ev h) ?_
  unfold bodyE
  cases hr : f.right with
  | false => exact Ev.neg (by simp) (Ev.now _)
  | true =>
    have hR := (Fr.right_iff f).1 hr
    have hlong := f.long_le
    have hlen := hR.len
    refine Ev.pos rfl ?_
    refine Ev.bind (frame_first.ev h _) ?_
    have hf := firstN_length f
    have hf33 : (firstN f).length ≤ 33 := by rw [hf]; split <;> decide
    refine Ev.pos (by omega) (Ev.some_bind ?_)
    have j0 : ∀ p : List Bool, p ++ bitsN 4 f.dlc = headN f → p.length < 100 → Ev (fun k => frame_Body.j0 k p (f.id : Int) f.ext f.rem (f.dlc : Int) (ints f.data)) (bodyN f, 0) := fun p hp hpl => by
      refine Ev.next ?_
      simp only [frame_Body.j0]
      have hd := h.dlc
      rw [show (f.dlc : Int) % 4294967296 = (f.dlc : Int) by omega]
      refine Ev.bind (bits_Of.ev' f.dlc 4 (by omega) (by decide)) ?_
      refine Ev.pos (by rw [length_bitsN]; omega) (Ev.some_bind ?_)
      rw [hp]
      refine Ev.bind (bits_OfBytes.ev f.data h.bytes (by omega)) ?_
      have hh := headN_length f
      have hl39 : headL f.ext ≤ 39 := by unfold headL; split <;> omega
      refine Ev.pos (by rw [hh, length_bitsB]; omega) (Ev.some_bind ?_)
      show Ev (fun k => (crc_Sum.f (plainN f)).bind _) _
      refine Ev.bind (crc_Sum.ev (plainN f)) ?_
      have hs := sumN_lt (plainN f) 0 (by decide)
      refine Ev.bind (crc_Bits.ev _ (by omega)) ?_
      refine Ev.pos (by rw [length_bitsN]; show (plainN f).length + 15 < _; rw [plainN_length]; omega) ?_
      exact Ev.now _
    unfold headN at j0
    cases hx : f.ext with
    | true =>
      refine Ev.pos rfl (Ev.pos (by rw [List.length_append, List.length_singleton]; omega) ?_)
      rw [hx] at j0
      exact j0 _ (by simp) (by simp; omega)
    | false =>
      refine Ev.neg (by simp) ?_
      rw [hx] at j0
      exact j0 _ (by simp) (by simp; omega)
theorem rdOf_getN (l : List Bool) (i : Nat) : rdOf false l (i : Int) = l.getD i false := by simp [rdOf]
end Go.Proofs.Ytnnnfnebobaiiaa.P
