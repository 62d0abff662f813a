/- Printed by the kit and by programs of this work for the claim of aaRowFrameLong, without what the claim does not name. -/
import Derived.Laws.CopyOwn
import Derived.ChangeArms
import Derived.WideShapes
import Derived.DataElems
import Derived.SizedLaws
import Derived.WalkKit
import Derived.OwnWalk
import Derived.Test.YtnnnfnebobaiiaaWWords
import Derived.Test.YtnnnfnebobaiiaaWLast
import Derived.Test.YtnnnfnebobaiiaaWMore
namespace Go.Proofs.Ytnnnfnebobaiiaa.X
open Go.RowKit Go.Proofs.YtnnnfnebobaiiaaW.PrintWords Go.Proofs.YtnnnfnebobaiiaaW.PrintLast Go.Proofs.YtnnnfnebobaiiaaW.PrintMore
set_option linter.unusedVariables false
structure Opens (P : Program) (t : TypeId) {α : Type} (d : Kd α) (WF : α → Prop) : Prop where
  out : ∀ {H : Type} {enc : TypeId × Value → H} {w : World} {base : Nat} {spare : Nat → Bool} {held : Bool} {fuel : Nat} {cs : List Value} {x : DataW H × List MemPlace},
    DataW.trod enc P w base spare held fuel t cs = some x → (∀ n ∈ x.1.weights P t, n ≤ reachBytes) → ∃ a, d.K w a cs ∧ WF a
structure OpensF (P : Program) (fs : List Field) (off : Nat) {α : Type} (d : Kd α) (WF : α → Prop) : Prop where
  out : ∀ {H : Type} {enc : TypeId × Value → H} {w : World} {base : Nat} {spare : Nat → Bool} {held : Bool} {n : Nat} {cs : List Value} (xs : List (DataW H × List MemPlace)),
    xs.length = fs.length → (∀ (i : Nat) (f : Field), fs[i]? = some f → DataW.trod enc P w base spare held n f.type ((cs.drop f.offset).take (P.cellsOf f.type)) = xs[i]?) →
    (∀ m ∈ DataW.weightsEach P (fs.map (·.type)) (xs.map (·.1)), m ≤ reachBytes) → ∃ a, d.K w a ((cs.drop off).take d.sz) ∧ WF a
section
variable {P : Program} {t e : TypeId} {α β : Type} {d : Kd α} {d2 : Kd β} {WF : α → Prop} {WF2 : β → Prop}
theorem opens_int {k : IntKind} (ht : P.underlying t = some (.int k)) : Opens P t (Kd.int k) (fun n => (Lit.int k n).wf = true) := ⟨fun h _ => by
  obtain ⟨n, rfl, _, hw⟩ := DataW.trod_int ht h
  exact ⟨n, rfl, hw⟩⟩
theorem opens_bool (ht : P.underlying t = some .bool) : Opens P t Kd.bool (fun _ => True) := ⟨fun h _ => by
  obtain ⟨b, rfl, _⟩ := DataW.trod_bool ht h
  exact ⟨b, rfl, trivial⟩⟩
theorem cells_part {w : World} {base n : Nat} {a : Addr} {cs : List Value} (h : w.cells? base a n = some cs) : ∀ i u, cs[i]? = some u → w.cell? (a.add i) = some u := by
  intro i u hu
  obtain ⟨_, hl, hc⟩ := World.cells?_some h
  have hi : i < n := by have := (List.getElem?_eq_some_iff.1 hu).1; omega
  rw [hc i hi, hu]
theorem weights_all {H : Type} {e : TypeId} : ∀ (l : List (DataW H)) (x : DataW H), x ∈ l → ∀ n ∈ x.weights P e, n ∈ DataW.weightsAll P e l
  | [], _, h => by cases h
  | y :: l, x, h => by
    intro n hn
    simp only [DataW.weightsAll, List.mem_append]
    rcases List.mem_cons.1 h with rfl | h
    · exact .inl hn
    · exact .inr (weights_all l x h n hn)
theorem list_of_each {α : Type} (R : Nat → α → Prop) : ∀ (len : Nat), (∀ i : Nat, i < len → ∃ y, R i y) → ∃ ys : List α, ys.length = len ∧ ∀ i y, ys[i]? = some y → R i y
  | 0, _ => ⟨[], rfl, fun i y h => by simp at h⟩
  | m + 1, each => by
    obtain ⟨ys, hys, hr⟩ := list_of_each R m (fun i hi => each i (by omega))
    obtain ⟨y, hy⟩ := each m (by omega)
    refine ⟨ys ++ [y], by simp [hys], fun i z hz => ?_⟩
    rcases Nat.lt_or_ge i ys.length with hlt | hge
    · rw [List.getElem?_append_left hlt] at hz
      exact hr i z hz
    · have hi : i = m := by
        have := (List.getElem?_eq_some_iff.1 hz).1
        simp at this
        omega
      subst hi
      rw [List.getElem?_append_right hge, hys, Nat.sub_self] at hz
      cases hz
      exact hy
theorem opens_slice (ht : P.underlying t = some (.slice e)) (he : Opens P e d WF) (hc : P.cellsOf e = d.sz) {B : Nat} (hB : P.bytesOf e = B) :
    Opens P t (Kd.slice e d) (fun xs => (∀ x ∈ xs, WF x) ∧ xs.length * B ≤ reachBytes) := ⟨fun {H enc w base spare held fuel cs x} h hW => by
  rcases DataW.trod_slice ht h with ⟨rfl, rfl⟩ | ⟨a, len, cap, elems, rest, n, _, rfl, rfl, hb, hl, hm, hlen, hel, _, _⟩
  · exact ⟨[], ⟨none, 0, rfl, Nat.le_refl _, Kd.C_nil d w⟩, by simp, by simp⟩
  · have hw1 : (elems.length + rest.length) * B ≤ reachBytes := by
      have := hW ((elems.length + rest.length) * B) (by simp [DataW.weights, ht, hB])
      exact this
    have each : ∀ i : Nat, i < len → ∃ y c, w.cells? base (a.add (i * d.sz)) d.sz = some c ∧ d.K w y c ∧ WF y := by
      intro i hi
      have h1 := hel i hi
      have hi2 : i < elems.length := by omega
      rw [List.getElem?_eq_getElem hi2, hc, Option.bind_eq_some_iff] at h1
      obtain ⟨c, hcs, hy⟩ := h1
      obtain ⟨y, hk, hwf⟩ := he.out hy (fun m hm2 => hW m (by
        simp only [DataW.weights, ht, List.mem_cons, List.mem_append]
        exact .inr (.inl (weights_all _ _ (List.mem_map.2 ⟨_, List.getElem_mem hi2, rfl⟩) m hm2))))
      exact ⟨y, c, hcs, hk, hwf⟩
    have hall := list_of_each (fun i y => ∃ c, w.cells? base (a.add (i * d.sz)) d.sz = some c ∧ d.K w y c ∧ WF y) len each
    obtain ⟨ys, hys, hr⟩ := hall
    refine ⟨ys, ⟨some a, cap, by rw [hys], by omega, rfl, by unfold maxLen at hm; omega, fun _ => ⟨a, rfl, fun j p hj => ?_⟩⟩, fun y hy => ?_, by rw [hys, ← hlen]; exact Nat.le_trans (Nat.mul_le_mul_right _ (Nat.le_add_right _ _)) hw1⟩
    · obtain ⟨c, hcs, hk, _⟩ := hr j p hj
      refine ⟨c, d.K_len hk, hk, fun i u hu => ?_⟩
      have := cells_part hcs i u hu
      rwa [Addr.add_add] at this
    · obtain ⟨i, hi⟩ := List.getElem?_of_mem hy
      obtain ⟨_, _, _, hwf⟩ := hr i y hi
      exact hwf⟩
theorem opensF_one {f : Field} {off : Nat} (hf : f.offset = off) (h : Opens P f.type d WF) (hc : P.cellsOf f.type = d.sz) : OpensF P [f] off d WF := ⟨fun xs hl hx hW => by
  match xs, hl with
  | [x], _ =>
    have h0 := hx 0 f rfl
    rw [hf, hc] at h0
    exact h.out h0 (fun m hm => hW m (by simpa [DataW.weightsEach] using hm))⟩
theorem opensF_cons {f : Field} {fs : List Field} {off : Nat} (hf : f.offset = off) (h : Opens P f.type d WF) (hc : P.cellsOf f.type = d.sz) (h2 : OpensF P fs (off + d.sz) d2 WF2) :
    OpensF P (f :: fs) off (Kd.pair d d2) (fun x => WF x.1 ∧ WF2 x.2) := ⟨fun xs hl hx hW => by
  match xs, hl with
  | x :: xs, hl =>
    have h0 := hx 0 f rfl
    rw [hf, hc] at h0
    obtain ⟨a, hk, hw⟩ := h.out h0 (fun m hm => hW m (by simp only [List.map_cons, DataW.weightsEach, List.mem_append]; exact .inl hm))
    obtain ⟨b, hk2, hw2⟩ := h2.out xs (by simpa using hl) (fun i g hg => hx (i + 1) g (by simpa using hg)) (fun m hm => hW m (by simp only [List.map_cons, DataW.weightsEach, List.mem_append]; exact .inr hm))
    refine ⟨(a, b), ⟨_, _, ?_, hk, hk2⟩, hw, hw2⟩
    show List.take (d.sz + d2.sz) _ = _
    rw [List.take_add, List.drop_drop]⟩
theorem opens_struct {fs : Array Field} {f : β → α} {g : α → β} (ht : P.underlying t = some (.struct fs)) (h : OpensF P fs.toList 0 d WF) (hfg : ∀ a, f (g a) = a) (hc : P.cellsOf t = d.sz) :
    Opens P t (Kd.iso d f) (fun x => WF (f x)) := ⟨fun {H enc w base spare held fuel cs x} hx hW => by
  obtain ⟨xs, n, _, rfl, hl, hlen, hf⟩ := DataW.trod_struct ht hx
  obtain ⟨a, hk, hw⟩ := h.out (cs := cs) xs (by simpa using hlen) (fun i f0 hi => hf i f0 (by simpa using hi)) (fun m hm => hW m (by simpa [DataW.weights, ht] using hm))
  refine ⟨g a, ?_, by rw [hfg]; exact hw⟩
  show d.K w (f (g a)) cs
  rw [hfg]
  rw [List.drop_zero, List.take_of_length_le (by omega)] at hk
  exact hk⟩
end
section
variable {α : Type} {enc : α → Value} {h1 : ∀ x, (enc x).oneCell' = true} {P : Program} {ops : Array Oper} {rest : List Oper} {o : Oper} {a : Act} {Q : Exit → Act → World → Prop}
theorem C_cell_scalar {w : World} {A : Option Addr} {xs : List α} (h : (Kd.scalar enc h1).C w A xs.length xs) (hp : 0 < xs.length) : ∃ ad, A = some ad ∧ ∀ j v, (encs enc xs)[j]? = some v → w.cell? (ad.add j) = some v := by
  obtain ⟨x0, tl, rfl⟩ := List.exists_cons_of_length_pos hp
  have hR := Kd.reads_of_C (d := x0) h
  obtain ⟨ad, rfl, _⟩ := ReadsOf.at_ hR 0 (by omega) (by simp only [List.length_cons]; omega)
  refine ⟨ad, rfl, fun j v hj => ?_⟩
  have hlt : j < (x0 :: tl).length := by
    have := (List.getElem?_eq_some_iff.1 hj).1
    simpa [encs] using this
  obtain ⟨ad', he, hc⟩ := ReadsOf.at_ hR (j : Int) (by omega) (by exact_mod_cast hlt)
  cases he
  rw [encs_get (d := x0) _ j hlt] at hj
  cases hj
  simpa [rdOf] using hc
end
end Go.Proofs.Ytnnnfnebobaiiaa.X
