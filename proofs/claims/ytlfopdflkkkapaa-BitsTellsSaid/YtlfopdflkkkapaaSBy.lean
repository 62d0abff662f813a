/- What the printed function bits.Bytes answers. -/
import Derived.Test.YtlfopdflkkkapaaPx3
import Derived.Test.YtlfopdflkkkapaaSB
namespace Go.Proofs.Ytlfopdflkkkapaa.P
open Go.RowKit Go.Proofs.YtlfopdflkkkapaaW.PrintWords Go.Proofs.YtlfopdflkkkapaaW.PrintLast Go.Proofs.YtlfopdflkkkapaaW.PrintMore Go.Proofs.Ytlfopdflkkkapaa.L
set_option linter.unusedSimpArgs false
theorem byte_num (l : List Bool) (h : l.length ≤ 8) : (((numN l % 4294967296 : Nat) : Int)) % 256 = (numN l : Int) := by
  have h1 := numN_lt l
  have h2 : 2 ^ l.length ≤ 2 ^ 8 := Nat.pow_le_pow_right (by decide) h
  omega
theorem bytesB_take_succ (l : List Bool) (i : Nat) (h : i < l.length / 8) : (bytesB l).take (i + 1) = (bytesB l).take i ++ [numN ((l.drop (8 * i)).take 8)] := by
  have hi : i < (bytesB l).length := by rw [length_bytesB]; exact h
  rw [← List.take_append_getElem hi]
  simp [bytesB]
theorem set_row (a : List Int) (n : Nat) (x : Int) (i : Nat) (hi : a.length = i) (hn : 0 < n) : (a ++ List.replicate n 0).set i x = (a ++ [x]) ++ List.replicate (n - 1) 0 := by
  obtain ⟨m, rfl⟩ : ∃ m, n = m + 1 := ⟨n - 1, by omega⟩
  subst hi
  rw [List.set_append_right _ _ (Nat.le_refl _), Nat.sub_self, List.replicate_succ, List.set_cons_zero]
  simp
theorem bits_Bytes.l0_ev (l : List Bool) (hl : l.length ≤ 140737488355328) : ∀ (d i : Nat), d + i = l.length / 8 →
    Ev (fun k => bits_Bytes.l0 k l (ints ((bytesB l).take i) ++ List.replicate d 0) ((l.length / 8 : Nat) : Int) (i : Int)) (ints (bytesB l))
  | 0, i, h => by
    refine Ev.next ?_
    simp only [bits_Bytes.l0]
    refine Ev.neg (by omega) ?_
    rw [List.take_of_length_le (by rw [length_bytesB]; omega)]
    exact (Ev.now _).eq (by simp)
  | d + 1, i, h => by
    refine Ev.next ?_
    simp only [bits_Bytes.l0]
    have hi : i < l.length / 8 := by omega
    have e1 : wrap64 (8 * (i : Int)) = ((8 * i : Nat) : Int) := by rw [w64 (by omega) (by omega)]; omega
    have e2 : wrap64 (((8 * i : Nat) : Int) + 8) = ((8 * i + 8 : Nat) : Int) := by rw [w64 (by omega) (by omega)]; omega
    rw [e1, e2]
    refine Ev.pos (by omega) (Ev.pos (by omega) (Ev.pos (by omega) (Ev.pos (by omega) ?_)))
    simp only [Int.toNat_natCast]
    have e3 : (l.take (8 * i + 8)).drop (8 * i) = (l.drop (8 * i)).take 8 := by rw [List.drop_take]; congr 1; omega
    rw [e3]
    refine Ev.bind (bits_Number.ev _ (by rw [List.length_take, List.length_drop]; omega)) ?_
    have hlen : (ints ((bytesB l).take i)).length = i := by rw [length_ints, List.length_take, length_bytesB]; omega
    refine Ev.pos (by omega) (Ev.pos (by rw [List.length_append, hlen, List.length_replicate]; omega) ?_)
    rw [byte_num _ (by rw [List.length_take]; omega), set_row _ _ _ i hlen (by omega), w64 (by omega) (by omega), show (i : Int) + 1 = ((i + 1 : Nat) : Int) by omega]
    have := bits_Bytes.l0_ev l hl d (i + 1) (by omega)
    rw [bytesB_take_succ l i hi, ints_append] at this
    exact this
theorem bits_Bytes.ev (l : List Bool) (hl : l.length ≤ 140737488355328) : Ev (fun k => bits_Bytes.f k l) (ints (bytesB l)) := by
  simp only [bits_Bytes.f]
  have e : wrap64 ((l.length : Int) / 8) = ((l.length / 8 : Nat) : Int) := by rw [w64 (by omega) (by omega)]; omega
  rw [e]
  refine Ev.pos (by omega) (Ev.pos (by rw [Int.toNat_natCast]; omega) (Ev.some_bind ?_))
  rw [Int.toNat_natCast, List.length_replicate]
  exact (bits_Bytes.l0_ev l hl (l.length / 8) 0 (by omega)).eq rfl
end Go.Proofs.Ytlfopdflkkkapaa.P
