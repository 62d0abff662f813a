/- The statement over numbers and lists that is left of the law CrcAdds: sums of two lists of one length add up without carry. -/
import Derived.Test.YtlkeipkehfgogaaStCrcAdds
import Derived.Test.YtlkeipkehfgogaaGAwake3
import Derived.Test.YtlkeipkehfgogaaSC
namespace Go.Proofs.Ytlkeipkehfgogaa.Pure
open Go.RowKit Go.Proofs.YtlkeipkehfgogaaW.PrintWords Go.Proofs.YtlkeipkehfgogaaW.PrintLast Go.Proofs.YtlkeipkehfgogaaW.PrintMore Go.Proofs.Ytlkeipkehfgogaa.L Go.Proofs.Ytlkeipkehfgogaa.P
set_option linter.unusedSimpArgs false
theorem awakeA : Ev (fun _ => jackstaylaw03_awake.f) true := Ev.const rfl
theorem zip_succ (a b : List Bool) (i n : Nat) (ha : i < a.length) (hb : i < b.length) (hn : 0 < n) :
    (zipX (a.take i) (b.take i) ++ List.replicate n false).set i (a[i] != b[i]) = zipX (a.take (i + 1)) (b.take (i + 1)) ++ List.replicate (n - 1) false := by
  obtain ⟨m, rfl⟩ : ∃ m, n = m + 1 := ⟨n - 1, by omega⟩
  have hl : (zipX (a.take i) (b.take i)).length = i := by simp [zipX]; omega
  rw [List.set_append_right _ _ (by omega), hl, Nat.sub_self, List.replicate_succ, List.set_cons_zero]
  rw [← List.take_append_getElem ha, ← List.take_append_getElem hb]
  unfold zipX
  rw [List.zipWith_append (by simp; omega)]
  simp
theorem CrcAdds_l0 (a b : List Bool) (n : Nat) (hna : n ≤ a.length) (hnb : n ≤ b.length) (hn : n ≤ 300) : ∀ (d i : Nat), d + i = n →
    Ev (fun k => jackstaylaw03_CrcAdds.l0 k a b (n : Int) (zipX (a.take i) (b.take i) ++ List.replicate d false) (n : Int) (i : Int)) true
  | 0, i, h => by
    have hi : i = n := by omega
    subst hi
    refine Ev.next ?_
    simp only [jackstaylaw03_CrcAdds.l0]
    refine Ev.neg (by omega) ?_
    rw [List.replicate_zero, List.append_nil]
    refine Ev.bind (crc_Sum.ev _) ?_
    refine Ev.pos (by omega) (Ev.pos (by omega) ?_)
    rw [Int.toNat_natCast]
    refine Ev.bind (crc_Sum.ev _) ?_
    refine Ev.pos (by omega) ?_
    refine Ev.bind (crc_Sum.ev _) ?_
    have h1 := sumN_lt (a.take i) 0 (by decide)
    have h2 := sumN_lt (b.take i) 0 (by decide)
    have hz := sumN_zipX (a.take i) (b.take i) 0 0 (by simp; omega)
    rw [Nat.xor_self] at hz
    refine Ev.pos ?_ (Ev.bind awakeA (Ev.now true))
    rw [u16_xor_nat _ _ (by omega) (by omega), hz]
  | d + 1, i, h => by
    refine Ev.next ?_
    simp only [jackstaylaw03_CrcAdds.l0]
    have hl : (zipX (a.take i) (b.take i)).length = i := by simp [zipX]; omega
    refine Ev.pos (by omega) (Ev.pos (by omega) (Ev.pos (by omega) (Ev.pos (by omega) (Ev.pos (by rw [List.length_append, hl, List.length_replicate]; omega) ?_))))
    rw [rdOf_at a i (by omega), rdOf_at b i (by omega), Int.toNat_natCast, zip_succ a b i (d + 1) (by omega) (by omega) (by omega), w64 (by omega) (by omega), show (i : Int) + 1 = ((i + 1 : Nat) : Int) by omega]
    exact CrcAdds_l0 a b n hna hnb hn d (i + 1) (by omega)
theorem CrcAdds : jackstaylaw03_CrcAdds.Pure := by
  rintro x0 x1 ⟨-, h0⟩ ⟨-, h1⟩
  refine Ev.rounds ?_
  simp only [jackstaylaw03_CrcAdds.f]
  obtain ⟨n, hn⟩ : ∃ n : Nat, (n : Int) = mn (mn (x0.length : Int) (x1.length : Int)) 300 := ⟨(mn (mn (x0.length : Int) (x1.length : Int)) 300).toNat, by unfold mn; split <;> split <;> omega⟩
  rw [← hn]
  have hb : n ≤ x0.length ∧ n ≤ x1.length ∧ n ≤ 300 := by unfold mn at hn; split at hn <;> split at hn <;> omega
  refine Ev.pos (by omega) (Ev.pos (by omega) (Ev.some_bind ?_))
  rw [Int.toNat_natCast, List.length_replicate]
  exact CrcAdds_l0 x0 x1 n hb.1 hb.2.1 hb.2.2 n 0 (by omega)
end Go.Proofs.Ytlkeipkehfgogaa.Pure
