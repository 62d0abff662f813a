/- The statement over numbers and lists that is left of the law CrcWhole: of bits, and the bits of their sum behind them, the sum is 0; bit by bit it is the same as at once. -/
import Derived.Test.YtlkeipkehfgogaaStCrcWhole
import Derived.Test.YtlkeipkehfgogaaGAwake3
import Derived.Test.YtlkeipkehfgogaaGAnew
import Derived.Test.YtlkeipkehfgogaaSL
import Derived.Test.YtlkeipkehfgogaaSC
namespace Go.Proofs.Ytlkeipkehfgogaa.Pure
open Go.RowKit Go.Proofs.YtlkeipkehfgogaaW.PrintWords Go.Proofs.YtlkeipkehfgogaaW.PrintLast Go.Proofs.YtlkeipkehfgogaaW.PrintMore Go.Proofs.Ytlkeipkehfgogaa.L Go.Proofs.Ytlkeipkehfgogaa.P
set_option linter.unusedSimpArgs false
theorem awakeW : Ev (fun _ => jackstaylaw03_awake.f) true := Ev.const rfl
theorem CrcWhole_l0 (s : Nat) (hs : s < 32768) (m : List Bool) (hm : m.length ≤ 500) : ∀ (d i t : Nat), d + i = m.length → t < 32768 → sumN t (m.drop i) = s →
    Ev (fun k => jackstaylaw03_CrcWhole.l0 k (s : Int) (t : Int) m (m.length : Int) (i : Int)) true
  | 0, i, t, h, ht, he => by
    rw [List.drop_of_length_le (by omega)] at he
    have he : t = s := he
    subst he
    refine Ev.next ?_
    simp only [jackstaylaw03_CrcWhole.l0]
    refine Ev.neg (by omega) (Ev.pos (by first | rfl | trivial) ?_)
    rw [show (32768 : Int) = ((32768 : Nat) : Int) from rfl, u16_or_nat _ _ (by omega) (by decide)]
    refine Ev.bind (Ev.const (crc_Next.is t (by omega) true)) ?_
    have hor : t ||| 32768 = t + 32768 := by
      have h1 : 32768 + t = 32768 ||| t := Nat.two_pow_add_eq_or_of_lt (i := 15) (b := t) (by omega) 1
      rw [Nat.or_comm, ← h1]
      omega
    refine Ev.bind (Ev.const (crc_Next.is (t ||| 32768) (by omega) true)) ?_
    have e : crcN (t ||| 32768) true = crcN t true := by
      rw [← crcN_low (t ||| 32768), hor, show (t + 32768) % 32768 = t by omega]
    rw [e]
    exact Ev.pos (by first | rfl | trivial) (Ev.bind awakeW (Ev.now true))
  | d + 1, i, t, h, ht, he => by
    have hi : i < m.length := by omega
    refine Ev.next ?_
    simp only [jackstaylaw03_CrcWhole.l0]
    refine Ev.pos (by omega) (Ev.pos (by omega) (Ev.pos (by omega) ?_))
    rw [rdOf_at m i hi]
    refine Ev.bind (Ev.const (crc_Next.is t (by omega) m[i])) ?_
    rw [w64 (by omega) (by omega), show (i : Int) + 1 = ((i + 1 : Nat) : Int) by omega]
    rw [show m.drop i = m[i] :: m.drop (i + 1) from (List.getElem_cons_drop (h := hi)).symm] at he
    exact CrcWhole_l0 s hs m hm d (i + 1) _ (by omega) (crcN_lt _ _) he
theorem CrcWhole : jackstaylaw03_CrcWhole.Pure := by
  rintro x0 x1 - h1
  refine Ev.rounds ?_
  simp only [jackstaylaw03_CrcWhole.f]
  refine Ev.ite (fun _ => Ev.bind awakeW (Ev.now true)) (fun c0 => ?_)
  have w1 := wf_u16 h1
  obtain ⟨c, rfl⟩ := Int.eq_ofNat_of_zero_le w1.1
  have hs := sumN_lt x0 0 (by decide)
  refine Ev.bind (crc_Sum.ev x0) ?_
  refine Ev.neg (by omega) ?_
  refine Ev.bind (jackstaylow_Anew.ev x0 (by omega)) ?_
  refine Ev.bind (crc_Bits.ev (sumN 0 x0) (by omega)) ?_
  refine Ev.pos (by rw [length_bitsN]; omega) ?_
  refine Ev.bind (crc_Sum.ev _) ?_
  rw [sumN_whole]
  refine Ev.next ?_
  simp only [jackstaylaw03_CrcWhole.j0]
  have e1 : wrap64 ((x0.length : Int) + 1) = ((x0.length + 1 : Nat) : Int) := by rw [w64 (by omega) (by omega)]; omega
  have hk : c % (x0.length + 1) < x0.length + 1 := Nat.mod_lt _ (by omega)
  have e2 : Int.tmod (wrap64 (c : Int)) (wrap64 ((x0.length : Int) + 1)) = ((c % (x0.length + 1) : Nat) : Int) := by
    rw [e1, w64 (by omega) (by omega)]; rfl
  rw [e2]
  generalize c % (x0.length + 1) = i at *
  refine Ev.neg (by simp) (Ev.neg (by rw [e1]; omega) (Ev.pos (by omega) (Ev.pos (by omega) ?_)))
  rw [Int.toNat_natCast]
  refine Ev.bind (crc_Sum.ev _) ?_
  refine CrcWhole_l0 (sumN 0 x0) hs (x0.drop i) (by rw [List.length_drop]; omega) _ 0 (sumN 0 (x0.take i)) (Nat.add_zero _) (sumN_lt _ 0 (by decide)) ?_
  rw [List.drop_zero, ← sumN_append, List.take_append_drop]
end Go.Proofs.Ytlkeipkehfgogaa.Pure
