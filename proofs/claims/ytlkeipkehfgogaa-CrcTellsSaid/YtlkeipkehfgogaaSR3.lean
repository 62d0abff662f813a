/- What the printed functions of the document's package for sums (jackstayref03) answer, in terms of sumN and bitsN. -/
import Derived.Test.YtlkeipkehfgogaaPx2
import Derived.Laws.BitsAllLaws
import Derived.Test.YtlkeipkehfgogaaLR3
import Derived.Test.YtlkeipkehfgogaaSC
namespace Go.Proofs.Ytlkeipkehfgogaa.P
open Go.RowKit Go.Proofs.YtlkeipkehfgogaaW.PrintWords Go.Proofs.YtlkeipkehfgogaaW.PrintLast Go.Proofs.YtlkeipkehfgogaaW.PrintMore Go.Proofs.Ytlkeipkehfgogaa.L
set_option linter.unusedSimpArgs false
theorem rdOf_getD (l : List Bool) (i : Nat) : rdOf false l (i : Int) = l.getD i false := by simp [rdOf]
/-- A row's number, modulo 65536, bit by bit. -/
def fold16 (a : Nat) (l : List Bool) : Nat := l.foldl (fun a b => (2 * a + b.toNat) % 65536) a
theorem fold16_is (l : List Bool) : ∀ a : Nat, a < 65536 → fold16 a l = (a * 2 ^ l.length + numN l) % 65536 := by
  induction l with
  | nil => intro a ha; simp [fold16, numN_nil]; omega
  | cons b l ih =>
    intro a ha
    show fold16 ((2 * a + b.toNat) % 65536) l = _
    rw [ih _ (Nat.mod_lt _ (by decide)), numN_cons, List.length_cons, Nat.pow_succ]
    generalize 2 ^ l.length = p
    have e : a * (p * 2) + (b.toNat * p + numN l) = (2 * a + b.toNat) * p + numN l := by
      rw [Nat.add_mul, Nat.mul_comm p 2, ← Nat.mul_assoc, Nat.mul_comm a 2]; omega
    rw [e, Nat.add_mod, Nat.mod_mul_mod, ← Nat.add_mod]
theorem refSum_l3_ev (x : List Bool) (hx : x.length < 1000000) : ∀ (d j : Nat) (a : Nat), d + j = x.length → a < 65536 → Ev (fun k => jackstayref03_Sum.l3 k x (a : Int) (j : Int)) ((fold16 a (x.drop j) : Nat) : Int)
  | 0, j, a, h, ha => by
    refine Ev.next ?_
    simp only [jackstayref03_Sum.l3]
    refine Ev.neg (by omega) ?_
    rw [List.drop_of_length_le (by omega)]
    exact Ev.now _
  | d + 1, j, a, h, ha => by
    refine Ev.next ?_
    simp only [jackstayref03_Sum.l3]
    have hj : j < x.length := by omega
    have e : x.drop j = x[j] :: x.drop (j + 1) := (List.getElem_cons_drop (h := hj)).symm
    have hg : x.getD j false = x[j] := by rw [List.getD_eq_getElem?_getD, List.getElem?_eq_getElem hj]; rfl
    have ih := fun a' ha' => refSum_l3_ev x hx d (j + 1) a' (by omega) ha'
    refine Ev.pos (by omega) (Ev.pos (by omega) ?_)
    rw [rdOf_getD, hg, e]
    show Ev _ ((fold16 ((2 * a + x[j].toNat) % 65536) (x.drop (j + 1)) : Nat) : Int)
    have e1 : IntKind.u16.wrap ((a : Int) * 2) = ((2 * a % 65536 : Nat) : Int) := by rw [show (a : Int) * 2 = ((2 * a : Nat) : Int) by omega, u16_wrap]
    rw [w64 (by omega) (by omega), show (j : Int) + 1 = ((j + 1 : Nat) : Int) by omega, e1]
    refine Ev.ite (fun hc => ?_) (fun hc => ?_)
    · have e2 : IntKind.u16.wrap (((2 * a % 65536 : Nat) : Int) + 1) = (((2 * a + x[j].toNat) % 65536 : Nat) : Int) := by
        rw [show ((2 * a % 65536 : Nat) : Int) + 1 = ((2 * a % 65536 + 1 : Nat) : Int) by omega, u16_wrap, hc]
        simp
      rw [e2]
      exact ih _ (Nat.mod_lt _ (by decide))
    · have hf : x[j] = false := by simpa using hc
      have e2 : ((2 * a % 65536 : Nat) : Int) = (((2 * a + x[j].toNat) % 65536 : Nat) : Int) := by rw [hf]; simp
      rw [e2]
      exact ih _ (Nat.mod_lt _ (by decide))
theorem refSum_l2_ev (x : List Bool) (i n : Nat) (r : Int) (hx : x.length = n + 15) (hn : n < 1000000) (hi : i < n) (H : Ev (fun k => jackstayref03_Sum.l1 k refPolyL (refXL i 16 x) ((i + 1 : Nat) : Int)) r) :
    ∀ (d j : Nat), d + j = 16 → Ev (fun k => jackstayref03_Sum.l2 k refPolyL (refXL i j x) (i : Int) (j : Int)) r
  | 0, j, h => by
    refine Ev.next ?_
    simp only [jackstayref03_Sum.l2]
    have : j = 16 := by omega
    subst this
    refine Ev.neg (by decide) ?_
    rw [w64 (by omega) (by omega)]
    exact H
  | d + 1, j, h => by
    refine Ev.next ?_
    simp only [jackstayref03_Sum.l2]
    have hl : (refXL i j x).length = n + 15 := by rw [refXL_length, hx]
    rw [w64 (by omega) (by omega), w64 (by omega) (by omega), show (i : Int) + (j : Int) = ((i + j : Nat) : Int) by omega, show (j : Int) + 1 = ((j + 1 : Nat) : Int) by omega]
    refine Ev.pos (by omega) (Ev.pos (by omega) (Ev.pos (by rw [hl]; omega) (Ev.pos (by omega) (Ev.pos (by show (j : Int) < 16; omega) ?_))))
    rw [rdOf_getD, rdOf_getD, Int.toNat_natCast]
    exact refSum_l2_ev x i n r hx hn hi H d (j + 1) (by omega)
theorem refSum_l1_ev (x : List Bool) (n : Nat) (r : Int) (hx : x.length = n + 15) (hn : n < 1000000) (H : Ev (fun k => jackstayref03_Sum.l3 k (refDL n x) 0 (n : Int)) r) :
    ∀ (d i : Nat), d + i = n → Ev (fun k => jackstayref03_Sum.l1 k refPolyL (refDL i x) (i : Int)) r
  | 0, i, h => by
    refine Ev.next ?_
    simp only [jackstayref03_Sum.l1]
    have : i = n := by omega
    subst this
    have hl : (refDL i x).length = i + 15 := by rw [refDL_length, hx]
    rw [hl]
    refine Ev.neg (by rw [w64 (by omega) (by omega)]; omega) ?_
    rw [show ((i + 15 : Nat) : Int) - 15 = (i : Int) by omega, w64 (by omega) (by omega)]
    exact H
  | d + 1, i, h => by
    refine Ev.next ?_
    simp only [jackstayref03_Sum.l1]
    have hl : (refDL i x).length = n + 15 := by rw [refDL_length, hx]
    have ih := refSum_l1_ev x n r hx hn H d (i + 1) (by omega)
    rw [hl, w64 (by omega) (by omega), w64 (by omega) (by omega), show (i : Int) + 1 = ((i + 1 : Nat) : Int) by omega]
    refine Ev.pos (by omega) (Ev.pos (by omega) (Ev.pos (by omega) ?_))
    rw [rdOf_getD]
    have e : refDL (i + 1) x = if (refDL i x).getD i false = true then refXL i 16 (refDL i x) else refDL i x := rfl
    refine Ev.ite (fun hc => ?_) (fun hc => ?_)
    · rw [e, if_pos hc] at ih
      exact refSum_l2_ev (refDL i x) i n r hl hn (by omega) ih 16 0 rfl
    · rw [e, if_neg hc] at ih
      exact ih
theorem refSum_l0_ev (x : List Bool) (r : Int) (hx : x.length < 1000000) (H : Ev (fun k => jackstayref03_Sum.l1 k refPolyL (x ++ List.replicate 15 false) 0) r) :
    ∀ (d j : Nat), d + j = 15 → Ev (fun k => jackstayref03_Sum.l0 k refPolyL (x ++ List.replicate j false) (j : Int)) r
  | 0, j, h => by
    refine Ev.next ?_
    simp only [jackstayref03_Sum.l0]
    have : j = 15 := by omega
    subst this
    exact Ev.neg (by decide) H
  | d + 1, j, h => by
    refine Ev.next ?_
    simp only [jackstayref03_Sum.l0]
    have ih := refSum_l0_ev x r hx H d (j + 1) (by omega)
    refine Ev.pos (by omega) (Ev.pos (by rw [List.length_append, List.length_replicate]; omega) ?_)
    rw [w64 (by omega) (by omega), show (j : Int) + 1 = ((j + 1 : Nat) : Int) by omega, List.append_assoc, ← List.replicate_succ']
    exact ih
theorem jackstayref03_Sum.ev (l : List Bool) (hl : l.length < 100000) : Ev (fun k => jackstayref03_Sum.f k l) ((sumN 0 l : Nat) : Int) := by
  simp only [jackstayref03_Sum.f]
  refine Ev.pos (by simp; omega) ?_
  have hx : (l ++ List.replicate 15 false).length = l.length + 15 := by simp
  have h3 := refSum_l3_ev (refDL l.length (l ++ List.replicate 15 false)) (by rw [refDL_length, hx]; omega) 15 l.length 0 (by rw [refDL_length, hx]; omega) (by decide)
  rw [refDL_end, fold16_is _ 0 (by decide), Nat.zero_mul, Nat.zero_add, numN_bitsN] at h3
  have hs := sumN_lt l 0 (by decide)
  rw [Nat.mod_eq_of_lt (show sumN 0 l < 2 ^ 15 from hs), Nat.mod_eq_of_lt (by omega)] at h3
  have h1 := refSum_l1_ev (l ++ List.replicate 15 false) l.length _ hx (by omega) h3 l.length 0 (by omega)
  have h0 := refSum_l0_ev l _ (by omega) h1 15 0 rfl
  rw [List.replicate_zero, List.append_nil] at h0
  exact h0
theorem refBits_l0_ev (s : Nat) (hs : s < 65536) : ∀ (j : Nat) (acc : List Bool), j ≤ 15 → acc.length + j < 100 → Ev (fun k => jackstayref03_Bits.l0 k (s : Int) acc (((2 ^ j) / 2 : Nat) : Int)) (acc ++ bitsN j s)
  | 0, acc, _, _ => by
    refine Ev.next ?_
    simp only [jackstayref03_Bits.l0]
    refine Ev.neg (by decide) ?_
    simpa [bitsN] using Ev.now acc
  | j + 1, acc, h1, h2 => by
    refine Ev.next ?_
    simp only [jackstayref03_Bits.l0]
    have hp : (2 ^ (j + 1)) / 2 = 2 ^ j := by rw [Nat.pow_succ]; omega
    have hpos : 0 < 2 ^ j := Nat.two_pow_pos j
    have hle : 2 ^ j ≤ 2 ^ 14 := Nat.pow_le_pow_right (by decide) (by omega)
    rw [hp]
    refine Ev.pos (by omega) (Ev.neg (by omega) (Ev.pos (by omega) ?_))
    have e1 : IntKind.u16.wrap (Int.tdiv (s : Int) ((2 ^ j : Nat) : Int)) = ((s / 2 ^ j : Nat) : Int) := by
      rw [Int.tdiv_eq_ediv_of_nonneg (by omega), ← Int.natCast_ediv, u16_wrap]
      have := Nat.div_le_self s (2 ^ j)
      rw [Nat.mod_eq_of_lt (by omega)]
    have e2 : IntKind.u16.wrap (Int.tdiv ((2 ^ j : Nat) : Int) 2) = ((2 ^ j / 2 : Nat) : Int) := by
      rw [Int.tdiv_eq_ediv_of_nonneg (by omega), show ((2 ^ j : Nat) : Int) / 2 = ((2 ^ j / 2 : Nat) : Int) by omega, u16_wrap, Nat.mod_eq_of_lt (by omega)]
    have e3 : (Int.tmod ((s / 2 ^ j : Nat) : Int) 2 == 1) = s.testBit j := by
      rw [Int.tmod_eq_emod_of_nonneg (Int.natCast_nonneg _), Nat.testBit_eq_decide_div_mod_eq]
      generalize s / 2 ^ j = q
      rcases Nat.mod_two_eq_zero_or_one q with h | h
      · have : ((q : Int) % 2) = 0 := by omega
        simp [this, h]
      · have : ((q : Int) % 2) = 1 := by omega
        simp [this, h]
    rw [e1, e2, e3]
    refine (refBits_l0_ev s hs j (acc ++ [s.testBit j]) (by omega) (by simp; omega)).eq ?_
    simp [bitsN]
theorem jackstayref03_Bits.ev (s : Nat) (hs : s < 65536) : Ev (fun k => jackstayref03_Bits.f k (s : Int)) (bitsN 15 s) := by
  simp only [jackstayref03_Bits.f]
  exact (refBits_l0_ev s hs 15 [] (by decide) (by decide)).eq (by simp)
end Go.Proofs.Ytlkeipkehfgogaa.P
