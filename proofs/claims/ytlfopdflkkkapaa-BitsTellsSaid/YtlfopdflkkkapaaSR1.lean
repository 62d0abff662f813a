/- What the printed functions of the document's answer for layer 1 (jackstayref01) tell: the same as those of package bits. -/
import Derived.Test.YtlfopdflkkkapaaPx2
import Derived.Test.YtlfopdflkkkapaaPx3
import Derived.Test.YtlfopdflkkkapaaPx4
import Derived.Test.YtlfopdflkkkapaaSB
import Derived.Test.YtlfopdflkkkapaaSBy
namespace Go.Proofs.Ytlfopdflkkkapaa.P
open Go.RowKit Go.Proofs.YtlfopdflkkkapaaW.PrintWords Go.Proofs.YtlfopdflkkkapaaW.PrintLast Go.Proofs.YtlfopdflkkkapaaW.PrintMore Go.Proofs.Ytlfopdflkkkapaa.L
set_option linter.unusedSimpArgs false
theorem tmod_nat (a b : Nat) : Int.tmod (a : Int) (b : Int) = ((a % b : Nat) : Int) := rfl
theorem tdiv_nat (a b : Nat) : Int.tdiv (a : Int) (b : Int) = ((a / b : Nat) : Int) := rfl
theorem odd_bit (n : Nat) : ((Int.tmod (n : Int) 2) == 1) = n.testBit 0 := by
  rw [show Int.tmod (n : Int) 2 = ((n % 2 : Nat) : Int) from rfl, Nat.testBit_zero]
  rcases Nat.mod_two_eq_zero_or_one n with h | h <;> simp [h]
theorem jackstayref01_Of.l0_ev : ∀ (d i n : Nat) (acc : List Bool) (m : Nat), n < 2 ^ 32 → d + i = m → m ≤ 64 → acc.length = i → Ev (fun k => jackstayref01_Of.l0 k (n : Int) (m : Int) acc (i : Int)) (bitsN d n ++ acc)
  | 0, i, n, acc, m, hn, h, hm, ha => by
    refine Ev.next ?_
    simp only [jackstayref01_Of.l0]
    refine Ev.neg (by omega) ?_
    exact (Ev.now acc).eq (by simp [bitsN])
  | d + 1, i, n, acc, m, hn, h, hm, ha => by
    refine Ev.next ?_
    simp only [jackstayref01_Of.l0]
    refine Ev.pos (by omega) (Ev.some_bind (Ev.pos (by simp; omega) ?_))
    have e1 : Int.tdiv (n : Int) 2 % 4294967296 = ((n / 2 : Nat) : Int) := by rw [show Int.tdiv (n : Int) 2 = ((n / 2 : Nat) : Int) from rfl]; omega
    rw [odd_bit, e1, w64 (by omega) (by omega), show (i : Int) + 1 = ((i + 1 : Nat) : Int) by omega]
    refine (jackstayref01_Of.l0_ev d (i + 1) (n / 2) ([n.testBit 0] ++ acc) m (by omega) (by omega) hm (by simp; omega)).eq ?_
    rw [bitsN_snoc, List.append_assoc]
theorem jackstayref01_Of.l0_neg (n : Nat) (m : Int) (hm : m ≤ 0) : Ev (fun k => jackstayref01_Of.l0 k (n : Int) m [] 0) [] := by
  refine Ev.next ?_
  simp only [jackstayref01_Of.l0]
  exact Ev.neg (by omega) (Ev.now [])
theorem jackstayref01_Of.ev (n : Nat) (m : Int) (hn : n < 2 ^ 32) (r : Nat) (hr : (r : Int) = mx 0 (mn m 64)) : Ev (fun k => jackstayref01_Of.f k n m) (bitsN r n) := by
  have hj : ∀ q : Int, (q = 64 ∧ r = 64 ∨ q ≤ 64 ∧ (r : Int) = mx 0 q) → Ev (fun k => jackstayref01_Of.j0 k (n : Int) q) (bitsN r n) := by
    intro q hq
    refine Ev.next ?_
    simp only [jackstayref01_Of.j0]
    by_cases h0 : q ≤ 0
    · have : r = 0 := by rcases hq with ⟨_, _⟩ | ⟨_, h⟩; · omega
                         · unfold mx at h; split at h <;> omega
      subst this
      exact jackstayref01_Of.l0_neg n q h0
    · have hrq : q = (r : Int) := by rcases hq with ⟨_, _⟩ | ⟨_, h⟩; · omega
                                     · unfold mx at h; split at h <;> omega
      subst hrq
      exact (jackstayref01_Of.l0_ev r 0 n [] r hn (by omega) (by omega) rfl).eq (by simp)
  simp only [jackstayref01_Of.f]
  unfold mn at hr
  refine Ev.ite (fun h => hj 64 (.inl ⟨rfl, ?_⟩)) (fun h => hj m (.inr ⟨by omega, ?_⟩))
  · unfold mx at hr
    split at hr <;> split at hr <;> omega
  · rw [if_neg (by omega)] at hr
    exact hr
theorem numN_mod_drop (l : List Bool) (h : 32 ≤ l.length) : numN l % 4294967296 = numN (l.drop (l.length - 32)) := by
  have h1 : l = l.take (l.length - 32) ++ l.drop (l.length - 32) := (List.take_append_drop _ _).symm
  have h2 : (l.drop (l.length - 32)).length = 32 := by rw [List.length_drop]; omega
  have h3 := numN_lt (l.drop (l.length - 32))
  conv => lhs; rw [h1]
  rw [numN_append, h2] at *
  omega
theorem jackstayref01_Number.l0_ev (l : List Bool) (hl : l.length ≤ 32) : ∀ (i : Nat), i ≤ l.length →
    Ev (fun k => jackstayref01_Number.l0 k l ((numN (l.drop i) : Nat) : Int) (((2 ^ (l.length - i)) % 4294967296 : Nat) : Int) ((i : Int) - 1)) ((numN l : Nat) : Int)
  | 0, h => by
    refine Ev.next ?_
    simp only [jackstayref01_Number.l0]
    exact Ev.neg (by omega) (Ev.now _)
  | i + 1, h => by
    refine Ev.next ?_
    simp only [jackstayref01_Number.l0]
    have hi : i < l.length := by omega
    have e1 : ((i + 1 : Nat) : Int) - 1 = (i : Int) := by omega
    rw [e1, rdOf_at l i hi]
    refine Ev.pos (by omega) (Ev.pos (by omega) (Ev.pos (by omega) ?_))
    have ih := jackstayref01_Number.l0_ev l hl i (by omega)
    have hd : l.drop i = l[i] :: l.drop (i + 1) := (List.getElem_cons_drop (h := hi)).symm
    have hlt := numN_lt (l.drop i)
    rw [hd, numN_cons, List.length_drop, show l.length - (i + 1) = l.length - (i + 1) from rfl] at ih
    rw [hd, numN_cons, List.length_drop, List.length_cons, List.length_drop, Nat.pow_succ] at hlt
    have hp : 2 ^ (l.length - i) = 2 ^ (l.length - (i + 1)) * 2 := by rw [← Nat.pow_succ]; congr 1; omega
    have hpl : 2 ^ (l.length - (i + 1)) ≤ 2 ^ 31 := Nat.pow_le_pow_right (by decide) (by omega)
    rw [hp] at ih
    rw [w64 (by omega) (by omega)]
    generalize 2 ^ (l.length - (i + 1)) = w at *
    have e2 : ((w % 4294967296 : Nat) : Int) * 2 % 4294967296 = ((w * 2 % 4294967296 : Nat) : Int) := by omega
    rw [e2]
    refine Ev.ite (fun hc => ?_) (fun hc => ?_)
    · rw [hc] at ih hlt
      simp only [Bool.toNat_true, Nat.one_mul] at ih hlt
      have e3 : (((numN (l.drop (i + 1)) : Nat) : Int) + ((w % 4294967296 : Nat) : Int)) % 4294967296 = ((w + numN (l.drop (i + 1)) : Nat) : Int) := by omega
      rw [e3]
      exact ih
    · have hf : l[i] = false := by simpa using hc
      rw [hf] at ih
      simp only [Bool.toNat_false, Nat.zero_mul, Nat.zero_add] at ih
      exact ih
theorem jackstayref01_Number.ev (l : List Bool) (hl : l.length ≤ 9223372036854775806) : Ev (fun k => jackstayref01_Number.f k l) ((numN l % 4294967296 : Nat) : Int) := by
  have hj : ∀ q : List Bool, q.length ≤ 32 → Ev (fun k => jackstayref01_Number.j0 k q) ((numN q : Nat) : Int) := by
    intro q hq
    refine Ev.next ?_
    simp only [jackstayref01_Number.j0]
    have := jackstayref01_Number.l0_ev q hq q.length (Nat.le_refl _)
    rw [List.drop_of_length_le (Nat.le_refl _), Nat.sub_self] at this
    rw [w64 (by omega) (by omega)]
    exact this
  simp only [jackstayref01_Number.f]
  refine Ev.ite (fun h => ?_) (fun h => ?_)
  · have e : wrap64 ((l.length : Int) - 32) = ((l.length - 32 : Nat) : Int) := by rw [w64 (by omega) (by omega)]; omega
    rw [e]
    refine Ev.pos (by omega) (Ev.pos (by omega) ?_)
    rw [Int.toNat_natCast, numN_mod_drop l (by omega)]
    exact hj _ (by rw [List.length_drop]; omega)
  · have h1 := numN_lt l
    have h2 : 2 ^ l.length ≤ 2 ^ 32 := Nat.pow_le_pow_right (by decide) (by omega)
    refine (hj l (by omega)).eq ?_
    omega
/-- A byte's bits, by worth. -/
theorem byte_bit (x j : Nat) (hx : x < 256) : ((Int.tmod (wrap64 (Int.tdiv (x : Int) ((2 ^ j : Nat) : Int))) 2) == 1) = x.testBit j := by
  have hq := Nat.div_le_self x (2 ^ j)
  have e : wrap64 (Int.tdiv (x : Int) ((2 ^ j : Nat) : Int)) = ((x / 2 ^ j : Nat) : Int) := by
    rw [tdiv_nat]
    generalize x / 2 ^ j = q at *
    exact w64 (by omega) (by omega)
  rw [e, odd_bit, Nat.testBit_zero, Nat.testBit_eq_decide_div_mod_eq]
theorem jackstayref01_OfBytes.l_ev (b : List Nat) (hb : ∀ x ∈ b, x < 256) (hl : b.length < 17592186044415) : ∀ (d i : Nat) (acc : List Bool), d + i = b.length → acc.length = 8 * i →
    Ev (fun k => jackstayref01_OfBytes.l0 k (ints b) acc (i : Int)) (acc ++ bitsB (b.drop i))
  | 0, i, acc, h, ha => by
    refine Ev.next ?_
    simp only [jackstayref01_OfBytes.l0, length_ints]
    refine Ev.neg (by omega) ?_
    rw [List.drop_of_length_le (by omega)]
    exact (Ev.now acc).eq (by simp [bitsB])
  | d + 1, i, acc, h, ha => by
    have hi : i < b.length := by omega
    have hx : b[i] < 256 := hb _ (List.getElem_mem _)
    have inner : ∀ (j : Nat) (ac : List Bool), j ≤ 8 → ac.length + j = 8 * (i + 1) →
        Ev (fun k => jackstayref01_OfBytes.l1 k (ints b) ac (i : Int) ((b[i] : Nat) : Int) ((2 ^ j / 2 : Nat) : Int)) (ac ++ bitsN j b[i] ++ bitsB (b.drop (i + 1))) := by
      intro j
      induction j with
      | zero =>
        intro ac _ hac
        refine Ev.next ?_
        simp only [jackstayref01_OfBytes.l1]
        refine Ev.neg (by decide) ?_
        rw [w64 (by omega) (by omega), show (i : Int) + 1 = ((i + 1 : Nat) : Int) by omega]
        exact (jackstayref01_OfBytes.l_ev b hb hl d (i + 1) ac (by omega) (by omega)).eq (by simp [bitsN])
      | succ j ih =>
        intro ac hj hac
        have hp : 2 ^ (j + 1) / 2 = 2 ^ j := by rw [Nat.pow_succ]; omega
        have hpos := Nat.two_pow_pos j
        have hle : 2 ^ j ≤ 2 ^ 8 := Nat.pow_le_pow_right (by decide) (by omega)
        refine Ev.next ?_
        simp only [jackstayref01_OfBytes.l1]
        rw [hp, byte_bit _ j hx]
        refine Ev.pos (by omega) (Ev.neg (by omega) (Ev.pos (by omega) ?_))
        have e : wrap64 (Int.tdiv ((2 ^ j : Nat) : Int) 2) = ((2 ^ j / 2 : Nat) : Int) := by
          rw [show Int.tdiv ((2 ^ j : Nat) : Int) 2 = ((2 ^ j / 2 : Nat) : Int) from rfl]
          exact w64 (by omega) (by omega)
        rw [e]
        refine (ih (ac ++ [b[i].testBit j]) (by omega) (by simp; omega)).eq ?_
        simp [bitsN]
    refine Ev.next ?_
    simp only [jackstayref01_OfBytes.l0, length_ints]
    refine Ev.pos (by omega) (Ev.pos (by omega) ?_)
    rw [rd_nat rfl i hi, w64 (by omega) (by omega)]
    refine (inner 8 acc (Nat.le_refl _) (by omega)).eq ?_
    rw [show b.drop i = b[i] :: b.drop (i + 1) from (List.getElem_cons_drop (h := hi)).symm]
    simp only [bitsB, List.flatMap_cons, List.append_assoc]
theorem jackstayref01_OfBytes.ev (b : List Nat) (hb : ∀ x ∈ b, x < 256) (hl : b.length < 17592186044415) : Ev (fun k => jackstayref01_OfBytes.f k (ints b)) (bitsB b) := by
  simp only [jackstayref01_OfBytes.f]
  exact (jackstayref01_OfBytes.l_ev b hb hl b.length 0 [] (by omega) rfl).eq (by simp)
theorem jackstayref01_Bytes.l0_ev (l : List Bool) (hl : l.length ≤ 140737488355328) : ∀ (d i : Nat), d + i = l.length / 8 →
    Ev (fun k => jackstayref01_Bytes.l0 k l (ints ((bytesB l).take i)) ((8 * i : Nat) : Int)) (ints (bytesB l))
  | 0, i, h => by
    refine Ev.next ?_
    simp only [jackstayref01_Bytes.l0]
    rw [w64 (by omega) (by omega)]
    refine Ev.neg (by omega) ?_
    rw [List.take_of_length_le (by rw [length_bytesB]; omega)]
    exact Ev.now _
  | d + 1, i, h => by
    have hi : i < l.length / 8 := by omega
    refine Ev.next ?_
    simp only [jackstayref01_Bytes.l0]
    have e2 : wrap64 (((8 * i : Nat) : Int) + 8) = ((8 * i + 8 : Nat) : Int) := by rw [w64 (by omega) (by omega)]; omega
    rw [e2]
    refine Ev.pos (by omega) (Ev.pos (by omega) (Ev.pos (by omega) ?_))
    simp only [Int.toNat_natCast]
    have e3 : (l.take (8 * i + 8)).drop (8 * i) = (l.drop (8 * i)).take 8 := by rw [List.drop_take]; congr 1; omega
    rw [e3]
    refine Ev.bind (jackstayref01_Number.ev _ (by rw [List.length_take, List.length_drop]; omega)) ?_
    rw [byte_num _ (by rw [List.length_take]; omega)]
    refine Ev.pos (by rw [length_ints, List.length_take, length_bytesB]; omega) ?_
    have := jackstayref01_Bytes.l0_ev l hl d (i + 1) (by omega)
    rw [bytesB_take_succ l i hi, ints_append] at this
    exact this
theorem jackstayref01_Bytes.ev (l : List Bool) (hl : l.length ≤ 140737488355328) : Ev (fun k => jackstayref01_Bytes.f k l) (ints (bytesB l)) := by
  simp only [jackstayref01_Bytes.f]
  exact (jackstayref01_Bytes.l0_ev l hl (l.length / 8) 0 (by omega)).eq rfl
theorem all_count (l : List Bool) : (l.all id) = decide (l.countP id = l.length) := by
  rw [Bool.eq_iff_iff, decide_eq_true_iff, List.all_eq_true, List.countP_eq_length]
theorem jackstayref01_Bus.l0_ev (l : List Bool) (hl : l.length ≤ 9223372036854775806) : ∀ (d i : Nat), d + i = l.length →
    Ev (fun k => jackstayref01_Bus.l0 k l (((l.take i).countP id : Nat) : Int) (i : Int)) (l.all id)
  | 0, i, h => by
    refine Ev.next ?_
    simp only [jackstayref01_Bus.l0]
    refine Ev.neg (by omega) ?_
    rw [List.take_of_length_le (by omega)]
    refine (Ev.now _).eq ?_
    rw [all_count, Bool.eq_iff_iff, decide_eq_true_iff, beq_iff_eq]
    omega
  | d + 1, i, h => by
    have hi : i < l.length := by omega
    refine Ev.next ?_
    simp only [jackstayref01_Bus.l0]
    rw [rdOf_at l i hi]
    refine Ev.pos (by omega) (Ev.pos (by omega) ?_)
    have ih := jackstayref01_Bus.l0_ev l hl d (i + 1) (by omega)
    have ht : l.take (i + 1) = l.take i ++ [l[i]] := (List.take_append_getElem hi).symm
    have hc0 := List.countP_le_length (p := id) (l := l.take i)
    rw [List.length_take] at hc0
    rw [ht, List.countP_append] at ih
    rw [w64 (x := (i : Int) + 1) (by omega) (by omega), show (i : Int) + 1 = ((i + 1 : Nat) : Int) by omega, w64 (by omega) (by omega)]
    refine Ev.ite (fun hc => ?_) (fun hc => ?_)
    · rw [hc] at ih
      have e : ((List.countP id (l.take i) + List.countP id [true] : Nat) : Int) = ((List.countP id (l.take i) : Nat) : Int) + 1 := by simp
      rw [e] at ih
      exact ih
    · have hf : l[i] = false := by simpa using hc
      rw [hf] at ih
      have e : ((List.countP id (l.take i) + List.countP id [false] : Nat) : Int) = ((List.countP id (l.take i) : Nat) : Int) := by simp
      rw [e] at ih
      exact ih
theorem jackstayref01_Bus.ev (l : List Bool) (hl : l.length ≤ 9223372036854775806) : Ev (fun k => jackstayref01_Bus.f k l) (l.all id) := by
  simp only [jackstayref01_Bus.f]
  exact (jackstayref01_Bus.l0_ev l hl l.length 0 (by omega)).eq rfl
end Go.Proofs.Ytlfopdflkkkapaa.P
