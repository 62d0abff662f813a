/- Plain laws on the check sum: a step is linear over 'without carry', it is undone by nothing but itself, and keeps whether there is an odd number of ones. No program in sight. -/
import Derived.Test.YtlkeipkehfgogaaLB
namespace Go.Proofs.Ytlkeipkehfgogaa.L
/-- One bit more. -/
def crcN (s : Nat) (b : Bool) : Nat := if (s.testBit 14 != b) = true then (2 * s % 32768) ^^^ 17817 else 2 * s % 32768
def sumN (s : Nat) (l : List Bool) : Nat := l.foldl crcN s
theorem sumN_append (s : Nat) (a b : List Bool) : sumN s (a ++ b) = sumN (sumN s a) b := by simp [sumN]
theorem crcN_lt (s : Nat) (b : Bool) : crcN s b < 32768 := by
  unfold crcN
  split
  · exact Nat.xor_lt_two_pow (n := 15) (by omega) (by decide)
  · omega
theorem sumN_lt (l : List Bool) : ∀ s, s < 32768 → sumN s l < 32768 := by
  induction l with
  | nil => exact fun s h => h
  | cons b l ih => exact fun s _ => ih _ (crcN_lt s b)
theorem crcN_low (s : Nat) (b : Bool) : crcN (s % 32768) b = crcN s b := by
  unfold crcN
  rw [show s % 32768 = s % 2 ^ 15 from rfl, Nat.testBit_mod_two_pow]
  simp only [show (14 < 15) = True by simp, decide_true, Bool.true_and]
  have : 2 * (s % 2 ^ 15) % 32768 = 2 * s % 32768 := by omega
  rw [this]
theorem xor_shift (s t : Nat) : 2 * (s ^^^ t) % 32768 = (2 * s % 32768) ^^^ (2 * t % 32768) := by
  apply Nat.eq_of_testBit_eq
  intro i
  have h : ∀ x : Nat, (2 * x % 32768).testBit i = (decide (i < 15) && ((2 * x).testBit i)) := fun x => by
    rw [show (32768 : Nat) = 2 ^ 15 from rfl, Nat.testBit_mod_two_pow]
  rw [Nat.testBit_xor, h, h, h]
  cases i with
  | zero => simp
  | succ i =>
    have h2 : ∀ x : Nat, (2 * x).testBit (i + 1) = x.testBit i := fun x => by rw [Nat.testBit_succ, Nat.mul_div_cancel_left _ (by decide)]
    rw [h2, h2, h2, Nat.testBit_xor]
    cases decide (i + 1 < 15) <;> simp
theorem xor_swap (a b c d : Nat) : (a ^^^ b) ^^^ (c ^^^ d) = (a ^^^ c) ^^^ (b ^^^ d) := by
  rw [Nat.xor_assoc, ← Nat.xor_assoc b c d, Nat.xor_comm b c, Nat.xor_assoc c b d, ← Nat.xor_assoc]
theorem crcN_xor (s t : Nat) (a b : Bool) : crcN (s ^^^ t) (a != b) = crcN s a ^^^ crcN t b := by
  unfold crcN
  rw [xor_shift, Nat.testBit_xor]
  generalize 2 * s % 32768 = x
  generalize 2 * t % 32768 = y
  cases s.testBit 14 <;> cases t.testBit 14 <;> cases a <;> cases b <;> simp
  all_goals first
    | (rw [Nat.xor_assoc]; done)
    | (rw [Nat.xor_assoc x 17817 y, Nat.xor_comm 17817 y, ← Nat.xor_assoc]; done)
    | (rw [Nat.xor_assoc, Nat.xor_assoc, Nat.xor_comm 17817 (y ^^^ 17817), Nat.xor_assoc y, Nat.xor_self, Nat.xor_zero]; done)
    | (rw [xor_swap x 17817 y 17817, Nat.xor_self, Nat.xor_zero]; done)
/-- Two rows, bit by bit without carry. -/
def zipX (a b : List Bool) : List Bool := List.zipWith (fun x y => x != y) a b
theorem sumN_zipX : ∀ (a b : List Bool) (s t : Nat), a.length = b.length → sumN (s ^^^ t) (zipX a b) = sumN s a ^^^ sumN t b
  | [], [], _, _, _ => rfl
  | [], _ :: _, _, _, h => by cases h
  | _ :: _, [], _, _, h => by cases h
  | x :: a, y :: b, s, t, h => by
    show sumN (crcN (s ^^^ t) (x != y)) (zipX a b) = sumN (crcN s x) a ^^^ sumN (crcN t y) b
    rw [crcN_xor]
    exact sumN_zipX a b _ _ (by simpa using h)
/-- A sum's own bits, the highest one first, take it away. -/
theorem sumN_own : ∀ (m s : Nat), m ≤ 15 → s < 2 ^ m → sumN (s * 2 ^ (15 - m)) (bitsN m s) = 0
  | 0, s, _, h => by
    have : s = 0 := by omega
    subst this
    rfl
  | m + 1, s, hm, h => by
    have hb : (s * 2 ^ (15 - (m + 1))).testBit 14 = s.testBit m := by
      rw [Nat.testBit_mul_two_pow]
      rw [show 14 - (15 - (m + 1)) = m by omega]
      simp
    show sumN (crcN (s * 2 ^ (15 - (m + 1))) (s.testBit m)) (bitsN m s) = 0
    have hc : crcN (s * 2 ^ (15 - (m + 1))) (s.testBit m) = (s % 2 ^ m) * 2 ^ (15 - m) := by
      unfold crcN
      rw [hb]
      simp only [bne_self_eq_false, Bool.false_eq_true, if_false]
      have e1 : 2 * (s * 2 ^ (15 - (m + 1))) = s * 2 ^ (15 - m) := by
        rw [show 15 - m = (15 - (m + 1)) + 1 by omega, Nat.pow_succ, Nat.mul_comm 2, Nat.mul_assoc]
      rw [e1, show (32768 : Nat) = 2 ^ m * 2 ^ (15 - m) by rw [← Nat.pow_add, show m + (15 - m) = 15 by omega], Nat.mul_mod_mul_right]
    rw [hc, ← bitsN_mod m m s (Nat.le_refl _)]
    exact sumN_own m _ (by omega) (Nat.mod_lt _ (Nat.two_pow_pos _))
theorem sumN_whole (l : List Bool) : sumN 0 (l ++ bitsN 15 (sumN 0 l)) = 0 := by
  have h := sumN_lt l 0 (by decide)
  rw [sumN_append]
  have := sumN_own 15 (sumN 0 l) (by decide) (by simpa using h)
  simpa using this
/-- Whether there is an odd number of ones. -/
def par (l : List Bool) : Bool := l.foldl (fun a b => a != b) false
theorem foldl_par (l : List Bool) : ∀ a : Bool, l.foldl (fun a b => a != b) a = (a != par l) := by
  induction l with
  | nil => intro a; simp [par]
  | cons b l ih =>
    intro a
    unfold par
    rw [List.foldl_cons, List.foldl_cons, ih, ih (false != b)]
    cases a <;> cases b <;> simp
theorem par_cons (b : Bool) (l : List Bool) : par (b :: l) = (b != par l) := by
  show List.foldl _ _ (b :: l) = _
  rw [List.foldl_cons, foldl_par]
  simp
theorem par_append (a b : List Bool) : par (a ++ b) = (par a != par b) := by
  induction a with
  | nil => simp [par]
  | cons x a ih => rw [List.cons_append, par_cons, par_cons, ih]; cases x <;> cases par a <;> cases par b <;> rfl
theorem par_bits_xor : ∀ (m a b : Nat), par (bitsN m (a ^^^ b)) = (par (bitsN m a) != par (bitsN m b))
  | 0, _, _ => rfl
  | m + 1, a, b => by
    show par ((a ^^^ b).testBit m :: bitsN m (a ^^^ b)) = (par (a.testBit m :: bitsN m a) != par (b.testBit m :: bitsN m b))
    rw [par_cons, par_cons, par_cons, par_bits_xor m a b, Nat.testBit_xor]
    cases a.testBit m <;> cases b.testBit m <;> cases par (bitsN m a) <;> cases par (bitsN m b) <;> rfl
theorem par_step (s : Nat) (b : Bool) : par (bitsN 15 (crcN s b)) = (par (bitsN 15 s) != b) := by
  have h1 : par (bitsN 15 (2 * s % 32768)) = par (bitsN 14 s) := by
    rw [show (32768 : Nat) = 2 ^ 15 from rfl, bitsN_mod 15 15 _ (Nat.le_refl _), show (15 : Nat) = 14 + 1 from rfl, bitsN_snoc, par_append, Nat.mul_div_cancel_left _ (by decide)]
    simp [par]
  have h2 : par (bitsN 15 s) = (s.testBit 14 != par (bitsN 14 s)) := par_cons _ _
  have h3 : par (bitsN 15 17817) = true := by decide
  unfold crcN
  rw [h2]
  by_cases hc : (s.testBit 14 != b) = true
  · rw [if_pos hc, par_bits_xor, h1, h3]
    revert hc
    cases s.testBit 14 <;> cases b <;> cases par (bitsN 14 s) <;> simp
  · rw [if_neg hc, h1]
    revert hc
    cases s.testBit 14 <;> cases b <;> cases par (bitsN 14 s) <;> simp
theorem par_sum (l : List Bool) : ∀ s, par (bitsN 15 (sumN s l)) = (par (bitsN 15 s) != par l) := by
  induction l with
  | nil => intro s; simp [sumN, par]
  | cons b l ih =>
    intro s
    show par (bitsN 15 (sumN (crcN s b) l)) = _
    rw [ih, par_step, par_cons]
    cases par (bitsN 15 s) <;> cases b <;> cases par l <;> rfl
/-- A dominant bit more leaves nothing out of something. -/
theorem crcN_zero {s : Nat} (h : s < 32768) (hz : crcN s false = 0) : s = 0 := by
  unfold crcN at hz
  have ht := Nat.testBit_eq_decide_div_mod_eq (x := s) (i := 14)
  by_cases hb : s.testBit 14 = true
  · rw [hb] at hz
    simp only [Bool.true_bne, Bool.not_false, if_true] at hz
    have h0 : (2 * s % 32768).testBit 0 = (17817 : Nat).testBit 0 := by
      have := congrArg (fun x => Nat.testBit x 0) hz
      rw [Nat.testBit_xor] at this
      revert this
      cases (2 * s % 32768).testBit 0 <;> decide
    rw [Nat.testBit_zero] at h0
    have : 2 * s % 32768 % 2 = 0 := by omega
    simp [this] at h0
  · have hf : s.testBit 14 = false := by simpa using hb
    rw [hf] at hz ht
    simp only [bne_self_eq_false, Bool.false_eq_true, if_false] at hz
    have h14 : ¬ (s / 2 ^ 14 % 2 = 1) := by simpa using ht.symm
    omega
theorem sumN_zeros : ∀ (n s : Nat), s < 32768 → sumN s (List.replicate n false) = 0 → s = 0
  | 0, _, _, h => h
  | n + 1, s, hs, h => crcN_zero hs (sumN_zeros n _ (crcN_lt s false) h)
theorem sumN_zero_zeros : ∀ n : Nat, sumN 0 (List.replicate n false) = 0
  | 0 => rfl
  | n + 1 => by show sumN (crcN 0 false) _ = 0; exact sumN_zero_zeros n
/-- Up to 15 bits out of nothing leave nothing just if they are all dominant. -/
theorem sumN_burst (l : List Bool) (hl : l.length ≤ 15) (h : sumN 0 l = 0) : l = List.replicate l.length false := by
  have hp : sumN 0 (l ++ List.replicate (15 - l.length) false) = 0 := by rw [sumN_append, h]; exact sumN_zero_zeros _
  generalize hv : l ++ List.replicate (15 - l.length) false = v at hp
  have hvl : v.length = 15 := by rw [← hv]; simp; omega
  have hn : numN v < 32768 := by have := numN_lt v; rw [hvl] at this; simpa using this
  have h1 : sumN (numN v) v = 0 := by
    have := sumN_own 15 (numN v) (by decide) (by simpa using hn)
    have hb := bitsN_numN v
    rw [hvl] at hb
    rw [hb] at this
    simpa using this
  have h2 : sumN (numN v) (List.replicate 15 false) = 0 := by
    have hz := sumN_zipX v v (numN v) 0 rfl
    have hzz : zipX v v = List.replicate 15 false := by
      apply List.ext_getElem
      · simp [zipX, hvl]
      · intro i _ h; rw [List.getElem_replicate]; simp [zipX]
    rw [hzz, h1, hp, Nat.xor_zero] at hz
    simpa using hz
  have h3 := sumN_zeros 15 _ hn h2
  have h4 : v = List.replicate 15 false := by
    rw [← bitsN_numN v, h3, hvl]
    decide
  have h5 : l = v.take l.length := by rw [← hv, List.take_left]
  rw [h4] at h5
  conv => lhs; rw [h5]
  rw [List.take_replicate, Nat.min_eq_left hl]
/-- Two rows that differ within 15 bits have different sums just if they differ. -/
theorem sum_burst (a c d m : List Bool) (h : c.length = d.length) (hl : c.length ≤ 15) : sumN 0 (a ++ c ++ m) = sumN 0 (a ++ d ++ m) ↔ c = d := by
  constructor
  · intro he
    have hz := sumN_zipX (a ++ c ++ m) (a ++ d ++ m) 0 0 (by simp [h])
    rw [he] at hz
    have hx : zipX (a ++ c ++ m) (a ++ d ++ m) = List.replicate a.length false ++ zipX c d ++ List.replicate m.length false := by
      have hs : ∀ l : List Bool, zipX l l = List.replicate l.length false := fun l => by
        apply List.ext_getElem
        · simp [zipX]
        · intro i _ _; simp [zipX]
      unfold zipX at *
      rw [List.zipWith_append (by simp [h]), List.zipWith_append rfl, hs, hs]
    rw [hx, sumN_append, sumN_append, Nat.xor_self, Nat.xor_self, sumN_zero_zeros] at hz
    have h1 := sumN_zeros _ _ (sumN_lt _ 0 (by decide)) hz
    have h2 := sumN_burst (zipX c d) (by simp [zipX]; omega) h1
    apply List.ext_getElem h
    intro i h3 h4
    have h5 : (zipX c d)[i]'(by simp [zipX]; omega) = false := by
      have := congrArg (fun l : List Bool => l[i]?) h2
      simp only [List.getElem?_replicate] at this
      rw [List.getElem?_eq_getElem (by simp [zipX]; omega), if_pos (by simp [zipX]; omega)] at this
      exact Option.some.inj this
    simpa [zipX] using h5
  · rintro rfl; rfl
end Go.Proofs.Ytlkeipkehfgogaa.L
