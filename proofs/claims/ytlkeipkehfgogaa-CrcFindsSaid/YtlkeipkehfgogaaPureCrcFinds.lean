/- The statement over numbers and lists that is left of the law CrcFinds: bits that differ from others within 15 bits beside one another have another sum, and so do those that differ in an odd number of bits. -/
import Derived.Test.YtlkeipkehfgogaaStCrcFinds
import Derived.Test.YtlkeipkehfgogaaGAwake3
import Derived.Test.YtlkeipkehfgogaaGAnew
import Derived.Test.YtlkeipkehfgogaaSL
import Derived.Test.YtlkeipkehfgogaaSC
namespace Go.Proofs.Ytlkeipkehfgogaa.Pure
open Go.RowKit Go.Proofs.YtlkeipkehfgogaaW.PrintWords Go.Proofs.YtlkeipkehfgogaaW.PrintLast Go.Proofs.YtlkeipkehfgogaaW.PrintMore Go.Proofs.Ytlkeipkehfgogaa.L Go.Proofs.Ytlkeipkehfgogaa.P
set_option linter.unusedSimpArgs false
theorem awakeF : Ev (fun _ => jackstaylaw03_awake.f) true := Ev.const rfl
theorem par_count (l : List Bool) : par l = decide (l.countP id % 2 = 1) := by
  induction l with
  | nil => rfl
  | cons b l ih =>
    rw [par_cons, ih, List.countP_cons]
    cases b
    · simp
    · rcases Nat.mod_two_eq_zero_or_one (l.countP id) with h | h
      · have : (l.countP id + 1) % 2 = 1 := by omega
        simp [h, this]
      · have : (l.countP id + 1) % 2 = 0 := by omega
        simp [h, this]
theorem par_zipX : ∀ (a b : List Bool), a.length = b.length → par (zipX a b) = (par a != par b)
  | [], [], _ => rfl
  | [], _ :: _, h => by cases h
  | _ :: _, [], h => by cases h
  | x :: a, y :: b, h => by
    show par ((x != y) :: zipX a b) = _
    rw [par_cons, par_cons, par_cons, par_zipX a b (by simpa using h)]
    cases x <;> cases y <;> cases par a <;> cases par b <;> rfl
theorem odd_differ (a b : List Bool) (h : a.length = b.length) (ho : (zipX a b).countP id % 2 = 1) : sumN 0 a ≠ sumN 0 b := by
  intro he
  have h1 := par_sum a 0
  have h2 := par_sum b 0
  rw [he, h2] at h1
  have h3 := par_zipX a b h
  rw [par_count, ho] at h3
  revert h1 h3
  cases par (bitsN 15 0) <;> cases par a <;> cases par b <;> simp
/-- What the first loop keeps. -/
structure Inv (l m : List Bool) (k i : Nat) (turned : Bool) : Prop where
  len : m.length = l.length
  out : ∀ p, p < k ∨ k + 15 ≤ p → m[p]? = l[p]?
  ahead : ∀ p, k + i ≤ p → m[p]? = l[p]?
  no : turned = false → m = l
  yes : turned = true → ∃ p, p < k + i ∧ m[p]? ≠ l[p]?
theorem Inv.keep {l m : List Bool} {k i : Nat} {t : Bool} (h : Inv l m k i t) : Inv l m k (i + 1) t :=
  ⟨h.len, h.out, fun p hp => h.ahead p (by omega), h.no, fun ht => by obtain ⟨p, hp, hne⟩ := h.yes ht; exact ⟨p, by omega, hne⟩⟩
theorem Inv.turn {l m : List Bool} {k i : Nat} {t : Bool} (h : Inv l m k i t) (hi : i < 15) (hk : k + i < m.length) : Inv l (m.set (k + i) (!m[k + i])) k (i + 1) true := by
  refine ⟨by rw [List.length_set, h.len], fun p hp => ?_, fun p hp => ?_, fun hf => (by cases hf), fun _ => ⟨k + i, by omega, ?_⟩⟩
  · rw [List.getElem?_set_ne (by omega)]; exact h.out p hp
  · rw [List.getElem?_set_ne (by omega)]; exact h.ahead p (by omega)
  · have h1 := h.ahead (k + i) (Nat.le_refl _)
    rw [List.getElem?_set_self hk, ← h1, List.getElem?_eq_getElem hk]
    intro he
    have := Option.some.inj he
    revert this
    cases m[k + i] <;> simp
theorem Inv.sums {l m : List Bool} {k i : Nat} {t : Bool} (h : Inv l m k i t) (_hk : k ≤ l.length) : ((((sumN 0 m : Nat) : Int) != ((sumN 0 l : Nat) : Int)) != t) = false := by
  cases t with
  | false => rw [h.no rfl]; simp
  | true =>
    obtain ⟨p, hp, hne⟩ := h.yes rfl
    have hml : m ≠ l := fun he => hne (by rw [he])
    have hparts : ∀ x : List Bool, x = x.take k ++ (x.drop k).take 15 ++ x.drop (k + 15) := fun x => by
      rw [List.append_assoc, ← List.drop_drop, List.take_append_drop, List.take_append_drop]
    have ht : m.take k = l.take k := by
      apply List.ext_getElem?
      intro q
      rw [List.getElem?_take, List.getElem?_take]
      split
      · exact h.out q (.inl (by omega))
      · rfl
    have hd : m.drop (k + 15) = l.drop (k + 15) := by
      apply List.ext_getElem?
      intro q
      rw [List.getElem?_drop, List.getElem?_drop]
      exact h.out _ (.inr (by omega))
    have hs := sum_burst (l.take k) ((m.drop k).take 15) ((l.drop k).take 15) (l.drop (k + 15)) (by simp [h.len]) (by simp; omega)
    have hm : m = l.take k ++ (m.drop k).take 15 ++ l.drop (k + 15) := by
      have h1 := hparts m
      rw [ht, hd] at h1
      exact h1
    have hne2 : sumN 0 m ≠ sumN 0 l := by
      intro he
      have h1 := hs.1 ((congrArg (sumN 0) hm).symm.trans (he.trans (congrArg (sumN 0) (hparts l))))
      rw [h1] at hm
      exact hml (hm.trans (hparts l).symm)
    have hne3 : (((sumN 0 m : Nat) : Int) != ((sumN 0 l : Nat) : Int)) = true := by rw [bne_iff_ne]; omega
    rw [hne3]; rfl
theorem rd_in (l : List Int) (i : Nat) (h : i < l.length) : ∃ x ∈ l, rd l (i : Int) = x := by
  refine ⟨l[i], List.getElem_mem h, ?_⟩
  simp [rd, List.getD_eq_getElem?_getD, h]
theorem CrcFinds_l2 (l n : List Bool) (hn : n.length = l.length) (hl : l.length ≤ 500) : ∀ (d i c : Nat), d + i = n.length → c = (zipX (n.take i) (l.take i)).countP id → c ≤ i →
    Ev (fun k => jackstaylaw03_CrcFinds.l2 k l n (c : Int) (n.length : Int) (i : Int)) true
  | 0, i, c, h, hc, hci => by
    refine Ev.next ?_
    simp only [jackstaylaw03_CrcFinds.l2]
    refine Ev.neg (by omega) ?_
    rw [List.take_of_length_le (by omega), List.take_of_length_le (by omega)] at hc
    have ht : Int.tmod (c : Int) 2 = ((c % 2 : Nat) : Int) := rfl
    rw [ht]
    refine Ev.ite (fun _ => Ev.bind awakeF (Ev.now true)) (fun ho => ?_)
    have hs := odd_differ n l hn (by omega)
    refine Ev.bind (crc_Sum.ev n) (Ev.bind (crc_Sum.ev l) (Ev.neg (by omega) (Ev.bind awakeF (Ev.now true))))
  | d + 1, i, c, h, hc, hci => by
    refine Ev.next ?_
    simp only [jackstaylaw03_CrcFinds.l2]
    refine Ev.pos (by omega) (Ev.pos (by omega) (Ev.pos (by omega) (Ev.pos (by omega) ?_)))
    rw [rdOf_at n i (by omega), rdOf_at l i (by omega)]
    have hz : (zipX (n.take (i + 1)) (l.take (i + 1))).countP id = c + if (n[i]'(by omega) != l[i]'(by omega)) = true then 1 else 0 := by
      rw [hc, ← List.take_append_getElem (show i < n.length by omega), ← List.take_append_getElem (show i < l.length by omega)]
      unfold zipX
      rw [List.zipWith_append (by simp; omega), List.countP_append]
      simp [List.countP_cons]
    rw [w64 (x := (i : Int) + 1) (by omega) (by omega), show (i : Int) + 1 = ((i + 1 : Nat) : Int) by omega]
    refine Ev.ite (fun ho => ?_) (fun ho => ?_)
    · rw [w64 (by omega) (by omega), show (c : Int) + 1 = ((c + 1 : Nat) : Int) by omega]
      exact CrcFinds_l2 l n hn hl d (i + 1) (c + 1) (by omega) (by rw [hz, if_pos ho]) (by omega)
    · exact CrcFinds_l2 l n hn hl d (i + 1) c (by omega) (by rw [hz, if_neg ho]; rfl) (by omega)
theorem CrcFinds_l1 (l : List Bool) (h0 : 0 < l.length) (hl : l.length ≤ 500) (ps : List Int) (hp : ∀ x ∈ ps, 0 ≤ x ∧ x ≤ 65535) (hps : ps.length ≤ 31) : ∀ (d i : Nat), d + i = ps.length → ∀ n : List Bool, n.length = l.length →
    Ev (fun k => jackstaylaw03_CrcFinds.l1 k l n 0 ps (ps.length : Int) (i : Int)) true
  | 0, i, h, n, hn => by
    refine Ev.next ?_
    simp only [jackstaylaw03_CrcFinds.l1]
    refine Ev.neg (by omega) ?_
    exact CrcFinds_l2 l n hn hl n.length 0 0 (by omega) (by simp [zipX]) (by omega)
  | d + 1, i, h, n, hn => by
    refine Ev.next ?_
    simp only [jackstaylaw03_CrcFinds.l1]
    refine Ev.pos (by omega) (Ev.pos (by omega) (Ev.pos (by omega) (Ev.neg (by omega) ?_)))
    obtain ⟨x, hx, hr⟩ := rd_in ps i (by omega)
    have hb := hp x hx
    rw [hr, w64 (by omega) (by omega)]
    have hm : 0 ≤ Int.tmod x (n.length : Int) := Int.tmod_nonneg _ hb.1
    have hm2 : Int.tmod x (n.length : Int) < (n.length : Int) := Int.tmod_lt_of_pos _ (by omega)
    refine Ev.pos hm (Ev.pos hm2 ?_)
    rw [w64 (by omega) (by omega), show (i : Int) + 1 = ((i + 1 : Nat) : Int) by omega]
    exact CrcFinds_l1 l h0 hl ps hp hps d (i + 1) (by omega) _ (by rw [List.length_set, hn])
theorem CrcFinds_l0 (l : List Bool) (ps : List Int) (h0 : 0 < l.length) (hl : l.length ≤ 500) (hp : ∀ x ∈ ps, 0 ≤ x ∧ x ≤ 65535) (a : Nat) (ha : a < l.length) (bs : List Bool) (hbs : bs.length < 9000000000000000000) : ∀ (d i : Nat), d + i = bs.length → ∀ (m : List Bool) (t : Bool), Inv l m a i t → (15 ≤ i → Inv l m a 15 t) →
    Ev (fun k => jackstaylaw03_CrcFinds.l0 k l ps m (a : Int) t bs (bs.length : Int) (i : Int)) true
  | 0, i, h, m, t, hi, _ => by
    refine Ev.next ?_
    simp only [jackstaylaw03_CrcFinds.l0]
    refine Ev.neg (by omega) ?_
    refine Ev.bind (crc_Sum.ev m) (Ev.bind (crc_Sum.ev l) (Ev.neg (by rw [hi.sums (by omega)]; decide) ?_))
    refine Ev.bind (jackstaylow_Anew.ev l (by omega)) ?_
    have hmn : 0 ≤ mn (ps.length : Int) 31 ∧ mn (ps.length : Int) 31 ≤ (ps.length : Int) ∧ mn (ps.length : Int) 31 ≤ 31 := by unfold mn; split <;> omega
    refine Ev.pos hmn.1 (Ev.pos hmn.2.1 ?_)
    refine CrcFinds_l1 l h0 hl _ (fun x hx => hp x (List.mem_of_mem_take hx)) ?_ _ 0 (Nat.add_zero _) l rfl
    rw [List.length_take]
    omega
  | d + 1, i, h, m, t, hi, h15 => by
    refine Ev.next ?_
    simp only [jackstaylaw03_CrcFinds.l0]
    refine Ev.pos (by omega) (Ev.pos (by omega) (Ev.pos (by omega) ?_))
    rw [w64 (x := (i : Int) + 1) (by omega) (by omega), show (i : Int) + 1 = ((i + 1 : Nat) : Int) by omega]
    have hkeep : ∀ x, x = 15 → 15 ≤ i + 1 → (15 ≤ i → Inv l m a 15 t) → Inv l m a 15 t := fun _ _ h1 h2 => by
      by_cases hc : 15 ≤ i
      · exact h2 hc
      · have : i = 14 := by omega
        subst this
        exact hi.keep
    refine Ev.ite (fun h1 => ?_) (fun _ => CrcFinds_l0 l ps h0 hl hp a ha bs hbs d (i + 1) (by omega) m t hi.keep (fun hc => hkeep 15 rfl hc h15))
    refine Ev.ite (fun h2 => ?_) (fun _ => CrcFinds_l0 l ps h0 hl hp a ha bs hbs d (i + 1) (by omega) m t hi.keep (fun hc => hkeep 15 rfl hc h15))
    rw [w64 (by omega) (by omega), show (a : Int) + (i : Int) = ((a + i : Nat) : Int) by omega]
    refine Ev.ite (fun h3 => ?_) (fun _ => CrcFinds_l0 l ps h0 hl hp a ha bs hbs d (i + 1) (by omega) m t hi.keep (fun hc => hkeep 15 rfl hc h15))
    refine Ev.pos (by omega) ?_
    rw [Int.toNat_natCast, rdOf_at m (a + i) (by omega)]
    have ht := hi.turn (by omega) (by omega)
    refine CrcFinds_l0 l ps h0 hl hp a ha bs hbs d (i + 1) (by omega) _ true ht (fun hc => ?_)
    have : i = 14 := by omega
    subst this
    exact ht
theorem CrcFinds : jackstaylaw03_CrcFinds.Pure := by
  rintro x0 x1 x2 x3 ⟨-, h0⟩ h1 ⟨-, h2⟩ ⟨h3, h3l⟩
  have h1 := wf_u16 h1
  unfold reachBytes at h0 h2 h3l
  refine Ev.rounds ?_
  have hp : ∀ x ∈ x3, 0 ≤ x ∧ x ≤ 65535 := fun x hx => wf_u16 (h3 x hx)
  simp only [jackstaylaw03_CrcFinds.f]
  refine Ev.ite (fun h => ?_) (fun h => ?_)
  · refine Ev.next ?_
    simp only [jackstaylaw03_CrcFinds.j0]
    refine Ev.pos (by first | rfl | trivial) (Ev.bind awakeF (Ev.now true))
  · refine Ev.next ?_
    simp only [jackstaylaw03_CrcFinds.j0]
    refine Ev.ite (fun _ => Ev.bind awakeF (Ev.now true)) (fun hb => ?_)
    have hl : x0.length ≤ 500 := by
      rw [decide_eq_true_iff] at hb
      omega
    refine Ev.bind (jackstaylow_Anew.ev x0 (by omega)) (Ev.neg (by omega) ?_)
    rw [w64 (by omega) (by omega)]
    obtain ⟨a, ha⟩ : ∃ a : Nat, (a : Int) = Int.tmod x1 (x0.length : Int) := ⟨(Int.tmod x1 (x0.length : Int)).toNat, by have := Int.tmod_nonneg (x0.length : Int) h1.1; omega⟩
    have hal : (a : Int) < (x0.length : Int) := by rw [ha]; exact Int.tmod_lt_of_pos _ (by omega)
    rw [← ha]
    exact CrcFinds_l0 x0 x3 (by omega) hl hp a (by omega) x2 (by omega) x2.length 0 (by omega) x0 false ⟨rfl, fun _ _ => rfl, fun _ _ => rfl, fun _ => rfl, fun h => by cases h⟩ (fun h => by omega)
end Go.Proofs.Ytlkeipkehfgogaa.Pure
