/- Printed by the kit and by programs of this work for the claim of aaRowFrameHead, without what the claim does not name. -/
import Derived.Test.YtnnnfnebobaiiaaPx0
import Derived.Test.YtnnnfnebobaiiaaPx1
namespace Go.Proofs.Ytnnnfnebobaiiaa.P
open Go.RowKit Go.Proofs.YtnnnfnebobaiiaaW.PrintWords Go.Proofs.YtnnnfnebobaiiaaW.PrintLast Go.Proofs.YtnnnfnebobaiiaaW.PrintMore
attribute [local go_sem] max2_int min2_int max_two min_two max_three min_three max_four min_four
set_option linter.unusedVariables false
set_option linter.unusedSimpArgs false
attribute [local go_sem high] eqA53
def jackstaylow_Text.l0 : Nat → ByteArray → List Bool → Int → Int → Option (ByteArray)
  | 0, _, _, _, _ => none
  | k + 1, x3, x6, x7, x8 => if x8 < x7 then (if 0 ≤ x8 then (if x8 < (x6.length : Int) then (if rdOf false x6 x8 = true then (if x3.size + 1 ≤ 9223372036854775807 then (jackstaylow_Text.l0 k (x3 ++ (⟨#[114]⟩ : ByteArray)) x6 x7 (wrap64 (x8 + 1))) else (none)) else (if x3.size + 1 ≤ 9223372036854775807 then (jackstaylow_Text.l0 k (x3 ++ (⟨#[100]⟩ : ByteArray)) x6 x7 (wrap64 (x8 + 1))) else (none))) else (none)) else (none)) else (some x3)
def jackstaylow_Text.f (k : Nat) (l0 : List Bool) : Option (ByteArray) := jackstaylow_Text.l0 k (⟨#[]⟩ : ByteArray) l0 (l0.length : Int) 0
theorem jackstaylow_Text.mono_l : ∀ k, (∀ y0 y1 y2 y3, LeO (jackstaylow_Text.l0 k y0 y1 y2 y3) (jackstaylow_Text.l0 (k + 1) y0 y1 y2 y3))
  | 0 => fun _ _ _ _ r h => by simp [jackstaylow_Text.l0] at h
  | k + 1 => by
    have ih0 := jackstaylow_Text.mono_l k
    · intro y0 y1 y2 y3
      unfold jackstaylow_Text.l0
      repeat' first
      | (with_reducible exact ih0 _ _ _ _)
      | (with_reducible exact LeO.refl _)
      | (with_reducible exact LeO.none _)
      | (with_reducible refine LeO.ite ?_ ?_)
      | (with_reducible refine LeO.bind ?_ (fun _ => ?_))
      | exact ih0 _ _ _ _
      | exact LeO.none _
      | refine LeO.ite ?_ ?_
      | refine LeO.bind ?_ (fun _ => ?_)
theorem jackstaylow_Text.mono : ∀ a0 k, LeO (jackstaylow_Text.f k a0) (jackstaylow_Text.f (k + 1) a0) := by
  intro a0 k
  have ih0 := jackstaylow_Text.mono_l k
  unfold jackstaylow_Text.f
  repeat' first
      | (with_reducible exact ih0 _ _ _ _)
      | (with_reducible exact LeO.refl _)
      | (with_reducible exact LeO.none _)
      | (with_reducible refine LeO.ite ?_ ?_)
      | (with_reducible refine LeO.bind ?_ (fun _ => ?_))
      | exact ih0 _ _ _ _
      | exact LeO.none _
      | refine LeO.ite ?_ ?_
      | refine LeO.bind ?_ (fun _ => ?_)
set_option maxHeartbeats 8000000 in
set_option maxRecDepth 100000 in
theorem jackstaylow_Text.calls (k : Nat) (A0 : Option Addr) (c0 : Nat) (l0 : List Bool) (r : ByteArray) (w : World) (hr0 : Kd.C Kd.bool w A0 l0.length l0) (hc0 : l0.length ≤ c0) (h : jackstaylow_Text.f k l0 = some r) :
    Calls Try.prog 81 #[.slice A0 l0.length c0] w fun e w' => e = .returned (.string r) ∧ Drawn0 w w' := by
  have HR0 := Aside0.mk hr0
  have HC0 := Aside0.mk hc0
  clear hr0 hc0
  have H : (jackstaylow_Text.l0 k (⟨#[]⟩ : ByteArray) l0 (l0.length : Int) 0) = some r := h
  clear h
  have H' := Aside0.mk H
  clear H
  go_enter Try.func81, Try.ntmps81
  go_wp2
  go_loopg [3, 8] k (fun kq v3 v8 w' => ∃ (x3_1 : ByteArray) (x8_1 : Int), v3 = .string x3_1 ∧ v8 = .int .i64 x8_1 ∧ Aside0 (jackstaylow_Text.l0 kq x3_1 l0 (l0.length : Int) x8_1 = some r) ∧ Aside0 (kq ≤ k) ∧ Drawn0 w w')
  case atStart => exact ⟨((⟨#[]⟩ : ByteArray)), (0), (by first | rfl | (simp; done) | (simp [*]; done)), (by first | rfl | (simp; done) | (simp [*]; done)), H', ⟨Nat.le_refl _⟩, by repeat (first | exact Drawn0.refl _ | apply Drawn0.step)⟩
  case round =>
    clear H'
    obtain ⟨x3_1, x8_1, rfl, rfl, HA, HK1, ⟨m1, rfl⟩⟩ := hrel
    cases gk with
    | zero => exact absurd HA.out (by simp [jackstaylow_Text.l0])
    | succ k1 =>
      have H := HA.out
      clear HA
      simp only [jackstaylow_Text.l0] at H
      by_cases c2 : x8_1 < (l0.length : Int)
      · rw [if_pos c2] at H
        have c2b0 : decide (x8_1 < (l0.length : Int)) = true := decide_eq_true c2
        clear c2
        by_cases c3 : 0 ≤ x8_1
        · rw [if_pos c3] at H
          have c3b0 : decide (0 ≤ x8_1) = true := decide_eq_true c3
          clear c3
          by_cases c4 : x8_1 < (l0.length : Int)
          · rw [if_pos c4] at H
            have c4b0 : decide (x8_1 < (l0.length : Int)) = true := decide_eq_true c4
            clear c4
            obtain ⟨bq5, hbq5⟩ : ∃ b_ : Bool, b_ = (rdOf false l0 x8_1) := ⟨_, rfl⟩
            replace H : (if bq5 = true then (if x3_1.size + 1 ≤ 9223372036854775807 then (jackstaylow_Text.l0 k1 (x3_1 ++ (⟨#[114]⟩ : ByteArray)) l0 (l0.length : Int) (wrap64 (x8_1 + 1))) else (none)) else (if x3_1.size + 1 ≤ 9223372036854775807 then (jackstaylow_Text.l0 k1 (x3_1 ++ (⟨#[100]⟩ : ByteArray)) l0 (l0.length : Int) (wrap64 (x8_1 + 1))) else (none))) = some r := by rw [← hbq5] at H; exact H
            have Nbq5 := Aside0.mk hbq5
            clear hbq5
            by_cases c6 : bq5 = true
            · subst c6
              have H1 : (if x3_1.size + 1 ≤ 9223372036854775807 then (jackstaylow_Text.l0 k1 (x3_1 ++ (⟨#[114]⟩ : ByteArray)) l0 (l0.length : Int) (wrap64 (x8_1 + 1))) else (none)) = some r := by rw [if_pos rfl] at H; exact H
              clear H
              have H := H1
              clear H1
              by_cases c7 : x3_1.size + 1 ≤ 9223372036854775807
              · rw [if_pos c7] at H
                have c7b0 := eq_true c7
                have c7b1 : decide (x3_1.size + 1 ≤ 9223372036854775807) = true := decide_eq_true c7
                try have c7b2 : (9223372036854775807 < x3_1.size + 1) = False := eq_false (Nat.not_lt.2 c7)
                have H' := Aside0.mk H
                clear H
                have p247 : 0 ≤ (x8_1 : Int) := of_decide_eq_true (by first | (with_reducible assumption) | assumption)
                have q247 : x8_1 < (l0.length : Int) := of_decide_eq_true (by first | (with_reducible assumption) | assumption)
                obtain ⟨ad247, e247, hx247_0⟩ := Kd.at_bool HR0.out x8_1 p247 q247
                (try rw [← Nbq5.out] at hx247_0)
                cases e247
                replace p247 := eq_true p247
                replace q247 := eq_true q247
                go_wp2
                go_roundg k1
                case measure => have := HK1.out; omega
                case rel => exact ⟨(x3_1 ++ (⟨#[114]⟩ : ByteArray)), (wrap64 (x8_1 + 1)), (by first | rfl | (simp; done) | (simp [*]; done)), (by first | rfl | (simp; done) | (simp [*]; done)), H', ⟨by have := HK1.out; omega⟩, by repeat (first | exact Drawn0.refl _ | apply Drawn0.step)⟩
              · rw [if_neg c7] at H
                exact absurd H (by simp)
            · replace c6 := Bool.eq_false_iff.mpr c6
              subst c6
              have H1 : (if x3_1.size + 1 ≤ 9223372036854775807 then (jackstaylow_Text.l0 k1 (x3_1 ++ (⟨#[100]⟩ : ByteArray)) l0 (l0.length : Int) (wrap64 (x8_1 + 1))) else (none)) = some r := by rw [if_neg (show ¬ (false = true) by decide)] at H; exact H
              clear H
              have H := H1
              clear H1
              by_cases c8 : x3_1.size + 1 ≤ 9223372036854775807
              · rw [if_pos c8] at H
                have c8b0 := eq_true c8
                have c8b1 : decide (x3_1.size + 1 ≤ 9223372036854775807) = true := decide_eq_true c8
                try have c8b2 : (9223372036854775807 < x3_1.size + 1) = False := eq_false (Nat.not_lt.2 c8)
                have H' := Aside0.mk H
                clear H
                have p247 : 0 ≤ (x8_1 : Int) := of_decide_eq_true (by first | (with_reducible assumption) | assumption)
                have q247 : x8_1 < (l0.length : Int) := of_decide_eq_true (by first | (with_reducible assumption) | assumption)
                obtain ⟨ad247, e247, hx247_0⟩ := Kd.at_bool HR0.out x8_1 p247 q247
                (try rw [← Nbq5.out] at hx247_0)
                cases e247
                replace p247 := eq_true p247
                replace q247 := eq_true q247
                go_wp2
                go_roundg k1
                case measure => have := HK1.out; omega
                case rel => exact ⟨(x3_1 ++ (⟨#[100]⟩ : ByteArray)), (wrap64 (x8_1 + 1)), (by first | rfl | (simp; done) | (simp [*]; done)), (by first | rfl | (simp; done) | (simp [*]; done)), H', ⟨by have := HK1.out; omega⟩, by repeat (first | exact Drawn0.refl _ | apply Drawn0.step)⟩
              · rw [if_neg c8] at H
                exact absurd H (by simp)
          · rw [if_neg c4] at H
            exact absurd H (by simp)
        · rw [if_neg c3] at H
          exact absurd H (by simp)
      · rw [if_neg c2] at H
        have c2b0 : decide (x8_1 < (l0.length : Int)) = false := decide_eq_false c2
        clear c2
        obtain rfl := Option.some.inj H
        simp only [Option.some.injEq, Prod.mk.injEq] at H
        obtain ⟨rfl⟩ := H
        go_wp2
        go_ret
        exact ⟨by first | rfl | (simp; done) | (simp [*]; done), by repeat (first | exact Drawn0.refl _ | apply Drawn0.step)⟩
def stuff_Owed.f (a0_0 : Bool) (a0_1 : Int) : Option (Bool × Bool) := if a0_1 = 5 then (some (!a0_0, true)) else (some (false, false))
def stuff_right.f (a0_0 : Bool) (a0_1 : Int) : Option (Bool) := if a0_1 ≤ 5 then (if a0_1 > 0 then (some true) else (some (!a0_0 && (a0_1 == 0)))) else (some false)
def stuff_Next.j0 : Nat → Bool → Bool → Bool → Bool → Int → Option (Bool × Int × Int)
  | 0, _, _, _, _, _ => none
  | k + 1, x1, x7, x17, x539000, x539001 => if x17 = true then (some (x539000, x539001, 2)) else (if x7 = true then (some (x1, 1, 1)) else (if x539001 > 0 then (if (x539000 == x1) = true then (some (x1, (x539001 + 1) % 256, 0)) else (some (x1, 1, 0))) else (some (x1, 1, 0))))
def stuff_Next.f (k : Nat) (a0_0 : Bool) (a0_1 : Int) (a1 : Bool) : Option (Bool × Int × Int) := (stuff_right.f a0_0 a0_1).bind fun t540 => (if t540 = true then ((stuff_Owed.f a0_0 a0_1).bind fun bt541 => (if bt541.2 = true then (stuff_Next.j0 k a1 bt541.2 (a1 != bt541.1) a0_0 a0_1) else (stuff_Next.j0 k a1 bt541.2 false a0_0 a0_1))) else (some (false, 0, 2)))
theorem stuff_Next.mono_l : ∀ k, (∀ y0 y1 y2 y3 y4, LeO (stuff_Next.j0 k y0 y1 y2 y3 y4) (stuff_Next.j0 (k + 1) y0 y1 y2 y3 y4))
  | 0 => fun _ _ _ _ _ r h => by simp [stuff_Next.j0] at h
  | k + 1 => by
    have ih0 := stuff_Next.mono_l k
    · intro y0 y1 y2 y3 y4
      unfold stuff_Next.j0
      repeat' first
      | (with_reducible exact ih0 _ _ _ _ _)
      | (with_reducible exact LeO.refl _)
      | (with_reducible exact LeO.none _)
      | (with_reducible refine LeO.ite ?_ ?_)
      | (with_reducible refine LeO.bind ?_ (fun _ => ?_))
      | exact ih0 _ _ _ _ _
      | exact LeO.none _
      | refine LeO.ite ?_ ?_
      | refine LeO.bind ?_ (fun _ => ?_)
theorem stuff_Next.mono : ∀ a0 a1 a2 k, LeO (stuff_Next.f k a0 a1 a2) (stuff_Next.f (k + 1) a0 a1 a2) := by
  intro a0 a1 a2 k
  have ih0 := stuff_Next.mono_l k
  unfold stuff_Next.f
  repeat' first
      | (with_reducible exact ih0 _ _ _ _ _)
      | (with_reducible exact LeO.refl _)
      | (with_reducible exact LeO.none _)
      | (with_reducible refine LeO.ite ?_ ?_)
      | (with_reducible refine LeO.bind ?_ (fun _ => ?_))
      | exact ih0 _ _ _ _ _
      | exact LeO.none _
      | refine LeO.ite ?_ ?_
      | refine LeO.bind ?_ (fun _ => ?_)
def stuff_Put.l0 : Nat → List Bool → List Bool → Int → Int → Bool → Int → Option (List Bool)
  | 0, _, _, _, _, _, _ => none
  | k + 1, x3, x9, x10, x11, x544000, x544001 => if x11 < x10 then (if 0 ≤ x11 then (if x11 < (x9.length : Int) then ((stuff_Next.f k x544000 x544001 (rdOf false x9 x11)).bind fun bt545 => (if x3.length < 140737488355328 then ((some (x3 ++ [rdOf false x9 x11] : List Bool)).bind fun y548 => ((stuff_Owed.f bt545.1 bt545.2.1).bind fun bt551 => (if bt551.2 = true then ((stuff_Next.f k bt545.1 bt545.2.1 bt551.1).bind fun bt553 => (if y548.length < 140737488355328 then (stuff_Put.l0 k (y548 ++ [bt551.1]) x9 x10 (wrap64 (x11 + 1)) bt553.1 bt553.2.1) else (none))) else (stuff_Put.l0 k y548 x9 x10 (wrap64 (x11 + 1)) bt545.1 bt545.2.1)))) else (none))) else (none)) else (none)) else (some x3)
def stuff_Put.f (k : Nat) (l0 : List Bool) : Option (List Bool) := stuff_Put.l0 k ([] : List Bool) l0 (l0.length : Int) 0 false 0
theorem stuff_Put.mono_l : ∀ k, (∀ y0 y1 y2 y3 y4 y5, LeO (stuff_Put.l0 k y0 y1 y2 y3 y4 y5) (stuff_Put.l0 (k + 1) y0 y1 y2 y3 y4 y5))
  | 0 => fun _ _ _ _ _ _ r h => by simp [stuff_Put.l0] at h
  | k + 1 => by
    have ih0 := stuff_Put.mono_l k
    · intro y0 y1 y2 y3 y4 y5
      unfold stuff_Put.l0
      repeat' first
      | (with_reducible exact ih0 _ _ _ _ _ _)
      | (with_reducible exact stuff_Next.mono _ _ _ _)
      | (with_reducible exact LeO.refl _)
      | (with_reducible exact LeO.none _)
      | (with_reducible refine LeO.ite ?_ ?_)
      | (with_reducible refine LeO.bind ?_ (fun _ => ?_))
      | exact ih0 _ _ _ _ _ _
      | exact stuff_Next.mono _ _ _ _
      | exact LeO.none _
      | refine LeO.ite ?_ ?_
      | refine LeO.bind ?_ (fun _ => ?_)
theorem stuff_Put.mono : ∀ a0 k, LeO (stuff_Put.f k a0) (stuff_Put.f (k + 1) a0) := by
  intro a0 k
  have ih0 := stuff_Put.mono_l k
  unfold stuff_Put.f
  repeat' first
      | (with_reducible exact ih0 _ _ _ _ _ _)
      | (with_reducible exact stuff_Next.mono _ _ _ _)
      | (with_reducible exact LeO.refl _)
      | (with_reducible exact LeO.none _)
      | (with_reducible refine LeO.ite ?_ ?_)
      | (with_reducible refine LeO.bind ?_ (fun _ => ?_))
      | exact ih0 _ _ _ _ _ _
      | exact stuff_Next.mono _ _ _ _
      | exact LeO.none _
      | refine LeO.ite ?_ ?_
      | refine LeO.bind ?_ (fun _ => ?_)
def jackstaylow_Same.l0 : Nat → List Bool → List Bool → Int → Int → Option (Bool)
  | 0, _, _, _, _ => none
  | k + 1, x1, x12, x13, x14 => if x14 < x13 then (if 0 ≤ x14 then (if x14 < (x12.length : Int) then (if x14 < (x1.length : Int) then (if ((rdOf false x1 x14) != (rdOf false x12 x14)) = true then (some false) else (jackstaylow_Same.l0 k x1 x12 x13 (wrap64 (x14 + 1)))) else (none)) else (none)) else (none)) else (some true)
def jackstaylow_Same.f (k : Nat) (l0 : List Bool) (l1 : List Bool) : Option (Bool) := if (l0.length : Int) = (l1.length : Int) then (jackstaylow_Same.l0 k l1 l0 (l0.length : Int) 0) else (some false)
theorem jackstaylow_Same.mono_l : ∀ k, (∀ y0 y1 y2 y3, LeO (jackstaylow_Same.l0 k y0 y1 y2 y3) (jackstaylow_Same.l0 (k + 1) y0 y1 y2 y3))
  | 0 => fun _ _ _ _ r h => by simp [jackstaylow_Same.l0] at h
  | k + 1 => by
    have ih0 := jackstaylow_Same.mono_l k
    · intro y0 y1 y2 y3
      unfold jackstaylow_Same.l0
      repeat' first
      | (with_reducible exact ih0 _ _ _ _)
      | (with_reducible exact LeO.refl _)
      | (with_reducible exact LeO.none _)
      | (with_reducible refine LeO.ite ?_ ?_)
      | (with_reducible refine LeO.bind ?_ (fun _ => ?_))
      | exact ih0 _ _ _ _
      | exact LeO.none _
      | refine LeO.ite ?_ ?_
      | refine LeO.bind ?_ (fun _ => ?_)
theorem jackstaylow_Same.mono : ∀ a0 a1 k, LeO (jackstaylow_Same.f k a0 a1) (jackstaylow_Same.f (k + 1) a0 a1) := by
  intro a0 a1 k
  have ih0 := jackstaylow_Same.mono_l k
  unfold jackstaylow_Same.f
  repeat' first
      | (with_reducible exact ih0 _ _ _ _)
      | (with_reducible exact LeO.refl _)
      | (with_reducible exact LeO.none _)
      | (with_reducible refine LeO.ite ?_ ?_)
      | (with_reducible refine LeO.bind ?_ (fun _ => ?_))
      | exact ih0 _ _ _ _
      | exact LeO.none _
      | refine LeO.ite ?_ ?_
      | refine LeO.bind ?_ (fun _ => ?_)
end Go.Proofs.Ytnnnfnebobaiiaa.P
