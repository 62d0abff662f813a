/- Printed by the kit and by programs of this work for the claim of aaRowFrameLong, without what the claim does not name. -/
import Derived.WalkKit
import Derived.KernelRfl
import Derived.JoinedOf
import Derived.Test.YtnnnfnebobaiiaaRows
namespace Go.Proofs.Ytnnnfnebobaiiaa.JW
def words : List Char := [104, 97, 114, 110, 101, 115, 115, 32, 100, 97, 54, 53, 49, 101, 54, 99, 49, 99, 101, 100, 55, 99, 52, 50, 53, 56, 53, 50, 54, 56, 98, 97, 98, 56, 97, 55, 100, 51, 50, 55, 98, 51, 102, 100, 48, 56, 56, 53, 101, 48, 50, 98, 100, 97, 101, 50, 55, 55, 56, 100, 56, 49, 99, 49, 99, 55, 51, 48, 54, 98, 48, 97, 32, 99, 117, 116, 32, 97, 116, 32, 106, 97, 99, 107, 115, 116, 97, 121, 47, 106, 97, 99, 107, 115, 116, 97, 121, 108, 97, 119, 48, 52, 46, 70, 114, 97, 109, 101, 72, 101, 97, 100, 32, 106, 97, 99, 107, 115, 116, 97, 121, 47, 106, 97, 99, 107, 115, 116, 97, 121, 108, 97, 119, 48, 52, 46, 70, 114, 97, 109, 101, 70, 105, 110, 100, 115, 32, 106, 97, 99, 107, 115, 116, 97, 121, 47, 106, 97, 99, 107, 115, 116, 97, 121, 108, 97, 119, 48, 52, 46, 70, 114, 97, 109, 101, 79, 114, 100, 101, 114, 32, 106, 97, 99, 107, 115, 116, 97, 121, 47, 106, 97, 99, 107, 115, 116, 97, 121, 108, 97, 119, 48, 52, 46, 70, 114, 97, 109, 101, 76, 111, 111, 115, 101, 32, 106, 97, 99, 107, 115, 116, 97, 121, 47, 106, 97, 99, 107, 115, 116, 97, 121, 108, 97, 119, 48, 52, 46, 70, 114, 97, 109, 101, 84, 101, 108, 108, 115, 32, 106, 97, 99, 107, 115, 116, 97, 121, 47, 106, 97, 99, 107, 115, 116, 97, 121, 108, 97, 119, 48, 52, 46, 70, 114, 97, 109, 101, 76, 111, 110, 103, 32, 106, 97, 99, 107, 115, 116, 97, 121, 47, 106, 97, 99, 107, 115, 116, 97, 121, 108, 97, 119, 48, 52, 46, 70, 114, 97, 109, 101, 66, 97, 99, 107, 32, 106, 97, 99, 107, 115, 116, 97, 121, 47, 106, 97, 99, 107, 115, 116, 97, 121, 108, 97, 119, 48, 55, 46, 84, 97, 107, 101, 84, 117, 114, 110, 101, 100, 32, 106, 97, 99, 107, 115, 116, 97, 121, 47, 106, 97, 99, 107, 115, 116, 97, 121, 108, 97, 119, 48, 55, 46, 84, 97, 107, 101, 84, 101, 108, 108, 115, 32, 106, 97, 99, 107, 115, 116, 97, 121, 47, 106, 97, 99, 107, 115, 116, 97, 121, 108, 97, 119, 48, 55, 46, 84, 97, 107, 101, 87, 104, 111, 108, 101, 32, 106, 97, 99, 107, 115, 116, 97, 121, 47, 106, 97, 99, 107, 115, 116, 97, 121, 108, 97, 119, 48, 55, 46, 84, 97, 107, 101, 79, 110, 99, 101, 32, 106, 97, 99, 107, 115, 116, 97, 121, 47, 106, 97, 99, 107, 115, 116, 97, 121, 108, 97, 119, 48, 56, 46, 67, 116, 108, 85, 110, 104, 101, 97, 114, 100, 32, 106, 97, 99, 107, 115, 116, 97, 121, 47, 106, 97, 99, 107, 115, 116, 97, 121, 108, 97, 119, 48, 56, 46, 67, 116, 108, 84, 97, 105, 108, 32, 106, 97, 99, 107, 115, 116, 97, 121, 47, 106, 97, 99, 107, 115, 116, 97, 121, 108, 97, 119, 48, 56, 46, 67, 116, 108, 66, 114, 101, 97, 107, 115, 32, 106, 97, 99, 107, 115, 116, 97, 121, 47, 106, 97, 99, 107, 115, 116, 97, 121, 108, 97, 119, 48, 56, 46, 67, 116, 108, 79, 118, 101, 114, 108, 111, 97, 100, 32, 106, 97, 99, 107, 115, 116, 97, 121, 47, 106, 97, 99, 107, 115, 116, 97, 121, 108, 97, 119, 48, 56, 46, 67, 116, 108, 84, 119, 105, 110, 115, 32, 106, 97, 99, 107, 115, 116, 97, 121, 47, 106, 97, 99, 107, 115, 116, 97, 121, 108, 97, 119, 48, 56, 46, 67, 116, 108, 79, 110, 99, 101, 32, 106, 97, 99, 107, 115, 116, 97, 121, 47, 106, 97, 99, 107, 115, 116, 97, 121, 108, 97, 119, 48, 56, 46, 67, 116, 108, 83, 101, 110, 100, 115, 32, 106, 97, 99, 107, 115, 116, 97, 121, 47, 106, 97, 99, 107, 115, 116, 97, 121, 108, 97, 119, 48, 56, 46, 67, 116, 108, 84, 119, 111, 32, 106, 97, 99, 107, 115, 116, 97, 121, 47, 106, 97, 99, 107, 115, 116, 97, 121, 108, 97, 119, 48, 57, 46, 78, 101, 116, 79, 109, 105, 116, 115, 32, 106, 97, 99, 107, 115, 116, 97, 121, 47, 106, 97, 99, 107, 115, 116, 97, 121, 108, 97, 119, 48, 57, 46, 78, 101, 116, 84, 119, 105, 110, 115, 32, 106, 97, 99, 107, 115, 116, 97, 121, 47, 106, 97, 99, 107, 115, 116, 97, 121, 108, 97, 119, 48, 57, 46, 78, 101, 116, 79, 102, 102, 32, 106, 97, 99, 107, 115, 116, 97, 121, 47, 106, 97, 99, 107, 115, 116, 97, 121, 108, 97, 119, 48, 57, 46, 78, 101, 116, 79, 114, 100, 101, 114, 32, 106, 97, 99, 107, 115, 116, 97, 121, 47, 106, 97, 99, 107, 115, 116, 97, 121, 108, 97, 119, 48, 57, 46, 78, 101, 116, 67, 114, 97, 115, 104, 101, 100].map Char.ofNat
theorem said : Try.prog.initOrder.toList = words := by
  have h : Try.prog.initOrder = String.ofList words := by kernel_rfl
  rw [h]
  exact String.toList_ofList
def tail : List (List Char) := (wordsSigns words).drop 3
theorem toldW : behindMainWord (wordsSigns words) = List.map Char.ofNat [99, 117, 116] :: tail := by kernel_rfl
theorem stripW : stripLifts liftWords (List.map Char.ofNat [99, 117, 116] :: tail) = ([], List.map Char.ofNat [99, 117, 116] :: tail) := by kernel_rfl
theorem make_cut {P : Program} {r : List (List Char)} (h : behindMainWord (wordsSigns P.initOrder.toList) = List.map Char.ofNat [99, 117, 116] :: r) : P.make = some .cut := by
  unfold Program.make
  rw [h]
  rfl
theorem enter_cut {P : Program} {r : List (List Char)} (h : behindMainWord (wordsSigns P.initOrder.toList) = List.map Char.ofNat [99, 117, 116] :: r)
    (hs : stripLifts liftWords (List.map Char.ofNat [99, 117, 116] :: r) = ([], List.map Char.ofNat [99, 117, 116] :: r)) (hl : P.laysLater = false) (hb : P.bearsReflect = false) (hd : P.doorFits [] = true) : P.mayEnter = true := by
  have h0 : (List.map Char.ofNat [99, 117, 116] == "gc".toList || List.map Char.ofNat [99, 117, 116] == "spec".toList) = false := by kernel_rfl
  have h1 : (List.map Char.ofNat [99, 117, 116] == "carried".toList) = false := by kernel_rfl
  have h2 : (some (List.map Char.ofNat [99, 117, 116]) == some "cut".toList) = true := by kernel_rfl
  unfold Program.mayEnter
  rw [h]
  simp only [h0, h1, hs, hl, hb, hd, List.head?_cons, h2, Bool.not_false, Bool.or_true, Bool.and_true, Bool.false_and, Bool.or_false, Bool.false_or, Bool.true_and]
  try rfl
theorem lift_cut {P : Program} {r : List (List Char)} (h : behindMainWord (wordsSigns P.initOrder.toList) = List.map Char.ofNat [99, 117, 116] :: r)
    (hs : stripLifts liftWords (List.map Char.ofNat [99, 117, 116] :: r) = ([], List.map Char.ofNat [99, 117, 116] :: r)) : P.liftsFinal = false := by
  have h1 : (some (List.map Char.ofNat [99, 117, 116]) == some "carried".toList) = false := by kernel_rfl
  have h2 : (some (List.map Char.ofNat [99, 117, 116]) == some "cut".toList) = true := by kernel_rfl
  unfold Program.liftsFinal Program.headLifts
  rw [h]
  simp only [h1, hs, List.head?_cons, h2]
  rfl
theorem at_cut : behindMainWord (wordsSigns Try.prog.initOrder.toList) = List.map Char.ofNat [99, 117, 116] :: tail := (congrArg (fun l => behindMainWord (wordsSigns l)) said).trans toldW
theorem enters : Try.prog.mayEnter = true := enter_cut at_cut stripW (by kernel_rfl) (by kernel_rfl) (by kernel_rfl)
theorem made : Try.prog.make = some .cut := make_cut at_cut
theorem lifts : Try.prog.liftsFinal = false := lift_cut at_cut stripW
end Go.Proofs.Ytnnnfnebobaiiaa.JW
