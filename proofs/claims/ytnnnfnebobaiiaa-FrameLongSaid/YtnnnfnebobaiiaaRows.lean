/-
  No cell of these rows narrows 'for every input' (looked for: loops, veiled, ifaces, maps, wideKeys, modest, calm, conditions, laid).
  DERIVED. THE GIVEN ROWS OF THIS SEAT. 24 by the template 'for every input the law returns true; each argument reads behind the call as it read before'; 0 by the template 'total and deterministic' (their statements: YtnnnfnebobaiiaaTotals.lean).
  GIVEN WITH THE SEED: the statements are not yours to turn. If you find one false, say at which input.
  Laid BY PROGRAM, IN A SANDBOX (cutbox-rows.mjs): the forced cells as the released guide's own fill.sh prints them over the translation ae68b00dc65cf1ea… (all of the seat's roots in one cut). By AI agents, Wed Nov 11 2026. No macro, syntax, notation, axiom, sorry.
-/
import Derived.Test.YtnnnfnebobaiiaaChecked
import GoSem.Claim
import GoSem.ClaimJoined
import GoSem.ClaimMapViews
import Derived.JoinedTies
import Derived.KernelRfl
namespace Go.Proofs.Ytnnnfnebobaiiaa
/- THE CELL 'sum', in the pinned program and in every row, IS THE sha256 OF THE DUMP (.gsa) THAT YtnnnfnebobaiiaaProg.lean LOADS. Nothing in Lean hashes anything: it is a label: what it is worth is what the hold of that sum in a sandbox is worth. -/
noncomputable def Try.pinned : Pinned := { name := "ytnnnfnebobaiiaa", sum := "ae68b00dc65cf1ea58a5ac80caff4e07df829a59bb7b3464be88817d2294741d", checked := Try.checked }
namespace Rows
def none {H : Type} : Left H := { results := [], args := [] }

/-- 'jackstaylaw04.FrameHead': WHATEVER THE INPUT: true; the input reads as it did. -/
def frameHeadSpec : ChangeSpec := { name := "frameHead", fn := fun _ => fun
  | [d1, d2] => { results := [.lit (.bool true)], args := [d1, d2] }
  | _ => none }
def frameHeadRow : OpenClaim := { program := "ytnnnfnebobaiiaa", sum := "ae68b00dc65cf1ea58a5ac80caff4e07df829a59bb7b3464be88817d2294741d", func := "jackstay/jackstaylaw04.FrameHead", spec := "frameHead", unfollowed := true, recurses := true, apart := false }
def FrameHeadSaid : Prop := frameHeadRow.holds Try.pinned (OpenSpec.ofChange frameHeadSpec)

/-- ITS FALSE NEIGHBOUR: 'it returns false'. Refute it at one input. -/
def frameHeadWrong : ChangeSpec := { name := "frameHead", fn := fun _ => fun
  | [d1, d2] => { results := [.lit (.bool false)], args := [d1, d2] }
  | _ => none }
def FrameHeadWrongFalsely : Prop := frameHeadRow.holds Try.pinned (OpenSpec.ofChange frameHeadWrong)

/-- 'jackstaylaw04.FrameFinds': WHATEVER THE INPUT: true; the input reads as it did. -/
def frameFindsSpec : ChangeSpec := { name := "frameFinds", fn := fun _ => fun
  | [d1, d2, d3, d4] => { results := [.lit (.bool true)], args := [d1, d2, d3, d4] }
  | _ => none }
def frameFindsRow : OpenClaim := { program := "ytnnnfnebobaiiaa", sum := "ae68b00dc65cf1ea58a5ac80caff4e07df829a59bb7b3464be88817d2294741d", func := "jackstay/jackstaylaw04.FrameFinds", spec := "frameFinds", unfollowed := true, recurses := true, apart := false }
def FrameFindsSaid : Prop := frameFindsRow.holds Try.pinned (OpenSpec.ofChange frameFindsSpec)

/-- ITS FALSE NEIGHBOUR: 'it returns false'. Refute it at one input. -/
def frameFindsWrong : ChangeSpec := { name := "frameFinds", fn := fun _ => fun
  | [d1, d2, d3, d4] => { results := [.lit (.bool false)], args := [d1, d2, d3, d4] }
  | _ => none }
def FrameFindsWrongFalsely : Prop := frameFindsRow.holds Try.pinned (OpenSpec.ofChange frameFindsWrong)

/-- 'jackstaylaw04.FrameOrder': WHATEVER THE INPUT: true; the input reads as it did. -/
def frameOrderSpec : ChangeSpec := { name := "frameOrder", fn := fun _ => fun
  | [d1, d2, d3] => { results := [.lit (.bool true)], args := [d1, d2, d3] }
  | _ => none }
def frameOrderRow : OpenClaim := { program := "ytnnnfnebobaiiaa", sum := "ae68b00dc65cf1ea58a5ac80caff4e07df829a59bb7b3464be88817d2294741d", func := "jackstay/jackstaylaw04.FrameOrder", spec := "frameOrder", unfollowed := true, recurses := true, apart := false }
def FrameOrderSaid : Prop := frameOrderRow.holds Try.pinned (OpenSpec.ofChange frameOrderSpec)

/-- ITS FALSE NEIGHBOUR: 'it returns false'. Refute it at one input. -/
def frameOrderWrong : ChangeSpec := { name := "frameOrder", fn := fun _ => fun
  | [d1, d2, d3] => { results := [.lit (.bool false)], args := [d1, d2, d3] }
  | _ => none }
def FrameOrderWrongFalsely : Prop := frameOrderRow.holds Try.pinned (OpenSpec.ofChange frameOrderWrong)

/-- 'jackstaylaw04.FrameLoose': WHATEVER THE INPUT: true; the input reads as it did. -/
def frameLooseSpec : ChangeSpec := { name := "frameLoose", fn := fun _ => fun
  | [d1, d2] => { results := [.lit (.bool true)], args := [d1, d2] }
  | _ => none }
def frameLooseRow : OpenClaim := { program := "ytnnnfnebobaiiaa", sum := "ae68b00dc65cf1ea58a5ac80caff4e07df829a59bb7b3464be88817d2294741d", func := "jackstay/jackstaylaw04.FrameLoose", spec := "frameLoose", unfollowed := true, recurses := true, apart := false }
def FrameLooseSaid : Prop := frameLooseRow.holds Try.pinned (OpenSpec.ofChange frameLooseSpec)

/-- ITS FALSE NEIGHBOUR: 'it returns false'. Refute it at one input. -/
def frameLooseWrong : ChangeSpec := { name := "frameLoose", fn := fun _ => fun
  | [d1, d2] => { results := [.lit (.bool false)], args := [d1, d2] }
  | _ => none }
def FrameLooseWrongFalsely : Prop := frameLooseRow.holds Try.pinned (OpenSpec.ofChange frameLooseWrong)

/-- 'jackstaylaw04.FrameTells': WHATEVER THE INPUT: true; the input reads as it did. -/
def frameTellsSpec : ChangeSpec := { name := "frameTells", fn := fun _ => fun
  | [d1, d2, d3] => { results := [.lit (.bool true)], args := [d1, d2, d3] }
  | _ => none }
def frameTellsRow : OpenClaim := { program := "ytnnnfnebobaiiaa", sum := "ae68b00dc65cf1ea58a5ac80caff4e07df829a59bb7b3464be88817d2294741d", func := "jackstay/jackstaylaw04.FrameTells", spec := "frameTells", unfollowed := true, recurses := true, apart := false }
def FrameTellsSaid : Prop := frameTellsRow.holds Try.pinned (OpenSpec.ofChange frameTellsSpec)

/-- ITS FALSE NEIGHBOUR: 'it returns false'. Refute it at one input. -/
def frameTellsWrong : ChangeSpec := { name := "frameTells", fn := fun _ => fun
  | [d1, d2, d3] => { results := [.lit (.bool false)], args := [d1, d2, d3] }
  | _ => none }
def FrameTellsWrongFalsely : Prop := frameTellsRow.holds Try.pinned (OpenSpec.ofChange frameTellsWrong)

/-- 'jackstaylaw04.FrameLong': WHATEVER THE INPUT: true; the input reads as it did. -/
def frameLongSpec : ChangeSpec := { name := "frameLong", fn := fun _ => fun
  | [d] => { results := [.lit (.bool true)], args := [d] }
  | _ => none }
def frameLongRow : OpenClaim := { program := "ytnnnfnebobaiiaa", sum := "ae68b00dc65cf1ea58a5ac80caff4e07df829a59bb7b3464be88817d2294741d", func := "jackstay/jackstaylaw04.FrameLong", spec := "frameLong", unfollowed := true, recurses := true, apart := false }
def FrameLongSaid : Prop := frameLongRow.holds Try.pinned (OpenSpec.ofChange frameLongSpec)

/-- ITS FALSE NEIGHBOUR: 'it returns false'. Refute it at one input. -/
def frameLongWrong : ChangeSpec := { name := "frameLong", fn := fun _ => fun
  | [d] => { results := [.lit (.bool false)], args := [d] }
  | _ => none }
def FrameLongWrongFalsely : Prop := frameLongRow.holds Try.pinned (OpenSpec.ofChange frameLongWrong)

/-- 'jackstaylaw04.FrameBack': WHATEVER THE INPUT: true; the input reads as it did. -/
def frameBackSpec : ChangeSpec := { name := "frameBack", fn := fun _ => fun
  | [d1, d2] => { results := [.lit (.bool true)], args := [d1, d2] }
  | _ => none }
def frameBackRow : OpenClaim := { program := "ytnnnfnebobaiiaa", sum := "ae68b00dc65cf1ea58a5ac80caff4e07df829a59bb7b3464be88817d2294741d", func := "jackstay/jackstaylaw04.FrameBack", spec := "frameBack", unfollowed := true, recurses := true, apart := false }
def FrameBackSaid : Prop := frameBackRow.holds Try.pinned (OpenSpec.ofChange frameBackSpec)

/-- ITS FALSE NEIGHBOUR: 'it returns false'. Refute it at one input. -/
def frameBackWrong : ChangeSpec := { name := "frameBack", fn := fun _ => fun
  | [d1, d2] => { results := [.lit (.bool false)], args := [d1, d2] }
  | _ => none }
def FrameBackWrongFalsely : Prop := frameBackRow.holds Try.pinned (OpenSpec.ofChange frameBackWrong)

/-- 'jackstaylaw07.TakeTurned': WHATEVER THE INPUT: true; the input reads as it did. -/
def takeTurnedSpec : ChangeSpec := { name := "takeTurned", fn := fun _ => fun
  | [d1, d2] => { results := [.lit (.bool true)], args := [d1, d2] }
  | _ => none }
def takeTurnedRow : OpenClaim := { program := "ytnnnfnebobaiiaa", sum := "ae68b00dc65cf1ea58a5ac80caff4e07df829a59bb7b3464be88817d2294741d", func := "jackstay/jackstaylaw07.TakeTurned", spec := "takeTurned", unfollowed := true, recurses := true, apart := false }
def TakeTurnedSaid : Prop := takeTurnedRow.holds Try.pinned (OpenSpec.ofChange takeTurnedSpec)

/-- ITS FALSE NEIGHBOUR: 'it returns false'. Refute it at one input. -/
def takeTurnedWrong : ChangeSpec := { name := "takeTurned", fn := fun _ => fun
  | [d1, d2] => { results := [.lit (.bool false)], args := [d1, d2] }
  | _ => none }
def TakeTurnedWrongFalsely : Prop := takeTurnedRow.holds Try.pinned (OpenSpec.ofChange takeTurnedWrong)

/-- 'jackstaylaw07.TakeTells': WHATEVER THE INPUT: true; the input reads as it did. -/
def takeTellsSpec : ChangeSpec := { name := "takeTells", fn := fun _ => fun
  | [d] => { results := [.lit (.bool true)], args := [d] }
  | _ => none }
def takeTellsRow : OpenClaim := { program := "ytnnnfnebobaiiaa", sum := "ae68b00dc65cf1ea58a5ac80caff4e07df829a59bb7b3464be88817d2294741d", func := "jackstay/jackstaylaw07.TakeTells", spec := "takeTells", unfollowed := true, recurses := true, apart := false }
def TakeTellsSaid : Prop := takeTellsRow.holds Try.pinned (OpenSpec.ofChange takeTellsSpec)

/-- ITS FALSE NEIGHBOUR: 'it returns false'. Refute it at one input. -/
def takeTellsWrong : ChangeSpec := { name := "takeTells", fn := fun _ => fun
  | [d] => { results := [.lit (.bool false)], args := [d] }
  | _ => none }
def TakeTellsWrongFalsely : Prop := takeTellsRow.holds Try.pinned (OpenSpec.ofChange takeTellsWrong)

/-- 'jackstaylaw07.TakeWhole': WHATEVER THE INPUT: true; the input reads as it did. -/
def takeWholeSpec : ChangeSpec := { name := "takeWhole", fn := fun _ => fun
  | [d1, d2] => { results := [.lit (.bool true)], args := [d1, d2] }
  | _ => none }
def takeWholeRow : OpenClaim := { program := "ytnnnfnebobaiiaa", sum := "ae68b00dc65cf1ea58a5ac80caff4e07df829a59bb7b3464be88817d2294741d", func := "jackstay/jackstaylaw07.TakeWhole", spec := "takeWhole", unfollowed := true, recurses := true, apart := false }
def TakeWholeSaid : Prop := takeWholeRow.holds Try.pinned (OpenSpec.ofChange takeWholeSpec)

/-- ITS FALSE NEIGHBOUR: 'it returns false'. Refute it at one input. -/
def takeWholeWrong : ChangeSpec := { name := "takeWhole", fn := fun _ => fun
  | [d1, d2] => { results := [.lit (.bool false)], args := [d1, d2] }
  | _ => none }
def TakeWholeWrongFalsely : Prop := takeWholeRow.holds Try.pinned (OpenSpec.ofChange takeWholeWrong)

/-- 'jackstaylaw07.TakeOnce': WHATEVER THE INPUT: true; the input reads as it did. -/
def takeOnceSpec : ChangeSpec := { name := "takeOnce", fn := fun _ => fun
  | [d1, d2] => { results := [.lit (.bool true)], args := [d1, d2] }
  | _ => none }
def takeOnceRow : OpenClaim := { program := "ytnnnfnebobaiiaa", sum := "ae68b00dc65cf1ea58a5ac80caff4e07df829a59bb7b3464be88817d2294741d", func := "jackstay/jackstaylaw07.TakeOnce", spec := "takeOnce", unfollowed := true, recurses := true, apart := false }
def TakeOnceSaid : Prop := takeOnceRow.holds Try.pinned (OpenSpec.ofChange takeOnceSpec)

/-- ITS FALSE NEIGHBOUR: 'it returns false'. Refute it at one input. -/
def takeOnceWrong : ChangeSpec := { name := "takeOnce", fn := fun _ => fun
  | [d1, d2] => { results := [.lit (.bool false)], args := [d1, d2] }
  | _ => none }
def TakeOnceWrongFalsely : Prop := takeOnceRow.holds Try.pinned (OpenSpec.ofChange takeOnceWrong)

/-- 'jackstaylaw08.CtlUnheard': WHATEVER THE INPUT: true; the input reads as it did. -/
def ctlUnheardSpec : ChangeSpec := { name := "ctlUnheard", fn := fun _ => fun
  | [d1, d2] => { results := [.lit (.bool true)], args := [d1, d2] }
  | _ => none }
def ctlUnheardRow : OpenClaim := { program := "ytnnnfnebobaiiaa", sum := "ae68b00dc65cf1ea58a5ac80caff4e07df829a59bb7b3464be88817d2294741d", func := "jackstay/jackstaylaw08.CtlUnheard", spec := "ctlUnheard", unfollowed := true, recurses := true, apart := false }
def CtlUnheardSaid : Prop := ctlUnheardRow.holds Try.pinned (OpenSpec.ofChange ctlUnheardSpec)

/-- ITS FALSE NEIGHBOUR: 'it returns false'. Refute it at one input. -/
def ctlUnheardWrong : ChangeSpec := { name := "ctlUnheard", fn := fun _ => fun
  | [d1, d2] => { results := [.lit (.bool false)], args := [d1, d2] }
  | _ => none }
def CtlUnheardWrongFalsely : Prop := ctlUnheardRow.holds Try.pinned (OpenSpec.ofChange ctlUnheardWrong)

/-- 'jackstaylaw08.CtlTail': WHATEVER THE INPUT: true; the input reads as it did. -/
def ctlTailSpec : ChangeSpec := { name := "ctlTail", fn := fun _ => fun
  | [d1, d2] => { results := [.lit (.bool true)], args := [d1, d2] }
  | _ => none }
def ctlTailRow : OpenClaim := { program := "ytnnnfnebobaiiaa", sum := "ae68b00dc65cf1ea58a5ac80caff4e07df829a59bb7b3464be88817d2294741d", func := "jackstay/jackstaylaw08.CtlTail", spec := "ctlTail", unfollowed := true, recurses := true, apart := false }
def CtlTailSaid : Prop := ctlTailRow.holds Try.pinned (OpenSpec.ofChange ctlTailSpec)

/-- ITS FALSE NEIGHBOUR: 'it returns false'. Refute it at one input. -/
def ctlTailWrong : ChangeSpec := { name := "ctlTail", fn := fun _ => fun
  | [d1, d2] => { results := [.lit (.bool false)], args := [d1, d2] }
  | _ => none }
def CtlTailWrongFalsely : Prop := ctlTailRow.holds Try.pinned (OpenSpec.ofChange ctlTailWrong)

/-- 'jackstaylaw08.CtlBreaks': WHATEVER THE INPUT: true; the input reads as it did. -/
def ctlBreaksSpec : ChangeSpec := { name := "ctlBreaks", fn := fun _ => fun
  | [d1, d2] => { results := [.lit (.bool true)], args := [d1, d2] }
  | _ => none }
def ctlBreaksRow : OpenClaim := { program := "ytnnnfnebobaiiaa", sum := "ae68b00dc65cf1ea58a5ac80caff4e07df829a59bb7b3464be88817d2294741d", func := "jackstay/jackstaylaw08.CtlBreaks", spec := "ctlBreaks", unfollowed := true, recurses := true, apart := false }
def CtlBreaksSaid : Prop := ctlBreaksRow.holds Try.pinned (OpenSpec.ofChange ctlBreaksSpec)

/-- ITS FALSE NEIGHBOUR: 'it returns false'. Refute it at one input. -/
def ctlBreaksWrong : ChangeSpec := { name := "ctlBreaks", fn := fun _ => fun
  | [d1, d2] => { results := [.lit (.bool false)], args := [d1, d2] }
  | _ => none }
def CtlBreaksWrongFalsely : Prop := ctlBreaksRow.holds Try.pinned (OpenSpec.ofChange ctlBreaksWrong)

/-- 'jackstaylaw08.CtlOverload': WHATEVER THE INPUT: true; the input reads as it did. -/
def ctlOverloadSpec : ChangeSpec := { name := "ctlOverload", fn := fun _ => fun
  | [d1, d2, d3] => { results := [.lit (.bool true)], args := [d1, d2, d3] }
  | _ => none }
def ctlOverloadRow : OpenClaim := { program := "ytnnnfnebobaiiaa", sum := "ae68b00dc65cf1ea58a5ac80caff4e07df829a59bb7b3464be88817d2294741d", func := "jackstay/jackstaylaw08.CtlOverload", spec := "ctlOverload", unfollowed := true, recurses := true, apart := false }
def CtlOverloadSaid : Prop := ctlOverloadRow.holds Try.pinned (OpenSpec.ofChange ctlOverloadSpec)

/-- ITS FALSE NEIGHBOUR: 'it returns false'. Refute it at one input. -/
def ctlOverloadWrong : ChangeSpec := { name := "ctlOverload", fn := fun _ => fun
  | [d1, d2, d3] => { results := [.lit (.bool false)], args := [d1, d2, d3] }
  | _ => none }
def CtlOverloadWrongFalsely : Prop := ctlOverloadRow.holds Try.pinned (OpenSpec.ofChange ctlOverloadWrong)

/-- 'jackstaylaw08.CtlTwins': WHATEVER THE INPUT: true; the input reads as it did. -/
def ctlTwinsSpec : ChangeSpec := { name := "ctlTwins", fn := fun _ => fun
  | [d1, d2] => { results := [.lit (.bool true)], args := [d1, d2] }
  | _ => none }
def ctlTwinsRow : OpenClaim := { program := "ytnnnfnebobaiiaa", sum := "ae68b00dc65cf1ea58a5ac80caff4e07df829a59bb7b3464be88817d2294741d", func := "jackstay/jackstaylaw08.CtlTwins", spec := "ctlTwins", unfollowed := true, recurses := true, apart := false }
def CtlTwinsSaid : Prop := ctlTwinsRow.holds Try.pinned (OpenSpec.ofChange ctlTwinsSpec)

/-- ITS FALSE NEIGHBOUR: 'it returns false'. Refute it at one input. -/
def ctlTwinsWrong : ChangeSpec := { name := "ctlTwins", fn := fun _ => fun
  | [d1, d2] => { results := [.lit (.bool false)], args := [d1, d2] }
  | _ => none }
def CtlTwinsWrongFalsely : Prop := ctlTwinsRow.holds Try.pinned (OpenSpec.ofChange ctlTwinsWrong)

/-- 'jackstaylaw08.CtlOnce': WHATEVER THE INPUT: true; the input reads as it did. -/
def ctlOnceSpec : ChangeSpec := { name := "ctlOnce", fn := fun _ => fun
  | [d] => { results := [.lit (.bool true)], args := [d] }
  | _ => none }
def ctlOnceRow : OpenClaim := { program := "ytnnnfnebobaiiaa", sum := "ae68b00dc65cf1ea58a5ac80caff4e07df829a59bb7b3464be88817d2294741d", func := "jackstay/jackstaylaw08.CtlOnce", spec := "ctlOnce", unfollowed := true, recurses := true, apart := false }
def CtlOnceSaid : Prop := ctlOnceRow.holds Try.pinned (OpenSpec.ofChange ctlOnceSpec)

/-- ITS FALSE NEIGHBOUR: 'it returns false'. Refute it at one input. -/
def ctlOnceWrong : ChangeSpec := { name := "ctlOnce", fn := fun _ => fun
  | [d] => { results := [.lit (.bool false)], args := [d] }
  | _ => none }
def CtlOnceWrongFalsely : Prop := ctlOnceRow.holds Try.pinned (OpenSpec.ofChange ctlOnceWrong)

/-- 'jackstaylaw08.CtlSends': WHATEVER THE INPUT: true; the input reads as it did. -/
def ctlSendsSpec : ChangeSpec := { name := "ctlSends", fn := fun _ => fun
  | [d] => { results := [.lit (.bool true)], args := [d] }
  | _ => none }
def ctlSendsRow : OpenClaim := { program := "ytnnnfnebobaiiaa", sum := "ae68b00dc65cf1ea58a5ac80caff4e07df829a59bb7b3464be88817d2294741d", func := "jackstay/jackstaylaw08.CtlSends", spec := "ctlSends", unfollowed := true, recurses := true, apart := false }
def CtlSendsSaid : Prop := ctlSendsRow.holds Try.pinned (OpenSpec.ofChange ctlSendsSpec)

/-- ITS FALSE NEIGHBOUR: 'it returns false'. Refute it at one input. -/
def ctlSendsWrong : ChangeSpec := { name := "ctlSends", fn := fun _ => fun
  | [d] => { results := [.lit (.bool false)], args := [d] }
  | _ => none }
def CtlSendsWrongFalsely : Prop := ctlSendsRow.holds Try.pinned (OpenSpec.ofChange ctlSendsWrong)

/-- 'jackstaylaw08.CtlTwo': WHATEVER THE INPUT: true; the input reads as it did. -/
def ctlTwoSpec : ChangeSpec := { name := "ctlTwo", fn := fun _ => fun
  | [d1, d2] => { results := [.lit (.bool true)], args := [d1, d2] }
  | _ => none }
def ctlTwoRow : OpenClaim := { program := "ytnnnfnebobaiiaa", sum := "ae68b00dc65cf1ea58a5ac80caff4e07df829a59bb7b3464be88817d2294741d", func := "jackstay/jackstaylaw08.CtlTwo", spec := "ctlTwo", unfollowed := true, recurses := true, apart := false }
def CtlTwoSaid : Prop := ctlTwoRow.holds Try.pinned (OpenSpec.ofChange ctlTwoSpec)

/-- ITS FALSE NEIGHBOUR: 'it returns false'. Refute it at one input. -/
def ctlTwoWrong : ChangeSpec := { name := "ctlTwo", fn := fun _ => fun
  | [d1, d2] => { results := [.lit (.bool false)], args := [d1, d2] }
  | _ => none }
def CtlTwoWrongFalsely : Prop := ctlTwoRow.holds Try.pinned (OpenSpec.ofChange ctlTwoWrong)

/-- 'jackstaylaw09.NetOmits': WHATEVER THE INPUT: true; the input reads as it did. -/
def netOmitsSpec : ChangeSpec := { name := "netOmits", fn := fun _ => fun
  | [d1, d2, d3] => { results := [.lit (.bool true)], args := [d1, d2, d3] }
  | _ => none }
def netOmitsRow : OpenClaim := { program := "ytnnnfnebobaiiaa", sum := "ae68b00dc65cf1ea58a5ac80caff4e07df829a59bb7b3464be88817d2294741d", func := "jackstay/jackstaylaw09.NetOmits", spec := "netOmits", unfollowed := true, recurses := true, apart := false }
def NetOmitsSaid : Prop := netOmitsRow.holds Try.pinned (OpenSpec.ofChange netOmitsSpec)

/-- ITS FALSE NEIGHBOUR: 'it returns false'. Refute it at one input. -/
def netOmitsWrong : ChangeSpec := { name := "netOmits", fn := fun _ => fun
  | [d1, d2, d3] => { results := [.lit (.bool false)], args := [d1, d2, d3] }
  | _ => none }
def NetOmitsWrongFalsely : Prop := netOmitsRow.holds Try.pinned (OpenSpec.ofChange netOmitsWrong)

/-- 'jackstaylaw09.NetTwins': WHATEVER THE INPUT: true; the input reads as it did. -/
def netTwinsSpec : ChangeSpec := { name := "netTwins", fn := fun _ => fun
  | [d1, d2, d3] => { results := [.lit (.bool true)], args := [d1, d2, d3] }
  | _ => none }
def netTwinsRow : OpenClaim := { program := "ytnnnfnebobaiiaa", sum := "ae68b00dc65cf1ea58a5ac80caff4e07df829a59bb7b3464be88817d2294741d", func := "jackstay/jackstaylaw09.NetTwins", spec := "netTwins", unfollowed := true, recurses := true, apart := false }
def NetTwinsSaid : Prop := netTwinsRow.holds Try.pinned (OpenSpec.ofChange netTwinsSpec)

/-- ITS FALSE NEIGHBOUR: 'it returns false'. Refute it at one input. -/
def netTwinsWrong : ChangeSpec := { name := "netTwins", fn := fun _ => fun
  | [d1, d2, d3] => { results := [.lit (.bool false)], args := [d1, d2, d3] }
  | _ => none }
def NetTwinsWrongFalsely : Prop := netTwinsRow.holds Try.pinned (OpenSpec.ofChange netTwinsWrong)

/-- 'jackstaylaw09.NetOff': WHATEVER THE INPUT: true; the input reads as it did. -/
def netOffSpec : ChangeSpec := { name := "netOff", fn := fun _ => fun
  | [d1, d2] => { results := [.lit (.bool true)], args := [d1, d2] }
  | _ => none }
def netOffRow : OpenClaim := { program := "ytnnnfnebobaiiaa", sum := "ae68b00dc65cf1ea58a5ac80caff4e07df829a59bb7b3464be88817d2294741d", func := "jackstay/jackstaylaw09.NetOff", spec := "netOff", unfollowed := true, recurses := true, apart := false }
def NetOffSaid : Prop := netOffRow.holds Try.pinned (OpenSpec.ofChange netOffSpec)

/-- ITS FALSE NEIGHBOUR: 'it returns false'. Refute it at one input. -/
def netOffWrong : ChangeSpec := { name := "netOff", fn := fun _ => fun
  | [d1, d2] => { results := [.lit (.bool false)], args := [d1, d2] }
  | _ => none }
def NetOffWrongFalsely : Prop := netOffRow.holds Try.pinned (OpenSpec.ofChange netOffWrong)

/-- 'jackstaylaw09.NetOrder': WHATEVER THE INPUT: true; the input reads as it did. -/
def netOrderSpec : ChangeSpec := { name := "netOrder", fn := fun _ => fun
  | [d1, d2] => { results := [.lit (.bool true)], args := [d1, d2] }
  | _ => none }
def netOrderRow : OpenClaim := { program := "ytnnnfnebobaiiaa", sum := "ae68b00dc65cf1ea58a5ac80caff4e07df829a59bb7b3464be88817d2294741d", func := "jackstay/jackstaylaw09.NetOrder", spec := "netOrder", unfollowed := true, recurses := true, apart := false }
def NetOrderSaid : Prop := netOrderRow.holds Try.pinned (OpenSpec.ofChange netOrderSpec)

/-- ITS FALSE NEIGHBOUR: 'it returns false'. Refute it at one input. -/
def netOrderWrong : ChangeSpec := { name := "netOrder", fn := fun _ => fun
  | [d1, d2] => { results := [.lit (.bool false)], args := [d1, d2] }
  | _ => none }
def NetOrderWrongFalsely : Prop := netOrderRow.holds Try.pinned (OpenSpec.ofChange netOrderWrong)

/-- 'jackstaylaw09.NetCrashed': WHATEVER THE INPUT: true; the input reads as it did. -/
def netCrashedSpec : ChangeSpec := { name := "netCrashed", fn := fun _ => fun
  | [d1, d2, d3] => { results := [.lit (.bool true)], args := [d1, d2, d3] }
  | _ => none }
def netCrashedRow : OpenClaim := { program := "ytnnnfnebobaiiaa", sum := "ae68b00dc65cf1ea58a5ac80caff4e07df829a59bb7b3464be88817d2294741d", func := "jackstay/jackstaylaw09.NetCrashed", spec := "netCrashed", unfollowed := true, recurses := true, apart := false }
def NetCrashedSaid : Prop := netCrashedRow.holds Try.pinned (OpenSpec.ofChange netCrashedSpec)

/-- ITS FALSE NEIGHBOUR: 'it returns false'. Refute it at one input. -/
def netCrashedWrong : ChangeSpec := { name := "netCrashed", fn := fun _ => fun
  | [d1, d2, d3] => { results := [.lit (.bool false)], args := [d1, d2, d3] }
  | _ => none }
def NetCrashedWrongFalsely : Prop := netCrashedRow.holds Try.pinned (OpenSpec.ofChange netCrashedWrong)

/- THE SECOND FORM. 'bulk': how many values and letters a reading holds, each counted each time it is reached (what is shared counts as often as it is met; a slice's spare places count too). A statement '..UptoSaid' is the law's where the arguments, and the package variables that the reading takes, are together of bulk at most 1048576: NARROWER than '..Said'. Prove '..Said' where nothing that the law and all that it calls make is longer than what came in: it says more and counts as full. Else prove '..UptoSaid'. A law counts once. -/
mutual
def uptoBulk {H : Type} : DataW H → Nat
  | .lit (.string bytes) => bytes.length + 1
  | .lit _ => 1
  | .nil => 1
  | .ptr d => uptoBulk d + 1
  | .slice elems spare => uptoBulkAll elems + uptoBulkAll spare + 1
  | .agg parts => uptoBulkAll parts + 1
  | .iface _ d => uptoBulk d + 1
  | .map entries => uptoBulkEntries entries + 1
  | .held _ => 1
def uptoBulkAll {H : Type} : List (DataW H) → Nat
  | [] => 0
  | d :: r => uptoBulk d + uptoBulkAll r
def uptoBulkEntries {H : Type} : List (Lit × DataW H) → Nat
  | [] => 0
  | x :: r => uptoBulkEntry x + uptoBulkEntries r
def uptoBulkEntry {H : Type} : Lit × DataW H → Nat
  | (.string bytes, d) => bytes.length + uptoBulk d + 1
  | (_, d) => uptoBulk d + 1
 end
def uptoSmall : (H : Type) → List (DataW H) → Bool := fun _ ds => decide (uptoBulkAll ds ≤ 1048576)
def OpenSpec.upto (s : _root_.Go.ChangeSpec) : _root_.Go.OpenSpec := { _root_.Go.OpenSpec.ofChange s with cond := some uptoSmall }

/-- 'jackstaylaw04.FrameHead', WHERE WHAT IT READS IS OF BULK AT MOST 1048576: true; the input reads as it did. -/
def frameHeadUptoRow : OpenClaim := { program := "ytnnnfnebobaiiaa", sum := "ae68b00dc65cf1ea58a5ac80caff4e07df829a59bb7b3464be88817d2294741d", func := "jackstay/jackstaylaw04.FrameHead", spec := "frameHead", unfollowed := true, recurses := true, apart := false, narrowed := true }
def FrameHeadUptoSaid : Prop := frameHeadUptoRow.holds Try.pinned (OpenSpec.upto frameHeadSpec)

/-- 'jackstaylaw04.FrameFinds', WHERE WHAT IT READS IS OF BULK AT MOST 1048576: true; the input reads as it did. -/
def frameFindsUptoRow : OpenClaim := { program := "ytnnnfnebobaiiaa", sum := "ae68b00dc65cf1ea58a5ac80caff4e07df829a59bb7b3464be88817d2294741d", func := "jackstay/jackstaylaw04.FrameFinds", spec := "frameFinds", unfollowed := true, recurses := true, apart := false, narrowed := true }
def FrameFindsUptoSaid : Prop := frameFindsUptoRow.holds Try.pinned (OpenSpec.upto frameFindsSpec)

/-- 'jackstaylaw04.FrameOrder', WHERE WHAT IT READS IS OF BULK AT MOST 1048576: true; the input reads as it did. -/
def frameOrderUptoRow : OpenClaim := { program := "ytnnnfnebobaiiaa", sum := "ae68b00dc65cf1ea58a5ac80caff4e07df829a59bb7b3464be88817d2294741d", func := "jackstay/jackstaylaw04.FrameOrder", spec := "frameOrder", unfollowed := true, recurses := true, apart := false, narrowed := true }
def FrameOrderUptoSaid : Prop := frameOrderUptoRow.holds Try.pinned (OpenSpec.upto frameOrderSpec)

/-- 'jackstaylaw04.FrameLoose', WHERE WHAT IT READS IS OF BULK AT MOST 1048576: true; the input reads as it did. -/
def frameLooseUptoRow : OpenClaim := { program := "ytnnnfnebobaiiaa", sum := "ae68b00dc65cf1ea58a5ac80caff4e07df829a59bb7b3464be88817d2294741d", func := "jackstay/jackstaylaw04.FrameLoose", spec := "frameLoose", unfollowed := true, recurses := true, apart := false, narrowed := true }
def FrameLooseUptoSaid : Prop := frameLooseUptoRow.holds Try.pinned (OpenSpec.upto frameLooseSpec)

/-- 'jackstaylaw04.FrameTells', WHERE WHAT IT READS IS OF BULK AT MOST 1048576: true; the input reads as it did. -/
def frameTellsUptoRow : OpenClaim := { program := "ytnnnfnebobaiiaa", sum := "ae68b00dc65cf1ea58a5ac80caff4e07df829a59bb7b3464be88817d2294741d", func := "jackstay/jackstaylaw04.FrameTells", spec := "frameTells", unfollowed := true, recurses := true, apart := false, narrowed := true }
def FrameTellsUptoSaid : Prop := frameTellsUptoRow.holds Try.pinned (OpenSpec.upto frameTellsSpec)

/-- 'jackstaylaw04.FrameLong', WHERE WHAT IT READS IS OF BULK AT MOST 1048576: true; the input reads as it did. -/
def frameLongUptoRow : OpenClaim := { program := "ytnnnfnebobaiiaa", sum := "ae68b00dc65cf1ea58a5ac80caff4e07df829a59bb7b3464be88817d2294741d", func := "jackstay/jackstaylaw04.FrameLong", spec := "frameLong", unfollowed := true, recurses := true, apart := false, narrowed := true }
def FrameLongUptoSaid : Prop := frameLongUptoRow.holds Try.pinned (OpenSpec.upto frameLongSpec)

/-- 'jackstaylaw04.FrameBack', WHERE WHAT IT READS IS OF BULK AT MOST 1048576: true; the input reads as it did. -/
def frameBackUptoRow : OpenClaim := { program := "ytnnnfnebobaiiaa", sum := "ae68b00dc65cf1ea58a5ac80caff4e07df829a59bb7b3464be88817d2294741d", func := "jackstay/jackstaylaw04.FrameBack", spec := "frameBack", unfollowed := true, recurses := true, apart := false, narrowed := true }
def FrameBackUptoSaid : Prop := frameBackUptoRow.holds Try.pinned (OpenSpec.upto frameBackSpec)

/-- 'jackstaylaw07.TakeTurned', WHERE WHAT IT READS IS OF BULK AT MOST 1048576: true; the input reads as it did. -/
def takeTurnedUptoRow : OpenClaim := { program := "ytnnnfnebobaiiaa", sum := "ae68b00dc65cf1ea58a5ac80caff4e07df829a59bb7b3464be88817d2294741d", func := "jackstay/jackstaylaw07.TakeTurned", spec := "takeTurned", unfollowed := true, recurses := true, apart := false, narrowed := true }
def TakeTurnedUptoSaid : Prop := takeTurnedUptoRow.holds Try.pinned (OpenSpec.upto takeTurnedSpec)

/-- 'jackstaylaw07.TakeTells', WHERE WHAT IT READS IS OF BULK AT MOST 1048576: true; the input reads as it did. -/
def takeTellsUptoRow : OpenClaim := { program := "ytnnnfnebobaiiaa", sum := "ae68b00dc65cf1ea58a5ac80caff4e07df829a59bb7b3464be88817d2294741d", func := "jackstay/jackstaylaw07.TakeTells", spec := "takeTells", unfollowed := true, recurses := true, apart := false, narrowed := true }
def TakeTellsUptoSaid : Prop := takeTellsUptoRow.holds Try.pinned (OpenSpec.upto takeTellsSpec)

/-- 'jackstaylaw07.TakeWhole', WHERE WHAT IT READS IS OF BULK AT MOST 1048576: true; the input reads as it did. -/
def takeWholeUptoRow : OpenClaim := { program := "ytnnnfnebobaiiaa", sum := "ae68b00dc65cf1ea58a5ac80caff4e07df829a59bb7b3464be88817d2294741d", func := "jackstay/jackstaylaw07.TakeWhole", spec := "takeWhole", unfollowed := true, recurses := true, apart := false, narrowed := true }
def TakeWholeUptoSaid : Prop := takeWholeUptoRow.holds Try.pinned (OpenSpec.upto takeWholeSpec)

/-- 'jackstaylaw07.TakeOnce', WHERE WHAT IT READS IS OF BULK AT MOST 1048576: true; the input reads as it did. -/
def takeOnceUptoRow : OpenClaim := { program := "ytnnnfnebobaiiaa", sum := "ae68b00dc65cf1ea58a5ac80caff4e07df829a59bb7b3464be88817d2294741d", func := "jackstay/jackstaylaw07.TakeOnce", spec := "takeOnce", unfollowed := true, recurses := true, apart := false, narrowed := true }
def TakeOnceUptoSaid : Prop := takeOnceUptoRow.holds Try.pinned (OpenSpec.upto takeOnceSpec)

/-- 'jackstaylaw08.CtlUnheard', WHERE WHAT IT READS IS OF BULK AT MOST 1048576: true; the input reads as it did. -/
def ctlUnheardUptoRow : OpenClaim := { program := "ytnnnfnebobaiiaa", sum := "ae68b00dc65cf1ea58a5ac80caff4e07df829a59bb7b3464be88817d2294741d", func := "jackstay/jackstaylaw08.CtlUnheard", spec := "ctlUnheard", unfollowed := true, recurses := true, apart := false, narrowed := true }
def CtlUnheardUptoSaid : Prop := ctlUnheardUptoRow.holds Try.pinned (OpenSpec.upto ctlUnheardSpec)

/-- 'jackstaylaw08.CtlTail', WHERE WHAT IT READS IS OF BULK AT MOST 1048576: true; the input reads as it did. -/
def ctlTailUptoRow : OpenClaim := { program := "ytnnnfnebobaiiaa", sum := "ae68b00dc65cf1ea58a5ac80caff4e07df829a59bb7b3464be88817d2294741d", func := "jackstay/jackstaylaw08.CtlTail", spec := "ctlTail", unfollowed := true, recurses := true, apart := false, narrowed := true }
def CtlTailUptoSaid : Prop := ctlTailUptoRow.holds Try.pinned (OpenSpec.upto ctlTailSpec)

/-- 'jackstaylaw08.CtlBreaks', WHERE WHAT IT READS IS OF BULK AT MOST 1048576: true; the input reads as it did. -/
def ctlBreaksUptoRow : OpenClaim := { program := "ytnnnfnebobaiiaa", sum := "ae68b00dc65cf1ea58a5ac80caff4e07df829a59bb7b3464be88817d2294741d", func := "jackstay/jackstaylaw08.CtlBreaks", spec := "ctlBreaks", unfollowed := true, recurses := true, apart := false, narrowed := true }
def CtlBreaksUptoSaid : Prop := ctlBreaksUptoRow.holds Try.pinned (OpenSpec.upto ctlBreaksSpec)

/-- 'jackstaylaw08.CtlOverload', WHERE WHAT IT READS IS OF BULK AT MOST 1048576: true; the input reads as it did. -/
def ctlOverloadUptoRow : OpenClaim := { program := "ytnnnfnebobaiiaa", sum := "ae68b00dc65cf1ea58a5ac80caff4e07df829a59bb7b3464be88817d2294741d", func := "jackstay/jackstaylaw08.CtlOverload", spec := "ctlOverload", unfollowed := true, recurses := true, apart := false, narrowed := true }
def CtlOverloadUptoSaid : Prop := ctlOverloadUptoRow.holds Try.pinned (OpenSpec.upto ctlOverloadSpec)

/-- 'jackstaylaw08.CtlTwins', WHERE WHAT IT READS IS OF BULK AT MOST 1048576: true; the input reads as it did. -/
def ctlTwinsUptoRow : OpenClaim := { program := "ytnnnfnebobaiiaa", sum := "ae68b00dc65cf1ea58a5ac80caff4e07df829a59bb7b3464be88817d2294741d", func := "jackstay/jackstaylaw08.CtlTwins", spec := "ctlTwins", unfollowed := true, recurses := true, apart := false, narrowed := true }
def CtlTwinsUptoSaid : Prop := ctlTwinsUptoRow.holds Try.pinned (OpenSpec.upto ctlTwinsSpec)

/-- 'jackstaylaw08.CtlOnce', WHERE WHAT IT READS IS OF BULK AT MOST 1048576: true; the input reads as it did. -/
def ctlOnceUptoRow : OpenClaim := { program := "ytnnnfnebobaiiaa", sum := "ae68b00dc65cf1ea58a5ac80caff4e07df829a59bb7b3464be88817d2294741d", func := "jackstay/jackstaylaw08.CtlOnce", spec := "ctlOnce", unfollowed := true, recurses := true, apart := false, narrowed := true }
def CtlOnceUptoSaid : Prop := ctlOnceUptoRow.holds Try.pinned (OpenSpec.upto ctlOnceSpec)

/-- 'jackstaylaw08.CtlSends', WHERE WHAT IT READS IS OF BULK AT MOST 1048576: true; the input reads as it did. -/
def ctlSendsUptoRow : OpenClaim := { program := "ytnnnfnebobaiiaa", sum := "ae68b00dc65cf1ea58a5ac80caff4e07df829a59bb7b3464be88817d2294741d", func := "jackstay/jackstaylaw08.CtlSends", spec := "ctlSends", unfollowed := true, recurses := true, apart := false, narrowed := true }
def CtlSendsUptoSaid : Prop := ctlSendsUptoRow.holds Try.pinned (OpenSpec.upto ctlSendsSpec)

/-- 'jackstaylaw08.CtlTwo', WHERE WHAT IT READS IS OF BULK AT MOST 1048576: true; the input reads as it did. -/
def ctlTwoUptoRow : OpenClaim := { program := "ytnnnfnebobaiiaa", sum := "ae68b00dc65cf1ea58a5ac80caff4e07df829a59bb7b3464be88817d2294741d", func := "jackstay/jackstaylaw08.CtlTwo", spec := "ctlTwo", unfollowed := true, recurses := true, apart := false, narrowed := true }
def CtlTwoUptoSaid : Prop := ctlTwoUptoRow.holds Try.pinned (OpenSpec.upto ctlTwoSpec)

/-- 'jackstaylaw09.NetOmits', WHERE WHAT IT READS IS OF BULK AT MOST 1048576: true; the input reads as it did. -/
def netOmitsUptoRow : OpenClaim := { program := "ytnnnfnebobaiiaa", sum := "ae68b00dc65cf1ea58a5ac80caff4e07df829a59bb7b3464be88817d2294741d", func := "jackstay/jackstaylaw09.NetOmits", spec := "netOmits", unfollowed := true, recurses := true, apart := false, narrowed := true }
def NetOmitsUptoSaid : Prop := netOmitsUptoRow.holds Try.pinned (OpenSpec.upto netOmitsSpec)

/-- 'jackstaylaw09.NetTwins', WHERE WHAT IT READS IS OF BULK AT MOST 1048576: true; the input reads as it did. -/
def netTwinsUptoRow : OpenClaim := { program := "ytnnnfnebobaiiaa", sum := "ae68b00dc65cf1ea58a5ac80caff4e07df829a59bb7b3464be88817d2294741d", func := "jackstay/jackstaylaw09.NetTwins", spec := "netTwins", unfollowed := true, recurses := true, apart := false, narrowed := true }
def NetTwinsUptoSaid : Prop := netTwinsUptoRow.holds Try.pinned (OpenSpec.upto netTwinsSpec)

/-- 'jackstaylaw09.NetOff', WHERE WHAT IT READS IS OF BULK AT MOST 1048576: true; the input reads as it did. -/
def netOffUptoRow : OpenClaim := { program := "ytnnnfnebobaiiaa", sum := "ae68b00dc65cf1ea58a5ac80caff4e07df829a59bb7b3464be88817d2294741d", func := "jackstay/jackstaylaw09.NetOff", spec := "netOff", unfollowed := true, recurses := true, apart := false, narrowed := true }
def NetOffUptoSaid : Prop := netOffUptoRow.holds Try.pinned (OpenSpec.upto netOffSpec)

/-- 'jackstaylaw09.NetOrder', WHERE WHAT IT READS IS OF BULK AT MOST 1048576: true; the input reads as it did. -/
def netOrderUptoRow : OpenClaim := { program := "ytnnnfnebobaiiaa", sum := "ae68b00dc65cf1ea58a5ac80caff4e07df829a59bb7b3464be88817d2294741d", func := "jackstay/jackstaylaw09.NetOrder", spec := "netOrder", unfollowed := true, recurses := true, apart := false, narrowed := true }
def NetOrderUptoSaid : Prop := netOrderUptoRow.holds Try.pinned (OpenSpec.upto netOrderSpec)

/-- 'jackstaylaw09.NetCrashed', WHERE WHAT IT READS IS OF BULK AT MOST 1048576: true; the input reads as it did. -/
def netCrashedUptoRow : OpenClaim := { program := "ytnnnfnebobaiiaa", sum := "ae68b00dc65cf1ea58a5ac80caff4e07df829a59bb7b3464be88817d2294741d", func := "jackstay/jackstaylaw09.NetCrashed", spec := "netCrashed", unfollowed := true, recurses := true, apart := false, narrowed := true }
def NetCrashedUptoSaid : Prop := netCrashedUptoRow.holds Try.pinned (OpenSpec.upto netCrashedSpec)

end Rows
end Go.Proofs.Ytnnnfnebobaiiaa
