/-
  No cell of these rows narrows 'for every input' (looked for: loops, veiled, ifaces, maps, wideKeys, modest, calm, conditions, laid).
  DERIVED. THE GIVEN ROWS OF THIS SEAT. 4 by the template 'for every input the law returns true; each argument reads behind the call as it read before'; 0 by the template 'total and deterministic' (their statements: YtjpnkapjnnighaaTotals.lean).
  GIVEN WITH THE SEED: the statements are not yours to turn. If you find one false, say at which input.
  Laid BY PROGRAM, IN A SANDBOX (cutbox-rows.mjs): the forced cells as the released guide's own fill.sh prints them over the translation d3e8ee746a50b400… (all of the seat's roots in one cut). By AI agents, Wed Nov 11 2026. No macro, syntax, notation, axiom, sorry.
-/
import Derived.Test.YtjpnkapjnnighaaChecked
import GoSem.Claim
import GoSem.ClaimJoined
import GoSem.ClaimMapViews
import Derived.JoinedTies
import Derived.KernelRfl
namespace Go.Proofs.Ytjpnkapjnnighaa
/- THE CELL 'sum', in the pinned program and in every row, IS THE sha256 OF THE DUMP (.gsa) THAT YtjpnkapjnnighaaProg.lean LOADS. Nothing in Lean hashes anything: it is a label: what it is worth is what the hold of that sum in a sandbox is worth. -/
noncomputable def Try.pinned : Pinned := { name := "ytjpnkapjnnighaa", sum := "d3e8ee746a50b400819c4954467d4d2fef04923de44bb7fd8f4f4db00a648754", checked := Try.checked }
namespace Rows
def none {H : Type} : Left H := { results := [], args := [] }

/-- 'jackstaylaw02.StuffTells': WHATEVER THE INPUT: true; the input reads as it did. -/
def stuffTellsSpec : ChangeSpec := { name := "stuffTells", fn := fun _ => fun
  | [d1, d2, d3] => { results := [.lit (.bool true)], args := [d1, d2, d3] }
  | _ => none }
def stuffTellsRow : OpenClaim := { program := "ytjpnkapjnnighaa", sum := "d3e8ee746a50b400819c4954467d4d2fef04923de44bb7fd8f4f4db00a648754", func := "jackstay/jackstaylaw02.StuffTells", spec := "stuffTells", apart := false }
def StuffTellsSaid : Prop := stuffTellsRow.holds Try.pinned (OpenSpec.ofChange stuffTellsSpec)

/-- ITS FALSE NEIGHBOUR: 'it returns false'. Refute it at one input. -/
def stuffTellsWrong : ChangeSpec := { name := "stuffTells", fn := fun _ => fun
  | [d1, d2, d3] => { results := [.lit (.bool false)], args := [d1, d2, d3] }
  | _ => none }
def StuffTellsWrongFalsely : Prop := stuffTellsRow.holds Try.pinned (OpenSpec.ofChange stuffTellsWrong)

/-- 'jackstaylaw02.StuffBack': WHATEVER THE INPUT: true; the input reads as it did. -/
def stuffBackSpec : ChangeSpec := { name := "stuffBack", fn := fun _ => fun
  | [d] => { results := [.lit (.bool true)], args := [d] }
  | _ => none }
def stuffBackRow : OpenClaim := { program := "ytjpnkapjnnighaa", sum := "d3e8ee746a50b400819c4954467d4d2fef04923de44bb7fd8f4f4db00a648754", func := "jackstay/jackstaylaw02.StuffBack", spec := "stuffBack", apart := false }
def StuffBackSaid : Prop := stuffBackRow.holds Try.pinned (OpenSpec.ofChange stuffBackSpec)

/-- ITS FALSE NEIGHBOUR: 'it returns false'. Refute it at one input. -/
def stuffBackWrong : ChangeSpec := { name := "stuffBack", fn := fun _ => fun
  | [d] => { results := [.lit (.bool false)], args := [d] }
  | _ => none }
def StuffBackWrongFalsely : Prop := stuffBackRow.holds Try.pinned (OpenSpec.ofChange stuffBackWrong)

/-- 'jackstaylaw02.StuffWrong': WHATEVER THE INPUT: true; the input reads as it did. -/
def stuffWrongSpec : ChangeSpec := { name := "stuffWrong", fn := fun _ => fun
  | [d1, d2] => { results := [.lit (.bool true)], args := [d1, d2] }
  | _ => none }
def stuffWrongRow : OpenClaim := { program := "ytjpnkapjnnighaa", sum := "d3e8ee746a50b400819c4954467d4d2fef04923de44bb7fd8f4f4db00a648754", func := "jackstay/jackstaylaw02.StuffWrong", spec := "stuffWrong", apart := false }
def StuffWrongSaid : Prop := stuffWrongRow.holds Try.pinned (OpenSpec.ofChange stuffWrongSpec)

/-- ITS FALSE NEIGHBOUR: 'it returns false'. Refute it at one input. -/
def stuffWrongWrong : ChangeSpec := { name := "stuffWrong", fn := fun _ => fun
  | [d1, d2] => { results := [.lit (.bool false)], args := [d1, d2] }
  | _ => none }
def StuffWrongWrongFalsely : Prop := stuffWrongRow.holds Try.pinned (OpenSpec.ofChange stuffWrongWrong)

/-- 'jackstaylaw02.StuffRows': WHATEVER THE INPUT: true; the input reads as it did. -/
def stuffRowsSpec : ChangeSpec := { name := "stuffRows", fn := fun _ => fun
  | [d] => { results := [.lit (.bool true)], args := [d] }
  | _ => none }
def stuffRowsRow : OpenClaim := { program := "ytjpnkapjnnighaa", sum := "d3e8ee746a50b400819c4954467d4d2fef04923de44bb7fd8f4f4db00a648754", func := "jackstay/jackstaylaw02.StuffRows", spec := "stuffRows", apart := false }
def StuffRowsSaid : Prop := stuffRowsRow.holds Try.pinned (OpenSpec.ofChange stuffRowsSpec)

/-- ITS FALSE NEIGHBOUR: 'it returns false'. Refute it at one input. -/
def stuffRowsWrong : ChangeSpec := { name := "stuffRows", fn := fun _ => fun
  | [d] => { results := [.lit (.bool false)], args := [d] }
  | _ => none }
def StuffRowsWrongFalsely : Prop := stuffRowsRow.holds Try.pinned (OpenSpec.ofChange stuffRowsWrong)

/- THE SECOND FORM. 'bulk': how many values and letters a reading holds, each counted each time it is reached (what is shared counts as often as it is met; a slice's spare places count too). A statement '..UptoSaid' is the law's where the arguments, and the package variables that the reading takes, are together of bulk at most 1048576: NARROWER than '..Said'. Prove '..Said' where nothing that the law and all that it calls make is longer than what came in: it says more and counts as full. Else prove '..UptoSaid'. A law counts once. -/
mutual
def uptoBulk {H : Type} : DataW H → Nat
  | .lit (.string bytes) => bytes.length + 1
  | .lit _ => 1
  | .nil => 1
  | .ptr d => uptoBulk d + 1
  | .slice elems spare => uptoBulkAll elems + uptoBulkAll spare + 1
  | .agg parts => uptoBulkAll parts + 1
  | .iface _ d => uptoBulk d + 1
  | .map entries => uptoBulkEntries entries + 1
  | .held _ => 1
def uptoBulkAll {H : Type} : List (DataW H) → Nat
  | [] => 0
  | d :: r => uptoBulk d + uptoBulkAll r
def uptoBulkEntries {H : Type} : List (Lit × DataW H) → Nat
  | [] => 0
  | x :: r => uptoBulkEntry x + uptoBulkEntries r
def uptoBulkEntry {H : Type} : Lit × DataW H → Nat
  | (.string bytes, d) => bytes.length + uptoBulk d + 1
  | (_, d) => uptoBulk d + 1
 end
def uptoSmall : (H : Type) → List (DataW H) → Bool := fun _ ds => decide (uptoBulkAll ds ≤ 1048576)
def OpenSpec.upto (s : _root_.Go.ChangeSpec) : _root_.Go.OpenSpec := { _root_.Go.OpenSpec.ofChange s with cond := some uptoSmall }

/-- 'jackstaylaw02.StuffTells', WHERE WHAT IT READS IS OF BULK AT MOST 1048576: true; the input reads as it did. -/
def stuffTellsUptoRow : OpenClaim := { program := "ytjpnkapjnnighaa", sum := "d3e8ee746a50b400819c4954467d4d2fef04923de44bb7fd8f4f4db00a648754", func := "jackstay/jackstaylaw02.StuffTells", spec := "stuffTells", apart := false, narrowed := true }
def StuffTellsUptoSaid : Prop := stuffTellsUptoRow.holds Try.pinned (OpenSpec.upto stuffTellsSpec)

/-- 'jackstaylaw02.StuffBack', WHERE WHAT IT READS IS OF BULK AT MOST 1048576: true; the input reads as it did. -/
def stuffBackUptoRow : OpenClaim := { program := "ytjpnkapjnnighaa", sum := "d3e8ee746a50b400819c4954467d4d2fef04923de44bb7fd8f4f4db00a648754", func := "jackstay/jackstaylaw02.StuffBack", spec := "stuffBack", apart := false, narrowed := true }
def StuffBackUptoSaid : Prop := stuffBackUptoRow.holds Try.pinned (OpenSpec.upto stuffBackSpec)

/-- 'jackstaylaw02.StuffWrong', WHERE WHAT IT READS IS OF BULK AT MOST 1048576: true; the input reads as it did. -/
def stuffWrongUptoRow : OpenClaim := { program := "ytjpnkapjnnighaa", sum := "d3e8ee746a50b400819c4954467d4d2fef04923de44bb7fd8f4f4db00a648754", func := "jackstay/jackstaylaw02.StuffWrong", spec := "stuffWrong", apart := false, narrowed := true }
def StuffWrongUptoSaid : Prop := stuffWrongUptoRow.holds Try.pinned (OpenSpec.upto stuffWrongSpec)

/-- 'jackstaylaw02.StuffRows', WHERE WHAT IT READS IS OF BULK AT MOST 1048576: true; the input reads as it did. -/
def stuffRowsUptoRow : OpenClaim := { program := "ytjpnkapjnnighaa", sum := "d3e8ee746a50b400819c4954467d4d2fef04923de44bb7fd8f4f4db00a648754", func := "jackstay/jackstaylaw02.StuffRows", spec := "stuffRows", apart := false, narrowed := true }
def StuffRowsUptoSaid : Prop := stuffRowsUptoRow.holds Try.pinned (OpenSpec.upto stuffRowsSpec)

end Rows
end Go.Proofs.Ytjpnkapjnnighaa
