/-
  No cell of these rows narrows 'for every input' (looked for: loops, veiled, ifaces, maps, wideKeys, modest, calm, conditions, laid).
  DERIVED. THE GIVEN ROWS OF THIS SEAT. 5 by the template 'for every input the law returns true; each argument reads behind the call as it read before'; 0 by the template 'total and deterministic' (their statements: YtnlmndpdalgppaaTotals.lean).
  GIVEN WITH THE SEED: the statements are not yours to turn. If you find one false, say at which input.
  Laid BY PROGRAM, IN A SANDBOX (cutbox-rows.mjs): the forced cells as the released guide's own fill.sh prints them over the translation a643f445c0b36012… (all of the seat's roots in one cut). By AI agents, Wed Nov 11 2026. No macro, syntax, notation, axiom, sorry.
-/
import Derived.Test.YtnlmndpdalgppaaChecked
import GoSem.Claim
import GoSem.ClaimJoined
import GoSem.ClaimMapViews
import Derived.JoinedTies
import Derived.KernelRfl
namespace Go.Proofs.Ytnlmndpdalgppaa
/- THE CELL 'sum', in the pinned program and in every row, IS THE sha256 OF THE DUMP (.gsa) THAT YtnlmndpdalgppaaProg.lean LOADS. Nothing in Lean hashes anything: it is a label: what it is worth is what the hold of that sum in a sandbox is worth. -/
noncomputable def Try.pinned : Pinned := { name := "ytnlmndpdalgppaa", sum := "a643f445c0b360121c727f40bbf23c3b1bb4fc51ab432266db239a6156f56739", checked := Try.checked }
namespace Rows
def none {H : Type} : Left H := { results := [], args := [] }

/-- 'drawbridgelaw06.TrapFirst': WHATEVER THE INPUT: true; the input reads as it did. -/
def trapFirstSpec : ChangeSpec := { name := "trapFirst", fn := fun _ => fun
  | [d1, d2] => { results := [.lit (.bool true)], args := [d1, d2] }
  | _ => none }
def trapFirstRow : OpenClaim := { program := "ytnlmndpdalgppaa", sum := "a643f445c0b360121c727f40bbf23c3b1bb4fc51ab432266db239a6156f56739", func := "drawbridge/drawbridgelaw06.TrapFirst", spec := "trapFirst", unfollowed := true, recurses := true, apart := false }
def TrapFirstSaid : Prop := trapFirstRow.holds Try.pinned (OpenSpec.ofChange trapFirstSpec)

/-- ITS FALSE NEIGHBOUR: 'it returns false'. Refute it at one input. -/
def trapFirstWrong : ChangeSpec := { name := "trapFirst", fn := fun _ => fun
  | [d1, d2] => { results := [.lit (.bool false)], args := [d1, d2] }
  | _ => none }
def TrapFirstWrongFalsely : Prop := trapFirstRow.holds Try.pinned (OpenSpec.ofChange trapFirstWrong)

/-- 'drawbridgelaw06.TrapEnters': WHATEVER THE INPUT: true; the input reads as it did. -/
def trapEntersSpec : ChangeSpec := { name := "trapEnters", fn := fun _ => fun
  | [d1, d2, d3, d4, d5, d6] => { results := [.lit (.bool true)], args := [d1, d2, d3, d4, d5, d6] }
  | _ => none }
def trapEntersRow : OpenClaim := { program := "ytnlmndpdalgppaa", sum := "a643f445c0b360121c727f40bbf23c3b1bb4fc51ab432266db239a6156f56739", func := "drawbridge/drawbridgelaw06.TrapEnters", spec := "trapEnters", unfollowed := true, recurses := true, apart := false }
def TrapEntersSaid : Prop := trapEntersRow.holds Try.pinned (OpenSpec.ofChange trapEntersSpec)

/-- ITS FALSE NEIGHBOUR: 'it returns false'. Refute it at one input. -/
def trapEntersWrong : ChangeSpec := { name := "trapEnters", fn := fun _ => fun
  | [d1, d2, d3, d4, d5, d6] => { results := [.lit (.bool false)], args := [d1, d2, d3, d4, d5, d6] }
  | _ => none }
def TrapEntersWrongFalsely : Prop := trapEntersRow.holds Try.pinned (OpenSpec.ofChange trapEntersWrong)

/-- 'drawbridgelaw06.TrapLess': WHATEVER THE INPUT: true; the input reads as it did. -/
def trapLessSpec : ChangeSpec := { name := "trapLess", fn := fun _ => fun
  | [d1, d2] => { results := [.lit (.bool true)], args := [d1, d2] }
  | _ => none }
def trapLessRow : OpenClaim := { program := "ytnlmndpdalgppaa", sum := "a643f445c0b360121c727f40bbf23c3b1bb4fc51ab432266db239a6156f56739", func := "drawbridge/drawbridgelaw06.TrapLess", spec := "trapLess", unfollowed := true, recurses := true, apart := false }
def TrapLessSaid : Prop := trapLessRow.holds Try.pinned (OpenSpec.ofChange trapLessSpec)

/-- ITS FALSE NEIGHBOUR: 'it returns false'. Refute it at one input. -/
def trapLessWrong : ChangeSpec := { name := "trapLess", fn := fun _ => fun
  | [d1, d2] => { results := [.lit (.bool false)], args := [d1, d2] }
  | _ => none }
def TrapLessWrongFalsely : Prop := trapLessRow.holds Try.pinned (OpenSpec.ofChange trapLessWrong)

/-- 'drawbridgelaw06.TrapReturns': WHATEVER THE INPUT: true; the input reads as it did. -/
def trapReturnsSpec : ChangeSpec := { name := "trapReturns", fn := fun _ => fun
  | [d1, d2] => { results := [.lit (.bool true)], args := [d1, d2] }
  | _ => none }
def trapReturnsRow : OpenClaim := { program := "ytnlmndpdalgppaa", sum := "a643f445c0b360121c727f40bbf23c3b1bb4fc51ab432266db239a6156f56739", func := "drawbridge/drawbridgelaw06.TrapReturns", spec := "trapReturns", unfollowed := true, recurses := true, apart := false }
def TrapReturnsSaid : Prop := trapReturnsRow.holds Try.pinned (OpenSpec.ofChange trapReturnsSpec)

/-- ITS FALSE NEIGHBOUR: 'it returns false'. Refute it at one input. -/
def trapReturnsWrong : ChangeSpec := { name := "trapReturns", fn := fun _ => fun
  | [d1, d2] => { results := [.lit (.bool false)], args := [d1, d2] }
  | _ => none }
def TrapReturnsWrongFalsely : Prop := trapReturnsRow.holds Try.pinned (OpenSpec.ofChange trapReturnsWrong)

/-- 'drawbridgelaw06.TrapBack': WHATEVER THE INPUT: true; the input reads as it did. -/
def trapBackSpec : ChangeSpec := { name := "trapBack", fn := fun _ => fun
  | [d1, d2, d3, d4, d5] => { results := [.lit (.bool true)], args := [d1, d2, d3, d4, d5] }
  | _ => none }
def trapBackRow : OpenClaim := { program := "ytnlmndpdalgppaa", sum := "a643f445c0b360121c727f40bbf23c3b1bb4fc51ab432266db239a6156f56739", func := "drawbridge/drawbridgelaw06.TrapBack", spec := "trapBack", unfollowed := true, recurses := true, apart := false }
def TrapBackSaid : Prop := trapBackRow.holds Try.pinned (OpenSpec.ofChange trapBackSpec)

/-- ITS FALSE NEIGHBOUR: 'it returns false'. Refute it at one input. -/
def trapBackWrong : ChangeSpec := { name := "trapBack", fn := fun _ => fun
  | [d1, d2, d3, d4, d5] => { results := [.lit (.bool false)], args := [d1, d2, d3, d4, d5] }
  | _ => none }
def TrapBackWrongFalsely : Prop := trapBackRow.holds Try.pinned (OpenSpec.ofChange trapBackWrong)

/- THE SECOND FORM. 'bulk': how many values and letters a reading holds, each counted each time it is reached (what is shared counts as often as it is met; a slice's spare places count too). A statement '..UptoSaid' is the law's where the arguments, and the package variables that the reading takes, are together of bulk at most 1048576: NARROWER than '..Said'. Prove '..Said' where nothing that the law and all that it calls make is longer than what came in: it says more and counts as full. Else prove '..UptoSaid'. A law counts once. -/
mutual
def uptoBulk {H : Type} : DataW H → Nat
  | .lit (.string bytes) => bytes.length + 1
  | .lit _ => 1
  | .nil => 1
  | .ptr d => uptoBulk d + 1
  | .slice elems spare => uptoBulkAll elems + uptoBulkAll spare + 1
  | .agg parts => uptoBulkAll parts + 1
  | .iface _ d => uptoBulk d + 1
  | .map entries => uptoBulkEntries entries + 1
  | .held _ => 1
def uptoBulkAll {H : Type} : List (DataW H) → Nat
  | [] => 0
  | d :: r => uptoBulk d + uptoBulkAll r
def uptoBulkEntries {H : Type} : List (Lit × DataW H) → Nat
  | [] => 0
  | x :: r => uptoBulkEntry x + uptoBulkEntries r
def uptoBulkEntry {H : Type} : Lit × DataW H → Nat
  | (.string bytes, d) => bytes.length + uptoBulk d + 1
  | (_, d) => uptoBulk d + 1
 end
def uptoSmall : (H : Type) → List (DataW H) → Bool := fun _ ds => decide (uptoBulkAll ds ≤ 1048576)
def OpenSpec.upto (s : _root_.Go.ChangeSpec) : _root_.Go.OpenSpec := { _root_.Go.OpenSpec.ofChange s with cond := some uptoSmall }

/-- 'drawbridgelaw06.TrapFirst', WHERE WHAT IT READS IS OF BULK AT MOST 1048576: true; the input reads as it did. -/
def trapFirstUptoRow : OpenClaim := { program := "ytnlmndpdalgppaa", sum := "a643f445c0b360121c727f40bbf23c3b1bb4fc51ab432266db239a6156f56739", func := "drawbridge/drawbridgelaw06.TrapFirst", spec := "trapFirst", unfollowed := true, recurses := true, apart := false, narrowed := true }
def TrapFirstUptoSaid : Prop := trapFirstUptoRow.holds Try.pinned (OpenSpec.upto trapFirstSpec)

/-- 'drawbridgelaw06.TrapEnters', WHERE WHAT IT READS IS OF BULK AT MOST 1048576: true; the input reads as it did. -/
def trapEntersUptoRow : OpenClaim := { program := "ytnlmndpdalgppaa", sum := "a643f445c0b360121c727f40bbf23c3b1bb4fc51ab432266db239a6156f56739", func := "drawbridge/drawbridgelaw06.TrapEnters", spec := "trapEnters", unfollowed := true, recurses := true, apart := false, narrowed := true }
def TrapEntersUptoSaid : Prop := trapEntersUptoRow.holds Try.pinned (OpenSpec.upto trapEntersSpec)

/-- 'drawbridgelaw06.TrapLess', WHERE WHAT IT READS IS OF BULK AT MOST 1048576: true; the input reads as it did. -/
def trapLessUptoRow : OpenClaim := { program := "ytnlmndpdalgppaa", sum := "a643f445c0b360121c727f40bbf23c3b1bb4fc51ab432266db239a6156f56739", func := "drawbridge/drawbridgelaw06.TrapLess", spec := "trapLess", unfollowed := true, recurses := true, apart := false, narrowed := true }
def TrapLessUptoSaid : Prop := trapLessUptoRow.holds Try.pinned (OpenSpec.upto trapLessSpec)

/-- 'drawbridgelaw06.TrapReturns', WHERE WHAT IT READS IS OF BULK AT MOST 1048576: true; the input reads as it did. -/
def trapReturnsUptoRow : OpenClaim := { program := "ytnlmndpdalgppaa", sum := "a643f445c0b360121c727f40bbf23c3b1bb4fc51ab432266db239a6156f56739", func := "drawbridge/drawbridgelaw06.TrapReturns", spec := "trapReturns", unfollowed := true, recurses := true, apart := false, narrowed := true }
def TrapReturnsUptoSaid : Prop := trapReturnsUptoRow.holds Try.pinned (OpenSpec.upto trapReturnsSpec)

/-- 'drawbridgelaw06.TrapBack', WHERE WHAT IT READS IS OF BULK AT MOST 1048576: true; the input reads as it did. -/
def trapBackUptoRow : OpenClaim := { program := "ytnlmndpdalgppaa", sum := "a643f445c0b360121c727f40bbf23c3b1bb4fc51ab432266db239a6156f56739", func := "drawbridge/drawbridgelaw06.TrapBack", spec := "trapBack", unfollowed := true, recurses := true, apart := false, narrowed := true }
def TrapBackUptoSaid : Prop := trapBackUptoRow.holds Try.pinned (OpenSpec.upto trapBackSpec)

end Rows
end Go.Proofs.Ytnlmndpdalgppaa
