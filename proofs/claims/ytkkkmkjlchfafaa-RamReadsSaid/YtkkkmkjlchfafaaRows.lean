/-
  No cell of these rows narrows 'for every input' (looked for: loops, veiled, ifaces, maps, wideKeys, modest, calm, conditions, laid).
  DERIVED. THE GIVEN ROWS OF THIS SEAT. 4 by the template 'for every input the law returns true; each argument reads behind the call as it read before'; 0 by the template 'total and deterministic' (their statements: YtkkkmkjlchfafaaTotals.lean).
  GIVEN WITH THE SEED: the statements are not yours to turn. If you find one false, say at which input.
  Laid BY PROGRAM, IN A SANDBOX (cutbox-rows.mjs): the forced cells as the released guide's own fill.sh prints them over the translation ee1f305a9bd842de… (all of the seat's roots in one cut). By AI agents, Wed Nov 11 2026. No macro, syntax, notation, axiom, sorry.
-/
import Derived.Test.YtkkkmkjlchfafaaChecked
import GoSem.Claim
import GoSem.ClaimJoined
import GoSem.ClaimMapViews
import Derived.JoinedTies
import Derived.KernelRfl
namespace Go.Proofs.Ytkkkmkjlchfafaa
/- THE CELL 'sum', in the pinned program and in every row, IS THE sha256 OF THE DUMP (.gsa) THAT YtkkkmkjlchfafaaProg.lean LOADS. Nothing in Lean hashes anything: it is a label: what it is worth is what the hold of that sum in a sandbox is worth. -/
noncomputable def Try.pinned : Pinned := { name := "ytkkkmkjlchfafaa", sum := "ee1f305a9bd842de8aeec72e6244a41168595585b7ea56c8266c3ac6395ed6e1", checked := Try.checked }
namespace Rows
def none {H : Type} : Left H := { results := [], args := [] }

/-- 'drawbridgelaw07.RamReads': WHATEVER THE INPUT: true; the input reads as it did. -/
def ramReadsSpec : ChangeSpec := { name := "ramReads", fn := fun _ => fun
  | [d1, d2, d3] => { results := [.lit (.bool true)], args := [d1, d2, d3] }
  | _ => none }
def ramReadsRow : OpenClaim := { program := "ytkkkmkjlchfafaa", sum := "ee1f305a9bd842de8aeec72e6244a41168595585b7ea56c8266c3ac6395ed6e1", func := "drawbridge/drawbridgelaw07.RamReads", spec := "ramReads", apart := false }
def RamReadsSaid : Prop := ramReadsRow.holds Try.pinned (OpenSpec.ofChange ramReadsSpec)

/-- ITS FALSE NEIGHBOUR: 'it returns false'. Refute it at one input. -/
def ramReadsWrong : ChangeSpec := { name := "ramReads", fn := fun _ => fun
  | [d1, d2, d3] => { results := [.lit (.bool false)], args := [d1, d2, d3] }
  | _ => none }
def RamReadsWrongFalsely : Prop := ramReadsRow.holds Try.pinned (OpenSpec.ofChange ramReadsWrong)

/-- 'drawbridgelaw07.RamDoes': WHATEVER THE INPUT: true; the input reads as it did. -/
def ramDoesSpec : ChangeSpec := { name := "ramDoes", fn := fun _ => fun
  | [d1, d2, d3, d4, d5] => { results := [.lit (.bool true)], args := [d1, d2, d3, d4, d5] }
  | _ => none }
def ramDoesRow : OpenClaim := { program := "ytkkkmkjlchfafaa", sum := "ee1f305a9bd842de8aeec72e6244a41168595585b7ea56c8266c3ac6395ed6e1", func := "drawbridge/drawbridgelaw07.RamDoes", spec := "ramDoes", apart := false }
def RamDoesSaid : Prop := ramDoesRow.holds Try.pinned (OpenSpec.ofChange ramDoesSpec)

/-- ITS FALSE NEIGHBOUR: 'it returns false'. Refute it at one input. -/
def ramDoesWrong : ChangeSpec := { name := "ramDoes", fn := fun _ => fun
  | [d1, d2, d3, d4, d5] => { results := [.lit (.bool false)], args := [d1, d2, d3, d4, d5] }
  | _ => none }
def RamDoesWrongFalsely : Prop := ramDoesRow.holds Try.pinned (OpenSpec.ofChange ramDoesWrong)

/-- 'drawbridgelaw07.RamMakes': WHATEVER THE INPUT: true; the input reads as it did. -/
def ramMakesSpec : ChangeSpec := { name := "ramMakes", fn := fun _ => fun
  | [d] => { results := [.lit (.bool true)], args := [d] }
  | _ => none }
def ramMakesRow : OpenClaim := { program := "ytkkkmkjlchfafaa", sum := "ee1f305a9bd842de8aeec72e6244a41168595585b7ea56c8266c3ac6395ed6e1", func := "drawbridge/drawbridgelaw07.RamMakes", spec := "ramMakes", apart := false }
def RamMakesSaid : Prop := ramMakesRow.holds Try.pinned (OpenSpec.ofChange ramMakesSpec)

/-- ITS FALSE NEIGHBOUR: 'it returns false'. Refute it at one input. -/
def ramMakesWrong : ChangeSpec := { name := "ramMakes", fn := fun _ => fun
  | [d] => { results := [.lit (.bool false)], args := [d] }
  | _ => none }
def RamMakesWrongFalsely : Prop := ramMakesRow.holds Try.pinned (OpenSpec.ofChange ramMakesWrong)

/-- 'drawbridgelaw07.RamKeeps': WHATEVER THE INPUT: true; the input reads as it did. -/
def ramKeepsSpec : ChangeSpec := { name := "ramKeeps", fn := fun _ => fun
  | [d1, d2, d3, d4] => { results := [.lit (.bool true)], args := [d1, d2, d3, d4] }
  | _ => none }
def ramKeepsRow : OpenClaim := { program := "ytkkkmkjlchfafaa", sum := "ee1f305a9bd842de8aeec72e6244a41168595585b7ea56c8266c3ac6395ed6e1", func := "drawbridge/drawbridgelaw07.RamKeeps", spec := "ramKeeps", apart := false }
def RamKeepsSaid : Prop := ramKeepsRow.holds Try.pinned (OpenSpec.ofChange ramKeepsSpec)

/-- ITS FALSE NEIGHBOUR: 'it returns false'. Refute it at one input. -/
def ramKeepsWrong : ChangeSpec := { name := "ramKeeps", fn := fun _ => fun
  | [d1, d2, d3, d4] => { results := [.lit (.bool false)], args := [d1, d2, d3, d4] }
  | _ => none }
def RamKeepsWrongFalsely : Prop := ramKeepsRow.holds Try.pinned (OpenSpec.ofChange ramKeepsWrong)

/- THE SECOND FORM. 'bulk': how many values and letters a reading holds, each counted each time it is reached (what is shared counts as often as it is met; a slice's spare places count too). A statement '..UptoSaid' is the law's where the arguments, and the package variables that the reading takes, are together of bulk at most 1048576: NARROWER than '..Said'. Prove '..Said' where nothing that the law and all that it calls make is longer than what came in: it says more and counts as full. Else prove '..UptoSaid'. A law counts once. -/
mutual
def uptoBulk {H : Type} : DataW H → Nat
  | .lit (.string bytes) => bytes.length + 1
  | .lit _ => 1
  | .nil => 1
  | .ptr d => uptoBulk d + 1
  | .slice elems spare => uptoBulkAll elems + uptoBulkAll spare + 1
  | .agg parts => uptoBulkAll parts + 1
  | .iface _ d => uptoBulk d + 1
  | .map entries => uptoBulkEntries entries + 1
  | .held _ => 1
def uptoBulkAll {H : Type} : List (DataW H) → Nat
  | [] => 0
  | d :: r => uptoBulk d + uptoBulkAll r
def uptoBulkEntries {H : Type} : List (Lit × DataW H) → Nat
  | [] => 0
  | x :: r => uptoBulkEntry x + uptoBulkEntries r
def uptoBulkEntry {H : Type} : Lit × DataW H → Nat
  | (.string bytes, d) => bytes.length + uptoBulk d + 1
  | (_, d) => uptoBulk d + 1
 end
def uptoSmall : (H : Type) → List (DataW H) → Bool := fun _ ds => decide (uptoBulkAll ds ≤ 1048576)
def OpenSpec.upto (s : _root_.Go.ChangeSpec) : _root_.Go.OpenSpec := { _root_.Go.OpenSpec.ofChange s with cond := some uptoSmall }

/-- 'drawbridgelaw07.RamReads', WHERE WHAT IT READS IS OF BULK AT MOST 1048576: true; the input reads as it did. -/
def ramReadsUptoRow : OpenClaim := { program := "ytkkkmkjlchfafaa", sum := "ee1f305a9bd842de8aeec72e6244a41168595585b7ea56c8266c3ac6395ed6e1", func := "drawbridge/drawbridgelaw07.RamReads", spec := "ramReads", apart := false, narrowed := true }
def RamReadsUptoSaid : Prop := ramReadsUptoRow.holds Try.pinned (OpenSpec.upto ramReadsSpec)

/-- 'drawbridgelaw07.RamDoes', WHERE WHAT IT READS IS OF BULK AT MOST 1048576: true; the input reads as it did. -/
def ramDoesUptoRow : OpenClaim := { program := "ytkkkmkjlchfafaa", sum := "ee1f305a9bd842de8aeec72e6244a41168595585b7ea56c8266c3ac6395ed6e1", func := "drawbridge/drawbridgelaw07.RamDoes", spec := "ramDoes", apart := false, narrowed := true }
def RamDoesUptoSaid : Prop := ramDoesUptoRow.holds Try.pinned (OpenSpec.upto ramDoesSpec)

/-- 'drawbridgelaw07.RamMakes', WHERE WHAT IT READS IS OF BULK AT MOST 1048576: true; the input reads as it did. -/
def ramMakesUptoRow : OpenClaim := { program := "ytkkkmkjlchfafaa", sum := "ee1f305a9bd842de8aeec72e6244a41168595585b7ea56c8266c3ac6395ed6e1", func := "drawbridge/drawbridgelaw07.RamMakes", spec := "ramMakes", apart := false, narrowed := true }
def RamMakesUptoSaid : Prop := ramMakesUptoRow.holds Try.pinned (OpenSpec.upto ramMakesSpec)

/-- 'drawbridgelaw07.RamKeeps', WHERE WHAT IT READS IS OF BULK AT MOST 1048576: true; the input reads as it did. -/
def ramKeepsUptoRow : OpenClaim := { program := "ytkkkmkjlchfafaa", sum := "ee1f305a9bd842de8aeec72e6244a41168595585b7ea56c8266c3ac6395ed6e1", func := "drawbridge/drawbridgelaw07.RamKeeps", spec := "ramKeeps", apart := false, narrowed := true }
def RamKeepsUptoSaid : Prop := ramKeepsUptoRow.holds Try.pinned (OpenSpec.upto ramKeepsSpec)

end Rows
end Go.Proofs.Ytkkkmkjlchfafaa
