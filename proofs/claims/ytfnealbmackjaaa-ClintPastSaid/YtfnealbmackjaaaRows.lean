/-
  No cell of these rows narrows 'for every input' (looked for: loops, veiled, ifaces, maps, wideKeys, modest, calm, conditions, laid).
  DERIVED. THE GIVEN ROWS OF THIS SEAT. 3 by the template 'for every input the law returns true; each argument reads behind the call as it read before'; 0 by the template 'total and deterministic' (their statements: YtfnealbmackjaaaTotals.lean).
  GIVEN WITH THE SEED: the statements are not yours to turn. If you find one false, say at which input.
  Laid BY PROGRAM, IN A SANDBOX (cutbox-rows.mjs): the forced cells as the released guide's own fill.sh prints them over the translation 9aa35ca2bddb422d… (all of the seat's roots in one cut). By AI agents, Wed Nov 11 2026. No macro, syntax, notation, axiom, sorry.
-/
import Derived.Test.YtfnealbmackjaaaChecked
import GoSem.Claim
import GoSem.ClaimJoined
import GoSem.ClaimMapViews
import Derived.JoinedTies
import Derived.KernelRfl
namespace Go.Proofs.Ytfnealbmackjaaa
/- THE CELL 'sum', in the pinned program and in every row, IS THE sha256 OF THE DUMP (.gsa) THAT YtfnealbmackjaaaProg.lean LOADS. Nothing in Lean hashes anything: it is a label: what it is worth is what the hold of that sum in a sandbox is worth. -/
noncomputable def Try.pinned : Pinned := { name := "ytfnealbmackjaaa", sum := "9aa35ca2bddb422d925c0a79ca61da98d802adda3c0f58a4b97197698111617b", checked := Try.checked }
namespace Rows
def none {H : Type} : Left H := { results := [], args := [] }

/-- 'drawbridgelaw09.ClintDoes': WHATEVER THE INPUT: true; the input reads as it did. -/
def clintDoesSpec : ChangeSpec := { name := "clintDoes", fn := fun _ => fun
  | [d1, d2, d3, d4] => { results := [.lit (.bool true)], args := [d1, d2, d3, d4] }
  | _ => none }
def clintDoesRow : OpenClaim := { program := "ytfnealbmackjaaa", sum := "9aa35ca2bddb422d925c0a79ca61da98d802adda3c0f58a4b97197698111617b", func := "drawbridge/drawbridgelaw09.ClintDoes", spec := "clintDoes", apart := false }
def ClintDoesSaid : Prop := clintDoesRow.holds Try.pinned (OpenSpec.ofChange clintDoesSpec)

/-- ITS FALSE NEIGHBOUR: 'it returns false'. Refute it at one input. -/
def clintDoesWrong : ChangeSpec := { name := "clintDoes", fn := fun _ => fun
  | [d1, d2, d3, d4] => { results := [.lit (.bool false)], args := [d1, d2, d3, d4] }
  | _ => none }
def ClintDoesWrongFalsely : Prop := clintDoesRow.holds Try.pinned (OpenSpec.ofChange clintDoesWrong)

/-- 'drawbridgelaw09.ClintBack': WHATEVER THE INPUT: true; the input reads as it did. -/
def clintBackSpec : ChangeSpec := { name := "clintBack", fn := fun _ => fun
  | [d1, d2, d3, d4, d5] => { results := [.lit (.bool true)], args := [d1, d2, d3, d4, d5] }
  | _ => none }
def clintBackRow : OpenClaim := { program := "ytfnealbmackjaaa", sum := "9aa35ca2bddb422d925c0a79ca61da98d802adda3c0f58a4b97197698111617b", func := "drawbridge/drawbridgelaw09.ClintBack", spec := "clintBack", apart := false }
def ClintBackSaid : Prop := clintBackRow.holds Try.pinned (OpenSpec.ofChange clintBackSpec)

/-- ITS FALSE NEIGHBOUR: 'it returns false'. Refute it at one input. -/
def clintBackWrong : ChangeSpec := { name := "clintBack", fn := fun _ => fun
  | [d1, d2, d3, d4, d5] => { results := [.lit (.bool false)], args := [d1, d2, d3, d4, d5] }
  | _ => none }
def ClintBackWrongFalsely : Prop := clintBackRow.holds Try.pinned (OpenSpec.ofChange clintBackWrong)

/-- 'drawbridgelaw09.ClintPast': WHATEVER THE INPUT: true; the input reads as it did. -/
def clintPastSpec : ChangeSpec := { name := "clintPast", fn := fun _ => fun
  | [d1, d2] => { results := [.lit (.bool true)], args := [d1, d2] }
  | _ => none }
def clintPastRow : OpenClaim := { program := "ytfnealbmackjaaa", sum := "9aa35ca2bddb422d925c0a79ca61da98d802adda3c0f58a4b97197698111617b", func := "drawbridge/drawbridgelaw09.ClintPast", spec := "clintPast", apart := false }
def ClintPastSaid : Prop := clintPastRow.holds Try.pinned (OpenSpec.ofChange clintPastSpec)

/-- ITS FALSE NEIGHBOUR: 'it returns false'. Refute it at one input. -/
def clintPastWrong : ChangeSpec := { name := "clintPast", fn := fun _ => fun
  | [d1, d2] => { results := [.lit (.bool false)], args := [d1, d2] }
  | _ => none }
def ClintPastWrongFalsely : Prop := clintPastRow.holds Try.pinned (OpenSpec.ofChange clintPastWrong)

/- THE SECOND FORM. 'bulk': how many values and letters a reading holds, each counted each time it is reached (what is shared counts as often as it is met; a slice's spare places count too). A statement '..UptoSaid' is the law's where the arguments, and the package variables that the reading takes, are together of bulk at most 1048576: NARROWER than '..Said'. Prove '..Said' where nothing that the law and all that it calls make is longer than what came in: it says more and counts as full. Else prove '..UptoSaid'. A law counts once. -/
mutual
def uptoBulk {H : Type} : DataW H → Nat
  | .lit (.string bytes) => bytes.length + 1
  | .lit _ => 1
  | .nil => 1
  | .ptr d => uptoBulk d + 1
  | .slice elems spare => uptoBulkAll elems + uptoBulkAll spare + 1
  | .agg parts => uptoBulkAll parts + 1
  | .iface _ d => uptoBulk d + 1
  | .map entries => uptoBulkEntries entries + 1
  | .held _ => 1
def uptoBulkAll {H : Type} : List (DataW H) → Nat
  | [] => 0
  | d :: r => uptoBulk d + uptoBulkAll r
def uptoBulkEntries {H : Type} : List (Lit × DataW H) → Nat
  | [] => 0
  | x :: r => uptoBulkEntry x + uptoBulkEntries r
def uptoBulkEntry {H : Type} : Lit × DataW H → Nat
  | (.string bytes, d) => bytes.length + uptoBulk d + 1
  | (_, d) => uptoBulk d + 1
 end
def uptoSmall : (H : Type) → List (DataW H) → Bool := fun _ ds => decide (uptoBulkAll ds ≤ 1048576)
def OpenSpec.upto (s : _root_.Go.ChangeSpec) : _root_.Go.OpenSpec := { _root_.Go.OpenSpec.ofChange s with cond := some uptoSmall }

/-- 'drawbridgelaw09.ClintDoes', WHERE WHAT IT READS IS OF BULK AT MOST 1048576: true; the input reads as it did. -/
def clintDoesUptoRow : OpenClaim := { program := "ytfnealbmackjaaa", sum := "9aa35ca2bddb422d925c0a79ca61da98d802adda3c0f58a4b97197698111617b", func := "drawbridge/drawbridgelaw09.ClintDoes", spec := "clintDoes", apart := false, narrowed := true }
def ClintDoesUptoSaid : Prop := clintDoesUptoRow.holds Try.pinned (OpenSpec.upto clintDoesSpec)

/-- 'drawbridgelaw09.ClintBack', WHERE WHAT IT READS IS OF BULK AT MOST 1048576: true; the input reads as it did. -/
def clintBackUptoRow : OpenClaim := { program := "ytfnealbmackjaaa", sum := "9aa35ca2bddb422d925c0a79ca61da98d802adda3c0f58a4b97197698111617b", func := "drawbridge/drawbridgelaw09.ClintBack", spec := "clintBack", apart := false, narrowed := true }
def ClintBackUptoSaid : Prop := clintBackUptoRow.holds Try.pinned (OpenSpec.upto clintBackSpec)

/-- 'drawbridgelaw09.ClintPast', WHERE WHAT IT READS IS OF BULK AT MOST 1048576: true; the input reads as it did. -/
def clintPastUptoRow : OpenClaim := { program := "ytfnealbmackjaaa", sum := "9aa35ca2bddb422d925c0a79ca61da98d802adda3c0f58a4b97197698111617b", func := "drawbridge/drawbridgelaw09.ClintPast", spec := "clintPast", apart := false, narrowed := true }
def ClintPastUptoSaid : Prop := clintPastUptoRow.holds Try.pinned (OpenSpec.upto clintPastSpec)

end Rows
end Go.Proofs.Ytfnealbmackjaaa
