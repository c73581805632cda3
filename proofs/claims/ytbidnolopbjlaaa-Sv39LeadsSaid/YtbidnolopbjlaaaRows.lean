/-
  No cell of these rows narrows 'for every input' (looked for: loops, veiled, ifaces, maps, wideKeys, modest, calm, conditions, laid).
  DERIVED. THE GIVEN ROWS OF THIS SEAT. 5 by the template 'for every input the law returns true; each argument reads behind the call as it read before'; 0 by the template 'total and deterministic' (their statements: YtbidnolopbjlaaaTotals.lean).
  GIVEN WITH THE SEED: the statements are not yours to turn. If you find one false, say at which input.
  Laid BY PROGRAM, IN A SANDBOX (cutbox-rows.mjs): the forced cells as the released guide's own fill.sh prints them over the translation d34227f008140cf8… (all of the seat's roots in one cut). By AI agents, Wed Nov 11 2026. No macro, syntax, notation, axiom, sorry.
-/
import Derived.Test.YtbidnolopbjlaaaChecked
import GoSem.Claim
import GoSem.ClaimJoined
import GoSem.ClaimMapViews
import Derived.JoinedTies
import Derived.KernelRfl
namespace Go.Proofs.Ytbidnolopbjlaaa
/- THE CELL 'sum', in the pinned program and in every row, IS THE sha256 OF THE DUMP (.gsa) THAT YtbidnolopbjlaaaProg.lean LOADS. Nothing in Lean hashes anything: it is a label: what it is worth is what the hold of that sum in a sandbox is worth. -/
noncomputable def Try.pinned : Pinned := { name := "ytbidnolopbjlaaa", sum := "d34227f008140cf8933d2939d62e7f77a6d8af7043207c7d9a431adb6e89279c", checked := Try.checked }
namespace Rows
def none {H : Type} : Left H := { results := [], args := [] }

/-- 'drawbridgelaw08.Sv39Apart': WHATEVER THE INPUT: true; the input reads as it did. -/
def sv39ApartSpec : ChangeSpec := { name := "sv39Apart", fn := fun _ => fun
  | [d1, d2, d3, d4, d5] => { results := [.lit (.bool true)], args := [d1, d2, d3, d4, d5] }
  | _ => none }
def sv39ApartRow : OpenClaim := { program := "ytbidnolopbjlaaa", sum := "d34227f008140cf8933d2939d62e7f77a6d8af7043207c7d9a431adb6e89279c", func := "drawbridge/drawbridgelaw08.Sv39Apart", spec := "sv39Apart", apart := false }
def Sv39ApartSaid : Prop := sv39ApartRow.holds Try.pinned (OpenSpec.ofChange sv39ApartSpec)

/-- ITS FALSE NEIGHBOUR: 'it returns false'. Refute it at one input. -/
def sv39ApartWrong : ChangeSpec := { name := "sv39Apart", fn := fun _ => fun
  | [d1, d2, d3, d4, d5] => { results := [.lit (.bool false)], args := [d1, d2, d3, d4, d5] }
  | _ => none }
def Sv39ApartWrongFalsely : Prop := sv39ApartRow.holds Try.pinned (OpenSpec.ofChange sv39ApartWrong)

/-- 'drawbridgelaw08.Sv39Leads': WHATEVER THE INPUT: true; the input reads as it did. -/
def sv39LeadsSpec : ChangeSpec := { name := "sv39Leads", fn := fun _ => fun
  | [d1, d2, d3, d4, d5, d6] => { results := [.lit (.bool true)], args := [d1, d2, d3, d4, d5, d6] }
  | _ => none }
def sv39LeadsRow : OpenClaim := { program := "ytbidnolopbjlaaa", sum := "d34227f008140cf8933d2939d62e7f77a6d8af7043207c7d9a431adb6e89279c", func := "drawbridge/drawbridgelaw08.Sv39Leads", spec := "sv39Leads", apart := false }
def Sv39LeadsSaid : Prop := sv39LeadsRow.holds Try.pinned (OpenSpec.ofChange sv39LeadsSpec)

/-- ITS FALSE NEIGHBOUR: 'it returns false'. Refute it at one input. -/
def sv39LeadsWrong : ChangeSpec := { name := "sv39Leads", fn := fun _ => fun
  | [d1, d2, d3, d4, d5, d6] => { results := [.lit (.bool false)], args := [d1, d2, d3, d4, d5, d6] }
  | _ => none }
def Sv39LeadsWrongFalsely : Prop := sv39LeadsRow.holds Try.pinned (OpenSpec.ofChange sv39LeadsWrong)

/-- 'drawbridgelaw08.Sv39Again': WHATEVER THE INPUT: true; the input reads as it did. -/
def sv39AgainSpec : ChangeSpec := { name := "sv39Again", fn := fun _ => fun
  | [d1, d2, d3, d4, d5, d6] => { results := [.lit (.bool true)], args := [d1, d2, d3, d4, d5, d6] }
  | _ => none }
def sv39AgainRow : OpenClaim := { program := "ytbidnolopbjlaaa", sum := "d34227f008140cf8933d2939d62e7f77a6d8af7043207c7d9a431adb6e89279c", func := "drawbridge/drawbridgelaw08.Sv39Again", spec := "sv39Again", apart := false }
def Sv39AgainSaid : Prop := sv39AgainRow.holds Try.pinned (OpenSpec.ofChange sv39AgainSpec)

/-- ITS FALSE NEIGHBOUR: 'it returns false'. Refute it at one input. -/
def sv39AgainWrong : ChangeSpec := { name := "sv39Again", fn := fun _ => fun
  | [d1, d2, d3, d4, d5, d6] => { results := [.lit (.bool false)], args := [d1, d2, d3, d4, d5, d6] }
  | _ => none }
def Sv39AgainWrongFalsely : Prop := sv39AgainRow.holds Try.pinned (OpenSpec.ofChange sv39AgainWrong)

/-- 'drawbridgelaw08.Sv39Offset': WHATEVER THE INPUT: true; the input reads as it did. -/
def sv39OffsetSpec : ChangeSpec := { name := "sv39Offset", fn := fun _ => fun
  | [d1, d2, d3, d4, d5, d6, d7, d8] => { results := [.lit (.bool true)], args := [d1, d2, d3, d4, d5, d6, d7, d8] }
  | _ => none }
def sv39OffsetRow : OpenClaim := { program := "ytbidnolopbjlaaa", sum := "d34227f008140cf8933d2939d62e7f77a6d8af7043207c7d9a431adb6e89279c", func := "drawbridge/drawbridgelaw08.Sv39Offset", spec := "sv39Offset", apart := false }
def Sv39OffsetSaid : Prop := sv39OffsetRow.holds Try.pinned (OpenSpec.ofChange sv39OffsetSpec)

/-- ITS FALSE NEIGHBOUR: 'it returns false'. Refute it at one input. -/
def sv39OffsetWrong : ChangeSpec := { name := "sv39Offset", fn := fun _ => fun
  | [d1, d2, d3, d4, d5, d6, d7, d8] => { results := [.lit (.bool false)], args := [d1, d2, d3, d4, d5, d6, d7, d8] }
  | _ => none }
def Sv39OffsetWrongFalsely : Prop := sv39OffsetRow.holds Try.pinned (OpenSpec.ofChange sv39OffsetWrong)

/-- 'drawbridgelaw08.Sv39Marks': WHATEVER THE INPUT: true; the input reads as it did. -/
def sv39MarksSpec : ChangeSpec := { name := "sv39Marks", fn := fun _ => fun
  | [d1, d2, d3, d4, d5, d6] => { results := [.lit (.bool true)], args := [d1, d2, d3, d4, d5, d6] }
  | _ => none }
def sv39MarksRow : OpenClaim := { program := "ytbidnolopbjlaaa", sum := "d34227f008140cf8933d2939d62e7f77a6d8af7043207c7d9a431adb6e89279c", func := "drawbridge/drawbridgelaw08.Sv39Marks", spec := "sv39Marks", apart := false }
def Sv39MarksSaid : Prop := sv39MarksRow.holds Try.pinned (OpenSpec.ofChange sv39MarksSpec)

/-- ITS FALSE NEIGHBOUR: 'it returns false'. Refute it at one input. -/
def sv39MarksWrong : ChangeSpec := { name := "sv39Marks", fn := fun _ => fun
  | [d1, d2, d3, d4, d5, d6] => { results := [.lit (.bool false)], args := [d1, d2, d3, d4, d5, d6] }
  | _ => none }
def Sv39MarksWrongFalsely : Prop := sv39MarksRow.holds Try.pinned (OpenSpec.ofChange sv39MarksWrong)

/- THE SECOND FORM. 'bulk': how many values and letters a reading holds, each counted each time it is reached (what is shared counts as often as it is met; a slice's spare places count too). A statement '..UptoSaid' is the law's where the arguments, and the package variables that the reading takes, are together of bulk at most 1048576: NARROWER than '..Said'. Prove '..Said' where nothing that the law and all that it calls make is longer than what came in: it says more and counts as full. Else prove '..UptoSaid'. A law counts once. -/
mutual
def uptoBulk {H : Type} : DataW H → Nat
  | .lit (.string bytes) => bytes.length + 1
  | .lit _ => 1
  | .nil => 1
  | .ptr d => uptoBulk d + 1
  | .slice elems spare => uptoBulkAll elems + uptoBulkAll spare + 1
  | .agg parts => uptoBulkAll parts + 1
  | .iface _ d => uptoBulk d + 1
  | .map entries => uptoBulkEntries entries + 1
  | .held _ => 1
def uptoBulkAll {H : Type} : List (DataW H) → Nat
  | [] => 0
  | d :: r => uptoBulk d + uptoBulkAll r
def uptoBulkEntries {H : Type} : List (Lit × DataW H) → Nat
  | [] => 0
  | x :: r => uptoBulkEntry x + uptoBulkEntries r
def uptoBulkEntry {H : Type} : Lit × DataW H → Nat
  | (.string bytes, d) => bytes.length + uptoBulk d + 1
  | (_, d) => uptoBulk d + 1
 end
def uptoSmall : (H : Type) → List (DataW H) → Bool := fun _ ds => decide (uptoBulkAll ds ≤ 1048576)
def OpenSpec.upto (s : _root_.Go.ChangeSpec) : _root_.Go.OpenSpec := { _root_.Go.OpenSpec.ofChange s with cond := some uptoSmall }

/-- 'drawbridgelaw08.Sv39Apart', WHERE WHAT IT READS IS OF BULK AT MOST 1048576: true; the input reads as it did. -/
def sv39ApartUptoRow : OpenClaim := { program := "ytbidnolopbjlaaa", sum := "d34227f008140cf8933d2939d62e7f77a6d8af7043207c7d9a431adb6e89279c", func := "drawbridge/drawbridgelaw08.Sv39Apart", spec := "sv39Apart", apart := false, narrowed := true }
def Sv39ApartUptoSaid : Prop := sv39ApartUptoRow.holds Try.pinned (OpenSpec.upto sv39ApartSpec)

/-- 'drawbridgelaw08.Sv39Leads', WHERE WHAT IT READS IS OF BULK AT MOST 1048576: true; the input reads as it did. -/
def sv39LeadsUptoRow : OpenClaim := { program := "ytbidnolopbjlaaa", sum := "d34227f008140cf8933d2939d62e7f77a6d8af7043207c7d9a431adb6e89279c", func := "drawbridge/drawbridgelaw08.Sv39Leads", spec := "sv39Leads", apart := false, narrowed := true }
def Sv39LeadsUptoSaid : Prop := sv39LeadsUptoRow.holds Try.pinned (OpenSpec.upto sv39LeadsSpec)

/-- 'drawbridgelaw08.Sv39Again', WHERE WHAT IT READS IS OF BULK AT MOST 1048576: true; the input reads as it did. -/
def sv39AgainUptoRow : OpenClaim := { program := "ytbidnolopbjlaaa", sum := "d34227f008140cf8933d2939d62e7f77a6d8af7043207c7d9a431adb6e89279c", func := "drawbridge/drawbridgelaw08.Sv39Again", spec := "sv39Again", apart := false, narrowed := true }
def Sv39AgainUptoSaid : Prop := sv39AgainUptoRow.holds Try.pinned (OpenSpec.upto sv39AgainSpec)

/-- 'drawbridgelaw08.Sv39Offset', WHERE WHAT IT READS IS OF BULK AT MOST 1048576: true; the input reads as it did. -/
def sv39OffsetUptoRow : OpenClaim := { program := "ytbidnolopbjlaaa", sum := "d34227f008140cf8933d2939d62e7f77a6d8af7043207c7d9a431adb6e89279c", func := "drawbridge/drawbridgelaw08.Sv39Offset", spec := "sv39Offset", apart := false, narrowed := true }
def Sv39OffsetUptoSaid : Prop := sv39OffsetUptoRow.holds Try.pinned (OpenSpec.upto sv39OffsetSpec)

/-- 'drawbridgelaw08.Sv39Marks', WHERE WHAT IT READS IS OF BULK AT MOST 1048576: true; the input reads as it did. -/
def sv39MarksUptoRow : OpenClaim := { program := "ytbidnolopbjlaaa", sum := "d34227f008140cf8933d2939d62e7f77a6d8af7043207c7d9a431adb6e89279c", func := "drawbridge/drawbridgelaw08.Sv39Marks", spec := "sv39Marks", apart := false, narrowed := true }
def Sv39MarksUptoSaid : Prop := sv39MarksUptoRow.holds Try.pinned (OpenSpec.upto sv39MarksSpec)

end Rows
end Go.Proofs.Ytbidnolopbjlaaa
