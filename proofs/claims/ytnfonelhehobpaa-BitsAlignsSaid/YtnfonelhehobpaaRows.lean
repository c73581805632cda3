/-
  No cell of these rows narrows 'for every input' (looked for: loops, veiled, ifaces, maps, wideKeys, modest, calm, conditions, laid).
  DERIVED. THE GIVEN ROWS OF THIS SEAT. 5 by the template 'for every input the law returns true; each argument reads behind the call as it read before'; 0 by the template 'total and deterministic' (their statements: YtnfonelhehobpaaTotals.lean).
  GIVEN WITH THE SEED: the statements are not yours to turn. If you find one false, say at which input.
  Laid BY PROGRAM, IN A SANDBOX (cutbox-rows.mjs): the forced cells as the released guide's own fill.sh prints them over the translation 567bbdf64e0828dc… (all of the seat's roots in one cut). By AI agents, Wed Nov 11 2026. No macro, syntax, notation, axiom, sorry.
-/
import Derived.Test.YtnfonelhehobpaaChecked
import GoSem.Claim
import GoSem.ClaimJoined
import GoSem.ClaimMapViews
import Derived.JoinedTies
import Derived.KernelRfl
namespace Go.Proofs.Ytnfonelhehobpaa
/- THE CELL 'sum', in the pinned program and in every row, IS THE sha256 OF THE DUMP (.gsa) THAT YtnfonelhehobpaaProg.lean LOADS. Nothing in Lean hashes anything: it is a label: what it is worth is what the hold of that sum in a sandbox is worth. -/
noncomputable def Try.pinned : Pinned := { name := "ytnfonelhehobpaa", sum := "567bbdf64e0828dc7fbd67253a706a0265350e62dc1bf62a7ff484a12f036ce1", checked := Try.checked }
namespace Rows
def none {H : Type} : Left H := { results := [], args := [] }

/-- 'drawbridgelaw01.BitsAligns': WHATEVER THE INPUT: true; the input reads as it did. -/
def bitsAlignsSpec : ChangeSpec := { name := "bitsAligns", fn := fun _ => fun
  | [d1, d2, d3] => { results := [.lit (.bool true)], args := [d1, d2, d3] }
  | _ => none }
def bitsAlignsRow : OpenClaim := { program := "ytnfonelhehobpaa", sum := "567bbdf64e0828dc7fbd67253a706a0265350e62dc1bf62a7ff484a12f036ce1", func := "drawbridge/drawbridgelaw01.BitsAligns", spec := "bitsAligns", apart := false }
def BitsAlignsSaid : Prop := bitsAlignsRow.holds Try.pinned (OpenSpec.ofChange bitsAlignsSpec)

/-- ITS FALSE NEIGHBOUR: 'it returns false'. Refute it at one input. -/
def bitsAlignsWrong : ChangeSpec := { name := "bitsAligns", fn := fun _ => fun
  | [d1, d2, d3] => { results := [.lit (.bool false)], args := [d1, d2, d3] }
  | _ => none }
def BitsAlignsWrongFalsely : Prop := bitsAlignsRow.holds Try.pinned (OpenSpec.ofChange bitsAlignsWrong)

/-- 'drawbridgelaw01.BitsReckons': WHATEVER THE INPUT: true; the input reads as it did. -/
def bitsReckonsSpec : ChangeSpec := { name := "bitsReckons", fn := fun _ => fun
  | [d1, d2, d3, d4, d5] => { results := [.lit (.bool true)], args := [d1, d2, d3, d4, d5] }
  | _ => none }
def bitsReckonsRow : OpenClaim := { program := "ytnfonelhehobpaa", sum := "567bbdf64e0828dc7fbd67253a706a0265350e62dc1bf62a7ff484a12f036ce1", func := "drawbridge/drawbridgelaw01.BitsReckons", spec := "bitsReckons", apart := false }
def BitsReckonsSaid : Prop := bitsReckonsRow.holds Try.pinned (OpenSpec.ofChange bitsReckonsSpec)

/-- ITS FALSE NEIGHBOUR: 'it returns false'. Refute it at one input. -/
def bitsReckonsWrong : ChangeSpec := { name := "bitsReckons", fn := fun _ => fun
  | [d1, d2, d3, d4, d5] => { results := [.lit (.bool false)], args := [d1, d2, d3, d4, d5] }
  | _ => none }
def BitsReckonsWrongFalsely : Prop := bitsReckonsRow.holds Try.pinned (OpenSpec.ofChange bitsReckonsWrong)

/-- 'drawbridgelaw01.BitsBack': WHATEVER THE INPUT: true; the input reads as it did. -/
def bitsBackSpec : ChangeSpec := { name := "bitsBack", fn := fun _ => fun
  | [d1, d2, d3] => { results := [.lit (.bool true)], args := [d1, d2, d3] }
  | _ => none }
def bitsBackRow : OpenClaim := { program := "ytnfonelhehobpaa", sum := "567bbdf64e0828dc7fbd67253a706a0265350e62dc1bf62a7ff484a12f036ce1", func := "drawbridge/drawbridgelaw01.BitsBack", spec := "bitsBack", apart := false }
def BitsBackSaid : Prop := bitsBackRow.holds Try.pinned (OpenSpec.ofChange bitsBackSpec)

/-- ITS FALSE NEIGHBOUR: 'it returns false'. Refute it at one input. -/
def bitsBackWrong : ChangeSpec := { name := "bitsBack", fn := fun _ => fun
  | [d1, d2, d3] => { results := [.lit (.bool false)], args := [d1, d2, d3] }
  | _ => none }
def BitsBackWrongFalsely : Prop := bitsBackRow.holds Try.pinned (OpenSpec.ofChange bitsBackWrong)

/-- 'drawbridgelaw01.BitsSigns': WHATEVER THE INPUT: true; the input reads as it did. -/
def bitsSignsSpec : ChangeSpec := { name := "bitsSigns", fn := fun _ => fun
  | [d1, d2] => { results := [.lit (.bool true)], args := [d1, d2] }
  | _ => none }
def bitsSignsRow : OpenClaim := { program := "ytnfonelhehobpaa", sum := "567bbdf64e0828dc7fbd67253a706a0265350e62dc1bf62a7ff484a12f036ce1", func := "drawbridge/drawbridgelaw01.BitsSigns", spec := "bitsSigns", apart := false }
def BitsSignsSaid : Prop := bitsSignsRow.holds Try.pinned (OpenSpec.ofChange bitsSignsSpec)

/-- ITS FALSE NEIGHBOUR: 'it returns false'. Refute it at one input. -/
def bitsSignsWrong : ChangeSpec := { name := "bitsSigns", fn := fun _ => fun
  | [d1, d2] => { results := [.lit (.bool false)], args := [d1, d2] }
  | _ => none }
def BitsSignsWrongFalsely : Prop := bitsSignsRow.holds Try.pinned (OpenSpec.ofChange bitsSignsWrong)

/-- 'drawbridgelaw01.BitsJoins': WHATEVER THE INPUT: true; the input reads as it did. -/
def bitsJoinsSpec : ChangeSpec := { name := "bitsJoins", fn := fun _ => fun
  | [d1, d2] => { results := [.lit (.bool true)], args := [d1, d2] }
  | _ => none }
def bitsJoinsRow : OpenClaim := { program := "ytnfonelhehobpaa", sum := "567bbdf64e0828dc7fbd67253a706a0265350e62dc1bf62a7ff484a12f036ce1", func := "drawbridge/drawbridgelaw01.BitsJoins", spec := "bitsJoins", apart := false }
def BitsJoinsSaid : Prop := bitsJoinsRow.holds Try.pinned (OpenSpec.ofChange bitsJoinsSpec)

/-- ITS FALSE NEIGHBOUR: 'it returns false'. Refute it at one input. -/
def bitsJoinsWrong : ChangeSpec := { name := "bitsJoins", fn := fun _ => fun
  | [d1, d2] => { results := [.lit (.bool false)], args := [d1, d2] }
  | _ => none }
def BitsJoinsWrongFalsely : Prop := bitsJoinsRow.holds Try.pinned (OpenSpec.ofChange bitsJoinsWrong)

/- THE SECOND FORM. 'bulk': how many values and letters a reading holds, each counted each time it is reached (what is shared counts as often as it is met; a slice's spare places count too). A statement '..UptoSaid' is the law's where the arguments, and the package variables that the reading takes, are together of bulk at most 1048576: NARROWER than '..Said'. Prove '..Said' where nothing that the law and all that it calls make is longer than what came in: it says more and counts as full. Else prove '..UptoSaid'. A law counts once. -/
mutual
def uptoBulk {H : Type} : DataW H → Nat
  | .lit (.string bytes) => bytes.length + 1
  | .lit _ => 1
  | .nil => 1
  | .ptr d => uptoBulk d + 1
  | .slice elems spare => uptoBulkAll elems + uptoBulkAll spare + 1
  | .agg parts => uptoBulkAll parts + 1
  | .iface _ d => uptoBulk d + 1
  | .map entries => uptoBulkEntries entries + 1
  | .held _ => 1
def uptoBulkAll {H : Type} : List (DataW H) → Nat
  | [] => 0
  | d :: r => uptoBulk d + uptoBulkAll r
def uptoBulkEntries {H : Type} : List (Lit × DataW H) → Nat
  | [] => 0
  | x :: r => uptoBulkEntry x + uptoBulkEntries r
def uptoBulkEntry {H : Type} : Lit × DataW H → Nat
  | (.string bytes, d) => bytes.length + uptoBulk d + 1
  | (_, d) => uptoBulk d + 1
 end
def uptoSmall : (H : Type) → List (DataW H) → Bool := fun _ ds => decide (uptoBulkAll ds ≤ 1048576)
def OpenSpec.upto (s : _root_.Go.ChangeSpec) : _root_.Go.OpenSpec := { _root_.Go.OpenSpec.ofChange s with cond := some uptoSmall }

/-- 'drawbridgelaw01.BitsAligns', WHERE WHAT IT READS IS OF BULK AT MOST 1048576: true; the input reads as it did. -/
def bitsAlignsUptoRow : OpenClaim := { program := "ytnfonelhehobpaa", sum := "567bbdf64e0828dc7fbd67253a706a0265350e62dc1bf62a7ff484a12f036ce1", func := "drawbridge/drawbridgelaw01.BitsAligns", spec := "bitsAligns", apart := false, narrowed := true }
def BitsAlignsUptoSaid : Prop := bitsAlignsUptoRow.holds Try.pinned (OpenSpec.upto bitsAlignsSpec)

/-- 'drawbridgelaw01.BitsReckons', WHERE WHAT IT READS IS OF BULK AT MOST 1048576: true; the input reads as it did. -/
def bitsReckonsUptoRow : OpenClaim := { program := "ytnfonelhehobpaa", sum := "567bbdf64e0828dc7fbd67253a706a0265350e62dc1bf62a7ff484a12f036ce1", func := "drawbridge/drawbridgelaw01.BitsReckons", spec := "bitsReckons", apart := false, narrowed := true }
def BitsReckonsUptoSaid : Prop := bitsReckonsUptoRow.holds Try.pinned (OpenSpec.upto bitsReckonsSpec)

/-- 'drawbridgelaw01.BitsBack', WHERE WHAT IT READS IS OF BULK AT MOST 1048576: true; the input reads as it did. -/
def bitsBackUptoRow : OpenClaim := { program := "ytnfonelhehobpaa", sum := "567bbdf64e0828dc7fbd67253a706a0265350e62dc1bf62a7ff484a12f036ce1", func := "drawbridge/drawbridgelaw01.BitsBack", spec := "bitsBack", apart := false, narrowed := true }
def BitsBackUptoSaid : Prop := bitsBackUptoRow.holds Try.pinned (OpenSpec.upto bitsBackSpec)

/-- 'drawbridgelaw01.BitsSigns', WHERE WHAT IT READS IS OF BULK AT MOST 1048576: true; the input reads as it did. -/
def bitsSignsUptoRow : OpenClaim := { program := "ytnfonelhehobpaa", sum := "567bbdf64e0828dc7fbd67253a706a0265350e62dc1bf62a7ff484a12f036ce1", func := "drawbridge/drawbridgelaw01.BitsSigns", spec := "bitsSigns", apart := false, narrowed := true }
def BitsSignsUptoSaid : Prop := bitsSignsUptoRow.holds Try.pinned (OpenSpec.upto bitsSignsSpec)

/-- 'drawbridgelaw01.BitsJoins', WHERE WHAT IT READS IS OF BULK AT MOST 1048576: true; the input reads as it did. -/
def bitsJoinsUptoRow : OpenClaim := { program := "ytnfonelhehobpaa", sum := "567bbdf64e0828dc7fbd67253a706a0265350e62dc1bf62a7ff484a12f036ce1", func := "drawbridge/drawbridgelaw01.BitsJoins", spec := "bitsJoins", apart := false, narrowed := true }
def BitsJoinsUptoSaid : Prop := bitsJoinsUptoRow.holds Try.pinned (OpenSpec.upto bitsJoinsSpec)

end Rows
end Go.Proofs.Ytnfonelhehobpaa
