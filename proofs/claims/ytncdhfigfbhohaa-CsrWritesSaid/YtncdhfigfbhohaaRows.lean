/-
  No cell of these rows narrows 'for every input' (looked for: loops, veiled, ifaces, maps, wideKeys, modest, calm, conditions, laid).
  DERIVED. THE GIVEN ROWS OF THIS SEAT. 5 by the template 'for every input the law returns true; each argument reads behind the call as it read before'; 0 by the template 'total and deterministic' (their statements: YtncdhfigfbhohaaTotals.lean).
  GIVEN WITH THE SEED: the statements are not yours to turn. If you find one false, say at which input.
  Laid BY PROGRAM, IN A SANDBOX (cutbox-rows.mjs): the forced cells as the released guide's own fill.sh prints them over the translation 06f642f8be016816… (all of the seat's roots in one cut). By AI agents, Wed Nov 11 2026. No macro, syntax, notation, axiom, sorry.
-/
import Derived.Test.YtncdhfigfbhohaaChecked
import GoSem.Claim
import GoSem.ClaimJoined
import GoSem.ClaimMapViews
import Derived.JoinedTies
import Derived.KernelRfl
namespace Go.Proofs.Ytncdhfigfbhohaa
/- THE CELL 'sum', in the pinned program and in every row, IS THE sha256 OF THE DUMP (.gsa) THAT YtncdhfigfbhohaaProg.lean LOADS. Nothing in Lean hashes anything: it is a label: what it is worth is what the hold of that sum in a sandbox is worth. -/
noncomputable def Try.pinned : Pinned := { name := "ytncdhfigfbhohaa", sum := "06f642f8be016816a87cf6945f5184e9e2ca9c0a325a302f644b47dd05e4442c", checked := Try.checked }
namespace Rows
def none {H : Type} : Left H := { results := [], args := [] }

/-- 'drawbridgelaw05.CsrViews': WHATEVER THE INPUT: true; the input reads as it did. -/
def csrViewsSpec : ChangeSpec := { name := "csrViews", fn := fun _ => fun
  | [d1, d2] => { results := [.lit (.bool true)], args := [d1, d2] }
  | _ => none }
def csrViewsRow : OpenClaim := { program := "ytncdhfigfbhohaa", sum := "06f642f8be016816a87cf6945f5184e9e2ca9c0a325a302f644b47dd05e4442c", func := "drawbridge/drawbridgelaw05.CsrViews", spec := "csrViews", inPlace := ["internal/reflectlite.TypeOf"], unfollowed := true, recurses := true, apart := false }
def CsrViewsSaid : Prop := csrViewsRow.holds Try.pinned (OpenSpec.ofChange csrViewsSpec)

/-- ITS FALSE NEIGHBOUR: 'it returns false'. Refute it at one input. -/
def csrViewsWrong : ChangeSpec := { name := "csrViews", fn := fun _ => fun
  | [d1, d2] => { results := [.lit (.bool false)], args := [d1, d2] }
  | _ => none }
def CsrViewsWrongFalsely : Prop := csrViewsRow.holds Try.pinned (OpenSpec.ofChange csrViewsWrong)

/-- 'drawbridgelaw05.CsrWrites': WHATEVER THE INPUT: true; the input reads as it did. -/
def csrWritesSpec : ChangeSpec := { name := "csrWrites", fn := fun _ => fun
  | [d1, d2, d3, d4] => { results := [.lit (.bool true)], args := [d1, d2, d3, d4] }
  | _ => none }
def csrWritesRow : OpenClaim := { program := "ytncdhfigfbhohaa", sum := "06f642f8be016816a87cf6945f5184e9e2ca9c0a325a302f644b47dd05e4442c", func := "drawbridge/drawbridgelaw05.CsrWrites", spec := "csrWrites", inPlace := ["internal/reflectlite.TypeOf"], unfollowed := true, recurses := true, apart := false }
def CsrWritesSaid : Prop := csrWritesRow.holds Try.pinned (OpenSpec.ofChange csrWritesSpec)

/-- ITS FALSE NEIGHBOUR: 'it returns false'. Refute it at one input. -/
def csrWritesWrong : ChangeSpec := { name := "csrWrites", fn := fun _ => fun
  | [d1, d2, d3, d4] => { results := [.lit (.bool false)], args := [d1, d2, d3, d4] }
  | _ => none }
def CsrWritesWrongFalsely : Prop := csrWritesRow.holds Try.pinned (OpenSpec.ofChange csrWritesWrong)

/-- 'drawbridgelaw05.CsrStays': WHATEVER THE INPUT: true; the input reads as it did. -/
def csrStaysSpec : ChangeSpec := { name := "csrStays", fn := fun _ => fun
  | [d1, d2, d3, d4] => { results := [.lit (.bool true)], args := [d1, d2, d3, d4] }
  | _ => none }
def csrStaysRow : OpenClaim := { program := "ytncdhfigfbhohaa", sum := "06f642f8be016816a87cf6945f5184e9e2ca9c0a325a302f644b47dd05e4442c", func := "drawbridge/drawbridgelaw05.CsrStays", spec := "csrStays", inPlace := ["internal/reflectlite.TypeOf"], unfollowed := true, recurses := true, apart := false }
def CsrStaysSaid : Prop := csrStaysRow.holds Try.pinned (OpenSpec.ofChange csrStaysSpec)

/-- ITS FALSE NEIGHBOUR: 'it returns false'. Refute it at one input. -/
def csrStaysWrong : ChangeSpec := { name := "csrStays", fn := fun _ => fun
  | [d1, d2, d3, d4] => { results := [.lit (.bool false)], args := [d1, d2, d3, d4] }
  | _ => none }
def CsrStaysWrongFalsely : Prop := csrStaysRow.holds Try.pinned (OpenSpec.ofChange csrStaysWrong)

/-- 'drawbridgelaw05.CsrAgain': WHATEVER THE INPUT: true; the input reads as it did. -/
def csrAgainSpec : ChangeSpec := { name := "csrAgain", fn := fun _ => fun
  | [d1, d2, d3, d4] => { results := [.lit (.bool true)], args := [d1, d2, d3, d4] }
  | _ => none }
def csrAgainRow : OpenClaim := { program := "ytncdhfigfbhohaa", sum := "06f642f8be016816a87cf6945f5184e9e2ca9c0a325a302f644b47dd05e4442c", func := "drawbridge/drawbridgelaw05.CsrAgain", spec := "csrAgain", inPlace := ["internal/reflectlite.TypeOf"], unfollowed := true, recurses := true, apart := false }
def CsrAgainSaid : Prop := csrAgainRow.holds Try.pinned (OpenSpec.ofChange csrAgainSpec)

/-- ITS FALSE NEIGHBOUR: 'it returns false'. Refute it at one input. -/
def csrAgainWrong : ChangeSpec := { name := "csrAgain", fn := fun _ => fun
  | [d1, d2, d3, d4] => { results := [.lit (.bool false)], args := [d1, d2, d3, d4] }
  | _ => none }
def CsrAgainWrongFalsely : Prop := csrAgainRow.holds Try.pinned (OpenSpec.ofChange csrAgainWrong)

/-- 'drawbridgelaw05.CsrGuards': WHATEVER THE INPUT: true; the input reads as it did. -/
def csrGuardsSpec : ChangeSpec := { name := "csrGuards", fn := fun _ => fun
  | [d1, d2, d3, d4] => { results := [.lit (.bool true)], args := [d1, d2, d3, d4] }
  | _ => none }
def csrGuardsRow : OpenClaim := { program := "ytncdhfigfbhohaa", sum := "06f642f8be016816a87cf6945f5184e9e2ca9c0a325a302f644b47dd05e4442c", func := "drawbridge/drawbridgelaw05.CsrGuards", spec := "csrGuards", inPlace := ["internal/reflectlite.TypeOf"], unfollowed := true, recurses := true, apart := false }
def CsrGuardsSaid : Prop := csrGuardsRow.holds Try.pinned (OpenSpec.ofChange csrGuardsSpec)

/-- ITS FALSE NEIGHBOUR: 'it returns false'. Refute it at one input. -/
def csrGuardsWrong : ChangeSpec := { name := "csrGuards", fn := fun _ => fun
  | [d1, d2, d3, d4] => { results := [.lit (.bool false)], args := [d1, d2, d3, d4] }
  | _ => none }
def CsrGuardsWrongFalsely : Prop := csrGuardsRow.holds Try.pinned (OpenSpec.ofChange csrGuardsWrong)

/- THE SECOND FORM. 'bulk': how many values and letters a reading holds, each counted each time it is reached (what is shared counts as often as it is met; a slice's spare places count too). A statement '..UptoSaid' is the law's where the arguments, and the package variables that the reading takes, are together of bulk at most 1048576: NARROWER than '..Said'. Prove '..Said' where nothing that the law and all that it calls make is longer than what came in: it says more and counts as full. Else prove '..UptoSaid'. A law counts once. -/
mutual
def uptoBulk {H : Type} : DataW H → Nat
  | .lit (.string bytes) => bytes.length + 1
  | .lit _ => 1
  | .nil => 1
  | .ptr d => uptoBulk d + 1
  | .slice elems spare => uptoBulkAll elems + uptoBulkAll spare + 1
  | .agg parts => uptoBulkAll parts + 1
  | .iface _ d => uptoBulk d + 1
  | .map entries => uptoBulkEntries entries + 1
  | .held _ => 1
def uptoBulkAll {H : Type} : List (DataW H) → Nat
  | [] => 0
  | d :: r => uptoBulk d + uptoBulkAll r
def uptoBulkEntries {H : Type} : List (Lit × DataW H) → Nat
  | [] => 0
  | x :: r => uptoBulkEntry x + uptoBulkEntries r
def uptoBulkEntry {H : Type} : Lit × DataW H → Nat
  | (.string bytes, d) => bytes.length + uptoBulk d + 1
  | (_, d) => uptoBulk d + 1
 end
def uptoSmall : (H : Type) → List (DataW H) → Bool := fun _ ds => decide (uptoBulkAll ds ≤ 1048576)
def OpenSpec.upto (s : _root_.Go.ChangeSpec) : _root_.Go.OpenSpec := { _root_.Go.OpenSpec.ofChange s with cond := some uptoSmall }

/-- 'drawbridgelaw05.CsrViews', WHERE WHAT IT READS IS OF BULK AT MOST 1048576: true; the input reads as it did. -/
def csrViewsUptoRow : OpenClaim := { program := "ytncdhfigfbhohaa", sum := "06f642f8be016816a87cf6945f5184e9e2ca9c0a325a302f644b47dd05e4442c", func := "drawbridge/drawbridgelaw05.CsrViews", spec := "csrViews", inPlace := ["internal/reflectlite.TypeOf"], unfollowed := true, recurses := true, apart := false, narrowed := true }
def CsrViewsUptoSaid : Prop := csrViewsUptoRow.holds Try.pinned (OpenSpec.upto csrViewsSpec)

/-- 'drawbridgelaw05.CsrWrites', WHERE WHAT IT READS IS OF BULK AT MOST 1048576: true; the input reads as it did. -/
def csrWritesUptoRow : OpenClaim := { program := "ytncdhfigfbhohaa", sum := "06f642f8be016816a87cf6945f5184e9e2ca9c0a325a302f644b47dd05e4442c", func := "drawbridge/drawbridgelaw05.CsrWrites", spec := "csrWrites", inPlace := ["internal/reflectlite.TypeOf"], unfollowed := true, recurses := true, apart := false, narrowed := true }
def CsrWritesUptoSaid : Prop := csrWritesUptoRow.holds Try.pinned (OpenSpec.upto csrWritesSpec)

/-- 'drawbridgelaw05.CsrStays', WHERE WHAT IT READS IS OF BULK AT MOST 1048576: true; the input reads as it did. -/
def csrStaysUptoRow : OpenClaim := { program := "ytncdhfigfbhohaa", sum := "06f642f8be016816a87cf6945f5184e9e2ca9c0a325a302f644b47dd05e4442c", func := "drawbridge/drawbridgelaw05.CsrStays", spec := "csrStays", inPlace := ["internal/reflectlite.TypeOf"], unfollowed := true, recurses := true, apart := false, narrowed := true }
def CsrStaysUptoSaid : Prop := csrStaysUptoRow.holds Try.pinned (OpenSpec.upto csrStaysSpec)

/-- 'drawbridgelaw05.CsrAgain', WHERE WHAT IT READS IS OF BULK AT MOST 1048576: true; the input reads as it did. -/
def csrAgainUptoRow : OpenClaim := { program := "ytncdhfigfbhohaa", sum := "06f642f8be016816a87cf6945f5184e9e2ca9c0a325a302f644b47dd05e4442c", func := "drawbridge/drawbridgelaw05.CsrAgain", spec := "csrAgain", inPlace := ["internal/reflectlite.TypeOf"], unfollowed := true, recurses := true, apart := false, narrowed := true }
def CsrAgainUptoSaid : Prop := csrAgainUptoRow.holds Try.pinned (OpenSpec.upto csrAgainSpec)

/-- 'drawbridgelaw05.CsrGuards', WHERE WHAT IT READS IS OF BULK AT MOST 1048576: true; the input reads as it did. -/
def csrGuardsUptoRow : OpenClaim := { program := "ytncdhfigfbhohaa", sum := "06f642f8be016816a87cf6945f5184e9e2ca9c0a325a302f644b47dd05e4442c", func := "drawbridge/drawbridgelaw05.CsrGuards", spec := "csrGuards", inPlace := ["internal/reflectlite.TypeOf"], unfollowed := true, recurses := true, apart := false, narrowed := true }
def CsrGuardsUptoSaid : Prop := csrGuardsUptoRow.holds Try.pinned (OpenSpec.upto csrGuardsSpec)

end Rows
end Go.Proofs.Ytncdhfigfbhohaa
