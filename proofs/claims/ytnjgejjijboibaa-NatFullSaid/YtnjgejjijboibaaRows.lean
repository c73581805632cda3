/-
  No cell of these rows narrows 'for every input' (looked for: loops, veiled, ifaces, maps, wideKeys, modest, calm, conditions, laid).
  DERIVED. THE GIVEN ROWS OF THIS SEAT. 3 by the template 'for every input the law returns true; each argument reads behind the call as it read before'; 0 by the template 'total and deterministic' (their statements: YtnjgejjijboibaaTotals.lean).
  GIVEN WITH THE SEED: the statements are not yours to turn. If you find one false, say at which input.
  Laid BY PROGRAM, IN A SANDBOX (cutbox-rows.mjs): the forced cells as the released guide's own fill.sh prints them over the translation 4ee977ad0ca6ff28… (all of the seat's roots in one cut). By AI agents, Wed Nov 11 2026. No macro, syntax, notation, axiom, sorry.
-/
import Derived.Test.YtnjgejjijboibaaChecked
import GoSem.Claim
import GoSem.ClaimJoined
import GoSem.ClaimMapViews
import Derived.JoinedTies
import Derived.KernelRfl
namespace Go.Proofs.Ytnjgejjijboibaa
/- THE CELL 'sum', in the pinned program and in every row, IS THE sha256 OF THE DUMP (.gsa) THAT YtnjgejjijboibaaProg.lean LOADS. Nothing in Lean hashes anything: it is a label: what it is worth is what the hold of that sum in a sandbox is worth. -/
noncomputable def Try.pinned : Pinned := { name := "ytnjgejjijboibaa", sum := "4ee977ad0ca6ff280edba59e7aaf65b46f0e7fdb10972432578f3c24f34afecd", checked := Try.checked }
namespace Rows
def none {H : Type} : Left H := { results := [], args := [] }

/-- 'drawbridgelaw26.NatFull': WHATEVER THE INPUT: true; the input reads as it did. -/
def natFullSpec : ChangeSpec := { name := "natFull", fn := fun _ => fun
  | [d1, d2, d3] => { results := [.lit (.bool true)], args := [d1, d2, d3] }
  | _ => none }
def natFullRow : OpenClaim := { program := "ytnjgejjijboibaa", sum := "4ee977ad0ca6ff280edba59e7aaf65b46f0e7fdb10972432578f3c24f34afecd", func := "drawbridge/drawbridgelaw26.NatFull", spec := "natFull", unfollowed := true, recurses := true, plainKeys := false, apart := false }
def NatFullSaid : Prop := natFullRow.holds Try.pinned (OpenSpec.ofChange natFullSpec)

/-- ITS FALSE NEIGHBOUR: 'it returns false'. Refute it at one input. -/
def natFullWrong : ChangeSpec := { name := "natFull", fn := fun _ => fun
  | [d1, d2, d3] => { results := [.lit (.bool false)], args := [d1, d2, d3] }
  | _ => none }
def NatFullWrongFalsely : Prop := natFullRow.holds Try.pinned (OpenSpec.ofChange natFullWrong)

/-- 'drawbridgelaw26.NatBack': WHATEVER THE INPUT: true; the input reads as it did. -/
def natBackSpec : ChangeSpec := { name := "natBack", fn := fun _ => fun
  | [d1, d2, d3, d4, d5, d6, d7] => { results := [.lit (.bool true)], args := [d1, d2, d3, d4, d5, d6, d7] }
  | _ => none }
def natBackRow : OpenClaim := { program := "ytnjgejjijboibaa", sum := "4ee977ad0ca6ff280edba59e7aaf65b46f0e7fdb10972432578f3c24f34afecd", func := "drawbridge/drawbridgelaw26.NatBack", spec := "natBack", unfollowed := true, recurses := true, plainKeys := false, apart := false }
def NatBackSaid : Prop := natBackRow.holds Try.pinned (OpenSpec.ofChange natBackSpec)

/-- ITS FALSE NEIGHBOUR: 'it returns false'. Refute it at one input. -/
def natBackWrong : ChangeSpec := { name := "natBack", fn := fun _ => fun
  | [d1, d2, d3, d4, d5, d6, d7] => { results := [.lit (.bool false)], args := [d1, d2, d3, d4, d5, d6, d7] }
  | _ => none }
def NatBackWrongFalsely : Prop := natBackRow.holds Try.pinned (OpenSpec.ofChange natBackWrong)

/-- 'drawbridgelaw26.NatOnce': WHATEVER THE INPUT: true; the input reads as it did. -/
def natOnceSpec : ChangeSpec := { name := "natOnce", fn := fun _ => fun
  | [d1, d2, d3, d4, d5] => { results := [.lit (.bool true)], args := [d1, d2, d3, d4, d5] }
  | _ => none }
def natOnceRow : OpenClaim := { program := "ytnjgejjijboibaa", sum := "4ee977ad0ca6ff280edba59e7aaf65b46f0e7fdb10972432578f3c24f34afecd", func := "drawbridge/drawbridgelaw26.NatOnce", spec := "natOnce", unfollowed := true, recurses := true, plainKeys := false, apart := false }
def NatOnceSaid : Prop := natOnceRow.holds Try.pinned (OpenSpec.ofChange natOnceSpec)

/-- ITS FALSE NEIGHBOUR: 'it returns false'. Refute it at one input. -/
def natOnceWrong : ChangeSpec := { name := "natOnce", fn := fun _ => fun
  | [d1, d2, d3, d4, d5] => { results := [.lit (.bool false)], args := [d1, d2, d3, d4, d5] }
  | _ => none }
def NatOnceWrongFalsely : Prop := natOnceRow.holds Try.pinned (OpenSpec.ofChange natOnceWrong)

/- THE SECOND FORM. 'bulk': how many values and letters a reading holds, each counted each time it is reached (what is shared counts as often as it is met; a slice's spare places count too). A statement '..UptoSaid' is the law's where the arguments, and the package variables that the reading takes, are together of bulk at most 1048576: NARROWER than '..Said'. Prove '..Said' where nothing that the law and all that it calls make is longer than what came in: it says more and counts as full. Else prove '..UptoSaid'. A law counts once. -/
mutual
def uptoBulk {H : Type} : DataW H → Nat
  | .lit (.string bytes) => bytes.length + 1
  | .lit _ => 1
  | .nil => 1
  | .ptr d => uptoBulk d + 1
  | .slice elems spare => uptoBulkAll elems + uptoBulkAll spare + 1
  | .agg parts => uptoBulkAll parts + 1
  | .iface _ d => uptoBulk d + 1
  | .map entries => uptoBulkEntries entries + 1
  | .held _ => 1
def uptoBulkAll {H : Type} : List (DataW H) → Nat
  | [] => 0
  | d :: r => uptoBulk d + uptoBulkAll r
def uptoBulkEntries {H : Type} : List (Lit × DataW H) → Nat
  | [] => 0
  | x :: r => uptoBulkEntry x + uptoBulkEntries r
def uptoBulkEntry {H : Type} : Lit × DataW H → Nat
  | (.string bytes, d) => bytes.length + uptoBulk d + 1
  | (_, d) => uptoBulk d + 1
 end
def uptoSmall : (H : Type) → List (DataW H) → Bool := fun _ ds => decide (uptoBulkAll ds ≤ 1048576)
def OpenSpec.upto (s : _root_.Go.ChangeSpec) : _root_.Go.OpenSpec := { _root_.Go.OpenSpec.ofChange s with cond := some uptoSmall }

/-- 'drawbridgelaw26.NatFull', WHERE WHAT IT READS IS OF BULK AT MOST 1048576: true; the input reads as it did. -/
def natFullUptoRow : OpenClaim := { program := "ytnjgejjijboibaa", sum := "4ee977ad0ca6ff280edba59e7aaf65b46f0e7fdb10972432578f3c24f34afecd", func := "drawbridge/drawbridgelaw26.NatFull", spec := "natFull", unfollowed := true, recurses := true, plainKeys := false, apart := false, narrowed := true }
def NatFullUptoSaid : Prop := natFullUptoRow.holds Try.pinned (OpenSpec.upto natFullSpec)

/-- 'drawbridgelaw26.NatBack', WHERE WHAT IT READS IS OF BULK AT MOST 1048576: true; the input reads as it did. -/
def natBackUptoRow : OpenClaim := { program := "ytnjgejjijboibaa", sum := "4ee977ad0ca6ff280edba59e7aaf65b46f0e7fdb10972432578f3c24f34afecd", func := "drawbridge/drawbridgelaw26.NatBack", spec := "natBack", unfollowed := true, recurses := true, plainKeys := false, apart := false, narrowed := true }
def NatBackUptoSaid : Prop := natBackUptoRow.holds Try.pinned (OpenSpec.upto natBackSpec)

/-- 'drawbridgelaw26.NatOnce', WHERE WHAT IT READS IS OF BULK AT MOST 1048576: true; the input reads as it did. -/
def natOnceUptoRow : OpenClaim := { program := "ytnjgejjijboibaa", sum := "4ee977ad0ca6ff280edba59e7aaf65b46f0e7fdb10972432578f3c24f34afecd", func := "drawbridge/drawbridgelaw26.NatOnce", spec := "natOnce", unfollowed := true, recurses := true, plainKeys := false, apart := false, narrowed := true }
def NatOnceUptoSaid : Prop := natOnceUptoRow.holds Try.pinned (OpenSpec.upto natOnceSpec)

end Rows
end Go.Proofs.Ytnjgejjijboibaa
