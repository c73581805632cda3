/-
  No cell of these rows narrows 'for every input' (looked for: loops, veiled, ifaces, maps, wideKeys, modest, calm, conditions, laid).
  DERIVED. THE GIVEN ROWS OF THIS SEAT. 3 by the template 'for every input the law returns true; each argument reads behind the call as it read before'; 0 by the template 'total and deterministic' (their statements: YtijdplpmcnhlbaaTotals.lean).
  GIVEN WITH THE SEED: the statements are not yours to turn. If you find one false, say at which input.
  Laid BY PROGRAM, IN A SANDBOX (cutbox-rows.mjs): the forced cells as the released guide's own fill.sh prints them over the translation 0f1337ca751d231d… (all of the seat's roots in one cut). By AI agents, Wed Nov 11 2026. No macro, syntax, notation, axiom, sorry.
-/
import Derived.Test.YtijdplpmcnhlbaaChecked
import GoSem.Claim
import GoSem.ClaimJoined
import GoSem.ClaimMapViews
import Derived.JoinedTies
import Derived.KernelRfl
namespace Go.Proofs.Ytijdplpmcnhlbaa
/- THE CELL 'sum', in the pinned program and in every row, IS THE sha256 OF THE DUMP (.gsa) THAT YtijdplpmcnhlbaaProg.lean LOADS. Nothing in Lean hashes anything: it is a label: what it is worth is what the hold of that sum in a sandbox is worth. -/
noncomputable def Try.pinned : Pinned := { name := "ytijdplpmcnhlbaa", sum := "0f1337ca751d231d21b87e5e06f693b255b9bf86ba44fbdb347c256d7c0beeb6", checked := Try.checked }
namespace Rows
def none {H : Type} : Left H := { results := [], args := [] }

/-- 'drawbridgelaw27.HostDoes': WHATEVER THE INPUT: true; the input reads as it did. -/
def hostDoesSpec : ChangeSpec := { name := "hostDoes", fn := fun _ => fun
  | [d1, d2, d3, d4] => { results := [.lit (.bool true)], args := [d1, d2, d3, d4] }
  | _ => none }
def hostDoesRow : OpenClaim := { program := "ytijdplpmcnhlbaa", sum := "0f1337ca751d231d21b87e5e06f693b255b9bf86ba44fbdb347c256d7c0beeb6", func := "drawbridge/drawbridgelaw27.HostDoes", spec := "hostDoes", inPlace := ["slices.overlaps[drawbridge/api.Sock]"], unfollowed := true, recurses := true, apart := false }
def HostDoesSaid : Prop := hostDoesRow.holds Try.pinned (OpenSpec.ofChange hostDoesSpec)

/-- ITS FALSE NEIGHBOUR: 'it returns false'. Refute it at one input. -/
def hostDoesWrong : ChangeSpec := { name := "hostDoes", fn := fun _ => fun
  | [d1, d2, d3, d4] => { results := [.lit (.bool false)], args := [d1, d2, d3, d4] }
  | _ => none }
def HostDoesWrongFalsely : Prop := hostDoesRow.holds Try.pinned (OpenSpec.ofChange hostDoesWrong)

/-- 'drawbridgelaw27.HostEnds': WHATEVER THE INPUT: true; the input reads as it did. -/
def hostEndsSpec : ChangeSpec := { name := "hostEnds", fn := fun _ => fun
  | [d1, d2, d3] => { results := [.lit (.bool true)], args := [d1, d2, d3] }
  | _ => none }
def hostEndsRow : OpenClaim := { program := "ytijdplpmcnhlbaa", sum := "0f1337ca751d231d21b87e5e06f693b255b9bf86ba44fbdb347c256d7c0beeb6", func := "drawbridge/drawbridgelaw27.HostEnds", spec := "hostEnds", inPlace := ["slices.overlaps[drawbridge/api.Sock]"], unfollowed := true, recurses := true, apart := false }
def HostEndsSaid : Prop := hostEndsRow.holds Try.pinned (OpenSpec.ofChange hostEndsSpec)

/-- ITS FALSE NEIGHBOUR: 'it returns false'. Refute it at one input. -/
def hostEndsWrong : ChangeSpec := { name := "hostEnds", fn := fun _ => fun
  | [d1, d2, d3] => { results := [.lit (.bool false)], args := [d1, d2, d3] }
  | _ => none }
def HostEndsWrongFalsely : Prop := hostEndsRow.holds Try.pinned (OpenSpec.ofChange hostEndsWrong)

/-- 'drawbridgelaw27.HostFresh': WHATEVER THE INPUT: true; the input reads as it did. -/
def hostFreshSpec : ChangeSpec := { name := "hostFresh", fn := fun _ => fun
  | [d1, d2, d3, d4] => { results := [.lit (.bool true)], args := [d1, d2, d3, d4] }
  | _ => none }
def hostFreshRow : OpenClaim := { program := "ytijdplpmcnhlbaa", sum := "0f1337ca751d231d21b87e5e06f693b255b9bf86ba44fbdb347c256d7c0beeb6", func := "drawbridge/drawbridgelaw27.HostFresh", spec := "hostFresh", inPlace := ["slices.overlaps[drawbridge/api.Sock]"], unfollowed := true, recurses := true, apart := false }
def HostFreshSaid : Prop := hostFreshRow.holds Try.pinned (OpenSpec.ofChange hostFreshSpec)

/-- ITS FALSE NEIGHBOUR: 'it returns false'. Refute it at one input. -/
def hostFreshWrong : ChangeSpec := { name := "hostFresh", fn := fun _ => fun
  | [d1, d2, d3, d4] => { results := [.lit (.bool false)], args := [d1, d2, d3, d4] }
  | _ => none }
def HostFreshWrongFalsely : Prop := hostFreshRow.holds Try.pinned (OpenSpec.ofChange hostFreshWrong)

/- THE SECOND FORM. 'bulk': how many values and letters a reading holds, each counted each time it is reached (what is shared counts as often as it is met; a slice's spare places count too). A statement '..UptoSaid' is the law's where the arguments, and the package variables that the reading takes, are together of bulk at most 1048576: NARROWER than '..Said'. Prove '..Said' where nothing that the law and all that it calls make is longer than what came in: it says more and counts as full. Else prove '..UptoSaid'. A law counts once. -/
mutual
def uptoBulk {H : Type} : DataW H → Nat
  | .lit (.string bytes) => bytes.length + 1
  | .lit _ => 1
  | .nil => 1
  | .ptr d => uptoBulk d + 1
  | .slice elems spare => uptoBulkAll elems + uptoBulkAll spare + 1
  | .agg parts => uptoBulkAll parts + 1
  | .iface _ d => uptoBulk d + 1
  | .map entries => uptoBulkEntries entries + 1
  | .held _ => 1
def uptoBulkAll {H : Type} : List (DataW H) → Nat
  | [] => 0
  | d :: r => uptoBulk d + uptoBulkAll r
def uptoBulkEntries {H : Type} : List (Lit × DataW H) → Nat
  | [] => 0
  | x :: r => uptoBulkEntry x + uptoBulkEntries r
def uptoBulkEntry {H : Type} : Lit × DataW H → Nat
  | (.string bytes, d) => bytes.length + uptoBulk d + 1
  | (_, d) => uptoBulk d + 1
 end
def uptoSmall : (H : Type) → List (DataW H) → Bool := fun _ ds => decide (uptoBulkAll ds ≤ 1048576)
def OpenSpec.upto (s : _root_.Go.ChangeSpec) : _root_.Go.OpenSpec := { _root_.Go.OpenSpec.ofChange s with cond := some uptoSmall }

/-- 'drawbridgelaw27.HostDoes', WHERE WHAT IT READS IS OF BULK AT MOST 1048576: true; the input reads as it did. -/
def hostDoesUptoRow : OpenClaim := { program := "ytijdplpmcnhlbaa", sum := "0f1337ca751d231d21b87e5e06f693b255b9bf86ba44fbdb347c256d7c0beeb6", func := "drawbridge/drawbridgelaw27.HostDoes", spec := "hostDoes", inPlace := ["slices.overlaps[drawbridge/api.Sock]"], unfollowed := true, recurses := true, apart := false, narrowed := true }
def HostDoesUptoSaid : Prop := hostDoesUptoRow.holds Try.pinned (OpenSpec.upto hostDoesSpec)

/-- 'drawbridgelaw27.HostEnds', WHERE WHAT IT READS IS OF BULK AT MOST 1048576: true; the input reads as it did. -/
def hostEndsUptoRow : OpenClaim := { program := "ytijdplpmcnhlbaa", sum := "0f1337ca751d231d21b87e5e06f693b255b9bf86ba44fbdb347c256d7c0beeb6", func := "drawbridge/drawbridgelaw27.HostEnds", spec := "hostEnds", inPlace := ["slices.overlaps[drawbridge/api.Sock]"], unfollowed := true, recurses := true, apart := false, narrowed := true }
def HostEndsUptoSaid : Prop := hostEndsUptoRow.holds Try.pinned (OpenSpec.upto hostEndsSpec)

/-- 'drawbridgelaw27.HostFresh', WHERE WHAT IT READS IS OF BULK AT MOST 1048576: true; the input reads as it did. -/
def hostFreshUptoRow : OpenClaim := { program := "ytijdplpmcnhlbaa", sum := "0f1337ca751d231d21b87e5e06f693b255b9bf86ba44fbdb347c256d7c0beeb6", func := "drawbridge/drawbridgelaw27.HostFresh", spec := "hostFresh", inPlace := ["slices.overlaps[drawbridge/api.Sock]"], unfollowed := true, recurses := true, apart := false, narrowed := true }
def HostFreshUptoSaid : Prop := hostFreshUptoRow.holds Try.pinned (OpenSpec.upto hostFreshSpec)

end Rows
end Go.Proofs.Ytijdplpmcnhlbaa
