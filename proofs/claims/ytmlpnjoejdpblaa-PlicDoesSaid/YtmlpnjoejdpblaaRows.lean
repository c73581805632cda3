/-
  No cell of these rows narrows 'for every input' (looked for: loops, veiled, ifaces, maps, wideKeys, modest, calm, conditions, laid).
  DERIVED. THE GIVEN ROWS OF THIS SEAT. 4 by the template 'for every input the law returns true; each argument reads behind the call as it read before'; 0 by the template 'total and deterministic' (their statements: YtmlpnjoejdpblaaTotals.lean).
  GIVEN WITH THE SEED: the statements are not yours to turn. If you find one false, say at which input.
  Laid BY PROGRAM, IN A SANDBOX (cutbox-rows.mjs): the forced cells as the released guide's own fill.sh prints them over the translation 76f047a5bed9e73b… (all of the seat's roots in one cut). By AI agents, Wed Nov 11 2026. No macro, syntax, notation, axiom, sorry.
-/
import Derived.Test.YtmlpnjoejdpblaaChecked
import GoSem.Claim
import GoSem.ClaimJoined
import GoSem.ClaimMapViews
import Derived.JoinedTies
import Derived.KernelRfl
namespace Go.Proofs.Ytmlpnjoejdpblaa
/- THE CELL 'sum', in the pinned program and in every row, IS THE sha256 OF THE DUMP (.gsa) THAT YtmlpnjoejdpblaaProg.lean LOADS. Nothing in Lean hashes anything: it is a label: what it is worth is what the hold of that sum in a sandbox is worth. -/
noncomputable def Try.pinned : Pinned := { name := "ytmlpnjoejdpblaa", sum := "76f047a5bed9e73bfe27eb5792196ac06c28a66cae38046593b8a8193cb87da6", checked := Try.checked }
namespace Rows
def none {H : Type} : Left H := { results := [], args := [] }

/-- 'drawbridgelaw10.PlicStays': WHATEVER THE INPUT: true; the input reads as it did. -/
def plicStaysSpec : ChangeSpec := { name := "plicStays", fn := fun _ => fun
  | [d1, d2, d3, d4] => { results := [.lit (.bool true)], args := [d1, d2, d3, d4] }
  | _ => none }
def plicStaysRow : OpenClaim := { program := "ytmlpnjoejdpblaa", sum := "76f047a5bed9e73bfe27eb5792196ac06c28a66cae38046593b8a8193cb87da6", func := "drawbridge/drawbridgelaw10.PlicStays", spec := "plicStays", unfollowed := true, recurses := true, apart := false }
def PlicStaysSaid : Prop := plicStaysRow.holds Try.pinned (OpenSpec.ofChange plicStaysSpec)

/-- ITS FALSE NEIGHBOUR: 'it returns false'. Refute it at one input. -/
def plicStaysWrong : ChangeSpec := { name := "plicStays", fn := fun _ => fun
  | [d1, d2, d3, d4] => { results := [.lit (.bool false)], args := [d1, d2, d3, d4] }
  | _ => none }
def PlicStaysWrongFalsely : Prop := plicStaysRow.holds Try.pinned (OpenSpec.ofChange plicStaysWrong)

/-- 'drawbridgelaw10.PlicDoes': WHATEVER THE INPUT: true; the input reads as it did. -/
def plicDoesSpec : ChangeSpec := { name := "plicDoes", fn := fun _ => fun
  | [d1, d2, d3, d4, d5] => { results := [.lit (.bool true)], args := [d1, d2, d3, d4, d5] }
  | _ => none }
def plicDoesRow : OpenClaim := { program := "ytmlpnjoejdpblaa", sum := "76f047a5bed9e73bfe27eb5792196ac06c28a66cae38046593b8a8193cb87da6", func := "drawbridge/drawbridgelaw10.PlicDoes", spec := "plicDoes", unfollowed := true, recurses := true, apart := false }
def PlicDoesSaid : Prop := plicDoesRow.holds Try.pinned (OpenSpec.ofChange plicDoesSpec)

/-- ITS FALSE NEIGHBOUR: 'it returns false'. Refute it at one input. -/
def plicDoesWrong : ChangeSpec := { name := "plicDoes", fn := fun _ => fun
  | [d1, d2, d3, d4, d5] => { results := [.lit (.bool false)], args := [d1, d2, d3, d4, d5] }
  | _ => none }
def PlicDoesWrongFalsely : Prop := plicDoesRow.holds Try.pinned (OpenSpec.ofChange plicDoesWrong)

/-- 'drawbridgelaw10.PlicOnce': WHATEVER THE INPUT: true; the input reads as it did. -/
def plicOnceSpec : ChangeSpec := { name := "plicOnce", fn := fun _ => fun
  | [d1, d2, d3, d4] => { results := [.lit (.bool true)], args := [d1, d2, d3, d4] }
  | _ => none }
def plicOnceRow : OpenClaim := { program := "ytmlpnjoejdpblaa", sum := "76f047a5bed9e73bfe27eb5792196ac06c28a66cae38046593b8a8193cb87da6", func := "drawbridge/drawbridgelaw10.PlicOnce", spec := "plicOnce", unfollowed := true, recurses := true, apart := false }
def PlicOnceSaid : Prop := plicOnceRow.holds Try.pinned (OpenSpec.ofChange plicOnceSpec)

/-- ITS FALSE NEIGHBOUR: 'it returns false'. Refute it at one input. -/
def plicOnceWrong : ChangeSpec := { name := "plicOnce", fn := fun _ => fun
  | [d1, d2, d3, d4] => { results := [.lit (.bool false)], args := [d1, d2, d3, d4] }
  | _ => none }
def PlicOnceWrongFalsely : Prop := plicOnceRow.holds Try.pinned (OpenSpec.ofChange plicOnceWrong)

/-- 'drawbridgelaw10.PlicBest': WHATEVER THE INPUT: true; the input reads as it did. -/
def plicBestSpec : ChangeSpec := { name := "plicBest", fn := fun _ => fun
  | [d1, d2] => { results := [.lit (.bool true)], args := [d1, d2] }
  | _ => none }
def plicBestRow : OpenClaim := { program := "ytmlpnjoejdpblaa", sum := "76f047a5bed9e73bfe27eb5792196ac06c28a66cae38046593b8a8193cb87da6", func := "drawbridge/drawbridgelaw10.PlicBest", spec := "plicBest", unfollowed := true, recurses := true, apart := false }
def PlicBestSaid : Prop := plicBestRow.holds Try.pinned (OpenSpec.ofChange plicBestSpec)

/-- ITS FALSE NEIGHBOUR: 'it returns false'. Refute it at one input. -/
def plicBestWrong : ChangeSpec := { name := "plicBest", fn := fun _ => fun
  | [d1, d2] => { results := [.lit (.bool false)], args := [d1, d2] }
  | _ => none }
def PlicBestWrongFalsely : Prop := plicBestRow.holds Try.pinned (OpenSpec.ofChange plicBestWrong)

/- THE SECOND FORM. 'bulk': how many values and letters a reading holds, each counted each time it is reached (what is shared counts as often as it is met; a slice's spare places count too). A statement '..UptoSaid' is the law's where the arguments, and the package variables that the reading takes, are together of bulk at most 1048576: NARROWER than '..Said'. Prove '..Said' where nothing that the law and all that it calls make is longer than what came in: it says more and counts as full. Else prove '..UptoSaid'. A law counts once. -/
mutual
def uptoBulk {H : Type} : DataW H → Nat
  | .lit (.string bytes) => bytes.length + 1
  | .lit _ => 1
  | .nil => 1
  | .ptr d => uptoBulk d + 1
  | .slice elems spare => uptoBulkAll elems + uptoBulkAll spare + 1
  | .agg parts => uptoBulkAll parts + 1
  | .iface _ d => uptoBulk d + 1
  | .map entries => uptoBulkEntries entries + 1
  | .held _ => 1
def uptoBulkAll {H : Type} : List (DataW H) → Nat
  | [] => 0
  | d :: r => uptoBulk d + uptoBulkAll r
def uptoBulkEntries {H : Type} : List (Lit × DataW H) → Nat
  | [] => 0
  | x :: r => uptoBulkEntry x + uptoBulkEntries r
def uptoBulkEntry {H : Type} : Lit × DataW H → Nat
  | (.string bytes, d) => bytes.length + uptoBulk d + 1
  | (_, d) => uptoBulk d + 1
 end
def uptoSmall : (H : Type) → List (DataW H) → Bool := fun _ ds => decide (uptoBulkAll ds ≤ 1048576)
def OpenSpec.upto (s : _root_.Go.ChangeSpec) : _root_.Go.OpenSpec := { _root_.Go.OpenSpec.ofChange s with cond := some uptoSmall }

/-- 'drawbridgelaw10.PlicStays', WHERE WHAT IT READS IS OF BULK AT MOST 1048576: true; the input reads as it did. -/
def plicStaysUptoRow : OpenClaim := { program := "ytmlpnjoejdpblaa", sum := "76f047a5bed9e73bfe27eb5792196ac06c28a66cae38046593b8a8193cb87da6", func := "drawbridge/drawbridgelaw10.PlicStays", spec := "plicStays", unfollowed := true, recurses := true, apart := false, narrowed := true }
def PlicStaysUptoSaid : Prop := plicStaysUptoRow.holds Try.pinned (OpenSpec.upto plicStaysSpec)

/-- 'drawbridgelaw10.PlicDoes', WHERE WHAT IT READS IS OF BULK AT MOST 1048576: true; the input reads as it did. -/
def plicDoesUptoRow : OpenClaim := { program := "ytmlpnjoejdpblaa", sum := "76f047a5bed9e73bfe27eb5792196ac06c28a66cae38046593b8a8193cb87da6", func := "drawbridge/drawbridgelaw10.PlicDoes", spec := "plicDoes", unfollowed := true, recurses := true, apart := false, narrowed := true }
def PlicDoesUptoSaid : Prop := plicDoesUptoRow.holds Try.pinned (OpenSpec.upto plicDoesSpec)

/-- 'drawbridgelaw10.PlicOnce', WHERE WHAT IT READS IS OF BULK AT MOST 1048576: true; the input reads as it did. -/
def plicOnceUptoRow : OpenClaim := { program := "ytmlpnjoejdpblaa", sum := "76f047a5bed9e73bfe27eb5792196ac06c28a66cae38046593b8a8193cb87da6", func := "drawbridge/drawbridgelaw10.PlicOnce", spec := "plicOnce", unfollowed := true, recurses := true, apart := false, narrowed := true }
def PlicOnceUptoSaid : Prop := plicOnceUptoRow.holds Try.pinned (OpenSpec.upto plicOnceSpec)

/-- 'drawbridgelaw10.PlicBest', WHERE WHAT IT READS IS OF BULK AT MOST 1048576: true; the input reads as it did. -/
def plicBestUptoRow : OpenClaim := { program := "ytmlpnjoejdpblaa", sum := "76f047a5bed9e73bfe27eb5792196ac06c28a66cae38046593b8a8193cb87da6", func := "drawbridge/drawbridgelaw10.PlicBest", spec := "plicBest", unfollowed := true, recurses := true, apart := false, narrowed := true }
def PlicBestUptoSaid : Prop := plicBestUptoRow.holds Try.pinned (OpenSpec.upto plicBestSpec)

end Rows
end Go.Proofs.Ytmlpnjoejdpblaa
