/-
  No cell of these rows narrows 'for every input' (looked for: loops, veiled, ifaces, maps, wideKeys, modest, calm, conditions, laid).
  DERIVED. THE GIVEN ROWS OF THIS SEAT. 6 by the template 'for every input the law returns true; each argument reads behind the call as it read before'; 0 by the template 'total and deterministic' (their statements: YtdblpflepfcnjaaTotals.lean).
  GIVEN WITH THE SEED: the statements are not yours to turn. If you find one false, say at which input.
  Laid BY PROGRAM, IN A SANDBOX (cutbox-rows.mjs): the forced cells as the released guide's own fill.sh prints them over the translation 56bde05aa1780d5d… (all of the seat's roots in one cut). By AI agents, Wed Nov 11 2026. No macro, syntax, notation, axiom, sorry.
-/
import Derived.Test.YtdblpflepfcnjaaChecked
import GoSem.Claim
import GoSem.ClaimJoined
import GoSem.ClaimMapViews
import Derived.JoinedTies
import Derived.KernelRfl
namespace Go.Proofs.Ytdblpflepfcnjaa
/- THE CELL 'sum', in the pinned program and in every row, IS THE sha256 OF THE DUMP (.gsa) THAT YtdblpflepfcnjaaProg.lean LOADS. Nothing in Lean hashes anything: it is a label: what it is worth is what the hold of that sum in a sandbox is worth. -/
noncomputable def Try.pinned : Pinned := { name := "ytdblpflepfcnjaa", sum := "56bde05aa1780d5db4ef098f89d43f74bfb5594a95f0fe974f8f0c6c6a00263a", checked := Try.checked }
namespace Rows
def none {H : Type} : Left H := { results := [], args := [] }

/-- 'drawbridgelaw12.NicDrains': WHATEVER THE INPUT: true; the input reads as it did. -/
def nicDrainsSpec : ChangeSpec := { name := "nicDrains", fn := fun _ => fun
  | [d1, d2] => { results := [.lit (.bool true)], args := [d1, d2] }
  | _ => none }
def nicDrainsRow : OpenClaim := { program := "ytdblpflepfcnjaa", sum := "56bde05aa1780d5db4ef098f89d43f74bfb5594a95f0fe974f8f0c6c6a00263a", func := "drawbridge/drawbridgelaw12.NicDrains", spec := "nicDrains", inPlace := ["internal/bytealg.MakeNoZero"], unfollowed := true, recurses := true, apart := false }
def NicDrainsSaid : Prop := nicDrainsRow.holds Try.pinned (OpenSpec.ofChange nicDrainsSpec)

/-- ITS FALSE NEIGHBOUR: 'it returns false'. Refute it at one input. -/
def nicDrainsWrong : ChangeSpec := { name := "nicDrains", fn := fun _ => fun
  | [d1, d2] => { results := [.lit (.bool false)], args := [d1, d2] }
  | _ => none }
def NicDrainsWrongFalsely : Prop := nicDrainsRow.holds Try.pinned (OpenSpec.ofChange nicDrainsWrong)

/-- 'drawbridgelaw12.NicLoads': WHATEVER THE INPUT: true; the input reads as it did. -/
def nicLoadsSpec : ChangeSpec := { name := "nicLoads", fn := fun _ => fun
  | [d1, d2, d3, d4, d5] => { results := [.lit (.bool true)], args := [d1, d2, d3, d4, d5] }
  | _ => none }
def nicLoadsRow : OpenClaim := { program := "ytdblpflepfcnjaa", sum := "56bde05aa1780d5db4ef098f89d43f74bfb5594a95f0fe974f8f0c6c6a00263a", func := "drawbridge/drawbridgelaw12.NicLoads", spec := "nicLoads", inPlace := ["internal/bytealg.MakeNoZero"], unfollowed := true, recurses := true, apart := false }
def NicLoadsSaid : Prop := nicLoadsRow.holds Try.pinned (OpenSpec.ofChange nicLoadsSpec)

/-- ITS FALSE NEIGHBOUR: 'it returns false'. Refute it at one input. -/
def nicLoadsWrong : ChangeSpec := { name := "nicLoads", fn := fun _ => fun
  | [d1, d2, d3, d4, d5] => { results := [.lit (.bool false)], args := [d1, d2, d3, d4, d5] }
  | _ => none }
def NicLoadsWrongFalsely : Prop := nicLoadsRow.holds Try.pinned (OpenSpec.ofChange nicLoadsWrong)

/-- 'drawbridgelaw12.NicSends': WHATEVER THE INPUT: true; the input reads as it did. -/
def nicSendsSpec : ChangeSpec := { name := "nicSends", fn := fun _ => fun
  | [d1, d2] => { results := [.lit (.bool true)], args := [d1, d2] }
  | _ => none }
def nicSendsRow : OpenClaim := { program := "ytdblpflepfcnjaa", sum := "56bde05aa1780d5db4ef098f89d43f74bfb5594a95f0fe974f8f0c6c6a00263a", func := "drawbridge/drawbridgelaw12.NicSends", spec := "nicSends", inPlace := ["internal/bytealg.MakeNoZero"], unfollowed := true, recurses := true, apart := false }
def NicSendsSaid : Prop := nicSendsRow.holds Try.pinned (OpenSpec.ofChange nicSendsSpec)

/-- ITS FALSE NEIGHBOUR: 'it returns false'. Refute it at one input. -/
def nicSendsWrong : ChangeSpec := { name := "nicSends", fn := fun _ => fun
  | [d1, d2] => { results := [.lit (.bool false)], args := [d1, d2] }
  | _ => none }
def NicSendsWrongFalsely : Prop := nicSendsRow.holds Try.pinned (OpenSpec.ofChange nicSendsWrong)

/-- 'drawbridgelaw12.NicReceives': WHATEVER THE INPUT: true; the input reads as it did. -/
def nicReceivesSpec : ChangeSpec := { name := "nicReceives", fn := fun _ => fun
  | [d1, d2, d3] => { results := [.lit (.bool true)], args := [d1, d2, d3] }
  | _ => none }
def nicReceivesRow : OpenClaim := { program := "ytdblpflepfcnjaa", sum := "56bde05aa1780d5db4ef098f89d43f74bfb5594a95f0fe974f8f0c6c6a00263a", func := "drawbridge/drawbridgelaw12.NicReceives", spec := "nicReceives", inPlace := ["internal/bytealg.MakeNoZero"], unfollowed := true, recurses := true, apart := false }
def NicReceivesSaid : Prop := nicReceivesRow.holds Try.pinned (OpenSpec.ofChange nicReceivesSpec)

/-- ITS FALSE NEIGHBOUR: 'it returns false'. Refute it at one input. -/
def nicReceivesWrong : ChangeSpec := { name := "nicReceives", fn := fun _ => fun
  | [d1, d2, d3] => { results := [.lit (.bool false)], args := [d1, d2, d3] }
  | _ => none }
def NicReceivesWrongFalsely : Prop := nicReceivesRow.holds Try.pinned (OpenSpec.ofChange nicReceivesWrong)

/-- 'drawbridgelaw12.NicStays': WHATEVER THE INPUT: true; the input reads as it did. -/
def nicStaysSpec : ChangeSpec := { name := "nicStays", fn := fun _ => fun
  | [d1, d2, d3, d4, d5] => { results := [.lit (.bool true)], args := [d1, d2, d3, d4, d5] }
  | _ => none }
def nicStaysRow : OpenClaim := { program := "ytdblpflepfcnjaa", sum := "56bde05aa1780d5db4ef098f89d43f74bfb5594a95f0fe974f8f0c6c6a00263a", func := "drawbridge/drawbridgelaw12.NicStays", spec := "nicStays", inPlace := ["internal/bytealg.MakeNoZero"], unfollowed := true, recurses := true, apart := false }
def NicStaysSaid : Prop := nicStaysRow.holds Try.pinned (OpenSpec.ofChange nicStaysSpec)

/-- ITS FALSE NEIGHBOUR: 'it returns false'. Refute it at one input. -/
def nicStaysWrong : ChangeSpec := { name := "nicStays", fn := fun _ => fun
  | [d1, d2, d3, d4, d5] => { results := [.lit (.bool false)], args := [d1, d2, d3, d4, d5] }
  | _ => none }
def NicStaysWrongFalsely : Prop := nicStaysRow.holds Try.pinned (OpenSpec.ofChange nicStaysWrong)

/-- 'drawbridgelaw12.NicWithin': WHATEVER THE INPUT: true; the input reads as it did. -/
def nicWithinSpec : ChangeSpec := { name := "nicWithin", fn := fun _ => fun
  | [d1, d2, d3] => { results := [.lit (.bool true)], args := [d1, d2, d3] }
  | _ => none }
def nicWithinRow : OpenClaim := { program := "ytdblpflepfcnjaa", sum := "56bde05aa1780d5db4ef098f89d43f74bfb5594a95f0fe974f8f0c6c6a00263a", func := "drawbridge/drawbridgelaw12.NicWithin", spec := "nicWithin", inPlace := ["internal/bytealg.MakeNoZero"], unfollowed := true, recurses := true, apart := false }
def NicWithinSaid : Prop := nicWithinRow.holds Try.pinned (OpenSpec.ofChange nicWithinSpec)

/-- ITS FALSE NEIGHBOUR: 'it returns false'. Refute it at one input. -/
def nicWithinWrong : ChangeSpec := { name := "nicWithin", fn := fun _ => fun
  | [d1, d2, d3] => { results := [.lit (.bool false)], args := [d1, d2, d3] }
  | _ => none }
def NicWithinWrongFalsely : Prop := nicWithinRow.holds Try.pinned (OpenSpec.ofChange nicWithinWrong)

/- THE SECOND FORM. 'bulk': how many values and letters a reading holds, each counted each time it is reached (what is shared counts as often as it is met; a slice's spare places count too). A statement '..UptoSaid' is the law's where the arguments, and the package variables that the reading takes, are together of bulk at most 1048576: NARROWER than '..Said'. Prove '..Said' where nothing that the law and all that it calls make is longer than what came in: it says more and counts as full. Else prove '..UptoSaid'. A law counts once. -/
mutual
def uptoBulk {H : Type} : DataW H → Nat
  | .lit (.string bytes) => bytes.length + 1
  | .lit _ => 1
  | .nil => 1
  | .ptr d => uptoBulk d + 1
  | .slice elems spare => uptoBulkAll elems + uptoBulkAll spare + 1
  | .agg parts => uptoBulkAll parts + 1
  | .iface _ d => uptoBulk d + 1
  | .map entries => uptoBulkEntries entries + 1
  | .held _ => 1
def uptoBulkAll {H : Type} : List (DataW H) → Nat
  | [] => 0
  | d :: r => uptoBulk d + uptoBulkAll r
def uptoBulkEntries {H : Type} : List (Lit × DataW H) → Nat
  | [] => 0
  | x :: r => uptoBulkEntry x + uptoBulkEntries r
def uptoBulkEntry {H : Type} : Lit × DataW H → Nat
  | (.string bytes, d) => bytes.length + uptoBulk d + 1
  | (_, d) => uptoBulk d + 1
 end
def uptoSmall : (H : Type) → List (DataW H) → Bool := fun _ ds => decide (uptoBulkAll ds ≤ 1048576)
def OpenSpec.upto (s : _root_.Go.ChangeSpec) : _root_.Go.OpenSpec := { _root_.Go.OpenSpec.ofChange s with cond := some uptoSmall }

/-- 'drawbridgelaw12.NicDrains', WHERE WHAT IT READS IS OF BULK AT MOST 1048576: true; the input reads as it did. -/
def nicDrainsUptoRow : OpenClaim := { program := "ytdblpflepfcnjaa", sum := "56bde05aa1780d5db4ef098f89d43f74bfb5594a95f0fe974f8f0c6c6a00263a", func := "drawbridge/drawbridgelaw12.NicDrains", spec := "nicDrains", inPlace := ["internal/bytealg.MakeNoZero"], unfollowed := true, recurses := true, apart := false, narrowed := true }
def NicDrainsUptoSaid : Prop := nicDrainsUptoRow.holds Try.pinned (OpenSpec.upto nicDrainsSpec)

/-- 'drawbridgelaw12.NicLoads', WHERE WHAT IT READS IS OF BULK AT MOST 1048576: true; the input reads as it did. -/
def nicLoadsUptoRow : OpenClaim := { program := "ytdblpflepfcnjaa", sum := "56bde05aa1780d5db4ef098f89d43f74bfb5594a95f0fe974f8f0c6c6a00263a", func := "drawbridge/drawbridgelaw12.NicLoads", spec := "nicLoads", inPlace := ["internal/bytealg.MakeNoZero"], unfollowed := true, recurses := true, apart := false, narrowed := true }
def NicLoadsUptoSaid : Prop := nicLoadsUptoRow.holds Try.pinned (OpenSpec.upto nicLoadsSpec)

/-- 'drawbridgelaw12.NicSends', WHERE WHAT IT READS IS OF BULK AT MOST 1048576: true; the input reads as it did. -/
def nicSendsUptoRow : OpenClaim := { program := "ytdblpflepfcnjaa", sum := "56bde05aa1780d5db4ef098f89d43f74bfb5594a95f0fe974f8f0c6c6a00263a", func := "drawbridge/drawbridgelaw12.NicSends", spec := "nicSends", inPlace := ["internal/bytealg.MakeNoZero"], unfollowed := true, recurses := true, apart := false, narrowed := true }
def NicSendsUptoSaid : Prop := nicSendsUptoRow.holds Try.pinned (OpenSpec.upto nicSendsSpec)

/-- 'drawbridgelaw12.NicReceives', WHERE WHAT IT READS IS OF BULK AT MOST 1048576: true; the input reads as it did. -/
def nicReceivesUptoRow : OpenClaim := { program := "ytdblpflepfcnjaa", sum := "56bde05aa1780d5db4ef098f89d43f74bfb5594a95f0fe974f8f0c6c6a00263a", func := "drawbridge/drawbridgelaw12.NicReceives", spec := "nicReceives", inPlace := ["internal/bytealg.MakeNoZero"], unfollowed := true, recurses := true, apart := false, narrowed := true }
def NicReceivesUptoSaid : Prop := nicReceivesUptoRow.holds Try.pinned (OpenSpec.upto nicReceivesSpec)

/-- 'drawbridgelaw12.NicStays', WHERE WHAT IT READS IS OF BULK AT MOST 1048576: true; the input reads as it did. -/
def nicStaysUptoRow : OpenClaim := { program := "ytdblpflepfcnjaa", sum := "56bde05aa1780d5db4ef098f89d43f74bfb5594a95f0fe974f8f0c6c6a00263a", func := "drawbridge/drawbridgelaw12.NicStays", spec := "nicStays", inPlace := ["internal/bytealg.MakeNoZero"], unfollowed := true, recurses := true, apart := false, narrowed := true }
def NicStaysUptoSaid : Prop := nicStaysUptoRow.holds Try.pinned (OpenSpec.upto nicStaysSpec)

/-- 'drawbridgelaw12.NicWithin', WHERE WHAT IT READS IS OF BULK AT MOST 1048576: true; the input reads as it did. -/
def nicWithinUptoRow : OpenClaim := { program := "ytdblpflepfcnjaa", sum := "56bde05aa1780d5db4ef098f89d43f74bfb5594a95f0fe974f8f0c6c6a00263a", func := "drawbridge/drawbridgelaw12.NicWithin", spec := "nicWithin", inPlace := ["internal/bytealg.MakeNoZero"], unfollowed := true, recurses := true, apart := false, narrowed := true }
def NicWithinUptoSaid : Prop := nicWithinUptoRow.holds Try.pinned (OpenSpec.upto nicWithinSpec)

end Rows
end Go.Proofs.Ytdblpflepfcnjaa
