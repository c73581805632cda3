/-
  No cell of these rows narrows 'for every input' (looked for: loops, veiled, ifaces, maps, wideKeys, modest, calm, conditions, laid).
  DERIVED. THE GIVEN ROWS OF THIS SEAT. 6 by the template 'for every input the law returns true; each argument reads behind the call as it read before'; 0 by the template 'total and deterministic' (their statements: YtgcpedenlbcdgaaTotals.lean).
  GIVEN WITH THE SEED: the statements are not yours to turn. If you find one false, say at which input.
  Laid BY PROGRAM, IN A SANDBOX (cutbox-rows.mjs): the forced cells as the released guide's own fill.sh prints them over the translation e2d976ee1250d66e… (all of the seat's roots in one cut). By AI agents, Wed Nov 11 2026. No macro, syntax, notation, axiom, sorry.
-/
import Derived.Test.YtgcpedenlbcdgaaChecked
import GoSem.Claim
import GoSem.ClaimJoined
import GoSem.ClaimMapViews
import Derived.JoinedTies
import Derived.KernelRfl
namespace Go.Proofs.Ytgcpedenlbcdgaa
/- THE CELL 'sum', in the pinned program and in every row, IS THE sha256 OF THE DUMP (.gsa) THAT YtgcpedenlbcdgaaProg.lean LOADS. Nothing in Lean hashes anything: it is a label: what it is worth is what the hold of that sum in a sandbox is worth. -/
noncomputable def Try.pinned : Pinned := { name := "ytgcpedenlbcdgaa", sum := "e2d976ee1250d66ef7f6783e6865e2990222f1db738db63c560631e58fa3b1fe", checked := Try.checked }
namespace Rows
def none {H : Type} : Left H := { results := [], args := [] }

/-- 'drawbridgelaw03.DecodeShort': WHATEVER THE INPUT: true; the input reads as it did. -/
def decodeShortSpec : ChangeSpec := { name := "decodeShort", fn := fun _ => fun
  | [d] => { results := [.lit (.bool true)], args := [d] }
  | _ => none }
def decodeShortRow : OpenClaim := { program := "ytgcpedenlbcdgaa", sum := "e2d976ee1250d66ef7f6783e6865e2990222f1db738db63c560631e58fa3b1fe", func := "drawbridge/drawbridgelaw03.DecodeShort", spec := "decodeShort", unfollowed := true, recurses := true, apart := false }
def DecodeShortSaid : Prop := decodeShortRow.holds Try.pinned (OpenSpec.ofChange decodeShortSpec)

/-- ITS FALSE NEIGHBOUR: 'it returns false'. Refute it at one input. -/
def decodeShortWrong : ChangeSpec := { name := "decodeShort", fn := fun _ => fun
  | [d] => { results := [.lit (.bool false)], args := [d] }
  | _ => none }
def DecodeShortWrongFalsely : Prop := decodeShortRow.holds Try.pinned (OpenSpec.ofChange decodeShortWrong)

/-- 'drawbridgelaw03.DecodeRanges': WHATEVER THE INPUT: true; the input reads as it did. -/
def decodeRangesSpec : ChangeSpec := { name := "decodeRanges", fn := fun _ => fun
  | [d] => { results := [.lit (.bool true)], args := [d] }
  | _ => none }
def decodeRangesRow : OpenClaim := { program := "ytgcpedenlbcdgaa", sum := "e2d976ee1250d66ef7f6783e6865e2990222f1db738db63c560631e58fa3b1fe", func := "drawbridge/drawbridgelaw03.DecodeRanges", spec := "decodeRanges", unfollowed := true, recurses := true, apart := false }
def DecodeRangesSaid : Prop := decodeRangesRow.holds Try.pinned (OpenSpec.ofChange decodeRangesSpec)

/-- ITS FALSE NEIGHBOUR: 'it returns false'. Refute it at one input. -/
def decodeRangesWrong : ChangeSpec := { name := "decodeRanges", fn := fun _ => fun
  | [d] => { results := [.lit (.bool false)], args := [d] }
  | _ => none }
def DecodeRangesWrongFalsely : Prop := decodeRangesRow.holds Try.pinned (OpenSpec.ofChange decodeRangesWrong)

/-- 'drawbridgelaw03.DecodeTells': WHATEVER THE INPUT: true; the input reads as it did. -/
def decodeTellsSpec : ChangeSpec := { name := "decodeTells", fn := fun _ => fun
  | [d] => { results := [.lit (.bool true)], args := [d] }
  | _ => none }
def decodeTellsRow : OpenClaim := { program := "ytgcpedenlbcdgaa", sum := "e2d976ee1250d66ef7f6783e6865e2990222f1db738db63c560631e58fa3b1fe", func := "drawbridge/drawbridgelaw03.DecodeTells", spec := "decodeTells", unfollowed := true, recurses := true, apart := false }
def DecodeTellsSaid : Prop := decodeTellsRow.holds Try.pinned (OpenSpec.ofChange decodeTellsSpec)

/-- ITS FALSE NEIGHBOUR: 'it returns false'. Refute it at one input. -/
def decodeTellsWrong : ChangeSpec := { name := "decodeTells", fn := fun _ => fun
  | [d] => { results := [.lit (.bool false)], args := [d] }
  | _ => none }
def DecodeTellsWrongFalsely : Prop := decodeTellsRow.holds Try.pinned (OpenSpec.ofChange decodeTellsWrong)

/-- 'drawbridgelaw03.DecodePuts': WHATEVER THE INPUT: true; the input reads as it did. -/
def decodePutsSpec : ChangeSpec := { name := "decodePuts", fn := fun _ => fun
  | [d] => { results := [.lit (.bool true)], args := [d] }
  | _ => none }
def decodePutsRow : OpenClaim := { program := "ytgcpedenlbcdgaa", sum := "e2d976ee1250d66ef7f6783e6865e2990222f1db738db63c560631e58fa3b1fe", func := "drawbridge/drawbridgelaw03.DecodePuts", spec := "decodePuts", unfollowed := true, recurses := true, apart := false }
def DecodePutsSaid : Prop := decodePutsRow.holds Try.pinned (OpenSpec.ofChange decodePutsSpec)

/-- ITS FALSE NEIGHBOUR: 'it returns false'. Refute it at one input. -/
def decodePutsWrong : ChangeSpec := { name := "decodePuts", fn := fun _ => fun
  | [d] => { results := [.lit (.bool false)], args := [d] }
  | _ => none }
def DecodePutsWrongFalsely : Prop := decodePutsRow.holds Try.pinned (OpenSpec.ofChange decodePutsWrong)

/-- 'drawbridgelaw03.DecodePutBack': WHATEVER THE INPUT: true; the input reads as it did. -/
def decodePutBackSpec : ChangeSpec := { name := "decodePutBack", fn := fun _ => fun
  | [d] => { results := [.lit (.bool true)], args := [d] }
  | _ => none }
def decodePutBackRow : OpenClaim := { program := "ytgcpedenlbcdgaa", sum := "e2d976ee1250d66ef7f6783e6865e2990222f1db738db63c560631e58fa3b1fe", func := "drawbridge/drawbridgelaw03.DecodePutBack", spec := "decodePutBack", unfollowed := true, recurses := true, apart := false }
def DecodePutBackSaid : Prop := decodePutBackRow.holds Try.pinned (OpenSpec.ofChange decodePutBackSpec)

/-- ITS FALSE NEIGHBOUR: 'it returns false'. Refute it at one input. -/
def decodePutBackWrong : ChangeSpec := { name := "decodePutBack", fn := fun _ => fun
  | [d] => { results := [.lit (.bool false)], args := [d] }
  | _ => none }
def DecodePutBackWrongFalsely : Prop := decodePutBackRow.holds Try.pinned (OpenSpec.ofChange decodePutBackWrong)

/-- 'drawbridgelaw03.DecodeBack': WHATEVER THE INPUT: true; the input reads as it did. -/
def decodeBackSpec : ChangeSpec := { name := "decodeBack", fn := fun _ => fun
  | [d] => { results := [.lit (.bool true)], args := [d] }
  | _ => none }
def decodeBackRow : OpenClaim := { program := "ytgcpedenlbcdgaa", sum := "e2d976ee1250d66ef7f6783e6865e2990222f1db738db63c560631e58fa3b1fe", func := "drawbridge/drawbridgelaw03.DecodeBack", spec := "decodeBack", unfollowed := true, recurses := true, apart := false }
def DecodeBackSaid : Prop := decodeBackRow.holds Try.pinned (OpenSpec.ofChange decodeBackSpec)

/-- ITS FALSE NEIGHBOUR: 'it returns false'. Refute it at one input. -/
def decodeBackWrong : ChangeSpec := { name := "decodeBack", fn := fun _ => fun
  | [d] => { results := [.lit (.bool false)], args := [d] }
  | _ => none }
def DecodeBackWrongFalsely : Prop := decodeBackRow.holds Try.pinned (OpenSpec.ofChange decodeBackWrong)

/- THE SECOND FORM. 'bulk': how many values and letters a reading holds, each counted each time it is reached (what is shared counts as often as it is met; a slice's spare places count too). A statement '..UptoSaid' is the law's where the arguments, and the package variables that the reading takes, are together of bulk at most 1048576: NARROWER than '..Said'. Prove '..Said' where nothing that the law and all that it calls make is longer than what came in: it says more and counts as full. Else prove '..UptoSaid'. A law counts once. -/
mutual
def uptoBulk {H : Type} : DataW H → Nat
  | .lit (.string bytes) => bytes.length + 1
  | .lit _ => 1
  | .nil => 1
  | .ptr d => uptoBulk d + 1
  | .slice elems spare => uptoBulkAll elems + uptoBulkAll spare + 1
  | .agg parts => uptoBulkAll parts + 1
  | .iface _ d => uptoBulk d + 1
  | .map entries => uptoBulkEntries entries + 1
  | .held _ => 1
def uptoBulkAll {H : Type} : List (DataW H) → Nat
  | [] => 0
  | d :: r => uptoBulk d + uptoBulkAll r
def uptoBulkEntries {H : Type} : List (Lit × DataW H) → Nat
  | [] => 0
  | x :: r => uptoBulkEntry x + uptoBulkEntries r
def uptoBulkEntry {H : Type} : Lit × DataW H → Nat
  | (.string bytes, d) => bytes.length + uptoBulk d + 1
  | (_, d) => uptoBulk d + 1
 end
def uptoSmall : (H : Type) → List (DataW H) → Bool := fun _ ds => decide (uptoBulkAll ds ≤ 1048576)
def OpenSpec.upto (s : _root_.Go.ChangeSpec) : _root_.Go.OpenSpec := { _root_.Go.OpenSpec.ofChange s with cond := some uptoSmall }

/-- 'drawbridgelaw03.DecodeShort', WHERE WHAT IT READS IS OF BULK AT MOST 1048576: true; the input reads as it did. -/
def decodeShortUptoRow : OpenClaim := { program := "ytgcpedenlbcdgaa", sum := "e2d976ee1250d66ef7f6783e6865e2990222f1db738db63c560631e58fa3b1fe", func := "drawbridge/drawbridgelaw03.DecodeShort", spec := "decodeShort", unfollowed := true, recurses := true, apart := false, narrowed := true }
def DecodeShortUptoSaid : Prop := decodeShortUptoRow.holds Try.pinned (OpenSpec.upto decodeShortSpec)

/-- 'drawbridgelaw03.DecodeRanges', WHERE WHAT IT READS IS OF BULK AT MOST 1048576: true; the input reads as it did. -/
def decodeRangesUptoRow : OpenClaim := { program := "ytgcpedenlbcdgaa", sum := "e2d976ee1250d66ef7f6783e6865e2990222f1db738db63c560631e58fa3b1fe", func := "drawbridge/drawbridgelaw03.DecodeRanges", spec := "decodeRanges", unfollowed := true, recurses := true, apart := false, narrowed := true }
def DecodeRangesUptoSaid : Prop := decodeRangesUptoRow.holds Try.pinned (OpenSpec.upto decodeRangesSpec)

/-- 'drawbridgelaw03.DecodeTells', WHERE WHAT IT READS IS OF BULK AT MOST 1048576: true; the input reads as it did. -/
def decodeTellsUptoRow : OpenClaim := { program := "ytgcpedenlbcdgaa", sum := "e2d976ee1250d66ef7f6783e6865e2990222f1db738db63c560631e58fa3b1fe", func := "drawbridge/drawbridgelaw03.DecodeTells", spec := "decodeTells", unfollowed := true, recurses := true, apart := false, narrowed := true }
def DecodeTellsUptoSaid : Prop := decodeTellsUptoRow.holds Try.pinned (OpenSpec.upto decodeTellsSpec)

/-- 'drawbridgelaw03.DecodePuts', WHERE WHAT IT READS IS OF BULK AT MOST 1048576: true; the input reads as it did. -/
def decodePutsUptoRow : OpenClaim := { program := "ytgcpedenlbcdgaa", sum := "e2d976ee1250d66ef7f6783e6865e2990222f1db738db63c560631e58fa3b1fe", func := "drawbridge/drawbridgelaw03.DecodePuts", spec := "decodePuts", unfollowed := true, recurses := true, apart := false, narrowed := true }
def DecodePutsUptoSaid : Prop := decodePutsUptoRow.holds Try.pinned (OpenSpec.upto decodePutsSpec)

/-- 'drawbridgelaw03.DecodePutBack', WHERE WHAT IT READS IS OF BULK AT MOST 1048576: true; the input reads as it did. -/
def decodePutBackUptoRow : OpenClaim := { program := "ytgcpedenlbcdgaa", sum := "e2d976ee1250d66ef7f6783e6865e2990222f1db738db63c560631e58fa3b1fe", func := "drawbridge/drawbridgelaw03.DecodePutBack", spec := "decodePutBack", unfollowed := true, recurses := true, apart := false, narrowed := true }
def DecodePutBackUptoSaid : Prop := decodePutBackUptoRow.holds Try.pinned (OpenSpec.upto decodePutBackSpec)

/-- 'drawbridgelaw03.DecodeBack', WHERE WHAT IT READS IS OF BULK AT MOST 1048576: true; the input reads as it did. -/
def decodeBackUptoRow : OpenClaim := { program := "ytgcpedenlbcdgaa", sum := "e2d976ee1250d66ef7f6783e6865e2990222f1db738db63c560631e58fa3b1fe", func := "drawbridge/drawbridgelaw03.DecodeBack", spec := "decodeBack", unfollowed := true, recurses := true, apart := false, narrowed := true }
def DecodeBackUptoSaid : Prop := decodeBackUptoRow.holds Try.pinned (OpenSpec.upto decodeBackSpec)

end Rows
end Go.Proofs.Ytgcpedenlbcdgaa
