/-
  No cell of these rows narrows 'for every input' (looked for: loops, veiled, ifaces, maps, wideKeys, modest, calm, conditions, laid).
  DERIVED. THE GIVEN ROWS OF THIS SEAT. 3 by the template 'for every input the law returns true; each argument reads behind the call as it read before'; 0 by the template 'total and deterministic' (their statements: YtphcckhegfgbgaaTotals.lean).
  GIVEN WITH THE SEED: the statements are not yours to turn. If you find one false, say at which input.
  Laid BY PROGRAM, IN A SANDBOX (cutbox-rows.mjs): the forced cells as the released guide's own fill.sh prints them over the translation 8b53cec6ad7c1486… (all of the seat's roots in one cut). By AI agents, Wed Nov 11 2026. No macro, syntax, notation, axiom, sorry.
-/
import Derived.Test.YtphcckhegfgbgaaChecked
import GoSem.Claim
import GoSem.ClaimJoined
import GoSem.ClaimMapViews
import Derived.JoinedTies
import Derived.KernelRfl
namespace Go.Proofs.Ytphcckhegfgbgaa
/- THE CELL 'sum', in the pinned program and in every row, IS THE sha256 OF THE DUMP (.gsa) THAT YtphcckhegfgbgaaProg.lean LOADS. Nothing in Lean hashes anything: it is a label: what it is worth is what the hold of that sum in a sandbox is worth. -/
noncomputable def Try.pinned : Pinned := { name := "ytphcckhegfgbgaa", sum := "8b53cec6ad7c148692f5cab8c42a5d4e54771324d60f1491601ed140ebc2c0d3", checked := Try.checked }
namespace Rows
def none {H : Type} : Left H := { results := [], args := [] }

/-- 'drawbridgelaw13.BusKeeps': WHATEVER THE INPUT: true; the input reads as it did. -/
def busKeepsSpec : ChangeSpec := { name := "busKeeps", fn := fun _ => fun
  | [d1, d2, d3, d4] => { results := [.lit (.bool true)], args := [d1, d2, d3, d4] }
  | _ => none }
def busKeepsRow : OpenClaim := { program := "ytphcckhegfgbgaa", sum := "8b53cec6ad7c148692f5cab8c42a5d4e54771324d60f1491601ed140ebc2c0d3", func := "drawbridge/drawbridgelaw13.BusKeeps", spec := "busKeeps", unfollowed := true, recurses := true, apart := false }
def BusKeepsSaid : Prop := busKeepsRow.holds Try.pinned (OpenSpec.ofChange busKeepsSpec)

/-- ITS FALSE NEIGHBOUR: 'it returns false'. Refute it at one input. -/
def busKeepsWrong : ChangeSpec := { name := "busKeeps", fn := fun _ => fun
  | [d1, d2, d3, d4] => { results := [.lit (.bool false)], args := [d1, d2, d3, d4] }
  | _ => none }
def BusKeepsWrongFalsely : Prop := busKeepsRow.holds Try.pinned (OpenSpec.ofChange busKeepsWrong)

/-- 'drawbridgelaw13.BusQuiet': WHATEVER THE INPUT: true; the input reads as it did. -/
def busQuietSpec : ChangeSpec := { name := "busQuiet", fn := fun _ => fun
  | [d] => { results := [.lit (.bool true)], args := [d] }
  | _ => none }
def busQuietRow : OpenClaim := { program := "ytphcckhegfgbgaa", sum := "8b53cec6ad7c148692f5cab8c42a5d4e54771324d60f1491601ed140ebc2c0d3", func := "drawbridge/drawbridgelaw13.BusQuiet", spec := "busQuiet", unfollowed := true, recurses := true, apart := false }
def BusQuietSaid : Prop := busQuietRow.holds Try.pinned (OpenSpec.ofChange busQuietSpec)

/-- ITS FALSE NEIGHBOUR: 'it returns false'. Refute it at one input. -/
def busQuietWrong : ChangeSpec := { name := "busQuiet", fn := fun _ => fun
  | [d] => { results := [.lit (.bool false)], args := [d] }
  | _ => none }
def BusQuietWrongFalsely : Prop := busQuietRow.holds Try.pinned (OpenSpec.ofChange busQuietWrong)

/-- 'drawbridgelaw13.BusApart': WHATEVER THE INPUT: true; the input reads as it did. -/
def busApartSpec : ChangeSpec := { name := "busApart", fn := fun _ => fun
  | [d1, d2, d3, d4] => { results := [.lit (.bool true)], args := [d1, d2, d3, d4] }
  | _ => none }
def busApartRow : OpenClaim := { program := "ytphcckhegfgbgaa", sum := "8b53cec6ad7c148692f5cab8c42a5d4e54771324d60f1491601ed140ebc2c0d3", func := "drawbridge/drawbridgelaw13.BusApart", spec := "busApart", unfollowed := true, recurses := true, apart := false }
def BusApartSaid : Prop := busApartRow.holds Try.pinned (OpenSpec.ofChange busApartSpec)

/-- ITS FALSE NEIGHBOUR: 'it returns false'. Refute it at one input. -/
def busApartWrong : ChangeSpec := { name := "busApart", fn := fun _ => fun
  | [d1, d2, d3, d4] => { results := [.lit (.bool false)], args := [d1, d2, d3, d4] }
  | _ => none }
def BusApartWrongFalsely : Prop := busApartRow.holds Try.pinned (OpenSpec.ofChange busApartWrong)

/- THE SECOND FORM. 'bulk': how many values and letters a reading holds, each counted each time it is reached (what is shared counts as often as it is met; a slice's spare places count too). A statement '..UptoSaid' is the law's where the arguments, and the package variables that the reading takes, are together of bulk at most 1048576: NARROWER than '..Said'. Prove '..Said' where nothing that the law and all that it calls make is longer than what came in: it says more and counts as full. Else prove '..UptoSaid'. A law counts once. -/
mutual
def uptoBulk {H : Type} : DataW H → Nat
  | .lit (.string bytes) => bytes.length + 1
  | .lit _ => 1
  | .nil => 1
  | .ptr d => uptoBulk d + 1
  | .slice elems spare => uptoBulkAll elems + uptoBulkAll spare + 1
  | .agg parts => uptoBulkAll parts + 1
  | .iface _ d => uptoBulk d + 1
  | .map entries => uptoBulkEntries entries + 1
  | .held _ => 1
def uptoBulkAll {H : Type} : List (DataW H) → Nat
  | [] => 0
  | d :: r => uptoBulk d + uptoBulkAll r
def uptoBulkEntries {H : Type} : List (Lit × DataW H) → Nat
  | [] => 0
  | x :: r => uptoBulkEntry x + uptoBulkEntries r
def uptoBulkEntry {H : Type} : Lit × DataW H → Nat
  | (.string bytes, d) => bytes.length + uptoBulk d + 1
  | (_, d) => uptoBulk d + 1
 end
def uptoSmall : (H : Type) → List (DataW H) → Bool := fun _ ds => decide (uptoBulkAll ds ≤ 1048576)
def OpenSpec.upto (s : _root_.Go.ChangeSpec) : _root_.Go.OpenSpec := { _root_.Go.OpenSpec.ofChange s with cond := some uptoSmall }

/-- 'drawbridgelaw13.BusKeeps', WHERE WHAT IT READS IS OF BULK AT MOST 1048576: true; the input reads as it did. -/
def busKeepsUptoRow : OpenClaim := { program := "ytphcckhegfgbgaa", sum := "8b53cec6ad7c148692f5cab8c42a5d4e54771324d60f1491601ed140ebc2c0d3", func := "drawbridge/drawbridgelaw13.BusKeeps", spec := "busKeeps", unfollowed := true, recurses := true, apart := false, narrowed := true }
def BusKeepsUptoSaid : Prop := busKeepsUptoRow.holds Try.pinned (OpenSpec.upto busKeepsSpec)

/-- 'drawbridgelaw13.BusQuiet', WHERE WHAT IT READS IS OF BULK AT MOST 1048576: true; the input reads as it did. -/
def busQuietUptoRow : OpenClaim := { program := "ytphcckhegfgbgaa", sum := "8b53cec6ad7c148692f5cab8c42a5d4e54771324d60f1491601ed140ebc2c0d3", func := "drawbridge/drawbridgelaw13.BusQuiet", spec := "busQuiet", unfollowed := true, recurses := true, apart := false, narrowed := true }
def BusQuietUptoSaid : Prop := busQuietUptoRow.holds Try.pinned (OpenSpec.upto busQuietSpec)

/-- 'drawbridgelaw13.BusApart', WHERE WHAT IT READS IS OF BULK AT MOST 1048576: true; the input reads as it did. -/
def busApartUptoRow : OpenClaim := { program := "ytphcckhegfgbgaa", sum := "8b53cec6ad7c148692f5cab8c42a5d4e54771324d60f1491601ed140ebc2c0d3", func := "drawbridge/drawbridgelaw13.BusApart", spec := "busApart", unfollowed := true, recurses := true, apart := false, narrowed := true }
def BusApartUptoSaid : Prop := busApartUptoRow.holds Try.pinned (OpenSpec.upto busApartSpec)

end Rows
end Go.Proofs.Ytphcckhegfgbgaa
