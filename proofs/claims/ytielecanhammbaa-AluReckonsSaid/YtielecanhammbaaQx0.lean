-- Ytielecanhammbaa: written by a program for this claim (several laws of one seat at once)
import Derived.Test.YtielecanhammbaaProg
import Derived.Below
import Derived.Deep.Draws
import Derived.Deep.AppendLies
import Derived.Maps.AppendAt
import Derived.OwnWalk
import Derived.Laws.BytesArg
import Derived.Laws.MakeOwn
import Derived.Laws.OwnMore
import Derived.Deep.OwnRows
import Derived.Tactics
import Derived.Lib.ConvBytes
import Derived.Laws.Slices
import Derived.WalkKit
import Derived.KernelRfl
import Derived.RowKit3
import Derived.Deep.LoopGhost
import Derived.Deep.QuietTactic
import Derived.BigQuiet
import Derived.WideLaws
import Derived.Deep.DeepCutAuto
import Derived.Deep.CutBlock
import Derived.Deep.RegionHeld3
import Derived.Laws.Rows
import Derived.Lib.AppendStr
import Derived.ArgAppend
import Derived.Laws.IdiomCopy
import Derived.OrdersHeld
import Derived.Laws.BitsLemmas
import Derived.RowKit
import Derived.Test.YtielecanhammbaaWWords
import Derived.Test.YtielecanhammbaaWLast
import Derived.Test.YtielecanhammbaaWTab
import Derived.Test.YtielecanhammbaaWFour
import Derived.Test.YtielecanhammbaaWQPut
import Derived.Test.YtielecanhammbaaWApart
import Derived.Test.YtielecanhammbaaWArr
import Derived.Test.YtielecanhammbaaWZeros
import Derived.Test.YtielecanhammbaaWFoot
import Derived.Test.YtielecanhammbaaWKept
import Derived.Test.YtielecanhammbaaWShare
import Derived.Test.YtielecanhammbaaWN
import Derived.Test.YtielecanhammbaaWFootNe
import Derived.Test.YtielecanhammbaaWAt
import Derived.Test.YtielecanhammbaaWEqStruct
import Derived.Test.YtielecanhammbaaWRepsOne
import Derived.Test.YtielecanhammbaaWInv
import Derived.Test.YtielecanhammbaaWInvWords
import Derived.Test.YtielecanhammbaaWGuard
import Derived.Test.YtielecanhammbaaWNEv
import Derived.Test.YtielecanhammbaaWMore
namespace Go.Proofs.Ytielecanhammbaa.Q
open Go.RowKit Go.Proofs.YtielecanhammbaaW.PrintWords Go.Proofs.YtielecanhammbaaW.PrintLast Go.Proofs.YtielecanhammbaaW.PrintMore
attribute [local go_sem] max2_int min2_int max_two min_two max_three min_three max_four min_four   -- for this text's walks alone
set_option linter.unusedVariables false
set_option linter.unusedSimpArgs false



def errW : Option Int → Value
  | none => .nilIface
  | some c => .iface 0 (.int .i64 c)
theorem errW_none : errW none = .nilIface := rfl
theorem errW_some (c : Int) : errW (some c) = .iface 0 (.int .i64 c) := rfl

-- the values' own types

end Go.Proofs.Ytielecanhammbaa.Q
