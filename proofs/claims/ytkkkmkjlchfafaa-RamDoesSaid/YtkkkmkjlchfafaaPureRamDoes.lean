/- RamDoes: for every memory, address, number and bytes, what the program's memory tells and becomes is what the reference's does. No condition beyond the statement's own. -/
import Derived.Test.YtkkkmkjlchfafaaSaidRamDoes
import Derived.Test.YtkkkmkjlchfafaaPref07
namespace Go.Proofs.Ytkkkmkjlchfafaa.Pure
open Go.RowKit Go.Proofs.Ytkkkmkjlchfafaa.Q Go.Proofs.YtkkkmkjlchfafaaW.PrintWords Go.Proofs.YtkkkmkjlchfafaaW.PrintLast Go.Proofs.YtkkkmkjlchfafaaW.PrintMore Go.Proofs.Ytkkkmkjlchfafaa.L
set_option linter.unusedVariables false
theorem RamDoes : RamDoes.Said := by
  intro l a n x b hl hlb ha hn hx hb hbb
  have hA := u64_wf ha
  have hN := i64_wf hn
  have hB : ∀ z ∈ l, byte z := fun z hz => byte_wf (hlb z hz)
  have hbl : (b.length : Int) ≤ 9223372036854775807 := by unfold maxLen at hb; omega
  refine ⟨4, ?_⟩
  unfold drawbridgelaw07_RamDoes.f
  by_cases h : (l.length : Int) > 70000
  · rw [if_pos h]; rfl
  · have hL : (l.length : Int) ≤ 70000 := by omega
    rw [if_neg h, Option.bind_some, if_pos (by simp; omega), Option.bind_some, List.nil_append, read_is l a n hA hN hL hB 1, Option.bind_some, refRead_is l a n hA hN hL hB, Option.bind_some, write_is l a n x hA hL, Option.bind_some, refWrite_is l a n x hA hN hL, Option.bind_some,
      bytes_is l a n hA hN hL 1, Option.bind_some, refBytes_is l a n hA hN hL, Option.bind_some, fill_is l a b hA hbl hL, Option.bind_some, refFill_is l a b hA hbl hL, Option.bind_some]
    simp only [same07_self, same_self, Option.bind_some, if_true, bne_self_eq_false, Bool.false_eq_true, if_false]
    rw [drawbridgelaw07_RamDoes.j0]
    rw [if_neg (by decide), inside_is l a n hA hN hL 0, Option.bind_some, refInside_is l a n hA hN hL, Option.bind_some, beq_self_eq_true, if_pos rfl, same07_self]
    rfl
end Go.Proofs.Ytkkkmkjlchfafaa.Pure
