/- RamMakes: for every number, the memory that the program makes is the reference's. No condition beyond the statement's own. -/
import Derived.Test.YtkkkmkjlchfafaaQx9
import Derived.Test.YtkkkmkjlchfafaaPref07
namespace Go.Proofs.Ytkkkmkjlchfafaa.Pure
open Go.RowKit Go.Proofs.Ytkkkmkjlchfafaa.Q Go.Proofs.YtkkkmkjlchfafaaW.PrintWords Go.Proofs.YtkkkmkjlchfafaaW.PrintLast Go.Proofs.YtkkkmkjlchfafaaW.PrintMore Go.Proofs.Ytkkkmkjlchfafaa.L
set_option linter.unusedVariables false
theorem RamMakes : drawbridgelaw07_RamMakes.Pure := by
  intro n hn
  unfold drawbridgelaw07_RamMakes.f
  have e : ∃ r c, ram_New.f n = some (r, c) ∧ drawbridgeref07_New.f n = some (r, c) := by
    unfold ram_New.f drawbridgeref07_New.f
    by_cases h1 : n < 1
    · exact ⟨_, _, by rw [if_pos h1], by rw [if_pos h1]⟩
    · by_cases h2 : n > 65536
      · exact ⟨_, _, by rw [if_neg h1, if_pos h2], by rw [if_neg h1, if_pos h2]⟩
      · exact ⟨_, _, by rw [if_neg h1, if_neg h2, if_pos (by omega), if_pos (by omega)], by rw [if_neg h1, if_neg h2, if_pos (by omega), if_pos (by omega)]⟩
  obtain ⟨r, c, e1, e2⟩ := e
  rw [e1, e2]
  simp only [Option.bind_some, same07_self, if_true]
  rfl
end Go.Proofs.Ytkkkmkjlchfafaa.Pure
