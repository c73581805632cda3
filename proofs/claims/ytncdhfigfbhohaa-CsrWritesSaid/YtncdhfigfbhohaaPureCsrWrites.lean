import Derived.Test.YtncdhfigfbhohaaSaidCsrWrites
import Derived.Test.YtncdhfigfbhohaaPcsr
namespace Go.Proofs.Ytncdhfigfbhohaa.Pure
open Go.RowKit Go.Proofs.Ytncdhfigfbhohaa.Q Go.Proofs.YtncdhfigfbhohaaW.PrintWords Go.Proofs.YtncdhfigfbhohaaW.PrintLast Go.Proofs.YtncdhfigfbhohaaW.PrintMore Go.Proofs.Ytncdhfigfbhohaa.L
set_option linter.unusedVariables false
set_option linter.unusedSimpArgs false
theorem u64_dec {x : Int} (h : (Lit.int .u64 x).wf = true) : decide (0 ≤ x ∧ x < 18446744073709551616) = true := decide_eq_true (by have := bounds_u64 h; exact ⟨by omega, by omega⟩)
/-- The plain law of CsrWrites. -/
theorem CsrWrites : CsrWrites.Said := by
  intro a0_0 a0_1 a0_2 a0_3 a0_4 a0_5 a0_6 a0_7 a0_8 a0_9 a0_10 a0_11 a0_12 a0_13 a0_14 a0_15 a0_16 a1 a2 a3 h0 h1 h2 h3 h4 h5 h6 h7 h8 h9 h10 h11 h12 h13 h14 h15 h16
  intro _ _ w3
  unfold drawbridgelaw05_CsrWrites.f
  refine if_pos ⟨?_, of_decide_eq_true (u64_dec w3)⟩
  unfold bnd17
  rw [List.all_eq_true]
  intro i hi
  have hlt := List.mem_range.1 hi
  match i, hlt with
  | 0, _ => exact u64_dec h0
  | 1, _ => exact u64_dec h1
  | 2, _ => exact u64_dec h2
  | 3, _ => exact u64_dec h3
  | 4, _ => exact u64_dec h4
  | 5, _ => exact u64_dec h5
  | 6, _ => exact u64_dec h6
  | 7, _ => exact u64_dec h7
  | 8, _ => exact u64_dec h8
  | 9, _ => exact u64_dec h9
  | 10, _ => exact u64_dec h10
  | 11, _ => exact u64_dec h11
  | 12, _ => exact u64_dec h12
  | 13, _ => exact u64_dec h13
  | 14, _ => exact u64_dec h14
  | 15, _ => exact u64_dec h15
  | 16, _ => exact u64_dec h16
  | n + 17, h => exact absurd h (by omega)
end Go.Proofs.Ytncdhfigfbhohaa.Pure
