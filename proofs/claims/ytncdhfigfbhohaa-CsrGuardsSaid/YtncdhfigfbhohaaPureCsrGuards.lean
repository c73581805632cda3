import Derived.Test.YtncdhfigfbhohaaSaidCsrGuards
import Derived.Test.YtncdhfigfbhohaaPcsr
namespace Go.Proofs.Ytncdhfigfbhohaa.Pure
open Go.RowKit Go.Proofs.Ytncdhfigfbhohaa.Q Go.Proofs.YtncdhfigfbhohaaW.PrintWords Go.Proofs.YtncdhfigfbhohaaW.PrintLast Go.Proofs.YtncdhfigfbhohaaW.PrintMore Go.Proofs.Ytncdhfigfbhohaa.L
set_option linter.unusedVariables false
set_option linter.unusedSimpArgs false
theorem CsrGuards_bnd {a0_0 a0_1 a0_2 a0_3 a0_4 a0_5 a0_6 a0_7 a0_8 a0_9 a0_10 a0_11 a0_12 a0_13 a0_14 a0_15 a0_16 : Int} (h0 : u64B a0_0) (h1 : u64B a0_1) (h2 : u64B a0_2) (h3 : u64B a0_3) (h4 : u64B a0_4) (h5 : u64B a0_5) (h6 : u64B a0_6) (h7 : u64B a0_7) (h8 : u64B a0_8) (h9 : u64B a0_9) (h10 : u64B a0_10) (h11 : u64B a0_11) (h12 : u64B a0_12) (h13 : u64B a0_13) (h14 : u64B a0_14) (h15 : u64B a0_15) (h16 : u64B a0_16) : bnd (cO a0_0 a0_1 a0_2 a0_3 a0_4 a0_5 a0_6 a0_7 a0_8 a0_9 a0_10 a0_11 a0_12 a0_13 a0_14 a0_15 a0_16) := fun i => by
  show u64B ([a0_0, a0_1, a0_2, a0_3, a0_4, a0_5, a0_6, a0_7, a0_8, a0_9, a0_10, a0_11, a0_12, a0_13, a0_14, a0_15, a0_16].getD i 0)
  match i with
  | 0 => exact h0
  | 1 => exact h1
  | 2 => exact h2
  | 3 => exact h3
  | 4 => exact h4
  | 5 => exact h5
  | 6 => exact h6
  | 7 => exact h7
  | 8 => exact h8
  | 9 => exact h9
  | 10 => exact h10
  | 11 => exact h11
  | 12 => exact h12
  | 13 => exact h13
  | 14 => exact h14
  | 15 => exact h15
  | 16 => exact h16
  | n + 17 => exact ⟨by show (0 : Int) ≤ 0; omega, by show (0 : Int) < _; omega⟩
/-- The plain law of CsrGuards. -/
theorem CsrGuards : CsrGuards.Said := by
  intro a0_0 a0_1 a0_2 a0_3 a0_4 a0_5 a0_6 a0_7 a0_8 a0_9 a0_10 a0_11 a0_12 a0_13 a0_14 a0_15 a0_16 a1 a2 a3 h0 h1 h2 h3 h4 h5 h6 h7 h8 h9 h10 h11 h12 h13 h14 h15 h16
  intro _ _ w3
  unfold drawbridgelaw05_CsrGuards.f
  rw [if_pos]
  intro k0 k1 hs
  generalize (cO a0_0 a0_1 a0_2 a0_3 a0_4 a0_5 a0_6 a0_7 a0_8 a0_9 a0_10 a0_11 a0_12 a0_13 a0_14 a0_15 a0_16) = c at *
  unfold readZ at hs
  cases hr : refuses c a1 a2 with
  | true => rw [hr] at hs; cases hs
  | false =>
    unfold refuses at hr
    rw [Bool.or_eq_false_iff] at hr
    have := of_decide_eq_false hr.1
    rw [i64_and3] at this
    omega
end Go.Proofs.Ytncdhfigfbhohaa.Pure
