/- Where a register stands (csr's file.of). -/
import Derived.Test.YtncdhfigfbhohaaQx0
import Derived.Test.YtncdhfigfbhohaaKt
import Derived.Test.YtncdhfigfbhohaaFs
import Derived.Deep.DrawnRows
import Derived.Deep.QuietTactic
import Derived.BigQuiet
namespace Go.Proofs.Ytncdhfigfbhohaa.Q
open Go.RowKit Go.Proofs.YtncdhfigfbhohaaW.PrintWords Go.Proofs.YtncdhfigfbhohaaW.PrintLast Go.Proofs.YtncdhfigfbhohaaW.PrintMore Go.Proofs.Ytncdhfigfbhohaa.L
attribute [local go_sem] Instr.field part asAgg lt_step max2_int min2_int max_two min_two max_three min_three max_four min_four lt_0_1 lt_0_2 lt_1_2 lt_0_3 lt_1_3 lt_2_3 lt_0_4 lt_1_4 lt_2_4 lt_3_4 lt_0_5 lt_1_5 lt_2_5 lt_3_5 lt_4_5 lt_0_6 lt_1_6 lt_2_6 lt_3_6 lt_4_6 lt_5_6 lt_0_7 lt_1_7 lt_2_7 lt_3_7 lt_4_7 lt_5_7 lt_6_7 lt_0_8 lt_1_8 lt_2_8 lt_3_8 lt_4_8 lt_5_8 lt_6_8 lt_7_8
set_option linter.unusedVariables false
set_option linter.unusedSimpArgs false
def ofI (n : Int) : Option Nat :=
  if n == 770 then some 1 else
  if n == 771 then some 2 else
  if n == 773 then some 5 else
  if n == 261 then some 10 else
  if n == 832 then some 6 else
  if n == 320 then some 11 else
  if n == 833 then some 7 else
  if n == 321 then some 12 else
  if n == 834 then some 8 else
  if n == 322 then some 13 else
  if n == 835 then some 9 else
  if n == 323 then some 14 else
  if n == 384 then some 15 else
  if n == 2816 || n == 3072 then some 16 else
  if n == 768 || n == 256 then some 0 else
  if n == 772 || n == 260 then some 3 else
  if n == 836 || n == 324 then some 4 else
  none
def ofZ (b : Nat) (n : Int) : Option Addr := (ofI n).map fun i => ⟨b, i, none⟩
set_option maxHeartbeats 1600000 in
set_option maxRecDepth 100000 in
theorem of_runs (b : Nat) (n : Int) (w : World) : Calls Try.prog 21 #[.pointer (some ⟨b, 0, none⟩), .int .i64 n] w fun e w' => e = .returned (.pointer (ofZ b n)) ∧ w = w' := by
  go_enter Try.func21, Try.ntmps21
  go_wp2
  all_goals go_ret
  all_goals refine ⟨?_, rfl⟩
  all_goals (unfold ofZ ofI; simp only [*, Bool.true_or, Bool.or_true, Bool.or_self, Bool.false_eq_true, if_true, if_false, Option.map_some, Option.map_none]; rfl)
end Go.Proofs.Ytncdhfigfbhohaa.Q
