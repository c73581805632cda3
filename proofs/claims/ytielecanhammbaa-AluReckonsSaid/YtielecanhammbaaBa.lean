/- What the functions of layer 4 come to, in plain numbers. -/
import Derived.Test.YtielecanhammbaaQx2
import Derived.Test.YtielecanhammbaaQx3
import Derived.Test.YtielecanhammbaaWf
namespace Go.Proofs.Ytielecanhammbaa.Pure
open Go.RowKit Go.Proofs.Ytielecanhammbaa.Q Go.Proofs.Ytielecanhammbaa.L Go.Proofs.YtielecanhammbaaW.PrintWords Go.Proofs.YtielecanhammbaaW.PrintLast Go.Proofs.YtielecanhammbaaW.PrintMore
set_option linter.unusedVariables false
set_option linter.unusedSimpArgs false
theorem and_0 : Go.bits .and .i64 0 1 = 0 := by decide +kernel
theorem and_1 : Go.bits .and .i64 1 1 = 1 := by decide +kernel
theorem and_4 : Go.bits .and .i64 4 1 = 0 := by decide +kernel
theorem and_5 : Go.bits .and .i64 5 1 = 1 := by decide +kernel
theorem and_6 : Go.bits .and .i64 6 1 = 0 := by decide +kernel
theorem and_7 : Go.bits .and .i64 7 1 = 1 := by decide +kernel
theorem cond0 (n : Nat) (a b : Int) : alu_Cond.f (n + 2) 0 a b = some (a == b) := by simp [alu_Cond.f, alu_Cond.j0, alu_Cond.j1, and_0]
theorem cond1 (n : Nat) (a b : Int) : alu_Cond.f (n + 2) 1 a b = some (a != b) := by simp [alu_Cond.f, alu_Cond.j0, alu_Cond.j1, and_1, bne]
theorem cond4 (n : Nat) (a b : Int) : alu_Cond.f (n + 2) 4 a b = some (decide (wrap64 a < wrap64 b)) := by simp [alu_Cond.f, alu_Cond.j0, alu_Cond.j1, and_4]
theorem cond5 (n : Nat) (a b : Int) : alu_Cond.f (n + 2) 5 a b = some (!decide (wrap64 a < wrap64 b)) := by simp [alu_Cond.f, alu_Cond.j0, alu_Cond.j1, and_5]
theorem cond6 (n : Nat) (a b : Int) : alu_Cond.f (n + 2) 6 a b = some (decide (a < b)) := by simp [alu_Cond.f, alu_Cond.j0, alu_Cond.j1, and_6]
theorem cond7 (n : Nat) (a b : Int) : alu_Cond.f (n + 2) 7 a b = some (!decide (a < b)) := by simp [alu_Cond.f, alu_Cond.j0, alu_Cond.j1, and_7]
theorem heads04 (n : Nat) : drawbridgelaw04_heads.f (n + 2) = some true := by
  unfold drawbridgelaw04_heads.f
  rw [show alu_Do.f 20 false 18446744073709551609 2 = some 18446744073709551613 from by decide +kernel, show alu_Do.f 22 false 18446744073709551609 2 = some 18446744073709551615 from by decide +kernel,
    show alu_Do.f 0 true 2147483647 1 = some 18446744071562067968 from by decide +kernel, cond4, cond6, show alu_Amo.f 16 true 4294967295 5 = some 4294967295 from by decide +kernel, show alu_Do.f 19 false 9223372036854775808 4 = some 2 from by decide +kernel]
  decide +kernel
theorem wrap64_cases (a : Int) (ha : u64B a) : wrap64 a = if a < 9223372036854775808 then a else a - 18446744073709551616 := by
  obtain ⟨h0, h1⟩ := ha
  unfold wrap64; split <;> omega
end Go.Proofs.Ytielecanhammbaa.Pure
