/- AluTurns, in plain numbers. -/
import Derived.Test.YtielecanhammbaaQx7
import Derived.Test.YtielecanhammbaaBa
namespace Go.Proofs.Ytielecanhammbaa.Pure
open Go.RowKit Go.Proofs.Ytielecanhammbaa.Q Go.Proofs.Ytielecanhammbaa.L Go.Proofs.YtielecanhammbaaW.PrintWords Go.Proofs.YtielecanhammbaaW.PrintLast Go.Proofs.YtielecanhammbaaW.PrintMore
set_option linter.unusedVariables false
set_option linter.unusedSimpArgs false
theorem amo_sum (a b : Int) (ha : u64B a) (hb : u64B b) : ∃ x y, alu_Amo.f 16 false a b = some x ∧ alu_Amo.f 20 false a b = some y ∧ IntKind.u64.wrap (x + y) = IntKind.u64.wrap (a + b) := by
  refine ⟨_, _, rfl, rfl, ?_⟩
  obtain ⟨a0, a1⟩ := ha
  obtain ⟨b0, b1⟩ := hb
  simp only [IntKind.wrap_u64]
  unfold mn mx wrap64
  split <;> split <;> omega
theorem amo_sumu (a b : Int) : ∃ x y, alu_Amo.f 24 false a b = some x ∧ alu_Amo.f 28 false a b = some y ∧ IntKind.u64.wrap (x + y) = IntKind.u64.wrap (a + b) := by
  refine ⟨_, _, rfl, rfl, ?_⟩
  unfold mn mx
  split <;> split
  · omega
  · rw [Int.add_comm]
  · rfl
  · have : a = b := by omega
    rw [this]
theorem AluTurns : drawbridgelaw04_AluTurns.Pure := by
  intro a b h0 h1
  have ha := wf_u64B h0
  have hb := wf_u64B h1
  refine ⟨8, ?_⟩
  obtain ⟨x, y, e1, e2, e3⟩ := amo_sum a b ha hb
  obtain ⟨p, q, f1, f2, f3⟩ := amo_sumu a b
  have J1 : ∀ n, drawbridgelaw04_AluTurns.j1 (n + 3) a b false = some true := by
    intro n
    simp only [drawbridgelaw04_AluTurns.j1, e1, e2, f1, f2, Option.bind_some, heads04]
    rw [if_neg (by decide), if_pos e3, if_pos f3]
  have J0 : drawbridgelaw04_AluTurns.j0 8 a b false = some true := by
    simp only [drawbridgelaw04_AluTurns.j0, cond0, cond4, Option.bind_some]
    rw [if_neg (by decide)]
    have e0 : ((a == b) != (a == b)) = false := by cases (a == b) <;> rfl
    rw [e0, J1]
    have k1 := wrap64_cases a ha
    have k2 := wrap64_cases b hb
    by_cases c : wrap64 a < wrap64 b
    · have hne : a ≠ b := by rintro rfl; omega
      simp [c, hne]
    · by_cases d : wrap64 b < wrap64 a
      · have hne : a ≠ b := by rintro rfl; omega
        simp [c, d, hne]
      · have he : a = b := by
          obtain ⟨a0, a1⟩ := ha
          obtain ⟨b0, b1⟩ := hb
          split at k1 <;> split at k2 <;> omega
        simp [c, d, he]
  unfold drawbridgelaw04_AluTurns.f
  simp only [cond0, cond1, cond4, cond5, cond6, cond7, Option.bind_some]
  have g1 : ((a == b) == (a != b)) = false := by unfold bne; cases (a == b) <;> rfl
  have g2 : (decide (wrap64 a < wrap64 b) == !decide (wrap64 a < wrap64 b)) = false := by cases decide (wrap64 a < wrap64 b) <;> rfl
  have g3 : (decide (a < b) == !decide (a < b)) = false := by cases decide (a < b) <;> rfl
  rw [g1, g2, g3, if_neg (by decide), if_neg (by decide), J0]
end Go.Proofs.Ytielecanhammbaa.Pure
