/- AluShifts, in plain numbers. -/
import Derived.Test.YtielecanhammbaaBa
import Derived.Test.YtielecanhammbaaBb
namespace Go.Proofs.Ytielecanhammbaa.Pure
open Go.RowKit Go.Proofs.Ytielecanhammbaa.Q Go.Proofs.Ytielecanhammbaa.L Go.Proofs.YtielecanhammbaaW.PrintWords Go.Proofs.YtielecanhammbaaW.PrintLast Go.Proofs.YtielecanhammbaaW.PrintMore
set_option linter.unusedVariables false
set_option linter.unusedSimpArgs false
theorem do_sll (a : Int) (n : Nat) (hn : n ≤ 63) : alu_Do.f 1 false a n = some (IntKind.u64.wrap (a * 2 ^ n)) := by
  unfold alu_Do.f
  rw [if_pos rfl, if_pos (by decide), and_63 _ ⟨by omega, by omega⟩, show (n : Int) % 64 = n by omega]
  unfold alu_shift.f
  rw [if_pos rfl, if_pos (by omega), shl_in _ _ (by omega)]
theorem do_srl (a : Int) (n : Nat) (hn : n ≤ 63) : alu_Do.f 5 false a n = some (a / 2 ^ n) := by
  unfold alu_Do.f
  rw [if_pos rfl, if_pos (by decide), and_63 _ ⟨by omega, by omega⟩, show (n : Int) % 64 = n by omega]
  unfold alu_shift.f
  rw [if_neg (by decide), if_pos rfl, if_pos (by omega), shr_in _ _ (by omega)]
theorem do_sra (a : Int) (n : Nat) (hn : n ≤ 63) : alu_Do.f 13 false a n = some (IntKind.u64.wrap (wrap64 a / 2 ^ n)) := by
  unfold alu_Do.f
  rw [if_pos rfl, if_pos (by decide), and_63 _ ⟨by omega, by omega⟩, show (n : Int) % 64 = n by omega]
  unfold alu_shift.f
  rw [if_neg (by decide), if_neg (by decide), if_pos (by omega), shri_in _ _ (by omega)]
theorem do_sll64 (a : Int) (n : Nat) (hn : n ≤ 63) : alu_Do.f 1 false a ((n : Int) + 64) = some (IntKind.u64.wrap (a * 2 ^ n)) := by
  unfold alu_Do.f
  rw [if_pos rfl, if_pos (by decide), and_63 _ ⟨by omega, by omega⟩, show ((n : Int) + 64) % 64 = n by omega]
  unfold alu_shift.f
  rw [if_pos rfl, if_pos (by omega), shl_in _ _ (by omega)]
theorem shifts_go (a : Int) (n m : Nat) (ha : u64B a) (h : n + m ≤ 63) : drawbridgelaw04_AluShifts.j0 5 a n m false = some true := by
  have w1 : IntKind.u64.wrap ((n : Int) + (m : Int)) = ((n + m : Nat) : Int) := by rw [IntKind.wrap_u64]; omega
  have w2 : IntKind.u64.wrap ((n : Int) + 64) = (n : Int) + 64 := by rw [IntKind.wrap_u64]; omega
  simp only [drawbridgelaw04_AluShifts.j0, do_sll a n (by omega), do_srl _ n (show n ≤ 63 by omega), do_sra _ n (show n ≤ 63 by omega), do_sra _ m (show m ≤ 63 by omega), w1, w2, do_sra _ (n + m) h, do_sll64 a n (by omega), Option.bind_some, heads04]
  rw [if_neg (by decide), if_pos (by omega), shr_in _ _ (by omega), ones_shr n (by omega), and_mask a (64 - n) ha (by omega), shl_shr a n (by omega), if_pos rfl]
  rw [sg_back _ (sg_div _ n (sg_range a))]
  have hd : wrap64 a / 2 ^ n / 2 ^ m = wrap64 a / 2 ^ (n + m) := by
    rw [Int.pow_add, Int.ediv_ediv_of_nonneg (Int.le_of_lt (two_pow_pos n))]
  rw [hd, if_pos rfl]; rfl
theorem AluShifts : drawbridgelaw04_AluShifts.Pure := by
  intro a n m h0 h1 h2
  have ha := wf_u64B h0
  obtain ⟨n0, n1⟩ := wf_u64B h1
  obtain ⟨m0, m1⟩ := wf_u64B h2
  refine ⟨5, ?_⟩
  have T : drawbridgelaw04_AluShifts.j0 5 a n m true = some true := by
    simp only [drawbridgelaw04_AluShifts.j0, if_true, heads04, Option.bind_some]
  unfold drawbridgelaw04_AluShifts.f
  by_cases h : n > 63
  · rw [if_pos h, T]
  · rw [if_neg h]
    have w : IntKind.u64.wrap (63 - n) = 63 - n := by rw [IntKind.wrap_u64]; omega
    rw [w]
    by_cases k : m > 63 - n
    · rw [decide_eq_true k, T]
    · rw [decide_eq_false k]
      obtain ⟨N, rfl⟩ := Int.eq_ofNat_of_zero_le n0
      obtain ⟨M, rfl⟩ := Int.eq_ofNat_of_zero_le m0
      exact shifts_go a N M ha (by omega)
end Go.Proofs.Ytielecanhammbaa.Pure
