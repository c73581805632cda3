/- AluWords, in plain numbers. -/
import Derived.Test.YtielecanhammbaaQx7
import Derived.Test.YtielecanhammbaaBa
import Derived.Test.YtielecanhammbaaBb
namespace Go.Proofs.Ytielecanhammbaa.Pure
open Go.RowKit Go.Proofs.Ytielecanhammbaa.Q Go.Proofs.Ytielecanhammbaa.L Go.Proofs.YtielecanhammbaaW.PrintWords Go.Proofs.YtielecanhammbaaW.PrintLast Go.Proofs.YtielecanhammbaaW.PrintMore
set_option linter.unusedVariables false
set_option linter.unusedSimpArgs false
theorem sg_ne (b : Int) (hb : u64B b) (h : b ≠ 0) : wrap64 b ≠ 0 := by
  obtain ⟨b0, b1⟩ := hb
  unfold wrap64; omega
theorem ite_isSome {p : Prop} [Decidable p] {x y : Option Int} (hx : x.isSome = true) (hy : y.isSome = true) : (if p then x else y).isSome = true := by
  by_cases h : p
  · rw [if_pos h]; exact hx
  · rw [if_neg h]; exact hy
theorem sum_isSome (f a b : Int) (ha : u64B a) (hb : u64B b) : (alu_sum.f f a b).isSome = true := by
  unfold alu_sum.f
  have g1 : (alu_number_slt.f a b).isSome = true := by
    unfold alu_number_slt.f alu_flag.f
    by_cases h : wrap64 a < wrap64 b <;> simp [h]
  have g2 : (alu_number_sltu.f a b).isSome = true := by
    unfold alu_number_sltu.f alu_flag.f
    by_cases h : a < b <;> simp [h]
  have g3 : (alu_number_div.f a b).isSome = true := by
    unfold alu_number_div.f
    by_cases h : b = 0
    · rw [if_pos h]; rfl
    · rw [if_neg h, if_neg (sg_ne b hb h)]
      repeat' (first | assumption | (with_reducible refine ite_isSome ?_ ?_))
      all_goals rfl
  have g4 : (alu_number_divu.f a b).isSome = true := by
    unfold alu_number_divu.f
    split <;> rfl
  have g5 : (alu_number_rem.f a b).isSome = true := by
    unfold alu_number_rem.f
    by_cases h : b = 0
    · rw [if_pos h]; rfl
    · rw [if_neg h, if_neg (sg_ne b hb h)]
      split <;> rfl
  have g6 : (alu_number_remu.f a b).isSome = true := by
    unfold alu_number_remu.f
    split <;> rfl
  repeat' (first | assumption | (with_reducible refine ite_isSome ?_ ?_))
  all_goals first | assumption | rfl
theorem sum_some (f a b : Int) (ha : u64B a) (hb : u64B b) : ∃ r, alu_sum.f f a b = some r := Option.isSome_iff_exists.1 (sum_isSome f a b ha hb)
def word (x : Int) : Prop := x < 2147483648 ∨ x ≥ 18446744071562067968
theorem ext_word (x : Int) : ∃ y, alu_extend.f x = some y ∧ word y ∧ u64B y := by
  refine ⟨_, rfl, ?_, u64_wrap _⟩
  unfold word; rw [IntKind.wrap_u64]; unfold wrap32; omega
theorem shift_isSome (f a n : Int) (hn : 0 ≤ n) : (alu_shift.f f a n).isSome = true := by
  unfold alu_shift.f
  rw [if_pos hn, if_pos hn, if_pos hn]
  repeat' (first | assumption | (with_reducible refine ite_isSome ?_ ?_))
  all_goals rfl
theorem shift_some (f a n : Int) (hn : 0 ≤ n) : ∃ r, alu_shift.f f a n = some r := Option.isSome_iff_exists.1 (shift_isSome f a n hn)
theorem do_word (f a b : Int) (ha : u64B a) (hb : u64B b) : ∃ x, alu_Do.f f true a b = some x ∧ word x := by
  have hl (z : Int) : u64B (z % 4294967296) := by unfold u64B; omega
  unfold alu_Do.f
  rw [if_neg (by decide), and_31 b hb]
  split
  · obtain ⟨r, hr⟩ := shift_some 5 (a % 4294967296) (b % 32) (by omega)
    obtain ⟨y, hy, hw, _⟩ := ext_word r
    exact ⟨y, by rw [hr]; exact hy, hw⟩
  · split
    · obtain ⟨x, hx, _, _⟩ := ext_word a
      obtain ⟨r, hr⟩ := shift_some f x (b % 32) (by omega)
      obtain ⟨y, hy, hw, _⟩ := ext_word r
      exact ⟨y, by rw [hx]; simp only [Option.bind_some]; rw [hr]; exact hy, hw⟩
    · split
      · obtain ⟨r, hr⟩ := sum_some f (a % 4294967296) (b % 4294967296) (hl a) (hl b)
        obtain ⟨y, hy, hw, _⟩ := ext_word r
        exact ⟨y, by rw [hr]; exact hy, hw⟩
      · split
        · obtain ⟨x, hx, _, ux⟩ := ext_word a
          obtain ⟨z, hz, _, uz⟩ := ext_word b
          obtain ⟨r, hr⟩ := sum_some f x z ux uz
          obtain ⟨y, hy, hw, _⟩ := ext_word r
          exact ⟨y, by rw [hx, hz]; simp only [Option.bind_some]; rw [hr]; exact hy, hw⟩
        · exact ⟨0, rfl, by unfold word; omega⟩
theorem ext_low (a b : Int) (h : a % 4294967296 = b % 4294967296) : alu_extend.f a = alu_extend.f b := by
  unfold alu_extend.f
  have : wrap32 a = wrap32 b := by unfold wrap32; omega
  rw [this]
theorem do_low (f a b c d : Int) (hb : u64B b) (hd : u64B d) (h1 : a % 4294967296 = c % 4294967296) (h2 : b % 4294967296 = d % 4294967296) : alu_Do.f f true a b = alu_Do.f f true c d := by
  unfold alu_Do.f
  rw [if_neg (show ¬ (true = false) by decide), if_neg (show ¬ (true = false) by decide), and_31 b hb, and_31 d hd, h1, h2, ext_low a c h1, ext_low b d h2, show b % 32 = d % 32 by omega]
theorem or_high (x p : Int) : Go.bits .or .u64 (x % 4294967296) (IntKind.u64.wrap (p * 4294967296)) = x % 4294967296 + p % 4294967296 * 4294967296 := by
  have e : IntKind.u64.wrap (p * 4294967296) = p % 4294967296 * 2 ^ 32 := by rw [IntKind.wrap_u64, show (2 : Int) ^ 32 = 4294967296 by decide]; omega
  rw [e, u64_or_add _ _ 32 (by omega) (by rw [show (2 : Int) ^ 32 = 4294967296 by decide]; omega) (by omega) (by rw [show (2 : Int) ^ 32 = 4294967296 by decide]; omega)]
  rfl
theorem AluWords : drawbridgelaw04_AluWords.Pure := by
  intro f a b p q h0 h1 h2 h3 h4
  obtain ⟨a0, a1⟩ := wf_u64B h1
  obtain ⟨b0, b1⟩ := wf_u64B h2
  refine ⟨2, ?_⟩
  unfold drawbridgelaw04_AluWords.f
  rw [Int.tmod_eq_emod_of_nonneg a0, Int.tmod_eq_emod_of_nonneg b0, or_high, or_high]
  have hl (z : Int) : u64B (z % 4294967296) := by unfold u64B; omega
  obtain ⟨x, hx, hw⟩ := do_word f (a % 4294967296) (b % 4294967296) (hl a) (hl b)
  have hy : alu_Do.f f true (a % 4294967296 + p % 4294967296 * 4294967296) (b % 4294967296 + q % 4294967296 * 4294967296) = some x := by
    rw [← hx]
    exact do_low f _ _ _ _ (by unfold u64B; omega) (hl b) (by omega) (by omega)
  rw [hx, hy]
  simp only [Option.bind_some, if_true, heads04]
  rcases hw with h | h
  · rw [if_pos h]
  · rw [if_neg (by omega), if_pos h]
end Go.Proofs.Ytielecanhammbaa.Pure
