/- Masks, shifts and signs of words of 64 bits. -/
import Derived.Test.YtielecanhammbaaPm
import Derived.Test.YtielecanhammbaaWWords
import Derived.Test.YtielecanhammbaaWMore
namespace Go.Proofs.Ytielecanhammbaa.L
open Go.RowKit Go.Proofs.YtielecanhammbaaW.PrintWords Go.Proofs.YtielecanhammbaaW.PrintLast Go.Proofs.YtielecanhammbaaW.PrintMore
set_option linter.unusedVariables false
set_option linter.unusedSimpArgs false
theorem two_pow_le64 {k : Nat} (h : k ≤ 64) : (2 : Int) ^ k ≤ 18446744073709551616 := by
  have := two_pow_mono h
  rw [show (2 : Int) ^ 64 = 18446744073709551616 by decide] at this
  exact this
theorem and_mask (x : Int) (k : Nat) (hx : u64B x) (hk : k ≤ 64) : Go.bits .and .u64 x (2 ^ k - 1) = x % 2 ^ k := by
  have h1 := two_pow_le64 hk
  have h2 := two_pow_pos k
  obtain ⟨X, rfl⟩ := Int.eq_ofNat_of_zero_le hx.1
  have e : (2 : Int) ^ k - 1 = ((2 ^ k - 1 : Nat) : Int) := by
    rw [Int.natCast_sub (Nat.two_pow_pos k)]; simp
  have e2 : ((X : Int) % 2 ^ k) = ((X % 2 ^ k : Nat) : Int) := by simp
  rw [u64_and _ _ hx.1 hx.2 (by omega) (by omega), e, e2, Int.toNat_natCast, Int.toNat_natCast, Nat.and_two_pow_sub_one_eq_mod]
theorem and_63 (x : Int) (hx : u64B x) : Go.bits .and .u64 x 63 = x % 64 := and_mask x 6 hx (by decide)
theorem and_31 (x : Int) (hx : u64B x) : Go.bits .and .u64 x 31 = x % 32 := and_mask x 5 hx (by decide)
theorem ones_shr (n : Nat) (hn : n ≤ 64) : (18446744073709551615 : Int) / 2 ^ n = 2 ^ (64 - n) - 1 := by
  have hp := two_pow_pos n
  have e : (18446744073709551616 : Int) = 2 ^ (64 - n) * 2 ^ n := by
    rw [← Int.pow_add, Nat.sub_add_cancel hn]; decide
  have : (18446744073709551615 : Int) = (2 ^ n - 1) + (2 ^ (64 - n) - 1) * 2 ^ n := by
    rw [Int.sub_mul, ← e]; omega
  rw [this, Int.add_mul_ediv_right _ _ (Int.ne_of_gt hp), Int.ediv_eq_zero_of_lt (by omega) (by omega)]
  omega
theorem shl_in (x : Int) (n : Nat) (h : n ≤ 64) : shl .u64 x n = IntKind.u64.wrap (x * 2 ^ n) := by
  unfold shl; rw [Int.toNat_natCast, show IntKind.u64.bits = 64 from rfl, Nat.min_eq_left h]
theorem shr_in (x : Int) (n : Nat) (h : n ≤ 64) : shr .u64 x n = x / 2 ^ n := by
  unfold shr; rw [Int.toNat_natCast, show IntKind.u64.bits = 64 from rfl, Nat.min_eq_left h]
theorem shri_in (x : Int) (n : Nat) (h : n ≤ 64) : shr .i64 x n = x / 2 ^ n := by
  unfold shr; rw [Int.toNat_natCast, show IntKind.i64.bits = 64 from rfl, Nat.min_eq_left h]
theorem shl_shr (x : Int) (n : Nat) (hn : n ≤ 64) : IntKind.u64.wrap (x * 2 ^ n) / 2 ^ n = x % 2 ^ (64 - n) := by
  have hp := two_pow_pos n
  have e : (18446744073709551616 : Int) = 2 ^ (64 - n) * 2 ^ n := by
    rw [← Int.pow_add, Nat.sub_add_cancel hn]; decide
  rw [IntKind.wrap_u64, e, Int.mul_comm x, Int.mul_comm (2 ^ (64 - n)), Int.mul_emod_mul_of_pos _ _ hp, Int.mul_ediv_cancel_left _ (Int.ne_of_gt hp)]
theorem sg_range (x : Int) : -9223372036854775808 ≤ wrap64 x ∧ wrap64 x ≤ 9223372036854775807 := by unfold wrap64; omega
theorem sg_div (s : Int) (n : Nat) (h : -9223372036854775808 ≤ s ∧ s ≤ 9223372036854775807) : -9223372036854775808 ≤ s / 2 ^ n ∧ s / 2 ^ n ≤ 9223372036854775807 := by
  have hp := two_pow_pos n
  constructor
  · apply (Int.le_ediv_iff_mul_le hp).2
    have : (1 : Int) ≤ 2 ^ n := hp
    have := Int.mul_le_mul_of_nonneg_left this (show (0 : Int) ≤ 9223372036854775808 by decide)
    omega
  · apply Int.lt_add_one_iff.1
    apply (Int.ediv_lt_iff_lt_mul hp).2
    have : (1 : Int) ≤ 2 ^ n := hp
    have := Int.mul_le_mul_of_nonneg_left this (show (0 : Int) ≤ 9223372036854775808 by decide)
    omega
theorem sg_back (s : Int) (h : -9223372036854775808 ≤ s ∧ s ≤ 9223372036854775807) : wrap64 (IntKind.u64.wrap s) = s := by
  rw [IntKind.wrap_u64]; unfold wrap64; omega
theorem u64_wrap (x : Int) : u64B (IntKind.u64.wrap x) := by rw [IntKind.wrap_u64]; unfold u64B; omega
theorem u64_div (x : Int) (n : Nat) (h : u64B x) : u64B (x / 2 ^ n) := by
  have hp := two_pow_pos n
  obtain ⟨h0, h1⟩ := h
  refine ⟨Int.ediv_nonneg h0 (by omega), ?_⟩
  exact Int.lt_of_le_of_lt (Int.ediv_le_self _ h0) h1
theorem u64_bits (o : BinOp) (x y : Int) (hx : u64B x) (hy : u64B y) : u64B (Go.bits o .u64 x y) := by
  unfold Go.bits
  exact u64_wrap _
end Go.Proofs.Ytielecanhammbaa.L
