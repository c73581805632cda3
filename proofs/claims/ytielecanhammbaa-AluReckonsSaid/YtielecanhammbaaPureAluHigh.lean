/- AluHigh, in plain numbers. -/
import Derived.Test.YtielecanhammbaaQx7
import Derived.Test.YtielecanhammbaaBa
import Derived.Test.YtielecanhammbaaBb
namespace Go.Proofs.Ytielecanhammbaa.Pure
open Go.RowKit Go.Proofs.Ytielecanhammbaa.Q Go.Proofs.Ytielecanhammbaa.L Go.Proofs.YtielecanhammbaaW.PrintWords Go.Proofs.YtielecanhammbaaW.PrintLast Go.Proofs.YtielecanhammbaaW.PrintMore
set_option linter.unusedVariables false
set_option linter.unusedSimpArgs false
theorem and_low (x : Int) (hx : u64B x) : Go.bits .and .u64 x 4294967295 = x % 4294967296 := and_mask x 32 hx (by decide)
/-- a product by halves -/
theorem halves (p q r s : Int) (p0 : 0 ≤ p) (p1 : p < 4294967296) (q0 : 0 ≤ q) (q1 : q < 4294967296) (r0 : 0 ≤ r) (r1 : r < 4294967296) (s0 : 0 ≤ s) (s1 : s < 4294967296) :
    let pr := p * r; let ps := p * s; let qr := q * r; let qs := q * s
    IntKind.u64.wrap (IntKind.u64.wrap (IntKind.u64.wrap pr + IntKind.u64.wrap (IntKind.u64.wrap ps + IntKind.u64.wrap qs / 4294967296) / 4294967296) + IntKind.u64.wrap (IntKind.u64.wrap (IntKind.u64.wrap ps + IntKind.u64.wrap qs / 4294967296) % 4294967296 + IntKind.u64.wrap qr) / 4294967296) =
      (pr * 18446744073709551616 + ps * 4294967296 + qr * 4294967296 + qs) / 18446744073709551616 := by
  intro pr ps qr qs
  have b (x y : Int) (x0 : 0 ≤ x) (x1 : x < 4294967296) (y0 : 0 ≤ y) (y1 : y < 4294967296) : 0 ≤ x * y ∧ x * y ≤ 18446744065119617025 := by
    refine ⟨Int.mul_nonneg x0 y0, ?_⟩
    have := Int.mul_le_mul (show x ≤ 4294967295 by omega) (show y ≤ 4294967295 by omega) y0 (by decide)
    omega
  have h1 : 0 ≤ pr ∧ pr ≤ 18446744065119617025 := b p r p0 p1 r0 r1
  have h2 : 0 ≤ ps ∧ ps ≤ 18446744065119617025 := b p s p0 p1 s0 s1
  have h3 : 0 ≤ qr ∧ qr ≤ 18446744065119617025 := b q r q0 q1 r0 r1
  have h4 : 0 ≤ qs ∧ qs ≤ 18446744065119617025 := b q s q0 q1 s0 s1
  clear_value pr ps qr qs
  simp only [IntKind.wrap_u64]
  omega
theorem mul64_is (a b : Int) (ha : u64B a) (hb : u64B b) : bits_Mul64.f a b = some (a * b / 18446744073709551616, IntKind.u64.wrap (a * b)) := by
  unfold bits_Mul64.f
  rw [and_low a ha, and_low b hb]
  obtain ⟨a0, a1⟩ := ha
  obtain ⟨b0, b1⟩ := hb
  have ea : a = a / 4294967296 * 4294967296 + a % 4294967296 := by omega
  have eb : b = b / 4294967296 * 4294967296 + b % 4294967296 := by omega
  have ex (P Q R S k : Int) : (P * k + Q) * (R * k + S) = P * R * (k * k) + P * S * k + Q * R * k + Q * S := by
    rw [Int.add_mul, Int.mul_add, Int.mul_add, show P * k * (R * k) = P * R * (k * k) by ac_rfl, show P * k * S = P * S * k by ac_rfl, show Q * (R * k) = Q * R * k by ac_rfl]
    omega
  have hp : a * b = (a / 4294967296 * (b / 4294967296)) * 18446744073709551616 + (a / 4294967296 * (b % 4294967296)) * 4294967296 + (a % 4294967296 * (b / 4294967296)) * 4294967296 + a % 4294967296 * (b % 4294967296) := by
    have := ex (a / 4294967296) (a % 4294967296) (b / 4294967296) (b % 4294967296) 4294967296
    rw [← ea, ← eb] at this
    exact this
  have hh := halves (a / 4294967296) (a % 4294967296) (b / 4294967296) (b % 4294967296) (by omega) (by omega) (by omega) (by omega) (by omega) (by omega) (by omega) (by omega)
  simp only at hh
  rw [← hp] at hh
  rw [and_low _ (u64_wrap _), hh]
theorem do_mulhu (a b : Int) (ha : u64B a) (hb : u64B b) : alu_Do.f 19 false a b = some (a * b / 18446744073709551616) := by
  show alu_number_mulhu.f a b = _
  unfold alu_number_mulhu.f
  rw [mul64_is a b ha hb]; rfl
theorem do_mul (a b : Int) : alu_Do.f 16 false a b = some (IntKind.u64.wrap (a * b)) := rfl
theorem sg_top (a : Int) (ha : u64B a) : wrap64 a / 9223372036854775808 = if a < 9223372036854775808 then 0 else -1 := by
  rw [wrap64_cases a ha]; obtain ⟨a0, a1⟩ := ha; split <;> omega
theorem and_all (x : Int) (hx : u64B x) : Go.bits .and .u64 x 18446744073709551615 = x := by
  rw [show (18446744073709551615 : Int) = 2 ^ 64 - 1 by decide, and_mask x 64 hx (by decide)]
  obtain ⟨h0, h1⟩ := hx
  rw [show (2 : Int) ^ 64 = 18446744073709551616 by decide]; omega
theorem and_none (x : Int) (hx : u64B x) : Go.bits .and .u64 x 0 = 0 := by
  have := and_mask x 0 hx (by decide)
  rw [show (2 : Int) ^ 0 - 1 = 0 by decide, show (2 : Int) ^ 0 = 1 by decide] at this
  rw [this]; omega
def pull (x y : Int) : Int := if y < 9223372036854775808 then 0 else x
theorem and_top (x y : Int) (hx : u64B x) (hy : u64B y) : Go.bits .and .u64 x (IntKind.u64.wrap (wrap64 y / 9223372036854775808)) = pull x y := by
  rw [sg_top y hy]
  unfold pull
  split
  · rw [show IntKind.u64.wrap 0 = 0 by decide +kernel, and_none x hx]
  · rw [show IntKind.u64.wrap (-1) = 18446744073709551615 by decide +kernel, and_all x hx]
theorem do_mulh (a b : Int) (ha : u64B a) (hb : u64B b) : alu_Do.f 17 false a b = some (IntKind.u64.wrap (IntKind.u64.wrap (a * b / 18446744073709551616 - pull b a) - pull a b)) := by
  show alu_number_mulh.f a b = _
  unfold alu_number_mulh.f alu_number_mulhsu.f alu_number_mulhu.f
  rw [mul64_is a b ha hb]
  simp only [Option.bind_some]
  rw [and_top b a hb ha, and_top a b ha hb]
theorem AluHigh : drawbridgelaw04_AluHigh.Pure := by
  intro a k h0 h1
  have ha := wf_u64B h0
  have hk := bounds_i64 h1
  refine ⟨4, ?_⟩
  unfold drawbridgelaw04_AluHigh.f
  have T : drawbridgelaw04_AluHigh.j0 4 a k true = some true := by
    simp only [drawbridgelaw04_AluHigh.j0, if_true, heads04, Option.bind_some]
  by_cases h : k < 1
  · rw [if_pos h, T]
  · rw [if_neg h]
    by_cases h2 : k > 63
    · rw [decide_eq_true h2, T]
    · rw [decide_eq_false h2]
      obtain ⟨n, rfl⟩ := Int.eq_ofNat_of_zero_le (show 0 ≤ k by omega)
      have w1 : IntKind.u64.wrap (n : Int) = (n : Int) := by rw [IntKind.wrap_u64]; omega
      have w2 : IntKind.u64.wrap (wrap64 (64 - (n : Int))) = ((64 - n : Nat) : Int) := by rw [IntKind.wrap_u64]; unfold wrap64; omega
      have e1 : shl .u64 1 (n : Int) = 2 ^ n := by rw [shl_in _ _ (by omega), Int.one_mul, wrap_two_pow (by omega)]
      have hp := two_pow_pos n
      have hl := two_pow_lt64 (show n ≤ 63 by omega)
      have hb : u64B (2 ^ n) := ⟨by omega, by omega⟩
      have e2 : a * 2 ^ n / 18446744073709551616 = a / 2 ^ (64 - n) := by
        have e : (18446744073709551616 : Int) = 2 ^ (64 - n) * 2 ^ n := by
          rw [← Int.pow_add, Nat.sub_add_cancel (by omega)]; decide
        rw [e, Int.mul_ediv_mul_of_pos_left _ _ hp]
      have hm : u64B 18446744073709551615 := ⟨by decide, by decide⟩
      simp only [drawbridgelaw04_AluHigh.j0, w1, w2, e1, do_mulhu a _ ha hb, do_mulhu _ a hb ha, do_mul, do_mulh a _ ha hm, do_mulh _ a hm ha, Option.bind_some, heads04]
      rw [if_neg (by decide), if_pos (by omega), if_pos (by omega), shr_in _ _ (by omega), shl_in _ _ (by omega), if_pos e2, if_pos rfl, if_pos (by rw [Int.mul_comm]), if_pos]
      obtain ⟨a0, a1⟩ := ha
      rw [Int.mul_comm 18446744073709551615 a]
      simp only [IntKind.wrap_u64]
      omega
end Go.Proofs.Ytielecanhammbaa.Pure
