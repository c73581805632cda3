/- BitsSigns: an extended number keeps its lowest bits, all above are its sign, and extending it again changes nothing. No condition. -/
import Derived.Test.YtnfonelhehobpaaQx5
import Derived.Test.YtnfonelhehobpaaBh
set_option linter.unusedVariables false
namespace Go.Proofs.Ytnfonelhehobpaa.Pure
open Go.RowKit Go.Proofs.Ytnfonelhehobpaa.Q Go.Proofs.YtnfonelhehobpaaW.PrintWords Go.Proofs.YtnfonelhehobpaaW.PrintLast Go.Proofs.YtnfonelhehobpaaW.PrintMore Go.Proofs.Ytnfonelhehobpaa.L

theorem sext_mid (x : Int) (n : Nat) (h1 : 1 ≤ n) (h2 : n ≤ 63) : sextZ x n = if x % 2 ^ n < 2 ^ (n - 1) then x % 2 ^ n else x % 2 ^ n - 2 ^ n + 18446744073709551616 := by
  unfold sextZ
  rw [if_neg (by omega), if_neg (by omega), Int.toNat_natCast]
theorem sext_facts (x : Int) (n : Nat) (hx : u64B x) (h1 : 1 ≤ n) (h2 : n ≤ 63) :
    u64B (sextZ x n) ∧ sextZ x n % 2 ^ n = x % 2 ^ n ∧ (sextZ x n / 2 ^ (n - 1) = 0 ∨ sextZ x n / 2 ^ (n - 1) = 18446744073709551615 / 2 ^ (n - 1)) ∧ sextZ (sextZ x n) n = sextZ x n := by
  have hp := two_pow_pos n
  have hr := two_pow_pos (n - 1)
  have hpp := two_pow_pred (n := n) (by omega)
  have hl := two_pow_lt64 (n := n) (by omega)
  have hA0 := Int.emod_nonneg x (Int.ne_of_gt hp)
  have hA1 := Int.emod_lt_of_pos x hp
  have hm : (2 : Int) ^ (n - 1) * 2 ^ (65 - n) = 18446744073709551616 := by
    rw [← Int.pow_add, show n - 1 + (65 - n) = 64 by omega]; decide
  have hm2 : (2 : Int) ^ n * 2 ^ (64 - n) = 18446744073709551616 := by
    rw [← Int.pow_add, show n + (64 - n) = 64 by omega]; decide
  have hmp := two_pow_pos (65 - n)
  by_cases hlt : x % 2 ^ n < 2 ^ (n - 1)
  · have e : sextZ x n = x % 2 ^ n := by rw [sext_mid x n h1 h2, if_pos hlt]
    have e1 : x % 2 ^ n % 2 ^ n = x % 2 ^ n := Int.emod_emod_of_dvd x (Int.dvd_refl _)
    refine ⟨?_, ?_, .inl ?_, ?_⟩
    · rw [e]; exact ⟨hA0, by omega⟩
    · rw [e, e1]
    · rw [e]; exact Int.ediv_eq_zero_of_lt hA0 hlt
    · rw [e, sext_mid _ n h1 h2, e1, if_pos hlt]
  · have e : sextZ x n = x % 2 ^ n - 2 ^ n + 18446744073709551616 := by rw [sext_mid x n h1 h2, if_neg hlt]
    have e1 : (x % 2 ^ n - 2 ^ n + 18446744073709551616) % 2 ^ n = x % 2 ^ n := by
      have : x % 2 ^ n - 2 ^ n + 18446744073709551616 = x % 2 ^ n + 2 ^ n * (2 ^ (64 - n) - 1) := by
        rw [Int.mul_sub, hm2]; omega
      rw [this, Int.add_mul_emod_self_left]
      exact Int.emod_emod_of_dvd x (Int.dvd_refl _)
    refine ⟨?_, ?_, .inr ?_, ?_⟩
    · rw [e]; exact ⟨by omega, by omega⟩
    · rw [e, e1]
    · have d1 : (x % 2 ^ n - 2 ^ n + 18446744073709551616) / 2 ^ (n - 1) = 2 ^ (65 - n) - 1 := by
        rw [Int.ediv_eq_iff_of_pos hr]
        rw [Int.sub_mul, Int.mul_comm _ ((2 : Int) ^ (n - 1)), hm]
        omega
      have d2 : (18446744073709551615 : Int) / 2 ^ (n - 1) = 2 ^ (65 - n) - 1 := by
        rw [Int.ediv_eq_iff_of_pos hr]
        rw [Int.sub_mul, Int.mul_comm _ ((2 : Int) ^ (n - 1)), hm]
        omega
      rw [e, d1, d2]
    · rw [e, sext_mid _ n h1 h2, e1, if_neg hlt]
theorem field_top (y : Int) (hy : u64B y) (n : Nat) (h1 : 1 ≤ n) (h2 : n ≤ 63) : fieldZ y 63 ((n : Int) - 1) = y / 2 ^ (n - 1) := by
  rw [fieldZ_in _ _ _ (by omega) (by omega) (by omega), show ((n : Int) - 1).toNat = n - 1 by omega, show (63 - ((n : Int) - 1) + 1).toNat = 65 - n by omega]
  have hr := two_pow_pos (n - 1)
  have hm : (2 : Int) ^ (n - 1) * 2 ^ (65 - n) = 18446744073709551616 := by
    rw [← Int.pow_add, show n - 1 + (65 - n) = 64 by omega]; decide
  refine Int.emod_eq_of_lt (Int.ediv_nonneg hy.1 (Int.le_of_lt hr)) (Int.ediv_lt_of_lt_mul hr ?_)
  rw [Int.mul_comm, hm]
  exact hy.2
theorem field_low (y : Int) (n : Nat) (h1 : 1 ≤ n) (h2 : n ≤ 63) : fieldZ y ((n : Int) - 1) 0 = y % 2 ^ n := by
  rw [fieldZ_in _ _ _ (by omega) (by omega) (by omega), show ((n : Int) - 1 - 0 + 1).toNat = n by omega]
  simp
theorem BitsSigns : drawbridgelaw01_BitsSigns.Pure := by
  intro x c w0 w1
  have hx := wf_u64 w0
  have hc := bounds_i64 w1
  refine ⟨1, ?_⟩
  have hh := heads01
  unfold drawbridgelaw01_BitsSigns.f
  by_cases h1 : c < 1
  · rw [if_pos h1]
    simp only [drawbridgelaw01_BitsSigns.j0, hh, Option.bind_some, if_true]
  · by_cases h2 : c > 63
    · rw [if_neg h1, decide_eq_true h2]
      simp only [drawbridgelaw01_BitsSigns.j0, hh, Option.bind_some, if_true]
    · rw [if_neg h1, decide_eq_false h2]
      simp only [drawbridgelaw01_BitsSigns.j0]
      obtain ⟨n, rfl⟩ := Int.eq_ofNat_of_zero_le (show 0 ≤ c by omega)
      obtain ⟨hb, hlo, hhi, hag⟩ := sext_facts x n hx (by omega) (by omega)
      have hff : u64B 18446744073709551615 := ⟨by decide, by decide⟩
      rw [if_neg (by decide), sext_tells x n hx hc]
      simp only [Option.bind_some]
      rw [w64 (x := (n : Int) - 1) (by omega) (by omega), field_tells _ 63 _ hb (by omega) (by omega), field_tells _ 63 _ hff (by omega) (by omega), field_tells _ _ 0 hb (by omega) (by omega), field_tells _ _ 0 hx (by omega) (by omega)]
      simp only [Option.bind_some]
      rw [sext_tells _ n hb hc, hag, field_top _ hb n (by omega) (by omega), field_top _ hff n (by omega) (by omega), field_low _ n (by omega) (by omega), field_low _ n (by omega) (by omega), if_pos hlo, hh]
      simp only [Option.bind_some, if_true]
      rcases hhi with h | h
      · rw [if_pos h]
      · rw [if_pos h]
        split <;> rfl
end Go.Proofs.Ytnfonelhehobpaa.Pure
