/- What the printed functions of layer 1 come to, in plain numbers. -/
import Derived.Test.YtnfonelhehobpaaQx1
import Derived.Test.YtnfonelhehobpaaEbits
import Derived.Test.YtnfonelhehobpaaEref01
import Derived.OpenShut
namespace Go.Proofs.Ytnfonelhehobpaa.Q
open Go.RowKit Go.Proofs.YtnfonelhehobpaaW.PrintWords Go.Proofs.YtnfonelhehobpaaW.PrintLast Go.Proofs.YtnfonelhehobpaaW.PrintMore Go.Proofs.Ytnfonelhehobpaa.L
set_option linter.unusedVariables false
set_option linter.unusedSimpArgs false

theorem wf_u64 {x : Int} (h : (Lit.int .u64 x).wf = true) : u64B x := by
  have := bounds_u64 h
  exact ⟨by omega, by omega⟩
theorem u64_i64 {x : Int} (h0 : 0 ≤ x) (h : x ≤ 9223372036854775807) : IntKind.u64.wrap x = x := by rw [IntKind.wrap_u64]; omega
theorem w64 {x : Int} (h0 : -9223372036854775808 ≤ x) (h : x ≤ 9223372036854775807) : wrap64 x = x := by unfold wrap64; omega
theorem shl_u64 (x : Int) (n : Nat) (h : n ≤ 64) : shl .u64 x (n : Int) = x * 2 ^ n % 18446744073709551616 := by
  unfold shl
  rw [Int.toNat_natCast, show IntKind.u64.bits = 64 from rfl, Nat.min_eq_left h, IntKind.wrap_u64]
theorem shr_u64 (x : Int) (n : Nat) (h : n ≤ 64) : shr .u64 x (n : Int) = x / 2 ^ n := by
  unfold shr
  rw [Int.toNat_natCast, show IntKind.u64.bits = 64 from rfl, Nat.min_eq_left h]

theorem field_nat (X s l m : Nat) (hs : s + l + m = 64) : X * 2 ^ s % 2 ^ 64 / 2 ^ (s + l) = X / 2 ^ l % 2 ^ m := by
  rw [← hs, show s + l + m = s + (l + m) by omega, Nat.pow_add 2 s (l + m), Nat.pow_add 2 s l, Nat.mul_comm X, Nat.mul_mod_mul_left, ← Nat.div_div_eq_div_mul, Nat.mul_div_cancel_left _ (Nat.two_pow_pos s), Nat.pow_add, Nat.mod_mul_right_div_self]
theorem field_tells (x h l : Int) (hx : u64B x) (hh : -9223372036854775808 ≤ h ∧ h ≤ 9223372036854775807) (hl : -9223372036854775808 ≤ l ∧ l ≤ 9223372036854775807) : bits_Field.f x h l = some (fieldZ x h l) := by
  unfold bits_Field.f fieldZ
  by_cases h1 : l < 0
  · rw [if_pos h1, if_pos (.inl h1)]
  · by_cases h2 : l > h
    · rw [if_neg h1, if_pos h2, if_pos (.inr (.inl h2))]
    · by_cases h3 : h ≥ 64
      · rw [if_neg h1, if_neg h2, if_pos h3, if_pos (.inr (.inr (by omega)))]
      · obtain ⟨L, rfl⟩ := Int.eq_ofNat_of_zero_le (show 0 ≤ l by omega)
        obtain ⟨H, rfl⟩ := Int.eq_ofNat_of_zero_le (show 0 ≤ h by omega)
        obtain ⟨X, rfl⟩ := Int.eq_ofNat_of_zero_le hx.1
        rw [if_neg h1, if_neg h2, if_neg h3, w64 (x := 63 - (H : Int)) (by omega) (by omega), w64 (x := 63 - (H : Int) + L) (by omega) (by omega), if_pos (by omega), if_pos (by omega), if_neg (by omega)]
        have e1 : (63 - (H : Int)) = ((63 - H : Nat) : Int) := by omega
        have e2 : (63 - (H : Int) + L) = ((63 - H + L : Nat) : Int) := by omega
        have e3 : ((H : Int) - L + 1).toNat = H - L + 1 := by omega
        rw [e2, e1, shl_u64 _ _ (by omega), shr_u64 _ _ (by omega), e3, Int.toNat_natCast]
        congr 1
        have e := field_nat X (63 - H) L (H - L + 1) (by omega)
        have e' : (((X * 2 ^ (63 - H) % 2 ^ 64 / 2 ^ (63 - H + L) : Nat)) : Int) = ((X / 2 ^ L % 2 ^ (H - L + 1) : Nat) : Int) := by rw [e]
        simpa using e'
theorem sext_tells (x n : Int) (hx : u64B x) (hn : -9223372036854775808 ≤ n ∧ n ≤ 9223372036854775807) : bits_Sext.f x n = some (sextZ x n) := by
  unfold bits_Sext.f
  by_cases h1 : n ≤ 0
  · rw [if_pos h1, sextZ_le x n h1]
  · by_cases h2 : n ≥ 64
    · rw [if_neg h1, if_pos h2, sextZ_ge x n (by omega)]
    · obtain ⟨N, rfl⟩ := Int.eq_ofNat_of_zero_le (show 0 ≤ n by omega)
      obtain ⟨X, rfl⟩ := Int.eq_ofNat_of_zero_le hx.1
      rw [if_neg h1, if_neg h2, w64 (x := 64 - (N : Int)) (by omega) (by omega), if_pos (by omega)]
      have e1 : (64 - (N : Int)) = ((64 - N : Nat) : Int) := by omega
      rw [e1, shl_u64 _ _ (by omega)]
      unfold sextZ shr
      rw [if_neg (by omega), if_neg (by omega), Int.toNat_natCast, Int.toNat_natCast, show IntKind.i64.bits = 64 from rfl, Nat.min_eq_left (by omega)]
      have hp := two_pow_pos N
      have hq := two_pow_pos (64 - N)
      have hpq : (2 : Int) ^ (64 - N) * 2 ^ N = 18446744073709551616 := by
        rw [← Int.pow_add, show 64 - N + N = 64 by omega]; decide
      have hpp := two_pow_pred (n := N) (by omega)
      have hl := two_pow_lt64 (n := N) (by omega)
      have hlow : ((X : Int) * 2 ^ (64 - N) % 18446744073709551616) = 2 ^ (64 - N) * ((X : Int) % 2 ^ N) := by
        rw [← hpq, Int.mul_comm (X : Int), Int.mul_emod_mul_of_pos _ _ hq]
      rw [hlow]
      have hA0 := Int.emod_nonneg (X : Int) (Int.ne_of_gt hp)
      have hA1 := Int.emod_lt_of_pos (X : Int) hp
      clear hlow
      generalize (X : Int) % 2 ^ N = A at hA0 hA1 ⊢
      generalize (2 : Int) ^ (64 - N) = Q at hq hpq ⊢
      generalize (2 : Int) ^ N = P at hp hpq hpp hl hA1 ⊢
      generalize (2 : Int) ^ (N - 1) = R at hpp ⊢
      have hQA0 : 0 ≤ Q * A := Int.mul_nonneg (Int.le_of_lt hq) hA0
      by_cases hlt : A < R
      · rw [if_pos hlt]
        have h2A : Q * A < 9223372036854775808 := by
          have h1 : Q * A < Q * R := Int.mul_lt_mul_of_pos_left hlt hq
          have h2 : Q * P = 2 * (Q * R) := by rw [hpp, ← Int.mul_assoc, Int.mul_comm Q 2, Int.mul_assoc]
          omega
        rw [w64 (by omega) (by omega), Int.mul_ediv_cancel_left _ (Int.ne_of_gt hq), u64_i64 hA0 (by omega)]
      · rw [if_neg hlt]
        have h2A : 9223372036854775808 ≤ Q * A := by
          have h1 : Q * R ≤ Q * A := Int.mul_le_mul_of_nonneg_left (by omega) (Int.le_of_lt hq)
          have h2 : Q * P = 2 * (Q * R) := by rw [hpp, ← Int.mul_assoc, Int.mul_comm Q 2, Int.mul_assoc]
          omega
        have h2B : Q * A < 18446744073709551616 := by
          have h1 : Q * A < Q * P := Int.mul_lt_mul_of_pos_left hA1 hq
          omega
        have hw : wrap64 (Q * A) = Q * (A - P) := by
          rw [Int.mul_sub, hpq]; unfold wrap64; omega
        rw [hw, Int.mul_ediv_cancel_left _ (Int.ne_of_gt hq), IntKind.wrap_u64]
        congr 1
        omega
/-! ### Align -/
def alignB (x n : Int) : Bool := (n == 1 || n == 2 || n == 4 || n == 8) && x % n == 0
theorem and_mask (x : Int) (k : Nat) (hx : u64B x) (hk : k ≤ 63) : Go.bits .and .u64 x (2 ^ k - 1) = x % 2 ^ k := by
  have h1 := two_pow_lt64 hk
  have h2 := two_pow_pos k
  obtain ⟨X, rfl⟩ := Int.eq_ofNat_of_zero_le hx.1
  have e : (2 : Int) ^ k - 1 = ((2 ^ k - 1 : Nat) : Int) := by
    rw [Int.natCast_sub (Nat.two_pow_pos k)]; simp
  have e2 : ((X : Int) % 2 ^ k) = ((X % 2 ^ k : Nat) : Int) := by simp
  rw [u64_and _ _ hx.1 hx.2 (by omega) (by omega), e, e2, Int.toNat_natCast, Int.toNat_natCast, Nat.and_two_pow_sub_one_eq_mod]
theorem align_tells (x n : Int) (hx : u64B x) (hn : -9223372036854775808 ≤ n ∧ n ≤ 9223372036854775807) : bits_Align.f x n = some (alignB x n) := by
  unfold bits_Align.f
  by_cases h1 : n ≥ 1
  · by_cases h2 : n ≤ 8
    · rw [if_pos h1, if_pos h2]
      have ha := and_mask x 0 hx (by omega)
      have hb := and_mask x 1 hx (by omega)
      have hc := and_mask x 2 hx (by omega)
      have hd := and_mask x 3 hx (by omega)
      have : n = 1 ∨ n = 2 ∨ n = 3 ∨ n = 4 ∨ n = 5 ∨ n = 6 ∨ n = 7 ∨ n = 8 := by omega
      rcases this with rfl | rfl | rfl | rfl | rfl | rfl | rfl | rfl
      · rw [show bits_OnesCount.f (IntKind.u64.wrap 1) = some 1 by decide +kernel]
        simp only [Option.bind_some, if_true]
        rw [show IntKind.u64.wrap (wrap64 (1 - 1)) = (2 : Int) ^ 0 - 1 by decide +kernel, ha]; rfl
      · rw [show bits_OnesCount.f (IntKind.u64.wrap 2) = some 1 by decide +kernel]
        simp only [Option.bind_some, if_true]
        rw [show IntKind.u64.wrap (wrap64 (2 - 1)) = (2 : Int) ^ 1 - 1 by decide +kernel, hb]; rfl
      · rw [show bits_OnesCount.f (IntKind.u64.wrap 3) = some 2 by decide +kernel]; rfl
      · rw [show bits_OnesCount.f (IntKind.u64.wrap 4) = some 1 by decide +kernel]
        simp only [Option.bind_some, if_true]
        rw [show IntKind.u64.wrap (wrap64 (4 - 1)) = (2 : Int) ^ 2 - 1 by decide +kernel, hc]; rfl
      · rw [show bits_OnesCount.f (IntKind.u64.wrap 5) = some 2 by decide +kernel]; rfl
      · rw [show bits_OnesCount.f (IntKind.u64.wrap 6) = some 2 by decide +kernel]; rfl
      · rw [show bits_OnesCount.f (IntKind.u64.wrap 7) = some 3 by decide +kernel]; rfl
      · rw [show bits_OnesCount.f (IntKind.u64.wrap 8) = some 1 by decide +kernel]
        simp only [Option.bind_some, if_true]
        rw [show IntKind.u64.wrap (wrap64 (8 - 1)) = (2 : Int) ^ 3 - 1 by decide +kernel, hd]; rfl
    · rw [if_pos h1, if_neg h2]
      congr 1
      have e1 : (n == 1) = false := beq_eq_false_iff_ne.2 (by omega)
      have e2 : (n == 2) = false := beq_eq_false_iff_ne.2 (by omega)
      have e4 : (n == 4) = false := beq_eq_false_iff_ne.2 (by omega)
      have e8 : (n == 8) = false := beq_eq_false_iff_ne.2 (by omega)
      simp [alignB, e1, e2, e4, e8]
  · rw [if_neg h1]
    congr 1
    have e1 : (n == 1) = false := beq_eq_false_iff_ne.2 (by omega)
    have e2 : (n == 2) = false := beq_eq_false_iff_ne.2 (by omega)
    have e4 : (n == 4) = false := beq_eq_false_iff_ne.2 (by omega)
    have e8 : (n == 8) = false := beq_eq_false_iff_ne.2 (by omega)
    simp [alignB, e1, e2, e4, e8]
theorem same_self (l : List Int) : drawbridgeref01_Same.f l l = some true := by
  unfold drawbridgeref01_Same.f
  rw [beq_self_eq_true]
end Go.Proofs.Ytnfonelhehobpaa.Q
