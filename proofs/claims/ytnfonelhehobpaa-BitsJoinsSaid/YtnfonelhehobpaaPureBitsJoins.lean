/- BitsJoins: two fields of a number side by side are the number; a field of all bits is the number. No condition. -/
import Derived.Test.YtnfonelhehobpaaQx5
import Derived.Test.YtnfonelhehobpaaBh
namespace Go.Proofs.Ytnfonelhehobpaa.Pure
open Go.RowKit Go.Proofs.Ytnfonelhehobpaa.Q Go.Proofs.YtnfonelhehobpaaW.PrintWords Go.Proofs.YtnfonelhehobpaaW.PrintLast Go.Proofs.YtnfonelhehobpaaW.PrintMore Go.Proofs.Ytnfonelhehobpaa.L

theorem join_nat (X c : Nat) (hX : X < 2 ^ 64) (hc : c ≤ 63) : (X / 2 ^ c % 2 ^ (64 - c) * 2 ^ c ||| X % 2 ^ c) = X := by
  have h1 : X / 2 ^ c < 2 ^ (64 - c) := Nat.div_lt_of_lt_mul (by rw [← Nat.pow_add, show c + (64 - c) = 64 by omega]; exact hX)
  rw [Nat.mod_eq_of_lt h1, Nat.mul_comm, ← Nat.two_pow_add_eq_or_of_lt (Nat.mod_lt _ (Nat.two_pow_pos c)), Nat.div_add_mod]
theorem BitsJoins : drawbridgelaw01_BitsJoins.Pure := by
  intro x c w0 w1
  have hx := wf_u64 w0
  have hc := bounds_i64 w1
  refine ⟨1, ?_⟩
  have hh := heads01
  unfold drawbridgelaw01_BitsJoins.f
  by_cases h1 : c < 1
  · rw [if_pos h1]
    simp only [drawbridgelaw01_BitsJoins.j0, hh, Option.bind_some, if_true]
  · by_cases h2 : c > 63
    · rw [if_neg h1, decide_eq_true h2]
      simp only [drawbridgelaw01_BitsJoins.j0, hh, Option.bind_some, if_true]
    · rw [if_neg h1, decide_eq_false h2]
      simp only [drawbridgelaw01_BitsJoins.j0]
      rw [if_neg (by decide), field_tells x 63 c hx (by omega) hc]
      simp only [Option.bind_some]
      rw [u64_i64 (by omega) (by omega), if_pos (by omega), w64 (x := c - 1) (by omega) (by omega), field_tells x (c - 1) 0 hx (by omega) (by omega), field_tells x 63 0 hx (by omega) (by omega)]
      simp only [Option.bind_some]
      obtain ⟨C, rfl⟩ := Int.eq_ofNat_of_zero_le (show 0 ≤ c by omega)
      obtain ⟨X, rfl⟩ := Int.eq_ofNat_of_zero_le hx.1
      have hX : X < 2 ^ 64 := by have := hx.2; omega
      have e1 : fieldZ X 63 C = ((X / 2 ^ C % 2 ^ (64 - C) : Nat) : Int) := by
        rw [fieldZ_in _ _ _ (by omega) (by omega) (by omega), Int.toNat_natCast, show (63 - (C : Int) + 1).toNat = 64 - C by omega]
        simp
      have e2 : fieldZ X ((C : Int) - 1) 0 = ((X % 2 ^ C : Nat) : Int) := by
        rw [fieldZ_in _ _ _ (by omega) (by omega) (by omega), show ((C : Int) - 1 - 0 + 1).toNat = C by omega]
        simp
      have e3 : fieldZ X 63 0 = (X : Int) := by
        rw [fieldZ_in _ _ _ (by omega) (by omega) (by omega)]
        have : ((63 : Int) - 0 + 1).toNat = 64 := rfl
        rw [this]
        have h := hx.2
        simp
        omega
      rw [e1, e2, e3, shl_u64 _ _ (by omega)]
      have hlt : X / 2 ^ C % 2 ^ (64 - C) * 2 ^ C < 2 ^ 64 := by
        have h1 : X / 2 ^ C < 2 ^ (64 - C) := Nat.div_lt_of_lt_mul (by rw [← Nat.pow_add, show C + (64 - C) = 64 by omega]; exact hX)
        rw [Nat.mod_eq_of_lt h1]
        exact Nat.lt_of_le_of_lt (Nat.div_mul_le_self X (2 ^ C)) hX
      have e4 : ((X / 2 ^ C % 2 ^ (64 - C) : Nat) : Int) * 2 ^ C % 18446744073709551616 = ((X / 2 ^ C % 2 ^ (64 - C) * 2 ^ C : Nat) : Int) := by
        rw [Int.natCast_mul, Int.natCast_pow]
        refine Int.emod_eq_of_lt (Int.mul_nonneg (by omega) (Int.le_of_lt (two_pow_pos C))) ?_
        have : ((X / 2 ^ C % 2 ^ (64 - C) * 2 ^ C : Nat) : Int) < 18446744073709551616 := by omega
        rw [Int.natCast_mul, Int.natCast_pow] at this
        exact this
      have hm : X % 2 ^ C < 2 ^ 64 := Nat.lt_of_le_of_lt (Nat.mod_le _ _) hX
      rw [e4, u64_or_nat _ _ (by omega) (by omega), join_nat X C hX (by omega), if_pos rfl, if_pos rfl, hh]
      rfl
end Go.Proofs.Ytnfonelhehobpaa.Pure
