/- The reference's Field and Put (layer 1) come to the same as the program's. -/
import Derived.Test.YtnfonelhehobpaaBh
import Derived.Test.YtnfonelhehobpaaQx3
import Derived.Test.YtnfonelhehobpaaQx4
set_option linter.unusedVariables false
namespace Go.Proofs.Ytnfonelhehobpaa.Q
open Go.RowKit Go.Proofs.YtnfonelhehobpaaW.PrintWords Go.Proofs.YtnfonelhehobpaaW.PrintLast Go.Proofs.YtnfonelhehobpaaW.PrintMore Go.Proofs.Ytnfonelhehobpaa.L

theorem reffield_tells (k : Nat) (x h l : Int) (hx : u64B x) (hh : -9223372036854775808 ≤ h ∧ h ≤ 9223372036854775807) (hl : -9223372036854775808 ≤ l ∧ l ≤ 9223372036854775807) : drawbridgeref01_Field.f (k + 1) x h l = some (fieldZ x h l) := by
  unfold drawbridgeref01_Field.f fieldZ
  simp only [drawbridgeref01_Field.j0]
  by_cases h1 : l < 0
  · rw [if_pos h1, if_pos trivial, if_pos (.inl h1)]
  · by_cases h2 : l > h
    · rw [if_neg h1, if_pos h2, if_pos trivial, if_pos (.inr (.inl h2))]
    · by_cases h3 : h > 63
      · rw [if_neg h1, if_neg h2, decide_eq_true h3, if_pos rfl, if_pos (.inr (.inr (by omega)))]
      · obtain ⟨L, rfl⟩ := Int.eq_ofNat_of_zero_le (show 0 ≤ l by omega)
        obtain ⟨H, rfl⟩ := Int.eq_ofNat_of_zero_le (show 0 ≤ h by omega)
        have hx0 := hx.1
        have hx1 := hx.2
        have e2 : ((H : Int) - L + 1) = ((H - L + 1 : Nat) : Int) := by omega
        rw [if_neg (show ¬ ((L : Int) < 0 ∨ (H : Int) < L ∨ 63 < (H : Int)) by omega), if_neg h1, if_neg h2, decide_eq_false h3, if_neg (by decide), u64_i64 (x := (L : Int)) (by omega) (by omega), w64 (x := (H : Int) - L) (by omega) (by omega), w64 (x := (H : Int) - L + 1) (by omega) (by omega), if_pos (show (0 : Int) ≤ (L : Int) by omega), u64_i64 (x := (H : Int) - L + 1) (by omega) (by omega), e2, shr_u64 _ _ (by omega), Int.toNat_natCast, Int.toNat_natCast]
        have hq := two_pow_pos L
        have hd0 : 0 ≤ x / 2 ^ L := Int.ediv_nonneg hx0 (Int.le_of_lt hq)
        by_cases h4 : ((H - L + 1 : Nat) : Int) = 64
        · rw [if_pos h4]
          have h5 : H - L + 1 = 64 := by omega
          have h6 : L = 0 := by omega
          subst h6
          rw [h5]
          congr 1
          have : x / 2 ^ 0 = x := by simp
          rw [this]
          have e64 : (2 : Int) ^ 64 = 18446744073709551616 := by decide
          rw [e64]
          omega
        · rw [if_neg h4, if_pos (show (0 : Int) ≤ ((H - L + 1 : Nat) : Int) by omega), shl_u64 _ _ (by omega), Int.one_mul]
          have h7 := two_pow_lt64 (n := H - L + 1) (by omega)
          have h8 := two_pow_pos (H - L + 1)
          rw [Int.emod_eq_of_lt (a := (2 : Int) ^ (H - L + 1)) (by omega) (by omega), if_neg (by omega), Int.tmod_eq_emod_of_nonneg hd0]
theorem refput_loop (x : Int) (n : Int) (big : Bool) (hn : -9223372036854775808 ≤ n ∧ n ≤ 9223372036854775807) (d : Nat) : ∀ (k i : Nat), i ≤ putN n → putN n - i = d → 2 * d + 2 ≤ k →
    drawbridgeref01_Put.l0 k x n big (if big then (putL x i).reverse else putL x i) (i : Int) = some (putB x n big) := by
  have hN : (putN n : Int) = if n ≤ 0 then 0 else if 8 < n then 8 else n := by unfold putN; (repeat' split) <;> omega
  induction d with
  | zero =>
    intro k i hi hd hk
    obtain ⟨k, rfl⟩ : ∃ m, k = m + 2 := ⟨k - 2, by omega⟩
    have e : i = putN n := by omega
    simp only [drawbridgeref01_Put.l0, drawbridgeref01_Put.j1]
    have hx8 : (i : Int) < n → decide ((i : Int) < 8) = false := fun h => decide_eq_false (by split at hN <;> (try split at hN) <;> omega)
    by_cases hlt : (i : Int) < n
    · rw [if_pos hlt, hx8 hlt, if_neg (by decide), e]; rfl
    · rw [if_neg hlt, if_neg (by decide), e]; rfl
  | succ d ih =>
    intro k i hi hd hk
    obtain ⟨k, rfl⟩ : ∃ m, k = m + 2 := ⟨k - 2, by omega⟩
    have hlt : (i : Int) < n := by split at hN <;> (try split at hN) <;> omega
    have h8 : (i : Int) < 8 := by have := putN_le n; omega
    simp only [drawbridgeref01_Put.l0, drawbridgeref01_Put.j1]
    rw [if_pos hlt, decide_eq_true h8, if_pos rfl]
    have e8 : wrap64 (8 * (i : Int)) = ((8 * i : Nat) : Int) := by rw [w64 (by omega) (by omega)]; omega
    have ei : wrap64 ((i : Int) + 1) = ((i + 1 : Nat) : Int) := by rw [w64 (by omega) (by omega)]; omega
    rw [e8, u64_i64 (by omega) (by omega), if_pos (by omega), shr_u64 _ _ (by omega), ei]
    have es : putL x (i + 1) = putL x i ++ [x / 2 ^ (8 * i) % 256] := by
      unfold putL; rw [List.range_succ, List.map_append]; rfl
    have hl : (putL x i).length = i := putL_length x i
    have := ih k (i + 1) (by omega) (by omega) (by omega)
    cases big
    · simp only [Bool.false_eq_true, if_false] at this ⊢
      rw [hl, if_pos (by omega), ← es]
      exact this
    · simp only [if_true, Option.bind_some] at this ⊢
      rw [List.length_reverse, hl, if_pos (by simp; omega)]
      have er : [x / 2 ^ (8 * i) % 256] ++ (putL x i).reverse = (putL x (i + 1)).reverse := by rw [es, List.reverse_append]; rfl
      rw [er]
      exact this
theorem refput_tells (k : Nat) (hk : 18 ≤ k) (x n : Int) (big : Bool) (hn : -9223372036854775808 ≤ n ∧ n ≤ 9223372036854775807) : drawbridgeref01_Put.f k x n big = some (putB x n big) := by
  unfold drawbridgeref01_Put.f
  have h := refput_loop x n big hn (putN n) k 0 (Nat.zero_le _) (by omega) (by have := putN_le n; omega)
  have e : (if big then (putL x 0).reverse else putL x 0) = [] := by cases big <;> rfl
  rw [e] at h
  exact h
theorem refalign_tells (x n : Int) (hx : u64B x) : drawbridgeref01_Align.f x n = some (alignB x n) := by
  have hx0 := hx.1
  unfold drawbridgeref01_Align.f
  by_cases h1 : n = 1
  · subst h1; rw [if_pos rfl, show IntKind.u64.wrap 1 = 1 by decide +kernel, if_neg (by decide), Int.tmod_eq_emod_of_nonneg hx0]; rfl
  · by_cases h2 : n = 2
    · subst h2; rw [if_neg (by decide), if_pos rfl, show IntKind.u64.wrap 2 = 2 by decide +kernel, if_neg (by decide), Int.tmod_eq_emod_of_nonneg hx0]; rfl
    · by_cases h4 : n = 4
      · subst h4; rw [if_neg (by decide), if_neg (by decide), if_pos rfl, show IntKind.u64.wrap 4 = 4 by decide +kernel, if_neg (by decide), Int.tmod_eq_emod_of_nonneg hx0]; rfl
      · by_cases h8 : n = 8
        · subst h8; rw [if_neg (by decide), if_neg (by decide), if_neg (by decide), if_pos rfl, show IntKind.u64.wrap 8 = 8 by decide +kernel, if_neg (by decide), Int.tmod_eq_emod_of_nonneg hx0]; rfl
        · rw [if_neg h1, if_neg h2, if_neg h4, if_neg h8]
          simp [alignB, h1, h2, h4, h8]
end Go.Proofs.Ytnfonelhehobpaa.Q
