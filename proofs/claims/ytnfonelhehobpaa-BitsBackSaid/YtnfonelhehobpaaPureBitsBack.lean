/- BitsBack: written bytes are read as they were, either way round. No condition. -/
import Derived.Test.YtnfonelhehobpaaQx5
import Derived.Test.YtnfonelhehobpaaBh
set_option linter.unusedVariables false
namespace Go.Proofs.Ytnfonelhehobpaa.Pure
open Go.RowKit Go.Proofs.Ytnfonelhehobpaa.Q Go.Proofs.YtnfonelhehobpaaW.PrintWords Go.Proofs.YtnfonelhehobpaaW.PrintLast Go.Proofs.YtnfonelhehobpaaW.PrintMore Go.Proofs.Ytnfonelhehobpaa.L

theorem getLE_putL (x : Int) (hx : 0 ≤ x) : ∀ n, getLE (putL x n) = x % 256 ^ n
  | 0 => by simp [putL, getLE]
  | n + 1 => by
    have es : putL x (n + 1) = putL x n ++ [x / 2 ^ (8 * n) % 256] := by
      unfold putL; rw [List.range_succ, List.map_append]; rfl
    rw [es, getLE_snoc, getLE_putL x hx n, putL_length, ← pow8]
    have hp : (0 : Int) < 256 ^ n := Int.pow_pos (by decide)
    obtain ⟨X, rfl⟩ := Int.eq_ofNat_of_zero_le hx
    have h := Nat.mod_mul (x := X) (a := 256 ^ n) (b := 256)
    have e : (256 : Int) ^ (n + 1) = ((256 ^ n * 256 : Nat) : Int) := by rw [Int.pow_succ]; simp
    have e2 : ((256 : Nat) : Int) ^ n = ((256 ^ n : Nat) : Int) := by simp
    rw [e, ← Int.natCast_emod, h]
    simp [Int.mul_comm]
theorem putB_len (x n : Int) (big : Bool) : (putB x n big).length = putN n := by
  unfold putB; cases big <;> simp [putL_length]
theorem get_put (x n : Int) (hx : 0 ≤ x) (big : Bool) : getB (putB x n big) big = x % 256 ^ putN n := by
  have h8 := putN_le n
  unfold getB
  rw [List.take_of_length_le (by rw [putB_len]; exact h8)]
  unfold putB
  cases big
  · exact getLE_putL x hx _
  · simp only [if_true, List.reverse_reverse]; exact getLE_putL x hx _
theorem putB_byte (x n : Int) (big : Bool) : ∀ b ∈ putB x n big, byte b := by
  intro b hb
  unfold putB at hb
  cases big
  · exact putL_byte _ _ b hb
  · exact putL_byte _ _ b (List.mem_reverse.1 hb)
theorem putB_rev (x n : Int) (big : Bool) : putB x n (!big) = (putB x n big).reverse := by
  unfold putB; cases big <;> simp
theorem back_loop (x n : Int) (big : Bool) (want : Int) (hn0 : 0 ≤ n) (hn8 : n ≤ 8) (hw : getB (putB x n big) big = want) (d : Nat) : ∀ (k i : Nat), i ≤ putN n → putN n - i = d → d < k →
    drawbridgelaw01_BitsBack.l0 k n big (putB x n big) want (putB x n (!big)) (i : Int) = some true := by
  have hN : (putN n : Int) = n := by unfold putN; (repeat' split) <;> omega
  induction d with
  | zero =>
    intro k i hi hd hk
    obtain ⟨k, rfl⟩ : ∃ m, k = m + 1 := ⟨k - 1, by omega⟩
    simp only [drawbridgelaw01_BitsBack.l0]
    rw [if_neg (by rw [putB_len]; omega), if_pos (by rw [putB_len]; omega), show bits_Get.f (putB x n big) big = some (getB (putB x n big) big) from if_pos (fun z hz => putB_byte x n big z (List.mem_of_mem_take hz)), hw]
    simp only [Option.bind_some, if_true]
    rw [heads01]; rfl
  | succ d ih =>
    intro k i hi hd hk
    obtain ⟨k, rfl⟩ : ∃ m, k = m + 1 := ⟨k - 1, by omega⟩
    have := ih k (i + 1) (by omega) (by omega) (by omega)
    have h8 := putN_le n
    have hl1 := putB_len x n big
    have hl2 := putB_len x n (!big)
    simp only [drawbridgelaw01_BitsBack.l0]
    rw [hl1, hl2, if_pos (by omega), if_pos rfl, if_pos (by omega), w64 (x := (putN n : Int) - 1) (by omega) (by omega), w64 (x := (putN n : Int) - 1 - i) (by omega) (by omega), if_pos (by omega), if_pos (by omega)]
    have ee : rd (putB x n big) (i : Int) = rd (putB x n (!big)) ((putN n : Int) - 1 - i) := by
      unfold rd
      rw [Int.toNat_natCast, show ((putN n : Int) - 1 - i).toNat = putN n - 1 - i by omega, putB_rev, ← get_getD _ _ (by omega), ← get_getD _ _ (by rw [List.length_reverse]; omega), List.getElem_reverse]
      congr 1
      omega
    rw [if_pos ee, w64 (x := (i : Int) + 1) (by omega) (by omega)]
    exact this
theorem BitsBack : drawbridgelaw01_BitsBack.Pure := by
  intro x c big w0 w1
  have hx := wf_u64 w0
  have hc := bounds_i64 w1
  refine ⟨20, ?_⟩
  have hh := heads01
  have hlen := putB_len x c big
  unfold drawbridgelaw01_BitsBack.f
  rw [show bits_Put.f x c big = some (putB x c big) from rfl]
  simp only [Option.bind_some]
  have hout : (c < 0 ∨ 8 < c) → drawbridgelaw01_BitsBack.j0 20 x c big (putB x c big) true = some true := fun h => by
    simp only [drawbridgelaw01_BitsBack.j0]
    rw [if_pos trivial, if_pos (by rw [hlen]; unfold putN mx mn; (repeat' split) <;> omega), hh]; rfl
  by_cases h1 : c < 0
  · rw [if_pos h1]; exact hout (.inl h1)
  · by_cases h2 : c > 8
    · rw [if_neg h1, decide_eq_true h2]; exact hout (.inr h2)
    · rw [if_neg h1, decide_eq_false h2]
      have hN : (putN c : Int) = c := by unfold putN; (repeat' split) <;> omega
      have hput : bits_Put.f x c (!big) = some (putB x c (!big)) := rfl
      simp only [drawbridgelaw01_BitsBack.j0, drawbridgelaw01_BitsBack.j1]
      rw [if_neg (by decide), hput]
      simp only [Option.bind_some]
      by_cases h3 : c < 8
      · obtain ⟨n, rfl⟩ := Int.eq_ofNat_of_zero_le (show 0 ≤ c by omega)
        have e8 : wrap64 (8 * (n : Int)) = ((8 * n : Nat) : Int) := by rw [w64 (by omega) (by omega)]; omega
        have hp := two_pow_pos (8 * n)
        have hl := two_pow_lt64 (n := 8 * n) (by omega)
        rw [if_pos h3, e8, u64_i64 (by omega) (by omega), if_pos (by omega), shl_u64 _ _ (by omega), Int.one_mul, Int.emod_eq_of_lt (a := (2 : Int) ^ (8 * n)) (by omega) (by omega), if_neg (by omega), Int.tmod_eq_emod_of_nonneg hx.1]
        refine back_loop x n big _ (by omega) (by omega) ?_ (putN n) 18 0 (Nat.zero_le _) (by omega) (by have := putN_le (n : Int); omega)
        rw [get_put x n hx.1, pow8, show putN (n : Int) = n by omega]
      · have h8 : c = 8 := by omega
        subst h8
        rw [if_neg h3]
        refine back_loop x 8 big _ (by omega) (by omega) ?_ (putN 8) 18 0 (Nat.zero_le _) (by omega) (by decide)
        rw [get_put x 8 hx.1, show putN 8 = 8 by decide, show (256 : Int) ^ 8 = 18446744073709551616 by decide]
        exact Int.emod_eq_of_lt hx.1 hx.2
end Go.Proofs.Ytnfonelhehobpaa.Pure
