/- The reference's Put (layer 1): a number's bytes. -/
import Derived.Test.YtkkkmkjlchfafaaQx7
import Derived.Test.YtkkkmkjlchfafaaPm
import Derived.Test.YtkkkmkjlchfafaaSh
set_option linter.unusedVariables false
namespace Go.Proofs.Ytkkkmkjlchfafaa.Q
open Go.RowKit Go.Proofs.YtkkkmkjlchfafaaW.PrintWords Go.Proofs.YtkkkmkjlchfafaaW.PrintLast Go.Proofs.YtkkkmkjlchfafaaW.PrintMore Go.Proofs.Ytkkkmkjlchfafaa.L
theorem refput_loop (x : Int) (n : Int) (big : Bool) (hn : -9223372036854775808 ≤ n ∧ n ≤ 9223372036854775807) (d : Nat) : ∀ (k i : Nat), i ≤ putN n → putN n - i = d → 2 * d + 2 ≤ k →
    drawbridgeref01_Put.l0 k x n big (if big then (putL x i).reverse else putL x i) (i : Int) = some (putB x n big) := by
  have hN : (putN n : Int) = if n ≤ 0 then 0 else if 8 < n then 8 else n := by unfold putN; (repeat' split) <;> omega
  induction d with
  | zero =>
    intro k i hi hd hk
    obtain ⟨k, rfl⟩ : ∃ m, k = m + 2 := ⟨k - 2, by omega⟩
    have e : i = putN n := by omega
    simp only [drawbridgeref01_Put.l0, drawbridgeref01_Put.j1]
    have hx8 : (i : Int) < n → decide ((i : Int) < 8) = false := fun h => decide_eq_false (by split at hN <;> (try split at hN) <;> omega)
    by_cases hlt : (i : Int) < n
    · rw [if_pos hlt, hx8 hlt, if_neg (by decide), e]; rfl
    · rw [if_neg hlt, if_neg (by decide), e]; rfl
  | succ d ih =>
    intro k i hi hd hk
    obtain ⟨k, rfl⟩ : ∃ m, k = m + 2 := ⟨k - 2, by omega⟩
    have hlt : (i : Int) < n := by split at hN <;> (try split at hN) <;> omega
    have h8 : (i : Int) < 8 := by have := putN_le n; omega
    simp only [drawbridgeref01_Put.l0, drawbridgeref01_Put.j1]
    rw [if_pos hlt, decide_eq_true h8, if_pos rfl]
    have e8 : wrap64 (8 * (i : Int)) = ((8 * i : Nat) : Int) := by rw [w64 (by omega) (by omega)]; omega
    have ei : wrap64 ((i : Int) + 1) = ((i + 1 : Nat) : Int) := by rw [w64 (by omega) (by omega)]; omega
    rw [e8, u64_i64 (by omega) (by omega), if_pos (by omega), shr_u64 _ _ (by omega), ei]
    have es : putL x (i + 1) = putL x i ++ [x / 2 ^ (8 * i) % 256] := by
      unfold putL; rw [List.range_succ, List.map_append]; rfl
    have hl : (putL x i).length = i := putL_length x i
    have := ih k (i + 1) (by omega) (by omega) (by omega)
    cases big
    · simp only [Bool.false_eq_true, if_false] at this ⊢
      rw [hl, if_pos (by omega), ← es]
      exact this
    · simp only [if_true, Option.bind_some] at this ⊢
      rw [List.length_reverse, hl, if_pos (by simp; omega)]
      have er : [x / 2 ^ (8 * i) % 256] ++ (putL x i).reverse = (putL x (i + 1)).reverse := by rw [es, List.reverse_append]; rfl
      rw [er]
      exact this
theorem refput_tells (k : Nat) (hk : 18 ≤ k) (x n : Int) (big : Bool) (hn : -9223372036854775808 ≤ n ∧ n ≤ 9223372036854775807) : drawbridgeref01_Put.f k x n big = some (putB x n big) := by
  unfold drawbridgeref01_Put.f
  have h := refput_loop x n big hn (putN n) k 0 (Nat.zero_le _) (by omega) (by have := putN_le n; omega)
  have e : (if big then (putL x 0).reverse else putL x 0) = [] := by cases big <;> rfl
  rw [e] at h
  exact h
end Go.Proofs.Ytkkkmkjlchfafaa.Q
