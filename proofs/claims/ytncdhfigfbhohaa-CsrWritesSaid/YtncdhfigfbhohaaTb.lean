/- The bits of whole numbers from 0 to 2^64 - 1. -/
import Derived.Test.YtncdhfigfbhohaaPm
import Derived.Test.YtncdhfigfbhohaaWMore
import Derived.Test.YtncdhfigfbhohaaWLast
import Derived.Test.YtncdhfigfbhohaaWWords
import Derived.Laws.BitsAllLaws
set_option linter.unusedVariables false
set_option linter.unusedSimpArgs false
namespace Go.Proofs.Ytncdhfigfbhohaa.L
open Go.RowKit Go.Proofs.YtncdhfigfbhohaaW.PrintWords Go.Proofs.YtncdhfigfbhohaaW.PrintLast Go.Proofs.YtncdhfigfbhohaaW.PrintMore
def tb (x : Int) (i : Nat) : Bool := x.toNat.testBit i
theorem B_nat {x : Int} (h : u64B x) : ∃ X : Nat, x = (X : Int) ∧ X < 18446744073709551616 := ⟨x.toNat, by have := h.1; omega, by have := h.1; have := h.2; omega⟩
theorem nat_B {X : Nat} (h : X < 18446744073709551616) : u64B (X : Int) := ⟨by omega, by omega⟩
theorem tb_nat (X i : Nat) : tb (X : Int) i = X.testBit i := by unfold tb; rw [Int.toNat_natCast]
theorem tb_high {x : Int} (hx : u64B x) {i : Nat} (hi : 64 ≤ i) : tb x i = false := by
  obtain ⟨X, rfl, hX⟩ := B_nat hx
  rw [tb_nat]
  exact Nat.testBit_lt_two_pow (Nat.lt_of_lt_of_le hX (by have := Nat.pow_le_pow_right (show 0 < 2 by decide) hi; simpa using this))
theorem tb_ext {x y : Int} (hx : u64B x) (hy : u64B y) (h : ∀ i, i < 64 → tb x i = tb y i) : x = y := by
  have h' : ∀ i, tb x i = tb y i := fun i => by
    rcases Nat.lt_or_ge i 64 with h1 | h1
    · exact h i h1
    · rw [tb_high hx h1, tb_high hy h1]
  obtain ⟨X, rfl, hX⟩ := B_nat hx
  obtain ⟨Y, rfl, hY⟩ := B_nat hy
  congr 1
  apply Nat.eq_of_testBit_eq
  intro i
  have := h' i
  rwa [tb_nat, tb_nat] at this
section
variable {x y : Int} (hx : u64B x) (hy : u64B y)
include hx hy
theorem and_B : u64B (Go.bits .and .u64 x y) := by
  obtain ⟨X, rfl, hX⟩ := B_nat hx
  obtain ⟨Y, rfl, hY⟩ := B_nat hy
  rw [u64_and_nat X Y hX hY]
  exact nat_B (Nat.lt_of_le_of_lt Nat.and_le_left hX)
theorem or_B : u64B (Go.bits .or .u64 x y) := by
  obtain ⟨X, rfl, hX⟩ := B_nat hx
  obtain ⟨Y, rfl, hY⟩ := B_nat hy
  rw [u64_or_nat X Y hX hY]
  exact nat_B (Nat.or_lt_two_pow (n := 64) hX hY)
theorem xor_B : u64B (Go.bits .xor .u64 x y) := by
  obtain ⟨X, rfl, hX⟩ := B_nat hx
  obtain ⟨Y, rfl, hY⟩ := B_nat hy
  rw [u64_xor_nat X Y hX hY]
  exact nat_B (Nat.xor_lt_two_pow (n := 64) hX hY)
theorem andNot_B : u64B (Go.bits .andNot .u64 x y) := by
  obtain ⟨X, rfl, hX⟩ := B_nat hx
  obtain ⟨Y, rfl, hY⟩ := B_nat hy
  rw [u64_andNot_nat X Y hX hY]
  exact nat_B (Nat.lt_of_le_of_lt Nat.and_le_left hX)
theorem tb_and (i : Nat) : tb (Go.bits .and .u64 x y) i = (tb x i && tb y i) := by
  obtain ⟨X, rfl, hX⟩ := B_nat hx
  obtain ⟨Y, rfl, hY⟩ := B_nat hy
  rw [u64_and_nat X Y hX hY, tb_nat, tb_nat, tb_nat, Nat.testBit_and]
theorem tb_or (i : Nat) : tb (Go.bits .or .u64 x y) i = (tb x i || tb y i) := by
  obtain ⟨X, rfl, hX⟩ := B_nat hx
  obtain ⟨Y, rfl, hY⟩ := B_nat hy
  rw [u64_or_nat X Y hX hY, tb_nat, tb_nat, tb_nat, Nat.testBit_or]
theorem tb_xor (i : Nat) : tb (Go.bits .xor .u64 x y) i = (tb x i != tb y i) := by
  obtain ⟨X, rfl, hX⟩ := B_nat hx
  obtain ⟨Y, rfl, hY⟩ := B_nat hy
  rw [u64_xor_nat X Y hX hY, tb_nat, tb_nat, tb_nat, Nat.testBit_xor]
theorem tb_andNot (i : Nat) : tb (Go.bits .andNot .u64 x y) i = (tb x i && !tb y i) := by
  obtain ⟨X, rfl, hX⟩ := B_nat hx
  obtain ⟨Y, rfl, hY⟩ := B_nat hy
  rw [u64_andNot_nat X Y hX hY, tb_nat, tb_nat, tb_nat, Nat.testBit_and]
  rcases Nat.lt_or_ge i 64 with h1 | h1
  · congr 1
    rw [show 18446744073709551615 - Y = 2 ^ 64 - (Y + 1) by omega, Nat.testBit_two_pow_sub_succ hY]
    simp [h1]
  · have := tb_high hx h1
    rw [tb_nat] at this
    rw [this]; rfl
end
theorem tb_zero (i : Nat) : tb 0 i = false := by unfold tb; simp
theorem pow_B {n : Nat} (hn : n < 64) : u64B (2 ^ n) := by
  have h1 := two_pow_lt64 (n := n) (by omega)
  have h2 := two_pow_pos n
  exact ⟨by omega, by omega⟩
theorem tb_pow (n i : Nat) : tb (2 ^ n) i = decide (n = i) := by
  rw [show (2 : Int) ^ n = ((2 ^ n : Nat) : Int) by rw [Int.natCast_pow]; rfl, tb_nat, Nat.testBit_two_pow]
theorem wrap_B (x : Int) : u64B (IntKind.u64.wrap x) := by rw [IntKind.wrap_u64]; exact ⟨by omega, by omega⟩
theorem wrap_id {x : Int} (h : u64B x) : IntKind.u64.wrap x = x := by rw [IntKind.wrap_u64]; have := h.1; have := h.2; omega
theorem and_mod (x : Int) (k : Nat) (hx : u64B x) (hk : k < 64) (m : Int) (hm : m = 2 ^ k - 1) : Go.bits .and .u64 x m = x % 2 ^ k := by
  obtain ⟨X, rfl, hX⟩ := B_nat hx
  have hp : 2 ^ k ≤ 9223372036854775808 := by have := Nat.pow_le_pow_right (show 0 < 2 by decide) (show k ≤ 63 by omega); simpa using this
  have hp1 : 1 ≤ 2 ^ k := Nat.one_le_two_pow
  have : (m : Int) = ((2 ^ k - 1 : Nat) : Int) := by
    rw [hm, Int.natCast_sub hp1, Int.natCast_pow]; rfl
  rw [this, u64_and_nat X _ hX (by omega), Nat.and_two_pow_sub_one_eq_mod, Int.natCast_emod, Int.natCast_pow]
  rfl
/-- A mask of one bit. -/
theorem and_bit (x : Int) (n : Nat) (hx : u64B x) (hn : n < 64) (m : Int) (hm : m = 2 ^ n) : Go.bits .and .u64 x m = if tb x n = true then 2 ^ n else 0 := by
  subst hm
  refine tb_ext (and_B hx (pow_B hn)) ?_ (fun i _ => ?_)
  · split
    · exact pow_B hn
    · exact ⟨by decide, by decide⟩
  · rw [tb_and hx (pow_B hn), tb_pow]
    by_cases h : n = i
    · subst h
      cases hb : tb x n
      · simp [tb_zero]
      · simp [tb_pow]
    · rw [decide_eq_false h, Bool.and_false]
      split
      · rw [tb_pow, decide_eq_false h]
      · rw [tb_zero]
theorem bit_one (x : Int) (n : Nat) (hx : u64B x) (hn : n < 64) : Go.bits .and .u64 (x / 2 ^ n) 1 = if tb x n = true then 1 else 0 := by
  obtain ⟨X, rfl, hX⟩ := B_nat hx
  have e : (X : Int) / 2 ^ n = ((X / 2 ^ n : Nat) : Int) := by rw [Int.natCast_ediv, Int.natCast_pow]; rfl
  have hd : X / 2 ^ n < 18446744073709551616 := Nat.lt_of_le_of_lt (Nat.div_le_self _ _) hX
  rw [e, show (1 : Int) = ((1 : Nat) : Int) from rfl, u64_and_nat _ 1 hd (by decide), tb_nat, Nat.testBit_eq_decide_div_mod_eq, Nat.and_one_is_mod]
  have := Nat.mod_two_eq_zero_or_one (X / 2 ^ n)
  rcases this with h | h <;> simp [h]
theorem shr_lit (x : Int) (n : Nat) (z : Int) (hz : z = n) (hn : n < 64) : shr .u64 x z = x / 2 ^ n := by
  subst hz; unfold shr; rw [Int.toNat_natCast, Nat.min_eq_left (by show n ≤ 64; omega)]
theorem shl_lit (x : Int) (n : Nat) (z : Int) (hz : z = n) (hn : n < 64) : shl .u64 x z = IntKind.u64.wrap (x * 2 ^ n) := by
  subst hz; unfold shl; rw [Int.toNat_natCast, Nat.min_eq_left (by show n ≤ 64; omega)]
theorem div_tb (x : Int) (n i : Nat) (hx : u64B x) : tb (x / 2 ^ n) i = tb x (n + i) := by
  obtain ⟨X, rfl, hX⟩ := B_nat hx
  have e : (X : Int) / 2 ^ n = ((X / 2 ^ n : Nat) : Int) := by rw [Int.natCast_ediv, Int.natCast_pow]; rfl
  rw [e, tb_nat, tb_nat, Nat.testBit_div_two_pow, Nat.add_comm]
theorem div_B (x : Int) (n : Nat) (hx : u64B x) : u64B (x / 2 ^ n) := by
  obtain ⟨X, rfl, hX⟩ := B_nat hx
  have e : (X : Int) / 2 ^ n = ((X / 2 ^ n : Nat) : Int) := by rw [Int.natCast_ediv, Int.natCast_pow]; rfl
  rw [e]; exact nat_B (Nat.lt_of_le_of_lt (Nat.div_le_self _ _) hX)
theorem tmod_pos (x m : Int) (h : 0 ≤ x) : Int.tmod x m = x % m := Int.tmod_eq_emod_of_nonneg h
end Go.Proofs.Ytncdhfigfbhohaa.L
