import Derived.Test.YtnlmndpdalgppaaHEtrap
import Derived.Test.YtnlmndpdalgppaaHEpend
import Derived.Test.YtnlmndpdalgppaaTb
import Derived.Test.YtnlmndpdalgppaaWf
import Derived.Test.YtnlmndpdalgppaaQx1
/- Layer 6, plain facts: registers, their bits, and the document's answer. -/
set_option linter.unusedVariables false
set_option linter.unusedSimpArgs false
namespace Go.Proofs.Ytnlmndpdalgppaa.Q
open Go.RowKit Go.Proofs.YtnlmndpdalgppaaW.PrintWords Go.Proofs.YtnlmndpdalgppaaW.PrintLast Go.Proofs.YtnlmndpdalgppaaW.PrintMore Go.Proofs.Ytnlmndpdalgppaa.L
theorem B01 {b : Int} (h : b = 0 ∨ b = 1) : u64B b := by rcases h with rfl | rfl <;> exact ⟨by decide, by decide⟩
theorem B_0 : u64B 0 := ⟨by decide, by decide⟩
theorem B_1 : u64B 1 := ⟨by decide, by decide⟩
theorem and1 (b : Int) (hb : u64B b) : Go.bits .and .u64 b 1 = b % 2 := by
  have := and_mod b 1 hb (by decide) 1 (by decide)
  simpa using this
theorem setZ_eq (x : Int) (n : Nat) (b : Int) (hb : u64B b) (hn : n < 64) : setZ x n b = Go.bits .or .u64 (Go.bits .andNot .u64 x (2 ^ n)) (if b % 2 = 1 then 2 ^ n else 0) := by
  unfold setZ
  have h0 := hb.1
  rw [Nat.min_eq_left (by omega), wrap_id (pow_B hn), and1 b hb]
  congr 1
  have h2 : b % 2 = 0 ∨ b % 2 = 1 := by omega
  rcases h2 with h | h
  · rw [h, if_neg (by decide), Int.zero_mul]; rfl
  · rw [h, if_pos rfl, Int.one_mul, wrap_id (pow_B hn)]
theorem setZ_B (x : Int) (n : Nat) (b : Int) (hx : u64B x) (hb : u64B b) (hn : n < 64) : u64B (setZ x n b) := by
  rw [setZ_eq x n b hb hn]
  refine or_B (andNot_B hx (pow_B hn)) ?_
  split
  · exact pow_B hn
  · exact B_0
theorem tb_setZ (x : Int) (n : Nat) (b : Int) (hx : u64B x) (hb : u64B b) (hn : n < 64) (i : Nat) : tb (setZ x n b) i = if n = i then decide (b % 2 = 1) else tb x i := by
  rw [setZ_eq x n b hb hn]
  have hB : u64B (if b % 2 = 1 then (2 : Int) ^ n else 0) := by
    split
    · exact pow_B hn
    · exact B_0
  rw [tb_or (andNot_B hx (pow_B hn)) hB, tb_andNot hx (pow_B hn), tb_pow]
  by_cases hi : n = i
  · rw [if_pos hi, decide_eq_true hi]
    subst hi
    split
    · rename_i h; rw [tb_pow, decide_eq_true h]; simp
    · rename_i h; rw [tb_zero, decide_eq_false h]; simp
  · rw [if_neg hi, decide_eq_false hi]
    split
    · rw [tb_pow, decide_eq_false hi]; simp
    · rw [tb_zero]; simp
theorem setZ_odd (x : Int) (n : Nat) (b c : Int) (hb : u64B b) (hc : u64B c) (hn : n < 64) (h : b % 2 = c % 2) : setZ x n b = setZ x n c := by rw [setZ_eq x n b hb hn, setZ_eq x n c hc hn, h]
theorem bitZ_is (x : Int) (n : Nat) (z : Int) (hx : u64B x) (hz : z = n) (hn : n < 64) : bitZ x z = if tb x n = true then 1 else 0 := by
  unfold bitZ; rw [shr_lit x n z hz hn]; exact bit_one x n hx hn
theorem bitZ_01 (x : Int) (n : Nat) (z : Int) (hx : u64B x) (hz : z = n) (hn : n < 64) : bitZ x z = 0 ∨ bitZ x z = 1 := by
  rw [bitZ_is x n z hx hz hn]; split
  · exact .inr rfl
  · exact .inl rfl
theorem bitZ_B (x : Int) (n : Nat) (z : Int) (hx : u64B x) (hz : z = n) (hn : n < 64) : u64B (bitZ x z) := B01 (bitZ_01 x n z hx hz hn)
theorem bitZ_odd (x : Int) (n : Nat) (z : Int) (hx : u64B x) (hz : z = n) (hn : n < 64) : decide (bitZ x z % 2 = 1) = tb x n := by
  rw [bitZ_is x n z hx hz hn]; cases tb x n <;> decide
/-! ### the document's answer -/
theorem refbit_is (x : Int) (n : Nat) (z : Int) (hx : u64B x) (hz : z = n) (hn : n < 64) : drawbridgeref06_bit.f x z = some (bitZ x z) := by
  unfold drawbridgeref06_bit.f
  have hw : IntKind.u64.wrap z = z := by rw [IntKind.wrap_u64]; omega
  rw [hw, if_pos (by omega)]
  unfold bitZ
  rw [shr_lit x n z hz hn, and1 _ (div_B x n hx), tmod_pos _ _ (div_B x n hx).1]
theorem refwith_is (x : Int) (n : Nat) (z b : Int) (hx : u64B x) (hb : b = 0 ∨ b = 1) (hz : z = n) (hn : n < 64) : drawbridgeref06_with.f x z b = some (setZ x n b) := by
  unfold drawbridgeref06_with.f
  have hw : IntKind.u64.wrap z = z := by rw [IntKind.wrap_u64]; omega
  rw [hw, if_pos (by omega), shl_lit _ n z hz hn, shl_lit _ n z hz hn, setZ_eq x n b (B01 hb) hn, Int.one_mul, wrap_id (pow_B hn)]
  congr 2
  rcases hb with rfl | rfl
  · rw [Int.zero_mul]; rfl
  · rw [Int.one_mul, wrap_id (pow_B hn)]; rfl
theorem refplace_is (vec code : Int) (irq : Bool) (hv : u64B vec) : drawbridgeref06_place.f vec code irq = some (placeZ vec code irq) := by
  unfold drawbridgeref06_place.f placeZ
  have hb : u64B (Go.bits .andNot .u64 vec 3) := andNot_B hv (by decide)
  rw [tmod_pos _ _ hv.1, and1 vec hv]
  cases irq
  · rw [if_neg (by decide), if_neg (by intro h; cases h.1), Int.add_zero, wrap_id hb]
  · rw [if_pos rfl]
    by_cases h : vec % 2 = 1
    · rw [if_pos h, if_pos ⟨rfl, h⟩]
    · rw [if_neg h, if_neg (fun h' => h h'.2), Int.add_zero, wrap_id hb]
theorem and3 (x : Int) (hx : u64B x) : Go.bits .and .u64 x 3 = x % 4 := by
  have := and_mod x 2 hx (by decide) 3 (by decide)
  simpa using this
theorem and63 (x : Int) (hx : u64B x) : Go.bits .and .u64 x 63 = x % 64 := by
  have := and_mod x 6 hx (by decide) 63 (by decide)
  simpa using this
theorem privZ_is (priv : Int) : privZ priv = (if IntKind.u64.wrap priv % 4 = 2 then 0 else IntKind.u64.wrap priv % 4) ∧ (privZ priv = 0 ∨ privZ priv = 1 ∨ privZ priv = 3) := by
  unfold privZ
  rw [and3 _ (wrap_B priv)]
  refine ⟨rfl, ?_⟩
  have h := (wrap_B priv).1
  split <;> omega
theorem tb_6144 : ∀ i, i < 64 → tb 6144 i = decide (i = 11 ∨ i = 12) := by decide +kernel
theorem refmpp_is (t p : Int) (ht : u64B t) (hp : p = 0 ∨ p = 1 ∨ p = 3) : Go.bits .or .u64 (Go.bits .andNot .u64 t 6144) (IntKind.u64.wrap (p * 2048)) = setZ (setZ t 11 p) 12 (p / 2) := by
  have h6 : u64B 6144 := by decide
  have hpB : u64B p := by rcases hp with rfl | rfl | rfl <;> decide
  have hp2 : u64B (p / 2) := by rcases hp with rfl | rfl | rfl <;> decide
  refine tb_ext (or_B (andNot_B ht h6) (wrap_B _)) (setZ_B _ 12 _ (setZ_B t 11 p ht hpB (by decide)) hp2 (by decide)) (fun i hi => ?_)
  rw [tb_or (andNot_B ht h6) (wrap_B _), tb_andNot ht h6, tb_6144 i hi, tb_setZ _ 12 _ (setZ_B t 11 p ht hpB (by decide)) hp2 (by decide), tb_setZ t 11 p ht hpB (by decide)]
  have hw : tb (IntKind.u64.wrap (p * 2048)) i = ((decide (i = 11) && decide (p % 2 = 1)) || (decide (i = 12) && decide (p / 2 % 2 = 1))) := by
    revert i
    rcases hp with rfl | rfl | rfl <;> decide +kernel
  rw [hw]
  by_cases h12 : 12 = i
  · subst h12; simp
  · rw [if_neg h12]
    by_cases h11 : 11 = i
    · subst h11; simp
    · rw [if_neg h11, decide_eq_false (show ¬ i = 11 by omega), decide_eq_false (show ¬ i = 12 by omega), decide_eq_false (by omega)]; simp
theorem clr_mpp (t : Int) (ht : u64B t) : Go.bits .andNot .u64 t 6144 = setZ (setZ t 11 0) 12 0 := by
  have h := refmpp_is t 0 ht (.inl rfl)
  have e : Go.bits .or .u64 (Go.bits .andNot .u64 t 6144) (IntKind.u64.wrap (0 * 2048)) = Go.bits .andNot .u64 t 6144 := by
    rw [show IntKind.u64.wrap (0 * 2048) = 0 by decide]
    refine tb_ext (or_B (andNot_B ht (by decide)) B_0) (andNot_B ht (by decide)) (fun i hi => ?_)
    rw [tb_or (andNot_B ht (by decide)) B_0, tb_zero, Bool.or_false]
  rw [e] at h; exact h
end Go.Proofs.Ytnlmndpdalgppaa.Q
