/- AluReckons, in plain numbers. -/
import Derived.Test.YtielecanhammbaaQx6
import Derived.Test.YtielecanhammbaaBa
import Derived.Test.YtielecanhammbaaBb
import Derived.Test.YtielecanhammbaaPureAluHigh
import Derived.Test.YtielecanhammbaaPureAluDivides
import Derived.Test.YtielecanhammbaaPureAluWords
namespace Go.Proofs.Ytielecanhammbaa.Pure
open Go.RowKit Go.Proofs.Ytielecanhammbaa.Q Go.Proofs.Ytielecanhammbaa.L Go.Proofs.YtielecanhammbaaW.PrintWords Go.Proofs.YtielecanhammbaaW.PrintLast Go.Proofs.YtielecanhammbaaW.PrintMore
set_option linter.unusedVariables false
set_option linter.unusedSimpArgs false
theorem xor_top (a : Int) (ha : u64B a) : Go.bits .xor .u64 a 9223372036854775808 = if a < 9223372036854775808 then a + 9223372036854775808 else a - 9223372036854775808 := by
  obtain ⟨a0, a1⟩ := ha
  obtain ⟨A, rfl⟩ := Int.eq_ofNat_of_zero_le a0
  rw [u64_xor _ _ (by omega) a1 (by decide) (by decide), Int.toNat_natCast, show (9223372036854775808 : Int).toNat = 2 ^ 63 by decide]
  have hdiv : (A ^^^ 2 ^ 63) / 2 ^ 63 = (A / 2 ^ 63) ^^^ (2 ^ 63 / 2 ^ 63) := by rw [Nat.xor_div_two_pow]
  have hmod : (A ^^^ 2 ^ 63) % 2 ^ 63 = (A % 2 ^ 63) ^^^ (2 ^ 63 % 2 ^ 63) := by rw [Nat.xor_mod_two_pow]
  rw [Nat.mod_self, Nat.xor_zero] at hmod
  rw [Nat.div_self (by decide)] at hdiv
  have hq : A / 2 ^ 63 = 0 ∨ A / 2 ^ 63 = 1 := by omega
  rcases hq with hq | hq
  · rw [hq, show (0 ^^^ 1 : Nat) = 1 by decide] at hdiv
    split <;> omega
  · rw [hq, show (1 ^^^ 1 : Nat) = 0 by decide] at hdiv
    split <;> omega
theorem less_is (a b : Int) (ha : u64B a) (hb : u64B b) : drawbridgeref04_Less.f a b = some (decide (wrap64 a < wrap64 b)) := by
  unfold drawbridgeref04_Less.f
  rw [xor_top a ha, xor_top b hb, wrap64_cases a ha, wrap64_cases b hb]
  obtain ⟨a0, a1⟩ := ha
  obtain ⟨b0, b1⟩ := hb
  congr 1
  apply decide_eq_decide.2
  split <;> split <;> omega
theorem neg_is (a : Int) : drawbridgeref04_Neg.f a = some (decide (a ≥ 9223372036854775808)) := rfl
theorem cond_no (n : Nat) (f a b : Int) (h : f ≠ 0 ∧ f ≠ 1 ∧ f ≠ 4 ∧ f ≠ 5 ∧ f ≠ 6 ∧ f ≠ 7) : alu_Cond.f (n + 2) f a b = some false := by
  obtain ⟨h0, h1, h4, h5, h6, h7⟩ := h
  simp [alu_Cond.f, alu_Cond.j0, alu_Cond.j1, h0, h1, h4, h5, h6, h7]
theorem cond_same (n : Nat) (f a b : Int) (ha : u64B a) (hb : u64B b) : alu_Cond.f (n + 2) f a b = drawbridgeref04_Cond.f f a b := by
  unfold drawbridgeref04_Cond.f
  by_cases h0 : f = 0
  · subst h0; rw [cond0]; rfl
  by_cases h1 : f = 1
  · subst h1; rw [cond1]; rfl
  by_cases h4 : f = 4
  · subst h4; rw [cond4, less_is a b ha hb]; rfl
  by_cases h5 : f = 5
  · subst h5; rw [cond5, less_is a b ha hb]; rfl
  by_cases h6 : f = 6
  · subst h6; rw [cond6]; rfl
  by_cases h7 : f = 7
  · subst h7; rw [cond7]
    show some (!decide (a < b)) = some (decide (a ≥ b))
    congr 1
    by_cases h : a < b
    · rw [decide_eq_true h, decide_eq_false (by omega)]; rfl
    · rw [decide_eq_false h, decide_eq_true (by omega)]; rfl
  rw [cond_no n f a b ⟨h0, h1, h4, h5, h6, h7⟩, if_neg h0, if_neg h1, if_neg h4, if_neg h5, if_neg h6, if_neg h7]
theorem cond_some (n : Nat) (f a b : Int) (ha : u64B a) (hb : u64B b) : ∃ r, alu_Cond.f (n + 2) f a b = some r := by
  by_cases h0 : f = 0
  · subst h0; exact ⟨_, cond0 n a b⟩
  by_cases h1 : f = 1
  · subst h1; exact ⟨_, cond1 n a b⟩
  by_cases h4 : f = 4
  · subst h4; exact ⟨_, cond4 n a b⟩
  by_cases h5 : f = 5
  · subst h5; exact ⟨_, cond5 n a b⟩
  by_cases h6 : f = 6
  · subst h6; exact ⟨_, cond6 n a b⟩
  by_cases h7 : f = 7
  · subst h7; exact ⟨_, cond7 n a b⟩
  exact ⟨_, cond_no n f a b ⟨h0, h1, h4, h5, h6, h7⟩⟩
theorem sext_ext (x : Int) (hx : u64B x) : drawbridgeref01_Sext.f x 32 = alu_extend.f x := by
  unfold drawbridgeref01_Sext.f alu_extend.f
  rw [if_pos hx]
  obtain ⟨x0, x1⟩ := hx
  congr 1
  unfold sextZ
  rw [if_neg (by decide), if_neg (by decide), show (2 : Int) ^ (32 : Int).toNat = 4294967296 by decide, show (2 : Int) ^ ((32 : Int).toNat - 1) = 2147483648 by decide]
  rw [IntKind.wrap_u64]
  unfold wrap32
  split <;> omega
def amoW (word : Bool) (z : Int) : Option Int := if word = true then some (Int.tmod z 4294967296) else some z
theorem amo_core (n : Nat) (f x y : Int) (word : Bool) (hx : u64B x) (hy : u64B y) : ∃ z, alu_amo.f f x y = some z ∧ u64B z ∧ drawbridgeref04_Amo.j0 (n + 1) f word x y = amoW word z := by
  have sgx := sg_mod x
  have sgy := sg_mod y
  have bx : IntKind.u64.wrap (wrap64 x) = x := by obtain ⟨x0, x1⟩ := hx; rw [IntKind.wrap_u64]; omega
  have by_ : IntKind.u64.wrap (wrap64 y) = y := by obtain ⟨x0, x1⟩ := hy; rw [IntKind.wrap_u64]; omega
  unfold alu_amo.f amoW
  simp only [drawbridgeref04_Amo.j0]
  by_cases h0 : f = 0
  · rw [if_pos h0, if_pos h0]; exact ⟨_, rfl, u64_wrap _, rfl⟩
  rw [if_neg h0, if_neg h0]
  by_cases h1 : f = 1
  · rw [if_pos h1, if_pos h1]; exact ⟨_, rfl, hy, rfl⟩
  rw [if_neg h1, if_neg h1]
  by_cases h4 : f = 4
  · rw [if_pos h4, if_pos h4]; exact ⟨_, rfl, u64_bits .xor x y hx hy, rfl⟩
  rw [if_neg h4, if_neg h4]
  by_cases h8 : f = 8
  · rw [if_pos h8, if_pos h8]; exact ⟨_, rfl, u64_bits .or x y hx hy, rfl⟩
  rw [if_neg h8, if_neg h8]
  by_cases h12 : f = 12
  · rw [if_pos h12, if_pos h12]; exact ⟨_, rfl, u64_bits .and x y hx hy, rfl⟩
  rw [if_neg h12, if_neg h12]
  by_cases h16 : f = 16
  · rw [if_pos h16, if_pos h16, less_is y x hy hx]
    simp only [Option.bind_some]
    unfold mn
    by_cases h : wrap64 y < wrap64 x
    · rw [if_pos h, decide_eq_true h, by_]; exact ⟨_, rfl, hy, rfl⟩
    · rw [if_neg h, decide_eq_false h, bx]; exact ⟨_, rfl, hx, rfl⟩
  rw [if_neg h16, if_neg h16]
  by_cases h20 : f = 20
  · rw [if_pos h20, if_pos h20, less_is x y hx hy]
    simp only [Option.bind_some]
    unfold mx
    by_cases h : wrap64 x < wrap64 y
    · rw [if_pos h, decide_eq_true h, by_]; exact ⟨_, rfl, hy, rfl⟩
    · rw [if_neg h, decide_eq_false h, bx]; exact ⟨_, rfl, hx, rfl⟩
  rw [if_neg h20, if_neg h20]
  by_cases h24 : f = 24
  · rw [if_pos h24, if_pos h24]
    unfold mn
    by_cases h : y < x
    · rw [if_pos h, if_pos h]; exact ⟨_, rfl, hy, rfl⟩
    · rw [if_neg h, if_neg h]; exact ⟨_, rfl, hx, rfl⟩
  rw [if_neg h24, if_neg h24]
  by_cases h28 : f = 28
  · rw [if_pos h28, if_pos h28]
    unfold mx
    by_cases h : x < y
    · rw [if_pos h, if_pos h]; exact ⟨_, rfl, hy, rfl⟩
    · rw [if_neg h, if_neg h]; exact ⟨_, rfl, hx, rfl⟩
  rw [if_neg h28, if_neg h28]
  exact ⟨_, rfl, hx, rfl⟩
theorem amo_same (n : Nat) (f a b : Int) (word : Bool) (ha : u64B a) (hb : u64B b) : ∃ r, alu_Amo.f f word a b = some r ∧ drawbridgeref04_Amo.f (n + 1) f word a b = some r := by
  unfold alu_Amo.f drawbridgeref04_Amo.f
  cases word
  · obtain ⟨z, e1, _, e2⟩ := amo_core n f a b false ha hb
    exact ⟨z, by rw [if_neg (by decide), e1]; rfl, by rw [if_neg (by decide), e2]; rfl⟩
  · obtain ⟨x, hx, _, ux⟩ := ext_word a
    obtain ⟨y, hy, _, uy⟩ := ext_word b
    obtain ⟨z, e1, uz, e2⟩ := amo_core n f x y true ux uy
    rw [if_pos rfl, if_pos rfl, sext_ext a ha, sext_ext b hb, hx, hy]
    simp only [Option.bind_some]
    rw [e1, e2]
    refine ⟨z % 4294967296, rfl, ?_⟩
    unfold amoW
    rw [if_pos rfl, Int.tmod_eq_emod_of_nonneg uz.1]
theorem ww (x : Int) : IntKind.u64.wrap (wrap64 x) = IntKind.u64.wrap x := by rw [IntKind.wrap_u64, IntKind.wrap_u64]; exact sg_mod x
theorem sra_is (a : Int) (n : Nat) (ha : u64B a) (hn : n ≤ 63) : drawbridgeref04_sra.f a n = some (IntKind.u64.wrap (wrap64 a / 2 ^ n)) := by
  unfold drawbridgeref04_sra.f
  rw [if_pos (by omega), neg_is, shr_in _ _ (by omega)]
  have hc := wrap64_cases a ha
  have hd := u64_div a n ha
  obtain ⟨d0, d1⟩ := hd
  simp only [Option.bind_some]
  by_cases h : a ≥ 9223372036854775808
  · rw [decide_eq_true h, if_pos rfl]
    rw [if_neg (by omega)] at hc
    by_cases hz : (n : Int) > 0
    · have hm : ((64 - n : Nat) : Int) = 64 - (n : Int) := by omega
      have w : IntKind.u64.wrap (64 - (n : Int)) = ((64 - n : Nat) : Int) := by rw [IntKind.wrap_u64]; omega
      have hp := two_pow_pos n
      have hq := two_pow_pos (64 - n)
      have e : (18446744073709551616 : Int) = 2 ^ (64 - n) * 2 ^ n := by
        rw [← Int.pow_add, Nat.sub_add_cancel (by omega)]; decide
      have hlt : a / 2 ^ n < 2 ^ (64 - n) := by
        apply (Int.ediv_lt_iff_lt_mul hp).2
        rw [← e]; exact ha.2
      have hone : (1 : Int) ≤ 2 ^ n := hp
      have hle : (2 : Int) ^ (64 - n) ≤ 9223372036854775808 := two_pow_lt64 (by omega)
      have hs : shl .u64 18446744073709551615 ((64 - n : Nat) : Int) = (2 ^ n - 1) * 2 ^ (64 - n) := by
        rw [shl_in _ _ (by omega), Int.sub_mul, Int.mul_comm (2 ^ n), ← e, Int.one_mul, IntKind.wrap_u64, show (18446744073709551615 : Int) = 18446744073709551616 - 1 by decide, Int.sub_mul, Int.one_mul]
        omega
      have hv : wrap64 a / 2 ^ n = a / 2 ^ n + -2 ^ (64 - n) := by
        rw [hc, ← Int.add_mul_ediv_right _ _ (Int.ne_of_gt hp)]
        congr 1
        rw [Int.neg_mul, ← e]; omega
      have hk : (2 ^ n - 1) * 2 ^ (64 - n) = 18446744073709551616 - (2 : Int) ^ (64 - n) := by
        rw [Int.sub_mul, Int.mul_comm (2 ^ n), ← e, Int.one_mul]
      rw [if_pos hz, w, if_pos (by omega), hs, u64_or_add _ _ _ d0 hlt (by omega) (by rw [hk]; omega), hk, hv, IntKind.wrap_u64]
      congr 1
      omega
    · rw [if_neg hz]
      obtain rfl : n = 0 := by omega
      rw [hc]
      have h1 : (2 : Int) ^ 0 = 1 := rfl
      rw [h1, Int.ediv_one, Int.ediv_one, IntKind.wrap_u64]
      obtain ⟨a0, a1⟩ := ha
      congr 1
      omega
  · rw [decide_eq_false h, if_neg (by decide)]
    rw [if_pos (by omega)] at hc
    rw [hc, IntKind.wrap_u64]
    congr 1
    omega
theorem high_is (a b : Int) (ha : u64B a) (hb : u64B b) : drawbridgeref04_high.f a b = some (a * b / 18446744073709551616) := by
  have h := mul64_is a b ha hb
  unfold bits_Mul64.f at h
  rw [and_low a ha, and_low b hb, and_low _ (u64_wrap _)] at h
  unfold drawbridgeref04_high.f
  rw [Int.tmod_eq_emod_of_nonneg ha.1, Int.tmod_eq_emod_of_nonneg hb.1, Int.tmod_eq_emod_of_nonneg (u64_wrap _).1]
  injection h with h
  injection h with h1 h2
  rw [← h1, Int.add_comm (IntKind.u64.wrap (a % 4294967296 * (b / 4294967296)))]
theorem abs_is (a : Int) (ha : u64B a) : drawbridgeref04_abs.f a = some (if wrap64 a < 0 then -wrap64 a else wrap64 a) := by
  unfold drawbridgeref04_abs.f
  rw [neg_is]
  have hc := wrap64_cases a ha
  obtain ⟨a0, a1⟩ := ha
  simp only [Option.bind_some]
  by_cases h : a ≥ 9223372036854775808
  · rw [if_neg (by omega)] at hc
    rw [decide_eq_true h, if_pos rfl, if_pos (by omega), IntKind.wrap_u64]
    congr 1; omega
  · rw [if_pos (by omega)] at hc
    rw [decide_eq_false h, if_neg (by decide), if_neg (by omega), hc]
theorem alu_div_is (a b : Int) (ha : u64B a) (hb : u64B b) (h0 : b ≠ 0) : alu_number_div.f a b = some (IntKind.u64.wrap ((wrap64 a).tdiv (wrap64 b))) := by
  unfold alu_number_div.f
  rw [if_neg h0, if_neg (sg_ne b hb h0), ww]
  by_cases h1 : wrap64 a = -9223372036854775808
  · rw [if_pos h1]
    by_cases h2 : wrap64 b = -1
    · rw [if_pos h2, h1, h2, show Int.tdiv (-9223372036854775808) (-1) = 9223372036854775808 by decide]
      have hc := wrap64_cases a ha
      obtain ⟨a0, a1⟩ := ha
      rw [IntKind.wrap_u64]
      congr 1
      split at hc <;> omega
    · rw [if_neg h2]
  · rw [if_neg h1]
theorem alu_rem_is (a b : Int) (ha : u64B a) (hb : u64B b) (h0 : b ≠ 0) : alu_number_rem.f a b = some (IntKind.u64.wrap ((wrap64 a).tmod (wrap64 b))) := by
  unfold alu_number_rem.f
  rw [if_neg h0, if_neg (sg_ne b hb h0)]
  by_cases h2 : wrap64 b = -1
  · rw [if_pos h2, h2, Int.tmod_neg, Int.tmod_one]; rfl
  · rw [if_neg h2]
theorem wneg (x : Int) : IntKind.u64.wrap (-IntKind.u64.wrap (-x)) = IntKind.u64.wrap x := by simp only [IntKind.wrap_u64]; omega
theorem ref_div_is (a b : Int) (ha : u64B a) (hb : u64B b) (h0 : b ≠ 0) : drawbridgeref04_div.f a b = some (IntKind.u64.wrap ((wrap64 a).tdiv (wrap64 b))) := by
  unfold drawbridgeref04_div.f
  rw [abs_is a ha, abs_is b hb, neg_is, neg_is]
  simp only [Option.bind_some]
  have hz := sg_ne b hb h0
  have ca := wrap64_cases a ha
  have cb := wrap64_cases b hb
  obtain ⟨a0, a1⟩ := ha
  obtain ⟨b0, b1⟩ := hb
  have na : decide (a ≥ 9223372036854775808) = decide (wrap64 a < 0) := by apply decide_eq_decide.2; split at ca <;> omega
  have nb : decide (b ≥ 9223372036854775808) = decide (wrap64 b < 0) := by apply decide_eq_decide.2; split at cb <;> omega
  rw [na, nb]
  generalize wrap64 a = A at *
  generalize wrap64 b = B at *
  by_cases hA : A < 0
  · by_cases hB : B < 0
    · rw [if_pos hA, if_pos hB, if_neg (by omega), decide_eq_true hA, decide_eq_true hB, if_neg (by decide), Int.neg_tdiv, Int.tdiv_neg, Int.neg_neg]
    · rw [if_pos hA, if_neg hB, if_neg hz, decide_eq_true hA, decide_eq_false hB, if_pos (by decide), Int.neg_tdiv, wneg]
  · by_cases hB : B < 0
    · rw [if_neg hA, if_pos hB, if_neg (by omega), decide_eq_false hA, decide_eq_true hB, if_pos (by decide), Int.tdiv_neg, wneg]
    · rw [if_neg hA, if_neg hB, if_neg hz, decide_eq_false hA, decide_eq_false hB, if_neg (by decide)]
theorem rest_is {M a b q A B Q R : Int} (ha : A % M = a % M) (hb : B % M = b % M) (hq : q % M = Q % M) (e : B * Q + R = A) : (a - q * b % M) % M = R % M := by
  have h1 : q * b % M = Q * B % M := by rw [Int.mul_emod, hq, ← hb, ← Int.mul_emod]
  have h2 : R = A - Q * B := by rw [← e, Int.mul_comm]; omega
  rw [h1, h2, Int.sub_emod, Int.emod_emod, ← ha, ← Int.sub_emod]
theorem quot_is (n : Nat) (f a b : Int) (ha : u64B a) (hb : u64B b) (hf : f = 20 ∨ f = 21 ∨ f = 22 ∨ f = 23) : drawbridgeref04_quotient.f (n + 3) f a b = alu_sum.f f a b := by
  have e20 : alu_sum.f 20 a b = alu_number_div.f a b := rfl
  have e21 : alu_sum.f 21 a b = alu_number_divu.f a b := rfl
  have e22 : alu_sum.f 22 a b = alu_number_rem.f a b := rfl
  have e23 : alu_sum.f 23 a b = alu_number_remu.f a b := rfl
  by_cases hz : b = 0
  · subst hz
    rcases hf with rfl | rfl | rfl | rfl
    · rw [e20]; rfl
    · rw [e21]; rfl
    · rw [e22]; rfl
    · rw [e23]; rfl
  · rcases hf with rfl | rfl | rfl | rfl
    · rw [e20, alu_div_is a b ha hb hz]
      simp [drawbridgeref04_quotient.f, drawbridgeref04_quotient.j0, drawbridgeref04_quotient.j1, drawbridgeref04_quotient.j2, hz, ref_div_is a b ha hb hz]
    · rw [e21]
      unfold alu_number_divu.f
      simp [drawbridgeref04_quotient.f, drawbridgeref04_quotient.j0, drawbridgeref04_quotient.j1, drawbridgeref04_quotient.j2, hz]
    · rw [e22, alu_rem_is a b ha hb hz]
      have hr := rest_is (M := 18446744073709551616) (a := a) (b := b) (q := IntKind.u64.wrap ((wrap64 a).tdiv (wrap64 b))) (A := wrap64 a) (B := wrap64 b) (Q := (wrap64 a).tdiv (wrap64 b)) (R := (wrap64 a).tmod (wrap64 b))
        (sg_mod a) (sg_mod b) (by rw [IntKind.wrap_u64, Int.emod_emod]) (Int.mul_tdiv_add_tmod _ _)
      simp only [drawbridgeref04_quotient.f, drawbridgeref04_quotient.j0, drawbridgeref04_quotient.j1, drawbridgeref04_quotient.j2, if_neg hz, ref_div_is a b ha hb hz]
      simp
      rw [← IntKind.wrap_u64, ← IntKind.wrap_u64, ← IntKind.wrap_u64] at hr
      exact hr
    · rw [e23]
      unfold alu_number_remu.f
      obtain ⟨a0, a1⟩ := ha
      obtain ⟨b0, b1⟩ := hb
      have q0 : 0 ≤ Int.tdiv a b := Int.tdiv_nonneg a0 b0
      have q1 : Int.tdiv a b ≤ a := by rw [Int.tdiv_eq_ediv_of_nonneg a0]; exact Int.ediv_le_self _ a0
      have r0 : 0 ≤ Int.tmod a b := Int.tmod_nonneg b a0
      have r1 : Int.tmod a b < b := Int.tmod_lt_of_pos a (by omega)
      have hs := Int.mul_tdiv_add_tmod a b
      have wq : IntKind.u64.wrap (Int.tdiv a b) = Int.tdiv a b := by rw [IntKind.wrap_u64]; omega
      have e3 : IntKind.u64.wrap (a - IntKind.u64.wrap (Int.tdiv a b * b)) = Int.tmod a b := by
        rw [Int.mul_comm]
        have : 0 ≤ b * Int.tdiv a b := Int.mul_nonneg b0 q0
        simp only [IntKind.wrap_u64]; omega
      simp only [drawbridgeref04_quotient.f, drawbridgeref04_quotient.j0, drawbridgeref04_quotient.j1, drawbridgeref04_quotient.j2, if_neg hz, wq, e3]
      simp [e3]
theorem one_mul_is (a b : Int) (ha : u64B a) (hb : u64B b) : ((drawbridgeref04_Neg.f a).bind fun t => drawbridgeref04_one.f t) = some (if a < 9223372036854775808 then 0 else 1) := by
  rw [neg_is]
  simp only [Option.bind_some]
  unfold drawbridgeref04_one.f
  by_cases h : a ≥ 9223372036854775808
  · rw [decide_eq_true h, if_pos rfl, if_neg (by omega)]
  · rw [decide_eq_false h, if_neg (by decide), if_pos (by omega)]
theorem one_is (x : Bool) : drawbridgeref04_one.f x = some (if x then 1 else 0) := by cases x <;> rfl
theorem pull_is (x y : Int) (hx : u64B x) (hy : u64B y) : IntKind.u64.wrap ((if (decide (y ≥ 9223372036854775808)) = true then (1 : Int) else 0) * x) = pull x y := by
  unfold pull
  obtain ⟨x0, x1⟩ := hx
  by_cases h : y ≥ 9223372036854775808
  · rw [decide_eq_true h, if_pos rfl, if_neg (by omega), Int.one_mul, IntKind.wrap_u64]; omega
  · rw [decide_eq_false h, if_neg (by decide), if_pos (by omega), Int.zero_mul]; rfl
/-- what is no shift -/
theorem ref_do_sum (n : Nat) (f m a b : Int) (ha : u64B a) (hb : u64B b) (h1 : f ≠ 1) (h5 : f ≠ 5) (h13 : f ≠ 13) : drawbridgeref04_do.f (n + 3) f m a b = alu_sum.f f a b := by
  unfold drawbridgeref04_do.f alu_sum.f
  by_cases e0 : f = 0
  · rw [if_pos e0, if_pos e0]; rfl
  rw [if_neg e0, if_neg e0]
  by_cases e8 : f = 8
  · rw [if_pos e8, if_pos e8]; rfl
  rw [if_neg e8, if_neg e8, if_neg h1, if_neg h5, if_neg h13]
  by_cases e2 : f = 2
  · rw [if_pos e2, if_pos e2, less_is a b ha hb]
    unfold alu_number_slt.f alu_flag.f
    simp only [Option.bind_some, one_is]
    by_cases h : wrap64 a < wrap64 b <;> simp [h]
  rw [if_neg e2, if_neg e2]
  by_cases e3 : f = 3
  · rw [if_pos e3, if_pos e3]
    unfold alu_number_sltu.f alu_flag.f
    simp only [Option.bind_some, one_is]
    by_cases h : a < b <;> simp [h]
  rw [if_neg e3, if_neg e3]
  by_cases e4 : f = 4
  · rw [if_pos e4, if_pos e4]; rfl
  rw [if_neg e4, if_neg e4]
  by_cases e6 : f = 6
  · rw [if_pos e6, if_pos e6]; rfl
  rw [if_neg e6, if_neg e6]
  by_cases e7 : f = 7
  · rw [if_pos e7, if_pos e7]; rfl
  rw [if_neg e7, if_neg e7]
  by_cases e16 : f = 16
  · rw [if_pos e16, if_pos e16]; rfl
  rw [if_neg e16, if_neg e16]
  by_cases e17 : f = 17
  · rw [if_pos e17, if_pos e17, high_is a b ha hb, neg_is, neg_is]
    have := do_mulh a b ha hb
    rw [show alu_number_mulh.f a b = alu_Do.f 17 false a b from rfl, this]
    simp only [Option.bind_some, one_is]
    rw [pull_is b a hb ha, pull_is a b ha hb]
  rw [if_neg e17, if_neg e17]
  by_cases e18 : f = 18
  · rw [if_pos e18, if_pos e18, high_is a b ha hb, neg_is]
    unfold alu_number_mulhsu.f alu_number_mulhu.f
    rw [mul64_is a b ha hb]
    simp only [Option.bind_some, one_is]
    rw [pull_is b a hb ha, and_top b a hb ha]
  rw [if_neg e18, if_neg e18]
  by_cases e19 : f = 19
  · rw [if_pos e19, if_pos e19, high_is a b ha hb]
    unfold alu_number_mulhu.f
    rw [mul64_is a b ha hb]
    rfl
  rw [if_neg e19, if_neg e19]
  by_cases e20 : f = 20
  · subst e20
    rw [if_pos rfl, quot_is n 20 a b ha hb (by decide)]
    simp [alu_sum.f]
  by_cases e21 : f = 21
  · subst e21
    rw [if_neg (by decide), if_pos rfl, quot_is n 21 a b ha hb (by decide)]
    simp [alu_sum.f]
  by_cases e22 : f = 22
  · subst e22
    rw [if_neg (by decide), if_neg (by decide), if_pos rfl, quot_is n 22 a b ha hb (by decide)]
    simp [alu_sum.f]
  by_cases e23 : f = 23
  · subst e23
    rw [if_neg (by decide), if_neg (by decide), if_neg (by decide), if_pos rfl, quot_is n 23 a b ha hb (by decide)]
    simp [alu_sum.f]
  rw [if_neg e20, if_neg e21, if_neg e22, if_neg e23, if_neg e20, if_neg e21, if_neg e22, if_neg e23]
  rfl
theorem ref_sll (k : Nat) (a b m : Int) (n : Nat) (hb : u64B b) (hm : m = 64 ∨ m = 32) (hn : b % m = n) : drawbridgeref04_do.f k 1 m a b = some (IntKind.u64.wrap (a * 2 ^ n)) := by
  have hn63 : n ≤ 63 := by rcases hm with rfl | rfl <;> omega
  have hm0 : m ≠ 0 := by omega
  unfold drawbridgeref04_do.f
  rw [if_neg (by decide), if_neg (by decide), if_pos rfl, if_neg (by omega), Int.tmod_eq_emod_of_nonneg hb.1, hn, if_pos (by omega), shl_in _ _ (by omega)]
theorem ref_srl (k : Nat) (a b m : Int) (n : Nat) (hb : u64B b) (hm : m = 64 ∨ m = 32) (hn : b % m = n) : drawbridgeref04_do.f k 5 m a b = some (a / 2 ^ n) := by
  have hn63 : n ≤ 63 := by rcases hm with rfl | rfl <;> omega
  have hm0 : m ≠ 0 := by omega
  unfold drawbridgeref04_do.f
  rw [if_neg (by decide), if_neg (by decide), if_neg (by decide), if_pos rfl, if_neg (by omega), Int.tmod_eq_emod_of_nonneg hb.1, hn, if_pos (by omega), shr_in _ _ (by omega)]
theorem ref_sra (k : Nat) (a b m : Int) (n : Nat) (ha : u64B a) (hb : u64B b) (hm : m = 64 ∨ m = 32) (hn : b % m = n) : drawbridgeref04_do.f k 13 m a b = some (IntKind.u64.wrap (wrap64 a / 2 ^ n)) := by
  have hn63 : n ≤ 63 := by rcases hm with rfl | rfl <;> omega
  have hm0 : m ≠ 0 := by omega
  unfold drawbridgeref04_do.f
  rw [if_neg (by decide), if_neg (by decide), if_neg (by decide), if_neg (by decide), if_pos rfl, if_neg (by omega), Int.tmod_eq_emod_of_nonneg hb.1, hn, sra_is a n ha (by omega)]
  rfl
theorem shift_1 (a : Int) (n : Nat) (hn : n ≤ 63) : alu_shift.f 1 a n = some (IntKind.u64.wrap (a * 2 ^ n)) := by
  unfold alu_shift.f
  rw [if_pos rfl, if_pos (by omega), shl_in _ _ (by omega)]
theorem shift_5 (a : Int) (n : Nat) (hn : n ≤ 63) : alu_shift.f 5 a n = some (a / 2 ^ n) := by
  unfold alu_shift.f
  rw [if_neg (by decide), if_pos rfl, if_pos (by omega), shr_in _ _ (by omega)]
theorem shift_13 (a : Int) (n : Nat) (hn : n ≤ 63) : alu_shift.f 13 a n = some (IntKind.u64.wrap (wrap64 a / 2 ^ n)) := by
  unfold alu_shift.f
  rw [if_neg (by decide), if_neg (by decide), if_pos (by omega), shri_in _ _ (by omega)]
theorem do_false (k : Nat) (f a b : Int) (ha : u64B a) (hb : u64B b) : ∃ r, alu_Do.f f false a b = some r ∧ drawbridgeref04_Do.f (k + 3) f false a b = some r := by
  obtain ⟨n, hn⟩ := Int.eq_ofNat_of_zero_le (show 0 ≤ b % 64 by omega)
  have hn63 : n ≤ 63 := by omega
  unfold alu_Do.f drawbridgeref04_Do.f
  rw [if_pos rfl, and_63 b hb, hn, if_neg (show ¬ (false = true) by decide)]
  by_cases h1 : f = 1
  · subst h1
    rw [if_pos (by decide), shift_1 a n hn63, ref_sll _ a b 64 n hb (by decide) hn]
    exact ⟨_, rfl, rfl⟩
  by_cases h5 : f = 5
  · subst h5
    rw [if_pos (by decide), shift_5 a n hn63, ref_srl _ a b 64 n hb (by decide) hn]
    exact ⟨_, rfl, rfl⟩
  by_cases h13 : f = 13
  · subst h13
    rw [if_pos (by decide), shift_13 a n hn63, ref_sra _ a b 64 n ha hb (by decide) hn]
    exact ⟨_, rfl, rfl⟩
  rw [if_neg (by omega), ref_do_sum k f 64 a b ha hb h1 h5 h13]
  obtain ⟨r, hr⟩ := sum_some f a b ha hb
  rw [hr]
  exact ⟨r, rfl, rfl⟩
theorem sum_u64 (f a b r : Int) (ha : u64B a) (hb : u64B b) (hf : f = 20 ∨ f = 21 ∨ f = 22 ∨ f = 23) (h : alu_sum.f f a b = some r) : u64B r := by
  have e20 : alu_sum.f 20 a b = alu_number_div.f a b := rfl
  have e21 : alu_sum.f 21 a b = alu_number_divu.f a b := rfl
  have e22 : alu_sum.f 22 a b = alu_number_rem.f a b := rfl
  have e23 : alu_sum.f 23 a b = alu_number_remu.f a b := rfl
  by_cases hz : b = 0
  · subst hz
    rcases hf with rfl | rfl | rfl | rfl
    · rw [e20] at h; unfold alu_number_div.f at h; rw [if_pos rfl] at h; injection h with h; subst h; exact ⟨by decide, by decide⟩
    · rw [e21] at h; unfold alu_number_divu.f at h; rw [if_pos rfl] at h; injection h with h; subst h; exact ⟨by decide, by decide⟩
    · rw [e22] at h; unfold alu_number_rem.f at h; rw [if_pos rfl] at h; injection h with h; subst h; exact ha
    · rw [e23] at h; unfold alu_number_remu.f at h; rw [if_pos rfl] at h; injection h with h; subst h; exact ha
  · rcases hf with rfl | rfl | rfl | rfl
    · rw [e20, alu_div_is a b ha hb hz] at h; injection h with h; subst h; exact u64_wrap _
    · rw [e21] at h; unfold alu_number_divu.f at h; rw [if_neg hz] at h; injection h with h; subst h; exact u64_wrap _
    · rw [e22, alu_rem_is a b ha hb hz] at h; injection h with h; subst h; exact u64_wrap _
    · rw [e23] at h; unfold alu_number_remu.f at h; rw [if_neg hz] at h; injection h with h; subst h
      obtain ⟨a0, a1⟩ := ha
      obtain ⟨b0, b1⟩ := hb
      have r0 : 0 ≤ Int.tmod a b := Int.tmod_nonneg b a0
      have r1 : Int.tmod a b < b := Int.tmod_lt_of_pos a (by omega)
      exact ⟨r0, by omega⟩
def ex32 (a : Int) : Int := IntKind.u64.wrap (wrap32 a)
theorem ex32_low (a : Int) : ex32 a % 4294967296 = a % 4294967296 := by unfold ex32 wrap32; rw [IntKind.wrap_u64]; omega
theorem ex32_u64 (a : Int) : u64B (ex32 a) := u64_wrap _
theorem ext_is (a : Int) : alu_extend.f a = some (ex32 a) := rfl
theorem ex32_eq (a b : Int) (h : a % 4294967296 = b % 4294967296) : ex32 a = ex32 b := by
  unfold ex32
  have : wrap32 a = wrap32 b := by unfold wrap32; omega
  rw [this]
theorem wrap_low (x : Int) : IntKind.u64.wrap x % 4294967296 = x % 4294967296 := by rw [IntKind.wrap_u64]; omega
theorem mul_low {a b c d : Int} (h1 : a % 4294967296 = c % 4294967296) (h2 : b % 4294967296 = d % 4294967296) : (a * b) % 4294967296 = (c * d) % 4294967296 := by
  rw [Int.mul_emod, h1, h2, ← Int.mul_emod]
/-- words: what the reference does with the lower halves -/
theorem ref_low (k : Nat) (f a b r : Int) (hf : f = 0 ∨ f = 1 ∨ f = 5 ∨ f = 8 ∨ f = 16 ∨ f = 21 ∨ f = 23) (ha : u64B a) (hb : u64B b) (hr : drawbridgeref04_do.f (k + 3) f 32 (a % 4294967296) (b % 4294967296) = some r) (hu : u64B r) : drawbridgeref04_Do.f (k + 5) f true a b = some (ex32 r) := by
  unfold drawbridgeref04_Do.f
  rw [Int.tmod_eq_emod_of_nonneg ha.1, Int.tmod_eq_emod_of_nonneg hb.1, if_pos rfl]
  rcases hf with rfl | rfl | rfl | rfl | rfl | rfl | rfl
  all_goals
    simp [drawbridgeref04_Do.j0, drawbridgeref04_Do.j1, hr, sext_ext r hu, ext_is]
theorem ref_ext (k : Nat) (f a b r : Int) (hf : f = 13 ∨ f = 20 ∨ f = 22) (ha : u64B a) (hb : u64B b) (hr : drawbridgeref04_do.f (k + 4) f 32 (ex32 a) (ex32 b) = some r) (hu : u64B r) : drawbridgeref04_Do.f (k + 5) f true a b = some (ex32 r) := by
  unfold drawbridgeref04_Do.f
  rw [if_pos rfl]
  rcases hf with rfl | rfl | rfl
  all_goals
    simp [drawbridgeref04_Do.j0, sext_ext a ha, sext_ext b hb, hr, sext_ext r hu, ext_is]
theorem ref_none (k : Nat) (f a b : Int) (hf : f ≠ 0 ∧ f ≠ 1 ∧ f ≠ 5 ∧ f ≠ 8 ∧ f ≠ 16 ∧ f ≠ 21 ∧ f ≠ 23 ∧ f ≠ 13 ∧ f ≠ 20 ∧ f ≠ 22) : drawbridgeref04_Do.f (k + 5) f true a b = some 0 := by
  obtain ⟨h0, h1, h5, h8, h16, h21, h23, h13, h20, h22⟩ := hf
  simp [drawbridgeref04_Do.f, drawbridgeref04_Do.j0, drawbridgeref04_Do.j1, h0, h1, h5, h8, h16, h21, h23, h13, h20, h22]
theorem do_true (k : Nat) (f a b : Int) (ha : u64B a) (hb : u64B b) : ∃ r, alu_Do.f f true a b = some r ∧ drawbridgeref04_Do.f (k + 5) f true a b = some r := by
  have hl (z : Int) : u64B (z % 4294967296) := by unfold u64B; omega
  obtain ⟨n, hn⟩ := Int.eq_ofNat_of_zero_le (show 0 ≤ b % 32 by omega)
  have hn63 : n ≤ 63 := by omega
  have hn2 : b % 4294967296 % 32 = n := by omega
  have hn3 : ex32 b % 32 = n := by have := ex32_low b; omega
  unfold alu_Do.f
  rw [if_neg (show ¬ (true = false) by decide), and_31 b hb, hn, ext_is, ext_is]
  simp only [Option.bind_some]
  by_cases h5 : f = 5
  · subst h5
    rw [if_pos rfl, shift_5 _ n hn63]
    exact ⟨_, rfl, ref_low k 5 a b _ (by decide) ha hb (ref_srl _ _ _ 32 n (hl b) (by decide) hn2) (u64_div _ n (hl a))⟩
  rw [if_neg h5]
  by_cases h1 : f = 1
  · subst h1
    rw [if_pos (by decide), shift_1 _ n hn63]
    refine ⟨_, rfl, ?_⟩
    rw [ref_low k 1 a b _ (by decide) ha hb (ref_sll _ _ _ 32 n (hl b) (by decide) hn2) (u64_wrap _)]
    show some _ = some (ex32 _)
    congr 1
    apply ex32_eq
    rw [wrap_low, wrap_low]
    exact mul_low (by rw [ex32_low, Int.emod_emod]) rfl
  by_cases h13 : f = 13
  · subst h13
    rw [if_pos (by decide), shift_13 _ n hn63]
    exact ⟨_, rfl, ref_ext k 13 a b _ (by decide) ha hb (ref_sra _ _ _ 32 n (ex32_u64 a) (ex32_u64 b) (by decide) hn3) (u64_wrap _)⟩
  rw [if_neg (by omega)]
  by_cases hu : f = 21 ∨ f = 23
  · rw [if_pos hu]
    obtain ⟨r, hr⟩ := sum_some f (a % 4294967296) (b % 4294967296) (hl a) (hl b)
    rw [hr]
    exact ⟨_, rfl, ref_low k f a b r (by omega) ha hb (by rw [ref_do_sum k f 32 _ _ (hl a) (hl b) h1 h5 h13, hr]) (sum_u64 f _ _ r (hl a) (hl b) (by omega) hr)⟩
  rw [if_neg hu]
  by_cases hs : f = 20 ∨ f = 22
  · rw [if_pos (by omega)]
    obtain ⟨r, hr⟩ := sum_some f (ex32 a) (ex32 b) (ex32_u64 a) (ex32_u64 b)
    rw [hr]
    exact ⟨_, rfl, ref_ext k f a b r (by omega) ha hb (by rw [ref_do_sum (k + 1) f 32 _ _ (ex32_u64 a) (ex32_u64 b) h1 h5 h13, hr]) (sum_u64 f _ _ r (ex32_u64 a) (ex32_u64 b) (by omega) hr)⟩
  by_cases h0 : f = 0
  · subst h0
    rw [if_pos (by decide)]
    refine ⟨_, rfl, ?_⟩
    rw [ref_low k 0 a b (IntKind.u64.wrap (a % 4294967296 + b % 4294967296)) (by decide) ha hb rfl (u64_wrap _)]
    congr 1
    apply ex32_eq
    have e1 := ex32_low a
    have e2 := ex32_low b
    rw [wrap_low, wrap_low]
    omega
  by_cases h8 : f = 8
  · subst h8
    rw [if_pos (by decide)]
    refine ⟨_, rfl, ?_⟩
    rw [ref_low k 8 a b (IntKind.u64.wrap (a % 4294967296 - b % 4294967296)) (by decide) ha hb rfl (u64_wrap _)]
    congr 1
    apply ex32_eq
    have e1 := ex32_low a
    have e2 := ex32_low b
    rw [wrap_low, wrap_low]
    omega
  by_cases h16 : f = 16
  · subst h16
    rw [if_pos (by decide)]
    refine ⟨_, rfl, ?_⟩
    rw [ref_low k 16 a b (IntKind.u64.wrap (a % 4294967296 * (b % 4294967296))) (by decide) ha hb rfl (u64_wrap _)]
    congr 1
    apply ex32_eq
    rw [wrap_low, wrap_low]
    exact mul_low (by rw [ex32_low, Int.emod_emod]) (by rw [ex32_low, Int.emod_emod])
  rw [if_neg (by omega)]
  exact ⟨0, rfl, ref_none k f a b (by omega)⟩
theorem AluReckons : drawbridgelaw04_AluReckons.Pure := by
  intro f word a b h0 h1 h2
  have ha := wf_u64B h1
  have hb := wf_u64B h2
  refine ⟨5, ?_⟩
  unfold drawbridgelaw04_AluReckons.f
  have hd : ∃ r, alu_Do.f f word a b = some r ∧ drawbridgeref04_Do.f 5 f word a b = some r := by
    cases word
    · exact do_false 2 f a b ha hb
    · exact do_true 0 f a b ha hb
  obtain ⟨r, e1, e2⟩ := hd
  obtain ⟨c, e3⟩ := cond_some 3 f a b ha hb
  have e4 := cond_same 3 f a b ha hb
  rw [e3] at e4
  obtain ⟨z, e5, e6⟩ := amo_same 4 f a b word ha hb
  rw [e1, e2]
  simp only [Option.bind_some, if_true]
  rw [e3, ← e4]
  simp only [Option.bind_some, beq_self_eq_true, if_true]
  rw [e5, e6]
  simp only [Option.bind_some, if_true, heads04]
end Go.Proofs.Ytielecanhammbaa.Pure
