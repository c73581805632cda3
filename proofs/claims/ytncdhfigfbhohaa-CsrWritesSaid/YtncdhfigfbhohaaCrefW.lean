/- ref05.Write and csr.Write are one. -/
import Derived.Test.YtncdhfigfbhohaaPcsr
import Derived.Test.YtncdhfigfbhohaaCref
set_option linter.unusedVariables false
set_option linter.unusedSimpArgs false
set_option linter.unusedSectionVars false
namespace Go.Proofs.Ytncdhfigfbhohaa.Q
open Go.RowKit Go.Proofs.YtncdhfigfbhohaaW.PrintWords Go.Proofs.YtncdhfigfbhohaaW.PrintLast Go.Proofs.YtncdhfigfbhohaaW.PrintMore Go.Proofs.Ytncdhfigfbhohaa.L
theorem tb_div {x : Int} (hx : u64B x) (n : Nat) : tb x n = decide (x / 2 ^ n % 2 = 1) := by
  unfold tb
  obtain ⟨X, rfl⟩ := Int.eq_ofNat_of_zero_le hx.1
  rw [Int.toNat_natCast, Nat.testBit_eq_decide_div_mod_eq]
  congr 1
  apply propext
  constructor
  · intro h; have : ((X / 2 ^ n % 2 : Nat) : Int) = 1 := by rw [h]; rfl
    simpa using this
  · intro h
    have : ((X / 2 ^ n % 2 : Nat) : Int) = 1 := by simpa using h
    omega
theorem bit20 {x : Int} (hx : u64B x) : decide (Go.bits .and .u64 x 1048576 > 0) = (Int.tmod (x / 1048576) 2 == 1) := by
  have hb := tb_div hx 20
  have e2 : (2 : Int) ^ 20 = 1048576 := by decide
  rw [e2] at hb
  have h0 : 0 ≤ x / 1048576 := Int.ediv_nonneg hx.1 (by decide)
  rw [Int.tmod_eq_emod_of_nonneg h0]
  have hm : u64B 1048576 := ⟨by omega, by omega⟩
  cases ht : tb x 20 with
  | true =>
    rw [ht] at hb
    have h1 : x / 1048576 % 2 = 1 := of_decide_eq_true hb.symm
    rw [h1]
    have hne : Go.bits .and .u64 x 1048576 ≠ 0 := fun h => by
      have := wd_bit (wd_and (wd_var hx) (wd_var hm)) (wd_var (x := 0) ⟨by omega, by omega⟩) h 20
      rw [ht] at this
      revert this
      decide
    have hp := (and_B hx hm).1
    rw [decide_eq_true (by omega)]; rfl
  | false =>
    rw [ht] at hb
    have h1 : ¬ x / 1048576 % 2 = 1 := of_decide_eq_false hb.symm
    have hz : Go.bits .and .u64 x 1048576 = 0 := by
      refine wd_eq (wd_and (wd_var hx) (wd_var hm)) (wd_var (x := 0) ⟨by omega, by omega⟩) fun i hi => ?_
      by_cases hi2 : i = 20
      · subst hi2; rw [ht]; rfl
      · have : tb 1048576 i = false := by
          have hp := tb_pow 20 i
          rw [show (2 : Int) ^ 20 = 1048576 by decide] at hp
          rw [hp]; exact decide_eq_false (fun h => hi2 h.symm)
        rw [this, Bool.and_false, tb_zero]
    rw [hz]
    have : (x / 1048576 % 2 == 1) = false := beq_eq_false_iff_ne.2 h1
    rw [this]; rfl
theorem sub12 {y : Int} (hy : u64B y) (h11 : tb y 11 = false) (h12 : tb y 12 = true) : Go.bits .andNot .u64 y 6144 = y - 4096 ∧ 4096 ≤ y := by
  have e11 := tb_div hy 11
  have e12 := tb_div hy 12
  rw [h11, show (2 : Int) ^ 11 = 2048 by decide] at e11
  rw [h12, show (2 : Int) ^ 12 = 4096 by decide] at e12
  have k11 := of_decide_eq_false e11.symm
  have k12 := of_decide_eq_true e12.symm
  have hm : u64B 6144 := ⟨by omega, by omega⟩
  have hge : 4096 ≤ y := by have := hy.1; omega
  have hy2 : u64B (y - 4096) := ⟨by omega, by have := hy.2; omega⟩
  refine ⟨?_, hge⟩
  refine wd_eq (wd_andNot (wd_var hy) (wd_var hm)) (wd_var hy2) fun i hi => ?_
  have t6 : tb 6144 i = decide (i = 11 ∨ i = 12) := by
    have : ∀ i, i < 64 → tb 6144 i = decide (i = 11 ∨ i = 12) := by decide +kernel
    exact this i hi
  rw [t6]
  obtain ⟨Y, rfl⟩ := Int.eq_ofNat_of_zero_le hy.1
  unfold tb
  obtain ⟨q, r, hr, hY⟩ : ∃ q r, r < 2048 ∧ Y = 2 ^ 13 * q + (2 ^ 12 * 1 + r) := ⟨Y / 8192, Y % 2048, by omega, by omega⟩
  have e1 : ((Y : Int)).toNat = 2 ^ 13 * q + (2 ^ 12 * 1 + r) := by omega
  have e2 : ((Y : Int) - 4096).toNat = 2 ^ 13 * q + r := by omega
  rw [e1, e2, Nat.testBit_two_pow_mul_add q (by omega : 2 ^ 12 * 1 + r < 2 ^ 13), Nat.testBit_two_pow_mul_add q (by omega : r < 2 ^ 13), Nat.testBit_two_pow_mul_add 1 (by omega : r < 2 ^ 12)]
  by_cases hi13 : i < 13
  · rw [if_pos hi13, if_pos hi13]
    by_cases hi12 : i < 12
    · rw [if_pos hi12]
      by_cases hi11 : i = 11
      · subst hi11
        rw [Nat.testBit_lt_two_pow (by omega : r < 2 ^ 11)]; rfl
      · rw [decide_eq_false (by omega)]; simp
    · have : i = 12 := by omega
      subst this
      rw [if_neg hi12, Nat.testBit_lt_two_pow (by omega : r < 2 ^ 12)]; rfl
  · rw [if_neg hi13, if_neg hi13, decide_eq_false (by omega)]; simp
theorem and6144 {y : Int} (hy : u64B y) : Go.bits .and .u64 y 6144 = 4096 ↔ tb y 11 = false ∧ tb y 12 = true := by
  have hm : u64B 6144 := ⟨by omega, by omega⟩
  have h4 : u64B 4096 := ⟨by omega, by omega⟩
  have t6 : ∀ i, i < 64 → tb 6144 i = decide (i = 11 ∨ i = 12) := by decide +kernel
  have t4 : ∀ i, i < 64 → tb 4096 i = decide (i = 12) := by decide +kernel
  constructor
  · intro h
    have a := wd_bit (wd_and (wd_var hy) (wd_var hm)) (wd_var h4) h 11
    have b := wd_bit (wd_and (wd_var hy) (wd_var hm)) (wd_var h4) h 12
    rw [t6 11 (by omega), t4 11 (by omega)] at a
    rw [t6 12 (by omega), t4 12 (by omega)] at b
    exact ⟨by simpa using a, by simpa using b⟩
  · rintro ⟨a, b⟩
    refine wd_eq (wd_and (wd_var hy) (wd_var hm)) (wd_var h4) fun i hi => ?_
    rw [t6 i hi, t4 i hi]
    by_cases h11 : i = 11
    · subst h11; rw [a]; rfl
    · by_cases h12 : i = 12
      · subst h12; rw [b]; rfl
      · rw [decide_eq_false (by omega), decide_eq_false h12]; simp
theorem st_ref {x : Int} (hx : u64B x) : drawbridgeref05_Status.f x = some (statusV x) := by
  rw [st_def]
  unfold drawbridgeref05_Status.f
  have hy : u64B (Go.bits .and .u64 x 8264106) := and_B hx ⟨by omega, by omega⟩
  generalize Go.bits .and .u64 x 8264106 = y at *
  have e11 := tb_div hy 11
  have e12 := tb_div hy 12
  rw [show (2 : Int) ^ 11 = 2048 by decide] at e11
  rw [show (2 : Int) ^ 12 = 4096 by decide] at e12
  have hd : Int.tmod (y / 2048) 4 = y / 2048 % 4 := Int.tmod_eq_emod_of_nonneg (Int.ediv_nonneg hy.1 (by decide))
  rw [hd]
  by_cases h : Go.bits .and .u64 y 6144 = 4096
  · obtain ⟨a, b⟩ := (and6144 hy).1 h
    rw [a] at e11; rw [b] at e12
    have k11 := of_decide_eq_false e11.symm
    have k12 := of_decide_eq_true e12.symm
    rw [if_pos h, if_pos (by omega)]
    obtain ⟨s1, s2⟩ := sub12 hy a b
    rw [s1]
    have hw : IntKind.u64.wrap (y - 4096) = y - 4096 := by
      have := hy.2
      rw [IntKind.wrap_u64]; omega
    rw [hw]
  · rw [if_neg h, if_neg]
    intro hk
    refine h ((and6144 hy).2 ⟨?_, ?_⟩)
    · rw [e11]; exact decide_eq_false (by omega)
    · rw [e12]; exact decide_eq_true (by omega)
/-- A full mask, and one of nothing. -/
theorem mix_full {r x : Int} (hr : u64B r) (hx : u64B x) : Go.bits .or .u64 (Go.bits .andNot .u64 r 18446744073709551615) (Go.bits .and .u64 x 18446744073709551615) = x := by
  have hm : u64B 18446744073709551615 := ⟨by omega, by omega⟩
  refine wd_eq (wd_or (wd_andNot (wd_var hr) (wd_var hm)) (wd_and (wd_var hx) (wd_var hm))) (wd_var hx) fun i hi => ?_
  have : ∀ i, i < 64 → tb 18446744073709551615 i = true := by decide +kernel
  rw [this i hi]; simp
theorem mix_none {x m : Int} (hx : u64B x) (hm : u64B m) : Go.bits .or .u64 (Go.bits .andNot .u64 0 m) (Go.bits .and .u64 x m) = Go.bits .and .u64 x m := by
  have h0 : u64B 0 := ⟨by omega, by omega⟩
  refine wd_eq (wd_or (wd_andNot (wd_var h0) (wd_var hm)) (wd_and (wd_var hx) (wd_var hm))) (wd_and (wd_var hx) (wd_var hm)) fun i hi => ?_
  rw [tb_zero]; simp
theorem seen_same (c : Nat → Int) (n : Int) : (seenZ c n).isSome = (valR c n).2 := by
  by_cases h768 : n = 768
  · subst h768; rfl
  by_cases h256 : n = 256
  · subst h256; rfl
  by_cases h769 : n = 769
  · subst h769; rfl
  by_cases h770 : n = 770
  · subst h770; rfl
  by_cases h771 : n = 771
  · subst h771; rfl
  by_cases h772 : n = 772
  · subst h772; rfl
  by_cases h836 : n = 836
  · subst h836; rfl
  by_cases h260 : n = 260
  · subst h260; rfl
  by_cases h324 : n = 324
  · subst h324; rfl
  by_cases h773 : n = 773
  · subst h773; rfl
  by_cases h261 : n = 261
  · subst h261; rfl
  by_cases h832 : n = 832
  · subst h832; rfl
  by_cases h320 : n = 320
  · subst h320; rfl
  by_cases h833 : n = 833
  · subst h833; rfl
  by_cases h321 : n = 321
  · subst h321; rfl
  by_cases h834 : n = 834
  · subst h834; rfl
  by_cases h322 : n = 322
  · subst h322; rfl
  by_cases h835 : n = 835
  · subst h835; rfl
  by_cases h323 : n = 323
  · subst h323; rfl
  by_cases h384 : n = 384
  · subst h384; rfl
  by_cases h2816 : n = 2816
  · subst h2816; rfl
  by_cases h3072 : n = 3072
  · subst h3072; rfl
  by_cases h3857 : n = 3857
  · subst h3857; rfl
  by_cases h3858 : n = 3858
  · subst h3858; rfl
  by_cases h3859 : n = 3859
  · subst h3859; rfl
  by_cases h3860 : n = 3860
  · subst h3860; rfl
  have a : seenZ c n = none := by
    unfold seenZ ofI
    simp only [beq_iff_eq, h768, h256, h769, h770, h771, h772, h836, h260, h324, h773, h261, h832, h320, h833, h321, h834, h322, h835, h323, h384, h2816, h3072, h3857, h3858, h3859, h3860, if_false, Option.map_none, Bool.or_eq_true, or_self]
  have b : valR c n = (0, false) := by
    unfold valR drawbridgeref05_value.f
    simp only [drawbridgeref05_value.j0, beq_iff_eq, h768, h256, h769, h770, h771, h772, h836, h260, h324, h773, h261, h832, h320, h833, h321, h834, h322, h835, h323, h384, h2816, h3072, h3857, h3858, h3859, h3860, if_false]
    first | rfl | simp
  rw [a, b]; rfl
theorem known_lt {c : Nat → Int} {n : Int} (h : (valR c n).2 = true) : 0 ≤ n := by
  rw [← seen_same] at h
  by_cases hn : 0 ≤ n
  · exact hn
  have a : seenZ c n = none := by
    unfold seenZ ofI
    simp only [beq_iff_eq, show ¬ n = 768 by omega, show ¬ n = 256 by omega, show ¬ n = 769 by omega, show ¬ n = 770 by omega, show ¬ n = 771 by omega, show ¬ n = 772 by omega, show ¬ n = 836 by omega, show ¬ n = 260 by omega, show ¬ n = 324 by omega, show ¬ n = 773 by omega, show ¬ n = 261 by omega, show ¬ n = 832 by omega, show ¬ n = 320 by omega, show ¬ n = 833 by omega, show ¬ n = 321 by omega, show ¬ n = 834 by omega, show ¬ n = 322 by omega, show ¬ n = 835 by omega, show ¬ n = 323 by omega, show ¬ n = 384 by omega, show ¬ n = 2816 by omega, show ¬ n = 3072 by omega, show ¬ n = 3857 by omega, show ¬ n = 3858 by omega, show ¬ n = 3859 by omega, show ¬ n = 3860 by omega, if_false, Option.map_none, Bool.or_eq_true, or_self]
  rw [a] at h; cases h
theorem ok_same {c : Nat → Int} (n p : Int) (h0 : u64B (c 0)) : ((valR c n).2 && !offR c n p) = (readZ c n p).isSome := by
  unfold readZ
  cases hk : (valR c n).2 with
  | false =>
    have hs := seen_same c n
    rw [hk] at hs
    split
    · rfl
    · rw [hs]; rfl
  | true =>
    have hs := seen_same c n
    rw [hk] at hs
    have hn := known_lt hk
    have : offR c n p = refuses c n p := by
      unfold offR refuses
      rw [i64_and3, Int.tmod_eq_emod_of_nonneg (Int.ediv_nonneg hn (by decide)), bit20 h0]
    rw [this]
    cases hr : refuses c n p
    · simp [hs]
    · simp
theorem wr (c : Nat → Int) (n x : Int) (i : Nat) (ho : ofI n = some i) (hm : modeBad n x = false) : upd c i (valZ c n x i) = writeZ c n x := by rw [write_is ho, hm]; rfl
theorem v_261 {c : Nat → Int} {x : Int} (h : bnd c) (hx : u64B x) : Go.bits .andNot .u64 x 2 = valZ c 261 x 10 := by
  rw [val_261 h hx]
  exact (mix_full (h _) (wd_B (wd_andNot (wd_var hx) (wd_var ⟨by omega, by omega⟩)))).symm
theorem v_320 {c : Nat → Int} {x : Int} (h : bnd c) (hx : u64B x) : x = valZ c 320 x 11 := by
  rw [val_320 h hx]
  exact (mix_full (h _) hx).symm
theorem v_321 {c : Nat → Int} {x : Int} (h : bnd c) (hx : u64B x) : Go.bits .andNot .u64 x 1 = valZ c 321 x 12 := by
  rw [val_321 h hx]
  exact (mix_full (h _) (wd_B (wd_andNot (wd_var hx) (wd_var ⟨by omega, by omega⟩)))).symm
theorem v_322 {c : Nat → Int} {x : Int} (h : bnd c) (hx : u64B x) : x = valZ c 322 x 13 := by
  rw [val_322 h hx]
  exact (mix_full (h _) hx).symm
theorem v_323 {c : Nat → Int} {x : Int} (h : bnd c) (hx : u64B x) : x = valZ c 323 x 14 := by
  rw [val_323 h hx]
  exact (mix_full (h _) hx).symm
theorem v_770 {c : Nat → Int} {x : Int} (h : bnd c) (hx : u64B x) : Go.bits .and .u64 x 46079 = valZ c 770 x 1 := by
  rw [val_770 h hx]
  exact (mix_none hx ⟨by omega, by omega⟩).symm
theorem v_771 {c : Nat → Int} {x : Int} (h : bnd c) (hx : u64B x) : Go.bits .and .u64 x 546 = valZ c 771 x 2 := by
  rw [val_771 h hx]
  exact (mix_none hx ⟨by omega, by omega⟩).symm
theorem v_772 {c : Nat → Int} {x : Int} (h : bnd c) (hx : u64B x) : Go.bits .and .u64 x 2730 = valZ c 772 x 3 := by
  rw [val_772 h hx]
  exact (mix_none hx ⟨by omega, by omega⟩).symm
theorem v_773 {c : Nat → Int} {x : Int} (h : bnd c) (hx : u64B x) : Go.bits .andNot .u64 x 2 = valZ c 773 x 5 := by
  rw [val_773 h hx]
  exact (mix_full (h _) (wd_B (wd_andNot (wd_var hx) (wd_var ⟨by omega, by omega⟩)))).symm
theorem v_832 {c : Nat → Int} {x : Int} (h : bnd c) (hx : u64B x) : x = valZ c 832 x 6 := by
  rw [val_832 h hx]
  exact (mix_full (h _) hx).symm
theorem v_833 {c : Nat → Int} {x : Int} (h : bnd c) (hx : u64B x) : Go.bits .andNot .u64 x 1 = valZ c 833 x 7 := by
  rw [val_833 h hx]
  exact (mix_full (h _) (wd_B (wd_andNot (wd_var hx) (wd_var ⟨by omega, by omega⟩)))).symm
theorem v_834 {c : Nat → Int} {x : Int} (h : bnd c) (hx : u64B x) : x = valZ c 834 x 8 := by
  rw [val_834 h hx]
  exact (mix_full (h _) hx).symm
theorem v_835 {c : Nat → Int} {x : Int} (h : bnd c) (hx : u64B x) : x = valZ c 835 x 9 := by
  rw [val_835 h hx]
  exact (mix_full (h _) hx).symm
theorem v_2816 {c : Nat → Int} {x : Int} (h : bnd c) (hx : u64B x) : x = valZ c 2816 x 16 := by
  rw [val_2816 h hx]
  exact (mix_full (h _) hx).symm
theorem v_384 {c : Nat → Int} {x : Int} (h : bnd c) (hx : u64B x) : x = valZ c 384 x 15 := by
  rw [val_384 h hx]
  exact (mix_full (h _) hx).symm
theorem v_768 {c : Nat → Int} {x : Int} (h : bnd c) (hx : u64B x) : drawbridgeref05_Status.f x = some (valZ c 768 x 0) := by
  rw [val_768 h hx, mix_full (h _) (st_B hx)]
  exact st_ref hx
/-- The document's writing, as csr's. -/
theorem refWrite_is {c : Nat → Int} (n p : Int) {x : Int} (h : bnd c) (hx : u64B x) (w : World) :
    Calls Try.prog 12 #[.agg (C17 c), .int .i64 n, .int .i64 p, .int .u64 x] w fun e w' => e = .returned (.tuple #[.agg (C17 (stW c n p x)), .bool (okW c n p)]) ∧ Below w.heap.size w w' := by
  have ER : ∀ k, ((valR c n).2 && !offR c n p) = k → ∀ W, Calls Try.prog 17 #[.agg (C17 c), .int .i64 n, .int .i64 p] W fun e w' => (∃ y, e = .returned (.tuple #[.int .u64 y, .bool k])) ∧ Below W.heap.size W w' := fun k hk W => hk ▸ refRead c n p _ _ W (valR_is c n)
  rw [ok_same n p (h 0)] at ER
  unfold stW okW
  cases hz : (readZ c n p).isSome with
  | false => exact refW_no c c n p x w (ER false hz)
  | true =>
    cases hq : (n / 1024 == 3) with
    | true => exact refW_low c c n p x w hq (ER true hz)
    | false =>
      have hs : ∃ v, seenZ c n = some v := by
        unfold readZ at hz
        split at hz
        · cases hz
        · exact Option.isSome_iff_exists.1 hz
      obtain ⟨v, hv⟩ := hs
      show Calls Try.prog 12 #[.agg (C17 c), .int .i64 n, .int .i64 p, .int .u64 x] w fun e w' => e = .returned (.tuple #[.agg (C17 (writeZ c n x)), .bool true]) ∧ Below w.heap.size w w'
      have ET := ER true hz
      clear ER hz
      rcases seen_of hv hq with rfl | ⟨i, hi⟩
      · exact refW_mac c (writeZ c 769 x) 769 p x w hq rfl ⟨fun W => mac_769 c x W⟩ ET
      rcases ofI_cases hi with ⟨rfl, rfl⟩ | ⟨rfl, rfl⟩ | ⟨rfl, rfl⟩ | ⟨rfl, rfl⟩ | ⟨rfl, rfl⟩ | ⟨rfl, rfl⟩ | ⟨rfl, rfl⟩ | ⟨rfl, rfl⟩ | ⟨rfl, rfl⟩ | ⟨rfl, rfl⟩ | ⟨rfl, rfl⟩ | ⟨rfl, rfl⟩ | ⟨rfl, rfl⟩ | ⟨rfl, rfl⟩ | ⟨rfl, rfl⟩ | ⟨rfl, rfl⟩ | ⟨rfl, rfl⟩ | ⟨rfl, rfl⟩ | ⟨rfl, rfl⟩ | ⟨rfl, rfl⟩ | ⟨rfl, rfl⟩
      · exact refW_mac c (writeZ c 770 x) 770 p x w hq rfl ⟨fun W => mac_770 c _ x (valZ c 770 x 1) W (wr c 770 x 1 hi rfl) (v_770 h hx)⟩ ET
      · exact refW_mac c (writeZ c 771 x) 771 p x w hq rfl ⟨fun W => mac_771 c _ x (valZ c 771 x 2) W (wr c 771 x 2 hi rfl) (v_771 h hx)⟩ ET
      · exact refW_mac c (writeZ c 773 x) 773 p x w hq rfl ⟨fun W => mac_773 c _ x (valZ c 773 x 5) W (wr c 773 x 5 hi rfl) (v_773 h hx)⟩ ET
      · exact refW_sup c (writeZ c 261 x) 261 p x w hq rfl ⟨fun W => sup_261 c _ x (valZ c 261 x 10) W (wr c 261 x 10 hi rfl) (v_261 h hx)⟩ ET
      · exact refW_mac c (writeZ c 832 x) 832 p x w hq rfl ⟨fun W => mac_832 c _ x (valZ c 832 x 6) W (wr c 832 x 6 hi rfl) (v_832 h hx)⟩ ET
      · exact refW_sup c (writeZ c 320 x) 320 p x w hq rfl ⟨fun W => sup_320 c _ x (valZ c 320 x 11) W (wr c 320 x 11 hi rfl) (v_320 h hx)⟩ ET
      · exact refW_mac c (writeZ c 833 x) 833 p x w hq rfl ⟨fun W => mac_833 c _ x (valZ c 833 x 7) W (wr c 833 x 7 hi rfl) (v_833 h hx)⟩ ET
      · exact refW_sup c (writeZ c 321 x) 321 p x w hq rfl ⟨fun W => sup_321 c _ x (valZ c 321 x 12) W (wr c 321 x 12 hi rfl) (v_321 h hx)⟩ ET
      · exact refW_mac c (writeZ c 834 x) 834 p x w hq rfl ⟨fun W => mac_834 c _ x (valZ c 834 x 8) W (wr c 834 x 8 hi rfl) (v_834 h hx)⟩ ET
      · exact refW_sup c (writeZ c 322 x) 322 p x w hq rfl ⟨fun W => sup_322 c _ x (valZ c 322 x 13) W (wr c 322 x 13 hi rfl) (v_322 h hx)⟩ ET
      · exact refW_mac c (writeZ c 835 x) 835 p x w hq rfl ⟨fun W => mac_835 c _ x (valZ c 835 x 9) W (wr c 835 x 9 hi rfl) (v_835 h hx)⟩ ET
      · exact refW_sup c (writeZ c 323 x) 323 p x w hq rfl ⟨fun W => sup_323 c _ x (valZ c 323 x 14) W (wr c 323 x 14 hi rfl) (v_323 h hx)⟩ ET
      · have hm : modeBad 384 x = ((x / 1152921504606846976 != 0) && (x / 1152921504606846976 != 8)) := rfl
        cases h0 : (x / 1152921504606846976 == 0) with
        | true => exact refW_sup c (writeZ c 384 x) 384 p x w hq rfl ⟨fun W => sup_384a c _ x _ W (wr c 384 x 15 hi (by rw [hm]; unfold bne; rw [h0]; rfl)) (v_384 h hx) h0⟩ ET
        | false =>
          cases h1 : (x / 1152921504606846976 == 8) with
          | true => exact refW_sup c (writeZ c 384 x) 384 p x w hq rfl ⟨fun W => sup_384b c _ x _ W (wr c 384 x 15 hi (by rw [hm]; unfold bne; rw [h0, h1]; rfl)) (v_384 h hx) h0 h1⟩ ET
          | false =>
            have e : writeZ c 384 x = c := by rw [write_is hi, hm]; unfold bne; rw [h0, h1]; rfl
            rw [e]
            exact refW_sup c c 384 p x w hq rfl ⟨fun W => sup_384c c x W h0 h1⟩ ET
      · exact refW_mac c (writeZ c 2816 x) 2816 p x w hq rfl ⟨fun W => mac_2816 c _ x (valZ c 2816 x 16) W (wr c 2816 x 16 hi rfl) (v_2816 h hx)⟩ ET
      · cases hq
      · exact refW_mac c (writeZ c 768 x) 768 p x w hq rfl ⟨fun W => mac_768 c _ x (valZ c 768 x 0) W (wr c 768 x 0 hi rfl) (v_768 h hx)⟩ ET
      · exact refW_sup c (writeZ c 256 x) 256 p x w hq rfl ⟨fun W => sup_256 c _ x (valZ c 256 x 0) W (wr c 256 x 0 hi rfl) rfl⟩ ET
      · exact refW_mac c (writeZ c 772 x) 772 p x w hq rfl ⟨fun W => mac_772 c _ x (valZ c 772 x 3) W (wr c 772 x 3 hi rfl) (v_772 h hx)⟩ ET
      · exact refW_sup c (writeZ c 260 x) 260 p x w hq rfl ⟨fun W => sup_260 c _ x (valZ c 260 x 3) W (wr c 260 x 3 hi rfl) rfl⟩ ET
      · exact refW_mac c (writeZ c 836 x) 836 p x w hq rfl ⟨fun W => mac_836 c _ x (valZ c 836 x 4) W (wr c 836 x 4 hi rfl) rfl⟩ ET
      · exact refW_sup c (writeZ c 324 x) 324 p x w hq rfl ⟨fun W => sup_324 c _ x (valZ c 324 x 4) W (wr c 324 x 4 hi rfl) rfl⟩ ET
end Go.Proofs.Ytncdhfigfbhohaa.Q
