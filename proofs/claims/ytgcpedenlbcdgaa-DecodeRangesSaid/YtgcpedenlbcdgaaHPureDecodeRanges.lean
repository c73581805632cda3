import Derived.Test.YtgcpedenlbcdgaaHSaidDecodeRanges
import Derived.Test.YtgcpedenlbcdgaaHPd4
import Derived.Test.YtgcpedenlbcdgaaWf
namespace Go.Proofs.Ytgcpedenlbcdgaa.Pure
open Go.RowKit Go.Proofs.Ytgcpedenlbcdgaa.Q Go.Proofs.YtgcpedenlbcdgaaW.PrintWords Go.Proofs.YtgcpedenlbcdgaaW.PrintLast Go.Proofs.YtgcpedenlbcdgaaW.PrintMore Go.Proofs.Ytgcpedenlbcdgaa.L
set_option linter.unusedVariables false
set_option linter.unusedSimpArgs false
theorem tm {m k : Int} (h : 0 ≤ m) : Int.tmod m k = m % k := Int.tmod_eq_emod_of_nonneg h
theorem r12 (y : Int) : decide (IntKind.u64.wrap (sextZ y 12 + 2048) < 4096) = true := by
  apply decide_eq_true
  rw [sx12, IntKind.wrap_u64]
  split <;> omega
theorem rsm {y : Int} (h : 0 ≤ y ∧ y < 2048) : decide (IntKind.u64.wrap (y + 2048) < 4096) = true := by
  apply decide_eq_true
  rw [IntKind.wrap_u64]
  omega
theorem r32 (F : Int) : ((Int.tmod (sextZ (F * 4096) 32) 4096 == 0) && decide (IntKind.u64.wrap (sextZ (F * 4096) 32 + 2147483648) < 4294967296)) = true := by
  rw [Bool.and_eq_true]
  refine ⟨?_, ?_⟩
  · rw [beq_iff_eq, sx32]
    split
    · rw [tm (by omega)]; omega
    · rw [tm (by omega)]; omega
  · apply decide_eq_true
    rw [sx32, IntKind.wrap_u64]
    split <;> omega
theorem r21 {y : Int} (hy : y % 2 = 0) : (!(Int.tmod (sextZ y 21) 2 != 0) && decide (IntKind.u64.wrap (sextZ y 21 + 1048576) < 2097152)) = true := by
  rw [Bool.and_eq_true]
  refine ⟨?_, ?_⟩
  · have : Int.tmod (sextZ y 21) 2 = 0 := by
      rw [sx21]
      split
      · rw [tm (by omega)]; omega
      · rw [tm (by omega)]; omega
    rw [this]; rfl
  · apply decide_eq_true
    rw [sx21, IntKind.wrap_u64]
    split <;> omega
theorem r13 {y : Int} (hy : y % 2 = 0) : (!(Int.tmod (sextZ y 13) 2 != 0) && decide (IntKind.u64.wrap (sextZ y 13 + 4096) < 8192)) = true := by
  rw [Bool.and_eq_true]
  refine ⟨?_, ?_⟩
  · have : Int.tmod (sextZ y 13) 2 = 0 := by
      rw [sx13]
      split
      · rw [tm (by omega)]; omega
      · rw [tm (by omega)]; omega
    rw [this]; rfl
  · apply decide_eq_true
    rw [sx13, IntKind.wrap_u64]
    split <;> omega
def ev (y : Int) : Prop := (0 ≤ y ∧ y < 18446744073709551616) ∧ y % 2 = 0
theorem ev_or {a b : Int} (ha : ev a) (hb : ev b) : ev (Go.bits .or .u64 a b) := by
  obtain ⟨⟨a0, a1⟩, a2⟩ := ha
  obtain ⟨⟨b0, b1⟩, b2⟩ := hb
  obtain ⟨A, rfl⟩ := Int.eq_ofNat_of_zero_le a0
  obtain ⟨B, rfl⟩ := Int.eq_ofNat_of_zero_le b0
  have hA : A < 18446744073709551616 := by omega
  have hB : B < 18446744073709551616 := by omega
  rw [u64_or_nat A B hA hB]
  have h1 := Nat.or_lt_two_pow (n := 64) (x := A) (y := B) (by omega) (by omega)
  have h2 : (A ||| B) % 2 = 0 := by
    have := Nat.or_mod_two_pow (a := A) (b := B) (n := 1)
    rw [Nat.pow_one, show A % 2 = 0 by omega, show B % 2 = 0 by omega] at this
    exact this
  exact ⟨⟨by omega, by omega⟩, by omega⟩
theorem ev_mul {x h l : Int} (hx : u32B x) (n : Nat) (h0 : 0 ≤ l) (h1 : l ≤ h) (h2 : h ≤ 63) (hn : (h - l + 1).toNat = n) (hs : n ≤ 16) (k : Int) (hk : k % 2 = 0) (k0 : 0 ≤ k) (k1 : k ≤ 2097152) : ev (fieldZ x h l * k) := by
  have hb := fieldZ_B x h l hx n h0 h1 h2 hn
  have h16 : (2 : Int) ^ n ≤ 2 ^ 16 := two_pow_mono hs
  have hF : fieldZ x h l < 65536 := by have := hb.2; omega
  have hle : fieldZ x h l * k ≤ 65536 * 2097152 := Int.mul_le_mul (by omega) k1 k0 (by omega)
  refine ⟨⟨Int.mul_nonneg hb.1 k0, by omega⟩, ?_⟩
  obtain ⟨j, rfl⟩ : ∃ j, k = 2 * j := ⟨k / 2, by omega⟩
  rw [← Int.mul_assoc, Int.mul_comm (fieldZ x h l) 2, Int.mul_assoc]
  omega
theorem rb4 (m : Int) : rngB 4 m = decide (IntKind.u64.wrap (m + 2048) < 4096) := by
  unfold rngB
  rw [if_neg (by decide), if_neg (by decide), if_neg (by decide), if_neg (by decide), show decide ((4 : Int) ≤ 4) = true by decide, show decide ((4 : Int) ≤ 13) = true by decide, Bool.true_and, Bool.true_and]
theorem rb6 (m : Int) : rngB 6 m = decide (IntKind.u64.wrap (m + 2048) < 4096) := by
  unfold rngB
  rw [if_neg (by decide), if_neg (by decide), if_neg (by decide), if_neg (by decide), show decide ((4 : Int) ≤ 6) = true by decide, show decide ((6 : Int) ≤ 13) = true by decide, Bool.true_and, Bool.true_and]
theorem rb7 (m : Int) : rngB 7 m = decide (IntKind.u64.wrap (m + 2048) < 4096) := by
  unfold rngB
  rw [if_neg (by decide), if_neg (by decide), if_neg (by decide), if_neg (by decide), show decide ((4 : Int) ≤ 7) = true by decide, show decide ((7 : Int) ≤ 13) = true by decide, Bool.true_and, Bool.true_and]
theorem rb8 (m : Int) : rngB 8 m = decide (IntKind.u64.wrap (m + 2048) < 4096) := by
  unfold rngB
  rw [if_neg (by decide), if_neg (by decide), if_neg (by decide), if_neg (by decide), show decide ((4 : Int) ≤ 8) = true by decide, show decide ((8 : Int) ≤ 13) = true by decide, Bool.true_and, Bool.true_and]
theorem rb9 (m : Int) : rngB 9 m = decide (IntKind.u64.wrap (m + 2048) < 4096) := by
  unfold rngB
  rw [if_neg (by decide), if_neg (by decide), if_neg (by decide), if_neg (by decide), show decide ((4 : Int) ≤ 9) = true by decide, show decide ((9 : Int) ≤ 13) = true by decide, Bool.true_and, Bool.true_and]
theorem rb10 (m : Int) : rngB 10 m = decide (IntKind.u64.wrap (m + 2048) < 4096) := by
  unfold rngB
  rw [if_neg (by decide), if_neg (by decide), if_neg (by decide), if_neg (by decide), show decide ((4 : Int) ≤ 10) = true by decide, show decide ((10 : Int) ≤ 13) = true by decide, Bool.true_and, Bool.true_and]
theorem rb11 (m : Int) : rngB 11 m = decide (IntKind.u64.wrap (m + 2048) < 4096) := by
  unfold rngB
  rw [if_neg (by decide), if_neg (by decide), if_neg (by decide), if_neg (by decide), show decide ((4 : Int) ≤ 11) = true by decide, show decide ((11 : Int) ≤ 13) = true by decide, Bool.true_and, Bool.true_and]
theorem rb13 (m : Int) : rngB 13 m = decide (IntKind.u64.wrap (m + 2048) < 4096) := by
  unfold rngB
  rw [if_neg (by decide), if_neg (by decide), if_neg (by decide), if_neg (by decide), show decide ((4 : Int) ≤ 13) = true by decide, show decide ((13 : Int) ≤ 13) = true by decide, Bool.true_and, Bool.true_and]
theorem rb1 (m : Int) : rngB 1 m = ((Int.tmod m 4096 == 0) && decide (IntKind.u64.wrap (m + 2147483648) < 4294967296)) := by
  unfold rngB
  rw [if_pos (by decide)]
theorem rb2 (m : Int) : rngB 2 m = ((Int.tmod m 4096 == 0) && decide (IntKind.u64.wrap (m + 2147483648) < 4294967296)) := by
  unfold rngB
  rw [if_pos (by decide)]
theorem rb3 (m : Int) : rngB 3 m = (!(Int.tmod m 2 != 0) && decide (IntKind.u64.wrap (m + 1048576) < 2097152)) := by
  unfold rngB
  rw [if_neg (by decide), if_pos (by decide)]
theorem rb5 (m : Int) : rngB 5 m = (!(Int.tmod m 2 != 0) && decide (IntKind.u64.wrap (m + 4096) < 8192)) := by
  unfold rngB
  rw [if_neg (by decide), if_neg (by decide), if_pos (by decide)]
theorem rb12 (m : Int) : rngB 12 m = decide (m < 4096) := by
  unfold rngB
  rw [if_neg (by decide), if_neg (by decide), if_neg (by decide), if_pos (by decide)]
theorem rng_all {x : Int} (hx : u32B x) (hk : takeK x = true) : rngB (takeI x).c (takeI x).m = true := by
  by_cases o55 : fieldZ x 6 0 = 55
  · rw [(at55 x o55).1]; dsimp only; rw [rb1]; exact r32 (fieldZ x 31 12)
  by_cases o23 : fieldZ x 6 0 = 23
  · rw [(at23 x o23).1]; dsimp only; rw [rb2]; exact r32 (fieldZ x 31 12)
  by_cases o111 : fieldZ x 6 0 = 111
  · rw [(at111 x o111).1]
    dsimp only; rw [rb3]; exact r21 (ev_or (ev_or (ev_or (ev_mul hx 1 (by decide) (by decide) (by decide) rfl (by decide) _ (by decide) (by decide) (by decide)) (ev_mul hx 8 (by decide) (by decide) (by decide) rfl (by decide) _ (by decide) (by decide) (by decide))) (ev_mul hx 1 (by decide) (by decide) (by decide) rfl (by decide) _ (by decide) (by decide) (by decide))) (ev_mul hx 10 (by decide) (by decide) (by decide) rfl (by decide) _ (by decide) (by decide) (by decide))).2
  by_cases o103 : fieldZ x 6 0 = 103
  · rw [(at103 x o103).1]; dsimp only; rw [rb4]; exact r12 (fieldZ x 31 20)
  by_cases o99 : fieldZ x 6 0 = 99
  · rw [(at99 x o99).1]
    dsimp only; rw [rb5]; exact r13 (ev_or (ev_or (ev_or (ev_mul hx 1 (by decide) (by decide) (by decide) rfl (by decide) _ (by decide) (by decide) (by decide)) (ev_mul hx 1 (by decide) (by decide) (by decide) rfl (by decide) _ (by decide) (by decide) (by decide))) (ev_mul hx 6 (by decide) (by decide) (by decide) rfl (by decide) _ (by decide) (by decide) (by decide))) (ev_mul hx 4 (by decide) (by decide) (by decide) rfl (by decide) _ (by decide) (by decide) (by decide))).2
  by_cases o3 : fieldZ x 6 0 = 3
  · rw [(at3 x o3).1]; dsimp only; rw [rb6]; exact r12 (fieldZ x 31 20)
  by_cases o35 : fieldZ x 6 0 = 35
  · rw [(at35 x o35).1]; dsimp only; rw [rb7]; exact r12 (Go.bits .or .u64 ((fieldZ x 31 25) * 32) (fieldZ x 11 7))
  by_cases o19 : fieldZ x 6 0 = 19
  · rw [(at19 x o19).1]
    have hb := fieldZ_B x 25 20 hx 6 (by decide) (by decide) (by decide) rfl
    split
    · exact (rb8 _).trans (rsm (y := fieldZ x 25 20) ⟨hb.1, by have := hb.2; omega⟩)
    · exact (rb8 _).trans (r12 (fieldZ x 31 20))
  by_cases o27 : fieldZ x 6 0 = 27
  · rw [(at27 x o27).1]
    have hb := fieldZ_B x 24 20 hx 5 (by decide) (by decide) (by decide) rfl
    split
    · exact (rb8 _).trans (rsm (y := fieldZ x 24 20) ⟨hb.1, by have := hb.2; omega⟩)
    · exact (rb8 _).trans (r12 (fieldZ x 31 20))
  by_cases o51 : fieldZ x 6 0 = 51
  · rw [(at51 x o51).1]; exact (rb9 _).trans (rsm (y := 0) ⟨by decide, by decide⟩)
  by_cases o59 : fieldZ x 6 0 = 59
  · rw [(at59 x o59).1]; exact (rb9 _).trans (rsm (y := 0) ⟨by decide, by decide⟩)
  by_cases o15 : fieldZ x 6 0 = 15
  · rw [(at15 x o15).1]; exact (rb10 _).trans (rsm (y := 0) ⟨by decide, by decide⟩)
  by_cases o115 : fieldZ x 6 0 = 115
  · have hk2 := hk
    rw [(at115 x o115).2] at hk2
    rw [(at115 x o115).1]
    have hb := fieldZ_B x 31 20 hx 12 (by decide) (by decide) (by decide) rfl
    unfold sysI
    unfold sysK at hk2
    split
    · exact (rb11 _).trans (rsm (y := 0) ⟨by decide, by decide⟩)
    · rename_i h0
      rw [if_neg h0] at hk2
      split
      · exact (rb11 _).trans (rsm (y := 0) ⟨by decide, by decide⟩)
      · rename_i h1
        rw [if_neg h1] at hk2
        split
        · rename_i h2
          rw [if_pos h2] at hk2; cases hk2
        · exact (rb12 _).trans (decide_eq_true (by have := hb.2; show fieldZ x 31 20 < 4096; omega))
  by_cases o47 : fieldZ x 6 0 = 47
  · rw [(at47 x o47).1]; exact (rb13 _).trans (rsm (y := 0) ⟨by decide, by decide⟩)
  rw [(at_none x o55 o23 o111 o103 o99 o3 o35 o19 o27 o51 o59 o15 o115 o47).2] at hk
  cases hk
/-- The plain law of DecodeRanges. -/
theorem DecodeRanges : DecodeRanges.Said := by
  intro x hw
  have hx : u32B x := by have := bounds_u32 hw; exact ⟨by omega, by omega⟩
  refine ⟨0, if_pos ⟨hx, fun hk => ⟨(back_all x hx hk).1, rng_all hx hk⟩⟩⟩
end Go.Proofs.Ytgcpedenlbcdgaa.Pure
