import Derived.Test.YtgcpedenlbcdgaaHSaidDecodeShort
import Derived.Test.YtgcpedenlbcdgaaHZ6
namespace Go.Proofs.Ytgcpedenlbcdgaa.Pure
open Go.RowKit Go.Proofs.Ytgcpedenlbcdgaa.Q Go.Proofs.YtgcpedenlbcdgaaW.PrintWords Go.Proofs.YtgcpedenlbcdgaaW.PrintLast Go.Proofs.YtgcpedenlbcdgaaW.PrintMore Go.Proofs.Ytgcpedenlbcdgaa.L
set_option linter.unusedVariables false
set_option linter.unusedSimpArgs false
theorem sh_one (n : Nat) (i : Nat) (h : all4 chk16 5 i = true) (h1 : 1024 * i ≤ n) (h2 : n < 1024 * i + 1024) : chk16 n = true := all4_at 5 i n h h1 h2
theorem sh_all (n : Nat) (hn : n < 65536) : chk16 n = true := by
  by_cases q0 : n < 1024
  · exact sh_one n 0 sh_0 (by omega) (by omega)
  by_cases q1 : n < 2048
  · exact sh_one n 1 sh_1 (by omega) (by omega)
  by_cases q2 : n < 3072
  · exact sh_one n 2 sh_2 (by omega) (by omega)
  by_cases q3 : n < 4096
  · exact sh_one n 3 sh_3 (by omega) (by omega)
  by_cases q4 : n < 5120
  · exact sh_one n 4 sh_4 (by omega) (by omega)
  by_cases q5 : n < 6144
  · exact sh_one n 5 sh_5 (by omega) (by omega)
  by_cases q6 : n < 7168
  · exact sh_one n 6 sh_6 (by omega) (by omega)
  by_cases q7 : n < 8192
  · exact sh_one n 7 sh_7 (by omega) (by omega)
  by_cases q8 : n < 9216
  · exact sh_one n 8 sh_8 (by omega) (by omega)
  by_cases q9 : n < 10240
  · exact sh_one n 9 sh_9 (by omega) (by omega)
  by_cases q10 : n < 11264
  · exact sh_one n 10 sh_10 (by omega) (by omega)
  by_cases q11 : n < 12288
  · exact sh_one n 11 sh_11 (by omega) (by omega)
  by_cases q12 : n < 13312
  · exact sh_one n 12 sh_12 (by omega) (by omega)
  by_cases q13 : n < 14336
  · exact sh_one n 13 sh_13 (by omega) (by omega)
  by_cases q14 : n < 15360
  · exact sh_one n 14 sh_14 (by omega) (by omega)
  by_cases q15 : n < 16384
  · exact sh_one n 15 sh_15 (by omega) (by omega)
  by_cases q16 : n < 17408
  · exact sh_one n 16 sh_16 (by omega) (by omega)
  by_cases q17 : n < 18432
  · exact sh_one n 17 sh_17 (by omega) (by omega)
  by_cases q18 : n < 19456
  · exact sh_one n 18 sh_18 (by omega) (by omega)
  by_cases q19 : n < 20480
  · exact sh_one n 19 sh_19 (by omega) (by omega)
  by_cases q20 : n < 21504
  · exact sh_one n 20 sh_20 (by omega) (by omega)
  by_cases q21 : n < 22528
  · exact sh_one n 21 sh_21 (by omega) (by omega)
  by_cases q22 : n < 23552
  · exact sh_one n 22 sh_22 (by omega) (by omega)
  by_cases q23 : n < 24576
  · exact sh_one n 23 sh_23 (by omega) (by omega)
  by_cases q24 : n < 25600
  · exact sh_one n 24 sh_24 (by omega) (by omega)
  by_cases q25 : n < 26624
  · exact sh_one n 25 sh_25 (by omega) (by omega)
  by_cases q26 : n < 27648
  · exact sh_one n 26 sh_26 (by omega) (by omega)
  by_cases q27 : n < 28672
  · exact sh_one n 27 sh_27 (by omega) (by omega)
  by_cases q28 : n < 29696
  · exact sh_one n 28 sh_28 (by omega) (by omega)
  by_cases q29 : n < 30720
  · exact sh_one n 29 sh_29 (by omega) (by omega)
  by_cases q30 : n < 31744
  · exact sh_one n 30 sh_30 (by omega) (by omega)
  by_cases q31 : n < 32768
  · exact sh_one n 31 sh_31 (by omega) (by omega)
  by_cases q32 : n < 33792
  · exact sh_one n 32 sh_32 (by omega) (by omega)
  by_cases q33 : n < 34816
  · exact sh_one n 33 sh_33 (by omega) (by omega)
  by_cases q34 : n < 35840
  · exact sh_one n 34 sh_34 (by omega) (by omega)
  by_cases q35 : n < 36864
  · exact sh_one n 35 sh_35 (by omega) (by omega)
  by_cases q36 : n < 37888
  · exact sh_one n 36 sh_36 (by omega) (by omega)
  by_cases q37 : n < 38912
  · exact sh_one n 37 sh_37 (by omega) (by omega)
  by_cases q38 : n < 39936
  · exact sh_one n 38 sh_38 (by omega) (by omega)
  by_cases q39 : n < 40960
  · exact sh_one n 39 sh_39 (by omega) (by omega)
  by_cases q40 : n < 41984
  · exact sh_one n 40 sh_40 (by omega) (by omega)
  by_cases q41 : n < 43008
  · exact sh_one n 41 sh_41 (by omega) (by omega)
  by_cases q42 : n < 44032
  · exact sh_one n 42 sh_42 (by omega) (by omega)
  by_cases q43 : n < 45056
  · exact sh_one n 43 sh_43 (by omega) (by omega)
  by_cases q44 : n < 46080
  · exact sh_one n 44 sh_44 (by omega) (by omega)
  by_cases q45 : n < 47104
  · exact sh_one n 45 sh_45 (by omega) (by omega)
  by_cases q46 : n < 48128
  · exact sh_one n 46 sh_46 (by omega) (by omega)
  by_cases q47 : n < 49152
  · exact sh_one n 47 sh_47 (by omega) (by omega)
  by_cases q48 : n < 50176
  · exact sh_one n 48 sh_48 (by omega) (by omega)
  by_cases q49 : n < 51200
  · exact sh_one n 49 sh_49 (by omega) (by omega)
  by_cases q50 : n < 52224
  · exact sh_one n 50 sh_50 (by omega) (by omega)
  by_cases q51 : n < 53248
  · exact sh_one n 51 sh_51 (by omega) (by omega)
  by_cases q52 : n < 54272
  · exact sh_one n 52 sh_52 (by omega) (by omega)
  by_cases q53 : n < 55296
  · exact sh_one n 53 sh_53 (by omega) (by omega)
  by_cases q54 : n < 56320
  · exact sh_one n 54 sh_54 (by omega) (by omega)
  by_cases q55 : n < 57344
  · exact sh_one n 55 sh_55 (by omega) (by omega)
  by_cases q56 : n < 58368
  · exact sh_one n 56 sh_56 (by omega) (by omega)
  by_cases q57 : n < 59392
  · exact sh_one n 57 sh_57 (by omega) (by omega)
  by_cases q58 : n < 60416
  · exact sh_one n 58 sh_58 (by omega) (by omega)
  by_cases q59 : n < 61440
  · exact sh_one n 59 sh_59 (by omega) (by omega)
  by_cases q60 : n < 62464
  · exact sh_one n 60 sh_60 (by omega) (by omega)
  by_cases q61 : n < 63488
  · exact sh_one n 61 sh_61 (by omega) (by omega)
  by_cases q62 : n < 64512
  · exact sh_one n 62 sh_62 (by omega) (by omega)
  exact sh_one n 63 sh_63 (by omega) (by omega)
/-- The plain law of DecodeShort. -/
theorem DecodeShort : DecodeShort.Said := by
  intro x hw
  have hb : 0 ≤ x ∧ x < 65536 := by have := bounds_u16 hw; exact ⟨by omega, by omega⟩
  refine ⟨3, ?_⟩
  have hc := sh_all x.toNat (by omega)
  unfold chk16 at hc
  rw [Int.toNat_of_nonneg hb.1] at hc
  unfold drawbridgelaw03_DecodeShort.f
  cases he : drawbridgeref02_Expand.f 3 x with
  | none => rw [he] at hc; cases hc
  | some r =>
    obtain ⟨w, ok⟩ := r
    rw [he] at hc
    rw [Option.bind_some]
    cases ok with
    | false => refine (if_neg Bool.false_ne_true).trans ?_; rw [drawbridgelaw03_heads.tells]; rfl
    | true =>
      simp only [Bool.not_true, Bool.false_or, Bool.and_eq_true, decide_eq_true_eq] at hc
      obtain ⟨h0, h1, hk, h2, h3⟩ := hc
      refine (if_pos rfl).trans ?_
      have hd : decode_Decode.f w = some ((decI w).c, (decI w).f, (decI w).b, (decI w).rd, (decI w).r1, (decI w).r2, (decI w).m, takeK w) := if_pos ⟨h0, h1⟩
      rw [hd, Option.bind_some]
      have hi : decI w = takeI w := by unfold decI; rw [hk]; rfl
      rw [hi]
      refine (if_pos hk).trans ?_
      refine (if_pos h2).trans ?_
      refine (if_pos h3).trans ?_
      rw [drawbridgelaw03_heads.tells]; rfl
end Go.Proofs.Ytgcpedenlbcdgaa.Pure
