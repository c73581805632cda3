import Derived.Test.YtnlmndpdalgppaaHRentS
import Derived.Test.YtnlmndpdalgppaaHRentM
import Derived.Test.YtnlmndpdalgppaaHRmret
import Derived.Test.YtnlmndpdalgppaaHRsret
/- The document's Enter, Mret and Sret (layer 6), as printed callers have them. -/
namespace Go.Proofs.Ytnlmndpdalgppaa.Q
open Go.RowKit Go.Proofs.YtnlmndpdalgppaaW.PrintWords Go.Proofs.YtnlmndpdalgppaaW.PrintLast Go.Proofs.YtnlmndpdalgppaaW.PrintMore Go.Proofs.Ytnlmndpdalgppaa.L
attribute [local go_sem] Instr.field part asAgg lt_step max2_int min2_int max_two min_two max_three min_three max_four min_four lt_0_1 lt_0_2 lt_1_2 lt_0_3 lt_1_3 lt_2_3 lt_0_4 lt_1_4 lt_2_4 lt_3_4 lt_0_5 lt_1_5 lt_2_5 lt_3_5 lt_4_5 lt_0_6 lt_1_6 lt_2_6 lt_3_6 lt_4_6 lt_5_6 lt_0_7 lt_1_7 lt_2_7 lt_3_7 lt_4_7 lt_5_7 lt_6_7 lt_0_8 lt_1_8 lt_2_8 lt_3_8 lt_4_8 lt_5_8 lt_6_8 lt_7_8
set_option linter.unusedVariables false
set_option linter.unusedSimpArgs false
theorem mretP_is (s : Int) (hs : u64B s) : mretP s = s / 2048 % 4 ∧ 0 ≤ mretP s ∧ mretP s ≤ 3 := by
  have hd : u64B (s / 2048) := by have := div_B s 11 hs; simpa using this
  unfold mretP
  rw [and3 _ hd]
  have h0 := hd.1
  rw [show wrap64 (s / 2048 % 4) = s / 2048 % 4 by unfold wrap64; omega]
  exact ⟨rfl, by omega, by omega⟩
def drawbridgeref06_Mret.f (a0_0 : Int) (a0_1 : Int) (a0_2 : Int) (a0_3 : Int) (a0_4 : Int) (a0_5 : Int) (a0_6 : Int) (a0_7 : Int) (a0_8 : Int) (a0_9 : Int) (a0_10 : Int) (a0_11 : Int) (a0_12 : Int) (a0_13 : Int) (a0_14 : Int) (a0_15 : Int) (a0_16 : Int) : Option (Int × Int × Int × Int × Int × Int × Int × Int × Int × Int × Int × Int × Int × Int × Int × Int × Int × Int × Int) := if u64B a0_0 then trap_Mret.f a0_0 a0_1 a0_2 a0_3 a0_4 a0_5 a0_6 a0_7 a0_8 a0_9 a0_10 a0_11 a0_12 a0_13 a0_14 a0_15 a0_16 else none
theorem drawbridgeref06_Mret.calls (a0_0 : Int) (a0_1 : Int) (a0_2 : Int) (a0_3 : Int) (a0_4 : Int) (a0_5 : Int) (a0_6 : Int) (a0_7 : Int) (a0_8 : Int) (a0_9 : Int) (a0_10 : Int) (a0_11 : Int) (a0_12 : Int) (a0_13 : Int) (a0_14 : Int) (a0_15 : Int) (a0_16 : Int) (r1 : Int) (r2 : Int) (r3 : Int) (r4 : Int) (r5 : Int) (r6 : Int) (r7 : Int) (r8 : Int) (r9 : Int) (r10 : Int) (r11 : Int) (r12 : Int) (r13 : Int) (r14 : Int) (r15 : Int) (r16 : Int) (r17 : Int) (r18 : Int) (r19 : Int) (w : World) (h : drawbridgeref06_Mret.f a0_0 a0_1 a0_2 a0_3 a0_4 a0_5 a0_6 a0_7 a0_8 a0_9 a0_10 a0_11 a0_12 a0_13 a0_14 a0_15 a0_16 = some (r1, r2, r3, r4, r5, r6, r7, r8, r9, r10, r11, r12, r13, r14, r15, r16, r17, r18, r19)) :
    Calls Try.prog 13 #[.agg #[.int .u64 a0_0, .int .u64 a0_1, .int .u64 a0_2, .int .u64 a0_3, .int .u64 a0_4, .int .u64 a0_5, .int .u64 a0_6, .int .u64 a0_7, .int .u64 a0_8, .int .u64 a0_9, .int .u64 a0_10, .int .u64 a0_11, .int .u64 a0_12, .int .u64 a0_13, .int .u64 a0_14, .int .u64 a0_15, .int .u64 a0_16]] w fun e w' => e = .returned (.tuple #[.agg #[.int .u64 r1, .int .u64 r2, .int .u64 r3, .int .u64 r4, .int .u64 r5, .int .u64 r6, .int .u64 r7, .int .u64 r8, .int .u64 r9, .int .u64 r10, .int .u64 r11, .int .u64 r12, .int .u64 r13, .int .u64 r14, .int .u64 r15, .int .u64 r16, .int .u64 r17], .int .i64 r18, .int .u64 r19]) ∧ Below w.heap.size w w' := by
  unfold drawbridgeref06_Mret.f at h
  by_cases hg : u64B a0_0
  case neg => rw [if_neg hg] at h; cases h
  rw [if_pos hg] at h
  have hs := hg
  unfold trap_Mret.f at h
  simp only [Option.some.injEq, Prod.mk.injEq] at h
  obtain ⟨rfl, rfl, rfl, rfl, rfl, rfl, rfl, rfl, rfl, rfl, rfl, rfl, rfl, rfl, rfl, rfl, rfl, rfl, rfl⟩ := h
  obtain ⟨hP, hP0, hP3⟩ := mretP_is a0_0 hs
  have hd : u64B (a0_0 / 2048) := by have := div_B a0_0 11 hs; simpa using this
  have hm : wrap64 (Int.tmod (a0_0 / 2048) 4) = mretP a0_0 := by rw [tmod_pos _ _ hd.1, ← hP]; unfold wrap64; omega
  have h7 := bitZ_01 a0_0 7 7 hs rfl (by decide)
  have B1 := setZ_B a0_0 3 _ hs (B01 h7) (by decide)
  have B2 := setZ_B _ 7 _ B1 B_1 (by decide)
  have B3 := setZ_B _ 11 _ B2 B_0 (by decide)
  have B4 := setZ_B _ 12 _ B3 B_0 (by decide)
  by_cases hc : mretP a0_0 < 3
  · rw [show mretS a0_0 = setZ (mretB a0_0) 17 0 from if_pos hc]
    exact rmret_lo a0_0 a0_1 a0_2 a0_3 a0_4 a0_5 a0_6 a0_7 a0_8 a0_9 a0_10 a0_11 a0_12 a0_13 a0_14 a0_15 a0_16 w _ _ _ _ _ hs hm rfl rfl (clr_mpp _ B2) (bne_iff_ne.mpr (by omega)) rfl B1 B4
  · rw [show mretS a0_0 = mretB a0_0 from if_neg hc]
    exact rmret_hi a0_0 a0_1 a0_2 a0_3 a0_4 a0_5 a0_6 a0_7 a0_8 a0_9 a0_10 a0_11 a0_12 a0_13 a0_14 a0_15 a0_16 w _ _ _ _ hs hm rfl rfl (clr_mpp _ B2) (bne_eq_false_iff_eq.mpr (by omega)) B1 B4
def drawbridgeref06_Sret.f (a0_0 : Int) (a0_1 : Int) (a0_2 : Int) (a0_3 : Int) (a0_4 : Int) (a0_5 : Int) (a0_6 : Int) (a0_7 : Int) (a0_8 : Int) (a0_9 : Int) (a0_10 : Int) (a0_11 : Int) (a0_12 : Int) (a0_13 : Int) (a0_14 : Int) (a0_15 : Int) (a0_16 : Int) : Option (Int × Int × Int × Int × Int × Int × Int × Int × Int × Int × Int × Int × Int × Int × Int × Int × Int × Int × Int) := if u64B a0_0 then trap_Sret.f a0_0 a0_1 a0_2 a0_3 a0_4 a0_5 a0_6 a0_7 a0_8 a0_9 a0_10 a0_11 a0_12 a0_13 a0_14 a0_15 a0_16 else none
theorem drawbridgeref06_Sret.calls (a0_0 : Int) (a0_1 : Int) (a0_2 : Int) (a0_3 : Int) (a0_4 : Int) (a0_5 : Int) (a0_6 : Int) (a0_7 : Int) (a0_8 : Int) (a0_9 : Int) (a0_10 : Int) (a0_11 : Int) (a0_12 : Int) (a0_13 : Int) (a0_14 : Int) (a0_15 : Int) (a0_16 : Int) (r1 : Int) (r2 : Int) (r3 : Int) (r4 : Int) (r5 : Int) (r6 : Int) (r7 : Int) (r8 : Int) (r9 : Int) (r10 : Int) (r11 : Int) (r12 : Int) (r13 : Int) (r14 : Int) (r15 : Int) (r16 : Int) (r17 : Int) (r18 : Int) (r19 : Int) (w : World) (h : drawbridgeref06_Sret.f a0_0 a0_1 a0_2 a0_3 a0_4 a0_5 a0_6 a0_7 a0_8 a0_9 a0_10 a0_11 a0_12 a0_13 a0_14 a0_15 a0_16 = some (r1, r2, r3, r4, r5, r6, r7, r8, r9, r10, r11, r12, r13, r14, r15, r16, r17, r18, r19)) :
    Calls Try.prog 15 #[.agg #[.int .u64 a0_0, .int .u64 a0_1, .int .u64 a0_2, .int .u64 a0_3, .int .u64 a0_4, .int .u64 a0_5, .int .u64 a0_6, .int .u64 a0_7, .int .u64 a0_8, .int .u64 a0_9, .int .u64 a0_10, .int .u64 a0_11, .int .u64 a0_12, .int .u64 a0_13, .int .u64 a0_14, .int .u64 a0_15, .int .u64 a0_16]] w fun e w' => e = .returned (.tuple #[.agg #[.int .u64 r1, .int .u64 r2, .int .u64 r3, .int .u64 r4, .int .u64 r5, .int .u64 r6, .int .u64 r7, .int .u64 r8, .int .u64 r9, .int .u64 r10, .int .u64 r11, .int .u64 r12, .int .u64 r13, .int .u64 r14, .int .u64 r15, .int .u64 r16, .int .u64 r17], .int .i64 r18, .int .u64 r19]) ∧ Below w.heap.size w w' := by
  unfold drawbridgeref06_Sret.f at h
  by_cases hg : u64B a0_0
  case neg => rw [if_neg hg] at h; cases h
  rw [if_pos hg] at h
  have hs := hg
  unfold trap_Sret.f at h
  simp only [Option.some.injEq, Prod.mk.injEq] at h
  obtain ⟨rfl, rfl, rfl, rfl, rfl, rfl, rfl, rfl, rfl, rfl, rfl, rfl, rfl, rfl, rfl, rfl, rfl, rfl, rfl⟩ := h
  have h5 := bitZ_01 a0_0 5 5 hs rfl (by decide)
  have B1 := setZ_B a0_0 1 _ hs (B01 h5) (by decide)
  have B2 := setZ_B _ 5 _ B1 B_1 (by decide)
  have B3 := setZ_B _ 8 _ B2 B_0 (by decide)
  exact rsret a0_0 a0_1 a0_2 a0_3 a0_4 a0_5 a0_6 a0_7 a0_8 a0_9 a0_10 a0_11 a0_12 a0_13 a0_14 a0_15 a0_16 w _ _ _ _ _ hs rfl rfl rfl rfl rfl B1 B2 B3
def drawbridgeref06_Enter.f (a0_0 : Int) (a0_1 : Int) (a0_2 : Int) (a0_3 : Int) (a0_4 : Int) (a0_5 : Int) (a0_6 : Int) (a0_7 : Int) (a0_8 : Int) (a0_9 : Int) (a0_10 : Int) (a0_11 : Int) (a0_12 : Int) (a0_13 : Int) (a0_14 : Int) (a0_15 : Int) (a0_16 : Int) (a1 a2 a3 : Int) (a4 : Bool) (a5 : Int) : Option (Int × Int × Int × Int × Int × Int × Int × Int × Int × Int × Int × Int × Int × Int × Int × Int × Int × Int × Int) := if u64B a0_0 ∧ u64B a0_1 ∧ u64B a0_2 ∧ u64B a0_5 ∧ u64B a0_10 then trap_Enter.f a0_0 a0_1 a0_2 a0_3 a0_4 a0_5 a0_6 a0_7 a0_8 a0_9 a0_10 a0_11 a0_12 a0_13 a0_14 a0_15 a0_16 a1 a2 a3 a4 a5 else none
theorem drawbridgeref06_Enter.calls (a0_0 : Int) (a0_1 : Int) (a0_2 : Int) (a0_3 : Int) (a0_4 : Int) (a0_5 : Int) (a0_6 : Int) (a0_7 : Int) (a0_8 : Int) (a0_9 : Int) (a0_10 : Int) (a0_11 : Int) (a0_12 : Int) (a0_13 : Int) (a0_14 : Int) (a0_15 : Int) (a0_16 : Int) (a1 a2 a3 : Int) (a4 : Bool) (a5 : Int) (r1 : Int) (r2 : Int) (r3 : Int) (r4 : Int) (r5 : Int) (r6 : Int) (r7 : Int) (r8 : Int) (r9 : Int) (r10 : Int) (r11 : Int) (r12 : Int) (r13 : Int) (r14 : Int) (r15 : Int) (r16 : Int) (r17 : Int) (r18 : Int) (r19 : Int) (w : World) (h : drawbridgeref06_Enter.f a0_0 a0_1 a0_2 a0_3 a0_4 a0_5 a0_6 a0_7 a0_8 a0_9 a0_10 a0_11 a0_12 a0_13 a0_14 a0_15 a0_16 a1 a2 a3 a4 a5 = some (r1, r2, r3, r4, r5, r6, r7, r8, r9, r10, r11, r12, r13, r14, r15, r16, r17, r18, r19)) :
    Calls Try.prog 11 #[.agg #[.int .u64 a0_0, .int .u64 a0_1, .int .u64 a0_2, .int .u64 a0_3, .int .u64 a0_4, .int .u64 a0_5, .int .u64 a0_6, .int .u64 a0_7, .int .u64 a0_8, .int .u64 a0_9, .int .u64 a0_10, .int .u64 a0_11, .int .u64 a0_12, .int .u64 a0_13, .int .u64 a0_14, .int .u64 a0_15, .int .u64 a0_16], .int .i64 a1, .int .u64 a2, .int .i64 a3, .bool a4, .int .u64 a5] w fun e w' => e = .returned (.tuple #[.agg #[.int .u64 r1, .int .u64 r2, .int .u64 r3, .int .u64 r4, .int .u64 r5, .int .u64 r6, .int .u64 r7, .int .u64 r8, .int .u64 r9, .int .u64 r10, .int .u64 r11, .int .u64 r12, .int .u64 r13, .int .u64 r14, .int .u64 r15, .int .u64 r16, .int .u64 r17], .int .i64 r18, .int .u64 r19]) ∧ Below w.heap.size w w' := by
  unfold drawbridgeref06_Enter.f at h
  by_cases hg : u64B a0_0 ∧ u64B a0_1 ∧ u64B a0_2 ∧ u64B a0_5 ∧ u64B a0_10
  case neg => rw [if_neg hg] at h; cases h
  rw [if_pos hg] at h
  obtain ⟨hs, g1, g2, g5, g10⟩ := hg
  have hc := wrap_B a3
  have hw := wrap_B a1
  have hD : u64B (if a4 = true then a0_2 else a0_1) := by split <;> assumption
  have hd : downZ a0_1 a0_2 a1 a3 a4 = (decide (a1 ≤ 1) && (bitZ (if a4 = true then a0_2 else a0_1) (wrap64 (Int.tmod (IntKind.u64.wrap a3) 64)) == 1)) := by
    unfold downZ delegZ; rw [and63 _ hc, tmod_pos _ _ hc.1]
  unfold trap_Enter.f at h
  cases hdd : downZ a0_1 a0_2 a1 a3 a4
  · rw [hdd, if_neg (by decide)] at h
    simp only [Option.some.injEq, Prod.mk.injEq] at h
    obtain ⟨rfl, rfl, rfl, rfl, rfl, rfl, rfl, rfl, rfl, rfl, rfl, rfl, rfl, rfl, rfl, rfl, rfl, rfl, rfl⟩ := h
    obtain ⟨hq, hq3⟩ := privZ_is a1
    have k3 := bitZ_01 a0_0 3 3 hs rfl (by decide)
    have B1 := setZ_B a0_0 7 _ hs (B01 k3) (by decide)
    have B2 := setZ_B _ 3 _ B1 B_0 (by decide)
    exact rent_M a0_0 a0_1 a0_2 a0_3 a0_4 a0_5 a0_6 a0_7 a0_8 a0_9 a0_10 a0_11 a0_12 a0_13 a0_14 a0_15 a0_16 a1 a2 a3 a5 a4 w _ _ _ _ _ (privZ a1) hs rfl rfl (hd.symm.trans hdd) hD g5 B1 B2 rfl rfl (by rw [tmod_pos _ _ hw.1]; exact hq.symm) (refmpp_is _ _ B2 hq3)
  · rw [hdd, if_pos rfl] at h
    simp only [Option.some.injEq, Prod.mk.injEq] at h
    obtain ⟨rfl, rfl, rfl, rfl, rfl, rfl, rfl, rfl, rfl, rfl, rfl, rfl, rfl, rfl, rfl, rfl, rfl, rfl, rfl⟩ := h
    have k1 := bitZ_01 a0_0 1 1 hs rfl (by decide)
    have B1 := setZ_B a0_0 5 _ hs (B01 k1) (by decide)
    have B2 := setZ_B _ 1 _ B1 B_0 (by decide)
    have hp2 : Int.tmod (IntKind.u64.wrap a1) 2 = 0 ∨ Int.tmod (IntKind.u64.wrap a1) 2 = 1 := by rw [tmod_pos _ _ hw.1]; omega
    have he : setZ (setZ (setZ a0_0 5 (bitZ a0_0 1)) 1 0) 8 (Int.tmod (IntKind.u64.wrap a1) 2) = enterSs a0_0 a1 := by
      unfold enterSs
      refine setZ_odd _ 8 _ _ (B01 hp2) hw (by decide) ?_
      rw [tmod_pos _ _ hw.1]; omega
    exact rent_S a0_0 a0_1 a0_2 a0_3 a0_4 a0_5 a0_6 a0_7 a0_8 a0_9 a0_10 a0_11 a0_12 a0_13 a0_14 a0_15 a0_16 a1 a2 a3 a5 a4 w _ _ _ _ _ hs rfl rfl (hd.symm.trans hdd) hD g10 B1 B2 rfl rfl he hp2
end Go.Proofs.Ytnlmndpdalgppaa.Q
