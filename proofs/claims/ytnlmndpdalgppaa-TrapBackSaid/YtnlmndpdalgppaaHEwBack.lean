import Derived.Test.YtnlmndpdalgppaaHEwBk
/- TrapBack, joined: the walks and the plain facts. -/
namespace Go.Proofs.Ytnlmndpdalgppaa.Q
open Go.RowKit Go.Proofs.YtnlmndpdalgppaaW.PrintWords Go.Proofs.YtnlmndpdalgppaaW.PrintLast Go.Proofs.YtnlmndpdalgppaaW.PrintMore Go.Proofs.Ytnlmndpdalgppaa.L
attribute [local go_sem] Instr.field part asAgg lt_step max2_int min2_int max_two min_two max_three min_three max_four min_four lt_0_1 lt_0_2 lt_1_2 lt_0_3 lt_1_3 lt_2_3 lt_0_4 lt_1_4 lt_2_4 lt_3_4 lt_0_5 lt_1_5 lt_2_5 lt_3_5 lt_4_5 lt_0_6 lt_1_6 lt_2_6 lt_3_6 lt_4_6 lt_5_6 lt_0_7 lt_1_7 lt_2_7 lt_3_7 lt_4_7 lt_5_7 lt_6_7 lt_0_8 lt_1_8 lt_2_8 lt_3_8 lt_4_8 lt_5_8 lt_6_8 lt_7_8
set_option linter.unusedVariables false
set_option linter.unusedSimpArgs false
theorem chk_new (s s' a1 a2 a3 a4 a5 a7 a10 a12 a15 a7' a12' : Int) (hk : chkZ s a1 a2 a3 a4 a5 a7 a10 a12 a15 = true) (hs : s' = statusZ s') (h7 : a7' = a7 ∨ Go.bits .and .u64 a7' 1 = 0) (h12 : a12' = a12 ∨ Go.bits .and .u64 a12' 1 = 0) : chkZ s' a1 a2 a3 a4 a5 a7' a10 a12' a15 = true := by
  unfold chkZ chkA chkB at hk ⊢
  simp only [Bool.and_eq_true] at hk ⊢
  obtain ⟨⟨h1, h2a, h2b, h2c, h2d⟩, h3, h4, h5, h6, hsat⟩ := hk
  have e7 : (Go.bits .and .u64 a7' 1 == 0) = true := by rcases h7 with h | h; rw [h]; exact h5; exact beq_iff_eq.mpr h
  have e12 : (Go.bits .and .u64 a12' 1 == 0) = true := by rcases h12 with h | h; rw [h]; exact h6; exact beq_iff_eq.mpr h
  exact ⟨⟨beq_iff_eq.mpr hs, h2a, h2b, h2c, h2d⟩, h3, h4, e7, e12, hsat⟩
theorem chk_ok (s a1 a2 a3 a4 a5 a7 a10 a12 a15 : Int) (hs : u64B s) (hk : chkZ s a1 a2 a3 a4 a5 a7 a10 a12 a15 = true) : okS s := by
  unfold chkZ chkA at hk
  simp only [Bool.and_eq_true] at hk
  exact ok_status s hs (beq_iff_eq.mp hk.1.1)
theorem back_runs (a0_0 : Int) (a0_1 : Int) (a0_2 : Int) (a0_3 : Int) (a0_4 : Int) (a0_5 : Int) (a0_6 : Int) (a0_7 : Int) (a0_8 : Int) (a0_9 : Int) (a0_10 : Int) (a0_11 : Int) (a0_12 : Int) (a0_13 : Int) (a0_14 : Int) (a0_15 : Int) (a0_16 : Int) (a1 a2 a3 : Int) (a4 : Bool) (w : World) (h0 : u64B a0_0) (h5 : u64B a0_5) (h10 : u64B a0_10) (hpc : u64B a2) :
    Calls Try.prog 7 #[.agg #[.int .u64 a0_0, .int .u64 a0_1, .int .u64 a0_2, .int .u64 a0_3, .int .u64 a0_4, .int .u64 a0_5, .int .u64 a0_6, .int .u64 a0_7, .int .u64 a0_8, .int .u64 a0_9, .int .u64 a0_10, .int .u64 a0_11, .int .u64 a0_12, .int .u64 a0_13, .int .u64 a0_14, .int .u64 a0_15, .int .u64 a0_16], .int .i64 a1, .int .u64 a2, .int .i64 a3, .bool a4] w fun e w' => e = .returned (.bool true) ∧ Below w.heap.size w w' := by
  cases hk : chkZ a0_0 a0_1 a0_2 a0_3 a0_4 a0_5 a0_7 a0_10 a0_12 a0_15
  · exact back_no a0_0 a0_1 a0_2 a0_3 a0_4 a0_5 a0_6 a0_7 a0_8 a0_9 a0_10 a0_11 a0_12 a0_13 a0_14 a0_15 a0_16 a1 a2 a3 a4 w hk
  have ho := chk_ok _ _ _ _ _ _ _ _ _ _ h0 hk
  have hpz := clr0 a2 hpc
  by_cases p0 : a1 = 0
  · subst p0
    by_cases hd : downZ a0_1 a0_2 0 a3 a4 = true
    · have rB := (enterSs_is a0_0 h0 0).1
      have rT := (enterSs_is a0_0 h0 0).2
      have rO := (ok_enterS a0_0 h0 0 ho)
      have eB := (sretS_is _ rB).1
      have eT := (sretS_is _ rB).2
      have eO := ok_sretS _ rB rO
      have te : tb (sretS (enterSs a0_0 0)) 1 = tb a0_0 1 := by rw [eT 1, if_neg (by decide), if_neg (by decide), if_neg (by decide), if_pos rfl, rT 5, if_neg (by decide), if_neg (by decide), if_pos rfl]
      have tz : tb (enterSs a0_0 0) 1 = false := by rw [rT 1, if_neg (by decide), if_pos rfl]
      exact back_S0 a0_0 a0_1 a0_2 a0_3 a0_4 a0_5 a0_6 a0_7 a0_8 a0_9 a0_10 a0_11 a0_12 a0_13 a0_14 a0_15 a0_16 a2 a3 a4 w (enterSs a0_0 0) a0_1 a0_2 a0_3 a0_4 a0_5 a0_6 a0_7 a0_8 a0_9 a0_10 a0_11 (Go.bits .andNot .u64 a2 1) (whyZ a3 a4) 0 a0_15 a0_16 (placeZ a0_10 (IntKind.u64.wrap a3) a4) (mretS (enterSs a0_0 0)) a0_1 a0_2 a0_3 a0_4 a0_5 a0_6 a0_7 a0_8 a0_9 a0_10 a0_11 (Go.bits .andNot .u64 a2 1) (whyZ a3 a4) 0 a0_15 a0_16 (mretP (enterSs a0_0 0)) a0_7 (sretS (enterSs a0_0 0)) a0_1 a0_2 a0_3 a0_4 a0_5 a0_6 a0_7 a0_8 a0_9 a0_10 a0_11 (Go.bits .andNot .u64 a2 1) (whyZ a3 a4) 0 a0_15 a0_16 (by unfold trap_Enter.f; rw [if_pos hd]) rfl (by unfold trap_Sret.f; rw [sret_priv a0_0 0 h0 (by decide)]) hk (chk_new _ _ _ _ _ _ _ _ _ _ _ _ _ hk (status_ok _ rB rO) (.inl rfl) (.inr hpz)) (chk_new _ _ _ _ _ _ _ _ _ _ _ _ _ hk (status_ok _ eB eO) (.inl rfl) (.inr hpz)) (bne_eq_false_iff_eq.mpr (place_even _ _ _ h10)) (beq_iff_eq.mpr (let_eq _ _ 1 2 eB h0 (by decide) (by decide) te)) (beq_iff_eq.mpr (let_0 _ 1 2 rB (by decide) (by decide) tz))
    · have rB := (enterMs_is a0_0 h0 0).1
      have rT := (enterMs_is a0_0 h0 0).2
      have rO := (ok_enterM a0_0 h0 0 ho)
      have eB := (mretS_is _ rB).1
      have eT := (mretS_is _ rB).2.1
      have bT := (mretB_is _ rB).2
      have eO := ok_mretS _ rB rO
      have te : tb (mretS (enterMs a0_0 0)) 3 = tb a0_0 3 := by rw [eT 3 (by decide), bT 3, if_neg (by decide), if_neg (by decide), if_neg (by decide), if_pos rfl, rT 7, if_neg (by decide), if_neg (by decide), if_neg (by decide), if_pos rfl]
      have tz : tb (enterMs a0_0 0) 3 = false := by rw [rT 3, if_neg (by decide), if_neg (by decide), if_pos rfl]
      exact back_M0 a0_0 a0_1 a0_2 a0_3 a0_4 a0_5 a0_6 a0_7 a0_8 a0_9 a0_10 a0_11 a0_12 a0_13 a0_14 a0_15 a0_16 a2 a3 a4 w (enterMs a0_0 0) a0_1 a0_2 a0_3 a0_4 a0_5 a0_6 (Go.bits .andNot .u64 a2 1) (whyZ a3 a4) 0 a0_10 a0_11 a0_12 a0_13 a0_14 a0_15 a0_16 (placeZ a0_5 (IntKind.u64.wrap a3) a4) (mretS (enterMs a0_0 0)) a0_1 a0_2 a0_3 a0_4 a0_5 a0_6 (Go.bits .andNot .u64 a2 1) (whyZ a3 a4) 0 a0_10 a0_11 a0_12 a0_13 a0_14 a0_15 a0_16 (by unfold trap_Enter.f; rw [if_neg hd]) (by unfold trap_Mret.f; rw [mretP_enter a0_0 0 h0 (by decide)]) hk (chk_new _ _ _ _ _ _ _ _ _ _ _ _ _ hk (status_ok _ rB rO) (.inr hpz) (.inl rfl)) (chk_new _ _ _ _ _ _ _ _ _ _ _ _ _ hk (status_ok _ eB eO) (.inr hpz) (.inl rfl)) (bne_eq_false_iff_eq.mpr (place_even _ _ _ h5)) (beq_iff_eq.mpr (let_eq _ _ 3 8 eB h0 (by decide) (by decide) te)) (beq_iff_eq.mpr (let_0 _ 3 8 rB (by decide) (by decide) tz))
  by_cases p1 : a1 = 1
  · subst p1
    by_cases hd : downZ a0_1 a0_2 1 a3 a4 = true
    · have rB := (enterSs_is a0_0 h0 1).1
      have rT := (enterSs_is a0_0 h0 1).2
      have rO := (ok_enterS a0_0 h0 1 ho)
      have eB := (sretS_is _ rB).1
      have eT := (sretS_is _ rB).2
      have eO := ok_sretS _ rB rO
      have te : tb (sretS (enterSs a0_0 1)) 1 = tb a0_0 1 := by rw [eT 1, if_neg (by decide), if_neg (by decide), if_neg (by decide), if_pos rfl, rT 5, if_neg (by decide), if_neg (by decide), if_pos rfl]
      have tz : tb (enterSs a0_0 1) 1 = false := by rw [rT 1, if_neg (by decide), if_pos rfl]
      exact back_S1 a0_0 a0_1 a0_2 a0_3 a0_4 a0_5 a0_6 a0_7 a0_8 a0_9 a0_10 a0_11 a0_12 a0_13 a0_14 a0_15 a0_16 a2 a3 a4 w (enterSs a0_0 1) a0_1 a0_2 a0_3 a0_4 a0_5 a0_6 a0_7 a0_8 a0_9 a0_10 a0_11 (Go.bits .andNot .u64 a2 1) (whyZ a3 a4) 0 a0_15 a0_16 (placeZ a0_10 (IntKind.u64.wrap a3) a4) (mretS (enterSs a0_0 1)) a0_1 a0_2 a0_3 a0_4 a0_5 a0_6 a0_7 a0_8 a0_9 a0_10 a0_11 (Go.bits .andNot .u64 a2 1) (whyZ a3 a4) 0 a0_15 a0_16 (mretP (enterSs a0_0 1)) a0_7 (sretS (enterSs a0_0 1)) a0_1 a0_2 a0_3 a0_4 a0_5 a0_6 a0_7 a0_8 a0_9 a0_10 a0_11 (Go.bits .andNot .u64 a2 1) (whyZ a3 a4) 0 a0_15 a0_16 (by unfold trap_Enter.f; rw [if_pos hd]) rfl (by unfold trap_Sret.f; rw [sret_priv a0_0 1 h0 (by decide)]) hk (chk_new _ _ _ _ _ _ _ _ _ _ _ _ _ hk (status_ok _ rB rO) (.inl rfl) (.inr hpz)) (chk_new _ _ _ _ _ _ _ _ _ _ _ _ _ hk (status_ok _ eB eO) (.inl rfl) (.inr hpz)) (bne_eq_false_iff_eq.mpr (place_even _ _ _ h10)) (beq_iff_eq.mpr (let_eq _ _ 1 2 eB h0 (by decide) (by decide) te)) (beq_iff_eq.mpr (let_0 _ 1 2 rB (by decide) (by decide) tz))
    · have rB := (enterMs_is a0_0 h0 1).1
      have rT := (enterMs_is a0_0 h0 1).2
      have rO := (ok_enterM a0_0 h0 1 ho)
      have eB := (mretS_is _ rB).1
      have eT := (mretS_is _ rB).2.1
      have bT := (mretB_is _ rB).2
      have eO := ok_mretS _ rB rO
      have te : tb (mretS (enterMs a0_0 1)) 3 = tb a0_0 3 := by rw [eT 3 (by decide), bT 3, if_neg (by decide), if_neg (by decide), if_neg (by decide), if_pos rfl, rT 7, if_neg (by decide), if_neg (by decide), if_neg (by decide), if_pos rfl]
      have tz : tb (enterMs a0_0 1) 3 = false := by rw [rT 3, if_neg (by decide), if_neg (by decide), if_pos rfl]
      exact back_M1 a0_0 a0_1 a0_2 a0_3 a0_4 a0_5 a0_6 a0_7 a0_8 a0_9 a0_10 a0_11 a0_12 a0_13 a0_14 a0_15 a0_16 a2 a3 a4 w (enterMs a0_0 1) a0_1 a0_2 a0_3 a0_4 a0_5 a0_6 (Go.bits .andNot .u64 a2 1) (whyZ a3 a4) 0 a0_10 a0_11 a0_12 a0_13 a0_14 a0_15 a0_16 (placeZ a0_5 (IntKind.u64.wrap a3) a4) (mretS (enterMs a0_0 1)) a0_1 a0_2 a0_3 a0_4 a0_5 a0_6 (Go.bits .andNot .u64 a2 1) (whyZ a3 a4) 0 a0_10 a0_11 a0_12 a0_13 a0_14 a0_15 a0_16 (by unfold trap_Enter.f; rw [if_neg hd]) (by unfold trap_Mret.f; rw [mretP_enter a0_0 1 h0 (by decide)]) hk (chk_new _ _ _ _ _ _ _ _ _ _ _ _ _ hk (status_ok _ rB rO) (.inr hpz) (.inl rfl)) (chk_new _ _ _ _ _ _ _ _ _ _ _ _ _ hk (status_ok _ eB eO) (.inr hpz) (.inl rfl)) (bne_eq_false_iff_eq.mpr (place_even _ _ _ h5)) (beq_iff_eq.mpr (let_eq _ _ 3 8 eB h0 (by decide) (by decide) te)) (beq_iff_eq.mpr (let_0 _ 3 8 rB (by decide) (by decide) tz))
  by_cases p3 : a1 = 3
  · subst p3
    have hd : ¬ downZ a0_1 a0_2 3 a3 a4 = true := by unfold downZ; rw [decide_eq_false (by decide), Bool.false_and]; decide
    have rB := (enterMs_is a0_0 h0 3).1
    have rT := (enterMs_is a0_0 h0 3).2
    have rO := (ok_enterM a0_0 h0 3 ho)
    have eB := (mretS_is _ rB).1
    have eT := (mretS_is _ rB).2.1
    have bT := (mretB_is _ rB).2
    have eO := ok_mretS _ rB rO
    have te : tb (mretS (enterMs a0_0 3)) 3 = tb a0_0 3 := by rw [eT 3 (by decide), bT 3, if_neg (by decide), if_neg (by decide), if_neg (by decide), if_pos rfl, rT 7, if_neg (by decide), if_neg (by decide), if_neg (by decide), if_pos rfl]
    have tz : tb (enterMs a0_0 3) 3 = false := by rw [rT 3, if_neg (by decide), if_neg (by decide), if_pos rfl]
    exact back_M3 a0_0 a0_1 a0_2 a0_3 a0_4 a0_5 a0_6 a0_7 a0_8 a0_9 a0_10 a0_11 a0_12 a0_13 a0_14 a0_15 a0_16 a2 a3 a4 w (enterMs a0_0 3) a0_1 a0_2 a0_3 a0_4 a0_5 a0_6 (Go.bits .andNot .u64 a2 1) (whyZ a3 a4) 0 a0_10 a0_11 a0_12 a0_13 a0_14 a0_15 a0_16 (placeZ a0_5 (IntKind.u64.wrap a3) a4) (mretS (enterMs a0_0 3)) a0_1 a0_2 a0_3 a0_4 a0_5 a0_6 (Go.bits .andNot .u64 a2 1) (whyZ a3 a4) 0 a0_10 a0_11 a0_12 a0_13 a0_14 a0_15 a0_16 (by unfold trap_Enter.f; rw [if_neg hd]) (by unfold trap_Mret.f; rw [mretP_enter a0_0 3 h0 (by decide)]) hk (chk_new _ _ _ _ _ _ _ _ _ _ _ _ _ hk (status_ok _ rB rO) (.inr hpz) (.inl rfl)) (chk_new _ _ _ _ _ _ _ _ _ _ _ _ _ hk (status_ok _ eB eO) (.inr hpz) (.inl rfl)) (bne_eq_false_iff_eq.mpr (place_even _ _ _ h5)) (beq_iff_eq.mpr (let_eq _ _ 3 8 eB h0 (by decide) (by decide) te)) (beq_iff_eq.mpr (let_0 _ 3 8 rB (by decide) (by decide) tz))
  exact back_np a0_0 a0_1 a0_2 a0_3 a0_4 a0_5 a0_6 a0_7 a0_8 a0_9 a0_10 a0_11 a0_12 a0_13 a0_14 a0_15 a0_16 a1 a2 a3 a4 w hk (bne_iff_ne.mpr p0) (bne_iff_ne.mpr p1) (bne_iff_ne.mpr p3)
def drawbridgelaw06_TrapBack.f (a0_0 : Int) (a0_1 : Int) (a0_2 : Int) (a0_3 : Int) (a0_4 : Int) (a0_5 : Int) (a0_6 : Int) (a0_7 : Int) (a0_8 : Int) (a0_9 : Int) (a0_10 : Int) (a0_11 : Int) (a0_12 : Int) (a0_13 : Int) (a0_14 : Int) (a0_15 : Int) (a0_16 : Int) (a1 a2 a3 : Int) (a4 : Bool) : Option Bool := if u64B a0_0 ∧ u64B a0_5 ∧ u64B a0_10 ∧ u64B a2 then some true else none
theorem drawbridgelaw06_TrapBack.calls (a0_0 : Int) (a0_1 : Int) (a0_2 : Int) (a0_3 : Int) (a0_4 : Int) (a0_5 : Int) (a0_6 : Int) (a0_7 : Int) (a0_8 : Int) (a0_9 : Int) (a0_10 : Int) (a0_11 : Int) (a0_12 : Int) (a0_13 : Int) (a0_14 : Int) (a0_15 : Int) (a0_16 : Int) (a1 a2 a3 : Int) (a4 : Bool) (r : Bool) (w : World) (h : drawbridgelaw06_TrapBack.f a0_0 a0_1 a0_2 a0_3 a0_4 a0_5 a0_6 a0_7 a0_8 a0_9 a0_10 a0_11 a0_12 a0_13 a0_14 a0_15 a0_16 a1 a2 a3 a4 = some r) :
    Calls Try.prog 7 #[.agg #[.int .u64 a0_0, .int .u64 a0_1, .int .u64 a0_2, .int .u64 a0_3, .int .u64 a0_4, .int .u64 a0_5, .int .u64 a0_6, .int .u64 a0_7, .int .u64 a0_8, .int .u64 a0_9, .int .u64 a0_10, .int .u64 a0_11, .int .u64 a0_12, .int .u64 a0_13, .int .u64 a0_14, .int .u64 a0_15, .int .u64 a0_16], .int .i64 a1, .int .u64 a2, .int .i64 a3, .bool a4] w fun e w' => e = .returned (.bool r) ∧ Below w.heap.size w w' := by
  unfold drawbridgelaw06_TrapBack.f at h
  by_cases hg : u64B a0_0 ∧ u64B a0_5 ∧ u64B a0_10 ∧ u64B a2
  case neg => rw [if_neg hg] at h; cases h
  rw [if_pos hg] at h
  obtain rfl := Option.some.inj h
  exact back_runs a0_0 a0_1 a0_2 a0_3 a0_4 a0_5 a0_6 a0_7 a0_8 a0_9 a0_10 a0_11 a0_12 a0_13 a0_14 a0_15 a0_16 a1 a2 a3 a4 w hg.1 hg.2.1 hg.2.2.1 hg.2.2.2
end Go.Proofs.Ytnlmndpdalgppaa.Q
