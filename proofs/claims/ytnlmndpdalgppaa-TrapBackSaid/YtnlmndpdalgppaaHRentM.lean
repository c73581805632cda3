import Derived.Test.YtnlmndpdalgppaaHTi
/- The document's Enter (a trap to the machine) (layer 6), as those who call it have it. -/
namespace Go.Proofs.Ytnlmndpdalgppaa.Q
open Go.RowKit Go.Proofs.YtnlmndpdalgppaaW.PrintWords Go.Proofs.YtnlmndpdalgppaaW.PrintLast Go.Proofs.YtnlmndpdalgppaaW.PrintMore Go.Proofs.Ytnlmndpdalgppaa.L
attribute [local go_sem] Instr.field part asAgg lt_step max2_int min2_int max_two min_two max_three min_three max_four min_four lt_0_1 lt_0_2 lt_1_2 lt_0_3 lt_1_3 lt_2_3 lt_0_4 lt_1_4 lt_2_4 lt_3_4 lt_0_5 lt_1_5 lt_2_5 lt_3_5 lt_4_5 lt_0_6 lt_1_6 lt_2_6 lt_3_6 lt_4_6 lt_5_6 lt_0_7 lt_1_7 lt_2_7 lt_3_7 lt_4_7 lt_5_7 lt_6_7 lt_0_8 lt_1_8 lt_2_8 lt_3_8 lt_4_8 lt_5_8 lt_6_8 lt_7_8
set_option linter.unusedVariables false
set_option linter.unusedSimpArgs false
attribute [local go_sem ↓] Go.wp_at_zero Go.wp_at_succ

theorem rbit_zM (x z : Int) (W : World) (hx : u64B x) (h0 : 0 ≤ z) (h1 : z < 64) : Calls Try.prog 22 #[.int .u64 x, .int .i64 z] W fun e w' => e = .returned (.int .u64 (bitZ x z)) ∧ Drawn0 W w' := rbit_c x z.toNat z W hx (by omega) (by omega)
theorem z64M (cause : Int) : 0 ≤ (wrap64 (Int.tmod (IntKind.u64.wrap cause) 64)) ∧ (wrap64 (Int.tmod (IntKind.u64.wrap cause) 64)) < 64 := by
  have hw := wrap_B cause
  rw [tmod_pos _ _ hw.1]; unfold wrap64; omega
section
variable (s a1 a2 a3 a4 a5 a6 a7 a8 a9 a10 a11 a12 a13 a14 a15 a16 priv pc cause tval : Int) (irq : Bool) (w : World)
set_option maxHeartbeats 1600000 in
set_option maxRecDepth 100000 in
theorem rent_M (D Y s1 s2 s3 p0 : Int) (hs : u64B s) (hD : (if irq = true then a2 else a1) = D) (hY : (if irq = true then Go.bits .or .u64 (IntKind.u64.wrap cause) 9223372036854775808 else IntKind.u64.wrap cause) = Y) (hBB : (decide (priv ≤ 1) && (bitZ D (wrap64 (Int.tmod (IntKind.u64.wrap cause) 64)) == 1)) = false) (BD : u64B D) (BV : u64B a5) (B1 : u64B s1) (B2 : u64B s2) (h1 : setZ s 7 (bitZ s 3) = s1) (h2 : setZ s1 3 0 = s2) (hp : (if Int.tmod (IntKind.u64.wrap priv) 4 = 2 then 0 else Int.tmod (IntKind.u64.wrap priv) 4) = p0) (h3 : Go.bits .or .u64 (Go.bits .andNot .u64 s2 6144) (IntKind.u64.wrap (p0 * 2048)) = s3) :
    Calls Try.prog 11 #[.agg #[.int .u64 s, .int .u64 a1, .int .u64 a2, .int .u64 a3, .int .u64 a4, .int .u64 a5, .int .u64 a6, .int .u64 a7, .int .u64 a8, .int .u64 a9, .int .u64 a10, .int .u64 a11, .int .u64 a12, .int .u64 a13, .int .u64 a14, .int .u64 a15, .int .u64 a16], .int .i64 priv, .int .u64 pc, .int .i64 cause, .bool irq, .int .u64 tval] w fun e w' => e = .returned (.tuple #[.agg #[.int .u64 s3, .int .u64 a1, .int .u64 a2, .int .u64 a3, .int .u64 a4, .int .u64 a5, .int .u64 a6, .int .u64 (Go.bits .andNot .u64 pc 1), .int .u64 Y, .int .u64 tval, .int .u64 a10, .int .u64 a11, .int .u64 a12, .int .u64 a13, .int .u64 a14, .int .u64 a15, .int .u64 a16], .int .i64 3, .int .u64 (placeZ a5 (IntKind.u64.wrap cause) irq)]) ∧ Below w.heap.size w w' := by
  have hbq := bitZ_01 s 3 3 hs rfl (by decide)
  have hz := z64M cause
  have HS_ := Aside0.mk hs
  have HD_ := Aside0.mk hD
  have HY_ := Aside0.mk hY
  have HBB_ := Aside0.mk hBB
  have BD_ := Aside0.mk BD
  have BV_ := Aside0.mk BV
  have B1_ := Aside0.mk B1
  have B2_ := Aside0.mk B2
  have HBQ_ := Aside0.mk hbq
  have HZ_ := Aside0.mk hz
  have H1_ := Aside0.mk h1
  have H2_ := Aside0.mk h2
  have H3_ := Aside0.mk h3
  have HP_ := Aside0.mk hp
  clear hs hD hY hBB BD BV B1 B2 hbq hz h1 h2 h3 hp
  go_enter Try.func11, Try.ntmps11
  go_upto_region 1 with fail
  obtain ⟨wa, hwa⟩ : ∃ W_, (w.alloc (.cells #[.int .u64 s, .int .u64 a1, .int .u64 a2, .int .u64 a3, .int .u64 a4, .int .u64 a5, .int .u64 a6, .int .u64 a7, .int .u64 a8, .int .u64 a9, .int .u64 a10, .int .u64 a11, .int .u64 a12, .int .u64 a13, .int .u64 a14, .int .u64 a15, .int .u64 a16] 24 (0, 0))).alloc (.cells #[.int .u64 0, .int .u64 0, .int .u64 0, .int .u64 0, .int .u64 0, .int .u64 0, .int .u64 0, .int .u64 0, .int .u64 0, .int .u64 0, .int .u64 0, .int .u64 0, .int .u64 0, .int .u64 0, .int .u64 0, .int .u64 0, .int .u64 0] 24 (0, 0)) = W_ := ⟨_, rfl⟩
  have hI : TI w [.int .u64 s, .int .u64 a1, .int .u64 a2, .int .u64 a3, .int .u64 a4, .int .u64 a5, .int .u64 a6, .int .u64 a7, .int .u64 a8, .int .u64 a9, .int .u64 a10, .int .u64 a11, .int .u64 a12, .int .u64 a13, .int .u64 a14, .int .u64 a15, .int .u64 a16] wa := by rw [← hwa]; exact TI_new w _
  rw [hwa]
  clear hwa
  go_cut [15, 16] (fun c d wx => c = .int .u64 a1 ∧ d = .int .u64 (IntKind.u64.wrap cause) ∧ wx = wa)
  case first =>
    have HI := Aside0.mk hI
    obtain ⟨⟨k0, k1, k2, k3, k4, k5, k6, k7, k8, k9, k10, k11, k12, k13, k14, k15, k16, kf, z0, z1, z2, z3, z4, z5, z6, z7, z8, z9, z10, z11, z12, z13, z14, z15, z16⟩, _⟩ := TI_S hI
    clear hI
    go_wp2_with fail
    go_meet
    exact ⟨rfl, rfl, rfl⟩
  case rest =>
  obtain ⟨rfl, rfl, hw1⟩ := hcut
  subst hw1
  rename World => wb
  go_upto_if 23 with fail
  go_cut [15] (fun c wx => c = .int .u64 D ∧ wx = wb)
  case first =>
    have HI := Aside0.mk hI
    obtain ⟨⟨k0, k1, k2, k3, k4, k5, k6, k7, k8, k9, k10, k11, k12, k13, k14, k15, k16, kf, z0, z1, z2, z3, z4, z5, z6, z7, z8, z9, z10, z11, z12, z13, z14, z15, z16⟩, _⟩ := TI_S hI
    clear hI
    cases irq
    · go_wp2_with fail
      go_meet
      exact ⟨by rw [← HD_.out]; rfl, rfl⟩
    · go_wp2_with fail
      go_meet
      exact ⟨by rw [← HD_.out]; rfl, rfl⟩
  case rest =>
  obtain ⟨rfl, hw1⟩ := hcut
  subst hw1
  rename World => wc1
  go_upto_if 27 with fail
  go_cut [17] (fun c wx => c = .int .u64 Y ∧ wx = wc1)
  case first =>
    cases irq
    · go_wp2_with fail
      go_meet
      exact ⟨by rw [← HY_.out]; rfl, rfl⟩
    · go_wp2_with fail
      go_meet
      exact ⟨by rw [← HY_.out]; rfl, rfl⟩
  case rest =>
  obtain ⟨rfl, hw1⟩ := hcut
  subst hw1
  rename World => wd
  go_upto_region 7 with fail
  go_cut [39] (fun c wx => c = .bool (decide (priv ≤ 1) && (bitZ D (wrap64 (Int.tmod (IntKind.u64.wrap cause) 64)) == 1)) ∧ TI w [.int .u64 s, .int .u64 a1, .int .u64 a2, .int .u64 a3, .int .u64 a4, .int .u64 a5, .int .u64 a6, .int .u64 a7, .int .u64 a8, .int .u64 a9, .int .u64 a10, .int .u64 a11, .int .u64 a12, .int .u64 a13, .int .u64 a14, .int .u64 a15, .int .u64 a16] wx)
  case first =>
    have HI := Aside0.mk hI
    clear hI
    by_cases hp1 : priv ≤ 1
    · go_wp2_with ((go_at_call 22; (with_reducible refine (rbit_zM _ _ _ BD_.out HZ_.out.1 HZ_.out.2).mono ?_); rintro e_ w_ ⟨rfl, hd_⟩; obtain ⟨n_, rfl⟩ := hd_.out; clear hd_))
      go_meet
      exact ⟨by rw [show decide (priv ≤ 1) = true from decide_eq_true hp1]; rfl, by repeat (with_reducible first | exact HI.out | apply TI_drew | apply TI_drewN)⟩
    · go_wp2_with fail
      go_meet
      exact ⟨by rw [show decide (priv ≤ 1) = false from decide_eq_false (by omega)]; rfl, by repeat (with_reducible first | exact HI.out | apply TI_drew | apply TI_drewN)⟩
  case rest =>
  clear hI
  obtain ⟨rfl, hI⟩ := hcut
  rename World => we
  rw [HBB_.out]
  go_upto_region 11 with fail
  go_cut [] (fun wx => TI w [.int .u64 s, .int .u64 a1, .int .u64 a2, .int .u64 a3, .int .u64 a4, .int .u64 a5, .int .u64 a6, .int .u64 (Go.bits .andNot .u64 pc 1), .int .u64 Y, .int .u64 tval, .int .u64 a10, .int .u64 a11, .int .u64 a12, .int .u64 a13, .int .u64 a14, .int .u64 a15, .int .u64 a16] wx)
  case first =>
    have HI := Aside0.mk hI
    obtain ⟨⟨k0, k1, k2, k3, k4, k5, k6, k7, k8, k9, k10, k11, k12, k13, k14, k15, k16, kf, z0, z1, z2, z3, z4, z5, z6, z7, z8, z9, z10, z11, z12, z13, z14, z15, z16⟩, _⟩ := TI_S hI
    clear hI
    obtain ⟨kfa, kfb, kfc⟩ := cells_of HI.out.1
    go_wp2_with fail
    go_meet
    refine TI_put (cs := [.int .u64 s, .int .u64 a1, .int .u64 a2, .int .u64 a3, .int .u64 a4, .int .u64 a5, .int .u64 a6, .int .u64 (Go.bits .andNot .u64 pc 1), .int .u64 Y, .int .u64 a9, .int .u64 a10, .int .u64 a11, .int .u64 a12, .int .u64 a13, .int .u64 a14, .int .u64 a15, .int .u64 a16]) (TI_put (cs := [.int .u64 s, .int .u64 a1, .int .u64 a2, .int .u64 a3, .int .u64 a4, .int .u64 a5, .int .u64 a6, .int .u64 a7, .int .u64 Y, .int .u64 a9, .int .u64 a10, .int .u64 a11, .int .u64 a12, .int .u64 a13, .int .u64 a14, .int .u64 a15, .int .u64 a16]) (TI_put (cs := [.int .u64 s, .int .u64 a1, .int .u64 a2, .int .u64 a3, .int .u64 a4, .int .u64 a5, .int .u64 a6, .int .u64 a7, .int .u64 a8, .int .u64 a9, .int .u64 a10, .int .u64 a11, .int .u64 a12, .int .u64 a13, .int .u64 a14, .int .u64 a15, .int .u64 a16]) ?_ rfl) rfl) rfl
    repeat (with_reducible first | exact HI.out | apply TI_drew | apply TI_drewN)
  case rest =>
  clear hI
  have hI := hcut
  clear hcut
  rename World => wf
  go_upto_if 76 with fail
  go_cut [18] (fun c wx => c = .int .u64 p0 ∧ TI w [.int .u64 s, .int .u64 a1, .int .u64 a2, .int .u64 a3, .int .u64 a4, .int .u64 a5, .int .u64 a6, .int .u64 (Go.bits .andNot .u64 pc 1), .int .u64 Y, .int .u64 tval, .int .u64 a10, .int .u64 a11, .int .u64 a12, .int .u64 a13, .int .u64 a14, .int .u64 a15, .int .u64 a16] wx)
  case first =>
    have HI := Aside0.mk hI
    clear hI
    by_cases he : Int.tmod (IntKind.u64.wrap priv) 4 = 2
    · have heb : (Int.tmod (IntKind.u64.wrap priv) 4 == 2) = true := beq_iff_eq.mpr he
      go_wp2_with fail
      go_meet
      exact ⟨by rw [← HP_.out, if_pos he], by repeat (with_reducible first | exact HI.out | apply TI_drew | apply TI_drewN)⟩
    · have heb : (Int.tmod (IntKind.u64.wrap priv) 4 == 2) = false := beq_eq_false_iff_ne.mpr he
      go_wp2_with fail
      go_meet
      exact ⟨by rw [← HP_.out, if_neg he], by repeat (with_reducible first | exact HI.out | apply TI_drew | apply TI_drewN)⟩
  case rest =>
  clear hI
  obtain ⟨rfl, hI⟩ := hcut
  rename World => wff
  go_upto_region 15 with fail
  go_cut [] (fun wx => TI w [.int .u64 s3, .int .u64 a1, .int .u64 a2, .int .u64 a3, .int .u64 a4, .int .u64 a5, .int .u64 a6, .int .u64 (Go.bits .andNot .u64 pc 1), .int .u64 Y, .int .u64 tval, .int .u64 a10, .int .u64 a11, .int .u64 a12, .int .u64 a13, .int .u64 a14, .int .u64 a15, .int .u64 a16] wx)
  case first =>
    have HI := Aside0.mk hI
    obtain ⟨⟨k0, k1, k2, k3, k4, k5, k6, k7, k8, k9, k10, k11, k12, k13, k14, k15, k16, kf, z0, z1, z2, z3, z4, z5, z6, z7, z8, z9, z10, z11, z12, z13, z14, z15, z16⟩, _⟩ := TI_S hI
    clear hI
    obtain ⟨kfa, kfb, kfc⟩ := cells_of HI.out.1
    go_region_with (first | (go_at_call 22; (with_reducible refine (rbit_c s 3 3 _ HS_.out rfl (by decide)).mono ?_); rintro e_ w_ ⟨rfl, hd_⟩; obtain ⟨n_, rfl⟩ := hd_.out; clear hd_) | (go_at_call 23; (with_reducible refine (rwith_c s 7 7 _ s1 _ HS_.out HBQ_.out rfl (by decide) H1_.out).mono ?_); rintro e_ w_ ⟨rfl, hd_⟩; obtain ⟨n_, rfl⟩ := hd_.out; clear hd_) | (go_at_call 23; (with_reducible refine (rwith_c s1 3 3 _ s2 _ B1_.out (.inl rfl) rfl (by decide) H2_.out).mono ?_); rintro e_ w_ ⟨rfl, hd_⟩; obtain ⟨n_, rfl⟩ := hd_.out; clear hd_))
    all_goals (go_wp2_with fail; go_meet)
    all_goals (refine TI_put (cs := [.int .u64 s, .int .u64 a1, .int .u64 a2, .int .u64 a3, .int .u64 a4, .int .u64 a5, .int .u64 a6, .int .u64 (Go.bits .andNot .u64 pc 1), .int .u64 Y, .int .u64 tval, .int .u64 a10, .int .u64 a11, .int .u64 a12, .int .u64 a13, .int .u64 a14, .int .u64 a15, .int .u64 a16]) ?_ (by first | rfl | (rw [← H3_.out]; rfl)); repeat (with_reducible first | exact HI.out | apply TI_drew | apply TI_drewN))
  case rest =>
  clear hI
  have hI := hcut
  clear hcut
  rename World => wg
  go_upto_region 16 with fail
  go_region_held3 (fun w' => (w'.cell? ⟨w.heap.size, 0, none⟩ = some (.int .u64 s3) ∧ w'.cell? ⟨w.heap.size, 1, none⟩ = some (.int .u64 a1) ∧ w'.cell? ⟨w.heap.size, 2, none⟩ = some (.int .u64 a2) ∧ w'.cell? ⟨w.heap.size, 3, none⟩ = some (.int .u64 a3) ∧ w'.cell? ⟨w.heap.size, 4, none⟩ = some (.int .u64 a4) ∧ w'.cell? ⟨w.heap.size, 5, none⟩ = some (.int .u64 a5) ∧ w'.cell? ⟨w.heap.size, 6, none⟩ = some (.int .u64 a6) ∧ w'.cell? ⟨w.heap.size, 7, none⟩ = some (.int .u64 (Go.bits .andNot .u64 pc 1)) ∧ w'.cell? ⟨w.heap.size, 8, none⟩ = some (.int .u64 Y) ∧ w'.cell? ⟨w.heap.size, 9, none⟩ = some (.int .u64 tval) ∧ w'.cell? ⟨w.heap.size, 10, none⟩ = some (.int .u64 a10) ∧ w'.cell? ⟨w.heap.size, 11, none⟩ = some (.int .u64 a11) ∧ w'.cell? ⟨w.heap.size, 12, none⟩ = some (.int .u64 a12) ∧ w'.cell? ⟨w.heap.size, 13, none⟩ = some (.int .u64 a13) ∧ w'.cell? ⟨w.heap.size, 14, none⟩ = some (.int .u64 a14) ∧ w'.cell? ⟨w.heap.size, 15, none⟩ = some (.int .u64 a15) ∧ w'.cell? ⟨w.heap.size, 16, none⟩ = some (.int .u64 a16) ∧ (∀ i, w'.frozen? ⟨w.heap.size + 1, i, none⟩ = false) ∧ w'.cell? ⟨w.heap.size + 1, 0, none⟩ = some (rho w' (w.heap.size + 1) 0) ∧ w'.cell? ⟨w.heap.size + 1, 1, none⟩ = some (rho w' (w.heap.size + 1) 1) ∧ w'.cell? ⟨w.heap.size + 1, 2, none⟩ = some (rho w' (w.heap.size + 1) 2) ∧ w'.cell? ⟨w.heap.size + 1, 3, none⟩ = some (rho w' (w.heap.size + 1) 3) ∧ w'.cell? ⟨w.heap.size + 1, 4, none⟩ = some (rho w' (w.heap.size + 1) 4) ∧ w'.cell? ⟨w.heap.size + 1, 5, none⟩ = some (rho w' (w.heap.size + 1) 5) ∧ w'.cell? ⟨w.heap.size + 1, 6, none⟩ = some (rho w' (w.heap.size + 1) 6) ∧ w'.cell? ⟨w.heap.size + 1, 7, none⟩ = some (rho w' (w.heap.size + 1) 7) ∧ w'.cell? ⟨w.heap.size + 1, 8, none⟩ = some (rho w' (w.heap.size + 1) 8) ∧ w'.cell? ⟨w.heap.size + 1, 9, none⟩ = some (rho w' (w.heap.size + 1) 9) ∧ w'.cell? ⟨w.heap.size + 1, 10, none⟩ = some (rho w' (w.heap.size + 1) 10) ∧ w'.cell? ⟨w.heap.size + 1, 11, none⟩ = some (rho w' (w.heap.size + 1) 11) ∧ w'.cell? ⟨w.heap.size + 1, 12, none⟩ = some (rho w' (w.heap.size + 1) 12) ∧ w'.cell? ⟨w.heap.size + 1, 13, none⟩ = some (rho w' (w.heap.size + 1) 13) ∧ w'.cell? ⟨w.heap.size + 1, 14, none⟩ = some (rho w' (w.heap.size + 1) 14) ∧ w'.cell? ⟨w.heap.size + 1, 15, none⟩ = some (rho w' (w.heap.size + 1) 15) ∧ w'.cell? ⟨w.heap.size + 1, 16, none⟩ = some (rho w' (w.heap.size + 1) 16)) ∧ TI w [.int .u64 s3, .int .u64 a1, .int .u64 a2, .int .u64 a3, .int .u64 a4, .int .u64 a5, .int .u64 a6, .int .u64 (Go.bits .andNot .u64 pc 1), .int .u64 Y, .int .u64 tval, .int .u64 a10, .int .u64 a11, .int .u64 a12, .int .u64 a13, .int .u64 a14, .int .u64 a15, .int .u64 a16] w') ((refine TI_S ?_; repeat (with_reducible first | assumption | apply TI_drew | apply TI_drewN | apply TI_set))) ((go_at_call 24; (with_reducible refine (rplace_c a5 _ _ _ BV_.out).mono ?_); rintro e_ w_ ⟨rfl, hd_⟩; obtain ⟨n_, rfl⟩ := hd_.out; clear hd_))
  all_goals (go_wp2; refine bodyPost_ret (results_ctt rfl _ _ (w.heap.size + 1) 24 #[.int .u64 s3, .int .u64 a1, .int .u64 a2, .int .u64 a3, .int .u64 a4, .int .u64 a5, .int .u64 a6, .int .u64 (Go.bits .andNot .u64 pc 1), .int .u64 Y, .int .u64 tval, .int .u64 a10, .int .u64 a11, .int .u64 a12, .int .u64 a13, .int .u64 a14, .int .u64 a15, .int .u64 a16] (0, 0) _ rfl (TI_end (TI_drewN hI _) rfl).1 Try.underlying24 rfl (by kernel_rfl)) rfl ?_; exact ⟨rfl, (TI_end (TI_drewN hI _) rfl).2⟩)
end
end Go.Proofs.Ytnlmndpdalgppaa.Q
