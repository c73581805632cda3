import Derived.Test.YtnlmndpdalgppaaHTi
/- The document's Mret (layer 6), as those who call it have it. -/
namespace Go.Proofs.Ytnlmndpdalgppaa.Q
open Go.RowKit Go.Proofs.YtnlmndpdalgppaaW.PrintWords Go.Proofs.YtnlmndpdalgppaaW.PrintLast Go.Proofs.YtnlmndpdalgppaaW.PrintMore Go.Proofs.Ytnlmndpdalgppaa.L
attribute [local go_sem] Instr.field part asAgg lt_step max2_int min2_int max_two min_two max_three min_three max_four min_four lt_0_1 lt_0_2 lt_1_2 lt_0_3 lt_1_3 lt_2_3 lt_0_4 lt_1_4 lt_2_4 lt_3_4 lt_0_5 lt_1_5 lt_2_5 lt_3_5 lt_4_5 lt_0_6 lt_1_6 lt_2_6 lt_3_6 lt_4_6 lt_5_6 lt_0_7 lt_1_7 lt_2_7 lt_3_7 lt_4_7 lt_5_7 lt_6_7 lt_0_8 lt_1_8 lt_2_8 lt_3_8 lt_4_8 lt_5_8 lt_6_8 lt_7_8
set_option linter.unusedVariables false
set_option linter.unusedSimpArgs false
attribute [local go_sem ↓] Go.wp_at_zero Go.wp_at_succ

section
variable (s a1 a2 a3 a4 a5 a6 a7 a8 a9 a10 a11 a12 a13 a14 a15 a16 : Int) (w : World)

set_option maxHeartbeats 1600000 in
set_option maxRecDepth 100000 in
theorem rmret_hi (p s1 s2 s3 : Int) (hs : u64B s) (hp : wrap64 (Int.tmod (s / 2048) 4) = p) (h1 : setZ s 3 (bitZ s 7) = s1) (h2 : setZ s1 7 1 = s2) (h3 : Go.bits .andNot .u64 s2 6144 = s3) (hc : (p != 3) = false) (B1 : u64B s1) (B3 : u64B s3) :
    Calls Try.prog 13 #[.agg #[.int .u64 s, .int .u64 a1, .int .u64 a2, .int .u64 a3, .int .u64 a4, .int .u64 a5, .int .u64 a6, .int .u64 a7, .int .u64 a8, .int .u64 a9, .int .u64 a10, .int .u64 a11, .int .u64 a12, .int .u64 a13, .int .u64 a14, .int .u64 a15, .int .u64 a16]] w fun e w' => e = .returned (.tuple #[.agg #[.int .u64 s3, .int .u64 a1, .int .u64 a2, .int .u64 a3, .int .u64 a4, .int .u64 a5, .int .u64 a6, .int .u64 a7, .int .u64 a8, .int .u64 a9, .int .u64 a10, .int .u64 a11, .int .u64 a12, .int .u64 a13, .int .u64 a14, .int .u64 a15, .int .u64 a16], .int .i64 p, .int .u64 a7]) ∧ Below w.heap.size w w' := by
  have hb7 := bitZ_01 s 7 7 hs rfl (by decide)
  have HS_ := Aside0.mk hs
  have HP_ := Aside0.mk hp
  have H1_ := Aside0.mk h1
  have H2_ := Aside0.mk h2
  have H3_ := Aside0.mk h3
  have B1_ := Aside0.mk B1
  have B3_ := Aside0.mk B3
  have HB7_ := Aside0.mk hb7
  clear hs hp h1 h2 h3 B1 B3 hb7
  go_enter Try.func13, Try.ntmps13
  go_upto_region 1 with fail
  obtain ⟨wa, hwa⟩ : ∃ W_, (w.alloc (.cells #[.int .u64 s, .int .u64 a1, .int .u64 a2, .int .u64 a3, .int .u64 a4, .int .u64 a5, .int .u64 a6, .int .u64 a7, .int .u64 a8, .int .u64 a9, .int .u64 a10, .int .u64 a11, .int .u64 a12, .int .u64 a13, .int .u64 a14, .int .u64 a15, .int .u64 a16] 24 (0, 0))).alloc (.cells #[.int .u64 0, .int .u64 0, .int .u64 0, .int .u64 0, .int .u64 0, .int .u64 0, .int .u64 0, .int .u64 0, .int .u64 0, .int .u64 0, .int .u64 0, .int .u64 0, .int .u64 0, .int .u64 0, .int .u64 0, .int .u64 0, .int .u64 0] 24 (0, 0)) = W_ := ⟨_, rfl⟩
  have hI : TI w [.int .u64 s, .int .u64 a1, .int .u64 a2, .int .u64 a3, .int .u64 a4, .int .u64 a5, .int .u64 a6, .int .u64 a7, .int .u64 a8, .int .u64 a9, .int .u64 a10, .int .u64 a11, .int .u64 a12, .int .u64 a13, .int .u64 a14, .int .u64 a15, .int .u64 a16] wa := by rw [← hwa]; exact TI_new w _
  rw [hwa]
  clear hwa
  go_cut [5] (fun c wx => c = .int .i64 p ∧ wx = wa)
  case first =>
    have HI := Aside0.mk hI
    obtain ⟨⟨k0, k1, k2, k3, k4, k5, k6, k7, k8, k9, k10, k11, k12, k13, k14, k15, k16, kf, z0, z1, z2, z3, z4, z5, z6, z7, z8, z9, z10, z11, z12, z13, z14, z15, z16⟩, _⟩ := TI_S hI
    clear hI
    go_wp2_with fail
    go_meet
    exact ⟨by rw [← HP_.out], rfl⟩
  case rest =>
  obtain ⟨rfl, hw1⟩ := hcut
  subst hw1
  rename World => wb
  go_upto_region 2 with fail
  go_cut [] (fun wx => TI w [.int .u64 s3, .int .u64 a1, .int .u64 a2, .int .u64 a3, .int .u64 a4, .int .u64 a5, .int .u64 a6, .int .u64 a7, .int .u64 a8, .int .u64 a9, .int .u64 a10, .int .u64 a11, .int .u64 a12, .int .u64 a13, .int .u64 a14, .int .u64 a15, .int .u64 a16] wx)
  case first =>
    have HI := Aside0.mk hI
    obtain ⟨⟨k0, k1, k2, k3, k4, k5, k6, k7, k8, k9, k10, k11, k12, k13, k14, k15, k16, kf, z0, z1, z2, z3, z4, z5, z6, z7, z8, z9, z10, z11, z12, z13, z14, z15, z16⟩, _⟩ := TI_S hI
    clear hI
    obtain ⟨kfa, kfb, kfc⟩ := cells_of HI.out.1
    go_region_with (first | (go_at_call 22; (with_reducible refine (rbit_c s 7 7 _ HS_.out rfl (by decide)).mono ?_); rintro e_ w_ ⟨rfl, hd_⟩; obtain ⟨n_, rfl⟩ := hd_.out; clear hd_) | (go_at_call 23; (with_reducible refine (rwith_c s 3 3 _ s1 _ HS_.out HB7_.out rfl (by decide) H1_.out).mono ?_); rintro e_ w_ ⟨rfl, hd_⟩; obtain ⟨n_, rfl⟩ := hd_.out; clear hd_) | (go_at_call 23; (with_reducible refine (rwith_c s1 7 7 _ s2 _ B1_.out (.inr rfl) rfl (by decide) H2_.out).mono ?_); rintro e_ w_ ⟨rfl, hd_⟩; obtain ⟨n_, rfl⟩ := hd_.out; clear hd_))
    all_goals (go_wp2_with fail; go_meet)
    all_goals (refine TI_put (cs := [.int .u64 s, .int .u64 a1, .int .u64 a2, .int .u64 a3, .int .u64 a4, .int .u64 a5, .int .u64 a6, .int .u64 a7, .int .u64 a8, .int .u64 a9, .int .u64 a10, .int .u64 a11, .int .u64 a12, .int .u64 a13, .int .u64 a14, .int .u64 a15, .int .u64 a16]) ?_ (by first | rfl | (rw [← H3_.out]; rfl)); repeat (with_reducible first | exact HI.out | apply TI_drew | apply TI_drewN))
  case rest =>
  clear hI
  have hI := hcut
  clear hcut
  rename World => wc1
  go_upto_region 5 with fail
  have HI := Aside0.mk hI
  obtain ⟨⟨k0, k1, k2, k3, k4, k5, k6, k7, k8, k9, k10, k11, k12, k13, k14, k15, k16, kf, z0, z1, z2, z3, z4, z5, z6, z7, z8, z9, z10, z11, z12, z13, z14, z15, z16⟩, _⟩ := TI_S hI
  clear hI
  go_region
  all_goals go_wp2
  all_goals (refine bodyPost_ret (results_ctt rfl _ _ (w.heap.size + 1) 24 #[.int .u64 s3, .int .u64 a1, .int .u64 a2, .int .u64 a3, .int .u64 a4, .int .u64 a5, .int .u64 a6, .int .u64 a7, .int .u64 a8, .int .u64 a9, .int .u64 a10, .int .u64 a11, .int .u64 a12, .int .u64 a13, .int .u64 a14, .int .u64 a15, .int .u64 a16] (0, 0) _ rfl (by first | exact blk_drew (TI_end HI.out rfl).1 | exact (TI_end HI.out rfl).1) Try.underlying24 rfl (by kernel_rfl)) rfl ?_; exact ⟨rfl, by first | exact (TI_end HI.out rfl).2.drew | exact (TI_end HI.out rfl).2⟩)
set_option maxHeartbeats 1600000 in
set_option maxRecDepth 100000 in
theorem rmret_lo (p s1 s2 s3 s4 : Int) (hs : u64B s) (hp : wrap64 (Int.tmod (s / 2048) 4) = p) (h1 : setZ s 3 (bitZ s 7) = s1) (h2 : setZ s1 7 1 = s2) (h3 : Go.bits .andNot .u64 s2 6144 = s3) (hc : (p != 3) = true) (h4 : setZ s3 17 0 = s4) (B1 : u64B s1) (B3 : u64B s3) :
    Calls Try.prog 13 #[.agg #[.int .u64 s, .int .u64 a1, .int .u64 a2, .int .u64 a3, .int .u64 a4, .int .u64 a5, .int .u64 a6, .int .u64 a7, .int .u64 a8, .int .u64 a9, .int .u64 a10, .int .u64 a11, .int .u64 a12, .int .u64 a13, .int .u64 a14, .int .u64 a15, .int .u64 a16]] w fun e w' => e = .returned (.tuple #[.agg #[.int .u64 s4, .int .u64 a1, .int .u64 a2, .int .u64 a3, .int .u64 a4, .int .u64 a5, .int .u64 a6, .int .u64 a7, .int .u64 a8, .int .u64 a9, .int .u64 a10, .int .u64 a11, .int .u64 a12, .int .u64 a13, .int .u64 a14, .int .u64 a15, .int .u64 a16], .int .i64 p, .int .u64 a7]) ∧ Below w.heap.size w w' := by
  have hb7 := bitZ_01 s 7 7 hs rfl (by decide)
  have HS_ := Aside0.mk hs
  have HP_ := Aside0.mk hp
  have H1_ := Aside0.mk h1
  have H2_ := Aside0.mk h2
  have H3_ := Aside0.mk h3
  have B1_ := Aside0.mk B1
  have B3_ := Aside0.mk B3
  have HB7_ := Aside0.mk hb7
  have H4_ := Aside0.mk h4
  clear hs hp h1 h2 h3 B1 B3 hb7 h4
  go_enter Try.func13, Try.ntmps13
  go_upto_region 1 with fail
  obtain ⟨wa, hwa⟩ : ∃ W_, (w.alloc (.cells #[.int .u64 s, .int .u64 a1, .int .u64 a2, .int .u64 a3, .int .u64 a4, .int .u64 a5, .int .u64 a6, .int .u64 a7, .int .u64 a8, .int .u64 a9, .int .u64 a10, .int .u64 a11, .int .u64 a12, .int .u64 a13, .int .u64 a14, .int .u64 a15, .int .u64 a16] 24 (0, 0))).alloc (.cells #[.int .u64 0, .int .u64 0, .int .u64 0, .int .u64 0, .int .u64 0, .int .u64 0, .int .u64 0, .int .u64 0, .int .u64 0, .int .u64 0, .int .u64 0, .int .u64 0, .int .u64 0, .int .u64 0, .int .u64 0, .int .u64 0, .int .u64 0] 24 (0, 0)) = W_ := ⟨_, rfl⟩
  have hI : TI w [.int .u64 s, .int .u64 a1, .int .u64 a2, .int .u64 a3, .int .u64 a4, .int .u64 a5, .int .u64 a6, .int .u64 a7, .int .u64 a8, .int .u64 a9, .int .u64 a10, .int .u64 a11, .int .u64 a12, .int .u64 a13, .int .u64 a14, .int .u64 a15, .int .u64 a16] wa := by rw [← hwa]; exact TI_new w _
  rw [hwa]
  clear hwa
  go_cut [5] (fun c wx => c = .int .i64 p ∧ wx = wa)
  case first =>
    have HI := Aside0.mk hI
    obtain ⟨⟨k0, k1, k2, k3, k4, k5, k6, k7, k8, k9, k10, k11, k12, k13, k14, k15, k16, kf, z0, z1, z2, z3, z4, z5, z6, z7, z8, z9, z10, z11, z12, z13, z14, z15, z16⟩, _⟩ := TI_S hI
    clear hI
    go_wp2_with fail
    go_meet
    exact ⟨by rw [← HP_.out], rfl⟩
  case rest =>
  obtain ⟨rfl, hw1⟩ := hcut
  subst hw1
  rename World => wb
  go_upto_region 2 with fail
  go_cut [] (fun wx => TI w [.int .u64 s3, .int .u64 a1, .int .u64 a2, .int .u64 a3, .int .u64 a4, .int .u64 a5, .int .u64 a6, .int .u64 a7, .int .u64 a8, .int .u64 a9, .int .u64 a10, .int .u64 a11, .int .u64 a12, .int .u64 a13, .int .u64 a14, .int .u64 a15, .int .u64 a16] wx)
  case first =>
    have HI := Aside0.mk hI
    obtain ⟨⟨k0, k1, k2, k3, k4, k5, k6, k7, k8, k9, k10, k11, k12, k13, k14, k15, k16, kf, z0, z1, z2, z3, z4, z5, z6, z7, z8, z9, z10, z11, z12, z13, z14, z15, z16⟩, _⟩ := TI_S hI
    clear hI
    obtain ⟨kfa, kfb, kfc⟩ := cells_of HI.out.1
    go_region_with (first | (go_at_call 22; (with_reducible refine (rbit_c s 7 7 _ HS_.out rfl (by decide)).mono ?_); rintro e_ w_ ⟨rfl, hd_⟩; obtain ⟨n_, rfl⟩ := hd_.out; clear hd_) | (go_at_call 23; (with_reducible refine (rwith_c s 3 3 _ s1 _ HS_.out HB7_.out rfl (by decide) H1_.out).mono ?_); rintro e_ w_ ⟨rfl, hd_⟩; obtain ⟨n_, rfl⟩ := hd_.out; clear hd_) | (go_at_call 23; (with_reducible refine (rwith_c s1 7 7 _ s2 _ B1_.out (.inr rfl) rfl (by decide) H2_.out).mono ?_); rintro e_ w_ ⟨rfl, hd_⟩; obtain ⟨n_, rfl⟩ := hd_.out; clear hd_))
    all_goals (go_wp2_with fail; go_meet)
    all_goals (refine TI_put (cs := [.int .u64 s, .int .u64 a1, .int .u64 a2, .int .u64 a3, .int .u64 a4, .int .u64 a5, .int .u64 a6, .int .u64 a7, .int .u64 a8, .int .u64 a9, .int .u64 a10, .int .u64 a11, .int .u64 a12, .int .u64 a13, .int .u64 a14, .int .u64 a15, .int .u64 a16]) ?_ (by first | rfl | (rw [← H3_.out]; rfl)); repeat (with_reducible first | exact HI.out | apply TI_drew | apply TI_drewN))
  case rest =>
  clear hI
  have hI := hcut
  clear hcut
  rename World => wc1
  go_upto_if 21 with fail
  go_cut [] (fun wx => TI w [.int .u64 s4, .int .u64 a1, .int .u64 a2, .int .u64 a3, .int .u64 a4, .int .u64 a5, .int .u64 a6, .int .u64 a7, .int .u64 a8, .int .u64 a9, .int .u64 a10, .int .u64 a11, .int .u64 a12, .int .u64 a13, .int .u64 a14, .int .u64 a15, .int .u64 a16] wx)
  case first =>
    have HI := Aside0.mk hI
    obtain ⟨⟨k0, k1, k2, k3, k4, k5, k6, k7, k8, k9, k10, k11, k12, k13, k14, k15, k16, kf, z0, z1, z2, z3, z4, z5, z6, z7, z8, z9, z10, z11, z12, z13, z14, z15, z16⟩, _⟩ := TI_S hI
    clear hI
    obtain ⟨kfa, kfb, kfc⟩ := cells_of HI.out.1
    go_wp2_with ((go_at_call 23; (with_reducible refine (rwith_c s3 17 17 _ s4 _ B3_.out (.inl rfl) rfl (by decide) H4_.out).mono ?_); rintro e_ w_ ⟨rfl, hd_⟩; obtain ⟨n_, rfl⟩ := hd_.out; clear hd_))
    go_meet
    refine TI_put (cs := [.int .u64 s3, .int .u64 a1, .int .u64 a2, .int .u64 a3, .int .u64 a4, .int .u64 a5, .int .u64 a6, .int .u64 a7, .int .u64 a8, .int .u64 a9, .int .u64 a10, .int .u64 a11, .int .u64 a12, .int .u64 a13, .int .u64 a14, .int .u64 a15, .int .u64 a16]) ?_ rfl
    repeat (with_reducible first | exact HI.out | apply TI_drew | apply TI_drewN)
  case rest =>
  clear hI
  have hI := hcut
  clear hcut
  rename World => wc2
  go_upto_region 5 with fail
  have HI := Aside0.mk hI
  obtain ⟨⟨k0, k1, k2, k3, k4, k5, k6, k7, k8, k9, k10, k11, k12, k13, k14, k15, k16, kf, z0, z1, z2, z3, z4, z5, z6, z7, z8, z9, z10, z11, z12, z13, z14, z15, z16⟩, _⟩ := TI_S hI
  clear hI
  go_region
  all_goals go_wp2
  all_goals (refine bodyPost_ret (results_ctt rfl _ _ (w.heap.size + 1) 24 #[.int .u64 s4, .int .u64 a1, .int .u64 a2, .int .u64 a3, .int .u64 a4, .int .u64 a5, .int .u64 a6, .int .u64 a7, .int .u64 a8, .int .u64 a9, .int .u64 a10, .int .u64 a11, .int .u64 a12, .int .u64 a13, .int .u64 a14, .int .u64 a15, .int .u64 a16] (0, 0) _ rfl (by first | exact blk_drew (TI_end HI.out rfl).1 | exact (TI_end HI.out rfl).1) Try.underlying24 rfl (by kernel_rfl)) rfl ?_; exact ⟨rfl, by first | exact (TI_end HI.out rfl).2.drew | exact (TI_end HI.out rfl).2⟩)
end
end Go.Proofs.Ytnlmndpdalgppaa.Q
