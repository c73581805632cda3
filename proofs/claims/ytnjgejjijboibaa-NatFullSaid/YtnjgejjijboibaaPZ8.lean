import Derived.Test.YtnjgejjijboibaaPZ1
import Derived.Test.YtnjgejjijboibaaPZ7
import Derived.Laws.BitsAllLaws
import Derived.RowKit
section
/- What must come at any rate (NAT's heads): the walk. -/
namespace Go.Proofs.Ytnjgejjijboibaa.Q
open Go.RowKit Go.Proofs.YtnjgejjijboibaaW.PrintWords Go.Proofs.YtnjgejjijboibaaW.PrintLast Go.Proofs.YtnjgejjijboibaaW.PrintMore Go.Proofs.Ytnjgejjijboibaa.L
attribute [local go_sem] Instr.field part asAgg lt_step max2_int min2_int max_two min_two max_three min_three max_four min_four lt_0_1 lt_0_2 lt_1_2 lt_0_3 lt_1_3 lt_2_3 lt_0_4 lt_1_4 lt_2_4 lt_3_4 lt_0_5 lt_1_5 lt_2_5 lt_3_5 lt_4_5 lt_0_6 lt_1_6 lt_2_6 lt_3_6 lt_4_6 lt_5_6 lt_0_7 lt_1_7 lt_2_7 lt_3_7 lt_4_7 lt_5_7 lt_6_7 lt_0_8 lt_1_8 lt_2_8 lt_3_8 lt_4_8 lt_5_8 lt_6_8 lt_7_8
set_option linter.unusedVariables false
set_option linter.unusedSimpArgs false
set_option maxHeartbeats 1600000 in
set_option maxRecDepth 100000 in
theorem heads_is (w : World) : Calls Try.prog 6 #[] w fun e w' => e = .returned (.bool true) ∧ Below w.heap.size w w' := by
  have HB := Aside0.mk (Below.refl w.heap.size w)
  have hu := Try.underlying27
  have hu9 := Try.underlying39
  go_enter Try.func6, Try.ntmps6
  go_wp2_with fail
  (go_at_call 7; (with_reducible refine (hopen1 _).mono ?_); rintro e_ w1 ⟨A_s, c_s, A_q, c_q, rfl, hc_s, hr_s, hc_q, hr_q, hb_⟩; have HB_ : Aside0 (Below w.heap.size w w1) := Aside0.mk (below_step (bG HB) hb_); have hzw1 := hb_.size; (try simp at hzw1); clear HB hb_; have HB := HB_; clear HB_; have sc := Aside0.mk hc_s; have s := Aside0.mk (Kd.F_bound hr_s); clear hc_s hr_s; have qc := Aside0.mk hc_q; have q := Aside0.mk (Kd.F_bound hr_q); clear hc_q hr_q; skip)
  go_upto_region 2 with fail
  obtain ⟨w2, hw_, on0, hb_, hz0⟩ := letter1 w1 (.cells #[.slice A_s hF1.length c_s, .slice A_q hQ0.length c_q] 27 (0, 0))
  rw [hw_]
  clear hw_
  have hzw2 := Nat.le_of_eq hz0.symm
  clear hz0
  have s_ := Aside0.mk (Kd.F_below s.out hb_)
  clear s
  have s := s_
  clear s_
  have q_ := Aside0.mk (Kd.F_below q.out hb_)
  clear q
  have q := q_
  clear q_
  have on := Aside0.mk on0
  clear on0
  obtain ⟨onc, onf, onl⟩ := cells_of on.out
  have HB_ : Aside0 (Below w.heap.size w w2) := Aside0.mk (below_step HB.out hb_)
  clear HB hb_
  have HB := HB_
  clear HB_
  go_wp2_with fail
  (go_at_call 7; (with_reducible refine (hopen2 A_s c_s A_q c_q _ _ _ (fG s) sc.out (fG q) qc.out).mono ?_); rintro e_ w3 ⟨A_s2, c_s2, A_q2, c_q2, rfl, hc_s2, hr_s2, hc_q2, hr_q2, hb_⟩; have HB_ : Aside0 (Below w.heap.size w w3) := Aside0.mk (below_step (bG HB) hb_); have hzw3 := hb_.size; (try simp at hzw3); have on_ := Aside0.mk (box_below hb_ (eG on)); (try clear on onc onf onl); have on := on_; clear on_; obtain ⟨onc, onf, onl⟩ := cells_of on.out; clear HB hb_; have HB := HB_; clear HB_; have s2c := Aside0.mk hc_s2; have s2 := Aside0.mk (Kd.F_bound hr_s2); clear hc_s2 hr_s2; have q2c := Aside0.mk hc_q2; have q2 := Aside0.mk (Kd.F_bound hr_q2); clear hc_q2 hr_q2; skip)
  go_upto_region 3 with fail
  (have s2_ := Aside0.mk (Kd.F_far (p := ⟨w1.heap.size, 0, none⟩) s2.out (fun j_ hj_ => by (try dsimp only at hj_); (try dsimp only); (try simp only [sz_alloc, sz_drew, sz_drewN, sz_set] at hj_); omega) (.slice A_s2 hF2.length c_s2)); clear s2; have s2 := s2_; clear s2_; have q2_ := Aside0.mk (Kd.F_far (p := ⟨w1.heap.size, 0, none⟩) q2.out (fun j_ hj_ => by (try dsimp only at hj_); (try dsimp only); (try simp only [sz_alloc, sz_drew, sz_drewN, sz_set] at hj_); omega) (.slice A_s2 hF2.length c_s2)); clear q2; have q2 := q2_; clear q2_; have on_ := Aside0.mk (blk_put on.out 0 (.slice A_s2 hF2.length c_s2) (cs' := #[.slice A_s2 hF2.length c_s2, .slice A_q hQ0.length c_q]) rfl); clear on onc onf onl; have on := on_; clear on_; obtain ⟨onc, onf, onl⟩ := cells_of on.out)
  (have s2_ := Aside0.mk (Kd.F_far (p := ⟨w1.heap.size, 1, none⟩) s2.out (fun j_ hj_ => by (try dsimp only at hj_); (try dsimp only); (try simp only [sz_alloc, sz_drew, sz_drewN, sz_set] at hj_); omega) (.slice A_q2 hQ0.length c_q2)); clear s2; have s2 := s2_; clear s2_; have q2_ := Aside0.mk (Kd.F_far (p := ⟨w1.heap.size, 1, none⟩) q2.out (fun j_ hj_ => by (try dsimp only at hj_); (try dsimp only); (try simp only [sz_alloc, sz_drew, sz_drewN, sz_set] at hj_); omega) (.slice A_q2 hQ0.length c_q2)); clear q2; have q2 := q2_; clear q2_; have on_ := Aside0.mk (blk_put on.out 1 (.slice A_q2 hQ0.length c_q2) (cs' := #[.slice A_s2 hF2.length c_s2, .slice A_q2 hQ0.length c_q2]) rfl); clear on onc onf onl; have on := on_; clear on_; obtain ⟨onc, onf, onl⟩ := cells_of on.out)
  go_wp2_with fail
  (go_at_call 7; (with_reducible refine (hopen3 A_s2 c_s2 A_q2 c_q2 _ _ _ (fG s2) s2c.out (fG q2) q2c.out).mono ?_); rintro e_ w4 ⟨A_s3, c_s3, A_q3, c_q3, rfl, hc_s3, hr_s3, hc_q3, hr_q3, hb_⟩; have HB_ : Aside0 (Below w.heap.size w w4) := Aside0.mk (below_step (bG HB) hb_); have hzw4 := hb_.size; (try simp at hzw4); have on_ := Aside0.mk (box_below hb_ (eG on)); (try clear on onc onf onl); have on := on_; clear on_; obtain ⟨onc, onf, onl⟩ := cells_of on.out; clear HB hb_; have HB := HB_; clear HB_; have s3c := Aside0.mk hc_s3; have s3 := Aside0.mk (Kd.F_bound hr_s3); clear hc_s3 hr_s3; have q3c := Aside0.mk hc_q3; have q3 := Aside0.mk (Kd.F_bound hr_q3); clear hc_q3 hr_q3; skip)
  go_upto_region 4 with fail
  (have s3_ := Aside0.mk (Kd.F_far (p := ⟨w1.heap.size, 0, none⟩) s3.out (fun j_ hj_ => by (try dsimp only at hj_); (try dsimp only); (try simp only [sz_alloc, sz_drew, sz_drewN, sz_set] at hj_); omega) (.slice A_s3 hF3.length c_s3)); clear s3; have s3 := s3_; clear s3_; have q3_ := Aside0.mk (Kd.F_far (p := ⟨w1.heap.size, 0, none⟩) q3.out (fun j_ hj_ => by (try dsimp only at hj_); (try dsimp only); (try simp only [sz_alloc, sz_drew, sz_drewN, sz_set] at hj_); omega) (.slice A_s3 hF3.length c_s3)); clear q3; have q3 := q3_; clear q3_; have on_ := Aside0.mk (blk_put on.out 0 (.slice A_s3 hF3.length c_s3) (cs' := #[.slice A_s3 hF3.length c_s3, .slice A_q2 hQ0.length c_q2]) rfl); clear on onc onf onl; have on := on_; clear on_; obtain ⟨onc, onf, onl⟩ := cells_of on.out)
  (have s3_ := Aside0.mk (Kd.F_far (p := ⟨w1.heap.size, 1, none⟩) s3.out (fun j_ hj_ => by (try dsimp only at hj_); (try dsimp only); (try simp only [sz_alloc, sz_drew, sz_drewN, sz_set] at hj_); omega) (.slice A_q3 hQ0.length c_q3)); clear s3; have s3 := s3_; clear s3_; have q3_ := Aside0.mk (Kd.F_far (p := ⟨w1.heap.size, 1, none⟩) q3.out (fun j_ hj_ => by (try dsimp only at hj_); (try dsimp only); (try simp only [sz_alloc, sz_drew, sz_drewN, sz_set] at hj_); omega) (.slice A_q3 hQ0.length c_q3)); clear q3; have q3 := q3_; clear q3_; have on_ := Aside0.mk (blk_put on.out 1 (.slice A_q3 hQ0.length c_q3) (cs' := #[.slice A_s3 hF3.length c_s3, .slice A_q3 hQ0.length c_q3]) rfl); clear on onc onf onl; have on := on_; clear on_; obtain ⟨onc, onf, onl⟩ := cells_of on.out)
  go_wp2_with fail
  (go_at_call 9; (with_reducible refine (hin1 A_s3 c_s3 A_q3 c_q3 _ _ _ (fG s3) s3c.out (fG q3) q3c.out).mono ?_); rintro e_ w5 ⟨rfl, hb_⟩; have HB_ : Aside0 (Below w.heap.size w w5) := Aside0.mk (below_step (bG HB) hb_); have hzw5 := hb_.size; (try simp at hzw5); have on_ := Aside0.mk (box_below hb_ (eG on)); have s3_ := Aside0.mk (Kd.F_below (fG s3) hb_); clear s3; have s3 := s3_; clear s3_; have q3_ := Aside0.mk (Kd.F_below (fG q3) hb_); clear q3; have q3 := q3_; clear q3_; (try clear on onc onf onl); have on := on_; clear on_; obtain ⟨onc, onf, onl⟩ := cells_of on.out; clear HB hb_; have HB := HB_; clear HB_)
  go_wp2_with fail
  (go_at_call 9; (with_reducible refine (hin2 A_s3 c_s3 A_q3 c_q3 _ _ _ (fG s3) s3c.out (fG q3) q3c.out).mono ?_); rintro e_ w6 ⟨rfl, hb_⟩; have HB_ : Aside0 (Below w.heap.size w w6) := Aside0.mk (below_step (bG HB) hb_); have hzw6 := hb_.size; (try simp at hzw6); have on_ := Aside0.mk (box_below hb_ (eG on)); have s3_ := Aside0.mk (Kd.F_below (fG s3) hb_); clear s3; have s3 := s3_; clear s3_; have q3_ := Aside0.mk (Kd.F_below (fG q3) hb_); clear q3; have q3 := q3_; clear q3_; (try clear on onc onf onl); have on := on_; clear on_; obtain ⟨onc, onf, onl⟩ := cells_of on.out; clear HB hb_; have HB := HB_; clear HB_)
  go_wp2_with fail
  (go_at_call 9; (with_reducible refine (hin3 A_s3 c_s3 A_q3 c_q3 _ _ _ (fG s3) s3c.out (fG q3) q3c.out).mono ?_); rintro e_ w7 ⟨rfl, hb_⟩; have HB_ : Aside0 (Below w.heap.size w w7) := Aside0.mk (below_step (bG HB) hb_); have hzw7 := hb_.size; (try simp at hzw7); have on_ := Aside0.mk (box_below hb_ (eG on)); have s3_ := Aside0.mk (Kd.F_below (fG s3) hb_); clear s3; have s3 := s3_; clear s3_; have q3_ := Aside0.mk (Kd.F_below (fG q3) hb_); clear q3; have q3 := q3_; clear q3_; (try clear on onc onf onl); have on := on_; clear on_; obtain ⟨onc, onf, onl⟩ := cells_of on.out; clear HB hb_; have HB := HB_; clear HB_)
  go_wp2_with fail
  (go_at_call 11; (with_reducible refine (hask A_s3 c_s3 A_q3 c_q3 _ _ _ (fG s3) s3c.out (fG q3) q3c.out).mono ?_); rintro e_ w8 ⟨A_s4, c_s4, A_q4, c_q4, rfl, hc_s4, hr_s4, hc_q4, hr_q4, hb_⟩; have HB_ : Aside0 (Below w.heap.size w w8) := Aside0.mk (below_step (bG HB) hb_); have hzw8 := hb_.size; (try simp at hzw8); have on_ := Aside0.mk (box_below hb_ (eG on)); have s3_ := Aside0.mk (Kd.F_below (fG s3) hb_); clear s3; have s3 := s3_; clear s3_; have q3_ := Aside0.mk (Kd.F_below (fG q3) hb_); clear q3; have q3 := q3_; clear q3_; (try clear on onc onf onl); have on := on_; clear on_; obtain ⟨onc, onf, onl⟩ := cells_of on.out; clear HB hb_; have HB := HB_; clear HB_; have s4c := Aside0.mk hc_s4; have s4 := Aside0.mk (Kd.F_bound hr_s4); clear hc_s4 hr_s4; have q4c := Aside0.mk hc_q4; have q4 := Aside0.mk (Kd.F_bound hr_q4); clear hc_q4 hr_q4; skip)
  go_upto_region 8 with fail
  obtain ⟨w9, hw_, om0, hb_, hz0⟩ := letter1 w8 (.cells #[.slice A_s4 hF3.length c_s4, .slice A_q4 hQ1.length c_q4] 27 (0, 0))
  rw [hw_]
  clear hw_
  have hzw9 := Nat.le_of_eq hz0.symm
  clear hz0
  have on_ := Aside0.mk (box_below hb_ on.out)
  (try clear on onc onf onl)
  have on := on_
  clear on_
  obtain ⟨onc, onf, onl⟩ := cells_of on.out
  have s3_ := Aside0.mk (Kd.F_below s3.out hb_)
  clear s3
  have s3 := s3_
  clear s3_
  have q3_ := Aside0.mk (Kd.F_below q3.out hb_)
  clear q3
  have q3 := q3_
  clear q3_
  have s4_ := Aside0.mk (Kd.F_below s4.out hb_)
  clear s4
  have s4 := s4_
  clear s4_
  have q4_ := Aside0.mk (Kd.F_below q4.out hb_)
  clear q4
  have q4 := q4_
  clear q4_
  have om := Aside0.mk om0
  clear om0
  obtain ⟨omc, omf, oml⟩ := cells_of om.out
  have HB_ : Aside0 (Below w.heap.size w w9) := Aside0.mk (below_step HB.out hb_)
  clear HB hb_
  have HB := HB_
  clear HB_
  go_wp2_with fail
  (go_at_call 12; (with_reducible refine (hback1 A_s4 c_s4 A_q4 c_q4 _ _ _ (fG s4) s4c.out (fG q4) q4c.out).mono ?_); rintro e_ w10 ⟨A_s5, c_s5, A_q5, c_q5, rfl, hc_s5, hr_s5, hc_q5, hr_q5, hb_⟩; have HB_ : Aside0 (Below w.heap.size w w10) := Aside0.mk (below_step (bG HB) hb_); have hzw10 := hb_.size; (try simp at hzw10); have on_ := Aside0.mk (box_below hb_ (eG on)); have om_ := Aside0.mk (box_below hb_ (eG om)); have s3_ := Aside0.mk (Kd.F_below (fG s3) hb_); clear s3; have s3 := s3_; clear s3_; have q3_ := Aside0.mk (Kd.F_below (fG q3) hb_); clear q3; have q3 := q3_; clear q3_; have s4_ := Aside0.mk (Kd.F_below (fG s4) hb_); clear s4; have s4 := s4_; clear s4_; have q4_ := Aside0.mk (Kd.F_below (fG q4) hb_); clear q4; have q4 := q4_; clear q4_; (try clear on onc onf onl); have on := on_; clear on_; obtain ⟨onc, onf, onl⟩ := cells_of on.out; (try clear om omc omf oml); have om := om_; clear om_; obtain ⟨omc, omf, oml⟩ := cells_of om.out; clear HB hb_; have HB := HB_; clear HB_; have s5c := Aside0.mk hc_s5; have s5 := Aside0.mk (Kd.F_bound hr_s5); clear hc_s5 hr_s5; have q5c := Aside0.mk hc_q5; have q5 := Aside0.mk (Kd.F_bound hr_q5); clear hc_q5 hr_q5; skip)
  go_upto_region 9 with fail
  obtain ⟨w11, hw_, op0, oq0, hb_, hz0⟩ := letter2 w10 (.cells #[.slice A_s5 hF3.length c_s5, .slice A_q5 hQ0.length c_q5] 27 (0, 0)) (.cells #[.int .i64 1, .int .i64 1000, .int .i64 9, .int .i64 11] 39 (0, 0))
  rw [hw_]
  clear hw_
  have hzw11 := Nat.le_of_eq hz0.symm
  clear hz0
  have on_ := Aside0.mk (box_below hb_ on.out)
  (try clear on onc onf onl)
  have on := on_
  clear on_
  obtain ⟨onc, onf, onl⟩ := cells_of on.out
  have om_ := Aside0.mk (box_below hb_ om.out)
  (try clear om omc omf oml)
  have om := om_
  clear om_
  obtain ⟨omc, omf, oml⟩ := cells_of om.out
  have s3_ := Aside0.mk (Kd.F_below s3.out hb_)
  clear s3
  have s3 := s3_
  clear s3_
  have q3_ := Aside0.mk (Kd.F_below q3.out hb_)
  clear q3
  have q3 := q3_
  clear q3_
  have s4_ := Aside0.mk (Kd.F_below s4.out hb_)
  clear s4
  have s4 := s4_
  clear s4_
  have q4_ := Aside0.mk (Kd.F_below q4.out hb_)
  clear q4
  have q4 := q4_
  clear q4_
  have s5_ := Aside0.mk (Kd.F_below s5.out hb_)
  clear s5
  have s5 := s5_
  clear s5_
  have q5_ := Aside0.mk (Kd.F_below q5.out hb_)
  clear q5
  have q5 := q5_
  clear q5_
  have op := Aside0.mk op0
  clear op0
  obtain ⟨opc, opf, opl⟩ := cells_of op.out
  have oq := Aside0.mk oq0
  clear oq0
  obtain ⟨oqc, oqf, oql⟩ := cells_of oq.out
  have HB_ : Aside0 (Below w.heap.size w w11) := Aside0.mk (below_step HB.out hb_)
  clear HB hb_
  have HB := HB_
  clear HB_
  go_wp2_with fail
  (go_at_call 12; (with_reducible refine (hback2 A_s5 c_s5 A_q5 c_q5 _ _ _ (fG s5) s5c.out (fG q5) q5c.out).mono ?_); rintro e_ w12 ⟨A_s6, c_s6, A_q6, c_q6, rfl, hc_s6, hr_s6, hc_q6, hr_q6, hb_⟩; have HB_ : Aside0 (Below w.heap.size w w12) := Aside0.mk (below_step (bG HB) hb_); have hzw12 := hb_.size; (try simp at hzw12); have on_ := Aside0.mk (box_below hb_ (eG on)); have om_ := Aside0.mk (box_below hb_ (eG om)); have oq_ := Aside0.mk (box_below hb_ (eG oq)); have s3_ := Aside0.mk (Kd.F_below (fG s3) hb_); clear s3; have s3 := s3_; clear s3_; have q3_ := Aside0.mk (Kd.F_below (fG q3) hb_); clear q3; have q3 := q3_; clear q3_; have s4_ := Aside0.mk (Kd.F_below (fG s4) hb_); clear s4; have s4 := s4_; clear s4_; have q4_ := Aside0.mk (Kd.F_below (fG q4) hb_); clear q4; have q4 := q4_; clear q4_; (try clear on onc onf onl); have on := on_; clear on_; obtain ⟨onc, onf, onl⟩ := cells_of on.out; (try clear om omc omf oml); have om := om_; clear om_; obtain ⟨omc, omf, oml⟩ := cells_of om.out; (try clear oq oqc oqf oql); have oq := oq_; clear oq_; obtain ⟨oqc, oqf, oql⟩ := cells_of oq.out; clear HB hb_; have HB := HB_; clear HB_; have s6c := Aside0.mk hc_s6; have s6 := Aside0.mk (Kd.F_bound hr_s6); clear hc_s6 hr_s6; have q6c := Aside0.mk hc_q6; have q6 := Aside0.mk (Kd.F_bound hr_q6); clear hc_q6 hr_q6; skip)
  go_upto_region 10 with fail
  obtain ⟨w13, hw_, oy0, oz0, hb_, hz0⟩ := letter2 w12 (.cells #[.slice A_s6 hF3.length c_s6, .slice A_q6 hQ0.length c_q6] 27 (0, 0)) (.cells #[.int .i64 0, .int .i64 0, .int .i64 0, .int .i64 0] 39 (0, 0))
  rw [hw_]
  clear hw_
  have hzw13 := Nat.le_of_eq hz0.symm
  clear hz0
  have on_ := Aside0.mk (box_below hb_ on.out)
  (try clear on onc onf onl)
  have on := on_
  clear on_
  obtain ⟨onc, onf, onl⟩ := cells_of on.out
  have om_ := Aside0.mk (box_below hb_ om.out)
  (try clear om omc omf oml)
  have om := om_
  clear om_
  obtain ⟨omc, omf, oml⟩ := cells_of om.out
  have oq_ := Aside0.mk (box_below hb_ oq.out)
  (try clear oq oqc oqf oql)
  have oq := oq_
  clear oq_
  obtain ⟨oqc, oqf, oql⟩ := cells_of oq.out
  have s3_ := Aside0.mk (Kd.F_below s3.out hb_)
  clear s3
  have s3 := s3_
  clear s3_
  have q3_ := Aside0.mk (Kd.F_below q3.out hb_)
  clear q3
  have q3 := q3_
  clear q3_
  have s4_ := Aside0.mk (Kd.F_below s4.out hb_)
  clear s4
  have s4 := s4_
  clear s4_
  have q4_ := Aside0.mk (Kd.F_below q4.out hb_)
  clear q4
  have q4 := q4_
  clear q4_
  have oy := Aside0.mk oy0
  clear oy0
  obtain ⟨oyc, oyf, oyl⟩ := cells_of oy.out
  have oz := Aside0.mk oz0
  clear oz0
  obtain ⟨ozc, ozf, ozl⟩ := cells_of oz.out
  have HB_ : Aside0 (Below w.heap.size w w13) := Aside0.mk (below_step HB.out hb_)
  clear HB hb_
  have HB := HB_
  clear HB_
  go_wp2_with fail
  (go_at_call 13; (with_reducible refine (hexp A_s3 c_s3 A_q3 c_q3 _ _ _ (fG s3) s3c.out (fG q3) q3c.out).mono ?_); rintro e_ w14 ⟨xa, xb, xc, xd, rfl, hb_⟩; have HB_ : Aside0 (Below w.heap.size w w14) := Aside0.mk (below_step (bG HB) hb_); have hzw14 := hb_.size; (try simp at hzw14); have on_ := Aside0.mk (box_below hb_ (eG on)); have om_ := Aside0.mk (box_below hb_ (eG om)); have s4_ := Aside0.mk (Kd.F_below (fG s4) hb_); clear s4; have s4 := s4_; clear s4_; have q4_ := Aside0.mk (Kd.F_below (fG q4) hb_); clear q4; have q4 := q4_; clear q4_; (try clear on onc onf onl); have on := on_; clear on_; obtain ⟨onc, onf, onl⟩ := cells_of on.out; (try clear om omc omf oml); have om := om_; clear om_; obtain ⟨omc, omf, oml⟩ := cells_of om.out; clear HB hb_; have HB := HB_; clear HB_)
  go_wp2_with fail
  (go_at_call 10; (with_reducible refine (hchk A_s4 c_s4 A_q4 c_q4 _ _ _ (fG s4) s4c.out (fG q4) q4c.out).mono ?_); rintro e_ w15 ⟨rfl, hb_⟩; have HB_ : Aside0 (Below w.heap.size w w15) := Aside0.mk (below_step (bG HB) hb_); have hzw15 := hb_.size; (try simp at hzw15); clear HB hb_; have HB := HB_; clear HB_)
  go_wp2
  go_ret
  exact ⟨rfl, HB.out⟩
end Go.Proofs.Ytnjgejjijboibaa.Q
end
section
/- NatBack, walked. -/
namespace Go.Proofs.Ytnjgejjijboibaa.Q
open Go.RowKit Go.Proofs.YtnjgejjijboibaaW.PrintWords Go.Proofs.YtnjgejjijboibaaW.PrintLast Go.Proofs.YtnjgejjijboibaaW.PrintMore Go.Proofs.Ytnjgejjijboibaa.L
attribute [local go_sem] Instr.field part asAgg lt_step max2_int min2_int max_two min_two max_three min_three max_four min_four lt_0_1 lt_0_2 lt_1_2 lt_0_3 lt_1_3 lt_2_3 lt_0_4 lt_1_4 lt_2_4 lt_3_4 lt_0_5 lt_1_5 lt_2_5 lt_3_5 lt_4_5 lt_0_6 lt_1_6 lt_2_6 lt_3_6 lt_4_6 lt_5_6 lt_0_7 lt_1_7 lt_2_7 lt_3_7 lt_4_7 lt_5_7 lt_6_7 lt_0_8 lt_1_8 lt_2_8 lt_3_8 lt_4_8 lt_5_8 lt_6_8 lt_7_8
set_option linter.unusedVariables false
set_option linter.unusedSimpArgs false
set_option maxHeartbeats 1600000 in
set_option maxRecDepth 100000 in
theorem NatBack_no (A0 : Option Addr) (c0 : Nat) (fl : List S48) (A1 : Option Addr) (c1 : Nat) (ql : List S39) (now : Int) (w : World) (ok0 ok1 : Nat → Prop) (hr0 : Kd.F k48 w ok0 A0 fl.length fl) (hc0 : fl.length ≤ c0) (hr1 : Kd.F k39 w ok1 A1 ql.length ql) (hc1 : ql.length ≤ c1) (guest remote port other later : Int) (h : (decide ((fl.length : Int) > 40) || decide ((ql.length : Int) > 40) || decide (later < 0) || decide (later > 100) || decide (now < 0) || decide (now > 549755813888)) = true) :
    Calls Try.prog 4 #[.agg #[.slice A0 fl.length c0, .slice A1 ql.length c1], .int .i64 now, .int .i64 guest, .int .u32 remote, .int .i64 port, .int .u32 other, .int .i64 later] w fun e w' => e = .returned (.bool true) ∧ Below w.heap.size w w' := by
  obtain ⟨e0, h0⟩ : ∃ b, decide ((fl.length : Int) > 40) = b := ⟨_, rfl⟩
  obtain ⟨e1, h1⟩ : ∃ b, decide ((ql.length : Int) > 40) = b := ⟨_, rfl⟩
  obtain ⟨e2, h2⟩ : ∃ b, decide (later < 0) = b := ⟨_, rfl⟩
  obtain ⟨e3, h3⟩ : ∃ b, decide (later > 100) = b := ⟨_, rfl⟩
  obtain ⟨e4, h4⟩ : ∃ b, decide (now < 0) = b := ⟨_, rfl⟩
  obtain ⟨e5, h5⟩ : ∃ b, decide (now > 549755813888) = b := ⟨_, rfl⟩
  rw [h0, h1, h2, h3, h4, h5] at h
  have hc : (e0 = true) ∨ (e0 = false ∧ e1 = true) ∨ (e0 = false ∧ e1 = false ∧ e2 = true) ∨ (e0 = false ∧ e1 = false ∧ e2 = false ∧ e3 = true) ∨ (e0 = false ∧ e1 = false ∧ e2 = false ∧ e3 = false ∧ e4 = true) ∨ (e0 = false ∧ e1 = false ∧ e2 = false ∧ e3 = false ∧ e4 = false ∧ e5 = true) := by revert h; cases e0 <;> cases e1 <;> cases e2 <;> cases e3 <;> cases e4 <;> cases e5 <;> simp
  clear h
  have HB := Aside0.mk (Below.refl w.heap.size w)
  have HR := Aside0.mk (Kd.F_bound hr0)
  have HQ := Aside0.mk (Kd.F_bound hr1)
  have HC0 := Aside0.mk hc0
  have HC1 := Aside0.mk hc1
  have hu := Try.underlying27
  have hu9 := Try.underlying39
  clear hr0 hr1 hc0 hc1
  go_enter Try.func4, Try.ntmps4
  go_upto_region 1 with fail
  obtain ⟨wa, hw_, on0, hb_, hz0⟩ := letter1 w (.cells #[.slice A0 fl.length c0, .slice A1 ql.length c1] 27 (0, 0))
  rw [hw_]
  clear hw_
  have hzwa := Nat.le_of_eq hz0.symm
  clear hz0
  have HR_ := Aside0.mk (Kd.F_below HR.out hb_)
  clear HR
  have HR := HR_
  clear HR_
  have HQ_ := Aside0.mk (Kd.F_below HQ.out hb_)
  clear HQ
  have HQ := HQ_
  clear HQ_
  have on := Aside0.mk on0
  clear on0
  obtain ⟨onc, onf, onl⟩ := cells_of on.out
  have HB_ : Aside0 (Below w.heap.size w wa) := Aside0.mk (below_step HB.out hb_)
  clear HB hb_
  have HB := HB_
  clear HB_
  rcases hc with rfl | ⟨rfl, rfl⟩ | ⟨rfl, rfl, rfl⟩ | ⟨rfl, rfl, rfl, rfl⟩ | ⟨rfl, rfl, rfl, rfl, rfl⟩ | ⟨rfl, rfl, rfl, rfl, rfl, rfl⟩
  all_goals (go_wp2_with fail)
  all_goals (go_at_call 6; (with_reducible refine (heads_is _).mono ?_); rintro e_ w1 ⟨rfl, hb_⟩; have HB_ : Aside0 (Below w.heap.size w w1) := Aside0.mk (below_step (bG HB) hb_); have hzw1 := hb_.size; (try simp at hzw1); clear HB hb_; have HB := HB_; clear HB_)
  all_goals (go_wp2)
  all_goals (go_ret)
  all_goals (exact ⟨rfl, HB.out⟩)
set_option maxHeartbeats 1600000 in
set_option maxRecDepth 100000 in
theorem NatBack_fail (A0 : Option Addr) (c0 : Nat) (fl : List S48) (A1 : Option Addr) (c1 : Nat) (ql : List S39) (now : Int) (w : World) (ok0 ok1 : Nat → Prop) (hr0 : Kd.F k48 w ok0 A0 fl.length fl) (hc0 : fl.length ≤ c0) (hr1 : Kd.F k39 w ok1 A1 ql.length ql) (hc1 : ql.length ≤ c1) (hwf : ∀ x ∈ fl, wfF x) (hwq : ∀ x ∈ ql, wfQ x) (hl0 : fl.length ≤ 1000) (hl1 : ql.length ≤ 1000) (guest remote port other later : Int) (h0 : decide ((fl.length : Int) > 40) = false) (h1 : decide ((ql.length : Int) > 40) = false) (h2 : decide (later < 0) = false) (h3 : decide (later > 100) = false) (h4 : decide (now < 0) = false) (h5 : decide (now > 549755813888) = false) (fl' : List S48) (ql' : List S39) (hop : openF fl ql now guest remote port = (fl', ql', 0, false)) :
    Calls Try.prog 4 #[.agg #[.slice A0 fl.length c0, .slice A1 ql.length c1], .int .i64 now, .int .i64 guest, .int .u32 remote, .int .i64 port, .int .u32 other, .int .i64 later] w fun e w' => e = .returned (.bool true) ∧ Below w.heap.size w w' := by
  have HB := Aside0.mk (Below.refl w.heap.size w)
  have HR := Aside0.mk (Kd.F_bound hr0)
  have HQ := Aside0.mk (Kd.F_bound hr1)
  have HC0 := Aside0.mk hc0
  have HC1 := Aside0.mk hc1
  have HWF := Aside0.mk hwf
  have HWQ := Aside0.mk hwq
  have HL0 := Aside0.mk hl0
  have HL1 := Aside0.mk hl1
  have HOP := Aside0.mk hop
  have hu := Try.underlying27
  have hu9 := Try.underlying39
  clear hr0 hr1 hc0 hc1 hwf hwq hl0 hl1 hop
  go_enter Try.func4, Try.ntmps4
  go_upto_region 1 with fail
  obtain ⟨wa, hw_, on0, hb_, hz0⟩ := letter1 w (.cells #[.slice A0 fl.length c0, .slice A1 ql.length c1] 27 (0, 0))
  rw [hw_]
  clear hw_
  have hzwa := Nat.le_of_eq hz0.symm
  clear hz0
  have HR_ := Aside0.mk (Kd.F_below HR.out hb_)
  clear HR
  have HR := HR_
  clear HR_
  have HQ_ := Aside0.mk (Kd.F_below HQ.out hb_)
  clear HQ
  have HQ := HQ_
  clear HQ_
  have on := Aside0.mk on0
  clear on0
  obtain ⟨onc, onf, onl⟩ := cells_of on.out
  have HB_ : Aside0 (Below w.heap.size w wa) := Aside0.mk (below_step HB.out hb_)
  clear HB hb_
  have HB := HB_
  clear HB_
  go_wp2_with fail
  (go_at_call 7; (with_reducible refine (open_is A0 c0 fl A1 c1 ql now _ _ _ (fG HR) HC0.out (fG HQ) HC1.out HWF.out HWQ.out HL0.out HL1.out guest remote port fl' ql' 0 false HOP.out).mono ?_); rintro e_ w1 ⟨A_s, c_s, A_q, c_q, rfl, hc_s, hr_s, hc_q, hr_q, hb_⟩; have HB_ : Aside0 (Below w.heap.size w w1) := Aside0.mk (below_step (bG HB) hb_); have hzw1 := hb_.size; (try simp at hzw1); have on_ := Aside0.mk (box_below hb_ (eG on)); (try clear on onc onf onl); have on := on_; clear on_; obtain ⟨onc, onf, onl⟩ := cells_of on.out; clear HB hb_; have HB := HB_; clear HB_; have sc := Aside0.mk hc_s; have s := Aside0.mk (Kd.F_bound hr_s); clear hc_s hr_s; have qc := Aside0.mk hc_q; have q := Aside0.mk (Kd.F_bound hr_q); clear hc_q hr_q; skip)
  go_wp2_with fail
  (go_at_call 6; (with_reducible refine (heads_is _).mono ?_); rintro e_ w2 ⟨rfl, hb_⟩; have HB_ : Aside0 (Below w.heap.size w w2) := Aside0.mk (below_step (bG HB) hb_); have hzw2 := hb_.size; (try simp at hzw2); clear HB hb_; have HB := HB_; clear HB_)
  go_wp2
  go_ret
  exact ⟨rfl, HB.out⟩
end Go.Proofs.Ytnjgejjijboibaa.Q
end
section
/- NatBack, walked: the way that was opened. -/
namespace Go.Proofs.Ytnjgejjijboibaa.Q
open Go.RowKit Go.Proofs.YtnjgejjijboibaaW.PrintWords Go.Proofs.YtnjgejjijboibaaW.PrintLast Go.Proofs.YtnjgejjijboibaaW.PrintMore Go.Proofs.Ytnjgejjijboibaa.L
attribute [local go_sem] Instr.field part asAgg lt_step max2_int min2_int max_two min_two max_three min_three max_four min_four lt_0_1 lt_0_2 lt_1_2 lt_0_3 lt_1_3 lt_2_3 lt_0_4 lt_1_4 lt_2_4 lt_3_4 lt_0_5 lt_1_5 lt_2_5 lt_3_5 lt_4_5 lt_0_6 lt_1_6 lt_2_6 lt_3_6 lt_4_6 lt_5_6 lt_0_7 lt_1_7 lt_2_7 lt_3_7 lt_4_7 lt_5_7 lt_6_7 lt_0_8 lt_1_8 lt_2_8 lt_3_8 lt_4_8 lt_5_8 lt_6_8 lt_7_8
set_option linter.unusedVariables false
set_option linter.unusedSimpArgs false
set_option maxHeartbeats 1600000 in
set_option maxRecDepth 100000 in
theorem NatBack_ok (A0 : Option Addr) (c0 : Nat) (fl : List S48) (A1 : Option Addr) (c1 : Nat) (ql : List S39) (now : Int) (w : World) (ok0 ok1 : Nat → Prop) (hr0 : Kd.F k48 w ok0 A0 fl.length fl) (hc0 : fl.length ≤ c0) (hr1 : Kd.F k39 w ok1 A1 ql.length ql) (hc1 : ql.length ≤ c1) (hwf : ∀ x ∈ fl, wfF x) (hwq : ∀ x ∈ ql, wfQ x) (hl0 : fl.length ≤ 1000) (hl1 : ql.length ≤ 1000) (guest remote port other later : Int) (h0 : decide ((fl.length : Int) > 40) = false) (h1 : decide ((ql.length : Int) > 40) = false) (h2 : decide (later < 0) = false) (h3 : decide (later > 100) = false) (h4 : decide (now < 0) = false) (h5 : decide (now > 549755813888) = false) (fl' : List S48) (ql' : List S39) (h : Int) (h0' : True) (hop : openF fl ql now guest remote port = (fl', ql', h, true)) (hadd : wrap64 (now + later) = now + later) (hwf2 : ∀ x ∈ fl', wfF x) (hwq2 : ∀ x ∈ ql', wfQ x) (hl2 : fl'.length ≤ 1000) (hl3 : ql'.length ≤ 1000) (v v2 : Int) (i t u : Bool) (hi1 : inF fl' ql' (now + later) h remote port = (v, i)) (hi2 : inF fl' ql' (now + later) h other port = (v2, u)) (h60 : decide (later < 60) = i) (hv : i = true → v = guest) (ht : (other == remote) = t) (ht' : other = remote ↔ t = true) (htu : t = false → u = false) (hck : checkZ fl' ql' = true) (h16 : decide ((fl'.length : Int) ≤ 16) = true) :
    Calls Try.prog 4 #[.agg #[.slice A0 fl.length c0, .slice A1 ql.length c1], .int .i64 now, .int .i64 guest, .int .u32 remote, .int .i64 port, .int .u32 other, .int .i64 later] w fun e w' => e = .returned (.bool true) ∧ Below w.heap.size w w' := by
  have HB := Aside0.mk (Below.refl w.heap.size w)
  have HR := Aside0.mk (Kd.F_bound hr0)
  have HQ := Aside0.mk (Kd.F_bound hr1)
  have HC0 := Aside0.mk hc0
  have HC1 := Aside0.mk hc1
  have HWF := Aside0.mk hwf
  have HWQ := Aside0.mk hwq
  have HL0 := Aside0.mk hl0
  have HL1 := Aside0.mk hl1
  have HOP := Aside0.mk hop
  have HWF2 := Aside0.mk hwf2
  have HWQ2 := Aside0.mk hwq2
  have HL2 := Aside0.mk hl2
  have HL3 := Aside0.mk hl3
  have HI1 := Aside0.mk hi1
  have HI2 := Aside0.mk hi2
  have HCK := Aside0.mk hck
  have HV := Aside0.mk hv
  have HTU := Aside0.mk htu
  have H60 := Aside0.mk h60
  have HT := Aside0.mk ht
  have HT2 := Aside0.mk ht'
  have H16 := Aside0.mk h16
  have hu := Try.underlying27
  have hu9 := Try.underlying39
  clear hr0 hr1 hc0 hc1 hwf hwq hl0 hl1 hop hwf2 hwq2 hl2 hl3 hi1 hi2 hck hv htu h60 ht ht' h16 h0'
  go_enter Try.func4, Try.ntmps4
  go_upto_region 1 with fail
  obtain ⟨wa, hw_, on0, hb_, hz0⟩ := letter1 w (.cells #[.slice A0 fl.length c0, .slice A1 ql.length c1] 27 (0, 0))
  rw [hw_]
  clear hw_
  have hzwa := Nat.le_of_eq hz0.symm
  clear hz0
  have HR_ := Aside0.mk (Kd.F_below HR.out hb_)
  clear HR
  have HR := HR_
  clear HR_
  have HQ_ := Aside0.mk (Kd.F_below HQ.out hb_)
  clear HQ
  have HQ := HQ_
  clear HQ_
  have on := Aside0.mk on0
  clear on0
  obtain ⟨onc, onf, onl⟩ := cells_of on.out
  have HB_ : Aside0 (Below w.heap.size w wa) := Aside0.mk (below_step HB.out hb_)
  clear HB hb_
  have HB := HB_
  clear HB_
  go_wp2_with fail
  (go_at_call 7; (with_reducible refine (open_is A0 c0 fl A1 c1 ql now _ _ _ (fG HR) HC0.out (fG HQ) HC1.out HWF.out HWQ.out HL0.out HL1.out guest remote port fl' ql' h true HOP.out).mono ?_); rintro e_ w1 ⟨A_s, c_s, A_q, c_q, rfl, hc_s, hr_s, hc_q, hr_q, hb_⟩; have HB_ : Aside0 (Below w.heap.size w w1) := Aside0.mk (below_step (bG HB) hb_); have hzw1 := hb_.size; (try simp at hzw1); have on_ := Aside0.mk (box_below hb_ (eG on)); (try clear on onc onf onl); have on := on_; clear on_; obtain ⟨onc, onf, onl⟩ := cells_of on.out; clear HB hb_; have HB := HB_; clear HB_; have sc := Aside0.mk hc_s; have s := Aside0.mk (Kd.F_bound hr_s); clear hc_s hr_s; have qc := Aside0.mk hc_q; have q := Aside0.mk (Kd.F_bound hr_q); clear hc_q hr_q; skip)
  go_upto_region 4 with fail
  obtain ⟨w2, hw_, om0, hb_, hz0⟩ := letter1 w1 (.cells #[.slice A_s fl'.length c_s, .slice A_q ql'.length c_q] 27 (0, 0))
  rw [hw_]
  clear hw_
  have hzw2 := Nat.le_of_eq hz0.symm
  clear hz0
  have s_ := Aside0.mk (Kd.F_below s.out hb_)
  clear s
  have s := s_
  clear s_
  have q_ := Aside0.mk (Kd.F_below q.out hb_)
  clear q
  have q := q_
  clear q_
  have om := Aside0.mk om0
  clear om0
  obtain ⟨omc, omf, oml⟩ := cells_of om.out
  have HB_ : Aside0 (Below w.heap.size w w2) := Aside0.mk (below_step HB.out hb_)
  clear HB hb_
  have HB := HB_
  clear HB_
  go_wp2_with fail
  (go_at_call 9; (with_reducible refine (in_is A_s c_s fl' A_q c_q ql' (now + later) _ _ _ (fG s) sc.out (fG q) qc.out HWF2.out HWQ2.out HL2.out HL3.out h remote port v i HI1.out).mono ?_); rintro e_ w3 ⟨rfl, hb_⟩; have HB_ : Aside0 (Below w.heap.size w w3) := Aside0.mk (below_step (bG HB) hb_); have hzw3 := hb_.size; (try simp at hzw3); have om_ := Aside0.mk (box_below hb_ (eG om)); have s_ := Aside0.mk (Kd.F_below (fG s) hb_); clear s; have s := s_; clear s_; have q_ := Aside0.mk (Kd.F_below (fG q) hb_); clear q; have q := q_; clear q_; (try clear om omc omf oml); have om := om_; clear om_; obtain ⟨omc, omf, oml⟩ := cells_of om.out; clear HB hb_; have HB := HB_; clear HB_)
  go_upto_region 7 with fail
  have hv := HV.out
  have h60 := H60.out
  clear HV H60
  have hHI1 := HI1
  clear HI1 hHI1
  have hii : i = true ∨ i = false := by cases i <;> simp
  rcases hii with rfl | rfl
  · obtain rfl := hv rfl
    go_wp2_with fail
    (go_at_call 9; (with_reducible refine (in_is A_s c_s fl' A_q c_q ql' (now + later) _ _ _ (fG s) sc.out (fG q) qc.out HWF2.out HWQ2.out HL2.out HL3.out h other port v2 u HI2.out).mono ?_); rintro e_ w4 ⟨rfl, hb_⟩; have HB_ : Aside0 (Below w.heap.size w w4) := Aside0.mk (below_step (bG HB) hb_); have hzw4 := hb_.size; (try simp at hzw4); have om_ := Aside0.mk (box_below hb_ (eG om)); have s_ := Aside0.mk (Kd.F_below (fG s) hb_); clear s; have s := s_; clear s_; have q_ := Aside0.mk (Kd.F_below (fG q) hb_); clear q; have q := q_; clear q_; (try clear om omc omf oml); have om := om_; clear om_; obtain ⟨omc, omf, oml⟩ := cells_of om.out; clear HB hb_; have HB := HB_; clear HB_)
    go_upto_region 10 with fail
    have htu := HTU.out
    have ht := HT.out
    have ht' := HT2.out
    have h16 := H16.out
    clear HTU HT HT2 H16 HI2
    have htt : t = true ∨ (t = false ∧ u = false) := by cases t <;> simp at htu ⊢; exact htu
    clear htu
    rcases htt with rfl | ⟨rfl, rfl⟩
    · replace ht' : other = remote ↔ True := by simpa using ht'
      go_wp2_with fail
      (go_at_call 10; (with_reducible refine (check_runs A_s c_s fl' A_q c_q ql' _ (Kd.F_now (fG s)) (Kd.F_now (fG q)) HWF2.out HWQ2.out true HCK.out).mono ?_); rintro e_ w5 ⟨rfl, hb_⟩; have HB_ : Aside0 (Below w.heap.size w w5) := Aside0.mk (below_step (bG HB) hb_); have hzw5 := hb_.size; (try simp at hzw5); have om_ := Aside0.mk (box_below hb_ (eG om)); (try clear om omc omf oml); have om := om_; clear om_; obtain ⟨omc, omf, oml⟩ := cells_of om.out; clear HB hb_; have HB := HB_; clear HB_)
      go_wp2_with fail
      (go_at_call 6; (with_reducible refine (heads_is _).mono ?_); rintro e_ w6 ⟨rfl, hb_⟩; have HB_ : Aside0 (Below w.heap.size w w6) := Aside0.mk (below_step (bG HB) hb_); have hzw6 := hb_.size; (try simp at hzw6); have om_ := Aside0.mk (box_below hb_ (eG om)); (try clear om omc omf oml); have om := om_; clear om_; obtain ⟨omc, omf, oml⟩ := cells_of om.out; clear HB hb_; have HB := HB_; clear HB_)
      go_wp2
      go_ret
      exact ⟨rfl, HB.out⟩
    · replace ht' : ¬ other = remote := by simpa using ht'
      go_wp2_with fail
      (go_at_call 10; (with_reducible refine (check_runs A_s c_s fl' A_q c_q ql' _ (Kd.F_now (fG s)) (Kd.F_now (fG q)) HWF2.out HWQ2.out true HCK.out).mono ?_); rintro e_ w5 ⟨rfl, hb_⟩; have HB_ : Aside0 (Below w.heap.size w w5) := Aside0.mk (below_step (bG HB) hb_); have hzw5 := hb_.size; (try simp at hzw5); have om_ := Aside0.mk (box_below hb_ (eG om)); (try clear om omc omf oml); have om := om_; clear om_; obtain ⟨omc, omf, oml⟩ := cells_of om.out; clear HB hb_; have HB := HB_; clear HB_)
      go_wp2_with fail
      (go_at_call 6; (with_reducible refine (heads_is _).mono ?_); rintro e_ w6 ⟨rfl, hb_⟩; have HB_ : Aside0 (Below w.heap.size w w6) := Aside0.mk (below_step (bG HB) hb_); have hzw6 := hb_.size; (try simp at hzw6); have om_ := Aside0.mk (box_below hb_ (eG om)); (try clear om omc omf oml); have om := om_; clear om_; obtain ⟨omc, omf, oml⟩ := cells_of om.out; clear HB hb_; have HB := HB_; clear HB_)
      go_wp2
      go_ret
      exact ⟨rfl, HB.out⟩
  · clear hv
    go_wp2_with fail
    (go_at_call 9; (with_reducible refine (in_is A_s c_s fl' A_q c_q ql' (now + later) _ _ _ (fG s) sc.out (fG q) qc.out HWF2.out HWQ2.out HL2.out HL3.out h other port v2 u HI2.out).mono ?_); rintro e_ w4 ⟨rfl, hb_⟩; have HB_ : Aside0 (Below w.heap.size w w4) := Aside0.mk (below_step (bG HB) hb_); have hzw4 := hb_.size; (try simp at hzw4); have om_ := Aside0.mk (box_below hb_ (eG om)); have s_ := Aside0.mk (Kd.F_below (fG s) hb_); clear s; have s := s_; clear s_; have q_ := Aside0.mk (Kd.F_below (fG q) hb_); clear q; have q := q_; clear q_; (try clear om omc omf oml); have om := om_; clear om_; obtain ⟨omc, omf, oml⟩ := cells_of om.out; clear HB hb_; have HB := HB_; clear HB_)
    go_upto_region 10 with fail
    have htu := HTU.out
    have ht := HT.out
    have ht' := HT2.out
    have h16 := H16.out
    clear HTU HT HT2 H16 HI2
    have htt : t = true ∨ (t = false ∧ u = false) := by cases t <;> simp at htu ⊢; exact htu
    clear htu
    rcases htt with rfl | ⟨rfl, rfl⟩
    · replace ht' : other = remote ↔ True := by simpa using ht'
      go_wp2_with fail
      (go_at_call 10; (with_reducible refine (check_runs A_s c_s fl' A_q c_q ql' _ (Kd.F_now (fG s)) (Kd.F_now (fG q)) HWF2.out HWQ2.out true HCK.out).mono ?_); rintro e_ w5 ⟨rfl, hb_⟩; have HB_ : Aside0 (Below w.heap.size w w5) := Aside0.mk (below_step (bG HB) hb_); have hzw5 := hb_.size; (try simp at hzw5); have om_ := Aside0.mk (box_below hb_ (eG om)); (try clear om omc omf oml); have om := om_; clear om_; obtain ⟨omc, omf, oml⟩ := cells_of om.out; clear HB hb_; have HB := HB_; clear HB_)
      go_wp2_with fail
      (go_at_call 6; (with_reducible refine (heads_is _).mono ?_); rintro e_ w6 ⟨rfl, hb_⟩; have HB_ : Aside0 (Below w.heap.size w w6) := Aside0.mk (below_step (bG HB) hb_); have hzw6 := hb_.size; (try simp at hzw6); have om_ := Aside0.mk (box_below hb_ (eG om)); (try clear om omc omf oml); have om := om_; clear om_; obtain ⟨omc, omf, oml⟩ := cells_of om.out; clear HB hb_; have HB := HB_; clear HB_)
      go_wp2
      go_ret
      exact ⟨rfl, HB.out⟩
    · replace ht' : ¬ other = remote := by simpa using ht'
      go_wp2_with fail
      (go_at_call 10; (with_reducible refine (check_runs A_s c_s fl' A_q c_q ql' _ (Kd.F_now (fG s)) (Kd.F_now (fG q)) HWF2.out HWQ2.out true HCK.out).mono ?_); rintro e_ w5 ⟨rfl, hb_⟩; have HB_ : Aside0 (Below w.heap.size w w5) := Aside0.mk (below_step (bG HB) hb_); have hzw5 := hb_.size; (try simp at hzw5); have om_ := Aside0.mk (box_below hb_ (eG om)); (try clear om omc omf oml); have om := om_; clear om_; obtain ⟨omc, omf, oml⟩ := cells_of om.out; clear HB hb_; have HB := HB_; clear HB_)
      go_wp2_with fail
      (go_at_call 6; (with_reducible refine (heads_is _).mono ?_); rintro e_ w6 ⟨rfl, hb_⟩; have HB_ : Aside0 (Below w.heap.size w w6) := Aside0.mk (below_step (bG HB) hb_); have hzw6 := hb_.size; (try simp at hzw6); have om_ := Aside0.mk (box_below hb_ (eG om)); (try clear om omc omf oml); have om := om_; clear om_; obtain ⟨omc, omf, oml⟩ := cells_of om.out; clear HB hb_; have HB := HB_; clear HB_)
      go_wp2
      go_ret
      exact ⟨rfl, HB.out⟩
end Go.Proofs.Ytnjgejjijboibaa.Q
end
section
/- NatBack: the walk and the plain law, joined. -/
namespace Go.Proofs.Ytnjgejjijboibaa.Q
open Go.RowKit Go.Proofs.YtnjgejjijboibaaW.PrintWords Go.Proofs.YtnjgejjijboibaaW.PrintLast Go.Proofs.YtnjgejjijboibaaW.PrintMore Go.Proofs.Ytnjgejjijboibaa.L
attribute [local go_sem] Instr.field part asAgg lt_step max2_int min2_int max_two min_two max_three min_three max_four min_four lt_0_1 lt_0_2 lt_1_2 lt_0_3 lt_1_3 lt_2_3 lt_0_4 lt_1_4 lt_2_4 lt_3_4 lt_0_5 lt_1_5 lt_2_5 lt_3_5 lt_4_5 lt_0_6 lt_1_6 lt_2_6 lt_3_6 lt_4_6 lt_5_6 lt_0_7 lt_1_7 lt_2_7 lt_3_7 lt_4_7 lt_5_7 lt_6_7 lt_0_8 lt_1_8 lt_2_8 lt_3_8 lt_4_8 lt_5_8 lt_6_8 lt_7_8
set_option linter.unusedVariables false
set_option linter.unusedSimpArgs false
instance (x : Int) : Decidable (wf64 x) := by unfold wf64; infer_instance
instance (x : Int) : Decidable (wf32 x) := by unfold wf32; infer_instance
theorem wf_kept {fl : List S48} {ql : List S39} {now guest remote port : Int} {fl' : List S48} {ql' : List S39} {h : Int} (hop : openF fl ql now guest remote port = (fl', ql', h, true)) (hwf : ∀ x ∈ fl, wfF x) (hwq : ∀ x ∈ ql, wfQ x) (hg : wf64 guest) (hr : wf32 remote) (hp : wf64 port) : (∀ x ∈ fl', wfF x) ∧ ∀ x ∈ ql', wfQ x := by
  obtain ⟨_, h2, _, h4, h5, h6, h7⟩ := open_keeps hop
  refine ⟨fun x hx => ?_, fun x hx => ?_⟩
  · rcases h5 x hx with h | rfl
    · exact hwf x h
    · exact ⟨hg, by unfold wf64; dsimp only; omega, hr, hp, by unfold wf64; dsimp only; omega⟩
  · rw [h2] at hx
    exact hwq x (List.mem_filter.1 hx).1
theorem NatBack_yes (A0 : Option Addr) (c0 : Nat) (fl : List S48) (A1 : Option Addr) (c1 : Nat) (ql : List S39) (now guest remote port other later : Int) (w : World) (ok0 ok1 : Nat → Prop) (hr0 : Kd.F k48 w ok0 A0 fl.length fl) (hc0 : fl.length ≤ c0) (hr1 : Kd.F k39 w ok1 A1 ql.length ql) (hc1 : ql.length ≤ c1) (hwf : ∀ x ∈ fl, wfF x) (hwq : ∀ x ∈ ql, wfQ x) (hg : wf64 guest) (hr : wf32 remote) (hp : wf64 port)
    (h0 : decide ((fl.length : Int) > 40) = false) (h1 : decide ((ql.length : Int) > 40) = false) (h2 : decide (later < 0) = false) (h3 : decide (later > 100) = false) (h4 : decide (now < 0) = false) (h5 : decide (now > 549755813888) = false) :
    Calls Try.prog 4 #[.agg #[.slice A0 fl.length c0, .slice A1 ql.length c1], .int .i64 now, .int .i64 guest, .int .u32 remote, .int .i64 port, .int .u32 other, .int .i64 later] w fun e w' => e = .returned (.bool true) ∧ Below w.heap.size w w' := by
  have g0 := of_decide_eq_false h0
  have g1 := of_decide_eq_false h1
  have g2 := of_decide_eq_false h2
  have g3 := of_decide_eq_false h3
  have g4 := of_decide_eq_false h4
  have g5 := of_decide_eq_false h5
  have hl0 : fl.length ≤ 1000 := by omega
  have hl1 : ql.length ≤ 1000 := by omega
  obtain ⟨fl', ql', h, b, hop⟩ : ∃ fl' ql' h b, openF fl ql now guest remote port = (fl', ql', h, b) := ⟨_, _, _, _, rfl⟩
  cases b with
  | false =>
    obtain rfl := open_no_h hop
    exact NatBack_fail A0 c0 fl A1 c1 ql now w ok0 ok1 hr0 hc0 hr1 hc1 hwf hwq hl0 hl1 guest remote port other later h0 h1 h2 h3 h4 h5 fl' ql' hop
  | true =>
    obtain ⟨k1, k2, k3, k4, k5, k6⟩ := open_keeps hop
    obtain ⟨wf', wq'⟩ := wf_kept hop hwf hwq hg hr hp
    obtain ⟨⟨l0, l1⟩, _⟩ := (checkZ_iff _ _).1 k1
    have i1 := in_of k1 k3 (t := now + later) (by omega) (by omega) remote port
    have i2 := in_of k1 k3 (t := now + later) (by omega) (by omega) other port
    dsimp only at i1 i2
    rw [beq_self_eq_true, beq_self_eq_true, Bool.and_self, Bool.true_and] at i1
    have hd : decide (now + 60 > now + later) = decide (later < 60) := by rw [decide_eq_decide]; omega
    rw [hd] at i1
    obtain ⟨v2, u, hi2⟩ : ∃ v u, inF fl' ql' (now + later) h other port = (v, u) := ⟨_, _, rfl⟩
    obtain ⟨v, i, hi1⟩ : ∃ v i, inF fl' ql' (now + later) h remote port = (v, i) := ⟨_, _, rfl⟩
    refine NatBack_ok A0 c0 fl A1 c1 ql now w ok0 ok1 hr0 hc0 hr1 hc1 hwf hwq hl0 hl1 guest remote port other later h0 h1 h2 h3 h4 h5 fl' ql' h trivial hop (by unfold wrap64; omega) wf' wq' (by omega) (by omega) v v2 i (other == remote) u hi1 hi2 ?_ ?_ rfl beq_iff_eq.symm ?_ k1 (decide_eq_true (by omega))
    · rw [hi1] at i1
      cases hb : decide (later < 60)
      · rw [hb] at i1; simp at i1; exact i1.2.symm
      · rw [hb] at i1; simp at i1; exact i1.2.symm
    · intro hi
      rw [hi1, hi] at i1
      split at i1
      · exact (Prod.mk.inj i1).1
      · cases (Prod.mk.inj i1).2
    · intro ht
      rw [hi2, show (remote == other) = false from by rw [beq_eq_false_iff_ne] at ht ⊢; exact fun e => ht e.symm, Bool.false_and, Bool.false_and, if_neg (by decide)] at i2
      exact (Prod.mk.inj i2).2
def drawbridgelaw26_NatBack.f (l0 : List S48) (l1 : List S39) (a1 a2 a3 a4 a5 a6 : Int) : Option Bool := if (∀ z ∈ l0, wfF z) ∧ (∀ z ∈ l1, wfQ z) ∧ wf64 a2 ∧ wf32 a3 ∧ wf64 a4 then some true else none
theorem drawbridgelaw26_NatBack.calls (A0 : Option Addr) (c0 : Nat) (l0 : List S48) (A1 : Option Addr) (c1 : Nat) (l1 : List S39) (a1 a2 a3 a4 a5 a6 : Int) (r : Bool) (w : World) (hr0 : Kd.C k48 w A0 l0.length l0) (hc0 : l0.length ≤ c0) (hr1 : Kd.C k39 w A1 l1.length l1) (hc1 : l1.length ≤ c1) (h : drawbridgelaw26_NatBack.f l0 l1 a1 a2 a3 a4 a5 a6 = some r) :
    Calls Try.prog 4 #[.agg #[.slice A0 l0.length c0, .slice A1 l1.length c1], .int .i64 a1, .int .i64 a2, .int .u32 a3, .int .i64 a4, .int .u32 a5, .int .i64 a6] w fun e w' => e = .returned (.bool r) ∧ Below w.heap.size w w' := by
  unfold drawbridgelaw26_NatBack.f at h
  split at h
  case isFalse => cases h
  case isTrue hh =>
  obtain rfl := Option.some.inj h
  obtain ⟨q1, q2, q3, q4, q5⟩ := hh
  cases hG : (decide ((l0.length : Int) > 40) || decide ((l1.length : Int) > 40) || decide (a6 < 0) || decide (a6 > 100) || decide (a1 < 0) || decide (a1 > 549755813888)) with
  | true => exact NatBack_no A0 c0 l0 A1 c1 l1 a1 w _ _ (F_in48 hr0) hc0 (F_in39 hr1) hc1 a2 a3 a4 a5 a6 hG
  | false =>
    simp only [Bool.or_eq_false_iff] at hG
    obtain ⟨⟨⟨⟨⟨t0, t1⟩, t2⟩, t3⟩, t4⟩, t5⟩ := hG
    exact NatBack_yes A0 c0 l0 A1 c1 l1 a1 a2 a3 a4 a5 a6 w _ _ (F_in48 hr0) hc0 (F_in39 hr1) hc1 q1 q2 q3 q4 q5 t0 t1 t2 t3 t4 t5
end Go.Proofs.Ytnjgejjijboibaa.Q
end
section
/- NatFull, walked. -/
namespace Go.Proofs.Ytnjgejjijboibaa.Q
open Go.RowKit Go.Proofs.YtnjgejjijboibaaW.PrintWords Go.Proofs.YtnjgejjijboibaaW.PrintLast Go.Proofs.YtnjgejjijboibaaW.PrintMore Go.Proofs.Ytnjgejjijboibaa.L
attribute [local go_sem] Instr.field part asAgg lt_step max2_int min2_int max_two min_two max_three min_three max_four min_four lt_0_1 lt_0_2 lt_1_2 lt_0_3 lt_1_3 lt_2_3 lt_0_4 lt_1_4 lt_2_4 lt_3_4 lt_0_5 lt_1_5 lt_2_5 lt_3_5 lt_4_5 lt_0_6 lt_1_6 lt_2_6 lt_3_6 lt_4_6 lt_5_6 lt_0_7 lt_1_7 lt_2_7 lt_3_7 lt_4_7 lt_5_7 lt_6_7 lt_0_8 lt_1_8 lt_2_8 lt_3_8 lt_4_8 lt_5_8 lt_6_8 lt_7_8
set_option linter.unusedVariables false
set_option linter.unusedSimpArgs false
def metA (j : Nat) : Array Value := ((List.range 17).map (fun k => Value.bool (decide (1 ≤ k) && decide (k ≤ j)))).toArray
theorem upto16 {P : Nat → Prop} (h : P 0 ∧ P 1 ∧ P 2 ∧ P 3 ∧ P 4 ∧ P 5 ∧ P 6 ∧ P 7 ∧ P 8 ∧ P 9 ∧ P 10 ∧ P 11 ∧ P 12 ∧ P 13 ∧ P 14 ∧ P 15) : ∀ j, j < 16 → P j := by
  intro j hj
  obtain ⟨h0, h1, h2, h3, h4, h5, h6, h7, h8, h9, ha, hb, hc, hd, he, hf⟩ := h
  match j, hj with
  | 0, _ => exact h0
  | 1, _ => exact h1
  | 2, _ => exact h2
  | 3, _ => exact h3
  | 4, _ => exact h4
  | 5, _ => exact h5
  | 6, _ => exact h6
  | 7, _ => exact h7
  | 8, _ => exact h8
  | 9, _ => exact h9
  | 10, _ => exact ha
  | 11, _ => exact hb
  | 12, _ => exact hc
  | 13, _ => exact hd
  | 14, _ => exact he
  | 15, _ => exact hf
  | n + 16, h => exact absurd h (by omega)
theorem metA_set : ∀ j, j < 16 → (metA j).setIfInBounds (j + 1) (.bool true) = metA (j + 1) := upto16 ⟨by kernel_rfl, by kernel_rfl, by kernel_rfl, by kernel_rfl, by kernel_rfl, by kernel_rfl, by kernel_rfl, by kernel_rfl, by kernel_rfl, by kernel_rfl, by kernel_rfl, by kernel_rfl, by kernel_rfl, by kernel_rfl, by kernel_rfl, by kernel_rfl⟩
theorem metA_get : ∀ j, j < 16 → (metA j)[j + 1]? = some (.bool false) := upto16 ⟨by kernel_rfl, by kernel_rfl, by kernel_rfl, by kernel_rfl, by kernel_rfl, by kernel_rfl, by kernel_rfl, by kernel_rfl, by kernel_rfl, by kernel_rfl, by kernel_rfl, by kernel_rfl, by kernel_rfl, by kernel_rfl, by kernel_rfl, by kernel_rfl⟩
set_option maxHeartbeats 1600000 in
set_option maxRecDepth 100000 in
theorem NatFull_no (port remote now : Int) (w : World) (h : (decide (port < 0) || decide (port > 60000) || decide (now < 0) || decide (now > 549755813888)) = true) :
    Calls Try.prog 3 #[.int .i64 port, .int .u32 remote, .int .i64 now] w fun e w' => e = .returned (.bool true) ∧ Below w.heap.size w w' := by
  have HB := Aside0.mk (Below.refl w.heap.size w)
  obtain ⟨e0, h0⟩ : ∃ b, decide (port < 0) = b := ⟨_, rfl⟩
  obtain ⟨e1, h1⟩ : ∃ b, decide (port > 60000) = b := ⟨_, rfl⟩
  obtain ⟨e2, h2⟩ : ∃ b, decide (now < 0) = b := ⟨_, rfl⟩
  obtain ⟨e3, h3⟩ : ∃ b, decide (now > 549755813888) = b := ⟨_, rfl⟩
  rw [h0, h1, h2, h3] at h
  have hc : (e0 = true) ∨ (e0 = false ∧ e1 = true) ∨ (e0 = false ∧ e1 = false ∧ e2 = true) ∨ (e0 = false ∧ e1 = false ∧ e2 = false ∧ e3 = true) := by revert h; cases e0 <;> cases e1 <;> cases e2 <;> cases e3 <;> simp
  clear h
  go_enter Try.func3, Try.ntmps3
  rcases hc with rfl | ⟨rfl, rfl⟩ | ⟨rfl, rfl, rfl⟩ | ⟨rfl, rfl, rfl, rfl⟩
  all_goals (go_wp2_with fail)
  all_goals (go_at_call 6; (with_reducible refine (heads_is _).mono ?_); rintro e_ w1 ⟨rfl, hb_⟩; have HB_ : Aside0 (Below w.heap.size w w1) := Aside0.mk (below_step (bG HB) hb_); have hzw1 := hb_.size; (try simp at hzw1); clear HB hb_; have HB := HB_; clear HB_)
  all_goals (go_wp2)
  all_goals (go_ret)
  all_goals (exact ⟨rfl, HB.out⟩)
def FullI (w : World) (FL : Nat → List S48) (j : Nat) (wx : World) : Prop :=
  ∃ A c A' c', Aside0 (wx.heap[w.heap.size]? = some (.cells #[.slice A (FL j).length c, .slice A' hQ0.length c'] 27 (0, 0))) ∧ Aside0 ((FL j).length ≤ c) ∧ Aside0 (Kd.F k48 wx (fun k => w.heap.size + 2 ≤ k) A (FL j).length (FL j)) ∧ Aside0 (hQ0.length ≤ c') ∧ Aside0 (Kd.F k39 wx (fun k => w.heap.size + 2 ≤ k) A' hQ0.length hQ0) ∧ Aside0 (wx.heap[w.heap.size + 1]? = some (.cells (metA j) 4 (0, 0))) ∧ Aside0 (Below w.heap.size w wx)
theorem same_c (k : Nat) (A0 : Option Addr) (c0 : Nat) (fl : List S48) (A1 : Option Addr) (c1 : Nat) (ql : List S39) (B0 : Option Addr) (d0 : Nat) (B1 : Option Addr) (d1 : Nat) (w : World) (h0 : Kd.C k48 w A0 fl.length fl) (h1 : fl.length ≤ c0) (h2 : Kd.C k39 w A1 ql.length ql) (h3 : ql.length ≤ c1) (h4 : Kd.C k48 w B0 fl.length fl) (h5 : fl.length ≤ d0) (h6 : Kd.C k39 w B1 ql.length ql) (h7 : ql.length ≤ d1) (h : drawbridgeref26_Same.f k fl ql fl ql = some true) :
    Calls Try.prog 8 #[.agg #[.slice A0 fl.length c0, .slice A1 ql.length c1], .agg #[.slice B0 fl.length d0, .slice B1 ql.length d1]] w fun e w' => e = .returned (.bool true) ∧ Below w.heap.size w w' :=
  drawbridgeref26_Same.calls k A0 c0 fl A1 c1 ql B0 d0 fl B1 d1 ql true w h0 h1 h2 h3 h4 h5 h6 h7 h
theorem wq0 : ∀ x ∈ hQ0, wfQ x := fun x hx => by cases hx
set_option maxHeartbeats 1600000 in
set_option maxRecDepth 100000 in
theorem NatFull_yes (port remote now : Int) (w : World) (hwr : wf32 remote) (h0 : decide (port < 0) = false) (h1 : decide (port > 60000) = false) (h2 : decide (now < 0) = false) (h3 : decide (now > 549755813888) = false) :
    Calls Try.prog 3 #[.int .i64 port, .int .u32 remote, .int .i64 now] w fun e w' => e = .returned (.bool true) ∧ Below w.heap.size w w' := by
  have HB := Aside0.mk (Below.refl w.heap.size w)
  have hu := Try.underlying27
  have g0 := Int.not_lt.1 (of_decide_eq_false h0)
  have g1 := Int.not_lt.1 (of_decide_eq_false h1)
  have g2 := Int.not_lt.1 (of_decide_eq_false h2)
  have g3 := Int.not_lt.1 (of_decide_eq_false h3)
  have HOPEN := Aside0.mk (FLs_open port remote now g0 g1 g2 g3)
  have HFULL := Aside0.mk (FLs_full port remote now g0 g1 g2 g3)
  have HLATE := Aside0.mk (FLs_late port remote now g0 g1 g2 g3)
  have HWFS := Aside0.mk (FLs_wf port remote now hwr g0 g1 g2 g3)
  obtain ⟨FL, hFL⟩ : ∃ FL, FL = FLs port remote now := ⟨_, rfl⟩
  have HLEN : Aside0 (∀ j, (FL j).length = j) := ⟨by rw [hFL]; exact FLs_len port remote now⟩
  have HNIL : Aside0 (FL 0 = []) := ⟨by rw [hFL]; rfl⟩
  rw [← hFL] at HOPEN HFULL HLATE HWFS
  clear hFL
  have G0 := Aside0.mk g0
  have G1 := Aside0.mk g1
  have G2 := Aside0.mk g2
  have G3 := Aside0.mk g3
  have hmk : ∀ W : World, (Instr.makeSlice 28 (.int .i64 17) (.int .i64 17)).run Try.prog W = .ok (.slice (some ⟨W.heap.size, 0, none⟩) 17 17) (W.alloc (.cells (metA 0) 4 (0, 0))) := fun _ => by kernel_rfl
  clear g0 g1 g2 g3
  go_enter Try.func3, Try.ntmps3
  go_upto_region 5 with fail
  obtain ⟨wa, hw_, on0, omet0, hb_, hz0⟩ := letter2 w (.cells #[.slice none 0 0, .slice none 0 0] 27 (0, 0)) (.cells (metA 0) 4 (0, 0))
  rw [hw_]
  clear hw_
  have hzwa := Nat.le_of_eq hz0.symm
  clear hz0
  have on := Aside0.mk on0
  clear on0
  obtain ⟨onc, onf, onl⟩ := cells_of on.out
  have omet := Aside0.mk omet0
  clear omet0
  obtain ⟨ometc, ometf, ometl⟩ := cells_of omet.out
  have HB_ : Aside0 (Below w.heap.size w wa) := Aside0.mk (below_step HB.out hb_)
  clear HB hb_
  have HB := HB_
  clear HB_
  go_wp2_with fail
  go_loopw [9] (fun i wx => ∃ j : Nat, j ≤ 16 ∧ i = .int .i64 j ∧ FullI w FL j wx) (fun i _ => 16 - (intOf i).toNat)
  case atStart => exact ⟨0, by omega, rfl, none, 0, none, 0, ⟨by rw [HNIL.out]; exact on.out⟩, ⟨by rw [HNIL.out]; decide⟩, ⟨by rw [HNIL.out]; exact F_of_C48 (C_nil48 _) (fun ad e _ => by cases e)⟩, ⟨by decide⟩, ⟨F_of_C39 (C_nil39 _) (fun ad e _ => by cases e)⟩, omet, HB⟩
  case round =>
    clear HNIL on omet HB onc onf onl ometc ometf ometl hzwa hmk
    obtain ⟨j, hj, rfl, A_s, c_s, A_q, c_q, on, sc, s, qc, q, omet, HB⟩ := hrel
    obtain ⟨onc, onf, onl⟩ := cells_of on.out
    obtain ⟨ometc, ometf, ometl⟩ := cells_of omet.out
    have hzr : w.heap.size + 1 < wr.heap.size := ometl
    have hz := HB.out.size
    have hp0 := G0.out
    have hp1 := G1.out
    have hn0 := G2.out
    have hn1 := G3.out
    have HWJ := Aside0.mk (HWFS.out j hj)
    have HLJ : Aside0 ((FL j).length ≤ 1000) := ⟨by rw [HLEN.out]; omega⟩
    by_cases hlt : j < 16
    · obtain ⟨n, hn⟩ : ∃ n : Nat, n = j + 1 := ⟨_, rfl⟩
      have HOP : Aside0 (openF (FL j) hQ0 now (port + j) remote 7 = (FL n, hQ0, (n : Int), true)) := ⟨by rw [hn]; exact HOPEN.out j hlt⟩
      have hlt' : (j : Int) < 16 := by omega
      have hw1 : wrap64 (port + j) = port + j := by unfold wrap64; omega
      have hg : (metA j)[n]? = some (.bool false) := by rw [hn]; exact metA_get j hlt
      have HST : Aside0 ((metA j).setIfInBounds n (.bool true) = metA n) := ⟨by rw [hn]; exact metA_set j hlt⟩
      have hm1 : ¬ (n : Int) < 1 := by omega
      have hm1b : decide ((n : Int) < 1) = false := decide_eq_false hm1
      have hm2 : ¬ (n : Int) > 16 := by omega
      have hm2b : decide ((n : Int) > 16) = false := decide_eq_false hm2
      have hm3 : (n : Int) < 17 := by omega
      have hm4 : n < 17 := by omega
      have hw2 : wrap64 ((j : Int) + 1) = (n : Int) := by unfold wrap64; omega
      have HN := Aside0.mk hn
      clear hn
      go_wp2_with fail
      (go_at_call 7; (with_reducible refine (open_is A_s c_s (FL j) A_q c_q hQ0 now _ _ _ (fG s) sc.out (fG q) qc.out HWJ.out wq0 HLJ.out (by decide) (port + j) remote 7 (FL n) hQ0 (n : Int) true HOP.out).mono ?_); rintro e_ w1 ⟨A_s2, c_s2, A_q2, c_q2, rfl, hc_s2, hr_s2, hc_q2, hr_q2, hb_⟩; have HB_ : Aside0 (Below w.heap.size w w1) := Aside0.mk (below_step (bG HB) hb_); have hzw1 := hb_.size; (try simp at hzw1); have on_ := Aside0.mk (box_below hb_ (eG on)); have omet_ := Aside0.mk (box_below hb_ (eG omet)); (try clear on onc onf onl); have on := on_; clear on_; obtain ⟨onc, onf, onl⟩ := cells_of on.out; (try clear omet ometc ometf ometl); have omet := omet_; clear omet_; obtain ⟨ometc, ometf, ometl⟩ := cells_of omet.out; clear HB hb_; have HB := HB_; clear HB_; have s2c := Aside0.mk hc_s2; have s2 := Aside0.mk (Kd.F_bound hr_s2); clear hc_s2 hr_s2; have q2c := Aside0.mk hc_q2; have q2 := Aside0.mk (Kd.F_bound hr_q2); clear hc_q2 hr_q2; skip)
      go_upto_region 9 with fail
      obtain ⟨w2, hw_, ob0, hb_, hz0⟩ := letter1 w1 (.cells #[.slice A_s2 (FL n).length c_s2, .slice A_q2 hQ0.length c_q2] 27 (0, 0))
      rw [hw_]
      clear hw_
      have hzw2 := Nat.le_of_eq hz0.symm
      clear hz0
      have on_ := Aside0.mk (box_below hb_ on.out)
      (try clear on onc onf onl)
      have on := on_
      clear on_
      obtain ⟨onc, onf, onl⟩ := cells_of on.out
      have omet_ := Aside0.mk (box_below hb_ omet.out)
      (try clear omet ometc ometf ometl)
      have omet := omet_
      clear omet_
      obtain ⟨ometc, ometf, ometl⟩ := cells_of omet.out
      have s2_ := Aside0.mk (Kd.F_below s2.out hb_)
      clear s2
      have s2 := s2_
      clear s2_
      have q2_ := Aside0.mk (Kd.F_below q2.out hb_)
      clear q2
      have q2 := q2_
      clear q2_
      have ob := Aside0.mk ob0
      clear ob0
      obtain ⟨obc, obf, obl⟩ := cells_of ob.out
      have HB_ : Aside0 (Below w.heap.size w w2) := Aside0.mk (below_step HB.out hb_)
      clear HB hb_
      have HB := HB_
      clear HB_
      have hgc : w2.cell? ⟨w.heap.size + 1, n, none⟩ = some (.bool false) := (ometc n).trans hg
      go_upto_region 12 with fail
      (have s2_ := Aside0.mk (Kd.F_far (p := ⟨w.heap.size + 1, n, none⟩) s2.out (fun j_ hj_ => by (try dsimp only at hj_); (try dsimp only); (try simp only [sz_alloc, sz_drew, sz_drewN, sz_set] at hj_); omega) (.bool true)); clear s2; have s2 := s2_; clear s2_; have q2_ := Aside0.mk (Kd.F_far (p := ⟨w.heap.size + 1, n, none⟩) q2.out (fun j_ hj_ => by (try dsimp only at hj_); (try dsimp only); (try simp only [sz_alloc, sz_drew, sz_drewN, sz_set] at hj_); omega) (.bool true)); clear q2; have q2 := q2_; clear q2_; have on_ := Aside0.mk (blk_far (p := ⟨w.heap.size + 1, n, none⟩) on.out (by show _ ≠ _; dsimp only; omega) (.bool true)); clear on onc onf onl; have on := on_; clear on_; obtain ⟨onc, onf, onl⟩ := cells_of on.out; have ob_ := Aside0.mk (blk_far (p := ⟨w.heap.size + 1, n, none⟩) ob.out (by show _ ≠ _; dsimp only; omega) (.bool true)); clear ob obc obf obl; have ob := ob_; clear ob_; obtain ⟨obc, obf, obl⟩ := cells_of ob.out; have omet_ := Aside0.mk (blk_put omet.out n (.bool true) (cs' := ((metA j).setIfInBounds n (.bool true))) rfl); clear omet ometc ometf ometl; have omet := omet_; clear omet_; obtain ⟨ometc, ometf, ometl⟩ := cells_of omet.out)
      have omet_ : Aside0 (_ = some (Obj.cells (metA n) 4 (0, 0))) := Aside0.mk (HST.out ▸ omet.out)
      clear omet ometc ometf ometl hgc hg HST
      have omet := omet_
      clear omet_
      obtain ⟨ometc, ometf, ometl⟩ := cells_of omet.out
      go_upto_region 7 with fail
      (have s2_ := Aside0.mk (Kd.F_far (p := ⟨w.heap.size, 0, none⟩) s2.out (fun j_ hj_ => by (try dsimp only at hj_); (try dsimp only); (try simp only [sz_alloc, sz_drew, sz_drewN, sz_set] at hj_); omega) (.slice A_s2 (FL n).length c_s2)); clear s2; have s2 := s2_; clear s2_; have q2_ := Aside0.mk (Kd.F_far (p := ⟨w.heap.size, 0, none⟩) q2.out (fun j_ hj_ => by (try dsimp only at hj_); (try dsimp only); (try simp only [sz_alloc, sz_drew, sz_drewN, sz_set] at hj_); omega) (.slice A_s2 (FL n).length c_s2)); clear q2; have q2 := q2_; clear q2_; have omet_ := Aside0.mk (blk_far (p := ⟨w.heap.size, 0, none⟩) omet.out (by show _ ≠ _; dsimp only; omega) (.slice A_s2 (FL n).length c_s2)); clear omet ometc ometf ometl; have omet := omet_; clear omet_; obtain ⟨ometc, ometf, ometl⟩ := cells_of omet.out; have ob_ := Aside0.mk (blk_far (p := ⟨w.heap.size, 0, none⟩) ob.out (by show _ ≠ _; dsimp only; omega) (.slice A_s2 (FL n).length c_s2)); clear ob obc obf obl; have ob := ob_; clear ob_; obtain ⟨obc, obf, obl⟩ := cells_of ob.out; have on_ := Aside0.mk (blk_put on.out 0 (.slice A_s2 (FL n).length c_s2) (cs' := #[.slice A_s2 (FL n).length c_s2, .slice A_q hQ0.length c_q]) rfl); clear on onc onf onl; have on := on_; clear on_; obtain ⟨onc, onf, onl⟩ := cells_of on.out)
      (have s2_ := Aside0.mk (Kd.F_far (p := ⟨w.heap.size, 1, none⟩) s2.out (fun j_ hj_ => by (try dsimp only at hj_); (try dsimp only); (try simp only [sz_alloc, sz_drew, sz_drewN, sz_set] at hj_); omega) (.slice A_q2 hQ0.length c_q2)); clear s2; have s2 := s2_; clear s2_; have q2_ := Aside0.mk (Kd.F_far (p := ⟨w.heap.size, 1, none⟩) q2.out (fun j_ hj_ => by (try dsimp only at hj_); (try dsimp only); (try simp only [sz_alloc, sz_drew, sz_drewN, sz_set] at hj_); omega) (.slice A_q2 hQ0.length c_q2)); clear q2; have q2 := q2_; clear q2_; have omet_ := Aside0.mk (blk_far (p := ⟨w.heap.size, 1, none⟩) omet.out (by show _ ≠ _; dsimp only; omega) (.slice A_q2 hQ0.length c_q2)); clear omet ometc ometf ometl; have omet := omet_; clear omet_; obtain ⟨ometc, ometf, ometl⟩ := cells_of omet.out; have ob_ := Aside0.mk (blk_far (p := ⟨w.heap.size, 1, none⟩) ob.out (by show _ ≠ _; dsimp only; omega) (.slice A_q2 hQ0.length c_q2)); clear ob obc obf obl; have ob := ob_; clear ob_; obtain ⟨obc, obf, obl⟩ := cells_of ob.out; have on_ := Aside0.mk (blk_put on.out 1 (.slice A_q2 hQ0.length c_q2) (cs' := #[.slice A_s2 (FL n).length c_s2, .slice A_q2 hQ0.length c_q2]) rfl); clear on onc onf onl; have on := on_; clear on_; obtain ⟨onc, onf, onl⟩ := cells_of on.out)
      go_wp2
      go_roundw
      case rel => exact ⟨n, by omega, congrArg (Value.int .i64) (by have := HN.out; omega), A_s2, c_s2, A_q2, c_q2, on, s2c, ⟨Kd.F_mono s2.out (fun k hk => by (try dsimp only at hk ⊢); omega)⟩, q2c, ⟨Kd.F_mono q2.out (fun k hk => by (try dsimp only at hk ⊢); omega)⟩, omet, ⟨(bG HB)⟩⟩
      case measure => have := HN.out; simp [intOf]; omega
    · obtain rfl : j = 16 := by omega
      have hw3 : wrap64 (now + 59) = now + 59 := by unfold wrap64; omega
      have hw4 : wrap64 (port + 16) = port + 16 := by unfold wrap64; omega
      have hw5 : wrap64 (now + 60) = now + 60 := by unfold wrap64; omega
      have HSM : Aside0 (drawbridgeref26_Same.f ((FL 16).length + 3) (FL 16) hQ0 (FL 16) hQ0 = some true) := ⟨same_is _ HLJ.out⟩
      obtain ⟨L1, hL1⟩ : ∃ L, openF (FL 16) hQ0 (now + 60) (port + 16) remote 7 = (L, hQ0, 1, true) := ⟨_, HLATE.out⟩
      have HL1 := Aside0.mk hL1
      have HF1 : Aside0 (openF (FL 16) hQ0 (now + 59) (port + 16) remote 7 = (FL 16, hQ0, 0, false)) := ⟨HFULL.out⟩
      clear hL1 HLATE HFULL
      go_wp2_with fail
      (go_at_call 7; (with_reducible refine (open_is A_s c_s (FL 16) A_q c_q hQ0 (now + 59) _ _ _ (fG s) sc.out (fG q) qc.out HWJ.out wq0 HLJ.out (by decide) (port + 16) remote 7 (FL 16) hQ0 0 false HF1.out).mono ?_); rintro e_ w1 ⟨A_s2, c_s2, A_q2, c_q2, rfl, hc_s2, hr_s2, hc_q2, hr_q2, hb_⟩; have HB_ : Aside0 (Below w.heap.size w w1) := Aside0.mk (below_step (bG HB) hb_); have hzw1 := hb_.size; (try simp at hzw1); have on_ := Aside0.mk (box_below hb_ (eG on)); have s_ := Aside0.mk (Kd.F_below (fG s) hb_); clear s; have s := s_; clear s_; have q_ := Aside0.mk (Kd.F_below (fG q) hb_); clear q; have q := q_; clear q_; (try clear on onc onf onl); have on := on_; clear on_; obtain ⟨onc, onf, onl⟩ := cells_of on.out; clear HB hb_; have HB := HB_; clear HB_; have s2c := Aside0.mk hc_s2; have s2 := Aside0.mk (Kd.F_bound hr_s2); clear hc_s2 hr_s2; have q2c := Aside0.mk hc_q2; have q2 := Aside0.mk (Kd.F_bound hr_q2); clear hc_q2 hr_q2; skip)
      go_upto_region 14 with fail
      obtain ⟨w2, hw_, ob0, hb_, hz0⟩ := letter1 w1 (.cells #[.slice A_s2 (FL 16).length c_s2, .slice A_q2 hQ0.length c_q2] 27 (0, 0))
      rw [hw_]
      clear hw_
      have hzw2 := Nat.le_of_eq hz0.symm
      clear hz0
      have on_ := Aside0.mk (box_below hb_ on.out)
      (try clear on onc onf onl)
      have on := on_
      clear on_
      obtain ⟨onc, onf, onl⟩ := cells_of on.out
      have s_ := Aside0.mk (Kd.F_below s.out hb_)
      clear s
      have s := s_
      clear s_
      have q_ := Aside0.mk (Kd.F_below q.out hb_)
      clear q
      have q := q_
      clear q_
      have s2_ := Aside0.mk (Kd.F_below s2.out hb_)
      clear s2
      have s2 := s2_
      clear s2_
      have q2_ := Aside0.mk (Kd.F_below q2.out hb_)
      clear q2
      have q2 := q2_
      clear q2_
      have ob := Aside0.mk ob0
      clear ob0
      obtain ⟨obc, obf, obl⟩ := cells_of ob.out
      have HB_ : Aside0 (Below w.heap.size w w2) := Aside0.mk (below_step HB.out hb_)
      clear HB hb_
      have HB := HB_
      clear HB_
      go_wp2_with fail
      (go_at_call 7; (with_reducible refine (open_is A_s c_s (FL 16) A_q c_q hQ0 (now + 60) _ _ _ (fG s) sc.out (fG q) qc.out HWJ.out wq0 HLJ.out (by decide) (port + 16) remote 7 L1 hQ0 1 true HL1.out).mono ?_); rintro e_ w3 ⟨A_s3, c_s3, A_q3, c_q3, rfl, hc_s3, hr_s3, hc_q3, hr_q3, hb_⟩; have HB_ : Aside0 (Below w.heap.size w w3) := Aside0.mk (below_step (bG HB) hb_); have hzw3 := hb_.size; (try simp at hzw3); have on_ := Aside0.mk (box_below hb_ (eG on)); have ob_ := Aside0.mk (box_below hb_ (eG ob)); have s_ := Aside0.mk (Kd.F_below (fG s) hb_); clear s; have s := s_; clear s_; have q_ := Aside0.mk (Kd.F_below (fG q) hb_); clear q; have q := q_; clear q_; have s2_ := Aside0.mk (Kd.F_below (fG s2) hb_); clear s2; have s2 := s2_; clear s2_; have q2_ := Aside0.mk (Kd.F_below (fG q2) hb_); clear q2; have q2 := q2_; clear q2_; (try clear on onc onf onl); have on := on_; clear on_; obtain ⟨onc, onf, onl⟩ := cells_of on.out; (try clear ob obc obf obl); have ob := ob_; clear ob_; obtain ⟨obc, obf, obl⟩ := cells_of ob.out; clear HB hb_; have HB := HB_; clear HB_; have s3c := Aside0.mk hc_s3; have s3 := Aside0.mk (Kd.F_bound hr_s3); clear hc_s3 hr_s3; have q3c := Aside0.mk hc_q3; have q3 := Aside0.mk (Kd.F_bound hr_q3); clear hc_q3 hr_q3; skip)
      go_upto_region 15 with fail
      obtain ⟨w4, hw_, oc0, hb_, hz0⟩ := letter1 w3 (.cells #[.slice A_s3 L1.length c_s3, .slice A_q3 hQ0.length c_q3] 27 (0, 0))
      rw [hw_]
      clear hw_
      have hzw4 := Nat.le_of_eq hz0.symm
      clear hz0
      have on_ := Aside0.mk (box_below hb_ on.out)
      (try clear on onc onf onl)
      have on := on_
      clear on_
      obtain ⟨onc, onf, onl⟩ := cells_of on.out
      have ob_ := Aside0.mk (box_below hb_ ob.out)
      (try clear ob obc obf obl)
      have ob := ob_
      clear ob_
      obtain ⟨obc, obf, obl⟩ := cells_of ob.out
      have s_ := Aside0.mk (Kd.F_below s.out hb_)
      clear s
      have s := s_
      clear s_
      have q_ := Aside0.mk (Kd.F_below q.out hb_)
      clear q
      have q := q_
      clear q_
      have s2_ := Aside0.mk (Kd.F_below s2.out hb_)
      clear s2
      have s2 := s2_
      clear s2_
      have q2_ := Aside0.mk (Kd.F_below q2.out hb_)
      clear q2
      have q2 := q2_
      clear q2_
      have oc := Aside0.mk oc0
      clear oc0
      obtain ⟨occ, ocf, ocl⟩ := cells_of oc.out
      have HB_ : Aside0 (Below w.heap.size w w4) := Aside0.mk (below_step HB.out hb_)
      clear HB hb_
      have HB := HB_
      clear HB_
      go_wp2_with fail
      (go_at_call 8; (with_reducible refine (same_c ((FL 16).length + 3) A_s2 c_s2 (FL 16) A_q2 c_q2 hQ0 A_s c_s A_q c_q _ (Kd.F_now (fG s2)) s2c.out (Kd.F_now (fG q2)) q2c.out (Kd.F_now (fG s)) sc.out (Kd.F_now (fG q)) qc.out HSM.out).mono ?_); rintro e_ w5 ⟨rfl, hb_⟩; have HB_ : Aside0 (Below w.heap.size w w5) := Aside0.mk (below_step (bG HB) hb_); have hzw5 := hb_.size; (try simp at hzw5); clear HB hb_; have HB := HB_; clear HB_)
      go_wp2_with fail
      (go_at_call 6; (with_reducible refine (heads_is _).mono ?_); rintro e_ w6 ⟨rfl, hb_⟩; have HB_ : Aside0 (Below w.heap.size w w6) := Aside0.mk (below_step (bG HB) hb_); have hzw6 := hb_.size; (try simp at hzw6); clear HB hb_; have HB := HB_; clear HB_)
      go_wp2
      go_ret
      exact ⟨rfl, HB.out⟩
end Go.Proofs.Ytnjgejjijboibaa.Q
end
section
/- NatFull: the walk and the plain law, joined. -/
namespace Go.Proofs.Ytnjgejjijboibaa.Q
open Go.RowKit Go.Proofs.YtnjgejjijboibaaW.PrintWords Go.Proofs.YtnjgejjijboibaaW.PrintLast Go.Proofs.YtnjgejjijboibaaW.PrintMore Go.Proofs.Ytnjgejjijboibaa.L
attribute [local go_sem] Instr.field part asAgg lt_step max2_int min2_int max_two min_two max_three min_three max_four min_four lt_0_1 lt_0_2 lt_1_2 lt_0_3 lt_1_3 lt_2_3 lt_0_4 lt_1_4 lt_2_4 lt_3_4 lt_0_5 lt_1_5 lt_2_5 lt_3_5 lt_4_5 lt_0_6 lt_1_6 lt_2_6 lt_3_6 lt_4_6 lt_5_6 lt_0_7 lt_1_7 lt_2_7 lt_3_7 lt_4_7 lt_5_7 lt_6_7 lt_0_8 lt_1_8 lt_2_8 lt_3_8 lt_4_8 lt_5_8 lt_6_8 lt_7_8
set_option linter.unusedVariables false
set_option linter.unusedSimpArgs false
def drawbridgelaw26_NatFull.f (a0 a1 a2 : Int) : Option Bool := if wf32 a1 then some true else none
theorem drawbridgelaw26_NatFull.calls (a0 a1 a2 : Int) (r : Bool) (w : World) (h : drawbridgelaw26_NatFull.f a0 a1 a2 = some r) :
    Calls Try.prog 3 #[.int .i64 a0, .int .u32 a1, .int .i64 a2] w fun e w' => e = .returned (.bool r) ∧ Below w.heap.size w w' := by
  unfold drawbridgelaw26_NatFull.f at h
  split at h
  case isFalse => cases h
  case isTrue hh =>
  obtain rfl := Option.some.inj h
  cases hG : (decide (a0 < 0) || decide (a0 > 60000) || decide (a2 < 0) || decide (a2 > 549755813888)) with
  | true => exact NatFull_no a0 a1 a2 w hG
  | false =>
    simp only [Bool.or_eq_false_iff] at hG
    obtain ⟨⟨⟨t0, t1⟩, t2⟩, t3⟩ := hG
    exact NatFull_yes a0 a1 a2 w hh t0 t1 t2 t3
end Go.Proofs.Ytnjgejjijboibaa.Q
end
section
/- Plain facts on whole numbers, bytes and bits, no program in sight: the value of a row of bytes, what '|' of separate fields is. -/
set_option linter.unusedVariables false
namespace Go.Proofs.Ytnjgejjijboibaa.L
open Go.RowKit

def byte (x : Int) : Prop := 0 ≤ x ∧ x < 256
instance (x : Int) : Decidable (byte x) := inferInstanceAs (Decidable (_ ∧ _))
def u64B (x : Int) : Prop := 0 ≤ x ∧ x < 18446744073709551616
instance (x : Int) : Decidable (u64B x) := inferInstanceAs (Decidable (_ ∧ _))
end Go.Proofs.Ytnjgejjijboibaa.L
end
section
namespace Go.Proofs.Ytnjgejjijboibaa.Pure
open Go.RowKit Go.Proofs.Ytnjgejjijboibaa.Q Go.Proofs.YtnjgejjijboibaaW.PrintWords Go.Proofs.YtnjgejjijboibaaW.PrintLast Go.Proofs.YtnjgejjijboibaaW.PrintMore Go.Proofs.Ytnjgejjijboibaa.L
/-- The pure statement of NatFull: numbers and lists alone. -/
def NatFull.Said : Prop := ∀ (a0 : Int) (a1 : Int) (a2 : Int), (Lit.int .i64 a0).wf = true → (Lit.int .u32 a1).wf = true → (Lit.int .i64 a2).wf = true → drawbridgelaw26_NatFull.f a0 a1 a2 = some true
end Go.Proofs.Ytnjgejjijboibaa.Pure
end
section
/- NatFull, in plain numbers: what is asked of the inputs is what every Go value is. No condition beyond the statement's own. -/
namespace Go.Proofs.Ytnjgejjijboibaa.Pure
open Go.RowKit Go.Proofs.Ytnjgejjijboibaa.Q Go.Proofs.Ytnjgejjijboibaa.L
theorem wf32_int {x : Int} (h : (Lit.int .u32 x).wf = true) : wf32 x := by
  simp [Lit.wf] at h
  unfold wf32
  have h1 : 0 ≤ x := h.1
  have h2 : x ≤ 4294967295 := h.2
  exact ⟨h1, by omega⟩
theorem NatFull : NatFull.Said := by
  intro a0 a1 a2 _ h1 _
  unfold drawbridgelaw26_NatFull.f
  rw [if_pos (wf32_int h1)]
end Go.Proofs.Ytnjgejjijboibaa.Pure
end
