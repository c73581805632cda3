import Derived.Test.YtdblpflepfcnjaaPZ1
import Derived.Test.YtdblpflepfcnjaaPZ7
import Derived.Test.YtdblpflepfcnjaaPZ4
import Derived.Test.YtdblpflepfcnjaaPXNr2
import Derived.Test.YtdblpflepfcnjaaPZ3
import Derived.Test.YtdblpflepfcnjaaPZ5
import Derived.Deep.DeepCutAuto
section
/- What must come at any rate: the walk. -/
namespace Go.Proofs.Ytdblpflepfcnjaa.Q
open Go.RowKit Go.Proofs.YtdblpflepfcnjaaW.PrintWords Go.Proofs.YtdblpflepfcnjaaW.PrintLast Go.Proofs.YtdblpflepfcnjaaW.PrintMore Go.Proofs.Ytdblpflepfcnjaa.L
attribute [local go_sem] Instr.field part asAgg lt_step max2_int min2_int max_two min_two max_three min_three max_four min_four lt_0_1 lt_0_2 lt_1_2 lt_0_3 lt_1_3 lt_2_3 lt_0_4 lt_1_4 lt_2_4 lt_3_4 lt_0_5 lt_1_5 lt_2_5 lt_3_5 lt_4_5 lt_0_6 lt_1_6 lt_2_6 lt_3_6 lt_4_6 lt_5_6 lt_0_7 lt_1_7 lt_2_7 lt_3_7 lt_4_7 lt_5_7 lt_6_7 lt_0_8 lt_1_8 lt_2_8 lt_3_8 lt_4_8 lt_5_8 lt_6_8 lt_7_8
set_option linter.unusedVariables false
set_option linter.unusedSimpArgs false
def drawbridgelaw12_heads.f : Option Bool := some true
set_option maxHeartbeats 1600000 in
set_option maxRecDepth 100000 in
theorem heads_is (w : World) : Calls Try.prog 10 #[] w fun e w' => e = .returned (.bool true) ∧ Below w.heap.size w w' := by
  have HB := Aside0.mk (Below.refl w.heap.size w)
  have hu := Try.underlying25
  have hu7 := Try.underlying27
  have hmk : ∀ W : World, (Instr.makeSlice 23 (.int .i64 64) (.int .i64 64)).run Try.prog W = .ok (.slice (some ⟨W.heap.size, 0, none⟩) 64 64) (W.alloc (.cells (Array.replicate 64 (.int .u8 0)) 5 (0, 0))) := fun _ => by kernel_rfl
  go_enter Try.func10, Try.ntmps10
  go_wp2_with fail
  (go_at_call 17; (with_reducible refine (newH _ _ (nb_1 _ _)).mono ?_); rintro e_ w1 ⟨A_m, c_m, rfl, hc_m, hr_m, hb_⟩; have HB_ : Aside0 (Below w.heap.size w w1) := Aside0.mk (below_step (bG HB) hb_); have hzw1 := hb_.size; (try simp at hzw1); clear HB hb_; have HB := HB_; clear HB_; have mc := Aside0.mk hc_m; have m := Aside0.mk (Kd.F_bound hr_m); clear hc_m hr_m; skip)
  go_wp2_with (first | ((with_reducible refine gate_store (t := 25) (p := 1) (v := .tmp 23) rfl ?_); refine wpList_store_all rfl 25 _ _ rfl rfl _ (C14 new1 (.slice A_m macH.length c_m)) (by rfl) (by rfl) _ _ (nb_1 _ _) rfl i25 (C14_one _ _ _ _) ?_; rintro w2 ⟨hx_, hk_, hb_, hzz_⟩; have HB_ : Aside0 (Below w.heap.size w w2) := Aside0.mk (Below.trans (bG HB) (Below.mono hb_ (by first | omega | (simp only [sz_alloc, sz_drew, sz_drewN]; omega)))); have hzw2 := Nat.le_of_eq hzz_.symm; (try simp at hzw2); clear hzz_; have m_ := Aside0.mk (Kd.F_step (fG m) (fun j_ hj_ hl_ => hk_ j_ (by (try dsimp only at hj_); (try simp only [sz_alloc, sz_drew, sz_drewN, sz_set] at hj_); omega))); clear m; have m := m_; clear m_; (try clear on onc onf onl); have on := Aside0.mk hx_; obtain ⟨onc, onf, onl⟩ := cells_of on.out; clear HB hb_ hk_ hx_; have HB := HB_; clear HB_))
  (go_at_call 17; (with_reducible refine (newN _).mono ?_); rintro e_ w3 ⟨rfl, hb_⟩; have HB_ : Aside0 (Below w.heap.size w w3) := Aside0.mk (below_step (bG HB) hb_); have hzw3 := hb_.size; (try simp at hzw3); have on_ := Aside0.mk (box_below hb_ (eG on)); have m_ := Aside0.mk (Kd.F_below (fG m) hb_); clear m; have m := m_; clear m_; (try clear on onc onf onl); have on := on_; clear on_; obtain ⟨onc, onf, onl⟩ := cells_of on.out; clear HB hb_; have HB := HB_; clear HB_)
  go_wp2_with (first | ((with_reducible refine gate_store (t := 25) (p := 3) (v := .tmp 27) rfl ?_); refine wpList_store_all rfl 25 _ _ rfl rfl _ (C14 new0 (.slice none 0 0)) (by rfl) (by rfl) _ _ (nb_1 _ _) rfl i25 (C14_one _ _ _ _) ?_; rintro w4 ⟨hx_, hk_, hb_, hzz_⟩; have HB_ : Aside0 (Below w.heap.size w w4) := Aside0.mk (Below.trans (bG HB) (Below.mono hb_ (by first | omega | (simp only [sz_alloc, sz_drew, sz_drewN]; omega)))); have hzw4 := Nat.le_of_eq hzz_.symm; (try simp at hzw4); clear hzz_; have on_ := Aside0.mk (st_put on.out hk_ (fun h_ => (by repeat (with_reducible first | exact h_ | apply ext_drew | apply ext_drewN | apply ext_alloc | refine blk_far ?_ (by show _ ≠ _; dsimp only; omega) _))) (by omega)); clear on onc onf onl; have on := on_; clear on_; obtain ⟨onc, onf, onl⟩ := cells_of on.out; have m_ := Aside0.mk (Kd.F_step (fG m) (fun j_ hj_ hl_ => hk_ j_ (by (try dsimp only at hj_); (try simp only [sz_alloc, sz_drew, sz_drewN, sz_set] at hj_); omega))); clear m; have m := m_; clear m_; (try clear ox oxc oxf oxl); have ox := Aside0.mk hx_; obtain ⟨oxc, oxf, oxl⟩ := cells_of ox.out; clear HB hb_ hk_ hx_; have HB := HB_; clear HB_) | ((with_reducible refine gate_dst (N := 30) rfl ?_); (try (refine gate_guard (by rfl) ?_; dsimp only)); refine wpList_load_row rfl 25 _ rfl _ (by rfl) _ (C14 new1 (.slice A_m macH.length c_m)) _ _ (eG on) Try.underlying25 rfl i25 ?_))
  (go_at_call 15; (with_reducible refine (storeH1 A_m c_m _ _ (fG m) mc.out).mono ?_); rintro e_ w5 ⟨rfl, hb_⟩; have HB_ : Aside0 (Below w.heap.size w w5) := Aside0.mk (below_step (bG HB) hb_); have hzw5 := hb_.size; (try simp at hzw5); have on_ := Aside0.mk (box_below hb_ (eG on)); have m_ := Aside0.mk (Kd.F_below (fG m) hb_); clear m; have m := m_; clear m_; (try clear on onc onf onl); have on := on_; clear on_; obtain ⟨onc, onf, onl⟩ := cells_of on.out; clear HB hb_; have HB := HB_; clear HB_)
  go_wp2_with (first | ((with_reducible refine gate_store (t := 25) (p := 1) (v := .tmp 32) rfl ?_); refine wpList_store_all rfl 25 _ _ rfl rfl _ (C14 hd1 (.slice A_m macH.length c_m)) (by rfl) (by rfl) _ _ on.out rfl i25 (C14_one _ _ _ _) ?_; rintro w6 ⟨hx_, hk_, hb_, hzz_⟩; have HB_ : Aside0 (Below w.heap.size w w6) := Aside0.mk (Below.trans (bG HB) (Below.mono hb_ (by first | omega | (simp only [sz_alloc, sz_drew, sz_drewN]; omega)))); have hzw6 := Nat.le_of_eq hzz_.symm; (try simp at hzw6); clear hzz_; have m_ := Aside0.mk (Kd.F_step (fG m) (fun j_ hj_ hl_ => hk_ j_ (by (try dsimp only at hj_); (try simp only [sz_alloc, sz_drew, sz_drewN, sz_set] at hj_); omega))); clear m; have m := m_; clear m_; (try clear on onc onf onl); have on := Aside0.mk hx_; obtain ⟨onc, onf, onl⟩ := cells_of on.out; clear HB hb_ hk_ hx_; have HB := HB_; clear HB_) | ((with_reducible refine gate_dst (N := 35) rfl ?_); (try (refine gate_guard (by rfl) ?_; dsimp only)); refine wpList_load_row rfl 25 _ rfl _ (by rfl) _ (C14 hd1 (.slice A_m macH.length c_m)) _ _ (eG on) Try.underlying25 rfl i25 ?_))
  (go_at_call 15; (with_reducible refine (storeH2 A_m c_m _ _ (fG m) mc.out).mono ?_); rintro e_ w7 ⟨rfl, hb_⟩; have HB_ : Aside0 (Below w.heap.size w w7) := Aside0.mk (below_step (bG HB) hb_); have hzw7 := hb_.size; (try simp at hzw7); have on_ := Aside0.mk (box_below hb_ (eG on)); have m_ := Aside0.mk (Kd.F_below (fG m) hb_); clear m; have m := m_; clear m_; (try clear on onc onf onl); have on := on_; clear on_; obtain ⟨onc, onf, onl⟩ := cells_of on.out; clear HB hb_; have HB := HB_; clear HB_)
  go_wp2_with (first | ((with_reducible refine gate_store (t := 25) (p := 1) (v := .tmp 37) rfl ?_); refine wpList_store_all rfl 25 _ _ rfl rfl _ (C14 hd2 (.slice A_m macH.length c_m)) (by rfl) (by rfl) _ _ on.out rfl i25 (C14_one _ _ _ _) ?_; rintro w8 ⟨hx_, hk_, hb_, hzz_⟩; have HB_ : Aside0 (Below w.heap.size w w8) := Aside0.mk (Below.trans (bG HB) (Below.mono hb_ (by first | omega | (simp only [sz_alloc, sz_drew, sz_drewN]; omega)))); have hzw8 := Nat.le_of_eq hzz_.symm; (try simp at hzw8); clear hzz_; have m_ := Aside0.mk (Kd.F_step (fG m) (fun j_ hj_ hl_ => hk_ j_ (by (try dsimp only at hj_); (try simp only [sz_alloc, sz_drew, sz_drewN, sz_set] at hj_); omega))); clear m; have m := m_; clear m_; (try clear on onc onf onl); have on := Aside0.mk hx_; obtain ⟨onc, onf, onl⟩ := cells_of on.out; clear HB hb_ hk_ hx_; have HB := HB_; clear HB_) | ((with_reducible refine gate_dst (N := 40) rfl ?_); (try (refine gate_guard (by rfl) ?_; dsimp only)); refine wpList_load_row rfl 25 _ rfl _ (by rfl) _ (C14 hd2 (.slice A_m macH.length c_m)) _ _ (eG on) Try.underlying25 rfl i25 ?_))
  (go_at_call 15; (with_reducible refine (storeH3 A_m c_m _ _ (fG m) mc.out).mono ?_); rintro e_ w9 ⟨rfl, hb_⟩; have HB_ : Aside0 (Below w.heap.size w w9) := Aside0.mk (below_step (bG HB) hb_); have hzw9 := hb_.size; (try simp at hzw9); have on_ := Aside0.mk (box_below hb_ (eG on)); have m_ := Aside0.mk (Kd.F_below (fG m) hb_); clear m; have m := m_; clear m_; (try clear on onc onf onl); have on := on_; clear on_; obtain ⟨onc, onf, onl⟩ := cells_of on.out; clear HB hb_; have HB := HB_; clear HB_)
  go_wp2_with (first | ((with_reducible refine gate_store (t := 25) (p := 1) (v := .tmp 42) rfl ?_); refine wpList_store_all rfl 25 _ _ rfl rfl _ (C14 hd3 (.slice A_m macH.length c_m)) (by rfl) (by rfl) _ _ on.out rfl i25 (C14_one _ _ _ _) ?_; rintro w10 ⟨hx_, hk_, hb_, hzz_⟩; have HB_ : Aside0 (Below w.heap.size w w10) := Aside0.mk (Below.trans (bG HB) (Below.mono hb_ (by first | omega | (simp only [sz_alloc, sz_drew, sz_drewN]; omega)))); have hzw10 := Nat.le_of_eq hzz_.symm; (try simp at hzw10); clear hzz_; have m_ := Aside0.mk (Kd.F_step (fG m) (fun j_ hj_ hl_ => hk_ j_ (by (try dsimp only at hj_); (try simp only [sz_alloc, sz_drew, sz_drewN, sz_set] at hj_); omega))); clear m; have m := m_; clear m_; (try clear on onc onf onl); have on := Aside0.mk hx_; obtain ⟨onc, onf, onl⟩ := cells_of on.out; clear HB hb_ hk_ hx_; have HB := HB_; clear HB_) | ((with_reducible refine gate_dst (N := 45) rfl ?_); (try (refine gate_guard (by rfl) ?_; dsimp only)); refine wpList_load_row rfl 25 _ rfl _ (by rfl) _ (C14 hd3 (.slice A_m macH.length c_m)) _ _ (eG on) Try.underlying25 rfl i25 ?_))
  (go_at_call 15; (with_reducible refine (storeH4 A_m c_m _ _ (fG m) mc.out).mono ?_); rintro e_ w11 ⟨rfl, hb_⟩; have HB_ : Aside0 (Below w.heap.size w w11) := Aside0.mk (below_step (bG HB) hb_); have hzw11 := hb_.size; (try simp at hzw11); have on_ := Aside0.mk (box_below hb_ (eG on)); have m_ := Aside0.mk (Kd.F_below (fG m) hb_); clear m; have m := m_; clear m_; (try clear on onc onf onl); have on := on_; clear on_; obtain ⟨onc, onf, onl⟩ := cells_of on.out; clear HB hb_; have HB := HB_; clear HB_)
  go_wp2_with (first | ((with_reducible refine gate_store (t := 25) (p := 1) (v := .tmp 47) rfl ?_); refine wpList_store_all rfl 25 _ _ rfl rfl _ (C14 hd4 (.slice A_m macH.length c_m)) (by rfl) (by rfl) _ _ on.out rfl i25 (C14_one _ _ _ _) ?_; rintro w12 ⟨hx_, hk_, hb_, hzz_⟩; have HB_ : Aside0 (Below w.heap.size w w12) := Aside0.mk (Below.trans (bG HB) (Below.mono hb_ (by first | omega | (simp only [sz_alloc, sz_drew, sz_drewN]; omega)))); have hzw12 := Nat.le_of_eq hzz_.symm; (try simp at hzw12); clear hzz_; have m_ := Aside0.mk (Kd.F_step (fG m) (fun j_ hj_ hl_ => hk_ j_ (by (try dsimp only at hj_); (try simp only [sz_alloc, sz_drew, sz_drewN, sz_set] at hj_); omega))); clear m; have m := m_; clear m_; (try clear on onc onf onl); have on := Aside0.mk hx_; obtain ⟨onc, onf, onl⟩ := cells_of on.out; clear HB hb_ hk_ hx_; have HB := HB_; clear HB_))
  (go_at_call 31; (with_reducible refine (fillH _ _ _ (ext_alloc (ext_alloc (nb_1 _ _) _) _) (nb_3 w12 _ _ _)).mono ?_); rintro e_ w13 ⟨A_r, c_r, rfl, hc_r, hr_r, hb_⟩; have HB_ : Aside0 (Below w.heap.size w w13) := Aside0.mk (below_step (bG HB) hb_); have hzw13 := hb_.size; (try simp at hzw13); have on_ := Aside0.mk (box_below hb_ (eG on)); have orr_ := Aside0.mk (box_below hb_ (by repeat (with_reducible first | exact nb_2 w12 _ _ | apply ext_drew | apply ext_drewN | apply ext_alloc | refine blk_far ?_ (by show _ ≠ _; dsimp only; omega) _))); have m_ := Aside0.mk (Kd.F_below (fG m) hb_); clear m; have m := m_; clear m_; (try clear on onc onf onl); have on := on_; clear on_; obtain ⟨onc, onf, onl⟩ := cells_of on.out; (try clear orr orrc orrf orrl); have orr := orr_; clear orr_; obtain ⟨orrc, orrf, orrl⟩ := cells_of orr.out; clear HB hb_; have HB := HB_; clear HB_; have rc := Aside0.mk hc_r; have r := Aside0.mk (Kd.F_bound hr_r); clear hc_r hr_r; skip)
  go_upto_region 9 with fail
  (have m_ := Aside0.mk (Kd.F_far (p := ⟨w12.heap.size + 1, 0, none⟩) m.out (fun j_ hj_ => by (try dsimp only at hj_); (try dsimp only); (try simp only [sz_alloc, sz_drew, sz_drewN, sz_set] at hj_); omega) (.slice A_r r1H.length c_r)); clear m; have m := m_; clear m_; have r_ := Aside0.mk (Kd.F_far (p := ⟨w12.heap.size + 1, 0, none⟩) r.out (fun j_ hj_ => by (try dsimp only at hj_); (try dsimp only); (try simp only [sz_alloc, sz_drew, sz_drewN, sz_set] at hj_); omega) (.slice A_r r1H.length c_r)); clear r; have r := r_; clear r_; have on_ := Aside0.mk (blk_far (p := ⟨w12.heap.size + 1, 0, none⟩) on.out (by show _ ≠ _; dsimp only; omega) (.slice A_r r1H.length c_r)); clear on onc onf onl; have on := on_; clear on_; obtain ⟨onc, onf, onl⟩ := cells_of on.out; have orr_ := Aside0.mk (blk_put orr.out 0 (.slice A_r r1H.length c_r) (cs' := #[.slice A_r r1H.length c_r]) rfl); clear orr orrc orrf orrl; have orr := orr_; clear orr_; obtain ⟨orrc, orrf, orrl⟩ := cells_of orr.out)
  go_wp2_with (first | ((with_reducible refine gate_dst (N := 58) rfl ?_); (try (refine gate_guard (by rfl) ?_; dsimp only)); refine wpList_load_row rfl 25 _ rfl _ (by rfl) _ (C14 hd4 (.slice A_m macH.length c_m)) _ _ (eG on) Try.underlying25 rfl i25 ?_))
  (go_at_call 11; (with_reducible refine (sendH1 A_m c_m _ A_r c_r _ (fG r) rc.out).mono ?_); rintro e_ w14 ⟨A_s, c_s, A_q, c_q, rfl, hc_s, hr_s, hc_q, hr_q, hb_⟩; have HB_ : Aside0 (Below w.heap.size w w14) := Aside0.mk (below_step (bG HB) hb_); have hzw14 := hb_.size; (try simp at hzw14); have on_ := Aside0.mk (box_below hb_ (eG on)); have orr_ := Aside0.mk (box_below hb_ (eG orr)); have m_ := Aside0.mk (Kd.F_below (fG m) hb_); clear m; have m := m_; clear m_; (try clear on onc onf onl); have on := on_; clear on_; obtain ⟨onc, onf, onl⟩ := cells_of on.out; (try clear orr orrc orrf orrl); have orr := orr_; clear orr_; obtain ⟨orrc, orrf, orrl⟩ := cells_of orr.out; clear HB hb_; have HB := HB_; clear HB_; have sc := Aside0.mk hc_s; have s := Aside0.mk (Kd.F_bound hr_s); clear hc_s hr_s; have qc := Aside0.mk hc_q; have q := Aside0.mk (Kd.F_bound hr_q); clear hc_q hr_q; skip)
  have os := Aside0.mk (nb_2 w14 (.cells #[.int .i64 0, .int .i64 0, .int .i64 0, .int .u64 0, .int .i64 0, .int .i64 0, .int .i64 0, .int .u64 0, .int .i64 0, .int .i64 0, .int .i64 0, .int .i64 0, .int .i64 0, .slice none 0 0] 25 (0, 0)) (.cells #[.slice none 0 0] 27 (0, 0)))
  obtain ⟨osc, osf, osl⟩ := cells_of os.out
  go_upto_region 10 with (first | ((with_reducible refine gate_store (t := 25) (p := 7) (v := .tmp 61) rfl ?_); refine wpList_store_all rfl 25 _ _ rfl rfl _ (C14 hd5 (.slice A_m macH.length c_m)) (by rfl) (by rfl) _ _ (ext_alloc (nb_1 _ _) _) rfl i25 (C14_one _ _ _ _) ?_; rintro w15 ⟨hx_, hk_, hb_, hzz_⟩; have HB_ : Aside0 (Below w.heap.size w w15) := Aside0.mk (Below.trans (bG HB) (Below.mono hb_ (by first | omega | (simp only [sz_alloc, sz_drew, sz_drewN]; omega)))); have hzw15 := Nat.le_of_eq hzz_.symm; (try simp at hzw15); clear hzz_; have os_ := Aside0.mk (st_put os.out hk_ (fun h_ => (by repeat (with_reducible first | exact h_ | apply ext_drew | apply ext_drewN | apply ext_alloc | refine blk_far ?_ (by show _ ≠ _; dsimp only; omega) _))) (by omega)); clear os osc osf osl; have os := os_; clear os_; obtain ⟨osc, osf, osl⟩ := cells_of os.out; have m_ := Aside0.mk (Kd.F_step (fG m) (fun j_ hj_ hl_ => hk_ j_ (by (try dsimp only at hj_); (try simp only [sz_alloc, sz_drew, sz_drewN, sz_set] at hj_); omega))); clear m; have m := m_; clear m_; have s_ := Aside0.mk (Kd.F_step (fG s) (fun j_ hj_ hl_ => hk_ j_ (by (try dsimp only at hj_); (try simp only [sz_alloc, sz_drew, sz_drewN, sz_set] at hj_); omega))); clear s; have s := s_; clear s_; have q_ := Aside0.mk (Kd.F_step (fG q) (fun j_ hj_ hl_ => hk_ j_ (by (try dsimp only at hj_); (try simp only [sz_alloc, sz_drew, sz_drewN, sz_set] at hj_); omega))); clear q; have q := q_; clear q_; (try clear om omc omf oml); have om := Aside0.mk hx_; obtain ⟨omc, omf, oml⟩ := cells_of om.out; clear HB hb_ hk_ hx_; have HB := HB_; clear HB_))
  (have m_ := Aside0.mk (Kd.F_far (p := ⟨w14.heap.size + 1, 0, none⟩) m.out (fun j_ hj_ => by (try dsimp only at hj_); (try dsimp only); (try simp only [sz_alloc, sz_drew, sz_drewN, sz_set] at hj_); omega) (.slice A_s r2H.length c_s)); clear m; have m := m_; clear m_; have s_ := Aside0.mk (Kd.F_far (p := ⟨w14.heap.size + 1, 0, none⟩) s.out (fun j_ hj_ => by (try dsimp only at hj_); (try dsimp only); (try simp only [sz_alloc, sz_drew, sz_drewN, sz_set] at hj_); omega) (.slice A_s r2H.length c_s)); clear s; have s := s_; clear s_; have q_ := Aside0.mk (Kd.F_far (p := ⟨w14.heap.size + 1, 0, none⟩) q.out (fun j_ hj_ => by (try dsimp only at hj_); (try dsimp only); (try simp only [sz_alloc, sz_drew, sz_drewN, sz_set] at hj_); omega) (.slice A_s r2H.length c_s)); clear q; have q := q_; clear q_; have om_ := Aside0.mk (blk_far (p := ⟨w14.heap.size + 1, 0, none⟩) om.out (by show _ ≠ _; dsimp only; omega) (.slice A_s r2H.length c_s)); clear om omc omf oml; have om := om_; clear om_; obtain ⟨omc, omf, oml⟩ := cells_of om.out; have os_ := Aside0.mk (blk_put os.out 0 (.slice A_s r2H.length c_s) (cs' := #[.slice A_s r2H.length c_s]) rfl); clear os osc osf osl; have os := os_; clear os_; obtain ⟨osc, osf, osl⟩ := cells_of os.out)
  go_wp2_with (first | ((with_reducible refine gate_dst (N := 66) rfl ?_); (try (refine gate_guard (by rfl) ?_; dsimp only)); refine wpList_load_row rfl 25 _ rfl _ (by rfl) _ (C14 hd5 (.slice A_m macH.length c_m)) _ _ (eG om) Try.underlying25 rfl i25 ?_))
  (go_at_call 11; (with_reducible refine (sendH2 A_m c_m _ A_s c_s _ (fG s) sc.out).mono ?_); rintro e_ w16 ⟨A_s2, c_s2, A_q2, c_q2, rfl, hc_s2, hr_s2, hc_q2, hr_q2, hb_⟩; have HB_ : Aside0 (Below w.heap.size w w16) := Aside0.mk (below_step (bG HB) hb_); have hzw16 := hb_.size; (try simp at hzw16); have om_ := Aside0.mk (box_below hb_ (eG om)); have os_ := Aside0.mk (box_below hb_ (eG os)); have m_ := Aside0.mk (Kd.F_below (fG m) hb_); clear m; have m := m_; clear m_; have s_ := Aside0.mk (Kd.F_below (fG s) hb_); clear s; have s := s_; clear s_; have q_ := Aside0.mk (Kd.F_below (fG q) hb_); clear q; have q := q_; clear q_; (try clear om omc omf oml); have om := om_; clear om_; obtain ⟨omc, omf, oml⟩ := cells_of om.out; (try clear os osc osf osl); have os := os_; clear os_; obtain ⟨osc, osf, osl⟩ := cells_of os.out; clear HB hb_; have HB := HB_; clear HB_; have s2c := Aside0.mk hc_s2; have s2 := Aside0.mk (Kd.F_bound hr_s2); clear hc_s2 hr_s2; have q2c := Aside0.mk hc_q2; have q2 := Aside0.mk (Kd.F_bound hr_q2); clear hc_q2 hr_q2; skip)
  have oz := Aside0.mk (nb_2 w16 (.cells #[.int .i64 0, .int .i64 0, .int .i64 0, .int .u64 0, .int .i64 0, .int .i64 0, .int .i64 0, .int .u64 0, .int .i64 0, .int .i64 0, .int .i64 0, .int .i64 0, .int .i64 0, .slice none 0 0] 25 (0, 0)) (.cells #[.slice none 0 0] 27 (0, 0)))
  obtain ⟨ozc, ozf, ozl⟩ := cells_of oz.out
  go_upto_region 11 with (first | ((with_reducible refine gate_store (t := 25) (p := 11) (v := .tmp 69) rfl ?_); refine wpList_store_all rfl 25 _ _ rfl rfl _ (C14 hd5 (.slice A_m macH.length c_m)) (by rfl) (by rfl) _ _ (ext_alloc (nb_1 _ _) _) rfl i25 (C14_one _ _ _ _) ?_; rintro w17 ⟨hx_, hk_, hb_, hzz_⟩; have HB_ : Aside0 (Below w.heap.size w w17) := Aside0.mk (Below.trans (bG HB) (Below.mono hb_ (by first | omega | (simp only [sz_alloc, sz_drew, sz_drewN]; omega)))); have hzw17 := Nat.le_of_eq hzz_.symm; (try simp at hzw17); clear hzz_; have oz_ := Aside0.mk (st_put oz.out hk_ (fun h_ => (by repeat (with_reducible first | exact h_ | apply ext_drew | apply ext_drewN | apply ext_alloc | refine blk_far ?_ (by show _ ≠ _; dsimp only; omega) _))) (by omega)); clear oz ozc ozf ozl; have oz := oz_; clear oz_; obtain ⟨ozc, ozf, ozl⟩ := cells_of oz.out; have om_ := Aside0.mk (st_put om.out hk_ (fun h_ => (by repeat (with_reducible first | exact h_ | apply ext_drew | apply ext_drewN | apply ext_alloc | refine blk_far ?_ (by show _ ≠ _; dsimp only; omega) _))) (by omega)); clear om omc omf oml; have om := om_; clear om_; obtain ⟨omc, omf, oml⟩ := cells_of om.out; have os_ := Aside0.mk (st_put os.out hk_ (fun h_ => (by repeat (with_reducible first | exact h_ | apply ext_drew | apply ext_drewN | apply ext_alloc | refine blk_far ?_ (by show _ ≠ _; dsimp only; omega) _))) (by omega)); clear os osc osf osl; have os := os_; clear os_; obtain ⟨osc, osf, osl⟩ := cells_of os.out; have m_ := Aside0.mk (Kd.F_step (fG m) (fun j_ hj_ hl_ => hk_ j_ (by (try dsimp only at hj_); (try simp only [sz_alloc, sz_drew, sz_drewN, sz_set] at hj_); omega))); clear m; have m := m_; clear m_; have s_ := Aside0.mk (Kd.F_step (fG s) (fun j_ hj_ hl_ => hk_ j_ (by (try dsimp only at hj_); (try simp only [sz_alloc, sz_drew, sz_drewN, sz_set] at hj_); omega))); clear s; have s := s_; clear s_; have q_ := Aside0.mk (Kd.F_step (fG q) (fun j_ hj_ hl_ => hk_ j_ (by (try dsimp only at hj_); (try simp only [sz_alloc, sz_drew, sz_drewN, sz_set] at hj_); omega))); clear q; have q := q_; clear q_; (try clear oy oyc oyf oyl); have oy := Aside0.mk hx_; obtain ⟨oyc, oyf, oyl⟩ := cells_of oy.out; clear HB hb_ hk_ hx_; have HB := HB_; clear HB_))
  (have m_ := Aside0.mk (Kd.F_far (p := ⟨w16.heap.size + 1, 0, none⟩) m.out (fun j_ hj_ => by (try dsimp only at hj_); (try dsimp only); (try simp only [sz_alloc, sz_drew, sz_drewN, sz_set] at hj_); omega) (.slice A_s2 r2H.length c_s2)); clear m; have m := m_; clear m_; have s_ := Aside0.mk (Kd.F_far (p := ⟨w16.heap.size + 1, 0, none⟩) s.out (fun j_ hj_ => by (try dsimp only at hj_); (try dsimp only); (try simp only [sz_alloc, sz_drew, sz_drewN, sz_set] at hj_); omega) (.slice A_s2 r2H.length c_s2)); clear s; have s := s_; clear s_; have q_ := Aside0.mk (Kd.F_far (p := ⟨w16.heap.size + 1, 0, none⟩) q.out (fun j_ hj_ => by (try dsimp only at hj_); (try dsimp only); (try simp only [sz_alloc, sz_drew, sz_drewN, sz_set] at hj_); omega) (.slice A_s2 r2H.length c_s2)); clear q; have q := q_; clear q_; have om_ := Aside0.mk (blk_far (p := ⟨w16.heap.size + 1, 0, none⟩) om.out (by show _ ≠ _; dsimp only; omega) (.slice A_s2 r2H.length c_s2)); clear om omc omf oml; have om := om_; clear om_; obtain ⟨omc, omf, oml⟩ := cells_of om.out; have os_ := Aside0.mk (blk_far (p := ⟨w16.heap.size + 1, 0, none⟩) os.out (by show _ ≠ _; dsimp only; omega) (.slice A_s2 r2H.length c_s2)); clear os osc osf osl; have os := os_; clear os_; obtain ⟨osc, osf, osl⟩ := cells_of os.out; have oz_ := Aside0.mk (blk_put oz.out 0 (.slice A_s2 r2H.length c_s2) (cs' := #[.slice A_s2 r2H.length c_s2]) rfl); clear oz ozc ozf ozl; have oz := oz_; clear oz_; obtain ⟨ozc, ozf, ozl⟩ := cells_of oz.out)
  go_wp2_with (first | ((with_reducible refine gate_dst (N := 74) rfl ?_); (try (refine gate_guard (by rfl) ?_; dsimp only)); refine wpList_load_row rfl 25 _ rfl _ (by rfl) _ (C14 hd5 (.slice A_m macH.length c_m)) _ _ (eG om) Try.underlying25 rfl i25 ?_))
  (go_at_call 13; (with_reducible refine (loadH A_m c_m _ _ (fG m) mc.out).mono ?_); rintro e_ w18 ⟨rfl, hb_⟩; have HB_ : Aside0 (Below w.heap.size w w18) := Aside0.mk (below_step (bG HB) hb_); have hzw18 := hb_.size; (try simp at hzw18); have om_ := Aside0.mk (box_below hb_ (eG om)); have os_ := Aside0.mk (box_below hb_ (eG os)); have m_ := Aside0.mk (Kd.F_below (fG m) hb_); clear m; have m := m_; clear m_; have s_ := Aside0.mk (Kd.F_below (fG s) hb_); clear s; have s := s_; clear s_; have q_ := Aside0.mk (Kd.F_below (fG q) hb_); clear q; have q := q_; clear q_; (try clear om omc omf oml); have om := om_; clear om_; obtain ⟨omc, omf, oml⟩ := cells_of om.out; (try clear os osc osf osl); have os := os_; clear os_; obtain ⟨osc, osf, osl⟩ := cells_of os.out; clear HB hb_; have HB := HB_; clear HB_)
  go_wp2_with (first | ((with_reducible refine gate_dst (N := 79) rfl ?_); (try (refine gate_guard (by rfl) ?_; dsimp only)); refine wpList_load_row rfl 25 _ rfl _ (by rfl) _ (C14 hd5 (.slice A_m macH.length c_m)) _ _ (eG om) Try.underlying25 rfl i25 ?_))
  (go_at_call 27; (with_reducible refine (recvH A_m c_m _ _ (fG m) mc.out A_s c_s _ (fG s) sc.out A_q c_q _ (fG q) qc.out).mono ?_); rintro e_ w19 ⟨A_s3, c_s3, rfl, hc_s3, hr_s3, hb_⟩; have HB_ : Aside0 (Below w.heap.size w w19) := Aside0.mk (below_step (bG HB) hb_); have hzw19 := hb_.size; (try simp at hzw19); have om_ := Aside0.mk (box_below hb_ (eG om)); have os_ := Aside0.mk (box_below hb_ (eG os)); have m_ := Aside0.mk (Kd.F_below (fG m) hb_); clear m; have m := m_; clear m_; have s_ := Aside0.mk (Kd.F_below (fG s) hb_); clear s; have s := s_; clear s_; (try clear om omc omf oml); have om := om_; clear om_; obtain ⟨omc, omf, oml⟩ := cells_of om.out; (try clear os osc osf osl); have os := os_; clear os_; obtain ⟨osc, osf, osl⟩ := cells_of os.out; clear HB hb_; have HB := HB_; clear HB_; have s3c := Aside0.mk hc_s3; have s3 := Aside0.mk (Kd.F_bound hr_s3); clear hc_s3 hr_s3; skip)
  have of := Aside0.mk (nb_2 w19 (.cells #[.int .i64 0, .int .i64 0, .int .i64 0, .int .u64 0, .int .i64 0, .int .i64 0, .int .i64 0, .int .u64 0, .int .i64 0, .int .i64 0, .int .i64 0, .int .i64 0, .int .i64 0, .slice none 0 0] 25 (0, 0)) (.cells #[.slice none 0 0] 27 (0, 0)))
  obtain ⟨ofc, off, ofl⟩ := cells_of of.out
  go_upto_region 13 with (first | ((with_reducible refine gate_store (t := 25) (p := 17) (v := .tmp 83) rfl ?_); refine wpList_store_all rfl 25 _ _ rfl rfl _ (C14 (dropC hd5) (.slice A_m macH.length c_m)) (by rfl) (by rfl) _ _ (ext_alloc (nb_1 _ _) _) rfl i25 (C14_one _ _ _ _) ?_; rintro w20 ⟨hx_, hk_, hb_, hzz_⟩; have HB_ : Aside0 (Below w.heap.size w w20) := Aside0.mk (Below.trans (bG HB) (Below.mono hb_ (by first | omega | (simp only [sz_alloc, sz_drew, sz_drewN]; omega)))); have hzw20 := Nat.le_of_eq hzz_.symm; (try simp at hzw20); clear hzz_; have of_ := Aside0.mk (st_put of.out hk_ (fun h_ => (by repeat (with_reducible first | exact h_ | apply ext_drew | apply ext_drewN | apply ext_alloc | refine blk_far ?_ (by show _ ≠ _; dsimp only; omega) _))) (by omega)); clear of ofc off ofl; have of := of_; clear of_; obtain ⟨ofc, off, ofl⟩ := cells_of of.out; have om_ := Aside0.mk (st_put om.out hk_ (fun h_ => (by repeat (with_reducible first | exact h_ | apply ext_drew | apply ext_drewN | apply ext_alloc | refine blk_far ?_ (by show _ ≠ _; dsimp only; omega) _))) (by omega)); clear om omc omf oml; have om := om_; clear om_; obtain ⟨omc, omf, oml⟩ := cells_of om.out; have os_ := Aside0.mk (st_put os.out hk_ (fun h_ => (by repeat (with_reducible first | exact h_ | apply ext_drew | apply ext_drewN | apply ext_alloc | refine blk_far ?_ (by show _ ≠ _; dsimp only; omega) _))) (by omega)); clear os osc osf osl; have os := os_; clear os_; obtain ⟨osc, osf, osl⟩ := cells_of os.out; have m_ := Aside0.mk (Kd.F_step (fG m) (fun j_ hj_ hl_ => hk_ j_ (by (try dsimp only at hj_); (try simp only [sz_alloc, sz_drew, sz_drewN, sz_set] at hj_); omega))); clear m; have m := m_; clear m_; have s_ := Aside0.mk (Kd.F_step (fG s) (fun j_ hj_ hl_ => hk_ j_ (by (try dsimp only at hj_); (try simp only [sz_alloc, sz_drew, sz_drewN, sz_set] at hj_); omega))); clear s; have s := s_; clear s_; (try clear oe oec oef oel); have oe := Aside0.mk hx_; obtain ⟨oec, oef, oel⟩ := cells_of oe.out; clear HB hb_ hk_ hx_; have HB := HB_; clear HB_))
  (have m_ := Aside0.mk (Kd.F_far (p := ⟨w19.heap.size + 1, 0, none⟩) m.out (fun j_ hj_ => by (try dsimp only at hj_); (try dsimp only); (try simp only [sz_alloc, sz_drew, sz_drewN, sz_set] at hj_); omega) (.slice A_s3 r2H.length c_s3)); clear m; have m := m_; clear m_; have s_ := Aside0.mk (Kd.F_far (p := ⟨w19.heap.size + 1, 0, none⟩) s.out (fun j_ hj_ => by (try dsimp only at hj_); (try dsimp only); (try simp only [sz_alloc, sz_drew, sz_drewN, sz_set] at hj_); omega) (.slice A_s3 r2H.length c_s3)); clear s; have s := s_; clear s_; have om_ := Aside0.mk (blk_far (p := ⟨w19.heap.size + 1, 0, none⟩) om.out (by show _ ≠ _; dsimp only; omega) (.slice A_s3 r2H.length c_s3)); clear om omc omf oml; have om := om_; clear om_; obtain ⟨omc, omf, oml⟩ := cells_of om.out; have os_ := Aside0.mk (blk_far (p := ⟨w19.heap.size + 1, 0, none⟩) os.out (by show _ ≠ _; dsimp only; omega) (.slice A_s3 r2H.length c_s3)); clear os osc osf osl; have os := os_; clear os_; obtain ⟨osc, osf, osl⟩ := cells_of os.out; have oe_ := Aside0.mk (blk_far (p := ⟨w19.heap.size + 1, 0, none⟩) oe.out (by show _ ≠ _; dsimp only; omega) (.slice A_s3 r2H.length c_s3)); clear oe oec oef oel; have oe := oe_; clear oe_; obtain ⟨oec, oef, oel⟩ := cells_of oe.out; have of_ := Aside0.mk (blk_put of.out 0 (.slice A_s3 r2H.length c_s3) (cs' := #[.slice A_s3 r2H.length c_s3]) rfl); clear of ofc off ofl; have of := of_; clear of_; obtain ⟨ofc, off, ofl⟩ := cells_of of.out)
  obtain ⟨sb, so, esb, hsc⟩ := F_cell' s.out (by decide +kernel)
  subst esb
  have hs10 := hsc 10 (by decide +kernel)
  have hs12 := hsc 12 (by decide +kernel)
  have hb64 : ((r2H.length : Int) == 64) = true := by decide +kernel
  have hb14 : ((frH.length : Int) == 14) = true := by decide +kernel
  have hi64 : (r2H.length : Int) = 64 ↔ True := by decide +kernel
  have hi14 : (frH.length : Int) = 14 ↔ True := by decide +kernel
  have hi10 : (10 : Int) < (r2H.length : Int) := by decide +kernel
  have hi12 : (12 : Int) < (r2H.length : Int) := by decide +kernel
  rw [show r2H.getD 10 0 = 0 from by decide +kernel] at hs10
  rw [show r2H.getD 12 0 = 1 from by decide +kernel] at hs12
  have hm1 := (omc 1).trans (show (C14 hd5 (.slice A_m macH.length c_m))[1]? = some (.int .i64 1) from congrArg (fun x => some (Value.int .i64 x)) (show hd5 1 = 1 from by decide +kernel))
  have he11 := (oec 11).trans (show (C14 (dropC hd5) (.slice A_m macH.length c_m))[11]? = some (.int .i64 1) from congrArg (fun x => some (Value.int .i64 x)) (show dropC hd5 11 = 1 from by decide +kernel))
  clear hsc omc oec
  go_wp2_with (first | ((with_reducible refine gate_dst (N := 146) rfl ?_); (try (refine gate_guard (by rfl) ?_; dsimp only)); refine wpList_load_row rfl 25 _ rfl _ (by rfl) _ (C14 (dropC hd5) (.slice A_m macH.length c_m)) _ _ (eG oe) Try.underlying25 rfl i25 ?_))
  (go_at_call 9; (with_reducible refine (Check_of true (dropC hd5) A_m macH.length c_m _ (by decide +kernel)).mono ?_); rintro e_ w21 ⟨rfl, hb_⟩; have HB_ : Aside0 (Below w.heap.size w w21) := Aside0.mk (below_step (bG HB) hb_); have hzw21 := hb_.size; (try simp at hzw21); have oe_ := Aside0.mk (box_below hb_ (eG oe)); (try clear oe oec oef oel); have oe := oe_; clear oe_; obtain ⟨oec, oef, oel⟩ := cells_of oe.out; clear HB hb_; have HB := HB_; clear HB_)
  go_wp2_with (first | ((with_reducible refine gate_dst (N := 150) rfl ?_); (try (refine gate_guard (by rfl) ?_; dsimp only)); refine wpList_load_row rfl 25 _ rfl _ (by rfl) _ (C14 (dropC hd5) (.slice A_m macH.length c_m)) _ _ (eG oe) Try.underlying25 rfl i25 ?_))
  (go_at_call 21; (with_reducible refine (lineH A_m c_m _).mono ?_); rintro e_ w22 ⟨rfl, hb_⟩; have HB_ : Aside0 (Below w.heap.size w w22) := Aside0.mk (below_step (bG HB) hb_); have hzw22 := hb_.size; (try simp at hzw22); have oe_ := Aside0.mk (box_below hb_ (eG oe)); (try clear oe oec oef oel); have oe := oe_; clear oe_; obtain ⟨oec, oef, oel⟩ := cells_of oe.out; clear HB hb_; have HB := HB_; clear HB_)
  go_wp2
  go_ret
  exact ⟨rfl, HB.out⟩
theorem drawbridgelaw12_heads.calls (r : Bool) (w : World) (h : drawbridgelaw12_heads.f = some r) : Calls Try.prog 10 #[] w fun e w' => e = .returned (.bool r) ∧ Below w.heap.size w w' := by
  obtain rfl := Option.some.inj h
  exact heads_is w
end Go.Proofs.Ytdblpflepfcnjaa.Q
end
section
/- nic.Receive, whole. -/
namespace Go.Proofs.Ytdblpflepfcnjaa.Q
open Go.RowKit Go.Proofs.YtdblpflepfcnjaaW.PrintWords Go.Proofs.YtdblpflepfcnjaaW.PrintLast Go.Proofs.YtdblpflepfcnjaaW.PrintMore Go.Proofs.Ytdblpflepfcnjaa.L
set_option linter.unusedVariables false
section
variable (A : Option Addr) (cap : Nat) (mac : List Int) (R : Option Addr) (rc : Nat) (l : List Int) (FA : Option Addr) (fc : Nat) (fr : List Int) (c : Nat → Int) (w : World) (okm ok okf : Nat → Prop) (hm : Kd.F (Kd.int .u8) w okm A mac.length mac) (hmc : mac.length ≤ cap) (hr : Kd.F (Kd.int .u8) w ok R l.length l) (hc : l.length ≤ rc) (hf : Kd.F (Kd.int .u8) w okf FA fr.length fr) (hfc : fr.length ≤ fc) (hl : (l.length : Int) ≤ 70000) (hby : ∀ z ∈ l, byte z) (hfl : (fr.length : Int) ≤ 9223372036854775807)
include hm hmc hr hc hf hfc hl hby hfl
theorem Recv_is : Calls Try.prog 27 #[.agg (C14 c (.slice A mac.length cap)), .agg #[.slice R l.length rc], .slice FA fr.length fc] w (RecvPost A mac.length cap ok w (recvZ c mac l fr).1 (recvZ c mac l fr).2.1 (recvZ c mac l fr).2.2) := by
  unfold recvZ
  by_cases hk : okC c mac.length = false
  · rw [if_pos hk]; exact recv_x A cap mac R rc l FA fc fr c w okm ok okf hm hmc hr hc hf hfc hk
  rw [if_neg hk]
  have hk := eq_t hk
  by_cases hw : wantsZ c mac fr = false
  · rw [if_pos hw]; exact recv_no A cap mac R rc l FA fc fr c w okm ok okf hm hmc hr hc hf hfc hk hw
  rw [if_neg hw]
  have hw := eq_t hw
  have ha := wrap_u (c 7 + IntKind.u64.wrap (16 * IntKind.u64.wrap (c 9)))
  by_cases hp : (placeZ l.length (atR c) 16).2 = false
  · rw [if_pos hp]; exact recv_nodesc A cap mac R rc l FA fc fr c w okm ok okf hm hmc hr hc hf hfc (atR c) hk hw rfl ha hl hp
  rw [if_neg hp]
  have hp := eq_t hp
  by_cases ho : (Go.bits .and .u8 (flagD (cutL l (atR c) 16)) 1 == 1) = false
  · rw [if_pos ho]; exact recv_notown A cap mac R rc l FA fc fr c w okm ok okf hm hmc hr hc hf hfc (atR c) hk hw rfl ha hl hby hp ho
  rw [if_neg ho]
  have ho := eq_t ho
  obtain ⟨hbu, hs0, hs1⟩ := desc_bounds l (atR c) hby hp
  have hne : ¬ c 8 = 0 := by have := ((okC_iff c mac.length).1 hk).rn; omega
  unfold takeZ
  by_cases h1 : sizeD (cutL l (atR c) 16) < (fr.length : Int)
  · rw [if_pos h1]
    exact recv_small A cap mac R rc l FA fc fr c w okm ok okf hm hmc hr hc hf hfc (atR c) hk hw rfl ha hl hby hp ho hne hbu hfl (decide_eq_true h1)
  rw [if_neg h1]
  by_cases h2 : (placeZ l.length (bufD (cutL l (atR c) 16)) fr.length).2 = false
  · rw [if_pos h2]
    exact recv_out A cap mac R rc l FA fc fr c w okm ok okf hm hmc hr hc hf hfc (atR c) hk hw rfl ha hl hby hp ho hne hbu hfl (decide_eq_false h1) h2
  rw [if_neg h2]
  exact recv_good A cap mac R rc l FA fc fr c w okm ok okf hm hmc hr hc hf hfc (atR c) hk hw rfl ha hl hby hp ho hne hbu hfl (decide_eq_false h1) (eq_t h2)
end
theorem Recv_of (S : RR) (A : Option Addr) (cap : Nat) (mac : List Int) (R : Option Addr) (rc : Nat) (l : List Int) (FA : Option Addr) (fc : Nat) (fr : List Int) (c : Nat → Int) (w : World) (okm ok okf : Nat → Prop) (hm : Kd.F (Kd.int .u8) w okm A mac.length mac) (hmc : mac.length ≤ cap) (hr : Kd.F (Kd.int .u8) w ok R l.length l) (hc : l.length ≤ rc) (hf : Kd.F (Kd.int .u8) w okf FA fr.length fr) (hfc : fr.length ≤ fc) (hl : (l.length : Int) ≤ 70000) (hby : ∀ z ∈ l, byte z) (hfl : (fr.length : Int) ≤ 9223372036854775807) (hS : recvZ c mac l fr = S) :
    Calls Try.prog 27 #[.agg (C14 c (.slice A mac.length cap)), .agg #[.slice R l.length rc], .slice FA fr.length fc] w (RecvPost A mac.length cap ok w S.1 S.2.1 S.2.2) := by
  subst hS
  exact Recv_is A cap mac R rc l FA fc fr c w okm ok okf hm hmc hr hc hf hfc hl hby hfl
end Go.Proofs.Ytdblpflepfcnjaa.Q
end
section
/- The document's Send: the descriptor is not memory. -/
namespace Go.Proofs.Ytdblpflepfcnjaa.Q
open Go.RowKit Go.Proofs.YtdblpflepfcnjaaW.PrintWords Go.Proofs.YtdblpflepfcnjaaW.PrintLast Go.Proofs.YtdblpflepfcnjaaW.PrintMore Go.Proofs.Ytdblpflepfcnjaa.L
attribute [local go_sem] Instr.field part asAgg lt_step max2_int min2_int max_two min_two max_three min_three max_four min_four lt_0_1 lt_0_2 lt_1_2 lt_0_3 lt_1_3 lt_2_3 lt_0_4 lt_1_4 lt_2_4 lt_3_4 lt_0_5 lt_1_5 lt_2_5 lt_3_5 lt_4_5 lt_0_6 lt_1_6 lt_2_6 lt_3_6 lt_4_6 lt_5_6 lt_0_7 lt_1_7 lt_2_7 lt_3_7 lt_4_7 lt_5_7 lt_6_7 lt_0_8 lt_1_8 lt_2_8 lt_3_8 lt_4_8 lt_5_8 lt_6_8 lt_7_8
set_option linter.unusedVariables false
set_option linter.unusedSimpArgs false
theorem i64B16 : i64B 16 := ⟨by decide, by decide⟩
theorem rbytes_any (A : Option Addr) (cap : Nat) (l : List Int) (a k : Int) (fr : List Int) (b : Bool) (w : World) (hr : Kd.C (Kd.int .u8) w A l.length l) (hc : l.length ≤ cap) (ha : u64B a) (hk : i64B k) (hl : (l.length : Int) ≤ 70000) (hp : bytesZ l a k = (fr, b)) :
    Calls Try.prog 37 #[.agg #[.slice A l.length cap], .int .u64 a, .int .i64 k] w fun e w' => ∃ v, e = .returned (.tuple #[v, .bool b]) ∧ Kd.R (Kd.int .u8) 5 w' w.heap.size (fun _ => True) v fr ∧ Below w.heap.size w w' := by
  have hb := refBytes_is l a k ha hk hl
  rw [hp] at hb
  exact drawbridgeref07_Bytes.calls A cap l a k fr b w hr hc hb
end Go.Proofs.Ytdblpflepfcnjaa.Q
end
section
/- The document's done. -/
namespace Go.Proofs.Ytdblpflepfcnjaa.Q
open Go.RowKit Go.Proofs.YtdblpflepfcnjaaW.PrintWords Go.Proofs.YtdblpflepfcnjaaW.PrintLast Go.Proofs.YtdblpflepfcnjaaW.PrintMore Go.Proofs.Ytdblpflepfcnjaa.L
attribute [local go_sem] Instr.field part asAgg lt_step max2_int min2_int max_two min_two max_three min_three max_four min_four lt_0_1 lt_0_2 lt_1_2 lt_0_3 lt_1_3 lt_2_3 lt_0_4 lt_1_4 lt_2_4 lt_3_4 lt_0_5 lt_1_5 lt_2_5 lt_3_5 lt_4_5 lt_0_6 lt_1_6 lt_2_6 lt_3_6 lt_4_6 lt_5_6 lt_0_7 lt_1_7 lt_2_7 lt_3_7 lt_4_7 lt_5_7 lt_6_7 lt_0_8 lt_1_8 lt_2_8 lt_3_8 lt_4_8 lt_5_8 lt_6_8 lt_7_8
set_option linter.unusedVariables false
set_option linter.unusedSimpArgs false
theorem row_at2 {k : IntKind} {W : World} {ok : Nat → Prop} {ad : Addr} {n : Nat} {xs : List Int} {x : Int} (h : Kd.F (Kd.int k) W ok (some ad) n xs) (i : Nat) (hi : i < n) (hx : xs.getD i 0 = x) : W.cell? (ad.add i) = some (.int k x) := by
  obtain ⟨ad', e, hc⟩ := Kd.at_int (Kd.F_now h) (i : Int) (by omega) (by omega)
  injection e with e
  subst e
  unfold rd at hc
  rw [Int.toNat_natCast, hx] at hc
  exact hc
theorem rfill_n (P0_ : Nat → Prop) (R : Option Addr) (rc : Nat) (l : List Int) (a : Int) (A2 : Option Addr) (c2 : Nat) (b : List Int) (n : Nat) (hn : b.length = n) (r1 : List Int) (r2 : Bool) (w : World) (hs0_0 : Kd.V (Kd.int .u8) 5 w w.heap.size (fun k_ => P0_ k_) (.slice R l.length rc) l) (hr2 : Kd.C (Kd.int .u8) w A2 n b) (hc2 : n ≤ c2) (h : drawbridgeref07_Fill.f l a b = some (r1, r2)) :
    Calls Try.prog 31 #[.agg #[.slice R l.length rc], .int .u64 a, .slice A2 n c2] w fun e w' => ∃ v0_ : Value, e = .returned (.tuple #[.agg #[v0_], .bool r2]) ∧ Kd.V (Kd.int .u8) 5 w' w.heap.size (fun k_ => (P0_ k_ ∨ w.heap.size ≤ k_)) v0_ r1 ∧ Below w.heap.size w w' := by
  subst hn
  exact drawbridgeref07_Fill.calls P0_ R rc l a A2 c2 b r1 r2 w hs0_0 hr2 hc2 h
set_option maxHeartbeats 1600000 in
set_option maxRecDepth 100000 in
theorem rdone_is (a a10 f g st : Int) (r2 : Bool) (R : Option Addr) (rc : Nat) (l : List Int) (ad : Addr) (dc : Nat) (d : List Int) (w : World) (ok okd : Nat → Prop) (h10 : IntKind.u64.wrap (a + 10) = a10) (hfg : d.getD 10 0 = f) (hgg : d.getD 11 0 = g) (hdl : d.length = 16) (hr : Kd.F (Kd.int .u8) w ok R l.length l) (hc : l.length ≤ rc) (hd : Kd.F (Kd.int .u8) w okd (some ad) 16 d) (hdc : 16 ≤ dc) (hf : drawbridgeref07_Fill.f l a10 [Go.bits .andNot .u8 f 1, g, st, 0] = some (fillL l a10 [Go.bits .andNot .u8 f 1, g, st, 0], r2)) :
    Calls Try.prog 44 #[.agg #[.slice R l.length rc], .int .u64 a, .slice (some ad) 16 dc, .int .u8 st] w fun e w' => ∃ A' c', e = .returned (.agg #[.slice A' (fillL l a10 [Go.bits .andNot .u8 f 1, g, st, 0]).length c']) ∧ (fillL l a10 [Go.bits .andNot .u8 f 1, g, st, 0]).length ≤ c' ∧ Kd.F (Kd.int .u8) w' (fun j => ok j ∨ w.heap.size ≤ j) A' (fillL l a10 [Go.bits .andNot .u8 f 1, g, st, 0]).length (fillL l a10 [Go.bits .andNot .u8 f 1, g, st, 0]) ∧ Below w.heap.size w w' := by
  have HB := Aside0.mk (Below.refl w.heap.size w)
  have HR := Aside0.mk (Kd.F_bound hr)
  have HD := Aside0.mk (Kd.F_bound hd)
  have HC := Aside0.mk hc
  have HFILL := Aside0.mk hf
  have XF := Aside0.mk hfg
  have XG := Aside0.mk hgg
  have hu7 := Try.underlying27
  clear hr hc hd hf hfg hgg
  go_enter Try.func44, Try.ntmps44
  go_upto_region 1 with fail
  obtain ⟨wa, hwa, on0, or0, hb_, hz0⟩ := letter2 w (.cells #[.slice R l.length rc] 27 (0, 0)) (.cells #[.slice none 0 0] 27 (0, 0))
  rw [hwa]
  clear hwa
  have hzwa := Nat.le_of_eq hz0.symm
  clear hz0
  have orr := Aside0.mk on0
  have oz := Aside0.mk or0
  clear on0 or0
  obtain ⟨orrc, orrf, orrl⟩ := cells_of orr.out
  obtain ⟨ozc, ozf, ozl⟩ := cells_of oz.out
  have HB_ : Aside0 (Below w.heap.size w wa) := ⟨hb_⟩
  have HR_ := Aside0.mk (Kd.F_below HR.out hb_)
  have HD_ := Aside0.mk (Kd.F_below HD.out hb_)
  clear HB HR HD hb_
  have HB := HB_
  have HR := HR_
  have HD := HD_
  clear HB_ HR_ HD_
  go_cut [9] (fun p wx => ∃ (g9 : Nat) (A' : Option Addr) (c' : Nat), p = .pointer (some ⟨g9, 0, none⟩) ∧ Aside0 (wx.heap[g9]? = some (.cells #[.slice A' (fillL l a10 [Go.bits .andNot .u8 f 1, g, st, 0]).length c'] 27 (0, 0))) ∧ Aside0 (wx.heap[w.heap.size + 1]? = some (.cells #[.slice none 0 0] 27 (0, 0))) ∧ Aside0 (Kd.F (Kd.int .u8) wx (fun j => (ok j ∧ j < w.heap.size) ∨ (w.heap.size ≤ j ∧ j ≠ w.heap.size + 1)) A' (fillL l a10 [Go.bits .andNot .u8 f 1, g, st, 0]).length (fillL l a10 [Go.bits .andNot .u8 f 1, g, st, 0])) ∧ Aside0 ((fillL l a10 [Go.bits .andNot .u8 f 1, g, st, 0]).length ≤ c') ∧ Aside0 (Below w.heap.size w wx) ∧ w.heap.size + 1 < g9 ∧ w.heap.size ≤ g9)
  case first =>
    refine start_ (n := 19) (S := fun w' => w'.heap[w.heap.size]? = some (.cells #[.slice R l.length rc] 27 (0, 0)) ∧ w'.cell? (ad.add 10) = some (.int .u8 f) ∧ w'.cell? (ad.add 11) = some (.int .u8 g)) (ds := []) #[false, false, false, false, false, false, false, false, false, false, false, false, false, false, false, false, false, false, false] (by kernel_rfl) rfl rfl ⟨(eG orr), row_at2 (fG HD) 10 (by omega) XF.out, row_at2 (fG HD) 11 (by omega) XG.out⟩ (fun hHeld => ?_)
    refine rowL_ (i := 0) (N := some 12) #[true, false, false, false, false, false, false, false, false, false, false, false, false, false, false, false, false, false, false] rfl rfl (by kernel_rfl) 27 _ rfl (w.heap.size) (#[.slice R l.length rc]) (fun _ _ _ h => h) (by rfl) (by rfl) _ _ _ (fun _ h => h.1) Try.underlying27 rfl i27 hHeld (a' := ?_) ?_ ?_
    rotate_left
    · simp only [Act.put, List.setIfInBounds_toArray, List.set_cons_zero, List.set_cons_succ, i64_w, i32_w]
      rfl
    refine pure_ (i := 1) (N := some 13) (v := ?_) (a' := ?_) #[true, true, false, false, false, false, false, false, false, false, false, false, false, false, false, false, false, false, false] rfl rfl (by kernel_rfl) (fun _ _ _ h => h) (Or.inl ⟨by rfl, ?_⟩) ?_ ?_
    rotate_left
    · intro w'
      go_simp
      with_reducible rfl
    rotate_left
    · simp only [Act.put, List.setIfInBounds_toArray, List.set_cons_zero, List.set_cons_succ, i64_w, i32_w]
      rfl
    refine pure_ (i := 2) (N := some 14) (v := ?_) (a' := ?_) #[true, true, true, false, false, false, false, false, false, false, false, false, false, false, false, false, false, false, false] rfl rfl (by kernel_rfl) (fun _ _ _ h => h) (Or.inl ⟨by rfl, ?_⟩) ?_ ?_
    rotate_left
    · intro w'
      go_simp
      with_reducible rfl
    rotate_left
    · simp only [Act.put, List.setIfInBounds_toArray, List.set_cons_zero, List.set_cons_succ, i64_w, i32_w]
      rfl
    refine pure_ (i := 3) (N := some 15) (v := ?_) (a' := ?_) #[true, true, true, true, false, false, false, false, false, false, false, false, false, false, false, false, false, false, false] rfl rfl (by kernel_rfl) (fun _ _ _ h => h) (Or.inl ⟨by rfl, ?_⟩) ?_ ?_
    rotate_left
    · intro w'
      go_simp
      with_reducible rfl
    rotate_left
    · simp only [Act.put, List.setIfInBounds_toArray, List.set_cons_zero, List.set_cons_succ, i64_w, i32_w]
      rfl
    refine pure_ (i := 4) (N := some 16) (v := ?_) (a' := ?_) #[true, true, true, true, true, false, false, false, false, false, false, false, false, false, false, false, false, false, false] rfl rfl (by kernel_rfl) (fun _ _ _ h => h) (Or.inl ⟨by rfl, ?_⟩) ?_ ?_
    rotate_left
    · intro w'
      go_simp
      with_reducible rfl
    rotate_left
    · simp only [Act.put, List.setIfInBounds_toArray, List.set_cons_zero, List.set_cons_succ, i64_w, i32_w]
      rfl
    refine take_ (i := 5) (N := some 17) (v := ?_) (a' := ?_) #[true, true, true, true, true, true, false, false, false, false, false, false, false, false, false, false, false, false, false] rfl rfl (by kernel_rfl) (fun _ _ _ h => h) (Or.inl ⟨by rfl, ?_⟩) hHeld ?_ ?_
    rotate_left
    · rintro w' ⟨_, h_, _⟩
      replace h_ : w'.cell? ⟨ad.block, ad.off + 10, none⟩ = some (.int .u8 f) := h_
      go_simp
      with_reducible rfl
    rotate_left
    · simp only [Act.put, List.setIfInBounds_toArray, List.set_cons_zero, List.set_cons_succ, i64_w, i32_w]
      rfl
    refine pure_ (i := 6) (N := some 18) (v := ?_) (a' := ?_) #[true, true, true, true, true, true, true, false, false, false, false, false, false, false, false, false, false, false, false] rfl rfl (by kernel_rfl) (fun _ _ _ h => h) (Or.inl ⟨by rfl, ?_⟩) ?_ ?_
    rotate_left
    · intro w'
      go_simp
      with_reducible rfl
    rotate_left
    · simp only [Act.put, List.setIfInBounds_toArray, List.set_cons_zero, List.set_cons_succ, i64_w, i32_w]
      rfl
    refine pure_ (i := 7) (N := some 19) (v := ?_) (a' := ?_) #[true, true, true, true, true, true, true, true, false, false, false, false, false, false, false, false, false, false, false] rfl rfl (by kernel_rfl) (fun _ _ _ h => h) (Or.inl ⟨by rfl, ?_⟩) ?_ ?_
    rotate_left
    · intro w'
      go_simp
      with_reducible rfl
    rotate_left
    · simp only [Act.put, List.setIfInBounds_toArray, List.set_cons_zero, List.set_cons_succ, i64_w, i32_w]
      rfl
    refine pure_ (i := 8) (N := some 20) (v := ?_) (a' := ?_) #[true, true, true, true, true, true, true, true, true, false, false, false, false, false, false, false, false, false, false] rfl rfl (by kernel_rfl) (fun _ _ _ h => h) (Or.inl ⟨by rfl, ?_⟩) ?_ ?_
    rotate_left
    · intro w'
      go_simp
      with_reducible rfl
    rotate_left
    · simp only [Act.put, List.setIfInBounds_toArray, List.set_cons_zero, List.set_cons_succ, i64_w, i32_w]
      rfl
    refine take_ (i := 9) (N := some 21) (v := ?_) (a' := ?_) #[true, true, true, true, true, true, true, true, true, true, false, false, false, false, false, false, false, false, false] rfl rfl (by kernel_rfl) (fun _ _ _ h => h) (Or.inl ⟨by rfl, ?_⟩) hHeld ?_ ?_
    rotate_left
    · rintro w' ⟨_, _, h_⟩
      replace h_ : w'.cell? ⟨ad.block, ad.off + 11, none⟩ = some (.int .u8 g) := h_
      go_simp
      with_reducible rfl
    rotate_left
    · simp only [Act.put, List.setIfInBounds_toArray, List.set_cons_zero, List.set_cons_succ, i64_w, i32_w]
      rfl
    refine pure_ (i := 10) (N := some 22) (v := ?_) (a' := ?_) #[true, true, true, true, true, true, true, true, true, true, true, false, false, false, false, false, false, false, false] rfl rfl (by kernel_rfl) (fun _ _ _ h => h) (Or.inl ⟨by rfl, ?_⟩) ?_ ?_
    rotate_left
    · intro w'
      go_simp
      with_reducible rfl
    rotate_left
    · simp only [Act.put, List.setIfInBounds_toArray, List.set_cons_zero, List.set_cons_succ, i64_w, i32_w]
      rfl
    refine two_ (i := 11) (j := 16) (Ni := some 23) (Nj := some 9) #[true, true, true, true, true, true, true, true, true, true, true, true, false, false, false, false, false, false, false] #[true, true, true, true, true, true, true, true, true, true, true, false, false, false, false, false, true, false, false] rfl rfl rfl rfl (by kernel_rfl) (by decide) (by decide) (fun K hK => ?_) (fun K hK => ?_)
    · skip
      refine val_ (v := (.slice (some ⟨(World.heap (World.drew wa)).size, 0, none⟩) 4 4)) (w1 := World.alloc (World.drew wa) (.cells #[.int .u8 (Go.bits .andNot .u8 f 1), .int .u8 g, .int .u8 st, .int .u8 0] 5 (0, 0))) (by rfl) rfl ?_ ?_
      · first | kernel_rfl | (go_simp; done) | (go_simp; rfl)
      refine hK.out _ _ ⟨(eG orr), row_at2 (fG HD) 10 (by omega) XF.out, row_at2 (fG HD) 11 (by omega) XG.out⟩ (fun hHeld => ?_)
      clear hK K
      obtain ⟨w1, hw_, hx_, hb_, hz_⟩ := letter1 (World.drew wa) (.cells #[.int .u8 (Go.bits .andNot .u8 f 1), .int .u8 g, .int .u8 st, .int .u8 0] 5 (0, 0))
      rw [hw_] at hHeld ⊢
      clear hw_
      have hzw1 := Nat.le_of_eq hz_.symm
      (try simp only [sz_drew] at hx_ hzw1)
      clear hz_
      have orr_ := Aside0.mk (box_below hb_ (eG orr))
      (try clear orr orrc orrf orrl)
      have orr := orr_
      clear orr_
      obtain ⟨orrc, orrf, orrl⟩ := cells_of orr.out
      have oz_ := Aside0.mk (box_below hb_ (eG oz))
      (try clear oz ozc ozf ozl)
      have oz := oz_
      clear oz_
      obtain ⟨ozc, ozf, ozl⟩ := cells_of oz.out
      have HR_ := Aside0.mk (Kd.F_below (fG HR) hb_)
      clear HR
      have HR := HR_
      clear HR_
      have HD_ := Aside0.mk (Kd.F_below (fG HD) hb_)
      clear HD
      have HD := HD_
      clear HD_
      have oq := Aside0.mk hx_
      obtain ⟨oqc, oqf, oql⟩ := cells_of oq.out
      have HB_ : Aside0 (Below w.heap.size w w1) := Aside0.mk (below_step (bG HB) hb_)
      clear HB hb_ hx_
      have HB := HB_
      clear HB_
      refine norm_ (a' := ?_) ?_ ?_
      rotate_left
      · simp only [Act.put, List.setIfInBounds_toArray, List.set_cons_zero, List.set_cons_succ, i64_w, i32_w]
        rfl
      refine two_ (i := 12) (j := 16) (Ni := some 24) (Nj := some 9) #[true, true, true, true, true, true, true, true, true, true, true, true, true, false, false, false, false, false, false] #[true, true, true, true, true, true, true, true, true, true, true, true, false, false, false, false, true, false, false] rfl rfl rfl rfl (by kernel_rfl) (by decide) (by decide) (fun K hK => ?_) (fun K hK => ?_)
      · skip
        (refine goes_ Try.func31 (by kernel_rfl) rfl #[.agg #[.slice R l.length rc], .int .u64 a10, .slice (some ⟨wa.heap.size, 0, none⟩) 4 4] (by rfl) rfl rfl (by (try simp only [List.map_toArray, List.map_cons, List.map_nil]); first | done | rfl) ?_; (with_reducible refine (rfill_n _ R rc l a10 (some ⟨wa.heap.size, 0, none⟩) 4 [Go.bits .andNot .u8 f 1, g, st, 0] 4 rfl (fillL l a10 [Go.bits .andNot .u8 f 1, g, st, 0]) r2 _ (Kd.V_mk HC.out (fG HR)) (C_blk oq.out rfl (by simp) rfl) (by simp) HFILL.out).mono ?_); rintro e_ w2 ⟨v_s, rfl, ⟨A_s, c_s, rfl, hc_s, hr_s⟩, hb_⟩; refine ⟨_, rfl, ?_⟩; have HB_ : Aside0 (Below w.heap.size w w2) := Aside0.mk (below_step (bG HB) hb_); have hzw2 := hb_.size; (try simp at hzw2); have orr_ := Aside0.mk (box_below hb_ (eG orr)); have oz_ := Aside0.mk (box_below hb_ (eG oz)); have oq_ := Aside0.mk (box_below hb_ (eG oq)); have HD_ := Aside0.mk (Kd.F_below (fG HD) hb_); clear HD; have HD := HD_; clear HD_; (try clear orr orrc orrf orrl); have orr := orr_; clear orr_; obtain ⟨orrc, orrf, orrl⟩ := cells_of orr.out; (try clear oz ozc ozf ozl); have oz := oz_; clear oz_; obtain ⟨ozc, ozf, ozl⟩ := cells_of oz.out; (try clear oq oqc oqf oql); have oq := oq_; clear oq_; obtain ⟨oqc, oqf, oql⟩ := cells_of oq.out; clear HB hb_; have HB := HB_; clear HB_; have sc := Aside0.mk hc_s; have s := Aside0.mk (Kd.F_bound hr_s); clear hc_s hr_s; skip)
        refine hK.out _ _ ⟨(eG orr), row_at2 (fG HD) 10 (by omega) XF.out, row_at2 (fG HD) 11 (by omega) XG.out⟩ (fun hHeld => ?_)
        clear hK K
        refine norm_ (a' := ?_) ?_ ?_
        rotate_left
        · simp only [Act.put, List.setIfInBounds_toArray, List.set_cons_zero, List.set_cons_succ, i64_w, i32_w]
          rfl
        refine pure_ (i := 13) (N := some 11) (v := ?_) (a' := ?_) #[true, true, true, true, true, true, true, true, true, true, true, true, true, true, false, false, false, false, false] rfl rfl (by kernel_rfl) (fun _ _ _ h => h) (Or.inl ⟨by rfl, ?_⟩) ?_ ?_
        rotate_left
        · intro w'
          go_simp
          with_reducible rfl
        rotate_left
        · simp only [Act.put, List.setIfInBounds_toArray, List.set_cons_zero, List.set_cons_succ, i64_w, i32_w]
          rfl
        refine pure_ (i := 14) (N := some 25) (v := ?_) (a' := ?_) #[true, true, true, true, true, true, true, true, true, true, true, true, true, true, true, false, false, false, false] rfl rfl (by kernel_rfl) (fun _ _ _ h => h) (Or.inl ⟨by rfl, ?_⟩) ?_ ?_
        rotate_left
        · intro w'
          go_simp
          with_reducible rfl
        rotate_left
        · simp only [Act.put, List.setIfInBounds_toArray, List.set_cons_zero, List.set_cons_succ, i64_w, i32_w]
          rfl
        refine pure_ (i := 15) (N := some 26) (v := ?_) (a' := ?_) #[true, true, true, true, true, true, true, true, true, true, true, true, true, true, true, true, false, false, false] rfl rfl (by kernel_rfl) (fun _ _ _ h => h) (Or.inl ⟨by rfl, ?_⟩) ?_ ?_
        rotate_left
        · intro w'
          go_simp
          with_reducible rfl
        rotate_left
        · simp only [Act.put, List.setIfInBounds_toArray, List.set_cons_zero, List.set_cons_succ, i64_w, i32_w]
          rfl
        refine one_ (i := 16) (N := some 9) #[true, true, true, true, true, true, true, true, true, true, true, true, true, true, true, true, true, false, false] rfl rfl (by kernel_rfl) (by decide) (fun K hK => ?_)
        refine val_ (v := (.pointer (some ⟨(World.heap w2).size, 0, none⟩))) (w1 := World.alloc w2 (.cells #[.slice none 0 0] 27 (0, 0))) (by rfl) rfl ?_ ?_
        · first | kernel_rfl | (go_simp; done) | (go_simp; rfl)
        refine hK.out _ _ ⟨(eG orr), row_at2 (fG HD) 10 (by omega) XF.out, row_at2 (fG HD) 11 (by omega) XG.out⟩ (fun hHeld => ?_)
        clear hK K
        obtain ⟨w3, hw_, hx_, hb_, hz_⟩ := letter1 w2 (.cells #[.slice none 0 0] 27 (0, 0))
        rw [hw_] at hHeld ⊢
        clear hw_
        have hzw3 := Nat.le_of_eq hz_.symm
        (try simp only [sz_drew] at hx_ hzw3)
        clear hz_
        have orr_ := Aside0.mk (box_below hb_ (eG orr))
        (try clear orr orrc orrf orrl)
        have orr := orr_
        clear orr_
        obtain ⟨orrc, orrf, orrl⟩ := cells_of orr.out
        have oz_ := Aside0.mk (box_below hb_ (eG oz))
        (try clear oz ozc ozf ozl)
        have oz := oz_
        clear oz_
        obtain ⟨ozc, ozf, ozl⟩ := cells_of oz.out
        have HD_ := Aside0.mk (Kd.F_below (fG HD) hb_)
        clear HD
        have HD := HD_
        clear HD_
        have s_ := Aside0.mk (Kd.F_below (fG s) hb_)
        clear s
        have s := s_
        clear s_
        have o9 := Aside0.mk hx_
        obtain ⟨o9c, o9f, o9l⟩ := cells_of o9.out
        have HB_ : Aside0 (Below w.heap.size w w3) := Aside0.mk (below_step (bG HB) hb_)
        clear HB hb_ hx_
        have HB := HB_
        clear HB_
        refine norm_ (a' := ?_) ?_ ?_
        rotate_left
        · simp only [Act.put, List.setIfInBounds_toArray, List.set_cons_zero, List.set_cons_succ, i64_w, i32_w]
          rfl
        refine rowS_ (i := 17) #[true, true, true, true, true, true, true, true, true, true, true, true, true, true, true, true, true, true, false] rfl rfl (by kernel_rfl) (by decide) 27 _ _ rfl (w2.heap.size) (#[.slice A_s (fillL l a10 [Go.bits .andNot .u8 f 1, g, st, 0]).length c_s]) (by rfl) (by rfl) (by rfl) (#[.slice none 0 0]) 27 (eG o9) rfl i27 (one27 _ _ _) ?_
        (rintro wz ⟨hx_, hk_, hb_, hzz_⟩; have HB_ : Aside0 (Below w.heap.size w wz) := Aside0.mk (Below.trans (bG HB) (Below.mono hb_ (by first | omega | (simp only [sz_alloc, sz_drew, sz_drewN]; omega)))); have hzwz := hzz_; (try simp at hzwz); clear hzz_; have orr_ := Aside0.mk (st_put orr.out hk_ (fun h_ => (by repeat (with_reducible first | exact h_ | apply ext_drew | apply ext_drewN | apply ext_alloc | refine blk_far ?_ (by show _ ≠ _; dsimp only; omega) _))) (by omega)); clear orr orrc orrf orrl; have orr := orr_; clear orr_; obtain ⟨orrc, orrf, orrl⟩ := cells_of orr.out; have oz_ := Aside0.mk (st_put oz.out hk_ (fun h_ => (by repeat (with_reducible first | exact h_ | apply ext_drew | apply ext_drewN | apply ext_alloc | refine blk_far ?_ (by show _ ≠ _; dsimp only; omega) _))) (by omega)); clear oz ozc ozf ozl; have oz := oz_; clear oz_; obtain ⟨ozc, ozf, ozl⟩ := cells_of oz.out; have HD_ := Aside0.mk (Kd.F_step (fG HD) (fun j_ hj_ hl_ => hk_ j_ (by (try dsimp only at hj_); (try simp only [sz_alloc, sz_drew, sz_drewN, sz_set] at hj_); omega))); clear HD; have HD := HD_; clear HD_; have s_ := Aside0.mk (Kd.F_step (fG s) (fun j_ hj_ hl_ => hk_ j_ (by (try dsimp only at hj_); (try simp only [sz_alloc, sz_drew, sz_drewN, sz_set] at hj_); omega))); clear s; have s := s_; clear s_; (try clear o9 o9c o9f o9l); have o9 := Aside0.mk hx_; obtain ⟨o9c, o9f, o9l⟩ := cells_of o9.out; clear HB hb_ hk_ hx_; have HB := HB_; clear HB_)
        refine ⟨⟨(eG orr), row_at2 (fG HD) 10 (by omega) XF.out, row_at2 (fG HD) 11 (by omega) XG.out⟩, ?_⟩
        refine pure_ (i := 18) (N := some 10) (v := ?_) (a' := ?_) #[true, true, true, true, true, true, true, true, true, true, true, true, true, true, true, true, true, true, true] rfl rfl (by kernel_rfl) (fun _ _ _ h => h) (Or.inl ⟨by rfl, ?_⟩) ?_ ?_
        rotate_left
        · intro w'
          go_simp
          with_reducible rfl
        rotate_left
        · simp only [Act.put, List.setIfInBounds_toArray, List.set_cons_zero, List.set_cons_succ, i64_w, i32_w]
          rfl
        refine done_ (by kernel_rfl) ?_
        go_wp2_with fail
        go_meet
        exact ⟨w2.heap.size, A_s, c_s, rfl, ⟨o9.out⟩, ⟨oz.out⟩, ⟨(by refine F_res (ok := ?_) ?_ ?_; rotate_left; (repeat (with_reducible first | exact s.out | apply Kd.F_drew | apply Kd.F_drewN | apply Kd.F_alloc | refine Kd.F_far ?_ ?_ _)); all_goals (intro j_ hj_; (try dsimp only at hj_); (try dsimp only); (try simp only [sz_alloc, sz_drew, sz_drewN, sz_set] at hj_); first | omega | exact .inl hj_.1 | exact .inl hj_ | exact .inr (by omega) | (rcases hj_ with hj_ | hj_; exact .inl hj_.1; exact .inr (by omega)) | (rcases hj_ with hj_ | hj_; exact .inl hj_; exact .inr (by omega)) | (rcases hj_.1 with hk_ | hk_; (first | exact .inl hk_.1 | exact .inl hk_); exact .inr (by omega))))⟩, sc, HB, by omega, by omega⟩
      · skip
        refine val_ (v := (.pointer (some ⟨(World.heap w1).size, 0, none⟩))) (w1 := World.alloc w1 (.cells #[.slice none 0 0] 27 (0, 0))) (by rfl) rfl ?_ ?_
        · first | kernel_rfl | (go_simp; done) | (go_simp; rfl)
        refine hK.out _ _ ⟨(eG orr), row_at2 (fG HD) 10 (by omega) XF.out, row_at2 (fG HD) 11 (by omega) XG.out⟩ (fun hHeld => ?_)
        clear hK K
        obtain ⟨w2, hw_, hx_, hb_, hz_⟩ := letter1 w1 (.cells #[.slice none 0 0] 27 (0, 0))
        rw [hw_] at hHeld ⊢
        clear hw_
        have hzw2 := Nat.le_of_eq hz_.symm
        (try simp only [sz_drew] at hx_ hzw2)
        clear hz_
        have orr_ := Aside0.mk (box_below hb_ (eG orr))
        (try clear orr orrc orrf orrl)
        have orr := orr_
        clear orr_
        obtain ⟨orrc, orrf, orrl⟩ := cells_of orr.out
        have oz_ := Aside0.mk (box_below hb_ (eG oz))
        (try clear oz ozc ozf ozl)
        have oz := oz_
        clear oz_
        obtain ⟨ozc, ozf, ozl⟩ := cells_of oz.out
        have oq_ := Aside0.mk (box_below hb_ (eG oq))
        (try clear oq oqc oqf oql)
        have oq := oq_
        clear oq_
        obtain ⟨oqc, oqf, oql⟩ := cells_of oq.out
        have HR_ := Aside0.mk (Kd.F_below (fG HR) hb_)
        clear HR
        have HR := HR_
        clear HR_
        have HD_ := Aside0.mk (Kd.F_below (fG HD) hb_)
        clear HD
        have HD := HD_
        clear HD_
        have o9 := Aside0.mk hx_
        obtain ⟨o9c, o9f, o9l⟩ := cells_of o9.out
        have HB_ : Aside0 (Below w.heap.size w w2) := Aside0.mk (below_step (bG HB) hb_)
        clear HB hb_ hx_
        have HB := HB_
        clear HB_
        refine norm_ (a' := ?_) ?_ ?_
        rotate_left
        · simp only [Act.put, List.setIfInBounds_toArray, List.set_cons_zero, List.set_cons_succ, i64_w, i32_w]
          rfl
        refine one_ (i := 12) (N := some 24) #[true, true, true, true, true, true, true, true, true, true, true, true, true, false, false, false, true, false, false] rfl rfl (by kernel_rfl) (by decide) (fun K hK => ?_)
        (refine goes_ Try.func31 (by kernel_rfl) rfl #[.agg #[.slice R l.length rc], .int .u64 a10, .slice (some ⟨wa.heap.size, 0, none⟩) 4 4] (by rfl) rfl rfl (by (try simp only [List.map_toArray, List.map_cons, List.map_nil]); first | done | rfl) ?_; (with_reducible refine (rfill_n _ R rc l a10 (some ⟨wa.heap.size, 0, none⟩) 4 [Go.bits .andNot .u8 f 1, g, st, 0] 4 rfl (fillL l a10 [Go.bits .andNot .u8 f 1, g, st, 0]) r2 _ (Kd.V_mk HC.out (fG HR)) (C_blk oq.out rfl (by simp) rfl) (by simp) HFILL.out).mono ?_); rintro e_ w3 ⟨v_s, rfl, ⟨A_s, c_s, rfl, hc_s, hr_s⟩, hb_⟩; refine ⟨_, rfl, ?_⟩; have HB_ : Aside0 (Below w.heap.size w w3) := Aside0.mk (below_step (bG HB) hb_); have hzw3 := hb_.size; (try simp at hzw3); have orr_ := Aside0.mk (box_below hb_ (eG orr)); have oz_ := Aside0.mk (box_below hb_ (eG oz)); have oq_ := Aside0.mk (box_below hb_ (eG oq)); have o9_ := Aside0.mk (box_below hb_ (eG o9)); have HD_ := Aside0.mk (Kd.F_below (fG HD) hb_); clear HD; have HD := HD_; clear HD_; (try clear orr orrc orrf orrl); have orr := orr_; clear orr_; obtain ⟨orrc, orrf, orrl⟩ := cells_of orr.out; (try clear oz ozc ozf ozl); have oz := oz_; clear oz_; obtain ⟨ozc, ozf, ozl⟩ := cells_of oz.out; (try clear oq oqc oqf oql); have oq := oq_; clear oq_; obtain ⟨oqc, oqf, oql⟩ := cells_of oq.out; (try clear o9 o9c o9f o9l); have o9 := o9_; clear o9_; obtain ⟨o9c, o9f, o9l⟩ := cells_of o9.out; clear HB hb_; have HB := HB_; clear HB_; have sc := Aside0.mk hc_s; have s := Aside0.mk (Kd.F_bound hr_s); clear hc_s hr_s; skip)
        refine hK.out _ _ ⟨(eG orr), row_at2 (fG HD) 10 (by omega) XF.out, row_at2 (fG HD) 11 (by omega) XG.out⟩ (fun hHeld => ?_)
        clear hK K
        refine norm_ (a' := ?_) ?_ ?_
        rotate_left
        · simp only [Act.put, List.setIfInBounds_toArray, List.set_cons_zero, List.set_cons_succ, i64_w, i32_w]
          rfl
        refine pure_ (i := 13) (N := some 11) (v := ?_) (a' := ?_) #[true, true, true, true, true, true, true, true, true, true, true, true, true, true, false, false, true, false, false] rfl rfl (by kernel_rfl) (fun _ _ _ h => h) (Or.inl ⟨by rfl, ?_⟩) ?_ ?_
        rotate_left
        · intro w'
          go_simp
          with_reducible rfl
        rotate_left
        · simp only [Act.put, List.setIfInBounds_toArray, List.set_cons_zero, List.set_cons_succ, i64_w, i32_w]
          rfl
        refine pure_ (i := 14) (N := some 25) (v := ?_) (a' := ?_) #[true, true, true, true, true, true, true, true, true, true, true, true, true, true, true, false, true, false, false] rfl rfl (by kernel_rfl) (fun _ _ _ h => h) (Or.inl ⟨by rfl, ?_⟩) ?_ ?_
        rotate_left
        · intro w'
          go_simp
          with_reducible rfl
        rotate_left
        · simp only [Act.put, List.setIfInBounds_toArray, List.set_cons_zero, List.set_cons_succ, i64_w, i32_w]
          rfl
        refine pure_ (i := 15) (N := some 26) (v := ?_) (a' := ?_) #[true, true, true, true, true, true, true, true, true, true, true, true, true, true, true, true, true, false, false] rfl rfl (by kernel_rfl) (fun _ _ _ h => h) (Or.inl ⟨by rfl, ?_⟩) ?_ ?_
        rotate_left
        · intro w'
          go_simp
          with_reducible rfl
        rotate_left
        · simp only [Act.put, List.setIfInBounds_toArray, List.set_cons_zero, List.set_cons_succ, i64_w, i32_w]
          rfl
        refine rowS_ (i := 17) #[true, true, true, true, true, true, true, true, true, true, true, true, true, true, true, true, true, true, false] rfl rfl (by kernel_rfl) (by decide) 27 _ _ rfl (w1.heap.size) (#[.slice A_s (fillL l a10 [Go.bits .andNot .u8 f 1, g, st, 0]).length c_s]) (by rfl) (by rfl) (by rfl) (#[.slice none 0 0]) 27 (eG o9) rfl i27 (one27 _ _ _) ?_
        (rintro wz ⟨hx_, hk_, hb_, hzz_⟩; have HB_ : Aside0 (Below w.heap.size w wz) := Aside0.mk (Below.trans (bG HB) (Below.mono hb_ (by first | omega | (simp only [sz_alloc, sz_drew, sz_drewN]; omega)))); have hzwz := hzz_; (try simp at hzwz); clear hzz_; have orr_ := Aside0.mk (st_put orr.out hk_ (fun h_ => (by repeat (with_reducible first | exact h_ | apply ext_drew | apply ext_drewN | apply ext_alloc | refine blk_far ?_ (by show _ ≠ _; dsimp only; omega) _))) (by omega)); clear orr orrc orrf orrl; have orr := orr_; clear orr_; obtain ⟨orrc, orrf, orrl⟩ := cells_of orr.out; have oz_ := Aside0.mk (st_put oz.out hk_ (fun h_ => (by repeat (with_reducible first | exact h_ | apply ext_drew | apply ext_drewN | apply ext_alloc | refine blk_far ?_ (by show _ ≠ _; dsimp only; omega) _))) (by omega)); clear oz ozc ozf ozl; have oz := oz_; clear oz_; obtain ⟨ozc, ozf, ozl⟩ := cells_of oz.out; have HD_ := Aside0.mk (Kd.F_step (fG HD) (fun j_ hj_ hl_ => hk_ j_ (by (try dsimp only at hj_); (try simp only [sz_alloc, sz_drew, sz_drewN, sz_set] at hj_); omega))); clear HD; have HD := HD_; clear HD_; have s_ := Aside0.mk (Kd.F_step (fG s) (fun j_ hj_ hl_ => hk_ j_ (by (try dsimp only at hj_); (try simp only [sz_alloc, sz_drew, sz_drewN, sz_set] at hj_); omega))); clear s; have s := s_; clear s_; (try clear o9 o9c o9f o9l); have o9 := Aside0.mk hx_; obtain ⟨o9c, o9f, o9l⟩ := cells_of o9.out; clear HB hb_ hk_ hx_; have HB := HB_; clear HB_)
        refine ⟨⟨(eG orr), row_at2 (fG HD) 10 (by omega) XF.out, row_at2 (fG HD) 11 (by omega) XG.out⟩, ?_⟩
        refine pure_ (i := 18) (N := some 10) (v := ?_) (a' := ?_) #[true, true, true, true, true, true, true, true, true, true, true, true, true, true, true, true, true, true, true] rfl rfl (by kernel_rfl) (fun _ _ _ h => h) (Or.inl ⟨by rfl, ?_⟩) ?_ ?_
        rotate_left
        · intro w'
          go_simp
          with_reducible rfl
        rotate_left
        · simp only [Act.put, List.setIfInBounds_toArray, List.set_cons_zero, List.set_cons_succ, i64_w, i32_w]
          rfl
        refine done_ (by kernel_rfl) ?_
        go_wp2_with fail
        go_meet
        exact ⟨w1.heap.size, A_s, c_s, rfl, ⟨o9.out⟩, ⟨oz.out⟩, ⟨(by refine F_res (ok := ?_) ?_ ?_; rotate_left; (repeat (with_reducible first | exact s.out | apply Kd.F_drew | apply Kd.F_drewN | apply Kd.F_alloc | refine Kd.F_far ?_ ?_ _)); all_goals (intro j_ hj_; (try dsimp only at hj_); (try dsimp only); (try simp only [sz_alloc, sz_drew, sz_drewN, sz_set] at hj_); first | omega | exact .inl hj_.1 | exact .inl hj_ | exact .inr (by omega) | (rcases hj_ with hj_ | hj_; exact .inl hj_.1; exact .inr (by omega)) | (rcases hj_ with hj_ | hj_; exact .inl hj_; exact .inr (by omega)) | (rcases hj_.1 with hk_ | hk_; (first | exact .inl hk_.1 | exact .inl hk_); exact .inr (by omega))))⟩, sc, HB, by omega, by omega⟩
    · skip
      refine val_ (v := (.pointer (some ⟨(World.heap (World.drew wa)).size, 0, none⟩))) (w1 := World.alloc (World.drew wa) (.cells #[.slice none 0 0] 27 (0, 0))) (by rfl) rfl ?_ ?_
      · first | kernel_rfl | (go_simp; done) | (go_simp; rfl)
      refine hK.out _ _ ⟨(eG orr), row_at2 (fG HD) 10 (by omega) XF.out, row_at2 (fG HD) 11 (by omega) XG.out⟩ (fun hHeld => ?_)
      clear hK K
      obtain ⟨w1, hw_, hx_, hb_, hz_⟩ := letter1 (World.drew wa) (.cells #[.slice none 0 0] 27 (0, 0))
      rw [hw_] at hHeld ⊢
      clear hw_
      have hzw1 := Nat.le_of_eq hz_.symm
      (try simp only [sz_drew] at hx_ hzw1)
      clear hz_
      have orr_ := Aside0.mk (box_below hb_ (eG orr))
      (try clear orr orrc orrf orrl)
      have orr := orr_
      clear orr_
      obtain ⟨orrc, orrf, orrl⟩ := cells_of orr.out
      have oz_ := Aside0.mk (box_below hb_ (eG oz))
      (try clear oz ozc ozf ozl)
      have oz := oz_
      clear oz_
      obtain ⟨ozc, ozf, ozl⟩ := cells_of oz.out
      have HR_ := Aside0.mk (Kd.F_below (fG HR) hb_)
      clear HR
      have HR := HR_
      clear HR_
      have HD_ := Aside0.mk (Kd.F_below (fG HD) hb_)
      clear HD
      have HD := HD_
      clear HD_
      have o9 := Aside0.mk hx_
      obtain ⟨o9c, o9f, o9l⟩ := cells_of o9.out
      have HB_ : Aside0 (Below w.heap.size w w1) := Aside0.mk (below_step (bG HB) hb_)
      clear HB hb_ hx_
      have HB := HB_
      clear HB_
      refine norm_ (a' := ?_) ?_ ?_
      rotate_left
      · simp only [Act.put, List.setIfInBounds_toArray, List.set_cons_zero, List.set_cons_succ, i64_w, i32_w]
        rfl
      refine one_ (i := 11) (N := some 23) #[true, true, true, true, true, true, true, true, true, true, true, true, false, false, false, false, true, false, false] rfl rfl (by kernel_rfl) (by decide) (fun K hK => ?_)
      refine val_ (v := (.slice (some ⟨(World.heap w1).size, 0, none⟩) 4 4)) (w1 := World.alloc w1 (.cells #[.int .u8 (Go.bits .andNot .u8 f 1), .int .u8 g, .int .u8 st, .int .u8 0] 5 (0, 0))) (by rfl) rfl ?_ ?_
      · first | kernel_rfl | (go_simp; done) | (go_simp; rfl)
      refine hK.out _ _ ⟨(eG orr), row_at2 (fG HD) 10 (by omega) XF.out, row_at2 (fG HD) 11 (by omega) XG.out⟩ (fun hHeld => ?_)
      clear hK K
      obtain ⟨w2, hw_, hx_, hb_, hz_⟩ := letter1 w1 (.cells #[.int .u8 (Go.bits .andNot .u8 f 1), .int .u8 g, .int .u8 st, .int .u8 0] 5 (0, 0))
      rw [hw_] at hHeld ⊢
      clear hw_
      have hzw2 := Nat.le_of_eq hz_.symm
      (try simp only [sz_drew] at hx_ hzw2)
      clear hz_
      have orr_ := Aside0.mk (box_below hb_ (eG orr))
      (try clear orr orrc orrf orrl)
      have orr := orr_
      clear orr_
      obtain ⟨orrc, orrf, orrl⟩ := cells_of orr.out
      have oz_ := Aside0.mk (box_below hb_ (eG oz))
      (try clear oz ozc ozf ozl)
      have oz := oz_
      clear oz_
      obtain ⟨ozc, ozf, ozl⟩ := cells_of oz.out
      have o9_ := Aside0.mk (box_below hb_ (eG o9))
      (try clear o9 o9c o9f o9l)
      have o9 := o9_
      clear o9_
      obtain ⟨o9c, o9f, o9l⟩ := cells_of o9.out
      have HR_ := Aside0.mk (Kd.F_below (fG HR) hb_)
      clear HR
      have HR := HR_
      clear HR_
      have HD_ := Aside0.mk (Kd.F_below (fG HD) hb_)
      clear HD
      have HD := HD_
      clear HD_
      have oq := Aside0.mk hx_
      obtain ⟨oqc, oqf, oql⟩ := cells_of oq.out
      have HB_ : Aside0 (Below w.heap.size w w2) := Aside0.mk (below_step (bG HB) hb_)
      clear HB hb_ hx_
      have HB := HB_
      clear HB_
      refine norm_ (a' := ?_) ?_ ?_
      rotate_left
      · simp only [Act.put, List.setIfInBounds_toArray, List.set_cons_zero, List.set_cons_succ, i64_w, i32_w]
        rfl
      refine one_ (i := 12) (N := some 24) #[true, true, true, true, true, true, true, true, true, true, true, true, true, false, false, false, true, false, false] rfl rfl (by kernel_rfl) (by decide) (fun K hK => ?_)
      (refine goes_ Try.func31 (by kernel_rfl) rfl #[.agg #[.slice R l.length rc], .int .u64 a10, .slice (some ⟨w1.heap.size, 0, none⟩) 4 4] (by rfl) rfl rfl (by (try simp only [List.map_toArray, List.map_cons, List.map_nil]); first | done | rfl) ?_; (with_reducible refine (rfill_n _ R rc l a10 (some ⟨w1.heap.size, 0, none⟩) 4 [Go.bits .andNot .u8 f 1, g, st, 0] 4 rfl (fillL l a10 [Go.bits .andNot .u8 f 1, g, st, 0]) r2 _ (Kd.V_mk HC.out (fG HR)) (C_blk oq.out rfl (by simp) rfl) (by simp) HFILL.out).mono ?_); rintro e_ w3 ⟨v_s, rfl, ⟨A_s, c_s, rfl, hc_s, hr_s⟩, hb_⟩; refine ⟨_, rfl, ?_⟩; have HB_ : Aside0 (Below w.heap.size w w3) := Aside0.mk (below_step (bG HB) hb_); have hzw3 := hb_.size; (try simp at hzw3); have orr_ := Aside0.mk (box_below hb_ (eG orr)); have oz_ := Aside0.mk (box_below hb_ (eG oz)); have oq_ := Aside0.mk (box_below hb_ (eG oq)); have o9_ := Aside0.mk (box_below hb_ (eG o9)); have HD_ := Aside0.mk (Kd.F_below (fG HD) hb_); clear HD; have HD := HD_; clear HD_; (try clear orr orrc orrf orrl); have orr := orr_; clear orr_; obtain ⟨orrc, orrf, orrl⟩ := cells_of orr.out; (try clear oz ozc ozf ozl); have oz := oz_; clear oz_; obtain ⟨ozc, ozf, ozl⟩ := cells_of oz.out; (try clear oq oqc oqf oql); have oq := oq_; clear oq_; obtain ⟨oqc, oqf, oql⟩ := cells_of oq.out; (try clear o9 o9c o9f o9l); have o9 := o9_; clear o9_; obtain ⟨o9c, o9f, o9l⟩ := cells_of o9.out; clear HB hb_; have HB := HB_; clear HB_; have sc := Aside0.mk hc_s; have s := Aside0.mk (Kd.F_bound hr_s); clear hc_s hr_s; skip)
      refine hK.out _ _ ⟨(eG orr), row_at2 (fG HD) 10 (by omega) XF.out, row_at2 (fG HD) 11 (by omega) XG.out⟩ (fun hHeld => ?_)
      clear hK K
      refine norm_ (a' := ?_) ?_ ?_
      rotate_left
      · simp only [Act.put, List.setIfInBounds_toArray, List.set_cons_zero, List.set_cons_succ, i64_w, i32_w]
        rfl
      refine pure_ (i := 13) (N := some 11) (v := ?_) (a' := ?_) #[true, true, true, true, true, true, true, true, true, true, true, true, true, true, false, false, true, false, false] rfl rfl (by kernel_rfl) (fun _ _ _ h => h) (Or.inl ⟨by rfl, ?_⟩) ?_ ?_
      rotate_left
      · intro w'
        go_simp
        with_reducible rfl
      rotate_left
      · simp only [Act.put, List.setIfInBounds_toArray, List.set_cons_zero, List.set_cons_succ, i64_w, i32_w]
        rfl
      refine pure_ (i := 14) (N := some 25) (v := ?_) (a' := ?_) #[true, true, true, true, true, true, true, true, true, true, true, true, true, true, true, false, true, false, false] rfl rfl (by kernel_rfl) (fun _ _ _ h => h) (Or.inl ⟨by rfl, ?_⟩) ?_ ?_
      rotate_left
      · intro w'
        go_simp
        with_reducible rfl
      rotate_left
      · simp only [Act.put, List.setIfInBounds_toArray, List.set_cons_zero, List.set_cons_succ, i64_w, i32_w]
        rfl
      refine pure_ (i := 15) (N := some 26) (v := ?_) (a' := ?_) #[true, true, true, true, true, true, true, true, true, true, true, true, true, true, true, true, true, false, false] rfl rfl (by kernel_rfl) (fun _ _ _ h => h) (Or.inl ⟨by rfl, ?_⟩) ?_ ?_
      rotate_left
      · intro w'
        go_simp
        with_reducible rfl
      rotate_left
      · simp only [Act.put, List.setIfInBounds_toArray, List.set_cons_zero, List.set_cons_succ, i64_w, i32_w]
        rfl
      refine rowS_ (i := 17) #[true, true, true, true, true, true, true, true, true, true, true, true, true, true, true, true, true, true, false] rfl rfl (by kernel_rfl) (by decide) 27 _ _ rfl (wa.heap.size) (#[.slice A_s (fillL l a10 [Go.bits .andNot .u8 f 1, g, st, 0]).length c_s]) (by rfl) (by rfl) (by rfl) (#[.slice none 0 0]) 27 (eG o9) rfl i27 (one27 _ _ _) ?_
      (rintro wz ⟨hx_, hk_, hb_, hzz_⟩; have HB_ : Aside0 (Below w.heap.size w wz) := Aside0.mk (Below.trans (bG HB) (Below.mono hb_ (by first | omega | (simp only [sz_alloc, sz_drew, sz_drewN]; omega)))); have hzwz := hzz_; (try simp at hzwz); clear hzz_; have orr_ := Aside0.mk (st_put orr.out hk_ (fun h_ => (by repeat (with_reducible first | exact h_ | apply ext_drew | apply ext_drewN | apply ext_alloc | refine blk_far ?_ (by show _ ≠ _; dsimp only; omega) _))) (by omega)); clear orr orrc orrf orrl; have orr := orr_; clear orr_; obtain ⟨orrc, orrf, orrl⟩ := cells_of orr.out; have oz_ := Aside0.mk (st_put oz.out hk_ (fun h_ => (by repeat (with_reducible first | exact h_ | apply ext_drew | apply ext_drewN | apply ext_alloc | refine blk_far ?_ (by show _ ≠ _; dsimp only; omega) _))) (by omega)); clear oz ozc ozf ozl; have oz := oz_; clear oz_; obtain ⟨ozc, ozf, ozl⟩ := cells_of oz.out; have HD_ := Aside0.mk (Kd.F_step (fG HD) (fun j_ hj_ hl_ => hk_ j_ (by (try dsimp only at hj_); (try simp only [sz_alloc, sz_drew, sz_drewN, sz_set] at hj_); omega))); clear HD; have HD := HD_; clear HD_; have s_ := Aside0.mk (Kd.F_step (fG s) (fun j_ hj_ hl_ => hk_ j_ (by (try dsimp only at hj_); (try simp only [sz_alloc, sz_drew, sz_drewN, sz_set] at hj_); omega))); clear s; have s := s_; clear s_; (try clear o9 o9c o9f o9l); have o9 := Aside0.mk hx_; obtain ⟨o9c, o9f, o9l⟩ := cells_of o9.out; clear HB hb_ hk_ hx_; have HB := HB_; clear HB_)
      refine ⟨⟨(eG orr), row_at2 (fG HD) 10 (by omega) XF.out, row_at2 (fG HD) 11 (by omega) XG.out⟩, ?_⟩
      refine pure_ (i := 18) (N := some 10) (v := ?_) (a' := ?_) #[true, true, true, true, true, true, true, true, true, true, true, true, true, true, true, true, true, true, true] rfl rfl (by kernel_rfl) (fun _ _ _ h => h) (Or.inl ⟨by rfl, ?_⟩) ?_ ?_
      rotate_left
      · intro w'
        go_simp
        with_reducible rfl
      rotate_left
      · simp only [Act.put, List.setIfInBounds_toArray, List.set_cons_zero, List.set_cons_succ, i64_w, i32_w]
        rfl
      refine done_ (by kernel_rfl) ?_
      go_wp2_with fail
      go_meet
      exact ⟨wa.heap.size, A_s, c_s, rfl, ⟨o9.out⟩, ⟨oz.out⟩, ⟨(by refine F_res (ok := ?_) ?_ ?_; rotate_left; (repeat (with_reducible first | exact s.out | apply Kd.F_drew | apply Kd.F_drewN | apply Kd.F_alloc | refine Kd.F_far ?_ ?_ _)); all_goals (intro j_ hj_; (try dsimp only at hj_); (try dsimp only); (try simp only [sz_alloc, sz_drew, sz_drewN, sz_set] at hj_); first | omega | exact .inl hj_.1 | exact .inl hj_ | exact .inr (by omega) | (rcases hj_ with hj_ | hj_; exact .inl hj_.1; exact .inr (by omega)) | (rcases hj_ with hj_ | hj_; exact .inl hj_; exact .inr (by omega)) | (rcases hj_.1 with hk_ | hk_; (first | exact .inl hk_.1 | exact .inl hk_); exact .inr (by omega))))⟩, sc, HB, by omega, by omega⟩
  case rest =>
  clear orr oz HR HD HB
  obtain ⟨g9, A_s, c_s, rfl, o9, oz, s, sc, HB, hg9, hg8⟩ := hcut
  rename World => wc
  obtain ⟨o9c, o9f, o9l⟩ := cells_of o9.out
  obtain ⟨ozc, ozf, ozl⟩ := cells_of oz.out
  go_wp2
  refine bodyPost_ret (v := .agg #[.slice A_s (fillL l a10 [Go.bits .andNot .u8 f 1, g, st, 0]).length c_s]) (by simp [results, Try.results44, go_sem, ozc, ozf] <;> first | assumption | omega | (symm; assumption)) rfl ?_
  exact ⟨A_s, c_s, rfl, sc.out, (by refine F_res (ok := ?_) ?_ ?_; rotate_left; (repeat (with_reducible first | exact s.out | apply Kd.F_drew | apply Kd.F_drewN | apply Kd.F_alloc | refine Kd.F_far ?_ ?_ _)); all_goals (intro j_ hj_; (try dsimp only at hj_); (try dsimp only); (try simp only [sz_alloc, sz_drew, sz_drewN, sz_set] at hj_); first | omega | exact .inl hj_.1 | exact .inl hj_ | exact .inr (by omega) | (rcases hj_ with hj_ | hj_; exact .inl hj_.1; exact .inr (by omega)) | (rcases hj_ with hj_ | hj_; exact .inl hj_; exact .inr (by omega)) | (rcases hj_.1 with hk_ | hk_; (first | exact .inl hk_.1 | exact .inl hk_); exact .inr (by omega)))), (bG HB)⟩
end Go.Proofs.Ytdblpflepfcnjaa.Q
end
