import Derived.Test.YtdblpflepfcnjaaPZ1
import Derived.Test.YtdblpflepfcnjaaPZ7
import Derived.Test.YtdblpflepfcnjaaPZ8
/- NicLoads, walked: what registers are, and become. -/
namespace Go.Proofs.Ytdblpflepfcnjaa.Q
open Go.RowKit Go.Proofs.YtdblpflepfcnjaaW.PrintWords Go.Proofs.YtdblpflepfcnjaaW.PrintLast Go.Proofs.YtdblpflepfcnjaaW.PrintMore Go.Proofs.Ytdblpflepfcnjaa.L
attribute [local go_sem] Instr.field part asAgg lt_step max2_int min2_int max_two min_two max_three min_three max_four min_four lt_0_1 lt_0_2 lt_1_2 lt_0_3 lt_1_3 lt_2_3 lt_0_4 lt_1_4 lt_2_4 lt_3_4 lt_0_5 lt_1_5 lt_2_5 lt_3_5 lt_4_5 lt_0_6 lt_1_6 lt_2_6 lt_3_6 lt_4_6 lt_5_6 lt_0_7 lt_1_7 lt_2_7 lt_3_7 lt_4_7 lt_5_7 lt_6_7 lt_0_8 lt_1_8 lt_2_8 lt_3_8 lt_4_8 lt_5_8 lt_6_8 lt_7_8
set_option linter.unusedVariables false
set_option linter.unusedSimpArgs false
theorem Same_nil (w : World) : Calls Try.prog 19 #[.agg (C14 new0 (.slice none 0 0)), .agg (C14 new0 (.slice none 0 0))] w fun e w' => e = .returned (.bool true) ∧ Below w.heap.size w w' :=
  Same_is new0 none 0 none 0 [] w (fun _ => True) (fun _ => True) F_nil (Nat.le_refl _) F_nil (Nat.le_refl _)
set_option maxHeartbeats 1600000 in
set_option maxRecDepth 100000 in
theorem loads_yes (A : Option Addr) (cap : Nat) (mac : List Int) (A4 : Option Addr) (c4 : Nat) (am : List Int) (c : Nat → Int) (off size x : Int) (w : World) (okm oka : Nat → Prop) (hm : Kd.F (Kd.int .u8) w okm A mac.length mac) (hmc : mac.length ≤ cap) (ha : Kd.F (Kd.int .u8) w oka A4 am.length am) (hac : am.length ≤ c4) (hmb : ∀ z ∈ mac, byte z) (h0 : 0 ≤ off) (h64 : off < 18446744073709551616) (h3 : 0 ≤ c 3) (h7 : 0 ≤ c 7) (hx0 : 0 ≤ x) (hx1 : x < 18446744073709551616) (h6 : am.length = 6) :
    Calls Try.prog 4 #[.agg (C14 c (.slice A mac.length cap)), .int .u64 off, .int .i64 size, .int .u64 x, .slice A4 am.length c4] w fun e w' => e = .returned (.bool true) ∧ Below w.heap.size w w' := by
  have HB := Aside0.mk (Below.refl w.heap.size w)
  have HM := Aside0.mk (Kd.F_bound hm)
  have HQ := Aside0.mk (Kd.F_bound ha)
  have HMC := Aside0.mk hmc
  have HQC := Aside0.mk hac
  have HMB := Aside0.mk hmb
  have H0 := Aside0.mk h0
  have H64 := Aside0.mk h64
  have H3 := Aside0.mk h3
  have H7 := Aside0.mk h7
  have HX0 := Aside0.mk hx0
  have HX1 := Aside0.mk hx1
  have hu := Try.underlying25
  have H6 := Aside0.mk h6
  obtain ⟨k, hk⟩ : ∃ k, okC c mac.length = k := ⟨_, rfl⟩
  obtain ⟨f, hf⟩ : ∃ b, refuseZ c mac.length off size = b := ⟨_, rfl⟩
  obtain ⟨V, hV⟩ : ∃ V, (if f then (0 : Int) else loadV c mac off) = V := ⟨_, rfl⟩
  obtain ⟨b, hb⟩ : ∃ b, (!f) = b := ⟨_, rfl⟩
  obtain ⟨d, hd⟩ : ∃ d, storeZ c mac.length off size x = d := ⟨_, rfl⟩
  obtain ⟨n, hn⟩ : ∃ b, lineZ c mac.length = b := ⟨_, rfl⟩
  have HL1 : Aside0 (∀ (w : World) (ok : Nat → Prop), Kd.F (Kd.int .u8) w ok A mac.length mac → Calls Try.prog 13 #[.agg (C14 c (.slice A mac.length cap)), .int .u64 off, .int .i64 size] w fun e w' => e = .returned (.tuple #[.int .u64 V, .bool b]) ∧ Below w.heap.size w w') := ⟨fun w ok h => by rw [← hV, ← hb]; exact Load_is A cap mac c off size w ok h hmc hmb h0 h64 _ _ rfl hf⟩
  have HL2 : Aside0 (∀ (w : World) (ok : Nat → Prop), Kd.F (Kd.int .u8) w ok A mac.length mac → Calls Try.prog 14 #[.agg (C14 c (.slice A mac.length cap)), .int .u64 off, .int .i64 size] w fun e w' => e = .returned (.tuple #[.int .u64 V, .bool b]) ∧ Below w.heap.size w w') := ⟨fun w ok h => by rw [← hV, ← hb]; exact RLoad_is A cap mac c off size w ok h hmc hmb h0 h64 h3 h7 _ hf⟩
  have HD := Aside0.mk hd
  have HF : Aside0 ((!refuseZ c mac.length off size) = b) := ⟨by rw [hf, hb]⟩
  have HK := Aside0.mk hk
  have HN := Aside0.mk hn
  clear hm ha hmc hac hmb h0 h64 h3 h7 hx0 hx1 hk hf hV hb hd hn h6
  go_enter Try.func4, Try.ntmps4
  go_upto_region 1 with fail
  obtain ⟨wa, hwa, on0, hb_, hz0⟩ := letter1 w (.cells (C14 c (.slice A mac.length cap)) 25 (0, 0))
  rw [hwa]
  clear hwa
  have hzwa := Nat.le_of_eq hz0.symm
  clear hz0
  have on := Aside0.mk on0
  clear on0
  obtain ⟨onc, onf, onl⟩ := cells_of on.out
  have HB_ : Aside0 (Below w.heap.size w wa) := ⟨hb_⟩
  have HM_ := Aside0.mk (Kd.F_below HM.out hb_)
  clear HM
  have HM := HM_
  clear HM_
  have HQ_ := Aside0.mk (Kd.F_below HQ.out hb_)
  clear HQ
  have HQ := HQ_
  clear HQ_
  clear HB hb_
  have HB := HB_
  clear HB_
  go_wp2_with (first | ((with_reducible refine gate_dst (N := 24) rfl ?_); (try (refine gate_guard (by rfl) ?_; dsimp only)); refine wpList_load_row rfl 25 _ rfl _ (by rfl) _ (C14 c (.slice A mac.length cap)) _ _ (eG on) Try.underlying25 rfl i25 ?_))
  (go_at_call 13; (with_reducible refine (HL1.out _ _ (fG HM)).mono ?_); rintro e_ w1 ⟨rfl, hb_⟩; have HB_ : Aside0 (Below w.heap.size w w1) := Aside0.mk (below_step (bG HB) hb_); have hzw1 := hb_.size; (try simp at hzw1); have on_ := Aside0.mk (box_below hb_ (eG on)); have HM_ := Aside0.mk (Kd.F_below (fG HM) hb_); clear HM; have HM := HM_; clear HM_; have HQ_ := Aside0.mk (Kd.F_below (fG HQ) hb_); clear HQ; have HQ := HQ_; clear HQ_; (try clear on onc onf onl); have on := on_; clear on_; obtain ⟨onc, onf, onl⟩ := cells_of on.out; clear HB hb_; have HB := HB_; clear HB_)
  go_wp2_with (first | ((with_reducible refine gate_dst (N := 31) rfl ?_); (try (refine gate_guard (by rfl) ?_; dsimp only)); refine wpList_load_row rfl 25 _ rfl _ (by rfl) _ (C14 c (.slice A mac.length cap)) _ _ (eG on) Try.underlying25 rfl i25 ?_))
  (go_at_call 14; (with_reducible refine (HL2.out _ _ (fG HM)).mono ?_); rintro e_ w2 ⟨rfl, hb_⟩; have HB_ : Aside0 (Below w.heap.size w w2) := Aside0.mk (below_step (bG HB) hb_); have hzw2 := hb_.size; (try simp at hzw2); have on_ := Aside0.mk (box_below hb_ (eG on)); have HM_ := Aside0.mk (Kd.F_below (fG HM) hb_); clear HM; have HM := HM_; clear HM_; have HQ_ := Aside0.mk (Kd.F_below (fG HQ) hb_); clear HQ; have HQ := HQ_; clear HQ_; (try clear on onc onf onl); have on := on_; clear on_; obtain ⟨onc, onf, onl⟩ := cells_of on.out; clear HB hb_; have HB := HB_; clear HB_)
  go_wp2_with (first | ((with_reducible refine gate_dst (N := 38) rfl ?_); (try (refine gate_guard (by rfl) ?_; dsimp only)); refine wpList_load_row rfl 25 _ rfl _ (by rfl) _ (C14 c (.slice A mac.length cap)) _ _ (eG on) Try.underlying25 rfl i25 ?_))
  (go_at_call 15; (with_reducible refine (Store_of d b A cap mac c off size x _ _ (fG HM) HMC.out HMB.out H0.out H64.out HD.out HF.out).mono ?_); rintro e_ w3 ⟨rfl, hb_⟩; have HB_ : Aside0 (Below w.heap.size w w3) := Aside0.mk (below_step (bG HB) hb_); have hzw3 := hb_.size; (try simp at hzw3); have on_ := Aside0.mk (box_below hb_ (eG on)); have HM_ := Aside0.mk (Kd.F_below (fG HM) hb_); clear HM; have HM := HM_; clear HM_; have HQ_ := Aside0.mk (Kd.F_below (fG HQ) hb_); clear HQ; have HQ := HQ_; clear HQ_; (try clear on onc onf onl); have on := on_; clear on_; obtain ⟨onc, onf, onl⟩ := cells_of on.out; clear HB hb_; have HB := HB_; clear HB_)
  go_wp2_with (first | ((with_reducible refine gate_store (t := 25) (p := 15) (v := .tmp 43) rfl ?_); refine wpList_store_all rfl 25 _ _ rfl rfl _ (C14 d (.slice A mac.length cap)) (by rfl) (by rfl) _ _ (nb_1 _ _) rfl i25 (C14_one _ _ _ _) ?_; rintro w4 ⟨hx_, hk_, hb_, hzz_⟩; have HB_ : Aside0 (Below w.heap.size w w4) := Aside0.mk (Below.trans (bG HB) (Below.mono hb_ (by first | omega | (simp only [sz_alloc, sz_drew, sz_drewN]; omega)))); have hzw4 := Nat.le_of_eq hzz_.symm; (try simp at hzw4); clear hzz_; have on_ := Aside0.mk (st_put on.out hk_ (fun h_ => (by repeat (with_reducible first | exact h_ | apply ext_drew | apply ext_drewN | apply ext_alloc | refine blk_far ?_ (by show _ ≠ _; dsimp only; omega) _))) (by omega)); clear on onc onf onl; have on := on_; clear on_; obtain ⟨onc, onf, onl⟩ := cells_of on.out; have HM_ := Aside0.mk (Kd.F_step (fG HM) (fun j_ hj_ hl_ => hk_ j_ (by (try dsimp only at hj_); (try simp only [sz_alloc, sz_drew, sz_drewN, sz_set] at hj_); omega))); clear HM; have HM := HM_; clear HM_; have HQ_ := Aside0.mk (Kd.F_step (fG HQ) (fun j_ hj_ hl_ => hk_ j_ (by (try dsimp only at hj_); (try simp only [sz_alloc, sz_drew, sz_drewN, sz_set] at hj_); omega))); clear HQ; have HQ := HQ_; clear HQ_; (try clear oa oac oaf oal); have oa := Aside0.mk hx_; obtain ⟨oac, oaf, oal⟩ := cells_of oa.out; clear HB hb_ hk_ hx_; have HB := HB_; clear HB_) | ((with_reducible refine gate_dst (N := 46) rfl ?_); (try (refine gate_guard (by rfl) ?_; dsimp only)); refine wpList_load_row rfl 25 _ rfl _ (by rfl) _ (C14 c (.slice A mac.length cap)) _ _ (eG on) Try.underlying25 rfl i25 ?_))
  (go_at_call 16; (with_reducible refine (RStore_is A cap mac c off size x _ _ (fG HM) HMC.out HMB.out H0.out H64.out H3.out H7.out HX0.out HX1.out d b HD.out HF.out).mono ?_); rintro e_ w5 ⟨rfl, hb_⟩; have HB_ : Aside0 (Below w.heap.size w w5) := Aside0.mk (below_step (bG HB) hb_); have hzw5 := hb_.size; (try simp at hzw5); have on_ := Aside0.mk (box_below hb_ (eG on)); have oa_ := Aside0.mk (box_below hb_ (eG oa)); have HM_ := Aside0.mk (Kd.F_below (fG HM) hb_); clear HM; have HM := HM_; clear HM_; have HQ_ := Aside0.mk (Kd.F_below (fG HQ) hb_); clear HQ; have HQ := HQ_; clear HQ_; (try clear on onc onf onl); have on := on_; clear on_; obtain ⟨onc, onf, onl⟩ := cells_of on.out; (try clear oa oac oaf oal); have oa := oa_; clear oa_; obtain ⟨oac, oaf, oal⟩ := cells_of oa.out; clear HB hb_; have HB := HB_; clear HB_)
  go_wp2_with (first | ((with_reducible refine gate_store (t := 25) (p := 17) (v := .tmp 51) rfl ?_); refine wpList_store_all rfl 25 _ _ rfl rfl _ (C14 d (.slice A mac.length cap)) (by rfl) (by rfl) _ _ (nb_1 _ _) rfl i25 (C14_one _ _ _ _) ?_; rintro w6 ⟨hx_, hk_, hb_, hzz_⟩; have HB_ : Aside0 (Below w.heap.size w w6) := Aside0.mk (Below.trans (bG HB) (Below.mono hb_ (by first | omega | (simp only [sz_alloc, sz_drew, sz_drewN]; omega)))); have hzw6 := Nat.le_of_eq hzz_.symm; (try simp at hzw6); clear hzz_; have on_ := Aside0.mk (st_put on.out hk_ (fun h_ => (by repeat (with_reducible first | exact h_ | apply ext_drew | apply ext_drewN | apply ext_alloc | refine blk_far ?_ (by show _ ≠ _; dsimp only; omega) _))) (by omega)); clear on onc onf onl; have on := on_; clear on_; obtain ⟨onc, onf, onl⟩ := cells_of on.out; have oa_ := Aside0.mk (st_put oa.out hk_ (fun h_ => (by repeat (with_reducible first | exact h_ | apply ext_drew | apply ext_drewN | apply ext_alloc | refine blk_far ?_ (by show _ ≠ _; dsimp only; omega) _))) (by omega)); clear oa oac oaf oal; have oa := oa_; clear oa_; obtain ⟨oac, oaf, oal⟩ := cells_of oa.out; have HM_ := Aside0.mk (Kd.F_step (fG HM) (fun j_ hj_ hl_ => hk_ j_ (by (try dsimp only at hj_); (try simp only [sz_alloc, sz_drew, sz_drewN, sz_set] at hj_); omega))); clear HM; have HM := HM_; clear HM_; have HQ_ := Aside0.mk (Kd.F_step (fG HQ) (fun j_ hj_ hl_ => hk_ j_ (by (try dsimp only at hj_); (try simp only [sz_alloc, sz_drew, sz_drewN, sz_set] at hj_); omega))); clear HQ; have HQ := HQ_; clear HQ_; (try clear ob obc obf obl); have ob := Aside0.mk hx_; obtain ⟨obc, obf, obl⟩ := cells_of ob.out; clear HB hb_ hk_ hx_; have HB := HB_; clear HB_))
  (go_at_call 17; (with_reducible refine (New_yes A4 c4 am _ _ (fG HQ) HQC.out H6.out).mono ?_); rintro e_ w7 ⟨A_m, c_m, rfl, hc_m, hr_m, hb_⟩; have HB_ : Aside0 (Below w.heap.size w w7) := Aside0.mk (below_step (bG HB) hb_); have hzw7 := hb_.size; (try simp at hzw7); have on_ := Aside0.mk (box_below hb_ (eG on)); have oa_ := Aside0.mk (box_below hb_ (eG oa)); have ob_ := Aside0.mk (box_below hb_ (eG ob)); have HM_ := Aside0.mk (Kd.F_below (fG HM) hb_); clear HM; have HM := HM_; clear HM_; have HQ_ := Aside0.mk (Kd.F_below (fG HQ) hb_); clear HQ; have HQ := HQ_; clear HQ_; (try clear on onc onf onl); have on := on_; clear on_; obtain ⟨onc, onf, onl⟩ := cells_of on.out; (try clear oa oac oaf oal); have oa := oa_; clear oa_; obtain ⟨oac, oaf, oal⟩ := cells_of oa.out; (try clear ob obc obf obl); have ob := ob_; clear ob_; obtain ⟨obc, obf, obl⟩ := cells_of ob.out; clear HB hb_; have HB := HB_; clear HB_; have mc := Aside0.mk hc_m; have m := Aside0.mk (Kd.F_bound hr_m); clear hc_m hr_m; skip)
  go_wp2_with (first | ((with_reducible refine gate_store (t := 25) (p := 19) (v := .tmp 56) rfl ?_); refine wpList_store_all rfl 25 _ _ rfl rfl _ (C14 new1 (.slice A_m am.length c_m)) (by rfl) (by rfl) _ _ (nb_1 _ _) rfl i25 (C14_one _ _ _ _) ?_; rintro w8 ⟨hx_, hk_, hb_, hzz_⟩; have HB_ : Aside0 (Below w.heap.size w w8) := Aside0.mk (Below.trans (bG HB) (Below.mono hb_ (by first | omega | (simp only [sz_alloc, sz_drew, sz_drewN]; omega)))); have hzw8 := Nat.le_of_eq hzz_.symm; (try simp at hzw8); clear hzz_; have on_ := Aside0.mk (st_put on.out hk_ (fun h_ => (by repeat (with_reducible first | exact h_ | apply ext_drew | apply ext_drewN | apply ext_alloc | refine blk_far ?_ (by show _ ≠ _; dsimp only; omega) _))) (by omega)); clear on onc onf onl; have on := on_; clear on_; obtain ⟨onc, onf, onl⟩ := cells_of on.out; have oa_ := Aside0.mk (st_put oa.out hk_ (fun h_ => (by repeat (with_reducible first | exact h_ | apply ext_drew | apply ext_drewN | apply ext_alloc | refine blk_far ?_ (by show _ ≠ _; dsimp only; omega) _))) (by omega)); clear oa oac oaf oal; have oa := oa_; clear oa_; obtain ⟨oac, oaf, oal⟩ := cells_of oa.out; have ob_ := Aside0.mk (st_put ob.out hk_ (fun h_ => (by repeat (with_reducible first | exact h_ | apply ext_drew | apply ext_drewN | apply ext_alloc | refine blk_far ?_ (by show _ ≠ _; dsimp only; omega) _))) (by omega)); clear ob obc obf obl; have ob := ob_; clear ob_; obtain ⟨obc, obf, obl⟩ := cells_of ob.out; have HM_ := Aside0.mk (Kd.F_step (fG HM) (fun j_ hj_ hl_ => hk_ j_ (by (try dsimp only at hj_); (try simp only [sz_alloc, sz_drew, sz_drewN, sz_set] at hj_); omega))); clear HM; have HM := HM_; clear HM_; have HQ_ := Aside0.mk (Kd.F_step (fG HQ) (fun j_ hj_ hl_ => hk_ j_ (by (try dsimp only at hj_); (try simp only [sz_alloc, sz_drew, sz_drewN, sz_set] at hj_); omega))); clear HQ; have HQ := HQ_; clear HQ_; have m_ := Aside0.mk (Kd.F_step (fG m) (fun j_ hj_ hl_ => hk_ j_ (by (try dsimp only at hj_); (try simp only [sz_alloc, sz_drew, sz_drewN, sz_set] at hj_); omega))); clear m; have m := m_; clear m_; (try clear oc occ ocf ocl); have oc := Aside0.mk hx_; obtain ⟨occ, ocf, ocl⟩ := cells_of oc.out; clear HB hb_ hk_ hx_; have HB := HB_; clear HB_))
  (go_at_call 18; (with_reducible refine (RNew_yes A4 c4 am _ _ (fG HQ) HQC.out H6.out).mono ?_); rintro e_ w9 ⟨A_r, c_r, rfl, hc_r, hr_r, hb_⟩; have HB_ : Aside0 (Below w.heap.size w w9) := Aside0.mk (below_step (bG HB) hb_); have hzw9 := hb_.size; (try simp at hzw9); have on_ := Aside0.mk (box_below hb_ (eG on)); have oa_ := Aside0.mk (box_below hb_ (eG oa)); have ob_ := Aside0.mk (box_below hb_ (eG ob)); have oc_ := Aside0.mk (box_below hb_ (eG oc)); have HM_ := Aside0.mk (Kd.F_below (fG HM) hb_); clear HM; have HM := HM_; clear HM_; have m_ := Aside0.mk (Kd.F_below (fG m) hb_); clear m; have m := m_; clear m_; (try clear on onc onf onl); have on := on_; clear on_; obtain ⟨onc, onf, onl⟩ := cells_of on.out; (try clear oa oac oaf oal); have oa := oa_; clear oa_; obtain ⟨oac, oaf, oal⟩ := cells_of oa.out; (try clear ob obc obf obl); have ob := ob_; clear ob_; obtain ⟨obc, obf, obl⟩ := cells_of ob.out; (try clear oc occ ocf ocl); have oc := oc_; clear oc_; obtain ⟨occ, ocf, ocl⟩ := cells_of oc.out; clear HB hb_; have HB := HB_; clear HB_; have rc := Aside0.mk hc_r; have r := Aside0.mk (Kd.F_bound hr_r); clear hc_r hr_r; skip)
  go_upto_region 7 with (first | ((with_reducible refine gate_store (t := 25) (p := 21) (v := .tmp 61) rfl ?_); refine wpList_store_all rfl 25 _ _ rfl rfl _ (C14 new1 (.slice A_r am.length c_r)) (by rfl) (by rfl) _ _ (nb_1 _ _) rfl i25 (C14_one _ _ _ _) ?_; rintro w10 ⟨hx_, hk_, hb_, hzz_⟩; have HB_ : Aside0 (Below w.heap.size w w10) := Aside0.mk (Below.trans (bG HB) (Below.mono hb_ (by first | omega | (simp only [sz_alloc, sz_drew, sz_drewN]; omega)))); have hzw10 := Nat.le_of_eq hzz_.symm; (try simp at hzw10); clear hzz_; have on_ := Aside0.mk (st_put on.out hk_ (fun h_ => (by repeat (with_reducible first | exact h_ | apply ext_drew | apply ext_drewN | apply ext_alloc | refine blk_far ?_ (by show _ ≠ _; dsimp only; omega) _))) (by omega)); clear on onc onf onl; have on := on_; clear on_; obtain ⟨onc, onf, onl⟩ := cells_of on.out; have oa_ := Aside0.mk (st_put oa.out hk_ (fun h_ => (by repeat (with_reducible first | exact h_ | apply ext_drew | apply ext_drewN | apply ext_alloc | refine blk_far ?_ (by show _ ≠ _; dsimp only; omega) _))) (by omega)); clear oa oac oaf oal; have oa := oa_; clear oa_; obtain ⟨oac, oaf, oal⟩ := cells_of oa.out; have ob_ := Aside0.mk (st_put ob.out hk_ (fun h_ => (by repeat (with_reducible first | exact h_ | apply ext_drew | apply ext_drewN | apply ext_alloc | refine blk_far ?_ (by show _ ≠ _; dsimp only; omega) _))) (by omega)); clear ob obc obf obl; have ob := ob_; clear ob_; obtain ⟨obc, obf, obl⟩ := cells_of ob.out; have oc_ := Aside0.mk (st_put oc.out hk_ (fun h_ => (by repeat (with_reducible first | exact h_ | apply ext_drew | apply ext_drewN | apply ext_alloc | refine blk_far ?_ (by show _ ≠ _; dsimp only; omega) _))) (by omega)); clear oc occ ocf ocl; have oc := oc_; clear oc_; obtain ⟨occ, ocf, ocl⟩ := cells_of oc.out; have HM_ := Aside0.mk (Kd.F_step (fG HM) (fun j_ hj_ hl_ => hk_ j_ (by (try dsimp only at hj_); (try simp only [sz_alloc, sz_drew, sz_drewN, sz_set] at hj_); omega))); clear HM; have HM := HM_; clear HM_; have m_ := Aside0.mk (Kd.F_step (fG m) (fun j_ hj_ hl_ => hk_ j_ (by (try dsimp only at hj_); (try simp only [sz_alloc, sz_drew, sz_drewN, sz_set] at hj_); omega))); clear m; have m := m_; clear m_; have r_ := Aside0.mk (Kd.F_step (fG r) (fun j_ hj_ hl_ => hk_ j_ (by (try dsimp only at hj_); (try simp only [sz_alloc, sz_drew, sz_drewN, sz_set] at hj_); omega))); clear r; have r := r_; clear r_; (try clear od odc odf odl); have od := Aside0.mk hx_; obtain ⟨odc, odf, odl⟩ := cells_of od.out; clear HB hb_ hk_ hx_; have HB := HB_; clear HB_))
  refine start_ (n := 46) (S := fun w' => w'.heap[w3.heap.size]? = some (.cells (C14 d (.slice A mac.length cap)) 25 (0, 0)) ∧ w'.heap[w5.heap.size]? = some (.cells (C14 d (.slice A mac.length cap)) 25 (0, 0)) ∧ w'.heap[w7.heap.size]? = some (.cells (C14 new1 (.slice A_m am.length c_m)) 25 (0, 0)) ∧ w'.heap[w9.heap.size]? = some (.cells (C14 new1 (.slice A_r am.length c_r)) 25 (0, 0)) ∧ w'.heap[w.heap.size]? = some (.cells (C14 c (.slice A mac.length cap)) 25 (0, 0))) (ds := []) #[false, false, false, false, false, false, false, false, false, false, false, false, false, false, false, false, false, false, false, false, false, false, false, false, false, false, false, false, false, false, false, false, false, false, false, false, false, false, false, false, false, false, false, false, false, false] (by kernel_rfl) rfl rfl ⟨(eG oa), (eG ob), (eG oc), (eG od), (eG on)⟩ (fun hHeld => ?_)
  refine pure_ (i := 0) (N := some 63) (v := ?_) (a' := ?_) #[true, false, false, false, false, false, false, false, false, false, false, false, false, false, false, false, false, false, false, false, false, false, false, false, false, false, false, false, false, false, false, false, false, false, false, false, false, false, false, false, false, false, false, false, false, false] rfl rfl (by kernel_rfl) (fun _ _ _ h => h) (Or.inl ⟨by rfl, ?_⟩) ?_ ?_
  rotate_left
  · intro w'
    go_simp
    with_reducible rfl
  rotate_left
  · simp only [Act.put, List.setIfInBounds_toArray, List.set_cons_zero, List.set_cons_succ, i64_w, i32_w]
    rfl
  refine pure_ (i := 1) (N := some 64) (v := ?_) (a' := ?_) #[true, true, false, false, false, false, false, false, false, false, false, false, false, false, false, false, false, false, false, false, false, false, false, false, false, false, false, false, false, false, false, false, false, false, false, false, false, false, false, false, false, false, false, false, false, false] rfl rfl (by kernel_rfl) (fun _ _ _ h => h) (Or.inl ⟨by rfl, ?_⟩) ?_ ?_
  rotate_left
  · intro w'
    go_simp
    with_reducible rfl
  rotate_left
  · simp only [Act.put, List.setIfInBounds_toArray, List.set_cons_zero, List.set_cons_succ, i64_w, i32_w]
    rfl
  refine pure_ (i := 2) (N := some 65) (v := ?_) (a' := ?_) #[true, true, true, false, false, false, false, false, false, false, false, false, false, false, false, false, false, false, false, false, false, false, false, false, false, false, false, false, false, false, false, false, false, false, false, false, false, false, false, false, false, false, false, false, false, false] rfl rfl (by kernel_rfl) (fun _ _ _ h => h) (Or.inl ⟨by rfl, ?_⟩) ?_ ?_
  rotate_left
  · intro w'
    go_simp
    with_reducible rfl
  rotate_left
  · simp only [Act.put, List.setIfInBounds_toArray, List.set_cons_zero, List.set_cons_succ, i64_w, i32_w]
    rfl
  refine pure_ (i := 3) (N := some 66) (v := ?_) (a' := ?_) #[true, true, true, true, false, false, false, false, false, false, false, false, false, false, false, false, false, false, false, false, false, false, false, false, false, false, false, false, false, false, false, false, false, false, false, false, false, false, false, false, false, false, false, false, false, false] rfl rfl (by kernel_rfl) (fun _ _ _ h => h) (Or.inl ⟨by rfl, ?_⟩) ?_ ?_
  rotate_left
  · intro w'
    go_simp
    with_reducible rfl
  rotate_left
  · simp only [Act.put, List.setIfInBounds_toArray, List.set_cons_zero, List.set_cons_succ, i64_w, i32_w]
    rfl
  refine pure_ (i := 4) (N := some 67) (v := ?_) (a' := ?_) #[true, true, true, true, true, false, false, false, false, false, false, false, false, false, false, false, false, false, false, false, false, false, false, false, false, false, false, false, false, false, false, false, false, false, false, false, false, false, false, false, false, false, false, false, false, false] rfl rfl (by kernel_rfl) (fun _ _ _ h => h) (Or.inl ⟨by rfl, ?_⟩) ?_ ?_
  rotate_left
  · intro w'
    go_simp
    with_reducible rfl
  rotate_left
  · simp only [Act.put, List.setIfInBounds_toArray, List.set_cons_zero, List.set_cons_succ, i64_w, i32_w]
    rfl
  refine pure_ (i := 5) (N := some 68) (v := ?_) (a' := ?_) #[true, true, true, true, true, true, false, false, false, false, false, false, false, false, false, false, false, false, false, false, false, false, false, false, false, false, false, false, false, false, false, false, false, false, false, false, false, false, false, false, false, false, false, false, false, false] rfl rfl (by kernel_rfl) (fun _ _ _ h => h) (Or.inl ⟨by rfl, ?_⟩) ?_ ?_
  rotate_left
  · intro w'
    go_simp
    with_reducible rfl
  rotate_left
  · simp only [Act.put, List.setIfInBounds_toArray, List.set_cons_zero, List.set_cons_succ, i64_w, i32_w]
    rfl
  refine pure_ (i := 6) (N := some 69) (v := ?_) (a' := ?_) #[true, true, true, true, true, true, true, false, false, false, false, false, false, false, false, false, false, false, false, false, false, false, false, false, false, false, false, false, false, false, false, false, false, false, false, false, false, false, false, false, false, false, false, false, false, false] rfl rfl (by kernel_rfl) (fun _ _ _ h => h) (Or.inl ⟨by rfl, ?_⟩) ?_ ?_
  rotate_left
  · intro w'
    go_simp
    with_reducible rfl
  rotate_left
  · simp only [Act.put, List.setIfInBounds_toArray, List.set_cons_zero, List.set_cons_succ, i64_w, i32_w]
    rfl
  refine pure_ (i := 7) (N := some 70) (v := ?_) (a' := ?_) #[true, true, true, true, true, true, true, true, false, false, false, false, false, false, false, false, false, false, false, false, false, false, false, false, false, false, false, false, false, false, false, false, false, false, false, false, false, false, false, false, false, false, false, false, false, false] rfl rfl (by kernel_rfl) (fun _ _ _ h => h) (Or.inl ⟨by rfl, ?_⟩) ?_ ?_
  rotate_left
  · intro w'
    go_simp
    with_reducible rfl
  rotate_left
  · simp only [Act.put, List.setIfInBounds_toArray, List.set_cons_zero, List.set_cons_succ, i64_w, i32_w]
    rfl
  refine pure_ (i := 8) (N := some 71) (v := ?_) (a' := ?_) #[true, true, true, true, true, true, true, true, true, false, false, false, false, false, false, false, false, false, false, false, false, false, false, false, false, false, false, false, false, false, false, false, false, false, false, false, false, false, false, false, false, false, false, false, false, false] rfl rfl (by kernel_rfl) (fun _ _ _ h => h) (Or.inl ⟨by rfl, ?_⟩) ?_ ?_
  rotate_left
  · intro w'
    go_simp
    with_reducible rfl
  rotate_left
  · simp only [Act.put, List.setIfInBounds_toArray, List.set_cons_zero, List.set_cons_succ, i64_w, i32_w]
    rfl
  refine rowL_ (i := 9) (N := some 72) #[true, true, true, true, true, true, true, true, true, true, false, false, false, false, false, false, false, false, false, false, false, false, false, false, false, false, false, false, false, false, false, false, false, false, false, false, false, false, false, false, false, false, false, false, false, false] rfl rfl (by kernel_rfl) 25 _ rfl (w3.heap.size) (C14 d (.slice A mac.length cap)) (fun _ _ _ h => h) (by rfl) (by rfl) _ _ _ (fun _ h => h.1) Try.underlying25 rfl i25 hHeld (a' := ?_) ?_ ?_
  rotate_left
  · simp only [Act.put, List.setIfInBounds_toArray, List.set_cons_zero, List.set_cons_succ, i64_w, i32_w]
    rfl
  refine rowL_ (i := 10) (N := some 73) #[true, true, true, true, true, true, true, true, true, true, true, false, false, false, false, false, false, false, false, false, false, false, false, false, false, false, false, false, false, false, false, false, false, false, false, false, false, false, false, false, false, false, false, false, false, false] rfl rfl (by kernel_rfl) 25 _ rfl (w5.heap.size) (C14 d (.slice A mac.length cap)) (fun _ _ _ h => h) (by rfl) (by rfl) _ _ _ (fun _ h => h.2.1) Try.underlying25 rfl i25 hHeld (a' := ?_) ?_ ?_
  rotate_left
  · simp only [Act.put, List.setIfInBounds_toArray, List.set_cons_zero, List.set_cons_succ, i64_w, i32_w]
    rfl
  refine one_ (i := 11) (N := some 74) #[true, true, true, true, true, true, true, true, true, true, true, true, false, false, false, false, false, false, false, false, false, false, false, false, false, false, false, false, false, false, false, false, false, false, false, false, false, false, false, false, false, false, false, false, false, false] rfl rfl (by kernel_rfl) (by decide) (fun K hK => ?_)
  (refine goes_ Try.func19 (by kernel_rfl) rfl #[.agg (C14 d (.slice A mac.length cap)), .agg (C14 d (.slice A mac.length cap))] (by rfl) rfl rfl (by (try simp only [List.map_toArray, List.map_cons, List.map_nil]); first | done | rfl) ?_; (with_reducible refine (Same_is d A cap A cap mac _ _ _ (fG HM) HMC.out (fG HM) HMC.out).mono ?_); rintro e_ wq1 ⟨rfl, hb_⟩; refine ⟨_, rfl, ?_⟩; have HB_ : Aside0 (Below w.heap.size w wq1) := Aside0.mk (below_step (bG HB) hb_); have hzwq1 := hb_.size; (try simp at hzwq1); have on_ := Aside0.mk (box_below hb_ (eG on)); have oa_ := Aside0.mk (box_below hb_ (eG oa)); have ob_ := Aside0.mk (box_below hb_ (eG ob)); have oc_ := Aside0.mk (box_below hb_ (eG oc)); have od_ := Aside0.mk (box_below hb_ (eG od)); have HM_ := Aside0.mk (Kd.F_below (fG HM) hb_); clear HM; have HM := HM_; clear HM_; have m_ := Aside0.mk (Kd.F_below (fG m) hb_); clear m; have m := m_; clear m_; have r_ := Aside0.mk (Kd.F_below (fG r) hb_); clear r; have r := r_; clear r_; (try clear on onc onf onl); have on := on_; clear on_; obtain ⟨onc, onf, onl⟩ := cells_of on.out; (try clear oa oac oaf oal); have oa := oa_; clear oa_; obtain ⟨oac, oaf, oal⟩ := cells_of oa.out; (try clear ob obc obf obl); have ob := ob_; clear ob_; obtain ⟨obc, obf, obl⟩ := cells_of ob.out; (try clear oc occ ocf ocl); have oc := oc_; clear oc_; obtain ⟨occ, ocf, ocl⟩ := cells_of oc.out; (try clear od odc odf odl); have od := od_; clear od_; obtain ⟨odc, odf, odl⟩ := cells_of od.out; clear HB hb_; have HB := HB_; clear HB_)
  refine hK.out _ _ ⟨(eG oa), (eG ob), (eG oc), (eG od), (eG on)⟩ (fun hHeld => ?_)
  clear hK K
  refine norm_ (a' := ?_) ?_ ?_
  rotate_left
  · simp only [Act.put, List.setIfInBounds_toArray, List.set_cons_zero, List.set_cons_succ, i64_w, i32_w]
    rfl
  refine pure_ (i := 12) (N := some 75) (v := ?_) (a' := ?_) #[true, true, true, true, true, true, true, true, true, true, true, true, true, false, false, false, false, false, false, false, false, false, false, false, false, false, false, false, false, false, false, false, false, false, false, false, false, false, false, false, false, false, false, false, false, false] rfl rfl (by kernel_rfl) (fun _ _ _ h => h) (Or.inl ⟨by rfl, ?_⟩) ?_ ?_
  rotate_left
  · intro w'
    go_simp
    with_reducible rfl
  rotate_left
  · simp only [Act.put, List.setIfInBounds_toArray, List.set_cons_zero, List.set_cons_succ, i64_w, i32_w]
    rfl
  refine pure_ (i := 13) (N := some 76) (v := ?_) (a' := ?_) #[true, true, true, true, true, true, true, true, true, true, true, true, true, true, false, false, false, false, false, false, false, false, false, false, false, false, false, false, false, false, false, false, false, false, false, false, false, false, false, false, false, false, false, false, false, false] rfl rfl (by kernel_rfl) (fun _ _ _ h => h) (Or.inl ⟨by rfl, ?_⟩) ?_ ?_
  rotate_left
  · intro w'
    go_simp
    with_reducible rfl
  rotate_left
  · simp only [Act.put, List.setIfInBounds_toArray, List.set_cons_zero, List.set_cons_succ, i64_w, i32_w]
    rfl
  refine pure_ (i := 14) (N := some 77) (v := ?_) (a' := ?_) #[true, true, true, true, true, true, true, true, true, true, true, true, true, true, true, false, false, false, false, false, false, false, false, false, false, false, false, false, false, false, false, false, false, false, false, false, false, false, false, false, false, false, false, false, false, false] rfl rfl (by kernel_rfl) (fun _ _ _ h => h) (Or.inl ⟨by rfl, ?_⟩) ?_ ?_
  rotate_left
  · intro w'
    go_simp
    with_reducible rfl
  rotate_left
  · simp only [Act.put, List.setIfInBounds_toArray, List.set_cons_zero, List.set_cons_succ, i64_w, i32_w]
    rfl
  refine pure_ (i := 15) (N := some 78) (v := ?_) (a' := ?_) #[true, true, true, true, true, true, true, true, true, true, true, true, true, true, true, true, false, false, false, false, false, false, false, false, false, false, false, false, false, false, false, false, false, false, false, false, false, false, false, false, false, false, false, false, false, false] rfl rfl (by kernel_rfl) (fun _ _ _ h => h) (Or.inl ⟨by rfl, ?_⟩) ?_ ?_
  rotate_left
  · intro w'
    go_simp
    with_reducible rfl
  rotate_left
  · simp only [Act.put, List.setIfInBounds_toArray, List.set_cons_zero, List.set_cons_succ, i64_w, i32_w]
    rfl
  refine pure_ (i := 16) (N := some 79) (v := ?_) (a' := ?_) #[true, true, true, true, true, true, true, true, true, true, true, true, true, true, true, true, true, false, false, false, false, false, false, false, false, false, false, false, false, false, false, false, false, false, false, false, false, false, false, false, false, false, false, false, false, false] rfl rfl (by kernel_rfl) (fun _ _ _ h => h) (Or.inl ⟨by rfl, ?_⟩) ?_ ?_
  rotate_left
  · intro w'
    go_simp
    with_reducible rfl
  rotate_left
  · simp only [Act.put, List.setIfInBounds_toArray, List.set_cons_zero, List.set_cons_succ, i64_w, i32_w]
    rfl
  refine pure_ (i := 17) (N := some 80) (v := ?_) (a' := ?_) #[true, true, true, true, true, true, true, true, true, true, true, true, true, true, true, true, true, true, false, false, false, false, false, false, false, false, false, false, false, false, false, false, false, false, false, false, false, false, false, false, false, false, false, false, false, false] rfl rfl (by kernel_rfl) (fun _ _ _ h => h) (Or.inl ⟨by rfl, ?_⟩) ?_ ?_
  rotate_left
  · intro w'
    go_simp
    with_reducible rfl
  rotate_left
  · simp only [Act.put, List.setIfInBounds_toArray, List.set_cons_zero, List.set_cons_succ, i64_w, i32_w]
    rfl
  refine pure_ (i := 18) (N := some 81) (v := ?_) (a' := ?_) #[true, true, true, true, true, true, true, true, true, true, true, true, true, true, true, true, true, true, true, false, false, false, false, false, false, false, false, false, false, false, false, false, false, false, false, false, false, false, false, false, false, false, false, false, false, false] rfl rfl (by kernel_rfl) (fun _ _ _ h => h) (Or.inl ⟨by rfl, ?_⟩) ?_ ?_
  rotate_left
  · intro w'
    go_simp
    with_reducible rfl
  rotate_left
  · simp only [Act.put, List.setIfInBounds_toArray, List.set_cons_zero, List.set_cons_succ, i64_w, i32_w]
    rfl
  refine rowL_ (i := 19) (N := some 82) #[true, true, true, true, true, true, true, true, true, true, true, true, true, true, true, true, true, true, true, true, false, false, false, false, false, false, false, false, false, false, false, false, false, false, false, false, false, false, false, false, false, false, false, false, false, false] rfl rfl (by kernel_rfl) 25 _ rfl (w7.heap.size) (C14 new1 (.slice A_m am.length c_m)) (fun _ _ _ h => h) (by rfl) (by rfl) _ _ _ (fun _ h => h.2.2.1) Try.underlying25 rfl i25 hHeld (a' := ?_) ?_ ?_
  rotate_left
  · simp only [Act.put, List.setIfInBounds_toArray, List.set_cons_zero, List.set_cons_succ, i64_w, i32_w]
    rfl
  refine rowL_ (i := 20) (N := some 83) #[true, true, true, true, true, true, true, true, true, true, true, true, true, true, true, true, true, true, true, true, true, false, false, false, false, false, false, false, false, false, false, false, false, false, false, false, false, false, false, false, false, false, false, false, false, false] rfl rfl (by kernel_rfl) 25 _ rfl (w9.heap.size) (C14 new1 (.slice A_r am.length c_r)) (fun _ _ _ h => h) (by rfl) (by rfl) _ _ _ (fun _ h => h.2.2.2.1) Try.underlying25 rfl i25 hHeld (a' := ?_) ?_ ?_
  rotate_left
  · simp only [Act.put, List.setIfInBounds_toArray, List.set_cons_zero, List.set_cons_succ, i64_w, i32_w]
    rfl
  refine one_ (i := 21) (N := some 84) #[true, true, true, true, true, true, true, true, true, true, true, true, true, true, true, true, true, true, true, true, true, true, false, false, false, false, false, false, false, false, false, false, false, false, false, false, false, false, false, false, false, false, false, false, false, false] rfl rfl (by kernel_rfl) (by decide) (fun K hK => ?_)
  (refine goes_ Try.func19 (by kernel_rfl) rfl #[.agg (C14 new1 (.slice A_m am.length c_m)), .agg (C14 new1 (.slice A_r am.length c_r))] (by rfl) rfl rfl (by (try simp only [List.map_toArray, List.map_cons, List.map_nil]); first | done | rfl) ?_; (with_reducible refine (Same_is new1 A_m c_m A_r c_r am _ _ _ (fG m) mc.out (fG r) rc.out).mono ?_); rintro e_ wq2 ⟨rfl, hb_⟩; refine ⟨_, rfl, ?_⟩; have HB_ : Aside0 (Below w.heap.size w wq2) := Aside0.mk (below_step (bG HB) hb_); have hzwq2 := hb_.size; (try simp at hzwq2); have on_ := Aside0.mk (box_below hb_ (eG on)); have oa_ := Aside0.mk (box_below hb_ (eG oa)); have ob_ := Aside0.mk (box_below hb_ (eG ob)); have oc_ := Aside0.mk (box_below hb_ (eG oc)); have od_ := Aside0.mk (box_below hb_ (eG od)); have HM_ := Aside0.mk (Kd.F_below (fG HM) hb_); clear HM; have HM := HM_; clear HM_; have m_ := Aside0.mk (Kd.F_below (fG m) hb_); clear m; have m := m_; clear m_; have r_ := Aside0.mk (Kd.F_below (fG r) hb_); clear r; have r := r_; clear r_; (try clear on onc onf onl); have on := on_; clear on_; obtain ⟨onc, onf, onl⟩ := cells_of on.out; (try clear oa oac oaf oal); have oa := oa_; clear oa_; obtain ⟨oac, oaf, oal⟩ := cells_of oa.out; (try clear ob obc obf obl); have ob := ob_; clear ob_; obtain ⟨obc, obf, obl⟩ := cells_of ob.out; (try clear oc occ ocf ocl); have oc := oc_; clear oc_; obtain ⟨occ, ocf, ocl⟩ := cells_of oc.out; (try clear od odc odf odl); have od := od_; clear od_; obtain ⟨odc, odf, odl⟩ := cells_of od.out; clear HB hb_; have HB := HB_; clear HB_)
  refine hK.out _ _ ⟨(eG oa), (eG ob), (eG oc), (eG od), (eG on)⟩ (fun hHeld => ?_)
  clear hK K
  refine norm_ (a' := ?_) ?_ ?_
  rotate_left
  · simp only [Act.put, List.setIfInBounds_toArray, List.set_cons_zero, List.set_cons_succ, i64_w, i32_w]
    rfl
  refine pure_ (i := 22) (N := some 85) (v := ?_) (a' := ?_) #[true, true, true, true, true, true, true, true, true, true, true, true, true, true, true, true, true, true, true, true, true, true, true, false, false, false, false, false, false, false, false, false, false, false, false, false, false, false, false, false, false, false, false, false, false, false] rfl rfl (by kernel_rfl) (fun _ _ _ h => h) (Or.inl ⟨by rfl, ?_⟩) ?_ ?_
  rotate_left
  · intro w'
    go_simp
    with_reducible rfl
  rotate_left
  · simp only [Act.put, List.setIfInBounds_toArray, List.set_cons_zero, List.set_cons_succ, i64_w, i32_w]
    rfl
  refine pure_ (i := 23) (N := some 86) (v := ?_) (a' := ?_) #[true, true, true, true, true, true, true, true, true, true, true, true, true, true, true, true, true, true, true, true, true, true, true, true, false, false, false, false, false, false, false, false, false, false, false, false, false, false, false, false, false, false, false, false, false, false] rfl rfl (by kernel_rfl) (fun _ _ _ h => h) (Or.inl ⟨by rfl, ?_⟩) ?_ ?_
  rotate_left
  · intro w'
    go_simp
    with_reducible rfl
  rotate_left
  · simp only [Act.put, List.setIfInBounds_toArray, List.set_cons_zero, List.set_cons_succ, i64_w, i32_w]
    rfl
  refine pure_ (i := 24) (N := some 87) (v := ?_) (a' := ?_) #[true, true, true, true, true, true, true, true, true, true, true, true, true, true, true, true, true, true, true, true, true, true, true, true, true, false, false, false, false, false, false, false, false, false, false, false, false, false, false, false, false, false, false, false, false, false] rfl rfl (by kernel_rfl) (fun _ _ _ h => h) (Or.inl ⟨by rfl, ?_⟩) ?_ ?_
  rotate_left
  · intro w'
    go_simp
    with_reducible rfl
  rotate_left
  · simp only [Act.put, List.setIfInBounds_toArray, List.set_cons_zero, List.set_cons_succ, i64_w, i32_w]
    rfl
  refine pure_ (i := 25) (N := some 88) (v := ?_) (a' := ?_) #[true, true, true, true, true, true, true, true, true, true, true, true, true, true, true, true, true, true, true, true, true, true, true, true, true, true, false, false, false, false, false, false, false, false, false, false, false, false, false, false, false, false, false, false, false, false] rfl rfl (by kernel_rfl) (fun _ _ _ h => h) (Or.inl ⟨by rfl, ?_⟩) ?_ ?_
  rotate_left
  · intro w'
    go_simp
    with_reducible rfl
  rotate_left
  · simp only [Act.put, List.setIfInBounds_toArray, List.set_cons_zero, List.set_cons_succ, i64_w, i32_w]
    rfl
  refine pure_ (i := 26) (N := some 89) (v := ?_) (a' := ?_) #[true, true, true, true, true, true, true, true, true, true, true, true, true, true, true, true, true, true, true, true, true, true, true, true, true, true, true, false, false, false, false, false, false, false, false, false, false, false, false, false, false, false, false, false, false, false] rfl rfl (by kernel_rfl) (fun _ _ _ h => h) (Or.inl ⟨by rfl, ?_⟩) ?_ ?_
  rotate_left
  · intro w'
    go_simp
    with_reducible rfl
  rotate_left
  · simp only [Act.put, List.setIfInBounds_toArray, List.set_cons_zero, List.set_cons_succ, i64_w, i32_w]
    rfl
  refine pure_ (i := 27) (N := some 90) (v := ?_) (a' := ?_) #[true, true, true, true, true, true, true, true, true, true, true, true, true, true, true, true, true, true, true, true, true, true, true, true, true, true, true, true, false, false, false, false, false, false, false, false, false, false, false, false, false, false, false, false, false, false] rfl rfl (by kernel_rfl) (fun _ _ _ h => h) (Or.inl ⟨by rfl, ?_⟩) ?_ ?_
  rotate_left
  · intro w'
    go_simp
    with_reducible rfl
  rotate_left
  · simp only [Act.put, List.setIfInBounds_toArray, List.set_cons_zero, List.set_cons_succ, i64_w, i32_w]
    rfl
  refine pure_ (i := 28) (N := some 91) (v := ?_) (a' := ?_) #[true, true, true, true, true, true, true, true, true, true, true, true, true, true, true, true, true, true, true, true, true, true, true, true, true, true, true, true, true, false, false, false, false, false, false, false, false, false, false, false, false, false, false, false, false, false] rfl rfl (by kernel_rfl) (fun _ _ _ h => h) (Or.inl ⟨by rfl, ?_⟩) ?_ ?_
  rotate_left
  · intro w'
    go_simp
    with_reducible rfl
  rotate_left
  · simp only [Act.put, List.setIfInBounds_toArray, List.set_cons_zero, List.set_cons_succ, i64_w, i32_w]
    rfl
  refine rowL_ (i := 29) (N := some 92) #[true, true, true, true, true, true, true, true, true, true, true, true, true, true, true, true, true, true, true, true, true, true, true, true, true, true, true, true, true, true, false, false, false, false, false, false, false, false, false, false, false, false, false, false, false, false] rfl rfl (by kernel_rfl) 25 _ rfl (w.heap.size) (C14 c (.slice A mac.length cap)) (fun _ _ _ h => h) (by rfl) (by rfl) _ _ _ (fun _ h => h.2.2.2.2) Try.underlying25 rfl i25 hHeld (a' := ?_) ?_ ?_
  rotate_left
  · simp only [Act.put, List.setIfInBounds_toArray, List.set_cons_zero, List.set_cons_succ, i64_w, i32_w]
    rfl
  refine rowL_ (i := 31) (N := some 94) #[true, true, true, true, true, true, true, true, true, true, true, true, true, true, true, true, true, true, true, true, true, true, true, true, true, true, true, true, true, true, false, true, false, false, false, false, false, false, false, false, false, false, false, false, false, false] rfl rfl (by kernel_rfl) 25 _ rfl (w.heap.size) (C14 c (.slice A mac.length cap)) (fun _ _ _ h => h) (by rfl) (by rfl) _ _ _ (fun _ h => h.2.2.2.2) Try.underlying25 rfl i25 hHeld (a' := ?_) ?_ ?_
  rotate_left
  · simp only [Act.put, List.setIfInBounds_toArray, List.set_cons_zero, List.set_cons_succ, i64_w, i32_w]
    rfl
  refine one_ (i := 30) (N := some 93) #[true, true, true, true, true, true, true, true, true, true, true, true, true, true, true, true, true, true, true, true, true, true, true, true, true, true, true, true, true, true, true, true, false, false, false, false, false, false, false, false, false, false, false, false, false, false] rfl rfl (by kernel_rfl) (by decide) (fun K hK => ?_)
  (refine goes_ Try.func9 (by kernel_rfl) rfl #[.agg (C14 c (.slice A mac.length cap))] (by rfl) rfl rfl (by (try simp only [List.map_toArray, List.map_cons, List.map_nil]); first | done | rfl) ?_; (with_reducible refine (Check_of k c A mac.length cap _ HK.out).mono ?_); rintro e_ wq3 ⟨rfl, hb_⟩; refine ⟨_, rfl, ?_⟩; have HB_ : Aside0 (Below w.heap.size w wq3) := Aside0.mk (below_step (bG HB) hb_); have hzwq3 := hb_.size; (try simp at hzwq3); have on_ := Aside0.mk (box_below hb_ (eG on)); have oa_ := Aside0.mk (box_below hb_ (eG oa)); have ob_ := Aside0.mk (box_below hb_ (eG ob)); have oc_ := Aside0.mk (box_below hb_ (eG oc)); have od_ := Aside0.mk (box_below hb_ (eG od)); have HM_ := Aside0.mk (Kd.F_below (fG HM) hb_); clear HM; have HM := HM_; clear HM_; have m_ := Aside0.mk (Kd.F_below (fG m) hb_); clear m; have m := m_; clear m_; have r_ := Aside0.mk (Kd.F_below (fG r) hb_); clear r; have r := r_; clear r_; (try clear on onc onf onl); have on := on_; clear on_; obtain ⟨onc, onf, onl⟩ := cells_of on.out; (try clear oa oac oaf oal); have oa := oa_; clear oa_; obtain ⟨oac, oaf, oal⟩ := cells_of oa.out; (try clear ob obc obf obl); have ob := ob_; clear ob_; obtain ⟨obc, obf, obl⟩ := cells_of ob.out; (try clear oc occ ocf ocl); have oc := oc_; clear oc_; obtain ⟨occ, ocf, ocl⟩ := cells_of oc.out; (try clear od odc odf odl); have od := od_; clear od_; obtain ⟨odc, odf, odl⟩ := cells_of od.out; clear HB hb_; have HB := HB_; clear HB_)
  refine hK.out _ _ ⟨(eG oa), (eG ob), (eG oc), (eG od), (eG on)⟩ (fun hHeld => ?_)
  clear hK K
  refine norm_ (a' := ?_) ?_ ?_
  rotate_left
  · simp only [Act.put, List.setIfInBounds_toArray, List.set_cons_zero, List.set_cons_succ, i64_w, i32_w]
    rfl
  refine one_ (i := 32) (N := some 95) #[true, true, true, true, true, true, true, true, true, true, true, true, true, true, true, true, true, true, true, true, true, true, true, true, true, true, true, true, true, true, true, true, true, false, false, false, false, false, false, false, false, false, false, false, false, false] rfl rfl (by kernel_rfl) (by decide) (fun K hK => ?_)
  (refine goes_ Try.func20 (by kernel_rfl) rfl #[.agg (C14 c (.slice A mac.length cap))] (by rfl) rfl rfl (by (try simp only [List.map_toArray, List.map_cons, List.map_nil]); first | done | rfl) ?_; (with_reducible refine (rCheck_of k c A mac.length cap _ H3.out H7.out HK.out).mono ?_); rintro e_ wq4 ⟨rfl, hb_⟩; refine ⟨_, rfl, ?_⟩; have HB_ : Aside0 (Below w.heap.size w wq4) := Aside0.mk (below_step (bG HB) hb_); have hzwq4 := hb_.size; (try simp at hzwq4); have on_ := Aside0.mk (box_below hb_ (eG on)); have oa_ := Aside0.mk (box_below hb_ (eG oa)); have ob_ := Aside0.mk (box_below hb_ (eG ob)); have oc_ := Aside0.mk (box_below hb_ (eG oc)); have od_ := Aside0.mk (box_below hb_ (eG od)); have HM_ := Aside0.mk (Kd.F_below (fG HM) hb_); clear HM; have HM := HM_; clear HM_; have m_ := Aside0.mk (Kd.F_below (fG m) hb_); clear m; have m := m_; clear m_; have r_ := Aside0.mk (Kd.F_below (fG r) hb_); clear r; have r := r_; clear r_; (try clear on onc onf onl); have on := on_; clear on_; obtain ⟨onc, onf, onl⟩ := cells_of on.out; (try clear oa oac oaf oal); have oa := oa_; clear oa_; obtain ⟨oac, oaf, oal⟩ := cells_of oa.out; (try clear ob obc obf obl); have ob := ob_; clear ob_; obtain ⟨obc, obf, obl⟩ := cells_of ob.out; (try clear oc occ ocf ocl); have oc := oc_; clear oc_; obtain ⟨occ, ocf, ocl⟩ := cells_of oc.out; (try clear od odc odf odl); have od := od_; clear od_; obtain ⟨odc, odf, odl⟩ := cells_of od.out; clear HB hb_; have HB := HB_; clear HB_)
  refine hK.out _ _ ⟨(eG oa), (eG ob), (eG oc), (eG od), (eG on)⟩ (fun hHeld => ?_)
  clear hK K
  refine norm_ (a' := ?_) ?_ ?_
  rotate_left
  · simp only [Act.put, List.setIfInBounds_toArray, List.set_cons_zero, List.set_cons_succ, i64_w, i32_w]
    rfl
  refine pure_ (i := 33) (N := some 96) (v := ?_) (a' := ?_) #[true, true, true, true, true, true, true, true, true, true, true, true, true, true, true, true, true, true, true, true, true, true, true, true, true, true, true, true, true, true, true, true, true, true, false, false, false, false, false, false, false, false, false, false, false, false] rfl rfl (by kernel_rfl) (fun _ _ _ h => h) (Or.inl ⟨by rfl, ?_⟩) ?_ ?_
  rotate_left
  · intro w'
    go_simp
    with_reducible rfl
  rotate_left
  · simp only [Act.put, List.setIfInBounds_toArray, List.set_cons_zero, List.set_cons_succ, i64_w, i32_w]
    rfl
  refine pure_ (i := 34) (N := some 97) (v := ?_) (a' := ?_) #[true, true, true, true, true, true, true, true, true, true, true, true, true, true, true, true, true, true, true, true, true, true, true, true, true, true, true, true, true, true, true, true, true, true, true, false, false, false, false, false, false, false, false, false, false, false] rfl rfl (by kernel_rfl) (fun _ _ _ h => h) (Or.inl ⟨by rfl, ?_⟩) ?_ ?_
  rotate_left
  · intro w'
    go_simp
    with_reducible rfl
  rotate_left
  · simp only [Act.put, List.setIfInBounds_toArray, List.set_cons_zero, List.set_cons_succ, i64_w, i32_w]
    rfl
  refine pure_ (i := 35) (N := some 98) (v := ?_) (a' := ?_) #[true, true, true, true, true, true, true, true, true, true, true, true, true, true, true, true, true, true, true, true, true, true, true, true, true, true, true, true, true, true, true, true, true, true, true, true, false, false, false, false, false, false, false, false, false, false] rfl rfl (by kernel_rfl) (fun _ _ _ h => h) (Or.inl ⟨by rfl, ?_⟩) ?_ ?_
  rotate_left
  · intro w'
    go_simp
    with_reducible rfl
  rotate_left
  · simp only [Act.put, List.setIfInBounds_toArray, List.set_cons_zero, List.set_cons_succ, i64_w, i32_w]
    rfl
  refine rowL_ (i := 36) (N := some 99) #[true, true, true, true, true, true, true, true, true, true, true, true, true, true, true, true, true, true, true, true, true, true, true, true, true, true, true, true, true, true, true, true, true, true, true, true, true, false, false, false, false, false, false, false, false, false] rfl rfl (by kernel_rfl) 25 _ rfl (w.heap.size) (C14 c (.slice A mac.length cap)) (fun _ _ _ h => h) (by rfl) (by rfl) _ _ _ (fun _ h => h.2.2.2.2) Try.underlying25 rfl i25 hHeld (a' := ?_) ?_ ?_
  rotate_left
  · simp only [Act.put, List.setIfInBounds_toArray, List.set_cons_zero, List.set_cons_succ, i64_w, i32_w]
    rfl
  refine rowL_ (i := 38) (N := some 101) #[true, true, true, true, true, true, true, true, true, true, true, true, true, true, true, true, true, true, true, true, true, true, true, true, true, true, true, true, true, true, true, true, true, true, true, true, true, false, true, false, false, false, false, false, false, false] rfl rfl (by kernel_rfl) 25 _ rfl (w.heap.size) (C14 c (.slice A mac.length cap)) (fun _ _ _ h => h) (by rfl) (by rfl) _ _ _ (fun _ h => h.2.2.2.2) Try.underlying25 rfl i25 hHeld (a' := ?_) ?_ ?_
  rotate_left
  · simp only [Act.put, List.setIfInBounds_toArray, List.set_cons_zero, List.set_cons_succ, i64_w, i32_w]
    rfl
  refine one_ (i := 37) (N := some 100) #[true, true, true, true, true, true, true, true, true, true, true, true, true, true, true, true, true, true, true, true, true, true, true, true, true, true, true, true, true, true, true, true, true, true, true, true, true, true, true, false, false, false, false, false, false, false] rfl rfl (by kernel_rfl) (by decide) (fun K hK => ?_)
  (refine goes_ Try.func21 (by kernel_rfl) rfl #[.agg (C14 c (.slice A mac.length cap))] (by rfl) rfl rfl (by (try simp only [List.map_toArray, List.map_cons, List.map_nil]); first | done | rfl) ?_; (with_reducible refine (Line_of n c A mac.length cap _ HN.out).mono ?_); rintro e_ wq5 ⟨rfl, hb_⟩; refine ⟨_, rfl, ?_⟩; have HB_ : Aside0 (Below w.heap.size w wq5) := Aside0.mk (below_step (bG HB) hb_); have hzwq5 := hb_.size; (try simp at hzwq5); have on_ := Aside0.mk (box_below hb_ (eG on)); have oa_ := Aside0.mk (box_below hb_ (eG oa)); have ob_ := Aside0.mk (box_below hb_ (eG ob)); have oc_ := Aside0.mk (box_below hb_ (eG oc)); have od_ := Aside0.mk (box_below hb_ (eG od)); have HM_ := Aside0.mk (Kd.F_below (fG HM) hb_); clear HM; have HM := HM_; clear HM_; have m_ := Aside0.mk (Kd.F_below (fG m) hb_); clear m; have m := m_; clear m_; have r_ := Aside0.mk (Kd.F_below (fG r) hb_); clear r; have r := r_; clear r_; (try clear on onc onf onl); have on := on_; clear on_; obtain ⟨onc, onf, onl⟩ := cells_of on.out; (try clear oa oac oaf oal); have oa := oa_; clear oa_; obtain ⟨oac, oaf, oal⟩ := cells_of oa.out; (try clear ob obc obf obl); have ob := ob_; clear ob_; obtain ⟨obc, obf, obl⟩ := cells_of ob.out; (try clear oc occ ocf ocl); have oc := oc_; clear oc_; obtain ⟨occ, ocf, ocl⟩ := cells_of oc.out; (try clear od odc odf odl); have od := od_; clear od_; obtain ⟨odc, odf, odl⟩ := cells_of od.out; clear HB hb_; have HB := HB_; clear HB_)
  refine hK.out _ _ ⟨(eG oa), (eG ob), (eG oc), (eG od), (eG on)⟩ (fun hHeld => ?_)
  clear hK K
  refine norm_ (a' := ?_) ?_ ?_
  rotate_left
  · simp only [Act.put, List.setIfInBounds_toArray, List.set_cons_zero, List.set_cons_succ, i64_w, i32_w]
    rfl
  refine one_ (i := 39) (N := some 102) #[true, true, true, true, true, true, true, true, true, true, true, true, true, true, true, true, true, true, true, true, true, true, true, true, true, true, true, true, true, true, true, true, true, true, true, true, true, true, true, true, false, false, false, false, false, false] rfl rfl (by kernel_rfl) (by decide) (fun K hK => ?_)
  (refine goes_ Try.func22 (by kernel_rfl) rfl #[.agg (C14 c (.slice A mac.length cap))] (by rfl) rfl rfl (by (try simp only [List.map_toArray, List.map_cons, List.map_nil]); first | done | rfl) ?_; (with_reducible refine (RLine_is c A mac.length cap _ H3.out H7.out n HN.out).mono ?_); rintro e_ wq6 ⟨rfl, hb_⟩; refine ⟨_, rfl, ?_⟩; have HB_ : Aside0 (Below w.heap.size w wq6) := Aside0.mk (below_step (bG HB) hb_); have hzwq6 := hb_.size; (try simp at hzwq6); have on_ := Aside0.mk (box_below hb_ (eG on)); have oa_ := Aside0.mk (box_below hb_ (eG oa)); have ob_ := Aside0.mk (box_below hb_ (eG ob)); have oc_ := Aside0.mk (box_below hb_ (eG oc)); have od_ := Aside0.mk (box_below hb_ (eG od)); have HM_ := Aside0.mk (Kd.F_below (fG HM) hb_); clear HM; have HM := HM_; clear HM_; have m_ := Aside0.mk (Kd.F_below (fG m) hb_); clear m; have m := m_; clear m_; have r_ := Aside0.mk (Kd.F_below (fG r) hb_); clear r; have r := r_; clear r_; (try clear on onc onf onl); have on := on_; clear on_; obtain ⟨onc, onf, onl⟩ := cells_of on.out; (try clear oa oac oaf oal); have oa := oa_; clear oa_; obtain ⟨oac, oaf, oal⟩ := cells_of oa.out; (try clear ob obc obf obl); have ob := ob_; clear ob_; obtain ⟨obc, obf, obl⟩ := cells_of ob.out; (try clear oc occ ocf ocl); have oc := oc_; clear oc_; obtain ⟨occ, ocf, ocl⟩ := cells_of oc.out; (try clear od odc odf odl); have od := od_; clear od_; obtain ⟨odc, odf, odl⟩ := cells_of od.out; clear HB hb_; have HB := HB_; clear HB_)
  refine hK.out _ _ ⟨(eG oa), (eG ob), (eG oc), (eG od), (eG on)⟩ (fun hHeld => ?_)
  clear hK K
  refine norm_ (a' := ?_) ?_ ?_
  rotate_left
  · simp only [Act.put, List.setIfInBounds_toArray, List.set_cons_zero, List.set_cons_succ, i64_w, i32_w]
    rfl
  refine pure_ (i := 40) (N := some 103) (v := ?_) (a' := ?_) #[true, true, true, true, true, true, true, true, true, true, true, true, true, true, true, true, true, true, true, true, true, true, true, true, true, true, true, true, true, true, true, true, true, true, true, true, true, true, true, true, true, false, false, false, false, false] rfl rfl (by kernel_rfl) (fun _ _ _ h => h) (Or.inl ⟨by rfl, ?_⟩) ?_ ?_
  rotate_left
  · intro w'
    go_simp
    with_reducible rfl
  rotate_left
  · simp only [Act.put, List.setIfInBounds_toArray, List.set_cons_zero, List.set_cons_succ, i64_w, i32_w]
    rfl
  refine pure_ (i := 41) (N := some 104) (v := ?_) (a' := ?_) #[true, true, true, true, true, true, true, true, true, true, true, true, true, true, true, true, true, true, true, true, true, true, true, true, true, true, true, true, true, true, true, true, true, true, true, true, true, true, true, true, true, true, false, false, false, false] rfl rfl (by kernel_rfl) (fun _ _ _ h => h) (Or.inl ⟨by rfl, ?_⟩) ?_ ?_
  rotate_left
  · intro w'
    go_simp
    with_reducible rfl
  rotate_left
  · simp only [Act.put, List.setIfInBounds_toArray, List.set_cons_zero, List.set_cons_succ, i64_w, i32_w]
    rfl
  refine pure_ (i := 42) (N := some 105) (v := ?_) (a' := ?_) #[true, true, true, true, true, true, true, true, true, true, true, true, true, true, true, true, true, true, true, true, true, true, true, true, true, true, true, true, true, true, true, true, true, true, true, true, true, true, true, true, true, true, true, false, false, false] rfl rfl (by kernel_rfl) (fun _ _ _ h => h) (Or.inl ⟨by rfl, ?_⟩) ?_ ?_
  rotate_left
  · intro w'
    go_simp
    with_reducible rfl
  rotate_left
  · simp only [Act.put, List.setIfInBounds_toArray, List.set_cons_zero, List.set_cons_succ, i64_w, i32_w]
    rfl
  refine one_ (i := 43) (N := some 106) #[true, true, true, true, true, true, true, true, true, true, true, true, true, true, true, true, true, true, true, true, true, true, true, true, true, true, true, true, true, true, true, true, true, true, true, true, true, true, true, true, true, true, true, true, false, false] rfl rfl (by kernel_rfl) (by decide) (fun K hK => ?_)
  (refine goes_ Try.func10 (by kernel_rfl) rfl #[] (by rfl) rfl rfl (by (try simp only [List.map_toArray, List.map_cons, List.map_nil]); first | done | rfl) ?_; (with_reducible refine (heads_is _).mono ?_); rintro e_ wq7 ⟨rfl, hb_⟩; refine ⟨_, rfl, ?_⟩; have HB_ : Aside0 (Below w.heap.size w wq7) := Aside0.mk (below_step (bG HB) hb_); have hzwq7 := hb_.size; (try simp at hzwq7); have on_ := Aside0.mk (box_below hb_ (eG on)); have oa_ := Aside0.mk (box_below hb_ (eG oa)); have ob_ := Aside0.mk (box_below hb_ (eG ob)); have oc_ := Aside0.mk (box_below hb_ (eG oc)); have od_ := Aside0.mk (box_below hb_ (eG od)); have HM_ := Aside0.mk (Kd.F_below (fG HM) hb_); clear HM; have HM := HM_; clear HM_; have m_ := Aside0.mk (Kd.F_below (fG m) hb_); clear m; have m := m_; clear m_; have r_ := Aside0.mk (Kd.F_below (fG r) hb_); clear r; have r := r_; clear r_; (try clear on onc onf onl); have on := on_; clear on_; obtain ⟨onc, onf, onl⟩ := cells_of on.out; (try clear oa oac oaf oal); have oa := oa_; clear oa_; obtain ⟨oac, oaf, oal⟩ := cells_of oa.out; (try clear ob obc obf obl); have ob := ob_; clear ob_; obtain ⟨obc, obf, obl⟩ := cells_of ob.out; (try clear oc occ ocf ocl); have oc := oc_; clear oc_; obtain ⟨occ, ocf, ocl⟩ := cells_of oc.out; (try clear od odc odf odl); have od := od_; clear od_; obtain ⟨odc, odf, odl⟩ := cells_of od.out; clear HB hb_; have HB := HB_; clear HB_)
  refine hK.out _ _ ⟨(eG oa), (eG ob), (eG oc), (eG od), (eG on)⟩ (fun hHeld => ?_)
  clear hK K
  refine norm_ (a' := ?_) ?_ ?_
  rotate_left
  · simp only [Act.put, List.setIfInBounds_toArray, List.set_cons_zero, List.set_cons_succ, i64_w, i32_w]
    rfl
  refine pure_ (i := 44) (N := some 107) (v := ?_) (a' := ?_) #[true, true, true, true, true, true, true, true, true, true, true, true, true, true, true, true, true, true, true, true, true, true, true, true, true, true, true, true, true, true, true, true, true, true, true, true, true, true, true, true, true, true, true, true, true, false] rfl rfl (by kernel_rfl) (fun _ _ _ h => h) (Or.inl ⟨by rfl, ?_⟩) ?_ ?_
  rotate_left
  · intro w'
    go_simp
    with_reducible rfl
  rotate_left
  · simp only [Act.put, List.setIfInBounds_toArray, List.set_cons_zero, List.set_cons_succ, i64_w, i32_w]
    rfl
  refine pure_ (i := 45) (N := some 10) (v := ?_) (a' := ?_) #[true, true, true, true, true, true, true, true, true, true, true, true, true, true, true, true, true, true, true, true, true, true, true, true, true, true, true, true, true, true, true, true, true, true, true, true, true, true, true, true, true, true, true, true, true, true] rfl rfl (by kernel_rfl) (fun _ _ _ h => h) (Or.inl ⟨by rfl, ?_⟩) ?_ ?_
  rotate_left
  · intro w'
    go_simp
    with_reducible rfl
  rotate_left
  · simp only [Act.put, List.setIfInBounds_toArray, List.set_cons_zero, List.set_cons_succ, i64_w, i32_w]
    rfl
  refine done_ (by kernel_rfl) ?_
  go_wp2
  go_ret
  exact ⟨rfl, HB.out⟩
set_option maxHeartbeats 1600000 in
set_option maxRecDepth 100000 in
theorem loads_no (A : Option Addr) (cap : Nat) (mac : List Int) (A4 : Option Addr) (c4 : Nat) (am : List Int) (c : Nat → Int) (off size x : Int) (w : World) (okm oka : Nat → Prop) (hm : Kd.F (Kd.int .u8) w okm A mac.length mac) (hmc : mac.length ≤ cap) (ha : Kd.F (Kd.int .u8) w oka A4 am.length am) (hac : am.length ≤ c4) (hmb : ∀ z ∈ mac, byte z) (h0 : 0 ≤ off) (h64 : off < 18446744073709551616) (h3 : 0 ≤ c 3) (h7 : 0 ≤ c 7) (hx0 : 0 ≤ x) (hx1 : x < 18446744073709551616) (h6 : ((am.length : Int) != 6) = true) :
    Calls Try.prog 4 #[.agg (C14 c (.slice A mac.length cap)), .int .u64 off, .int .i64 size, .int .u64 x, .slice A4 am.length c4] w fun e w' => e = .returned (.bool true) ∧ Below w.heap.size w w' := by
  have HB := Aside0.mk (Below.refl w.heap.size w)
  have HM := Aside0.mk (Kd.F_bound hm)
  have HQ := Aside0.mk (Kd.F_bound ha)
  have HMC := Aside0.mk hmc
  have HQC := Aside0.mk hac
  have HMB := Aside0.mk hmb
  have H0 := Aside0.mk h0
  have H64 := Aside0.mk h64
  have H3 := Aside0.mk h3
  have H7 := Aside0.mk h7
  have HX0 := Aside0.mk hx0
  have HX1 := Aside0.mk hx1
  have hu := Try.underlying25
  obtain ⟨k, hk⟩ : ∃ k, okC c mac.length = k := ⟨_, rfl⟩
  obtain ⟨f, hf⟩ : ∃ b, refuseZ c mac.length off size = b := ⟨_, rfl⟩
  obtain ⟨V, hV⟩ : ∃ V, (if f then (0 : Int) else loadV c mac off) = V := ⟨_, rfl⟩
  obtain ⟨b, hb⟩ : ∃ b, (!f) = b := ⟨_, rfl⟩
  obtain ⟨d, hd⟩ : ∃ d, storeZ c mac.length off size x = d := ⟨_, rfl⟩
  obtain ⟨n, hn⟩ : ∃ b, lineZ c mac.length = b := ⟨_, rfl⟩
  have HL1 : Aside0 (∀ (w : World) (ok : Nat → Prop), Kd.F (Kd.int .u8) w ok A mac.length mac → Calls Try.prog 13 #[.agg (C14 c (.slice A mac.length cap)), .int .u64 off, .int .i64 size] w fun e w' => e = .returned (.tuple #[.int .u64 V, .bool b]) ∧ Below w.heap.size w w') := ⟨fun w ok h => by rw [← hV, ← hb]; exact Load_is A cap mac c off size w ok h hmc hmb h0 h64 _ _ rfl hf⟩
  have HL2 : Aside0 (∀ (w : World) (ok : Nat → Prop), Kd.F (Kd.int .u8) w ok A mac.length mac → Calls Try.prog 14 #[.agg (C14 c (.slice A mac.length cap)), .int .u64 off, .int .i64 size] w fun e w' => e = .returned (.tuple #[.int .u64 V, .bool b]) ∧ Below w.heap.size w w') := ⟨fun w ok h => by rw [← hV, ← hb]; exact RLoad_is A cap mac c off size w ok h hmc hmb h0 h64 h3 h7 _ hf⟩
  have HD := Aside0.mk hd
  have HF : Aside0 ((!refuseZ c mac.length off size) = b) := ⟨by rw [hf, hb]⟩
  have HK := Aside0.mk hk
  have HN := Aside0.mk hn
  clear hm ha hmc hac hmb h0 h64 h3 h7 hx0 hx1 hk hf hV hb hd hn
  go_enter Try.func4, Try.ntmps4
  go_upto_region 1 with fail
  obtain ⟨wa, hwa, on0, hb_, hz0⟩ := letter1 w (.cells (C14 c (.slice A mac.length cap)) 25 (0, 0))
  rw [hwa]
  clear hwa
  have hzwa := Nat.le_of_eq hz0.symm
  clear hz0
  have on := Aside0.mk on0
  clear on0
  obtain ⟨onc, onf, onl⟩ := cells_of on.out
  have HB_ : Aside0 (Below w.heap.size w wa) := ⟨hb_⟩
  have HM_ := Aside0.mk (Kd.F_below HM.out hb_)
  clear HM
  have HM := HM_
  clear HM_
  have HQ_ := Aside0.mk (Kd.F_below HQ.out hb_)
  clear HQ
  have HQ := HQ_
  clear HQ_
  clear HB hb_
  have HB := HB_
  clear HB_
  go_wp2_with (first | ((with_reducible refine gate_dst (N := 24) rfl ?_); (try (refine gate_guard (by rfl) ?_; dsimp only)); refine wpList_load_row rfl 25 _ rfl _ (by rfl) _ (C14 c (.slice A mac.length cap)) _ _ (eG on) Try.underlying25 rfl i25 ?_))
  (go_at_call 13; (with_reducible refine (HL1.out _ _ (fG HM)).mono ?_); rintro e_ w1 ⟨rfl, hb_⟩; have HB_ : Aside0 (Below w.heap.size w w1) := Aside0.mk (below_step (bG HB) hb_); have hzw1 := hb_.size; (try simp at hzw1); have on_ := Aside0.mk (box_below hb_ (eG on)); have HM_ := Aside0.mk (Kd.F_below (fG HM) hb_); clear HM; have HM := HM_; clear HM_; have HQ_ := Aside0.mk (Kd.F_below (fG HQ) hb_); clear HQ; have HQ := HQ_; clear HQ_; (try clear on onc onf onl); have on := on_; clear on_; obtain ⟨onc, onf, onl⟩ := cells_of on.out; clear HB hb_; have HB := HB_; clear HB_)
  go_wp2_with (first | ((with_reducible refine gate_dst (N := 31) rfl ?_); (try (refine gate_guard (by rfl) ?_; dsimp only)); refine wpList_load_row rfl 25 _ rfl _ (by rfl) _ (C14 c (.slice A mac.length cap)) _ _ (eG on) Try.underlying25 rfl i25 ?_))
  (go_at_call 14; (with_reducible refine (HL2.out _ _ (fG HM)).mono ?_); rintro e_ w2 ⟨rfl, hb_⟩; have HB_ : Aside0 (Below w.heap.size w w2) := Aside0.mk (below_step (bG HB) hb_); have hzw2 := hb_.size; (try simp at hzw2); have on_ := Aside0.mk (box_below hb_ (eG on)); have HM_ := Aside0.mk (Kd.F_below (fG HM) hb_); clear HM; have HM := HM_; clear HM_; have HQ_ := Aside0.mk (Kd.F_below (fG HQ) hb_); clear HQ; have HQ := HQ_; clear HQ_; (try clear on onc onf onl); have on := on_; clear on_; obtain ⟨onc, onf, onl⟩ := cells_of on.out; clear HB hb_; have HB := HB_; clear HB_)
  go_wp2_with (first | ((with_reducible refine gate_dst (N := 38) rfl ?_); (try (refine gate_guard (by rfl) ?_; dsimp only)); refine wpList_load_row rfl 25 _ rfl _ (by rfl) _ (C14 c (.slice A mac.length cap)) _ _ (eG on) Try.underlying25 rfl i25 ?_))
  (go_at_call 15; (with_reducible refine (Store_of d b A cap mac c off size x _ _ (fG HM) HMC.out HMB.out H0.out H64.out HD.out HF.out).mono ?_); rintro e_ w3 ⟨rfl, hb_⟩; have HB_ : Aside0 (Below w.heap.size w w3) := Aside0.mk (below_step (bG HB) hb_); have hzw3 := hb_.size; (try simp at hzw3); have on_ := Aside0.mk (box_below hb_ (eG on)); have HM_ := Aside0.mk (Kd.F_below (fG HM) hb_); clear HM; have HM := HM_; clear HM_; have HQ_ := Aside0.mk (Kd.F_below (fG HQ) hb_); clear HQ; have HQ := HQ_; clear HQ_; (try clear on onc onf onl); have on := on_; clear on_; obtain ⟨onc, onf, onl⟩ := cells_of on.out; clear HB hb_; have HB := HB_; clear HB_)
  go_wp2_with (first | ((with_reducible refine gate_store (t := 25) (p := 15) (v := .tmp 43) rfl ?_); refine wpList_store_all rfl 25 _ _ rfl rfl _ (C14 d (.slice A mac.length cap)) (by rfl) (by rfl) _ _ (nb_1 _ _) rfl i25 (C14_one _ _ _ _) ?_; rintro w4 ⟨hx_, hk_, hb_, hzz_⟩; have HB_ : Aside0 (Below w.heap.size w w4) := Aside0.mk (Below.trans (bG HB) (Below.mono hb_ (by first | omega | (simp only [sz_alloc, sz_drew, sz_drewN]; omega)))); have hzw4 := Nat.le_of_eq hzz_.symm; (try simp at hzw4); clear hzz_; have on_ := Aside0.mk (st_put on.out hk_ (fun h_ => (by repeat (with_reducible first | exact h_ | apply ext_drew | apply ext_drewN | apply ext_alloc | refine blk_far ?_ (by show _ ≠ _; dsimp only; omega) _))) (by omega)); clear on onc onf onl; have on := on_; clear on_; obtain ⟨onc, onf, onl⟩ := cells_of on.out; have HM_ := Aside0.mk (Kd.F_step (fG HM) (fun j_ hj_ hl_ => hk_ j_ (by (try dsimp only at hj_); (try simp only [sz_alloc, sz_drew, sz_drewN, sz_set] at hj_); omega))); clear HM; have HM := HM_; clear HM_; have HQ_ := Aside0.mk (Kd.F_step (fG HQ) (fun j_ hj_ hl_ => hk_ j_ (by (try dsimp only at hj_); (try simp only [sz_alloc, sz_drew, sz_drewN, sz_set] at hj_); omega))); clear HQ; have HQ := HQ_; clear HQ_; (try clear oa oac oaf oal); have oa := Aside0.mk hx_; obtain ⟨oac, oaf, oal⟩ := cells_of oa.out; clear HB hb_ hk_ hx_; have HB := HB_; clear HB_) | ((with_reducible refine gate_dst (N := 46) rfl ?_); (try (refine gate_guard (by rfl) ?_; dsimp only)); refine wpList_load_row rfl 25 _ rfl _ (by rfl) _ (C14 c (.slice A mac.length cap)) _ _ (eG on) Try.underlying25 rfl i25 ?_))
  (go_at_call 16; (with_reducible refine (RStore_is A cap mac c off size x _ _ (fG HM) HMC.out HMB.out H0.out H64.out H3.out H7.out HX0.out HX1.out d b HD.out HF.out).mono ?_); rintro e_ w5 ⟨rfl, hb_⟩; have HB_ : Aside0 (Below w.heap.size w w5) := Aside0.mk (below_step (bG HB) hb_); have hzw5 := hb_.size; (try simp at hzw5); have on_ := Aside0.mk (box_below hb_ (eG on)); have oa_ := Aside0.mk (box_below hb_ (eG oa)); have HM_ := Aside0.mk (Kd.F_below (fG HM) hb_); clear HM; have HM := HM_; clear HM_; have HQ_ := Aside0.mk (Kd.F_below (fG HQ) hb_); clear HQ; have HQ := HQ_; clear HQ_; (try clear on onc onf onl); have on := on_; clear on_; obtain ⟨onc, onf, onl⟩ := cells_of on.out; (try clear oa oac oaf oal); have oa := oa_; clear oa_; obtain ⟨oac, oaf, oal⟩ := cells_of oa.out; clear HB hb_; have HB := HB_; clear HB_)
  go_wp2_with (first | ((with_reducible refine gate_store (t := 25) (p := 17) (v := .tmp 51) rfl ?_); refine wpList_store_all rfl 25 _ _ rfl rfl _ (C14 d (.slice A mac.length cap)) (by rfl) (by rfl) _ _ (nb_1 _ _) rfl i25 (C14_one _ _ _ _) ?_; rintro w6 ⟨hx_, hk_, hb_, hzz_⟩; have HB_ : Aside0 (Below w.heap.size w w6) := Aside0.mk (Below.trans (bG HB) (Below.mono hb_ (by first | omega | (simp only [sz_alloc, sz_drew, sz_drewN]; omega)))); have hzw6 := Nat.le_of_eq hzz_.symm; (try simp at hzw6); clear hzz_; have on_ := Aside0.mk (st_put on.out hk_ (fun h_ => (by repeat (with_reducible first | exact h_ | apply ext_drew | apply ext_drewN | apply ext_alloc | refine blk_far ?_ (by show _ ≠ _; dsimp only; omega) _))) (by omega)); clear on onc onf onl; have on := on_; clear on_; obtain ⟨onc, onf, onl⟩ := cells_of on.out; have oa_ := Aside0.mk (st_put oa.out hk_ (fun h_ => (by repeat (with_reducible first | exact h_ | apply ext_drew | apply ext_drewN | apply ext_alloc | refine blk_far ?_ (by show _ ≠ _; dsimp only; omega) _))) (by omega)); clear oa oac oaf oal; have oa := oa_; clear oa_; obtain ⟨oac, oaf, oal⟩ := cells_of oa.out; have HM_ := Aside0.mk (Kd.F_step (fG HM) (fun j_ hj_ hl_ => hk_ j_ (by (try dsimp only at hj_); (try simp only [sz_alloc, sz_drew, sz_drewN, sz_set] at hj_); omega))); clear HM; have HM := HM_; clear HM_; have HQ_ := Aside0.mk (Kd.F_step (fG HQ) (fun j_ hj_ hl_ => hk_ j_ (by (try dsimp only at hj_); (try simp only [sz_alloc, sz_drew, sz_drewN, sz_set] at hj_); omega))); clear HQ; have HQ := HQ_; clear HQ_; (try clear ob obc obf obl); have ob := Aside0.mk hx_; obtain ⟨obc, obf, obl⟩ := cells_of ob.out; clear HB hb_ hk_ hx_; have HB := HB_; clear HB_))
  (go_at_call 17; (with_reducible refine (New_no A4 c4 am _ h6).mono ?_); rintro e_ w7 ⟨rfl, hb_⟩; have HB_ : Aside0 (Below w.heap.size w w7) := Aside0.mk (below_step (bG HB) hb_); have hzw7 := hb_.size; (try simp at hzw7); have on_ := Aside0.mk (box_below hb_ (eG on)); have oa_ := Aside0.mk (box_below hb_ (eG oa)); have ob_ := Aside0.mk (box_below hb_ (eG ob)); have HM_ := Aside0.mk (Kd.F_below (fG HM) hb_); clear HM; have HM := HM_; clear HM_; have HQ_ := Aside0.mk (Kd.F_below (fG HQ) hb_); clear HQ; have HQ := HQ_; clear HQ_; (try clear on onc onf onl); have on := on_; clear on_; obtain ⟨onc, onf, onl⟩ := cells_of on.out; (try clear oa oac oaf oal); have oa := oa_; clear oa_; obtain ⟨oac, oaf, oal⟩ := cells_of oa.out; (try clear ob obc obf obl); have ob := ob_; clear ob_; obtain ⟨obc, obf, obl⟩ := cells_of ob.out; clear HB hb_; have HB := HB_; clear HB_)
  go_wp2_with (first | ((with_reducible refine gate_store (t := 25) (p := 19) (v := .tmp 56) rfl ?_); refine wpList_store_all rfl 25 _ _ rfl rfl _ (C14 new0 (.slice none 0 0)) (by rfl) (by rfl) _ _ (nb_1 _ _) rfl i25 (C14_one _ _ _ _) ?_; rintro w8 ⟨hx_, hk_, hb_, hzz_⟩; have HB_ : Aside0 (Below w.heap.size w w8) := Aside0.mk (Below.trans (bG HB) (Below.mono hb_ (by first | omega | (simp only [sz_alloc, sz_drew, sz_drewN]; omega)))); have hzw8 := Nat.le_of_eq hzz_.symm; (try simp at hzw8); clear hzz_; have on_ := Aside0.mk (st_put on.out hk_ (fun h_ => (by repeat (with_reducible first | exact h_ | apply ext_drew | apply ext_drewN | apply ext_alloc | refine blk_far ?_ (by show _ ≠ _; dsimp only; omega) _))) (by omega)); clear on onc onf onl; have on := on_; clear on_; obtain ⟨onc, onf, onl⟩ := cells_of on.out; have oa_ := Aside0.mk (st_put oa.out hk_ (fun h_ => (by repeat (with_reducible first | exact h_ | apply ext_drew | apply ext_drewN | apply ext_alloc | refine blk_far ?_ (by show _ ≠ _; dsimp only; omega) _))) (by omega)); clear oa oac oaf oal; have oa := oa_; clear oa_; obtain ⟨oac, oaf, oal⟩ := cells_of oa.out; have ob_ := Aside0.mk (st_put ob.out hk_ (fun h_ => (by repeat (with_reducible first | exact h_ | apply ext_drew | apply ext_drewN | apply ext_alloc | refine blk_far ?_ (by show _ ≠ _; dsimp only; omega) _))) (by omega)); clear ob obc obf obl; have ob := ob_; clear ob_; obtain ⟨obc, obf, obl⟩ := cells_of ob.out; have HM_ := Aside0.mk (Kd.F_step (fG HM) (fun j_ hj_ hl_ => hk_ j_ (by (try dsimp only at hj_); (try simp only [sz_alloc, sz_drew, sz_drewN, sz_set] at hj_); omega))); clear HM; have HM := HM_; clear HM_; have HQ_ := Aside0.mk (Kd.F_step (fG HQ) (fun j_ hj_ hl_ => hk_ j_ (by (try dsimp only at hj_); (try simp only [sz_alloc, sz_drew, sz_drewN, sz_set] at hj_); omega))); clear HQ; have HQ := HQ_; clear HQ_; (try clear oc occ ocf ocl); have oc := Aside0.mk hx_; obtain ⟨occ, ocf, ocl⟩ := cells_of oc.out; clear HB hb_ hk_ hx_; have HB := HB_; clear HB_))
  (go_at_call 18; (with_reducible refine (RNew_no A4 c4 am _ h6).mono ?_); rintro e_ w9 ⟨rfl, hb_⟩; have HB_ : Aside0 (Below w.heap.size w w9) := Aside0.mk (below_step (bG HB) hb_); have hzw9 := hb_.size; (try simp at hzw9); have on_ := Aside0.mk (box_below hb_ (eG on)); have oa_ := Aside0.mk (box_below hb_ (eG oa)); have ob_ := Aside0.mk (box_below hb_ (eG ob)); have oc_ := Aside0.mk (box_below hb_ (eG oc)); have HM_ := Aside0.mk (Kd.F_below (fG HM) hb_); clear HM; have HM := HM_; clear HM_; (try clear on onc onf onl); have on := on_; clear on_; obtain ⟨onc, onf, onl⟩ := cells_of on.out; (try clear oa oac oaf oal); have oa := oa_; clear oa_; obtain ⟨oac, oaf, oal⟩ := cells_of oa.out; (try clear ob obc obf obl); have ob := ob_; clear ob_; obtain ⟨obc, obf, obl⟩ := cells_of ob.out; (try clear oc occ ocf ocl); have oc := oc_; clear oc_; obtain ⟨occ, ocf, ocl⟩ := cells_of oc.out; clear HB hb_; have HB := HB_; clear HB_)
  go_upto_region 7 with (first | ((with_reducible refine gate_store (t := 25) (p := 21) (v := .tmp 61) rfl ?_); refine wpList_store_all rfl 25 _ _ rfl rfl _ (C14 new0 (.slice none 0 0)) (by rfl) (by rfl) _ _ (nb_1 _ _) rfl i25 (C14_one _ _ _ _) ?_; rintro w10 ⟨hx_, hk_, hb_, hzz_⟩; have HB_ : Aside0 (Below w.heap.size w w10) := Aside0.mk (Below.trans (bG HB) (Below.mono hb_ (by first | omega | (simp only [sz_alloc, sz_drew, sz_drewN]; omega)))); have hzw10 := Nat.le_of_eq hzz_.symm; (try simp at hzw10); clear hzz_; have on_ := Aside0.mk (st_put on.out hk_ (fun h_ => (by repeat (with_reducible first | exact h_ | apply ext_drew | apply ext_drewN | apply ext_alloc | refine blk_far ?_ (by show _ ≠ _; dsimp only; omega) _))) (by omega)); clear on onc onf onl; have on := on_; clear on_; obtain ⟨onc, onf, onl⟩ := cells_of on.out; have oa_ := Aside0.mk (st_put oa.out hk_ (fun h_ => (by repeat (with_reducible first | exact h_ | apply ext_drew | apply ext_drewN | apply ext_alloc | refine blk_far ?_ (by show _ ≠ _; dsimp only; omega) _))) (by omega)); clear oa oac oaf oal; have oa := oa_; clear oa_; obtain ⟨oac, oaf, oal⟩ := cells_of oa.out; have ob_ := Aside0.mk (st_put ob.out hk_ (fun h_ => (by repeat (with_reducible first | exact h_ | apply ext_drew | apply ext_drewN | apply ext_alloc | refine blk_far ?_ (by show _ ≠ _; dsimp only; omega) _))) (by omega)); clear ob obc obf obl; have ob := ob_; clear ob_; obtain ⟨obc, obf, obl⟩ := cells_of ob.out; have oc_ := Aside0.mk (st_put oc.out hk_ (fun h_ => (by repeat (with_reducible first | exact h_ | apply ext_drew | apply ext_drewN | apply ext_alloc | refine blk_far ?_ (by show _ ≠ _; dsimp only; omega) _))) (by omega)); clear oc occ ocf ocl; have oc := oc_; clear oc_; obtain ⟨occ, ocf, ocl⟩ := cells_of oc.out; have HM_ := Aside0.mk (Kd.F_step (fG HM) (fun j_ hj_ hl_ => hk_ j_ (by (try dsimp only at hj_); (try simp only [sz_alloc, sz_drew, sz_drewN, sz_set] at hj_); omega))); clear HM; have HM := HM_; clear HM_; (try clear od odc odf odl); have od := Aside0.mk hx_; obtain ⟨odc, odf, odl⟩ := cells_of od.out; clear HB hb_ hk_ hx_; have HB := HB_; clear HB_))
  refine start_ (n := 46) (S := fun w' => w'.heap[w3.heap.size]? = some (.cells (C14 d (.slice A mac.length cap)) 25 (0, 0)) ∧ w'.heap[w5.heap.size]? = some (.cells (C14 d (.slice A mac.length cap)) 25 (0, 0)) ∧ w'.heap[w7.heap.size]? = some (.cells (C14 new0 (.slice none 0 0)) 25 (0, 0)) ∧ w'.heap[w9.heap.size]? = some (.cells (C14 new0 (.slice none 0 0)) 25 (0, 0)) ∧ w'.heap[w.heap.size]? = some (.cells (C14 c (.slice A mac.length cap)) 25 (0, 0))) (ds := []) #[false, false, false, false, false, false, false, false, false, false, false, false, false, false, false, false, false, false, false, false, false, false, false, false, false, false, false, false, false, false, false, false, false, false, false, false, false, false, false, false, false, false, false, false, false, false] (by kernel_rfl) rfl rfl ⟨(eG oa), (eG ob), (eG oc), (eG od), (eG on)⟩ (fun hHeld => ?_)
  refine pure_ (i := 0) (N := some 63) (v := ?_) (a' := ?_) #[true, false, false, false, false, false, false, false, false, false, false, false, false, false, false, false, false, false, false, false, false, false, false, false, false, false, false, false, false, false, false, false, false, false, false, false, false, false, false, false, false, false, false, false, false, false] rfl rfl (by kernel_rfl) (fun _ _ _ h => h) (Or.inl ⟨by rfl, ?_⟩) ?_ ?_
  rotate_left
  · intro w'
    go_simp
    with_reducible rfl
  rotate_left
  · simp only [Act.put, List.setIfInBounds_toArray, List.set_cons_zero, List.set_cons_succ, i64_w, i32_w]
    rfl
  refine pure_ (i := 1) (N := some 64) (v := ?_) (a' := ?_) #[true, true, false, false, false, false, false, false, false, false, false, false, false, false, false, false, false, false, false, false, false, false, false, false, false, false, false, false, false, false, false, false, false, false, false, false, false, false, false, false, false, false, false, false, false, false] rfl rfl (by kernel_rfl) (fun _ _ _ h => h) (Or.inl ⟨by rfl, ?_⟩) ?_ ?_
  rotate_left
  · intro w'
    go_simp
    with_reducible rfl
  rotate_left
  · simp only [Act.put, List.setIfInBounds_toArray, List.set_cons_zero, List.set_cons_succ, i64_w, i32_w]
    rfl
  refine pure_ (i := 2) (N := some 65) (v := ?_) (a' := ?_) #[true, true, true, false, false, false, false, false, false, false, false, false, false, false, false, false, false, false, false, false, false, false, false, false, false, false, false, false, false, false, false, false, false, false, false, false, false, false, false, false, false, false, false, false, false, false] rfl rfl (by kernel_rfl) (fun _ _ _ h => h) (Or.inl ⟨by rfl, ?_⟩) ?_ ?_
  rotate_left
  · intro w'
    go_simp
    with_reducible rfl
  rotate_left
  · simp only [Act.put, List.setIfInBounds_toArray, List.set_cons_zero, List.set_cons_succ, i64_w, i32_w]
    rfl
  refine pure_ (i := 3) (N := some 66) (v := ?_) (a' := ?_) #[true, true, true, true, false, false, false, false, false, false, false, false, false, false, false, false, false, false, false, false, false, false, false, false, false, false, false, false, false, false, false, false, false, false, false, false, false, false, false, false, false, false, false, false, false, false] rfl rfl (by kernel_rfl) (fun _ _ _ h => h) (Or.inl ⟨by rfl, ?_⟩) ?_ ?_
  rotate_left
  · intro w'
    go_simp
    with_reducible rfl
  rotate_left
  · simp only [Act.put, List.setIfInBounds_toArray, List.set_cons_zero, List.set_cons_succ, i64_w, i32_w]
    rfl
  refine pure_ (i := 4) (N := some 67) (v := ?_) (a' := ?_) #[true, true, true, true, true, false, false, false, false, false, false, false, false, false, false, false, false, false, false, false, false, false, false, false, false, false, false, false, false, false, false, false, false, false, false, false, false, false, false, false, false, false, false, false, false, false] rfl rfl (by kernel_rfl) (fun _ _ _ h => h) (Or.inl ⟨by rfl, ?_⟩) ?_ ?_
  rotate_left
  · intro w'
    go_simp
    with_reducible rfl
  rotate_left
  · simp only [Act.put, List.setIfInBounds_toArray, List.set_cons_zero, List.set_cons_succ, i64_w, i32_w]
    rfl
  refine pure_ (i := 5) (N := some 68) (v := ?_) (a' := ?_) #[true, true, true, true, true, true, false, false, false, false, false, false, false, false, false, false, false, false, false, false, false, false, false, false, false, false, false, false, false, false, false, false, false, false, false, false, false, false, false, false, false, false, false, false, false, false] rfl rfl (by kernel_rfl) (fun _ _ _ h => h) (Or.inl ⟨by rfl, ?_⟩) ?_ ?_
  rotate_left
  · intro w'
    go_simp
    with_reducible rfl
  rotate_left
  · simp only [Act.put, List.setIfInBounds_toArray, List.set_cons_zero, List.set_cons_succ, i64_w, i32_w]
    rfl
  refine pure_ (i := 6) (N := some 69) (v := ?_) (a' := ?_) #[true, true, true, true, true, true, true, false, false, false, false, false, false, false, false, false, false, false, false, false, false, false, false, false, false, false, false, false, false, false, false, false, false, false, false, false, false, false, false, false, false, false, false, false, false, false] rfl rfl (by kernel_rfl) (fun _ _ _ h => h) (Or.inl ⟨by rfl, ?_⟩) ?_ ?_
  rotate_left
  · intro w'
    go_simp
    with_reducible rfl
  rotate_left
  · simp only [Act.put, List.setIfInBounds_toArray, List.set_cons_zero, List.set_cons_succ, i64_w, i32_w]
    rfl
  refine pure_ (i := 7) (N := some 70) (v := ?_) (a' := ?_) #[true, true, true, true, true, true, true, true, false, false, false, false, false, false, false, false, false, false, false, false, false, false, false, false, false, false, false, false, false, false, false, false, false, false, false, false, false, false, false, false, false, false, false, false, false, false] rfl rfl (by kernel_rfl) (fun _ _ _ h => h) (Or.inl ⟨by rfl, ?_⟩) ?_ ?_
  rotate_left
  · intro w'
    go_simp
    with_reducible rfl
  rotate_left
  · simp only [Act.put, List.setIfInBounds_toArray, List.set_cons_zero, List.set_cons_succ, i64_w, i32_w]
    rfl
  refine pure_ (i := 8) (N := some 71) (v := ?_) (a' := ?_) #[true, true, true, true, true, true, true, true, true, false, false, false, false, false, false, false, false, false, false, false, false, false, false, false, false, false, false, false, false, false, false, false, false, false, false, false, false, false, false, false, false, false, false, false, false, false] rfl rfl (by kernel_rfl) (fun _ _ _ h => h) (Or.inl ⟨by rfl, ?_⟩) ?_ ?_
  rotate_left
  · intro w'
    go_simp
    with_reducible rfl
  rotate_left
  · simp only [Act.put, List.setIfInBounds_toArray, List.set_cons_zero, List.set_cons_succ, i64_w, i32_w]
    rfl
  refine rowL_ (i := 9) (N := some 72) #[true, true, true, true, true, true, true, true, true, true, false, false, false, false, false, false, false, false, false, false, false, false, false, false, false, false, false, false, false, false, false, false, false, false, false, false, false, false, false, false, false, false, false, false, false, false] rfl rfl (by kernel_rfl) 25 _ rfl (w3.heap.size) (C14 d (.slice A mac.length cap)) (fun _ _ _ h => h) (by rfl) (by rfl) _ _ _ (fun _ h => h.1) Try.underlying25 rfl i25 hHeld (a' := ?_) ?_ ?_
  rotate_left
  · simp only [Act.put, List.setIfInBounds_toArray, List.set_cons_zero, List.set_cons_succ, i64_w, i32_w]
    rfl
  refine rowL_ (i := 10) (N := some 73) #[true, true, true, true, true, true, true, true, true, true, true, false, false, false, false, false, false, false, false, false, false, false, false, false, false, false, false, false, false, false, false, false, false, false, false, false, false, false, false, false, false, false, false, false, false, false] rfl rfl (by kernel_rfl) 25 _ rfl (w5.heap.size) (C14 d (.slice A mac.length cap)) (fun _ _ _ h => h) (by rfl) (by rfl) _ _ _ (fun _ h => h.2.1) Try.underlying25 rfl i25 hHeld (a' := ?_) ?_ ?_
  rotate_left
  · simp only [Act.put, List.setIfInBounds_toArray, List.set_cons_zero, List.set_cons_succ, i64_w, i32_w]
    rfl
  refine one_ (i := 11) (N := some 74) #[true, true, true, true, true, true, true, true, true, true, true, true, false, false, false, false, false, false, false, false, false, false, false, false, false, false, false, false, false, false, false, false, false, false, false, false, false, false, false, false, false, false, false, false, false, false] rfl rfl (by kernel_rfl) (by decide) (fun K hK => ?_)
  (refine goes_ Try.func19 (by kernel_rfl) rfl #[.agg (C14 d (.slice A mac.length cap)), .agg (C14 d (.slice A mac.length cap))] (by rfl) rfl rfl (by (try simp only [List.map_toArray, List.map_cons, List.map_nil]); first | done | rfl) ?_; (with_reducible refine (Same_is d A cap A cap mac _ _ _ (fG HM) HMC.out (fG HM) HMC.out).mono ?_); rintro e_ wq1 ⟨rfl, hb_⟩; refine ⟨_, rfl, ?_⟩; have HB_ : Aside0 (Below w.heap.size w wq1) := Aside0.mk (below_step (bG HB) hb_); have hzwq1 := hb_.size; (try simp at hzwq1); have on_ := Aside0.mk (box_below hb_ (eG on)); have oa_ := Aside0.mk (box_below hb_ (eG oa)); have ob_ := Aside0.mk (box_below hb_ (eG ob)); have oc_ := Aside0.mk (box_below hb_ (eG oc)); have od_ := Aside0.mk (box_below hb_ (eG od)); have HM_ := Aside0.mk (Kd.F_below (fG HM) hb_); clear HM; have HM := HM_; clear HM_; (try clear on onc onf onl); have on := on_; clear on_; obtain ⟨onc, onf, onl⟩ := cells_of on.out; (try clear oa oac oaf oal); have oa := oa_; clear oa_; obtain ⟨oac, oaf, oal⟩ := cells_of oa.out; (try clear ob obc obf obl); have ob := ob_; clear ob_; obtain ⟨obc, obf, obl⟩ := cells_of ob.out; (try clear oc occ ocf ocl); have oc := oc_; clear oc_; obtain ⟨occ, ocf, ocl⟩ := cells_of oc.out; (try clear od odc odf odl); have od := od_; clear od_; obtain ⟨odc, odf, odl⟩ := cells_of od.out; clear HB hb_; have HB := HB_; clear HB_)
  refine hK.out _ _ ⟨(eG oa), (eG ob), (eG oc), (eG od), (eG on)⟩ (fun hHeld => ?_)
  clear hK K
  refine norm_ (a' := ?_) ?_ ?_
  rotate_left
  · simp only [Act.put, List.setIfInBounds_toArray, List.set_cons_zero, List.set_cons_succ, i64_w, i32_w]
    rfl
  refine pure_ (i := 12) (N := some 75) (v := ?_) (a' := ?_) #[true, true, true, true, true, true, true, true, true, true, true, true, true, false, false, false, false, false, false, false, false, false, false, false, false, false, false, false, false, false, false, false, false, false, false, false, false, false, false, false, false, false, false, false, false, false] rfl rfl (by kernel_rfl) (fun _ _ _ h => h) (Or.inl ⟨by rfl, ?_⟩) ?_ ?_
  rotate_left
  · intro w'
    go_simp
    with_reducible rfl
  rotate_left
  · simp only [Act.put, List.setIfInBounds_toArray, List.set_cons_zero, List.set_cons_succ, i64_w, i32_w]
    rfl
  refine pure_ (i := 13) (N := some 76) (v := ?_) (a' := ?_) #[true, true, true, true, true, true, true, true, true, true, true, true, true, true, false, false, false, false, false, false, false, false, false, false, false, false, false, false, false, false, false, false, false, false, false, false, false, false, false, false, false, false, false, false, false, false] rfl rfl (by kernel_rfl) (fun _ _ _ h => h) (Or.inl ⟨by rfl, ?_⟩) ?_ ?_
  rotate_left
  · intro w'
    go_simp
    with_reducible rfl
  rotate_left
  · simp only [Act.put, List.setIfInBounds_toArray, List.set_cons_zero, List.set_cons_succ, i64_w, i32_w]
    rfl
  refine pure_ (i := 14) (N := some 77) (v := ?_) (a' := ?_) #[true, true, true, true, true, true, true, true, true, true, true, true, true, true, true, false, false, false, false, false, false, false, false, false, false, false, false, false, false, false, false, false, false, false, false, false, false, false, false, false, false, false, false, false, false, false] rfl rfl (by kernel_rfl) (fun _ _ _ h => h) (Or.inl ⟨by rfl, ?_⟩) ?_ ?_
  rotate_left
  · intro w'
    go_simp
    with_reducible rfl
  rotate_left
  · simp only [Act.put, List.setIfInBounds_toArray, List.set_cons_zero, List.set_cons_succ, i64_w, i32_w]
    rfl
  refine pure_ (i := 15) (N := some 78) (v := ?_) (a' := ?_) #[true, true, true, true, true, true, true, true, true, true, true, true, true, true, true, true, false, false, false, false, false, false, false, false, false, false, false, false, false, false, false, false, false, false, false, false, false, false, false, false, false, false, false, false, false, false] rfl rfl (by kernel_rfl) (fun _ _ _ h => h) (Or.inl ⟨by rfl, ?_⟩) ?_ ?_
  rotate_left
  · intro w'
    go_simp
    with_reducible rfl
  rotate_left
  · simp only [Act.put, List.setIfInBounds_toArray, List.set_cons_zero, List.set_cons_succ, i64_w, i32_w]
    rfl
  refine pure_ (i := 16) (N := some 79) (v := ?_) (a' := ?_) #[true, true, true, true, true, true, true, true, true, true, true, true, true, true, true, true, true, false, false, false, false, false, false, false, false, false, false, false, false, false, false, false, false, false, false, false, false, false, false, false, false, false, false, false, false, false] rfl rfl (by kernel_rfl) (fun _ _ _ h => h) (Or.inl ⟨by rfl, ?_⟩) ?_ ?_
  rotate_left
  · intro w'
    go_simp
    with_reducible rfl
  rotate_left
  · simp only [Act.put, List.setIfInBounds_toArray, List.set_cons_zero, List.set_cons_succ, i64_w, i32_w]
    rfl
  refine pure_ (i := 17) (N := some 80) (v := ?_) (a' := ?_) #[true, true, true, true, true, true, true, true, true, true, true, true, true, true, true, true, true, true, false, false, false, false, false, false, false, false, false, false, false, false, false, false, false, false, false, false, false, false, false, false, false, false, false, false, false, false] rfl rfl (by kernel_rfl) (fun _ _ _ h => h) (Or.inl ⟨by rfl, ?_⟩) ?_ ?_
  rotate_left
  · intro w'
    go_simp
    with_reducible rfl
  rotate_left
  · simp only [Act.put, List.setIfInBounds_toArray, List.set_cons_zero, List.set_cons_succ, i64_w, i32_w]
    rfl
  refine pure_ (i := 18) (N := some 81) (v := ?_) (a' := ?_) #[true, true, true, true, true, true, true, true, true, true, true, true, true, true, true, true, true, true, true, false, false, false, false, false, false, false, false, false, false, false, false, false, false, false, false, false, false, false, false, false, false, false, false, false, false, false] rfl rfl (by kernel_rfl) (fun _ _ _ h => h) (Or.inl ⟨by rfl, ?_⟩) ?_ ?_
  rotate_left
  · intro w'
    go_simp
    with_reducible rfl
  rotate_left
  · simp only [Act.put, List.setIfInBounds_toArray, List.set_cons_zero, List.set_cons_succ, i64_w, i32_w]
    rfl
  refine rowL_ (i := 19) (N := some 82) #[true, true, true, true, true, true, true, true, true, true, true, true, true, true, true, true, true, true, true, true, false, false, false, false, false, false, false, false, false, false, false, false, false, false, false, false, false, false, false, false, false, false, false, false, false, false] rfl rfl (by kernel_rfl) 25 _ rfl (w7.heap.size) (C14 new0 (.slice none 0 0)) (fun _ _ _ h => h) (by rfl) (by rfl) _ _ _ (fun _ h => h.2.2.1) Try.underlying25 rfl i25 hHeld (a' := ?_) ?_ ?_
  rotate_left
  · simp only [Act.put, List.setIfInBounds_toArray, List.set_cons_zero, List.set_cons_succ, i64_w, i32_w]
    rfl
  refine rowL_ (i := 20) (N := some 83) #[true, true, true, true, true, true, true, true, true, true, true, true, true, true, true, true, true, true, true, true, true, false, false, false, false, false, false, false, false, false, false, false, false, false, false, false, false, false, false, false, false, false, false, false, false, false] rfl rfl (by kernel_rfl) 25 _ rfl (w9.heap.size) (C14 new0 (.slice none 0 0)) (fun _ _ _ h => h) (by rfl) (by rfl) _ _ _ (fun _ h => h.2.2.2.1) Try.underlying25 rfl i25 hHeld (a' := ?_) ?_ ?_
  rotate_left
  · simp only [Act.put, List.setIfInBounds_toArray, List.set_cons_zero, List.set_cons_succ, i64_w, i32_w]
    rfl
  refine one_ (i := 21) (N := some 84) #[true, true, true, true, true, true, true, true, true, true, true, true, true, true, true, true, true, true, true, true, true, true, false, false, false, false, false, false, false, false, false, false, false, false, false, false, false, false, false, false, false, false, false, false, false, false] rfl rfl (by kernel_rfl) (by decide) (fun K hK => ?_)
  (refine goes_ Try.func19 (by kernel_rfl) rfl #[.agg (C14 new0 (.slice none 0 0)), .agg (C14 new0 (.slice none 0 0))] (by rfl) rfl rfl (by (try simp only [List.map_toArray, List.map_cons, List.map_nil]); first | done | rfl) ?_; (with_reducible refine (Same_nil _).mono ?_); rintro e_ wq2 ⟨rfl, hb_⟩; refine ⟨_, rfl, ?_⟩; have HB_ : Aside0 (Below w.heap.size w wq2) := Aside0.mk (below_step (bG HB) hb_); have hzwq2 := hb_.size; (try simp at hzwq2); have on_ := Aside0.mk (box_below hb_ (eG on)); have oa_ := Aside0.mk (box_below hb_ (eG oa)); have ob_ := Aside0.mk (box_below hb_ (eG ob)); have oc_ := Aside0.mk (box_below hb_ (eG oc)); have od_ := Aside0.mk (box_below hb_ (eG od)); have HM_ := Aside0.mk (Kd.F_below (fG HM) hb_); clear HM; have HM := HM_; clear HM_; (try clear on onc onf onl); have on := on_; clear on_; obtain ⟨onc, onf, onl⟩ := cells_of on.out; (try clear oa oac oaf oal); have oa := oa_; clear oa_; obtain ⟨oac, oaf, oal⟩ := cells_of oa.out; (try clear ob obc obf obl); have ob := ob_; clear ob_; obtain ⟨obc, obf, obl⟩ := cells_of ob.out; (try clear oc occ ocf ocl); have oc := oc_; clear oc_; obtain ⟨occ, ocf, ocl⟩ := cells_of oc.out; (try clear od odc odf odl); have od := od_; clear od_; obtain ⟨odc, odf, odl⟩ := cells_of od.out; clear HB hb_; have HB := HB_; clear HB_)
  refine hK.out _ _ ⟨(eG oa), (eG ob), (eG oc), (eG od), (eG on)⟩ (fun hHeld => ?_)
  clear hK K
  refine norm_ (a' := ?_) ?_ ?_
  rotate_left
  · simp only [Act.put, List.setIfInBounds_toArray, List.set_cons_zero, List.set_cons_succ, i64_w, i32_w]
    rfl
  refine pure_ (i := 22) (N := some 85) (v := ?_) (a' := ?_) #[true, true, true, true, true, true, true, true, true, true, true, true, true, true, true, true, true, true, true, true, true, true, true, false, false, false, false, false, false, false, false, false, false, false, false, false, false, false, false, false, false, false, false, false, false, false] rfl rfl (by kernel_rfl) (fun _ _ _ h => h) (Or.inl ⟨by rfl, ?_⟩) ?_ ?_
  rotate_left
  · intro w'
    go_simp
    with_reducible rfl
  rotate_left
  · simp only [Act.put, List.setIfInBounds_toArray, List.set_cons_zero, List.set_cons_succ, i64_w, i32_w]
    rfl
  refine pure_ (i := 23) (N := some 86) (v := ?_) (a' := ?_) #[true, true, true, true, true, true, true, true, true, true, true, true, true, true, true, true, true, true, true, true, true, true, true, true, false, false, false, false, false, false, false, false, false, false, false, false, false, false, false, false, false, false, false, false, false, false] rfl rfl (by kernel_rfl) (fun _ _ _ h => h) (Or.inl ⟨by rfl, ?_⟩) ?_ ?_
  rotate_left
  · intro w'
    go_simp
    with_reducible rfl
  rotate_left
  · simp only [Act.put, List.setIfInBounds_toArray, List.set_cons_zero, List.set_cons_succ, i64_w, i32_w]
    rfl
  refine pure_ (i := 24) (N := some 87) (v := ?_) (a' := ?_) #[true, true, true, true, true, true, true, true, true, true, true, true, true, true, true, true, true, true, true, true, true, true, true, true, true, false, false, false, false, false, false, false, false, false, false, false, false, false, false, false, false, false, false, false, false, false] rfl rfl (by kernel_rfl) (fun _ _ _ h => h) (Or.inl ⟨by rfl, ?_⟩) ?_ ?_
  rotate_left
  · intro w'
    go_simp
    with_reducible rfl
  rotate_left
  · simp only [Act.put, List.setIfInBounds_toArray, List.set_cons_zero, List.set_cons_succ, i64_w, i32_w]
    rfl
  refine pure_ (i := 25) (N := some 88) (v := ?_) (a' := ?_) #[true, true, true, true, true, true, true, true, true, true, true, true, true, true, true, true, true, true, true, true, true, true, true, true, true, true, false, false, false, false, false, false, false, false, false, false, false, false, false, false, false, false, false, false, false, false] rfl rfl (by kernel_rfl) (fun _ _ _ h => h) (Or.inl ⟨by rfl, ?_⟩) ?_ ?_
  rotate_left
  · intro w'
    go_simp
    with_reducible rfl
  rotate_left
  · simp only [Act.put, List.setIfInBounds_toArray, List.set_cons_zero, List.set_cons_succ, i64_w, i32_w]
    rfl
  refine pure_ (i := 26) (N := some 89) (v := ?_) (a' := ?_) #[true, true, true, true, true, true, true, true, true, true, true, true, true, true, true, true, true, true, true, true, true, true, true, true, true, true, true, false, false, false, false, false, false, false, false, false, false, false, false, false, false, false, false, false, false, false] rfl rfl (by kernel_rfl) (fun _ _ _ h => h) (Or.inl ⟨by rfl, ?_⟩) ?_ ?_
  rotate_left
  · intro w'
    go_simp
    with_reducible rfl
  rotate_left
  · simp only [Act.put, List.setIfInBounds_toArray, List.set_cons_zero, List.set_cons_succ, i64_w, i32_w]
    rfl
  refine pure_ (i := 27) (N := some 90) (v := ?_) (a' := ?_) #[true, true, true, true, true, true, true, true, true, true, true, true, true, true, true, true, true, true, true, true, true, true, true, true, true, true, true, true, false, false, false, false, false, false, false, false, false, false, false, false, false, false, false, false, false, false] rfl rfl (by kernel_rfl) (fun _ _ _ h => h) (Or.inl ⟨by rfl, ?_⟩) ?_ ?_
  rotate_left
  · intro w'
    go_simp
    with_reducible rfl
  rotate_left
  · simp only [Act.put, List.setIfInBounds_toArray, List.set_cons_zero, List.set_cons_succ, i64_w, i32_w]
    rfl
  refine pure_ (i := 28) (N := some 91) (v := ?_) (a' := ?_) #[true, true, true, true, true, true, true, true, true, true, true, true, true, true, true, true, true, true, true, true, true, true, true, true, true, true, true, true, true, false, false, false, false, false, false, false, false, false, false, false, false, false, false, false, false, false] rfl rfl (by kernel_rfl) (fun _ _ _ h => h) (Or.inl ⟨by rfl, ?_⟩) ?_ ?_
  rotate_left
  · intro w'
    go_simp
    with_reducible rfl
  rotate_left
  · simp only [Act.put, List.setIfInBounds_toArray, List.set_cons_zero, List.set_cons_succ, i64_w, i32_w]
    rfl
  refine rowL_ (i := 29) (N := some 92) #[true, true, true, true, true, true, true, true, true, true, true, true, true, true, true, true, true, true, true, true, true, true, true, true, true, true, true, true, true, true, false, false, false, false, false, false, false, false, false, false, false, false, false, false, false, false] rfl rfl (by kernel_rfl) 25 _ rfl (w.heap.size) (C14 c (.slice A mac.length cap)) (fun _ _ _ h => h) (by rfl) (by rfl) _ _ _ (fun _ h => h.2.2.2.2) Try.underlying25 rfl i25 hHeld (a' := ?_) ?_ ?_
  rotate_left
  · simp only [Act.put, List.setIfInBounds_toArray, List.set_cons_zero, List.set_cons_succ, i64_w, i32_w]
    rfl
  refine rowL_ (i := 31) (N := some 94) #[true, true, true, true, true, true, true, true, true, true, true, true, true, true, true, true, true, true, true, true, true, true, true, true, true, true, true, true, true, true, false, true, false, false, false, false, false, false, false, false, false, false, false, false, false, false] rfl rfl (by kernel_rfl) 25 _ rfl (w.heap.size) (C14 c (.slice A mac.length cap)) (fun _ _ _ h => h) (by rfl) (by rfl) _ _ _ (fun _ h => h.2.2.2.2) Try.underlying25 rfl i25 hHeld (a' := ?_) ?_ ?_
  rotate_left
  · simp only [Act.put, List.setIfInBounds_toArray, List.set_cons_zero, List.set_cons_succ, i64_w, i32_w]
    rfl
  refine one_ (i := 30) (N := some 93) #[true, true, true, true, true, true, true, true, true, true, true, true, true, true, true, true, true, true, true, true, true, true, true, true, true, true, true, true, true, true, true, true, false, false, false, false, false, false, false, false, false, false, false, false, false, false] rfl rfl (by kernel_rfl) (by decide) (fun K hK => ?_)
  (refine goes_ Try.func9 (by kernel_rfl) rfl #[.agg (C14 c (.slice A mac.length cap))] (by rfl) rfl rfl (by (try simp only [List.map_toArray, List.map_cons, List.map_nil]); first | done | rfl) ?_; (with_reducible refine (Check_of k c A mac.length cap _ HK.out).mono ?_); rintro e_ wq3 ⟨rfl, hb_⟩; refine ⟨_, rfl, ?_⟩; have HB_ : Aside0 (Below w.heap.size w wq3) := Aside0.mk (below_step (bG HB) hb_); have hzwq3 := hb_.size; (try simp at hzwq3); have on_ := Aside0.mk (box_below hb_ (eG on)); have oa_ := Aside0.mk (box_below hb_ (eG oa)); have ob_ := Aside0.mk (box_below hb_ (eG ob)); have oc_ := Aside0.mk (box_below hb_ (eG oc)); have od_ := Aside0.mk (box_below hb_ (eG od)); have HM_ := Aside0.mk (Kd.F_below (fG HM) hb_); clear HM; have HM := HM_; clear HM_; (try clear on onc onf onl); have on := on_; clear on_; obtain ⟨onc, onf, onl⟩ := cells_of on.out; (try clear oa oac oaf oal); have oa := oa_; clear oa_; obtain ⟨oac, oaf, oal⟩ := cells_of oa.out; (try clear ob obc obf obl); have ob := ob_; clear ob_; obtain ⟨obc, obf, obl⟩ := cells_of ob.out; (try clear oc occ ocf ocl); have oc := oc_; clear oc_; obtain ⟨occ, ocf, ocl⟩ := cells_of oc.out; (try clear od odc odf odl); have od := od_; clear od_; obtain ⟨odc, odf, odl⟩ := cells_of od.out; clear HB hb_; have HB := HB_; clear HB_)
  refine hK.out _ _ ⟨(eG oa), (eG ob), (eG oc), (eG od), (eG on)⟩ (fun hHeld => ?_)
  clear hK K
  refine norm_ (a' := ?_) ?_ ?_
  rotate_left
  · simp only [Act.put, List.setIfInBounds_toArray, List.set_cons_zero, List.set_cons_succ, i64_w, i32_w]
    rfl
  refine one_ (i := 32) (N := some 95) #[true, true, true, true, true, true, true, true, true, true, true, true, true, true, true, true, true, true, true, true, true, true, true, true, true, true, true, true, true, true, true, true, true, false, false, false, false, false, false, false, false, false, false, false, false, false] rfl rfl (by kernel_rfl) (by decide) (fun K hK => ?_)
  (refine goes_ Try.func20 (by kernel_rfl) rfl #[.agg (C14 c (.slice A mac.length cap))] (by rfl) rfl rfl (by (try simp only [List.map_toArray, List.map_cons, List.map_nil]); first | done | rfl) ?_; (with_reducible refine (rCheck_of k c A mac.length cap _ H3.out H7.out HK.out).mono ?_); rintro e_ wq4 ⟨rfl, hb_⟩; refine ⟨_, rfl, ?_⟩; have HB_ : Aside0 (Below w.heap.size w wq4) := Aside0.mk (below_step (bG HB) hb_); have hzwq4 := hb_.size; (try simp at hzwq4); have on_ := Aside0.mk (box_below hb_ (eG on)); have oa_ := Aside0.mk (box_below hb_ (eG oa)); have ob_ := Aside0.mk (box_below hb_ (eG ob)); have oc_ := Aside0.mk (box_below hb_ (eG oc)); have od_ := Aside0.mk (box_below hb_ (eG od)); have HM_ := Aside0.mk (Kd.F_below (fG HM) hb_); clear HM; have HM := HM_; clear HM_; (try clear on onc onf onl); have on := on_; clear on_; obtain ⟨onc, onf, onl⟩ := cells_of on.out; (try clear oa oac oaf oal); have oa := oa_; clear oa_; obtain ⟨oac, oaf, oal⟩ := cells_of oa.out; (try clear ob obc obf obl); have ob := ob_; clear ob_; obtain ⟨obc, obf, obl⟩ := cells_of ob.out; (try clear oc occ ocf ocl); have oc := oc_; clear oc_; obtain ⟨occ, ocf, ocl⟩ := cells_of oc.out; (try clear od odc odf odl); have od := od_; clear od_; obtain ⟨odc, odf, odl⟩ := cells_of od.out; clear HB hb_; have HB := HB_; clear HB_)
  refine hK.out _ _ ⟨(eG oa), (eG ob), (eG oc), (eG od), (eG on)⟩ (fun hHeld => ?_)
  clear hK K
  refine norm_ (a' := ?_) ?_ ?_
  rotate_left
  · simp only [Act.put, List.setIfInBounds_toArray, List.set_cons_zero, List.set_cons_succ, i64_w, i32_w]
    rfl
  refine pure_ (i := 33) (N := some 96) (v := ?_) (a' := ?_) #[true, true, true, true, true, true, true, true, true, true, true, true, true, true, true, true, true, true, true, true, true, true, true, true, true, true, true, true, true, true, true, true, true, true, false, false, false, false, false, false, false, false, false, false, false, false] rfl rfl (by kernel_rfl) (fun _ _ _ h => h) (Or.inl ⟨by rfl, ?_⟩) ?_ ?_
  rotate_left
  · intro w'
    go_simp
    with_reducible rfl
  rotate_left
  · simp only [Act.put, List.setIfInBounds_toArray, List.set_cons_zero, List.set_cons_succ, i64_w, i32_w]
    rfl
  refine pure_ (i := 34) (N := some 97) (v := ?_) (a' := ?_) #[true, true, true, true, true, true, true, true, true, true, true, true, true, true, true, true, true, true, true, true, true, true, true, true, true, true, true, true, true, true, true, true, true, true, true, false, false, false, false, false, false, false, false, false, false, false] rfl rfl (by kernel_rfl) (fun _ _ _ h => h) (Or.inl ⟨by rfl, ?_⟩) ?_ ?_
  rotate_left
  · intro w'
    go_simp
    with_reducible rfl
  rotate_left
  · simp only [Act.put, List.setIfInBounds_toArray, List.set_cons_zero, List.set_cons_succ, i64_w, i32_w]
    rfl
  refine pure_ (i := 35) (N := some 98) (v := ?_) (a' := ?_) #[true, true, true, true, true, true, true, true, true, true, true, true, true, true, true, true, true, true, true, true, true, true, true, true, true, true, true, true, true, true, true, true, true, true, true, true, false, false, false, false, false, false, false, false, false, false] rfl rfl (by kernel_rfl) (fun _ _ _ h => h) (Or.inl ⟨by rfl, ?_⟩) ?_ ?_
  rotate_left
  · intro w'
    go_simp
    with_reducible rfl
  rotate_left
  · simp only [Act.put, List.setIfInBounds_toArray, List.set_cons_zero, List.set_cons_succ, i64_w, i32_w]
    rfl
  refine rowL_ (i := 36) (N := some 99) #[true, true, true, true, true, true, true, true, true, true, true, true, true, true, true, true, true, true, true, true, true, true, true, true, true, true, true, true, true, true, true, true, true, true, true, true, true, false, false, false, false, false, false, false, false, false] rfl rfl (by kernel_rfl) 25 _ rfl (w.heap.size) (C14 c (.slice A mac.length cap)) (fun _ _ _ h => h) (by rfl) (by rfl) _ _ _ (fun _ h => h.2.2.2.2) Try.underlying25 rfl i25 hHeld (a' := ?_) ?_ ?_
  rotate_left
  · simp only [Act.put, List.setIfInBounds_toArray, List.set_cons_zero, List.set_cons_succ, i64_w, i32_w]
    rfl
  refine rowL_ (i := 38) (N := some 101) #[true, true, true, true, true, true, true, true, true, true, true, true, true, true, true, true, true, true, true, true, true, true, true, true, true, true, true, true, true, true, true, true, true, true, true, true, true, false, true, false, false, false, false, false, false, false] rfl rfl (by kernel_rfl) 25 _ rfl (w.heap.size) (C14 c (.slice A mac.length cap)) (fun _ _ _ h => h) (by rfl) (by rfl) _ _ _ (fun _ h => h.2.2.2.2) Try.underlying25 rfl i25 hHeld (a' := ?_) ?_ ?_
  rotate_left
  · simp only [Act.put, List.setIfInBounds_toArray, List.set_cons_zero, List.set_cons_succ, i64_w, i32_w]
    rfl
  refine one_ (i := 37) (N := some 100) #[true, true, true, true, true, true, true, true, true, true, true, true, true, true, true, true, true, true, true, true, true, true, true, true, true, true, true, true, true, true, true, true, true, true, true, true, true, true, true, false, false, false, false, false, false, false] rfl rfl (by kernel_rfl) (by decide) (fun K hK => ?_)
  (refine goes_ Try.func21 (by kernel_rfl) rfl #[.agg (C14 c (.slice A mac.length cap))] (by rfl) rfl rfl (by (try simp only [List.map_toArray, List.map_cons, List.map_nil]); first | done | rfl) ?_; (with_reducible refine (Line_of n c A mac.length cap _ HN.out).mono ?_); rintro e_ wq5 ⟨rfl, hb_⟩; refine ⟨_, rfl, ?_⟩; have HB_ : Aside0 (Below w.heap.size w wq5) := Aside0.mk (below_step (bG HB) hb_); have hzwq5 := hb_.size; (try simp at hzwq5); have on_ := Aside0.mk (box_below hb_ (eG on)); have oa_ := Aside0.mk (box_below hb_ (eG oa)); have ob_ := Aside0.mk (box_below hb_ (eG ob)); have oc_ := Aside0.mk (box_below hb_ (eG oc)); have od_ := Aside0.mk (box_below hb_ (eG od)); have HM_ := Aside0.mk (Kd.F_below (fG HM) hb_); clear HM; have HM := HM_; clear HM_; (try clear on onc onf onl); have on := on_; clear on_; obtain ⟨onc, onf, onl⟩ := cells_of on.out; (try clear oa oac oaf oal); have oa := oa_; clear oa_; obtain ⟨oac, oaf, oal⟩ := cells_of oa.out; (try clear ob obc obf obl); have ob := ob_; clear ob_; obtain ⟨obc, obf, obl⟩ := cells_of ob.out; (try clear oc occ ocf ocl); have oc := oc_; clear oc_; obtain ⟨occ, ocf, ocl⟩ := cells_of oc.out; (try clear od odc odf odl); have od := od_; clear od_; obtain ⟨odc, odf, odl⟩ := cells_of od.out; clear HB hb_; have HB := HB_; clear HB_)
  refine hK.out _ _ ⟨(eG oa), (eG ob), (eG oc), (eG od), (eG on)⟩ (fun hHeld => ?_)
  clear hK K
  refine norm_ (a' := ?_) ?_ ?_
  rotate_left
  · simp only [Act.put, List.setIfInBounds_toArray, List.set_cons_zero, List.set_cons_succ, i64_w, i32_w]
    rfl
  refine one_ (i := 39) (N := some 102) #[true, true, true, true, true, true, true, true, true, true, true, true, true, true, true, true, true, true, true, true, true, true, true, true, true, true, true, true, true, true, true, true, true, true, true, true, true, true, true, true, false, false, false, false, false, false] rfl rfl (by kernel_rfl) (by decide) (fun K hK => ?_)
  (refine goes_ Try.func22 (by kernel_rfl) rfl #[.agg (C14 c (.slice A mac.length cap))] (by rfl) rfl rfl (by (try simp only [List.map_toArray, List.map_cons, List.map_nil]); first | done | rfl) ?_; (with_reducible refine (RLine_is c A mac.length cap _ H3.out H7.out n HN.out).mono ?_); rintro e_ wq6 ⟨rfl, hb_⟩; refine ⟨_, rfl, ?_⟩; have HB_ : Aside0 (Below w.heap.size w wq6) := Aside0.mk (below_step (bG HB) hb_); have hzwq6 := hb_.size; (try simp at hzwq6); have on_ := Aside0.mk (box_below hb_ (eG on)); have oa_ := Aside0.mk (box_below hb_ (eG oa)); have ob_ := Aside0.mk (box_below hb_ (eG ob)); have oc_ := Aside0.mk (box_below hb_ (eG oc)); have od_ := Aside0.mk (box_below hb_ (eG od)); have HM_ := Aside0.mk (Kd.F_below (fG HM) hb_); clear HM; have HM := HM_; clear HM_; (try clear on onc onf onl); have on := on_; clear on_; obtain ⟨onc, onf, onl⟩ := cells_of on.out; (try clear oa oac oaf oal); have oa := oa_; clear oa_; obtain ⟨oac, oaf, oal⟩ := cells_of oa.out; (try clear ob obc obf obl); have ob := ob_; clear ob_; obtain ⟨obc, obf, obl⟩ := cells_of ob.out; (try clear oc occ ocf ocl); have oc := oc_; clear oc_; obtain ⟨occ, ocf, ocl⟩ := cells_of oc.out; (try clear od odc odf odl); have od := od_; clear od_; obtain ⟨odc, odf, odl⟩ := cells_of od.out; clear HB hb_; have HB := HB_; clear HB_)
  refine hK.out _ _ ⟨(eG oa), (eG ob), (eG oc), (eG od), (eG on)⟩ (fun hHeld => ?_)
  clear hK K
  refine norm_ (a' := ?_) ?_ ?_
  rotate_left
  · simp only [Act.put, List.setIfInBounds_toArray, List.set_cons_zero, List.set_cons_succ, i64_w, i32_w]
    rfl
  refine pure_ (i := 40) (N := some 103) (v := ?_) (a' := ?_) #[true, true, true, true, true, true, true, true, true, true, true, true, true, true, true, true, true, true, true, true, true, true, true, true, true, true, true, true, true, true, true, true, true, true, true, true, true, true, true, true, true, false, false, false, false, false] rfl rfl (by kernel_rfl) (fun _ _ _ h => h) (Or.inl ⟨by rfl, ?_⟩) ?_ ?_
  rotate_left
  · intro w'
    go_simp
    with_reducible rfl
  rotate_left
  · simp only [Act.put, List.setIfInBounds_toArray, List.set_cons_zero, List.set_cons_succ, i64_w, i32_w]
    rfl
  refine pure_ (i := 41) (N := some 104) (v := ?_) (a' := ?_) #[true, true, true, true, true, true, true, true, true, true, true, true, true, true, true, true, true, true, true, true, true, true, true, true, true, true, true, true, true, true, true, true, true, true, true, true, true, true, true, true, true, true, false, false, false, false] rfl rfl (by kernel_rfl) (fun _ _ _ h => h) (Or.inl ⟨by rfl, ?_⟩) ?_ ?_
  rotate_left
  · intro w'
    go_simp
    with_reducible rfl
  rotate_left
  · simp only [Act.put, List.setIfInBounds_toArray, List.set_cons_zero, List.set_cons_succ, i64_w, i32_w]
    rfl
  refine pure_ (i := 42) (N := some 105) (v := ?_) (a' := ?_) #[true, true, true, true, true, true, true, true, true, true, true, true, true, true, true, true, true, true, true, true, true, true, true, true, true, true, true, true, true, true, true, true, true, true, true, true, true, true, true, true, true, true, true, false, false, false] rfl rfl (by kernel_rfl) (fun _ _ _ h => h) (Or.inl ⟨by rfl, ?_⟩) ?_ ?_
  rotate_left
  · intro w'
    go_simp
    with_reducible rfl
  rotate_left
  · simp only [Act.put, List.setIfInBounds_toArray, List.set_cons_zero, List.set_cons_succ, i64_w, i32_w]
    rfl
  refine one_ (i := 43) (N := some 106) #[true, true, true, true, true, true, true, true, true, true, true, true, true, true, true, true, true, true, true, true, true, true, true, true, true, true, true, true, true, true, true, true, true, true, true, true, true, true, true, true, true, true, true, true, false, false] rfl rfl (by kernel_rfl) (by decide) (fun K hK => ?_)
  (refine goes_ Try.func10 (by kernel_rfl) rfl #[] (by rfl) rfl rfl (by (try simp only [List.map_toArray, List.map_cons, List.map_nil]); first | done | rfl) ?_; (with_reducible refine (heads_is _).mono ?_); rintro e_ wq7 ⟨rfl, hb_⟩; refine ⟨_, rfl, ?_⟩; have HB_ : Aside0 (Below w.heap.size w wq7) := Aside0.mk (below_step (bG HB) hb_); have hzwq7 := hb_.size; (try simp at hzwq7); have on_ := Aside0.mk (box_below hb_ (eG on)); have oa_ := Aside0.mk (box_below hb_ (eG oa)); have ob_ := Aside0.mk (box_below hb_ (eG ob)); have oc_ := Aside0.mk (box_below hb_ (eG oc)); have od_ := Aside0.mk (box_below hb_ (eG od)); have HM_ := Aside0.mk (Kd.F_below (fG HM) hb_); clear HM; have HM := HM_; clear HM_; (try clear on onc onf onl); have on := on_; clear on_; obtain ⟨onc, onf, onl⟩ := cells_of on.out; (try clear oa oac oaf oal); have oa := oa_; clear oa_; obtain ⟨oac, oaf, oal⟩ := cells_of oa.out; (try clear ob obc obf obl); have ob := ob_; clear ob_; obtain ⟨obc, obf, obl⟩ := cells_of ob.out; (try clear oc occ ocf ocl); have oc := oc_; clear oc_; obtain ⟨occ, ocf, ocl⟩ := cells_of oc.out; (try clear od odc odf odl); have od := od_; clear od_; obtain ⟨odc, odf, odl⟩ := cells_of od.out; clear HB hb_; have HB := HB_; clear HB_)
  refine hK.out _ _ ⟨(eG oa), (eG ob), (eG oc), (eG od), (eG on)⟩ (fun hHeld => ?_)
  clear hK K
  refine norm_ (a' := ?_) ?_ ?_
  rotate_left
  · simp only [Act.put, List.setIfInBounds_toArray, List.set_cons_zero, List.set_cons_succ, i64_w, i32_w]
    rfl
  refine pure_ (i := 44) (N := some 107) (v := ?_) (a' := ?_) #[true, true, true, true, true, true, true, true, true, true, true, true, true, true, true, true, true, true, true, true, true, true, true, true, true, true, true, true, true, true, true, true, true, true, true, true, true, true, true, true, true, true, true, true, true, false] rfl rfl (by kernel_rfl) (fun _ _ _ h => h) (Or.inl ⟨by rfl, ?_⟩) ?_ ?_
  rotate_left
  · intro w'
    go_simp
    with_reducible rfl
  rotate_left
  · simp only [Act.put, List.setIfInBounds_toArray, List.set_cons_zero, List.set_cons_succ, i64_w, i32_w]
    rfl
  refine pure_ (i := 45) (N := some 10) (v := ?_) (a' := ?_) #[true, true, true, true, true, true, true, true, true, true, true, true, true, true, true, true, true, true, true, true, true, true, true, true, true, true, true, true, true, true, true, true, true, true, true, true, true, true, true, true, true, true, true, true, true, true] rfl rfl (by kernel_rfl) (fun _ _ _ h => h) (Or.inl ⟨by rfl, ?_⟩) ?_ ?_
  rotate_left
  · intro w'
    go_simp
    with_reducible rfl
  rotate_left
  · simp only [Act.put, List.setIfInBounds_toArray, List.set_cons_zero, List.set_cons_succ, i64_w, i32_w]
    rfl
  refine done_ (by kernel_rfl) ?_
  go_wp2
  go_ret
  exact ⟨rfl, HB.out⟩
def drawbridgelaw12_NicLoads.f (a0_0 : Int) (a0_1 : Int) (a0_2 : Int) (a0_3 : Int) (a0_4 : Int) (a0_5 : Int) (a0_6 : Int) (a0_7 : Int) (a0_8 : Int) (a0_9 : Int) (a0_10 : Int) (a0_11 : Int) (a0_12 : Int) (l0_13 : List Int) (a1 a2 a3 : Int) (l4 : List Int) : Option Bool := if (∀ z ∈ l0_13, byte z) ∧ 0 ≤ a0_3 ∧ 0 ≤ a0_7 ∧ u64B a1 ∧ u64B a3 then some true else none
theorem drawbridgelaw12_NicLoads.calls (a0_0 : Int) (a0_1 : Int) (a0_2 : Int) (a0_3 : Int) (a0_4 : Int) (a0_5 : Int) (a0_6 : Int) (a0_7 : Int) (a0_8 : Int) (a0_9 : Int) (a0_10 : Int) (a0_11 : Int) (a0_12 : Int) (A0_13 : Option Addr) (c0_13 : Nat) (l0_13 : List Int) (a1 a2 a3 : Int) (A4 : Option Addr) (c4 : Nat) (l4 : List Int) (r : Bool) (w : World) (hr0_13 : Kd.C (Kd.int .u8) w A0_13 l0_13.length l0_13) (hc0_13 : l0_13.length ≤ c0_13) (hr4 : Kd.C (Kd.int .u8) w A4 l4.length l4) (hc4 : l4.length ≤ c4) (h : drawbridgelaw12_NicLoads.f a0_0 a0_1 a0_2 a0_3 a0_4 a0_5 a0_6 a0_7 a0_8 a0_9 a0_10 a0_11 a0_12 l0_13 a1 a2 a3 l4 = some r) :
    Calls Try.prog 4 #[.agg #[.int .i64 a0_0, .int .i64 a0_1, .int .i64 a0_2, .int .u64 a0_3, .int .i64 a0_4, .int .i64 a0_5, .int .i64 a0_6, .int .u64 a0_7, .int .i64 a0_8, .int .i64 a0_9, .int .i64 a0_10, .int .i64 a0_11, .int .i64 a0_12, .slice A0_13 l0_13.length c0_13], .int .u64 a1, .int .i64 a2, .int .u64 a3, .slice A4 l4.length c4] w fun e w' => e = .returned (.bool r) ∧ Below w.heap.size w w' := by
  unfold drawbridgelaw12_NicLoads.f at h
  split at h
  case isFalse => cases h
  case isTrue hh =>
  obtain rfl := Option.some.inj h
  obtain ⟨h1, h3, h7, ho, hx⟩ := hh
  cases h6 : ((l4.length : Int) != 6) with
  | true => exact loads_no A0_13 c0_13 l0_13 A4 c4 l4 (mk13 a0_0 a0_1 a0_2 a0_3 a0_4 a0_5 a0_6 a0_7 a0_8 a0_9 a0_10 a0_11 a0_12) a1 a2 a3 w _ _ (F_in hr0_13) hc0_13 (F_in hr4) hc4 h1 ho.1 ho.2 h3 h7 hx.1 hx.2 h6
  | false => exact loads_yes A0_13 c0_13 l0_13 A4 c4 l4 (mk13 a0_0 a0_1 a0_2 a0_3 a0_4 a0_5 a0_6 a0_7 a0_8 a0_9 a0_10 a0_11 a0_12) a1 a2 a3 w _ _ (F_in hr0_13) hc0_13 (F_in hr4) hc4 h1 ho.1 ho.2 h3 h7 hx.1 hx.2 (by have := bne_eq_false_iff_eq.1 h6; omega)
end Go.Proofs.Ytdblpflepfcnjaa.Q
