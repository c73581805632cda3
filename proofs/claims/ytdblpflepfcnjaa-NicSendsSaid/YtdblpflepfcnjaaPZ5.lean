import Derived.Test.YtdblpflepfcnjaaPZ1
import Derived.Test.YtdblpflepfcnjaaPXRs4
import Derived.Test.YtdblpflepfcnjaaPZ4
import Derived.Test.YtdblpflepfcnjaaPZ3
section
/- The document's Send: a good frame. -/
namespace Go.Proofs.Ytdblpflepfcnjaa.Q
open Go.RowKit Go.Proofs.YtdblpflepfcnjaaW.PrintWords Go.Proofs.YtdblpflepfcnjaaW.PrintLast Go.Proofs.YtdblpflepfcnjaaW.PrintMore Go.Proofs.Ytdblpflepfcnjaa.L
attribute [local go_sem] Instr.field part asAgg lt_step max2_int min2_int max_two min_two max_three min_three max_four min_four lt_0_1 lt_0_2 lt_1_2 lt_0_3 lt_1_3 lt_2_3 lt_0_4 lt_1_4 lt_2_4 lt_3_4 lt_0_5 lt_1_5 lt_2_5 lt_3_5 lt_4_5 lt_0_6 lt_1_6 lt_2_6 lt_3_6 lt_4_6 lt_5_6 lt_0_7 lt_1_7 lt_2_7 lt_3_7 lt_4_7 lt_5_7 lt_6_7 lt_0_8 lt_1_8 lt_2_8 lt_3_8 lt_4_8 lt_5_8 lt_6_8 lt_7_8
set_option linter.unusedVariables false
set_option linter.unusedSimpArgs false
set_option maxHeartbeats 1600000 in
set_option maxRecDepth 100000 in
theorem rsend_good (A : Option Addr) (m cap : Nat) (R : Option Addr) (rc : Nat) (l : List Int) (c : Nat → Int) (w : World) (ok : Nat → Prop) (hr : Kd.F (Kd.int .u8) w ok R l.length l) (hc : l.length ≤ rc) (at_ : Int) (hk : okC c m = true) (hb0 : (Int.tmod (c 0) 2 == 0) = false) (hb5 : (c 5 == c 6) = false) (hat : IntKind.u64.wrap (c 3 + IntKind.u64.wrap (16 * IntKind.u64.wrap (c 5))) = at_) (ha : u64B at_) (hl : (l.length : Int) ≤ 70000) (h3 : 0 ≤ c 3) (h7 : 0 ≤ c 7) (d : List Int) (x : Int) (hp : bytesZ l at_ 16 = (d, true)) (hdl : d.length = 16) (hx : d.getD 10 0 = x) (ho : (Int.tmod x 2 == 0) = false) (ho' : (x % 2 == 0) = false) (hne : ¬ c 4 = 0) (hbu : u64B (bufD d)) (hki : i64B (sizeD d)) (hdb : ∀ z ∈ d, byte z) (hws : wrap64 (sizeD d) = sizeD d) (fr : List Int) (hpb : bytesZ l (bufD d) (sizeD d) = (fr, true)) (hs14 : decide (sizeD d < 14) = false) (hs15 : decide (sizeD d > 1514) = false) :
    Calls Try.prog 24 #[.agg (C14 c (.slice A m cap)), .agg #[.slice R l.length rc]] w (SendPost A m cap ok w (upd (upd c 5 (Int.tmod (wrap64 (c 5 + 1)) (c 4))) 1 (Go.bits .or .i64 (c 1) 1)) (fillL l (IntKind.u64.wrap (at_ + 10)) [Go.bits .andNot .u8 (flagD d) 1, restD d, 1, 0]) fr true) := by
  have HB := Aside0.mk (Below.refl w.heap.size w)
  have HR := Aside0.mk (Kd.F_bound hr)
  have HC := Aside0.mk hc
  have hu := Try.underlying25
  have hu7 := Try.underlying27
  have HK := Aside0.mk hk
  have HA := Aside0.mk ha
  have HL := Aside0.mk hl
  have H3 := Aside0.mk h3
  have H7 := Aside0.mk h7
  clear h3 h7
  have HP := Aside0.mk hp
  have HX := Aside0.mk hx
  have HDL := Aside0.mk hdl
  clear hp hx hdl
  have HBU := Aside0.mk hbu
  have HKI := Aside0.mk hki
  have HDB := Aside0.mk hdb
  have HPB := Aside0.mk hpb
  clear hbu hki hdb hpb
  have HFL := Aside0.mk (refFill_is l (IntKind.u64.wrap (at_ + 10)) [Go.bits .andNot .u8 (flagD d) 1, restD d, 1, 0] (wrap_u _) (by simp) hl)
  clear hr hc hk ha hl
  go_enter Try.func24, Try.ntmps24
  go_upto_region 1 with fail
  obtain ⟨wa, hwa, on0, or0, pn0, pr0, hb_, hz0⟩ := letter4 w (.cells (C14 c (.slice A m cap)) 25 (0, 0)) (.cells #[.slice R l.length rc] 27 (0, 0)) (.cells #[.int .i64 0, .int .i64 0, .int .i64 0, .int .u64 0, .int .i64 0, .int .i64 0, .int .i64 0, .int .u64 0, .int .i64 0, .int .i64 0, .int .i64 0, .int .i64 0, .int .i64 0, .slice none 0 0] 25 (0, 0)) (.cells #[.slice none 0 0] 27 (0, 0))
  rw [hwa]
  clear hwa
  have hzwa := Nat.le_of_eq hz0.symm
  clear hz0
  have on := Aside0.mk on0
  have orr := Aside0.mk or0
  have pn := Aside0.mk pn0
  have pr := Aside0.mk pr0
  clear on0 or0 pn0 pr0
  obtain ⟨onc, onf, onl⟩ := cells_of on.out
  obtain ⟨orrc, orrf, orrl⟩ := cells_of orr.out
  obtain ⟨pnc, pnf, pnl⟩ := cells_of pn.out
  obtain ⟨prc, prf, prl⟩ := cells_of pr.out
  have HB_ : Aside0 (Below w.heap.size w wa) := ⟨hb_⟩
  have HR_ := Aside0.mk (Kd.F_below HR.out hb_)
  clear HB HR hb_; have HB := HB_; have HR := HR_; clear HB_ HR_
  have hc0 : World.cell? wa ⟨w.heap.size, 0, none⟩ = some (.int .i64 (c 0)) := (onc 0).trans rfl
  have hc5 : World.cell? wa ⟨w.heap.size, 5, none⟩ = some (.int .i64 (c 5)) := (onc 5).trans rfl
  have hc6 : World.cell? wa ⟨w.heap.size, 6, none⟩ = some (.int .i64 (c 6)) := (onc 6).trans rfl
  clear onc
  have onc := trivial
  go_wp2_with (first | ((with_reducible refine gate_dst (N := 14) rfl ?_); (try (refine gate_guard (by rfl) ?_; dsimp only)); refine wpList_load_row rfl 25 _ rfl _ (by rfl) _ (C14 c (.slice A m cap)) _ _ (eG on) Try.underlying25 rfl i25 ?_))
  (go_at_call 20; (with_reducible refine (rCheck_of true c A m cap _ H3.out H7.out HK.out).mono ?_); rintro e_ w1 ⟨rfl, hb_⟩; have HB_ : Aside0 (Below w.heap.size w w1) := Aside0.mk (below_step (bG HB) hb_); have hzw1 := hb_.size; (try simp at hzw1); have on_ := Aside0.mk (box_below hb_ (eG on)); have orr_ := Aside0.mk (box_below hb_ (eG orr)); have pn_ := Aside0.mk (box_below hb_ (eG pn)); have pr_ := Aside0.mk (box_below hb_ (eG pr)); have HR_ := Aside0.mk (Kd.F_below (fG HR) hb_); clear HR; have HR := HR_; clear HR_; (try clear on onc onf onl); have on := on_; clear on_; obtain ⟨onc, onf, onl⟩ := cells_of on.out; (try clear orr orrc orrf orrl); have orr := orr_; clear orr_; obtain ⟨orrc, orrf, orrl⟩ := cells_of orr.out; (try clear pn pnc pnf pnl); have pn := pn_; clear pn_; obtain ⟨pnc, pnf, pnl⟩ := cells_of pn.out; (try clear pr prc prf prl); have pr := pr_; clear pr_; obtain ⟨prc, prf, prl⟩ := cells_of pr.out; clear HB hb_; have HB := HB_; clear HB_)
  clear hc0 hc5 hc6
  have hc0 : World.cell? w1 ⟨w.heap.size, 0, none⟩ = some (.int .i64 (c 0)) := (onc 0).trans rfl
  have hc3 : World.cell? w1 ⟨w.heap.size, 3, none⟩ = some (.int .u64 (c 3)) := (onc 3).trans rfl
  have hc5 : World.cell? w1 ⟨w.heap.size, 5, none⟩ = some (.int .i64 (c 5)) := (onc 5).trans rfl
  have hc6 : World.cell? w1 ⟨w.heap.size, 6, none⟩ = some (.int .i64 (c 6)) := (onc 6).trans rfl
  clear onc
  have onc := trivial
  go_wp2_with fail
  (go_at_call 37; (with_reducible refine (rbytes_any R rc l at_ 16 d true _ (Kd.F_now HR.out) HC.out HA.out i64B16 HL.out HP.out).mono ?_); rintro e_ w2 ⟨v_q, rfl, hr_q, hb_⟩; have HB_ : Aside0 (Below w.heap.size w w2) := Aside0.mk (below_step (bG HB) hb_); have hzw2 := hb_.size; (try simp at hzw2); have on_ := Aside0.mk (box_below hb_ (eG on)); have orr_ := Aside0.mk (box_below hb_ (eG orr)); have pn_ := Aside0.mk (box_below hb_ (eG pn)); have pr_ := Aside0.mk (box_below hb_ (eG pr)); have HR_ := Aside0.mk (Kd.F_below (fG HR) hb_); clear HR; have HR := HR_; clear HR_; (try clear on onc onf onl); have on := on_; clear on_; obtain ⟨onc, onf, onl⟩ := cells_of on.out; (try clear orr orrc orrf orrl); have orr := orr_; clear orr_; obtain ⟨orrc, orrf, orrl⟩ := cells_of orr.out; (try clear pn pnc pnf pnl); have pn := pn_; clear pn_; obtain ⟨pnc, pnf, pnl⟩ := cells_of pn.out; (try clear pr prc prf prl); have pr := pr_; clear pr_; obtain ⟨prc, prf, prl⟩ := cells_of pr.out; clear HB hb_; have HB := HB_; clear HB_; obtain ⟨A_q, c_q, ev_, hc_q, hf_q⟩ := R_Fl hr_q; subst ev_; have qc := Aside0.mk hc_q; have q := Aside0.mk (Kd.F_bound hf_q); clear hc_q hf_q hr_q; skip)
  clear hc0 hc3 hc5 hc6
  have hdl := HDL.out
  obtain ⟨ad, rfl⟩ := row_some2 q.out 10 (by omega)
  have hcell : w2.cell? ⟨ad.block, ad.off + 10, none⟩ = some (.int .u8 x) := row_at2 q.out 10 (by omega) HX.out
  rw [hdl]
  rw [hdl] at q qc
  clear hdl
  have hc4 : World.cell? w2 ⟨w.heap.size, 4, none⟩ = some (.int .i64 (c 4)) := (onc 4).trans rfl
  have hc5 : World.cell? w2 ⟨w.heap.size, 5, none⟩ = some (.int .i64 (c 5)) := (onc 5).trans rfl
  clear onc
  have onc := trivial
  go_upto_region 11 with fail
  (have HR_ := Aside0.mk (Kd.F_far (p := ⟨w.heap.size, 5, none⟩) HR.out (fun j_ hj_ => by (try dsimp only at hj_); (try dsimp only); (try simp only [sz_alloc, sz_drew, sz_drewN, sz_set] at hj_); omega) (.int .i64 (Int.tmod (wrap64 (c 5 + 1)) (c 4)))); clear HR; have HR := HR_; clear HR_; have q_ := Aside0.mk (Kd.F_far (p := ⟨w.heap.size, 5, none⟩) q.out (fun j_ hj_ => by (try dsimp only at hj_); (try dsimp only); (try simp only [sz_alloc, sz_drew, sz_drewN, sz_set] at hj_); omega) (.int .i64 (Int.tmod (wrap64 (c 5 + 1)) (c 4)))); clear q; have q := q_; clear q_; have orr_ := Aside0.mk (blk_far (p := ⟨w.heap.size, 5, none⟩) orr.out (by show _ ≠ _; dsimp only; omega) (.int .i64 (Int.tmod (wrap64 (c 5 + 1)) (c 4)))); clear orr orrc orrf orrl; have orr := orr_; clear orr_; obtain ⟨orrc, orrf, orrl⟩ := cells_of orr.out; have pn_ := Aside0.mk (blk_far (p := ⟨w.heap.size, 5, none⟩) pn.out (by show _ ≠ _; dsimp only; omega) (.int .i64 (Int.tmod (wrap64 (c 5 + 1)) (c 4)))); clear pn pnc pnf pnl; have pn := pn_; clear pn_; obtain ⟨pnc, pnf, pnl⟩ := cells_of pn.out; have pr_ := Aside0.mk (blk_far (p := ⟨w.heap.size, 5, none⟩) pr.out (by show _ ≠ _; dsimp only; omega) (.int .i64 (Int.tmod (wrap64 (c 5 + 1)) (c 4)))); clear pr prc prf prl; have pr := pr_; clear pr_; obtain ⟨prc, prf, prl⟩ := cells_of pr.out; have on_ := Aside0.mk (blk_put on.out 5 (.int .i64 (Int.tmod (wrap64 (c 5 + 1)) (c 4))) (cs' := C14 (upd c 5 (Int.tmod (wrap64 (c 5 + 1)) (c 4))) (.slice A m cap)) rfl); clear on onc onf onl; have on := on_; clear on_; obtain ⟨onc, onf, onl⟩ := cells_of on.out)
  clear hc4 hc5 hcell
  obtain ⟨qb, qo, eA, _⟩ := F_cell' q.out (by decide)
  injection eA with eA
  subst eA
  obtain ⟨i096, hi096, _, hsz96, _⟩ := info_parts infoB
  have hc8 := qc.out
  have hcut1 := cut_to (P := Try.prog) 23 5 .i64 Try.underlying23 hi096 (some ⟨qb, qo, none⟩) 16 c_q 8 (by decide) (by decide) qc.out
  have hcut2 := cut_mid (P := Try.prog) 23 5 .i64 .i64 Try.underlying23 hi096 1 hsz96 (some ⟨qb, qo, none⟩) 16 c_q 8 10 (by decide) (by decide) (by decide) qc.out
  rw [if_neg (by omega)] at hcut2
  simp only [Option.map_some, add_eq] at hcut2
  have hq3 : Aside0 (Kd.F (Kd.int .u8) _ _ (some ⟨qb, qo, none⟩) 8 (d.take 8)) := ⟨F_sub q.out 0 8 (by decide)⟩
  have hq4 := Aside0.mk (F_sub q.out 8 2 (by decide))
  go_wp2_with fail
  (go_at_call 39; (with_reducible refine (rget_size _ _ d _ HDL.out HDB.out (Kd.F_now (fG hq4)) (by omega)).mono ?_); rintro e_ w3 ⟨rfl, hb_⟩; have HB_ : Aside0 (Below w.heap.size w w3) := Aside0.mk (below_step (bG HB) hb_); have hzw3 := hb_.size; (try simp at hzw3); have on_ := Aside0.mk (box_below hb_ (eG on)); have orr_ := Aside0.mk (box_below hb_ (eG orr)); have pn_ := Aside0.mk (box_below hb_ (eG pn)); have pr_ := Aside0.mk (box_below hb_ (eG pr)); have HR_ := Aside0.mk (Kd.F_below (fG HR) hb_); clear HR; have HR := HR_; clear HR_; have q_ := Aside0.mk (Kd.F_below (fG q) hb_); clear q; have q := q_; clear q_; have hq3_ := Aside0.mk (Kd.F_below (fG hq3) hb_); clear hq3; have hq3 := hq3_; clear hq3_; (try clear on onc onf onl); have on := on_; clear on_; obtain ⟨onc, onf, onl⟩ := cells_of on.out; (try clear orr orrc orrf orrl); have orr := orr_; clear orr_; obtain ⟨orrc, orrf, orrl⟩ := cells_of orr.out; (try clear pn pnc pnf pnl); have pn := pn_; clear pn_; obtain ⟨pnc, pnf, pnl⟩ := cells_of pn.out; (try clear pr prc prf prl); have pr := pr_; clear pr_; obtain ⟨prc, prf, prl⟩ := cells_of pr.out; clear HB hb_; have HB := HB_; clear HB_)
  go_upto_region 12 with fail
  refine start_ (n := 11) (S := fun w' => w'.heap[w.heap.size + 1]? = some (.cells #[.slice R l.length rc] 27 (0, 0))) (ds := []) #[false, false, false, false, false, false, false, false, false, false, false] (by kernel_rfl) rfl rfl (eG orr) (fun hHeld => ?_)
  refine rowL_ (i := 0) (N := some 73) #[true, false, false, false, false, false, false, false, false, false, false] rfl rfl (by kernel_rfl) 27 _ rfl (w.heap.size + 1) (#[.slice R l.length rc]) (fun _ _ _ h => h) (by rfl) (by rfl) _ _ _ (fun _ h => h) Try.underlying27 rfl i27 hHeld (a' := ?_) ?_ ?_
  rotate_left
  · simp only [Act.put, List.setIfInBounds_toArray, List.set_cons_zero, List.set_cons_succ, i64_w, i32_w]
    rfl
  refine pure_ (i := 1) (N := some 74) (v := ?_) (a' := ?_) #[true, true, false, false, false, false, false, false, false, false, false] rfl rfl (by kernel_rfl) (fun _ _ _ h => h) (Or.inl ⟨by rfl, ?_⟩) ?_ ?_
  rotate_left
  · intro w'
    go_simp
    with_reducible rfl
  rotate_left
  · simp only [Act.put, List.setIfInBounds_toArray, List.set_cons_zero, List.set_cons_succ, i64_w, i32_w]
    rfl
  refine pure_ (i := 2) (N := some 75) (v := ?_) (a' := ?_) #[true, true, true, false, false, false, false, false, false, false, false] rfl rfl (by kernel_rfl) (fun _ _ _ h => h) (Or.inl ⟨by rfl, ?_⟩) ?_ ?_
  rotate_left
  · intro w'
    go_simp
    with_reducible rfl
  rotate_left
  · simp only [Act.put, List.setIfInBounds_toArray, List.set_cons_zero, List.set_cons_succ, i64_w, i32_w]
    rfl
  refine pure_ (i := 4) (N := some 77) (v := ?_) (a' := ?_) #[true, true, true, false, true, false, false, false, false, false, false] rfl rfl (by kernel_rfl) (fun _ _ _ h => h) (Or.inl ⟨by rfl, ?_⟩) ?_ ?_
  rotate_left
  · intro w'
    go_simp
    with_reducible rfl
  rotate_left
  · simp only [Act.put, List.setIfInBounds_toArray, List.set_cons_zero, List.set_cons_succ, i64_w, i32_w]
    rfl
  refine one_ (i := 3) (N := some 76) #[true, true, true, true, true, false, false, false, false, false, false] rfl rfl (by kernel_rfl) (by decide) (fun K hK => ?_)
  (refine goes_ Try.func39 (by kernel_rfl) rfl #[.slice (some ⟨qb, qo, none⟩) 8 c_q, .bool false] (by rfl) rfl rfl (by (try simp only [List.map_toArray, List.map_cons, List.map_nil]); first | done | rfl) ?_; (with_reducible refine (rget_buf _ _ d _ HDL.out HDB.out (Kd.F_now (fG hq3)) (by omega)).mono ?_); rintro e_ w4 ⟨rfl, hb_⟩; refine ⟨_, rfl, ?_⟩; have HB_ : Aside0 (Below w.heap.size w w4) := Aside0.mk (below_step (bG HB) hb_); have hzw4 := hb_.size; (try simp at hzw4); have on_ := Aside0.mk (box_below hb_ (eG on)); have orr_ := Aside0.mk (box_below hb_ (eG orr)); have pn_ := Aside0.mk (box_below hb_ (eG pn)); have pr_ := Aside0.mk (box_below hb_ (eG pr)); have HR_ := Aside0.mk (Kd.F_below (fG HR) hb_); clear HR; have HR := HR_; clear HR_; have q_ := Aside0.mk (Kd.F_below (fG q) hb_); clear q; have q := q_; clear q_; (try clear on onc onf onl); have on := on_; clear on_; obtain ⟨onc, onf, onl⟩ := cells_of on.out; (try clear orr orrc orrf orrl); have orr := orr_; clear orr_; obtain ⟨orrc, orrf, orrl⟩ := cells_of orr.out; (try clear pn pnc pnf pnl); have pn := pn_; clear pn_; obtain ⟨pnc, pnf, pnl⟩ := cells_of pn.out; (try clear pr prc prf prl); have pr := pr_; clear pr_; obtain ⟨prc, prf, prl⟩ := cells_of pr.out; clear HB hb_; have HB := HB_; clear HB_)
  refine hK.out _ _ (eG orr) (fun hHeld => ?_)
  clear hK K
  refine norm_ (a' := ?_) ?_ ?_
  rotate_left
  · simp only [Act.put, List.setIfInBounds_toArray, List.set_cons_zero, List.set_cons_succ, i64_w, i32_w]
    rfl
  refine one_ (i := 5) (N := some 78) #[true, true, true, true, true, true, false, false, false, false, false] rfl rfl (by kernel_rfl) (by decide) (fun K hK => ?_)
  (refine goes_ Try.func37 (by kernel_rfl) rfl #[.agg #[.slice R l.length rc], .int .u64 (bufD d), .int .i64 (sizeD d)] (by rfl) rfl rfl (by (try simp only [List.map_toArray, List.map_cons, List.map_nil]); first | done | rfl) ?_; (with_reducible refine (rbytes_any R rc l (bufD d) (sizeD d) fr true _ (Kd.F_now (fG HR)) HC.out HBU.out HKI.out HL.out HPB.out).mono ?_); rintro e_ w5 ⟨v_t, rfl, hr_t, hb_⟩; refine ⟨_, rfl, ?_⟩; have HB_ : Aside0 (Below w.heap.size w w5) := Aside0.mk (below_step (bG HB) hb_); have hzw5 := hb_.size; (try simp at hzw5); have on_ := Aside0.mk (box_below hb_ (eG on)); have orr_ := Aside0.mk (box_below hb_ (eG orr)); have pn_ := Aside0.mk (box_below hb_ (eG pn)); have pr_ := Aside0.mk (box_below hb_ (eG pr)); have HR_ := Aside0.mk (Kd.F_below (fG HR) hb_); clear HR; have HR := HR_; clear HR_; have q_ := Aside0.mk (Kd.F_below (fG q) hb_); clear q; have q := q_; clear q_; (try clear on onc onf onl); have on := on_; clear on_; obtain ⟨onc, onf, onl⟩ := cells_of on.out; (try clear orr orrc orrf orrl); have orr := orr_; clear orr_; obtain ⟨orrc, orrf, orrl⟩ := cells_of orr.out; (try clear pn pnc pnf pnl); have pn := pn_; clear pn_; obtain ⟨pnc, pnf, pnl⟩ := cells_of pn.out; (try clear pr prc prf prl); have pr := pr_; clear pr_; obtain ⟨prc, prf, prl⟩ := cells_of pr.out; clear HB hb_; have HB := HB_; clear HB_; obtain ⟨A_t, c_t, ev_, hc_t, hf_t⟩ := R_Fl hr_t; subst ev_; have tc := Aside0.mk hc_t; have t := Aside0.mk (Kd.F_bound hf_t); clear hc_t hf_t hr_t; skip)
  refine hK.out _ _ (eG orr) (fun hHeld => ?_)
  clear hK K
  refine norm_ (a' := ?_) ?_ ?_
  rotate_left
  · simp only [Act.put, List.setIfInBounds_toArray, List.set_cons_zero, List.set_cons_succ, i64_w, i32_w]
    rfl
  refine pure_ (i := 6) (N := some 72) (v := ?_) (a' := ?_) #[true, true, true, true, true, true, true, false, false, false, false] rfl rfl (by kernel_rfl) (fun _ _ _ h => h) (Or.inl ⟨by rfl, ?_⟩) ?_ ?_
  rotate_left
  · intro w'
    go_simp
    with_reducible rfl
  rotate_left
  · simp only [Act.put, List.setIfInBounds_toArray, List.set_cons_zero, List.set_cons_succ, i64_w, i32_w]
    rfl
  refine pure_ (i := 7) (N := some 79) (v := ?_) (a' := ?_) #[true, true, true, true, true, true, true, true, false, false, false] rfl rfl (by kernel_rfl) (fun _ _ _ h => h) (Or.inl ⟨by rfl, ?_⟩) ?_ ?_
  rotate_left
  · intro w'
    go_simp
    with_reducible rfl
  rotate_left
  · simp only [Act.put, List.setIfInBounds_toArray, List.set_cons_zero, List.set_cons_succ, i64_w, i32_w]
    rfl
  refine pure_ (i := 8) (N := some 80) (v := ?_) (a' := ?_) #[true, true, true, true, true, true, true, true, true, false, false] rfl rfl (by kernel_rfl) (fun _ _ _ h => h) (Or.inl ⟨by rfl, ?_⟩) ?_ ?_
  rotate_left
  · intro w'
    go_simp
    with_reducible rfl
  rotate_left
  · simp only [Act.put, List.setIfInBounds_toArray, List.set_cons_zero, List.set_cons_succ, i64_w, i32_w]
    rfl
  refine pure_ (i := 9) (N := some 12) (v := ?_) (a' := ?_) #[true, true, true, true, true, true, true, true, true, true, false] rfl rfl (by kernel_rfl) (fun _ _ _ h => h) (Or.inl ⟨by rfl, ?_⟩) ?_ ?_
  rotate_left
  · intro w'
    go_simp
    with_reducible rfl
  rotate_left
  · simp only [Act.put, List.setIfInBounds_toArray, List.set_cons_zero, List.set_cons_succ, i64_w, i32_w]
    rfl
  refine pure_ (i := 10) (N := some 13) (v := ?_) (a' := ?_) #[true, true, true, true, true, true, true, true, true, true, true] rfl rfl (by kernel_rfl) (fun _ _ _ h => h) (Or.inl ⟨by rfl, ?_⟩) ?_ ?_
  rotate_left
  · intro w'
    go_simp
    with_reducible rfl
  rotate_left
  · simp only [Act.put, List.setIfInBounds_toArray, List.set_cons_zero, List.set_cons_succ, i64_w, i32_w]
    rfl
  refine done_ (by kernel_rfl) ?_
  have hc1 : World.cell? w5 ⟨w.heap.size, 1, none⟩ = some (.int .i64 (c 1)) := (onc 1).trans rfl
  clear onc
  have onc := trivial
  go_upto_region 16 with fail
  (have HR_ := Aside0.mk (Kd.F_far (p := ⟨w.heap.size, 1, none⟩) HR.out (fun j_ hj_ => by (try dsimp only at hj_); (try dsimp only); (try simp only [sz_alloc, sz_drew, sz_drewN, sz_set] at hj_); omega) (.int .i64 (Go.bits .or .i64 (c 1) 1))); clear HR; have HR := HR_; clear HR_; have q_ := Aside0.mk (Kd.F_far (p := ⟨w.heap.size, 1, none⟩) q.out (fun j_ hj_ => by (try dsimp only at hj_); (try dsimp only); (try simp only [sz_alloc, sz_drew, sz_drewN, sz_set] at hj_); omega) (.int .i64 (Go.bits .or .i64 (c 1) 1))); clear q; have q := q_; clear q_; have t_ := Aside0.mk (Kd.F_far (p := ⟨w.heap.size, 1, none⟩) t.out (fun j_ hj_ => by (try dsimp only at hj_); (try dsimp only); (try simp only [sz_alloc, sz_drew, sz_drewN, sz_set] at hj_); omega) (.int .i64 (Go.bits .or .i64 (c 1) 1))); clear t; have t := t_; clear t_; have orr_ := Aside0.mk (blk_far (p := ⟨w.heap.size, 1, none⟩) orr.out (by show _ ≠ _; dsimp only; omega) (.int .i64 (Go.bits .or .i64 (c 1) 1))); clear orr orrc orrf orrl; have orr := orr_; clear orr_; obtain ⟨orrc, orrf, orrl⟩ := cells_of orr.out; have pn_ := Aside0.mk (blk_far (p := ⟨w.heap.size, 1, none⟩) pn.out (by show _ ≠ _; dsimp only; omega) (.int .i64 (Go.bits .or .i64 (c 1) 1))); clear pn pnc pnf pnl; have pn := pn_; clear pn_; obtain ⟨pnc, pnf, pnl⟩ := cells_of pn.out; have pr_ := Aside0.mk (blk_far (p := ⟨w.heap.size, 1, none⟩) pr.out (by show _ ≠ _; dsimp only; omega) (.int .i64 (Go.bits .or .i64 (c 1) 1))); clear pr prc prf prl; have pr := pr_; clear pr_; obtain ⟨prc, prf, prl⟩ := cells_of pr.out; have on_ := Aside0.mk (blk_put on.out 1 (.int .i64 (Go.bits .or .i64 (c 1) 1)) (cs' := C14 (upd (upd c 5 (Int.tmod (wrap64 (c 5 + 1)) (c 4))) 1 (Go.bits .or .i64 (c 1) 1)) (.slice A m cap)) rfl); clear on onc onf onl; have on := on_; clear on_; obtain ⟨onc, onf, onl⟩ := cells_of on.out)
  clear hc1
  refine start_ (n := 10) (S := fun w' => w'.heap[w.heap.size]? = some (.cells (C14 (upd (upd c 5 (Int.tmod (wrap64 (c 5 + 1)) (c 4))) 1 (Go.bits .or .i64 (c 1) 1)) (.slice A m cap)) 25 (0, 0)) ∧ w'.heap[w.heap.size + 1]? = some (.cells (#[.slice R l.length rc]) 27 (0, 0))) (ds := []) #[false, false, false, false, false, false, false, false, false, false] (by kernel_rfl) rfl rfl ⟨(eG on), (eG orr)⟩ (fun hHeld => ?_)
  refine rowL_ (i := 0) (N := some 101) #[true, false, false, false, false, false, false, false, false, false] rfl rfl (by kernel_rfl) 25 _ rfl (w.heap.size) (C14 (upd (upd c 5 (Int.tmod (wrap64 (c 5 + 1)) (c 4))) 1 (Go.bits .or .i64 (c 1) 1)) (.slice A m cap)) (fun _ _ _ h => h) (by rfl) (by rfl) _ _ _ (fun _ h => h.1) Try.underlying25 rfl i25 hHeld (a' := ?_) ?_ ?_
  rotate_left
  · simp only [Act.put, List.setIfInBounds_toArray, List.set_cons_zero, List.set_cons_succ, i64_w, i32_w]
    rfl
  refine rowL_ (i := 1) (N := some 102) #[true, true, false, false, false, false, false, false, false, false] rfl rfl (by kernel_rfl) 27 _ rfl (w.heap.size + 1) (#[.slice R l.length rc]) (fun _ _ _ h => h) (by rfl) (by rfl) _ _ _ (fun _ h => h.2) Try.underlying27 rfl i27 hHeld (a' := ?_) ?_ ?_
  rotate_left
  · simp only [Act.put, List.setIfInBounds_toArray, List.set_cons_zero, List.set_cons_succ, i64_w, i32_w]
    rfl
  refine pure_ (i := 2) (N := some 103) (v := ?_) (a' := ?_) #[true, true, true, false, false, false, false, false, false, false] rfl rfl (by kernel_rfl) (fun _ _ _ h => h) (Or.inl ⟨by rfl, ?_⟩) ?_ ?_
  rotate_left
  · intro w'
    go_simp
    with_reducible rfl
  rotate_left
  · simp only [Act.put, List.setIfInBounds_toArray, List.set_cons_zero, List.set_cons_succ, i64_w, i32_w]
    rfl
  refine pure_ (i := 3) (N := some 104) (v := ?_) (a' := ?_) #[true, true, true, true, false, false, false, false, false, false] rfl rfl (by kernel_rfl) (fun _ _ _ h => h) (Or.inl ⟨by rfl, ?_⟩) ?_ ?_
  rotate_left
  · intro w'
    go_simp
    with_reducible rfl
  rotate_left
  · simp only [Act.put, List.setIfInBounds_toArray, List.set_cons_zero, List.set_cons_succ, i64_w, i32_w]
    rfl
  refine pure_ (i := 5) (N := some 106) (v := ?_) (a' := ?_) #[true, true, true, true, false, true, false, false, false, false] rfl rfl (by kernel_rfl) (fun _ _ _ h => h) (Or.inl ⟨by rfl, ?_⟩) ?_ ?_
  rotate_left
  · intro w'
    go_simp
    with_reducible rfl
  rotate_left
  · simp only [Act.put, List.setIfInBounds_toArray, List.set_cons_zero, List.set_cons_succ, i64_w, i32_w]
    rfl
  refine one_ (i := 4) (N := some 105) #[true, true, true, true, true, true, false, false, false, false] rfl rfl (by kernel_rfl) (by decide) (fun K hK => ?_)
  (refine goes_ Try.func44 (by kernel_rfl) rfl #[.agg #[.slice R l.length rc], .int .u64 at_, .slice (some ⟨qb, qo, none⟩) 16 c_q, .int .u8 1] (by rfl) rfl rfl (by (try simp only [List.map_toArray, List.map_cons, List.map_nil]); first | done | rfl) ?_; (with_reducible refine (rdone_is at_ (IntKind.u64.wrap (at_ + 10)) (flagD d) (restD d) 1 _ R rc l ⟨qb, qo, none⟩ c_q d _ _ _ rfl (flagD_is d) (restD_is d) HDL.out (fG HR) HC.out (fG q) qc.out HFL.out).mono ?_); rintro e_ wq1 ⟨A_s, c_s, rfl, hc_s, hr_s, hb_⟩; refine ⟨_, rfl, ?_⟩; have HB_ : Aside0 (Below w.heap.size w wq1) := Aside0.mk (below_step (bG HB) hb_); have hzwq1 := hb_.size; (try simp at hzwq1); have on_ := Aside0.mk (box_below hb_ (eG on)); have orr_ := Aside0.mk (box_below hb_ (eG orr)); have pn_ := Aside0.mk (box_below hb_ (eG pn)); have pr_ := Aside0.mk (box_below hb_ (eG pr)); have HR_ := Aside0.mk (Kd.F_below (fG HR) hb_); clear HR; have HR := HR_; clear HR_; have q_ := Aside0.mk (Kd.F_below (fG q) hb_); clear q; have q := q_; clear q_; have t_ := Aside0.mk (Kd.F_below (fG t) hb_); clear t; have t := t_; clear t_; (try clear on onc onf onl); have on := on_; clear on_; obtain ⟨onc, onf, onl⟩ := cells_of on.out; (try clear orr orrc orrf orrl); have orr := orr_; clear orr_; obtain ⟨orrc, orrf, orrl⟩ := cells_of orr.out; (try clear pn pnc pnf pnl); have pn := pn_; clear pn_; obtain ⟨pnc, pnf, pnl⟩ := cells_of pn.out; (try clear pr prc prf prl); have pr := pr_; clear pr_; obtain ⟨prc, prf, prl⟩ := cells_of pr.out; clear HB hb_; have HB := HB_; clear HB_; have sc := Aside0.mk hc_s; have s := Aside0.mk (Kd.F_bound hr_s); clear hc_s hr_s; skip)
  refine hK.out _ _ ⟨(eG on), (eG orr)⟩ (fun hHeld => ?_)
  clear hK K
  refine norm_ (a' := ?_) ?_ ?_
  rotate_left
  · simp only [Act.put, List.setIfInBounds_toArray, List.set_cons_zero, List.set_cons_succ, i64_w, i32_w]
    rfl
  refine rowS_ (i := 6) #[true, true, true, true, true, true, true, false, false, false] rfl rfl (by kernel_rfl) (by decide) 25 _ _ rfl (w.heap.size + 1 + 1) (C14 (upd (upd c 5 (Int.tmod (wrap64 (c 5 + 1)) (c 4))) 1 (Go.bits .or .i64 (c 1) 1)) (.slice A m cap)) (by rfl) (by rfl) (by rfl) (#[.int .i64 0, .int .i64 0, .int .i64 0, .int .u64 0, .int .i64 0, .int .i64 0, .int .i64 0, .int .u64 0, .int .i64 0, .int .i64 0, .int .i64 0, .int .i64 0, .int .i64 0, .slice none 0 0]) 25 (eG pn) rfl i25 (C14_one _ _ _ _) ?_
  (rintro wq2 ⟨hx_, hk_, hb_, hzz_⟩; have HB_ : Aside0 (Below w.heap.size w wq2) := Aside0.mk (Below.trans (bG HB) (Below.mono hb_ (by first | omega | (simp only [sz_alloc, sz_drew, sz_drewN]; omega)))); have hzwq2 := hzz_; (try simp at hzwq2); clear hzz_; have on_ := Aside0.mk (st_put on.out hk_ (fun h_ => (by repeat (with_reducible first | exact h_ | apply ext_drew | apply ext_drewN | apply ext_alloc | refine blk_far ?_ (by show _ ≠ _; dsimp only; omega) _))) (by omega)); clear on onc onf onl; have on := on_; clear on_; obtain ⟨onc, onf, onl⟩ := cells_of on.out; have orr_ := Aside0.mk (st_put orr.out hk_ (fun h_ => (by repeat (with_reducible first | exact h_ | apply ext_drew | apply ext_drewN | apply ext_alloc | refine blk_far ?_ (by show _ ≠ _; dsimp only; omega) _))) (by omega)); clear orr orrc orrf orrl; have orr := orr_; clear orr_; obtain ⟨orrc, orrf, orrl⟩ := cells_of orr.out; have pr_ := Aside0.mk (st_put pr.out hk_ (fun h_ => (by repeat (with_reducible first | exact h_ | apply ext_drew | apply ext_drewN | apply ext_alloc | refine blk_far ?_ (by show _ ≠ _; dsimp only; omega) _))) (by omega)); clear pr prc prf prl; have pr := pr_; clear pr_; obtain ⟨prc, prf, prl⟩ := cells_of pr.out; have HR_ := Aside0.mk (Kd.F_step (fG HR) (fun j_ hj_ hl_ => hk_ j_ (by (try dsimp only at hj_); (try simp only [sz_alloc, sz_drew, sz_drewN, sz_set] at hj_); omega))); clear HR; have HR := HR_; clear HR_; have q_ := Aside0.mk (Kd.F_step (fG q) (fun j_ hj_ hl_ => hk_ j_ (by (try dsimp only at hj_); (try simp only [sz_alloc, sz_drew, sz_drewN, sz_set] at hj_); omega))); clear q; have q := q_; clear q_; have t_ := Aside0.mk (Kd.F_step (fG t) (fun j_ hj_ hl_ => hk_ j_ (by (try dsimp only at hj_); (try simp only [sz_alloc, sz_drew, sz_drewN, sz_set] at hj_); omega))); clear t; have t := t_; clear t_; have s_ := Aside0.mk (Kd.F_step (fG s) (fun j_ hj_ hl_ => hk_ j_ (by (try dsimp only at hj_); (try simp only [sz_alloc, sz_drew, sz_drewN, sz_set] at hj_); omega))); clear s; have s := s_; clear s_; (try clear pn pnc pnf pnl); have pn := Aside0.mk hx_; obtain ⟨pnc, pnf, pnl⟩ := cells_of pn.out; clear HB hb_ hk_ hx_; have HB := HB_; clear HB_)
  refine ⟨⟨(eG on), (eG orr)⟩, ?_⟩
  refine rowS_ (i := 7) #[true, true, true, true, true, true, true, true, false, false] rfl rfl (by kernel_rfl) (by decide) 27 _ _ rfl (w.heap.size + 1 + 1 + 1) (#[.slice A_s (fillL l (IntKind.u64.wrap (at_ + 10)) [Go.bits .andNot .u8 (flagD d) 1, restD d, 1, 0]).length c_s]) (by rfl) (by rfl) (by rfl) (#[.slice none 0 0]) 27 (eG pr) rfl i27 (one27 _ _ _) ?_
  (rintro wq3 ⟨hx_, hk_, hb_, hzz_⟩; have HB_ : Aside0 (Below w.heap.size w wq3) := Aside0.mk (Below.trans (bG HB) (Below.mono hb_ (by first | omega | (simp only [sz_alloc, sz_drew, sz_drewN]; omega)))); have hzwq3 := hzz_; (try simp at hzwq3); clear hzz_; have on_ := Aside0.mk (st_put on.out hk_ (fun h_ => (by repeat (with_reducible first | exact h_ | apply ext_drew | apply ext_drewN | apply ext_alloc | refine blk_far ?_ (by show _ ≠ _; dsimp only; omega) _))) (by omega)); clear on onc onf onl; have on := on_; clear on_; obtain ⟨onc, onf, onl⟩ := cells_of on.out; have orr_ := Aside0.mk (st_put orr.out hk_ (fun h_ => (by repeat (with_reducible first | exact h_ | apply ext_drew | apply ext_drewN | apply ext_alloc | refine blk_far ?_ (by show _ ≠ _; dsimp only; omega) _))) (by omega)); clear orr orrc orrf orrl; have orr := orr_; clear orr_; obtain ⟨orrc, orrf, orrl⟩ := cells_of orr.out; have pn_ := Aside0.mk (st_put pn.out hk_ (fun h_ => (by repeat (with_reducible first | exact h_ | apply ext_drew | apply ext_drewN | apply ext_alloc | refine blk_far ?_ (by show _ ≠ _; dsimp only; omega) _))) (by omega)); clear pn pnc pnf pnl; have pn := pn_; clear pn_; obtain ⟨pnc, pnf, pnl⟩ := cells_of pn.out; have HR_ := Aside0.mk (Kd.F_step (fG HR) (fun j_ hj_ hl_ => hk_ j_ (by (try dsimp only at hj_); (try simp only [sz_alloc, sz_drew, sz_drewN, sz_set] at hj_); omega))); clear HR; have HR := HR_; clear HR_; have q_ := Aside0.mk (Kd.F_step (fG q) (fun j_ hj_ hl_ => hk_ j_ (by (try dsimp only at hj_); (try simp only [sz_alloc, sz_drew, sz_drewN, sz_set] at hj_); omega))); clear q; have q := q_; clear q_; have t_ := Aside0.mk (Kd.F_step (fG t) (fun j_ hj_ hl_ => hk_ j_ (by (try dsimp only at hj_); (try simp only [sz_alloc, sz_drew, sz_drewN, sz_set] at hj_); omega))); clear t; have t := t_; clear t_; have s_ := Aside0.mk (Kd.F_step (fG s) (fun j_ hj_ hl_ => hk_ j_ (by (try dsimp only at hj_); (try simp only [sz_alloc, sz_drew, sz_drewN, sz_set] at hj_); omega))); clear s; have s := s_; clear s_; (try clear pr prc prf prl); have pr := Aside0.mk hx_; obtain ⟨prc, prf, prl⟩ := cells_of pr.out; clear HB hb_ hk_ hx_; have HB := HB_; clear HB_)
  refine ⟨⟨(eG on), (eG orr)⟩, ?_⟩
  refine pure_ (i := 8) (N := some 6) (v := ?_) (a' := ?_) #[true, true, true, true, true, true, true, true, true, false] rfl rfl (by kernel_rfl) (fun _ _ _ h => h) (Or.inl ⟨by rfl, ?_⟩) ?_ ?_
  rotate_left
  · intro w'
    go_simp
    with_reducible rfl
  rotate_left
  · simp only [Act.put, List.setIfInBounds_toArray, List.set_cons_zero, List.set_cons_succ, i64_w, i32_w]
    rfl
  refine pure_ (i := 9) (N := some 7) (v := ?_) (a' := ?_) #[true, true, true, true, true, true, true, true, true, true] rfl rfl (by kernel_rfl) (fun _ _ _ h => h) (Or.inl ⟨by rfl, ?_⟩) ?_ ?_
  rotate_left
  · intro w'
    go_simp
    with_reducible rfl
  rotate_left
  · simp only [Act.put, List.setIfInBounds_toArray, List.set_cons_zero, List.set_cons_succ, i64_w, i32_w]
    rfl
  refine done_ (by kernel_rfl) ?_
  go_wp2
  refine bodyPost_ret (results_cctt rfl _ _ (w.heap.size + 1 + 1) (w.heap.size + 1 + 1 + 1) 25 27 (C14 (upd (upd c 5 (Int.tmod (wrap64 (c 5 + 1)) (c 4))) 1 (Go.bits .or .i64 (c 1) 1)) (.slice A m cap)) #[.slice A_s (fillL l (IntKind.u64.wrap (at_ + 10)) [Go.bits .andNot .u8 (flagD d) 1, restD d, 1, 0]).length c_s] (0, 0) (0, 0) _ _ rfl rfl pn.out pr.out Try.underlying25 rfl i25 Try.underlying27 rfl i27) rfl ?_
  exact ⟨A_s, c_s, A_t, c_t, rfl, sc.out, (by refine F_res (ok := ?_) ?_ ?_; rotate_left; (repeat (with_reducible first | exact s.out | apply Kd.F_drew | apply Kd.F_drewN | apply Kd.F_alloc | refine Kd.F_far ?_ ?_ _)); all_goals (intro j_ hj_; (try dsimp only at hj_); (try dsimp only); (try simp only [sz_alloc, sz_drew, sz_drewN, sz_set] at hj_); first | omega | exact .inl hj_.1 | exact .inl hj_ | exact .inr (by omega) | (rcases hj_ with hj_ | hj_; exact .inl hj_.1; exact .inr (by omega)) | (rcases hj_ with hj_ | hj_; exact .inl hj_; exact .inr (by omega)) | (rcases hj_.1 with hk_ | hk_; (first | exact .inl hk_.1 | exact .inl hk_); exact .inr (by omega)))), tc.out, (Kd.F_mono (fG t) (fun j hj => by have := hj; omega)), (bG HB)⟩
end Go.Proofs.Ytdblpflepfcnjaa.Q
end
section
/- The document's Send, whole: it answers as the program's. -/
namespace Go.Proofs.Ytdblpflepfcnjaa.Q
open Go.RowKit Go.Proofs.YtdblpflepfcnjaaW.PrintWords Go.Proofs.YtdblpflepfcnjaaW.PrintLast Go.Proofs.YtdblpflepfcnjaaW.PrintMore Go.Proofs.Ytdblpflepfcnjaa.L
set_option linter.unusedVariables false
theorem tm2 (x : Int) (h : 0 ≤ x) : (Int.tmod x 2 == 0) = (x % 2 == 0) := by rw [Int.tmod_eq_emod_of_nonneg h]
theorem sub1_all : ∀ n ∈ List.range 8, (n : Int) % 2 = 1 → wrap64 ((n : Int) - 1) = Go.bits .andNot .i64 (n : Int) 1 := by decide +kernel
theorem sub1 (x : Int) (h : 0 ≤ x ∧ x < 8) (h1 : x % 2 = 1) : wrap64 (x - 1) = Go.bits .andNot .i64 x 1 := by
  obtain ⟨n, rfl⟩ := Int.eq_ofNat_of_zero_le h.1
  exact sub1_all n (List.mem_range.2 (by omega)) h1
section
variable (A : Option Addr) (m cap : Nat) (R : Option Addr) (rc : Nat) (l : List Int) (c : Nat → Int) (w : World) (ok : Nat → Prop) (hr : Kd.F (Kd.int .u8) w ok R l.length l) (hc : l.length ≤ rc) (hl : (l.length : Int) ≤ 70000) (hby : ∀ z ∈ l, byte z) (h3 : 0 ≤ c 3) (h7 : 0 ≤ c 7)
include hr hc hl hby h3 h7
theorem RSend_is : Calls Try.prog 24 #[.agg (C14 c (.slice A m cap)), .agg #[.slice R l.length rc]] w (SendPost A m cap ok w (sendZ c m l).1 (sendZ c m l).2.1 (sendZ c m l).2.2.1 (sendZ c m l).2.2.2) := by
  unfold sendZ
  by_cases hk : okC c m = false
  · rw [if_pos hk]; exact rsend_x A m cap R rc l c w ok hr hc h3 h7 hk
  rw [if_neg hk]
  have hk := eq_t hk
  have K := (okC_iff c m).1 hk
  have hcb := (ctl_is (c 0) K.ctrl).1
  have htm := tm2 (c 0) K.ctrl.1
  by_cases hb0 : (Go.bits .and .i64 (c 0) 1 == 0) = true
  · rw [if_pos hb0]; exact rsend_ctrl A m cap R rc l c w ok hr hc h3 h7 hk (by rw [htm, ← hcb]; exact hb0)
  rw [if_neg hb0]
  have hb0 := eq_f hb0
  have hb0' : (Int.tmod (c 0) 2 == 0) = false := by rw [htm, ← hcb]; exact hb0
  have hc1 : c 0 % 2 = 1 := by
    have h2 : (c 0 % 2 == 0) = false := by rw [← hcb]; exact hb0
    have := beq_eq_false_iff_ne.1 h2
    omega
  by_cases hb5 : (c 5 == c 6) = true
  · rw [if_pos hb5]; exact rsend_head A m cap R rc l c w ok hr hc h3 h7 hk hb0' hb5
  rw [if_neg hb5]
  have hb5 := eq_f hb5
  have ha := wrap_u (c 3 + IntKind.u64.wrap (16 * IntKind.u64.wrap (c 5)))
  by_cases hp : (placeZ l.length (atT c) 16).2 = false
  · rw [if_pos hp]
    exact rsend_nodesc A m cap R rc l c w ok hr hc (atT c) hk hb0' hb5 rfl ha hl h3 h7 (by unfold bytesZ; rw [if_neg (by rw [hp]; decide)]) (sub1 _ K.ctrl hc1)
  rw [if_neg hp]
  have hp := eq_t hp
  have hbz : bytesZ l (atT c) 16 = (cutL l (atT c) 16, true) := by unfold bytesZ; rw [if_pos hp]
  have hdl : (cutL l (atT c) 16).length = 16 := cut_len l (atT c) 16 hp
  have hdb := cut_byte l (atT c) 16 hby
  have hx := getD_byte _ hdb 10
  have hodd := odd_is _ hx
  by_cases ho : (Go.bits .and .u8 (flagD (cutL l (atT c) 16)) 1 == 1) = false
  · rw [if_pos ho]
    have h0 : ((cutL l (atT c) 16).getD 10 0 % 2 == 0) = true := by
      unfold flagD at ho
      rw [hodd] at ho
      have := beq_eq_false_iff_ne.1 ho
      refine beq_iff_eq.2 ?_
      omega
    exact rsend_notown A m cap R rc l c w ok hr hc (atT c) hk hb0' hb5 rfl ha hl h3 h7 _ _ hbz hdl rfl (by rw [tm2 _ hx.1]; exact h0) h0
  rw [if_neg ho]
  have ho := eq_t ho
  have h0 : ((cutL l (atT c) 16).getD 10 0 % 2 == 0) = false := by
    unfold flagD at ho
    rw [hodd] at ho
    have := beq_iff_eq.1 ho
    refine beq_eq_false_iff_ne.2 ?_
    omega
  have h0' : (Int.tmod ((cutL l (atT c) 16).getD 10 0) 2 == 0) = false := by rw [tm2 _ hx.1]; exact h0
  obtain ⟨hbu, hs0, hs1⟩ := desc_bounds l (atT c) hby hp
  have hne : ¬ c 4 = 0 := by have := K.tn; omega
  have hki : i64B (sizeD (cutL l (atT c) 16)) := ⟨by omega, by omega⟩
  have hws : wrap64 (sizeD (cutL l (atT c) 16)) = sizeD (cutL l (atT c) 16) := w64 (by omega) (by omega)
  unfold frameZ doneL
  by_cases h1 : (bytesZ l (bufD (cutL l (atT c) 16)) (sizeD (cutL l (atT c) 16))).2 = false
  · rw [if_pos h1]
    exact rsend_isnot A m cap R rc l c w ok hr hc (atT c) hk hb0' hb5 rfl ha hl h3 h7 _ _ hbz hdl rfl h0' h0 hne hbu hki hdb hws _ (Prod.ext rfl h1)
  rw [if_neg h1]
  have h1 := eq_t h1
  by_cases h2 : sizeD (cutL l (atT c) 16) < 14
  · rw [if_pos h2]
    exact rsend_short A m cap R rc l c w ok hr hc (atT c) hk hb0' hb5 rfl ha hl h3 h7 _ _ hbz hdl rfl h0' h0 hne hbu hki hdb hws _ (Prod.ext rfl h1) (decide_eq_true h2)
  rw [if_neg h2]
  by_cases h3' : sizeD (cutL l (atT c) 16) > 1514
  · rw [if_pos h3']
    exact rsend_long A m cap R rc l c w ok hr hc (atT c) hk hb0' hb5 rfl ha hl h3 h7 _ _ hbz hdl rfl h0' h0 hne hbu hki hdb hws _ (Prod.ext rfl h1) (decide_eq_false h2) (decide_eq_true h3')
  rw [if_neg h3']
  have h1' := h1
  rw [bytesZ_2] at h1'
  exact rsend_good A m cap R rc l c w ok hr hc (atT c) hk hb0' hb5 rfl ha hl h3 h7 _ _ hbz hdl rfl h0' h0 hne hbu hki hdb hws _ (by unfold bytesZ; rw [if_pos h1']) (decide_eq_false h2) (decide_eq_false h3')
end
end Go.Proofs.Ytdblpflepfcnjaa.Q
end
section
/- NicSends, walked: which frame goes, and what memory and the controller are then. -/
namespace Go.Proofs.Ytdblpflepfcnjaa.Q
open Go.RowKit Go.Proofs.YtdblpflepfcnjaaW.PrintWords Go.Proofs.YtdblpflepfcnjaaW.PrintLast Go.Proofs.YtdblpflepfcnjaaW.PrintMore Go.Proofs.Ytdblpflepfcnjaa.L
attribute [local go_sem] Instr.field part asAgg lt_step max2_int min2_int max_two min_two max_three min_three max_four min_four lt_0_1 lt_0_2 lt_1_2 lt_0_3 lt_1_3 lt_2_3 lt_0_4 lt_1_4 lt_2_4 lt_3_4 lt_0_5 lt_1_5 lt_2_5 lt_3_5 lt_4_5 lt_0_6 lt_1_6 lt_2_6 lt_3_6 lt_4_6 lt_5_6 lt_0_7 lt_1_7 lt_2_7 lt_3_7 lt_4_7 lt_5_7 lt_6_7 lt_0_8 lt_1_8 lt_2_8 lt_3_8 lt_4_8 lt_5_8 lt_6_8 lt_7_8
set_option linter.unusedVariables false
set_option linter.unusedSimpArgs false
theorem RSend_of (S : SR) (A : Option Addr) (m cap : Nat) (R : Option Addr) (rc : Nat) (l : List Int) (c : Nat → Int) (w : World) (ok : Nat → Prop) (hr : Kd.F (Kd.int .u8) w ok R l.length l) (hc : l.length ≤ rc) (hl : (l.length : Int) ≤ 70000) (hby : ∀ z ∈ l, byte z) (h3 : 0 ≤ c 3) (h7 : 0 ≤ c 7) (hS : sendZ c m l = S) :
    Calls Try.prog 24 #[.agg (C14 c (.slice A m cap)), .agg #[.slice R l.length rc]] w (SendPost A m cap ok w S.1 S.2.1 S.2.2.1 S.2.2.2) := by
  subst hS
  exact RSend_is A m cap R rc l c w ok hr hc hl hby h3 h7
set_option maxHeartbeats 1600000 in
set_option maxRecDepth 100000 in
theorem sends_q (A : Option Addr) (cap : Nat) (mac : List Int) (R : Option Addr) (rc : Nat) (l : List Int) (c : Nat → Int) (w : World) (okm ok : Nat → Prop) (hm : Kd.F (Kd.int .u8) w okm A mac.length mac) (hmc : mac.length ≤ cap) (hr : Kd.F (Kd.int .u8) w ok R l.length l) (hc : l.length ≤ rc) (hq : decide ((l.length : Int) > 70000) = true) :
    Calls Try.prog 5 #[.agg (C14 c (.slice A mac.length cap)), .agg #[.slice R l.length rc]] w fun e w' => e = .returned (.bool true) ∧ Below w.heap.size w w' := by
  have HB := Aside0.mk (Below.refl w.heap.size w)
  have HM := Aside0.mk (Kd.F_bound hm)
  have HR := Aside0.mk (Kd.F_bound hr)
  have HMC := Aside0.mk hmc
  have HC := Aside0.mk hc
  have hu := Try.underlying25
  have hu7 := Try.underlying27
  clear hm hmc hr hc
  go_enter Try.func5, Try.ntmps5
  go_upto_region 1 with fail
  obtain ⟨wa, hwa, on0, or0, hb_, hz0⟩ := letter2 w (.cells (C14 c (.slice A mac.length cap)) 25 (0, 0)) (.cells #[.slice R l.length rc] 27 (0, 0))
  rw [hwa]
  clear hwa
  have hzwa := Nat.le_of_eq hz0.symm
  clear hz0
  have on := Aside0.mk on0
  have orr := Aside0.mk or0
  clear on0 or0
  obtain ⟨onc, onf, onl⟩ := cells_of on.out
  obtain ⟨orrc, orrf, orrl⟩ := cells_of orr.out
  have HB_ : Aside0 (Below w.heap.size w wa) := ⟨hb_⟩
  have HM_ := Aside0.mk (Kd.F_below HM.out hb_)
  clear HM
  have HM := HM_
  clear HM_
  have HR_ := Aside0.mk (Kd.F_below HR.out hb_)
  clear HR
  have HR := HR_
  clear HR_
  clear HB hb_
  have HB := HB_
  clear HB_
  go_wp2_with fail
  (go_at_call 10; (with_reducible refine (heads_is _).mono ?_); rintro e_ w2 ⟨rfl, hb_⟩; have HB_ : Aside0 (Below w.heap.size w w2) := Aside0.mk (below_step (bG HB) hb_); have hzw2 := hb_.size; (try simp at hzw2); have on_ := Aside0.mk (box_below hb_ (eG on)); have orr_ := Aside0.mk (box_below hb_ (eG orr)); (try clear on onc onf onl); have on := on_; clear on_; obtain ⟨onc, onf, onl⟩ := cells_of on.out; (try clear orr orrc orrf orrl); have orr := orr_; clear orr_; obtain ⟨orrc, orrf, orrl⟩ := cells_of orr.out; clear HB hb_; have HB := HB_; clear HB_)
  go_wp2
  go_ret
  exact ⟨rfl, (bG HB)⟩
set_option maxHeartbeats 1600000 in
set_option maxRecDepth 100000 in
theorem sends_is (A : Option Addr) (cap : Nat) (mac : List Int) (R : Option Addr) (rc : Nat) (l : List Int) (c : Nat → Int) (w : World) (okm ok : Nat → Prop) (hm : Kd.F (Kd.int .u8) w okm A mac.length mac) (hmc : mac.length ≤ cap) (hr : Kd.F (Kd.int .u8) w ok R l.length l) (hc : l.length ≤ rc) (hq : decide ((l.length : Int) > 70000) = false) (hby : ∀ z ∈ l, byte z) (h3 : 0 ≤ c 3) (h7 : 0 ≤ c 7) :
    Calls Try.prog 5 #[.agg (C14 c (.slice A mac.length cap)), .agg #[.slice R l.length rc]] w fun e w' => e = .returned (.bool true) ∧ Below w.heap.size w w' := by
  have HB := Aside0.mk (Below.refl w.heap.size w)
  have HM := Aside0.mk (Kd.F_bound hm)
  have HR := Aside0.mk (Kd.F_bound hr)
  have HMC := Aside0.mk hmc
  have HC := Aside0.mk hc
  have hu := Try.underlying25
  have hu7 := Try.underlying27
  have hl7 : (l.length : Int) ≤ 70000 := by have := of_decide_eq_false hq; omega
  obtain ⟨⟨c1, l1, f1, b1⟩, hS⟩ : ∃ S, sendZ c mac.length l = S := ⟨_, rfl⟩
  have HS := Aside0.mk hS
  have HBY := Aside0.mk hby
  have H3 := Aside0.mk h3
  have H7 := Aside0.mk h7
  clear hby hS h3 h7
  clear hm hmc hr hc
  go_enter Try.func5, Try.ntmps5
  go_upto_region 1 with fail
  obtain ⟨wa, hwa, on0, or0, hb_, hz0⟩ := letter2 w (.cells (C14 c (.slice A mac.length cap)) 25 (0, 0)) (.cells #[.slice R l.length rc] 27 (0, 0))
  rw [hwa]
  clear hwa
  have hzwa := Nat.le_of_eq hz0.symm
  clear hz0
  have on := Aside0.mk on0
  have orr := Aside0.mk or0
  clear on0 or0
  obtain ⟨onc, onf, onl⟩ := cells_of on.out
  obtain ⟨orrc, orrf, orrl⟩ := cells_of orr.out
  have HB_ : Aside0 (Below w.heap.size w wa) := ⟨hb_⟩
  have HM_ := Aside0.mk (Kd.F_below HM.out hb_)
  clear HM
  have HM := HM_
  clear HM_
  have HR_ := Aside0.mk (Kd.F_below HR.out hb_)
  clear HR
  have HR := HR_
  clear HR_
  clear HB hb_
  have HB := HB_
  clear HB_
  go_wp2_with fail
  (go_at_call 23; (with_reducible refine (lawown_is R rc l _ _ (fG HR) HC.out hl7).mono ?_); rintro e_ w1 ⟨A_m, c_m, rfl, hc_m, hr_m, hb_⟩; have HB_ : Aside0 (Below w.heap.size w w1) := Aside0.mk (below_step (bG HB) hb_); have hzw1 := hb_.size; (try simp at hzw1); have on_ := Aside0.mk (box_below hb_ (eG on)); have orr_ := Aside0.mk (box_below hb_ (eG orr)); have HM_ := Aside0.mk (Kd.F_below (fG HM) hb_); clear HM; have HM := HM_; clear HM_; have HR_ := Aside0.mk (Kd.F_below (fG HR) hb_); clear HR; have HR := HR_; clear HR_; (try clear on onc onf onl); have on := on_; clear on_; obtain ⟨onc, onf, onl⟩ := cells_of on.out; (try clear orr orrc orrf orrl); have orr := orr_; clear orr_; obtain ⟨orrc, orrf, orrl⟩ := cells_of orr.out; clear HB hb_; have HB := HB_; clear HB_; have mc := Aside0.mk hc_m; have m := Aside0.mk (Kd.F_bound hr_m); clear hc_m hr_m; skip)
  go_upto_region 4 with fail
  have ow := Aside0.mk (nb_1 w1 (.cells #[.slice A_m l.length c_m] 27 (0, 0)))
  have on_ := Aside0.mk (ext_alloc on.out (.cells #[.slice A_m l.length c_m] 27 (0, 0)))
  clear on onc onf onl
  have on := on_
  clear on_
  obtain ⟨onc, onf, onl⟩ := cells_of on.out
  have orr_ := Aside0.mk (ext_alloc orr.out (.cells #[.slice A_m l.length c_m] 27 (0, 0)))
  clear orr orrc orrf orrl
  have orr := orr_
  clear orr_
  obtain ⟨orrc, orrf, orrl⟩ := cells_of orr.out
  have HM_ := Aside0.mk (Kd.F_alloc HM.out (.cells #[.slice A_m l.length c_m] 27 (0, 0)))
  clear HM
  have HM := HM_
  clear HM_
  have HR_ := Aside0.mk (Kd.F_alloc HR.out (.cells #[.slice A_m l.length c_m] 27 (0, 0)))
  clear HR
  have HR := HR_
  clear HR_
  have m_ := Aside0.mk (Kd.F_alloc m.out (.cells #[.slice A_m l.length c_m] 27 (0, 0)))
  clear m
  have m := m_
  clear m_
  obtain ⟨owc, owf, owl⟩ := cells_of ow.out
  go_wp2_with (first | ((with_reducible refine gate_dst (N := 22) rfl ?_); (try (refine gate_guard (by rfl) ?_; dsimp only)); refine wpList_load_row rfl 25 _ rfl _ (by rfl) _ (C14 c (.slice A mac.length cap)) _ _ (eG on) Try.underlying25 rfl i25 ?_))
  (go_at_call 11; (with_reducible refine (Send_of (c1, l1, f1, b1) A mac.length cap A_m c_m l c _ _ (fG m) mc.out hl7 HBY.out HS.out).mono ?_); rintro e_ w2 ⟨A_s, c_s, A_q, c_q, rfl, hc_s, hr_s, hc_q, hr_q, hb_⟩; have HB_ : Aside0 (Below w.heap.size w w2) := Aside0.mk (below_step (bG HB) hb_); have hzw2 := hb_.size; (try simp at hzw2); have on_ := Aside0.mk (box_below hb_ (eG on)); have orr_ := Aside0.mk (box_below hb_ (eG orr)); have ow_ := Aside0.mk (box_below hb_ (eG ow)); have HM_ := Aside0.mk (Kd.F_below (fG HM) hb_); clear HM; have HM := HM_; clear HM_; have HR_ := Aside0.mk (Kd.F_below (fG HR) hb_); clear HR; have HR := HR_; clear HR_; have m_ := Aside0.mk (Kd.F_below (fG m) hb_); clear m; have m := m_; clear m_; (try clear on onc onf onl); have on := on_; clear on_; obtain ⟨onc, onf, onl⟩ := cells_of on.out; (try clear orr orrc orrf orrl); have orr := orr_; clear orr_; obtain ⟨orrc, orrf, orrl⟩ := cells_of orr.out; (try clear ow owc owf owl); have ow := ow_; clear ow_; obtain ⟨owc, owf, owl⟩ := cells_of ow.out; clear HB hb_; have HB := HB_; clear HB_; have sc := Aside0.mk hc_s; have s := Aside0.mk (Kd.F_bound hr_s); clear hc_s hr_s; have qc := Aside0.mk hc_q; have q := Aside0.mk (Kd.F_bound hr_q); clear hc_q hr_q; skip)
  have ob := Aside0.mk (nb_2 w2 (.cells #[.int .i64 0, .int .i64 0, .int .i64 0, .int .u64 0, .int .i64 0, .int .i64 0, .int .i64 0, .int .u64 0, .int .i64 0, .int .i64 0, .int .i64 0, .int .i64 0, .int .i64 0, .slice none 0 0] 25 (0, 0)) (.cells #[.slice none 0 0] 27 (0, 0)))
  obtain ⟨obc, obf, obl⟩ := cells_of ob.out
  go_upto_region 5 with (first | ((with_reducible refine gate_store (t := 25) (p := 6) (v := .tmp 25) rfl ?_); refine wpList_store_all rfl 25 _ _ rfl rfl _ (C14 c1 (.slice A mac.length cap)) (by rfl) (by rfl) _ _ (ext_alloc (nb_1 _ _) _) rfl i25 (C14_one _ _ _ _) ?_; rintro w3 ⟨hx_, hk_, hb_, hzz_⟩; have HB_ : Aside0 (Below w.heap.size w w3) := Aside0.mk (Below.trans (bG HB) (Below.mono hb_ (by first | omega | (simp only [sz_alloc, sz_drew, sz_drewN]; omega)))); have hzw3 := Nat.le_of_eq hzz_.symm; (try simp at hzw3); clear hzz_; have ob_ := Aside0.mk (st_put ob.out hk_ (fun h_ => (by repeat (with_reducible first | exact h_ | apply ext_drew | apply ext_drewN | apply ext_alloc | refine blk_far ?_ (by show _ ≠ _; dsimp only; omega) _))) (by omega)); clear ob obc obf obl; have ob := ob_; clear ob_; obtain ⟨obc, obf, obl⟩ := cells_of ob.out; have on_ := Aside0.mk (st_put on.out hk_ (fun h_ => (by repeat (with_reducible first | exact h_ | apply ext_drew | apply ext_drewN | apply ext_alloc | refine blk_far ?_ (by show _ ≠ _; dsimp only; omega) _))) (by omega)); clear on onc onf onl; have on := on_; clear on_; obtain ⟨onc, onf, onl⟩ := cells_of on.out; have orr_ := Aside0.mk (st_put orr.out hk_ (fun h_ => (by repeat (with_reducible first | exact h_ | apply ext_drew | apply ext_drewN | apply ext_alloc | refine blk_far ?_ (by show _ ≠ _; dsimp only; omega) _))) (by omega)); clear orr orrc orrf orrl; have orr := orr_; clear orr_; obtain ⟨orrc, orrf, orrl⟩ := cells_of orr.out; have ow_ := Aside0.mk (st_put ow.out hk_ (fun h_ => (by repeat (with_reducible first | exact h_ | apply ext_drew | apply ext_drewN | apply ext_alloc | refine blk_far ?_ (by show _ ≠ _; dsimp only; omega) _))) (by omega)); clear ow owc owf owl; have ow := ow_; clear ow_; obtain ⟨owc, owf, owl⟩ := cells_of ow.out; have HM_ := Aside0.mk (Kd.F_step (fG HM) (fun j_ hj_ hl_ => hk_ j_ (by (try dsimp only at hj_); (try simp only [sz_alloc, sz_drew, sz_drewN, sz_set] at hj_); omega))); clear HM; have HM := HM_; clear HM_; have HR_ := Aside0.mk (Kd.F_step (fG HR) (fun j_ hj_ hl_ => hk_ j_ (by (try dsimp only at hj_); (try simp only [sz_alloc, sz_drew, sz_drewN, sz_set] at hj_); omega))); clear HR; have HR := HR_; clear HR_; have m_ := Aside0.mk (Kd.F_step (fG m) (fun j_ hj_ hl_ => hk_ j_ (by (try dsimp only at hj_); (try simp only [sz_alloc, sz_drew, sz_drewN, sz_set] at hj_); omega))); clear m; have m := m_; clear m_; have s_ := Aside0.mk (Kd.F_step (fG s) (fun j_ hj_ hl_ => hk_ j_ (by (try dsimp only at hj_); (try simp only [sz_alloc, sz_drew, sz_drewN, sz_set] at hj_); omega))); clear s; have s := s_; clear s_; have q_ := Aside0.mk (Kd.F_step (fG q) (fun j_ hj_ hl_ => hk_ j_ (by (try dsimp only at hj_); (try simp only [sz_alloc, sz_drew, sz_drewN, sz_set] at hj_); omega))); clear q; have q := q_; clear q_; (try clear oa oac oaf oal); have oa := Aside0.mk hx_; obtain ⟨oac, oaf, oal⟩ := cells_of oa.out; clear HB hb_ hk_ hx_; have HB := HB_; clear HB_))
  (have HM_ := Aside0.mk (Kd.F_far (p := ⟨w2.heap.size + 1, 0, none⟩) HM.out (fun j_ hj_ => by (try dsimp only at hj_); (try dsimp only); (try simp only [sz_alloc, sz_drew, sz_drewN, sz_set] at hj_); omega) (.slice A_s l1.length c_s)); clear HM; have HM := HM_; clear HM_; have HR_ := Aside0.mk (Kd.F_far (p := ⟨w2.heap.size + 1, 0, none⟩) HR.out (fun j_ hj_ => by (try dsimp only at hj_); (try dsimp only); (try simp only [sz_alloc, sz_drew, sz_drewN, sz_set] at hj_); omega) (.slice A_s l1.length c_s)); clear HR; have HR := HR_; clear HR_; have m_ := Aside0.mk (Kd.F_far (p := ⟨w2.heap.size + 1, 0, none⟩) m.out (fun j_ hj_ => by (try dsimp only at hj_); (try dsimp only); (try simp only [sz_alloc, sz_drew, sz_drewN, sz_set] at hj_); omega) (.slice A_s l1.length c_s)); clear m; have m := m_; clear m_; have s_ := Aside0.mk (Kd.F_far (p := ⟨w2.heap.size + 1, 0, none⟩) s.out (fun j_ hj_ => by (try dsimp only at hj_); (try dsimp only); (try simp only [sz_alloc, sz_drew, sz_drewN, sz_set] at hj_); omega) (.slice A_s l1.length c_s)); clear s; have s := s_; clear s_; have q_ := Aside0.mk (Kd.F_far (p := ⟨w2.heap.size + 1, 0, none⟩) q.out (fun j_ hj_ => by (try dsimp only at hj_); (try dsimp only); (try simp only [sz_alloc, sz_drew, sz_drewN, sz_set] at hj_); omega) (.slice A_s l1.length c_s)); clear q; have q := q_; clear q_; have on_ := Aside0.mk (blk_far (p := ⟨w2.heap.size + 1, 0, none⟩) on.out (by show _ ≠ _; dsimp only; omega) (.slice A_s l1.length c_s)); clear on onc onf onl; have on := on_; clear on_; obtain ⟨onc, onf, onl⟩ := cells_of on.out; have orr_ := Aside0.mk (blk_far (p := ⟨w2.heap.size + 1, 0, none⟩) orr.out (by show _ ≠ _; dsimp only; omega) (.slice A_s l1.length c_s)); clear orr orrc orrf orrl; have orr := orr_; clear orr_; obtain ⟨orrc, orrf, orrl⟩ := cells_of orr.out; have ow_ := Aside0.mk (blk_far (p := ⟨w2.heap.size + 1, 0, none⟩) ow.out (by show _ ≠ _; dsimp only; omega) (.slice A_s l1.length c_s)); clear ow owc owf owl; have ow := ow_; clear ow_; obtain ⟨owc, owf, owl⟩ := cells_of ow.out; have oa_ := Aside0.mk (blk_far (p := ⟨w2.heap.size + 1, 0, none⟩) oa.out (by show _ ≠ _; dsimp only; omega) (.slice A_s l1.length c_s)); clear oa oac oaf oal; have oa := oa_; clear oa_; obtain ⟨oac, oaf, oal⟩ := cells_of oa.out; have ob_ := Aside0.mk (blk_put ob.out 0 (.slice A_s l1.length c_s) (cs' := #[.slice A_s l1.length c_s]) rfl); clear ob obc obf obl; have ob := ob_; clear ob_; obtain ⟨obc, obf, obl⟩ := cells_of ob.out)
  go_wp2_with (first | ((with_reducible refine gate_dst (N := 30) rfl ?_); (try (refine gate_guard (by rfl) ?_; dsimp only)); refine wpList_load_row rfl 25 _ rfl _ (by rfl) _ (C14 c (.slice A mac.length cap)) _ _ (eG on) Try.underlying25 rfl i25 ?_))
  (go_at_call 24; (with_reducible refine (RSend_of (c1, l1, f1, b1) A mac.length cap R rc l c _ _ (fG HR) HC.out hl7 HBY.out H3.out H7.out HS.out).mono ?_); rintro e_ w4 ⟨A_t, c_t, A_u, c_u, rfl, hc_t, hr_t, hc_u, hr_u, hb_⟩; have HB_ : Aside0 (Below w.heap.size w w4) := Aside0.mk (below_step (bG HB) hb_); have hzw4 := hb_.size; (try simp at hzw4); have on_ := Aside0.mk (box_below hb_ (eG on)); have orr_ := Aside0.mk (box_below hb_ (eG orr)); have ow_ := Aside0.mk (box_below hb_ (eG ow)); have oa_ := Aside0.mk (box_below hb_ (eG oa)); have ob_ := Aside0.mk (box_below hb_ (eG ob)); have HM_ := Aside0.mk (Kd.F_below (fG HM) hb_); clear HM; have HM := HM_; clear HM_; have HR_ := Aside0.mk (Kd.F_below (fG HR) hb_); clear HR; have HR := HR_; clear HR_; have m_ := Aside0.mk (Kd.F_below (fG m) hb_); clear m; have m := m_; clear m_; have s_ := Aside0.mk (Kd.F_below (fG s) hb_); clear s; have s := s_; clear s_; have q_ := Aside0.mk (Kd.F_below (fG q) hb_); clear q; have q := q_; clear q_; (try clear on onc onf onl); have on := on_; clear on_; obtain ⟨onc, onf, onl⟩ := cells_of on.out; (try clear orr orrc orrf orrl); have orr := orr_; clear orr_; obtain ⟨orrc, orrf, orrl⟩ := cells_of orr.out; (try clear ow owc owf owl); have ow := ow_; clear ow_; obtain ⟨owc, owf, owl⟩ := cells_of ow.out; (try clear oa oac oaf oal); have oa := oa_; clear oa_; obtain ⟨oac, oaf, oal⟩ := cells_of oa.out; (try clear ob obc obf obl); have ob := ob_; clear ob_; obtain ⟨obc, obf, obl⟩ := cells_of ob.out; clear HB hb_; have HB := HB_; clear HB_; have tc := Aside0.mk hc_t; have t := Aside0.mk (Kd.F_bound hr_t); clear hc_t hr_t; have uc := Aside0.mk hc_u; have u := Aside0.mk (Kd.F_bound hr_u); clear hc_u hr_u; skip)
  have od := Aside0.mk (nb_2 w4 (.cells #[.int .i64 0, .int .i64 0, .int .i64 0, .int .u64 0, .int .i64 0, .int .i64 0, .int .i64 0, .int .u64 0, .int .i64 0, .int .i64 0, .int .i64 0, .int .i64 0, .int .i64 0, .slice none 0 0] 25 (0, 0)) (.cells #[.slice none 0 0] 27 (0, 0)))
  obtain ⟨odc, odf, odl⟩ := cells_of od.out
  go_upto_region 6 with (first | ((with_reducible refine gate_store (t := 25) (p := 10) (v := .tmp 33) rfl ?_); refine wpList_store_all rfl 25 _ _ rfl rfl _ (C14 c1 (.slice A mac.length cap)) (by rfl) (by rfl) _ _ (ext_alloc (nb_1 _ _) _) rfl i25 (C14_one _ _ _ _) ?_; rintro w5 ⟨hx_, hk_, hb_, hzz_⟩; have HB_ : Aside0 (Below w.heap.size w w5) := Aside0.mk (Below.trans (bG HB) (Below.mono hb_ (by first | omega | (simp only [sz_alloc, sz_drew, sz_drewN]; omega)))); have hzw5 := Nat.le_of_eq hzz_.symm; (try simp at hzw5); clear hzz_; have od_ := Aside0.mk (st_put od.out hk_ (fun h_ => (by repeat (with_reducible first | exact h_ | apply ext_drew | apply ext_drewN | apply ext_alloc | refine blk_far ?_ (by show _ ≠ _; dsimp only; omega) _))) (by omega)); clear od odc odf odl; have od := od_; clear od_; obtain ⟨odc, odf, odl⟩ := cells_of od.out; have orr_ := Aside0.mk (st_put orr.out hk_ (fun h_ => (by repeat (with_reducible first | exact h_ | apply ext_drew | apply ext_drewN | apply ext_alloc | refine blk_far ?_ (by show _ ≠ _; dsimp only; omega) _))) (by omega)); clear orr orrc orrf orrl; have orr := orr_; clear orr_; obtain ⟨orrc, orrf, orrl⟩ := cells_of orr.out; have ow_ := Aside0.mk (st_put ow.out hk_ (fun h_ => (by repeat (with_reducible first | exact h_ | apply ext_drew | apply ext_drewN | apply ext_alloc | refine blk_far ?_ (by show _ ≠ _; dsimp only; omega) _))) (by omega)); clear ow owc owf owl; have ow := ow_; clear ow_; obtain ⟨owc, owf, owl⟩ := cells_of ow.out; have oa_ := Aside0.mk (st_put oa.out hk_ (fun h_ => (by repeat (with_reducible first | exact h_ | apply ext_drew | apply ext_drewN | apply ext_alloc | refine blk_far ?_ (by show _ ≠ _; dsimp only; omega) _))) (by omega)); clear oa oac oaf oal; have oa := oa_; clear oa_; obtain ⟨oac, oaf, oal⟩ := cells_of oa.out; have ob_ := Aside0.mk (st_put ob.out hk_ (fun h_ => (by repeat (with_reducible first | exact h_ | apply ext_drew | apply ext_drewN | apply ext_alloc | refine blk_far ?_ (by show _ ≠ _; dsimp only; omega) _))) (by omega)); clear ob obc obf obl; have ob := ob_; clear ob_; obtain ⟨obc, obf, obl⟩ := cells_of ob.out; have HM_ := Aside0.mk (Kd.F_step (fG HM) (fun j_ hj_ hl_ => hk_ j_ (by (try dsimp only at hj_); (try simp only [sz_alloc, sz_drew, sz_drewN, sz_set] at hj_); omega))); clear HM; have HM := HM_; clear HM_; have HR_ := Aside0.mk (Kd.F_step (fG HR) (fun j_ hj_ hl_ => hk_ j_ (by (try dsimp only at hj_); (try simp only [sz_alloc, sz_drew, sz_drewN, sz_set] at hj_); omega))); clear HR; have HR := HR_; clear HR_; have m_ := Aside0.mk (Kd.F_step (fG m) (fun j_ hj_ hl_ => hk_ j_ (by (try dsimp only at hj_); (try simp only [sz_alloc, sz_drew, sz_drewN, sz_set] at hj_); omega))); clear m; have m := m_; clear m_; have s_ := Aside0.mk (Kd.F_step (fG s) (fun j_ hj_ hl_ => hk_ j_ (by (try dsimp only at hj_); (try simp only [sz_alloc, sz_drew, sz_drewN, sz_set] at hj_); omega))); clear s; have s := s_; clear s_; have q_ := Aside0.mk (Kd.F_step (fG q) (fun j_ hj_ hl_ => hk_ j_ (by (try dsimp only at hj_); (try simp only [sz_alloc, sz_drew, sz_drewN, sz_set] at hj_); omega))); clear q; have q := q_; clear q_; have t_ := Aside0.mk (Kd.F_step (fG t) (fun j_ hj_ hl_ => hk_ j_ (by (try dsimp only at hj_); (try simp only [sz_alloc, sz_drew, sz_drewN, sz_set] at hj_); omega))); clear t; have t := t_; clear t_; have u_ := Aside0.mk (Kd.F_step (fG u) (fun j_ hj_ hl_ => hk_ j_ (by (try dsimp only at hj_); (try simp only [sz_alloc, sz_drew, sz_drewN, sz_set] at hj_); omega))); clear u; have u := u_; clear u_; (try clear oc occ ocf ocl); have oc := Aside0.mk hx_; obtain ⟨occ, ocf, ocl⟩ := cells_of oc.out; clear HB hb_ hk_ hx_; have HB := HB_; clear HB_))
  (have HM_ := Aside0.mk (Kd.F_far (p := ⟨w4.heap.size + 1, 0, none⟩) HM.out (fun j_ hj_ => by (try dsimp only at hj_); (try dsimp only); (try simp only [sz_alloc, sz_drew, sz_drewN, sz_set] at hj_); omega) (.slice A_t l1.length c_t)); clear HM; have HM := HM_; clear HM_; have HR_ := Aside0.mk (Kd.F_far (p := ⟨w4.heap.size + 1, 0, none⟩) HR.out (fun j_ hj_ => by (try dsimp only at hj_); (try dsimp only); (try simp only [sz_alloc, sz_drew, sz_drewN, sz_set] at hj_); omega) (.slice A_t l1.length c_t)); clear HR; have HR := HR_; clear HR_; have m_ := Aside0.mk (Kd.F_far (p := ⟨w4.heap.size + 1, 0, none⟩) m.out (fun j_ hj_ => by (try dsimp only at hj_); (try dsimp only); (try simp only [sz_alloc, sz_drew, sz_drewN, sz_set] at hj_); omega) (.slice A_t l1.length c_t)); clear m; have m := m_; clear m_; have s_ := Aside0.mk (Kd.F_far (p := ⟨w4.heap.size + 1, 0, none⟩) s.out (fun j_ hj_ => by (try dsimp only at hj_); (try dsimp only); (try simp only [sz_alloc, sz_drew, sz_drewN, sz_set] at hj_); omega) (.slice A_t l1.length c_t)); clear s; have s := s_; clear s_; have q_ := Aside0.mk (Kd.F_far (p := ⟨w4.heap.size + 1, 0, none⟩) q.out (fun j_ hj_ => by (try dsimp only at hj_); (try dsimp only); (try simp only [sz_alloc, sz_drew, sz_drewN, sz_set] at hj_); omega) (.slice A_t l1.length c_t)); clear q; have q := q_; clear q_; have t_ := Aside0.mk (Kd.F_far (p := ⟨w4.heap.size + 1, 0, none⟩) t.out (fun j_ hj_ => by (try dsimp only at hj_); (try dsimp only); (try simp only [sz_alloc, sz_drew, sz_drewN, sz_set] at hj_); omega) (.slice A_t l1.length c_t)); clear t; have t := t_; clear t_; have u_ := Aside0.mk (Kd.F_far (p := ⟨w4.heap.size + 1, 0, none⟩) u.out (fun j_ hj_ => by (try dsimp only at hj_); (try dsimp only); (try simp only [sz_alloc, sz_drew, sz_drewN, sz_set] at hj_); omega) (.slice A_t l1.length c_t)); clear u; have u := u_; clear u_; have orr_ := Aside0.mk (blk_far (p := ⟨w4.heap.size + 1, 0, none⟩) orr.out (by show _ ≠ _; dsimp only; omega) (.slice A_t l1.length c_t)); clear orr orrc orrf orrl; have orr := orr_; clear orr_; obtain ⟨orrc, orrf, orrl⟩ := cells_of orr.out; have ow_ := Aside0.mk (blk_far (p := ⟨w4.heap.size + 1, 0, none⟩) ow.out (by show _ ≠ _; dsimp only; omega) (.slice A_t l1.length c_t)); clear ow owc owf owl; have ow := ow_; clear ow_; obtain ⟨owc, owf, owl⟩ := cells_of ow.out; have oa_ := Aside0.mk (blk_far (p := ⟨w4.heap.size + 1, 0, none⟩) oa.out (by show _ ≠ _; dsimp only; omega) (.slice A_t l1.length c_t)); clear oa oac oaf oal; have oa := oa_; clear oa_; obtain ⟨oac, oaf, oal⟩ := cells_of oa.out; have ob_ := Aside0.mk (blk_far (p := ⟨w4.heap.size + 1, 0, none⟩) ob.out (by show _ ≠ _; dsimp only; omega) (.slice A_t l1.length c_t)); clear ob obc obf obl; have ob := ob_; clear ob_; obtain ⟨obc, obf, obl⟩ := cells_of ob.out; have oc_ := Aside0.mk (blk_far (p := ⟨w4.heap.size + 1, 0, none⟩) oc.out (by show _ ≠ _; dsimp only; omega) (.slice A_t l1.length c_t)); clear oc occ ocf ocl; have oc := oc_; clear oc_; obtain ⟨occ, ocf, ocl⟩ := cells_of oc.out; have od_ := Aside0.mk (blk_put od.out 0 (.slice A_t l1.length c_t) (cs' := #[.slice A_t l1.length c_t]) rfl); clear od odc odf odl; have od := od_; clear od_; obtain ⟨odc, odf, odl⟩ := cells_of od.out)
  go_wp2_with (first | ((with_reducible refine gate_dst (N := 37) rfl ?_); (try (refine gate_guard (by rfl) ?_; dsimp only)); refine wpList_load_row rfl 25 _ rfl _ (by rfl) _ (C14 c1 (.slice A mac.length cap)) _ _ (eG oa) Try.underlying25 rfl i25 ?_) | ((with_reducible refine gate_dst (N := 38) rfl ?_); (try (refine gate_guard (by rfl) ?_; dsimp only)); refine wpList_load_row rfl 25 _ rfl _ (by rfl) _ (C14 c1 (.slice A mac.length cap)) _ _ (eG oc) Try.underlying25 rfl i25 ?_))
  (go_at_call 19; (with_reducible refine (Same_is c1 A cap A cap mac _ _ _ (fG HM) HMC.out (fG HM) HMC.out).mono ?_); rintro e_ w6 ⟨rfl, hb_⟩; have HB_ : Aside0 (Below w.heap.size w w6) := Aside0.mk (below_step (bG HB) hb_); have hzw6 := hb_.size; (try simp at hzw6); clear oa oac oaf oal; clear oc occ ocf ocl; have orr_ := Aside0.mk (box_below hb_ (eG orr)); have ow_ := Aside0.mk (box_below hb_ (eG ow)); have ob_ := Aside0.mk (box_below hb_ (eG ob)); have od_ := Aside0.mk (box_below hb_ (eG od)); have HR_ := Aside0.mk (Kd.F_below (fG HR) hb_); clear HR; have HR := HR_; clear HR_; have m_ := Aside0.mk (Kd.F_below (fG m) hb_); clear m; have m := m_; clear m_; have s_ := Aside0.mk (Kd.F_below (fG s) hb_); clear s; have s := s_; clear s_; have q_ := Aside0.mk (Kd.F_below (fG q) hb_); clear q; have q := q_; clear q_; have t_ := Aside0.mk (Kd.F_below (fG t) hb_); clear t; have t := t_; clear t_; have u_ := Aside0.mk (Kd.F_below (fG u) hb_); clear u; have u := u_; clear u_; (try clear orr orrc orrf orrl); have orr := orr_; clear orr_; obtain ⟨orrc, orrf, orrl⟩ := cells_of orr.out; (try clear ow owc owf owl); have ow := ow_; clear ow_; obtain ⟨owc, owf, owl⟩ := cells_of ow.out; (try clear ob obc obf obl); have ob := ob_; clear ob_; obtain ⟨obc, obf, obl⟩ := cells_of ob.out; (try clear od odc odf odl); have od := od_; clear od_; obtain ⟨odc, odf, odl⟩ := cells_of od.out; clear HB hb_; have HB := HB_; clear HB_)
  go_wp2_with fail
  (go_at_call 25; (with_reducible refine (Same07_t l1.length A_s c_s A_t c_t l1 _ rfl (Kd.F_now (fG s)) sc.out (Kd.F_now (fG t)) tc.out).mono ?_); rintro e_ w7 ⟨rfl, hb_⟩; have HB_ : Aside0 (Below w.heap.size w w7) := Aside0.mk (below_step (bG HB) hb_); have hzw7 := hb_.size; (try simp at hzw7); clear ob obc obf obl; clear od odc odf odl; have orr_ := Aside0.mk (box_below hb_ (eG orr)); have ow_ := Aside0.mk (box_below hb_ (eG ow)); have HR_ := Aside0.mk (Kd.F_below (fG HR) hb_); clear HR; have HR := HR_; clear HR_; have m_ := Aside0.mk (Kd.F_below (fG m) hb_); clear m; have m := m_; clear m_; have q_ := Aside0.mk (Kd.F_below (fG q) hb_); clear q; have q := q_; clear q_; have u_ := Aside0.mk (Kd.F_below (fG u) hb_); clear u; have u := u_; clear u_; (try clear orr orrc orrf orrl); have orr := orr_; clear orr_; obtain ⟨orrc, orrf, orrl⟩ := cells_of orr.out; (try clear ow owc owf owl); have ow := ow_; clear ow_; obtain ⟨owc, owf, owl⟩ := cells_of ow.out; clear HB hb_; have HB := HB_; clear HB_)
  go_wp2_with fail
  (go_at_call 26; (with_reducible refine (Same01_t f1.length A_q c_q A_u c_u f1 _ rfl (Kd.F_now (fG q)) qc.out (Kd.F_now (fG u)) uc.out).mono ?_); rintro e_ w8 ⟨rfl, hb_⟩; have HB_ : Aside0 (Below w.heap.size w w8) := Aside0.mk (below_step (bG HB) hb_); have hzw8 := hb_.size; (try simp at hzw8); have orr_ := Aside0.mk (box_below hb_ (eG orr)); have ow_ := Aside0.mk (box_below hb_ (eG ow)); have HR_ := Aside0.mk (Kd.F_below (fG HR) hb_); clear HR; have HR := HR_; clear HR_; have m_ := Aside0.mk (Kd.F_below (fG m) hb_); clear m; have m := m_; clear m_; (try clear orr orrc orrf orrl); have orr := orr_; clear orr_; obtain ⟨orrc, orrf, orrl⟩ := cells_of orr.out; (try clear ow owc owf owl); have ow := ow_; clear ow_; obtain ⟨owc, owf, owl⟩ := cells_of ow.out; clear HB hb_; have HB := HB_; clear HB_)
  go_wp2_with fail
  (go_at_call 25; (with_reducible refine (Same07_t l.length A_m c_m R rc l _ rfl (Kd.F_now (fG m)) mc.out (Kd.F_now (fG HR)) HC.out).mono ?_); rintro e_ w9 ⟨rfl, hb_⟩; have HB_ : Aside0 (Below w.heap.size w w9) := Aside0.mk (below_step (bG HB) hb_); have hzw9 := hb_.size; (try simp at hzw9); have orr_ := Aside0.mk (box_below hb_ (eG orr)); (try clear orr orrc orrf orrl); have orr := orr_; clear orr_; obtain ⟨orrc, orrf, orrl⟩ := cells_of orr.out; clear HB hb_; have HB := HB_; clear HB_)
  go_wp2_with fail
  (go_at_call 10; (with_reducible refine (heads_is _).mono ?_); rintro e_ w10 ⟨rfl, hb_⟩; have HB_ : Aside0 (Below w.heap.size w w10) := Aside0.mk (below_step (bG HB) hb_); have hzw10 := hb_.size; (try simp at hzw10); have orr_ := Aside0.mk (box_below hb_ (eG orr)); (try clear orr orrc orrf orrl); have orr := orr_; clear orr_; obtain ⟨orrc, orrf, orrl⟩ := cells_of orr.out; clear HB hb_; have HB := HB_; clear HB_)
  go_wp2
  go_ret
  exact ⟨rfl, HB.out⟩
def drawbridgelaw12_NicSends.f (a0_0 : Int) (a0_1 : Int) (a0_2 : Int) (a0_3 : Int) (a0_4 : Int) (a0_5 : Int) (a0_6 : Int) (a0_7 : Int) (a0_8 : Int) (a0_9 : Int) (a0_10 : Int) (a0_11 : Int) (a0_12 : Int) (l0_13 l1_0 : List Int) : Option Bool := if (∀ z ∈ l1_0, byte z) ∧ 0 ≤ a0_3 ∧ 0 ≤ a0_7 then some true else none
theorem drawbridgelaw12_NicSends.calls (a0_0 : Int) (a0_1 : Int) (a0_2 : Int) (a0_3 : Int) (a0_4 : Int) (a0_5 : Int) (a0_6 : Int) (a0_7 : Int) (a0_8 : Int) (a0_9 : Int) (a0_10 : Int) (a0_11 : Int) (a0_12 : Int) (A0_13 : Option Addr) (c0_13 : Nat) (l0_13 : List Int) (A1_0 : Option Addr) (c1_0 : Nat) (l1_0 : List Int) (r : Bool) (w : World) (hr0_13 : Kd.C (Kd.int .u8) w A0_13 l0_13.length l0_13) (hc0_13 : l0_13.length ≤ c0_13) (hr1_0 : Kd.C (Kd.int .u8) w A1_0 l1_0.length l1_0) (hc1_0 : l1_0.length ≤ c1_0) (h : drawbridgelaw12_NicSends.f a0_0 a0_1 a0_2 a0_3 a0_4 a0_5 a0_6 a0_7 a0_8 a0_9 a0_10 a0_11 a0_12 l0_13 l1_0 = some r) :
    Calls Try.prog 5 #[.agg #[.int .i64 a0_0, .int .i64 a0_1, .int .i64 a0_2, .int .u64 a0_3, .int .i64 a0_4, .int .i64 a0_5, .int .i64 a0_6, .int .u64 a0_7, .int .i64 a0_8, .int .i64 a0_9, .int .i64 a0_10, .int .i64 a0_11, .int .i64 a0_12, .slice A0_13 l0_13.length c0_13], .agg #[.slice A1_0 l1_0.length c1_0]] w fun e w' => e = .returned (.bool r) ∧ Below w.heap.size w w' := by
  unfold drawbridgelaw12_NicSends.f at h
  split at h
  case isFalse => cases h
  case isTrue hh =>
  obtain rfl := Option.some.inj h
  obtain ⟨h1, h2, h3⟩ := hh
  cases hq : decide ((l1_0.length : Int) > 70000) with
  | true => exact sends_q A0_13 c0_13 l0_13 A1_0 c1_0 l1_0 (mk13 a0_0 a0_1 a0_2 a0_3 a0_4 a0_5 a0_6 a0_7 a0_8 a0_9 a0_10 a0_11 a0_12) w _ _ (F_in hr0_13) hc0_13 (F_in hr1_0) hc1_0 hq
  | false => exact sends_is A0_13 c0_13 l0_13 A1_0 c1_0 l1_0 (mk13 a0_0 a0_1 a0_2 a0_3 a0_4 a0_5 a0_6 a0_7 a0_8 a0_9 a0_10 a0_11 a0_12) w _ _ (F_in hr0_13) hc0_13 (F_in hr1_0) hc1_0 hq h1 h2 h3
end Go.Proofs.Ytdblpflepfcnjaa.Q
end
section
namespace Go.Proofs.Ytdblpflepfcnjaa.Pure
open Go.RowKit Go.Proofs.Ytdblpflepfcnjaa.Q Go.Proofs.YtdblpflepfcnjaaW.PrintWords Go.Proofs.YtdblpflepfcnjaaW.PrintLast Go.Proofs.YtdblpflepfcnjaaW.PrintMore Go.Proofs.Ytdblpflepfcnjaa.L
/-- The pure statement of NicSends: numbers and lists alone. -/
def NicSends.Said : Prop := ∀ (a0_0 : Int) (a0_1 : Int) (a0_2 : Int) (a0_3 : Int) (a0_4 : Int) (a0_5 : Int) (a0_6 : Int) (a0_7 : Int) (a0_8 : Int) (a0_9 : Int) (a0_10 : Int) (a0_11 : Int) (a0_12 : Int) (l0_13 : List Int) (l1_0 : List Int), (Lit.int .i64 a0_0).wf = true → (Lit.int .i64 a0_1).wf = true → (Lit.int .i64 a0_2).wf = true → (Lit.int .u64 a0_3).wf = true → (Lit.int .i64 a0_4).wf = true → (Lit.int .i64 a0_5).wf = true → (Lit.int .i64 a0_6).wf = true → (Lit.int .u64 a0_7).wf = true → (Lit.int .i64 a0_8).wf = true → (Lit.int .i64 a0_9).wf = true → (Lit.int .i64 a0_10).wf = true → (Lit.int .i64 a0_11).wf = true → (Lit.int .i64 a0_12).wf = true → l0_13.length ≤ maxLen → (∀ z ∈ l0_13, (Lit.int .u8 z).wf = true) → l1_0.length ≤ maxLen → (∀ z ∈ l1_0, (Lit.int .u8 z).wf = true) → drawbridgelaw12_NicSends.f a0_0 a0_1 a0_2 a0_3 a0_4 a0_5 a0_6 a0_7 a0_8 a0_9 a0_10 a0_11 a0_12 l0_13 l1_0 = some true
end Go.Proofs.Ytdblpflepfcnjaa.Pure
end
section
/- NicSends, in plain numbers and lists: what is asked of the inputs is what every Go value is. No condition beyond the statement's own. -/
namespace Go.Proofs.Ytdblpflepfcnjaa.Pure
open Go.RowKit Go.Proofs.Ytdblpflepfcnjaa.Q Go.Proofs.Ytdblpflepfcnjaa.L
theorem NicSends : NicSends.Said := by
  intro a0 a1 a2 a3 a4 a5 a6 a7 a8 a9 a10 a11 a12 lm l _ _ _ h3 _ _ _ h7 _ _ _ _ _ _ _ _ hlb
  unfold drawbridgelaw12_NicSends.f
  rw [if_pos ⟨fun z hz => byte_wf (hlb z hz), (u64_wf h3).1, (u64_wf h7).1⟩]
end Go.Proofs.Ytdblpflepfcnjaa.Pure
end
