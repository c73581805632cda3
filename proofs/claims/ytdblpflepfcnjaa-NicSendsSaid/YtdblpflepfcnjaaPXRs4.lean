import Derived.Test.YtdblpflepfcnjaaPZ1
import Derived.Test.YtdblpflepfcnjaaPZ4
/- The document's Send: a bad frame. -/
namespace Go.Proofs.Ytdblpflepfcnjaa.Q
open Go.RowKit Go.Proofs.YtdblpflepfcnjaaW.PrintWords Go.Proofs.YtdblpflepfcnjaaW.PrintLast Go.Proofs.YtdblpflepfcnjaaW.PrintMore Go.Proofs.Ytdblpflepfcnjaa.L
attribute [local go_sem] Instr.field part asAgg lt_step max2_int min2_int max_two min_two max_three min_three max_four min_four lt_0_1 lt_0_2 lt_1_2 lt_0_3 lt_1_3 lt_2_3 lt_0_4 lt_1_4 lt_2_4 lt_3_4 lt_0_5 lt_1_5 lt_2_5 lt_3_5 lt_4_5 lt_0_6 lt_1_6 lt_2_6 lt_3_6 lt_4_6 lt_5_6 lt_0_7 lt_1_7 lt_2_7 lt_3_7 lt_4_7 lt_5_7 lt_6_7 lt_0_8 lt_1_8 lt_2_8 lt_3_8 lt_4_8 lt_5_8 lt_6_8 lt_7_8
set_option linter.unusedVariables false
set_option linter.unusedSimpArgs false
theorem flagD_is (d : List Int) : d.getD 10 0 = flagD d := rfl
theorem restD_is (d : List Int) : d.getD 11 0 = restD d := rfl
theorem rget_c (n : Nat) (A : Option Addr) (c : Nat) (l : List Int) (w : World) (hn : l.length = n) (hr : Kd.C (Kd.int .u8) w A n l) (hc : n ≤ c) (hb : ∀ x ∈ l, byte x) :
    Calls Try.prog 39 #[.slice A n c, .bool false] w fun e w' => e = .returned (.int .u64 (getB l false)) ∧ Below w.heap.size w w' := by
  subst hn
  exact drawbridgeref01_Get.calls A c l false _ w hr hc (by unfold drawbridgeref01_Get.f; exact if_pos (fun x hx => hb x (List.mem_of_mem_take hx)))
theorem rget_buf (A : Option Addr) (c : Nat) (d : List Int) (w : World) (hn : d.length = 16) (hb : ∀ x ∈ d, byte x) (hr : Kd.C (Kd.int .u8) w A 8 (d.take 8)) (hc : 8 ≤ c) :
    Calls Try.prog 39 #[.slice A 8 c, .bool false] w fun e w' => e = .returned (.int .u64 (bufD d)) ∧ Below w.heap.size w w' :=
  rget_c 8 A c (d.take 8) w (by simp [hn]) hr hc (fun z hz => hb z (List.mem_of_mem_take hz))
theorem rget_size (A : Option Addr) (c : Nat) (d : List Int) (w : World) (hn : d.length = 16) (hb : ∀ x ∈ d, byte x) (hr : Kd.C (Kd.int .u8) w A 2 ((d.drop 8).take 2)) (hc : 2 ≤ c) :
    Calls Try.prog 39 #[.slice A 2 c, .bool false] w fun e w' => e = .returned (.int .u64 (sizeD d)) ∧ Below w.heap.size w w' :=
  rget_c 2 A c ((d.drop 8).take 2) w (by simp [hn]) hr hc (fun z hz => hb z (List.mem_of_mem_drop (List.mem_of_mem_take hz)))
set_option maxHeartbeats 1600000 in
set_option maxRecDepth 100000 in
theorem rsend_isnot (A : Option Addr) (m cap : Nat) (R : Option Addr) (rc : Nat) (l : List Int) (c : Nat → Int) (w : World) (ok : Nat → Prop) (hr : Kd.F (Kd.int .u8) w ok R l.length l) (hc : l.length ≤ rc) (at_ : Int) (hk : okC c m = true) (hb0 : (Int.tmod (c 0) 2 == 0) = false) (hb5 : (c 5 == c 6) = false) (hat : IntKind.u64.wrap (c 3 + IntKind.u64.wrap (16 * IntKind.u64.wrap (c 5))) = at_) (ha : u64B at_) (hl : (l.length : Int) ≤ 70000) (h3 : 0 ≤ c 3) (h7 : 0 ≤ c 7) (d : List Int) (x : Int) (hp : bytesZ l at_ 16 = (d, true)) (hdl : d.length = 16) (hx : d.getD 10 0 = x) (ho : (Int.tmod x 2 == 0) = false) (ho' : (x % 2 == 0) = false) (hne : ¬ c 4 = 0) (hbu : u64B (bufD d)) (hki : i64B (sizeD d)) (hdb : ∀ z ∈ d, byte z) (hws : wrap64 (sizeD d) = sizeD d) (fr : List Int) (hpb : bytesZ l (bufD d) (sizeD d) = (fr, false)) :
    Calls Try.prog 24 #[.agg (C14 c (.slice A m cap)), .agg #[.slice R l.length rc]] w (SendPost A m cap ok w (failC (upd c 5 (Int.tmod (wrap64 (c 5 + 1)) (c 4)))) (fillL l (IntKind.u64.wrap (at_ + 10)) [Go.bits .andNot .u8 (flagD d) 1, restD d, 2, 0]) [] true) := by
  have HB := Aside0.mk (Below.refl w.heap.size w)
  have HR := Aside0.mk (Kd.F_bound hr)
  have HC := Aside0.mk hc
  have hu := Try.underlying25
  have hu7 := Try.underlying27
  have HK := Aside0.mk hk
  have HA := Aside0.mk ha
  have HL := Aside0.mk hl
  have H3 := Aside0.mk h3
  have H7 := Aside0.mk h7
  clear h3 h7
  have HP := Aside0.mk hp
  have HX := Aside0.mk hx
  have HDL := Aside0.mk hdl
  clear hp hx hdl
  have HBU := Aside0.mk hbu
  have HKI := Aside0.mk hki
  have HDB := Aside0.mk hdb
  have HPB := Aside0.mk hpb
  clear hbu hki hdb hpb
  have HFL := Aside0.mk (refFill_is l (IntKind.u64.wrap (at_ + 10)) [Go.bits .andNot .u8 (flagD d) 1, restD d, 2, 0] (wrap_u _) (by simp) hl)
  clear hr hc hk ha hl
  go_enter Try.func24, Try.ntmps24
  go_upto_region 1 with fail
  obtain ⟨wa, hwa, on0, or0, pn0, pr0, hb_, hz0⟩ := letter4 w (.cells (C14 c (.slice A m cap)) 25 (0, 0)) (.cells #[.slice R l.length rc] 27 (0, 0)) (.cells #[.int .i64 0, .int .i64 0, .int .i64 0, .int .u64 0, .int .i64 0, .int .i64 0, .int .i64 0, .int .u64 0, .int .i64 0, .int .i64 0, .int .i64 0, .int .i64 0, .int .i64 0, .slice none 0 0] 25 (0, 0)) (.cells #[.slice none 0 0] 27 (0, 0))
  rw [hwa]
  clear hwa
  have hzwa := Nat.le_of_eq hz0.symm
  clear hz0
  have on := Aside0.mk on0
  have orr := Aside0.mk or0
  have pn := Aside0.mk pn0
  have pr := Aside0.mk pr0
  clear on0 or0 pn0 pr0
  obtain ⟨onc, onf, onl⟩ := cells_of on.out
  obtain ⟨orrc, orrf, orrl⟩ := cells_of orr.out
  obtain ⟨pnc, pnf, pnl⟩ := cells_of pn.out
  obtain ⟨prc, prf, prl⟩ := cells_of pr.out
  have HB_ : Aside0 (Below w.heap.size w wa) := ⟨hb_⟩
  have HR_ := Aside0.mk (Kd.F_below HR.out hb_)
  clear HB HR hb_; have HB := HB_; have HR := HR_; clear HB_ HR_
  have hc0 : World.cell? wa ⟨w.heap.size, 0, none⟩ = some (.int .i64 (c 0)) := (onc 0).trans rfl
  have hc5 : World.cell? wa ⟨w.heap.size, 5, none⟩ = some (.int .i64 (c 5)) := (onc 5).trans rfl
  have hc6 : World.cell? wa ⟨w.heap.size, 6, none⟩ = some (.int .i64 (c 6)) := (onc 6).trans rfl
  clear onc
  have onc := trivial
  go_wp2_with (first | ((with_reducible refine gate_dst (N := 14) rfl ?_); (try (refine gate_guard (by rfl) ?_; dsimp only)); refine wpList_load_row rfl 25 _ rfl _ (by rfl) _ (C14 c (.slice A m cap)) _ _ (eG on) Try.underlying25 rfl i25 ?_))
  (go_at_call 20; (with_reducible refine (rCheck_of true c A m cap _ H3.out H7.out HK.out).mono ?_); rintro e_ w1 ⟨rfl, hb_⟩; have HB_ : Aside0 (Below w.heap.size w w1) := Aside0.mk (below_step (bG HB) hb_); have hzw1 := hb_.size; (try simp at hzw1); have on_ := Aside0.mk (box_below hb_ (eG on)); have orr_ := Aside0.mk (box_below hb_ (eG orr)); have pn_ := Aside0.mk (box_below hb_ (eG pn)); have pr_ := Aside0.mk (box_below hb_ (eG pr)); have HR_ := Aside0.mk (Kd.F_below (fG HR) hb_); clear HR; have HR := HR_; clear HR_; (try clear on onc onf onl); have on := on_; clear on_; obtain ⟨onc, onf, onl⟩ := cells_of on.out; (try clear orr orrc orrf orrl); have orr := orr_; clear orr_; obtain ⟨orrc, orrf, orrl⟩ := cells_of orr.out; (try clear pn pnc pnf pnl); have pn := pn_; clear pn_; obtain ⟨pnc, pnf, pnl⟩ := cells_of pn.out; (try clear pr prc prf prl); have pr := pr_; clear pr_; obtain ⟨prc, prf, prl⟩ := cells_of pr.out; clear HB hb_; have HB := HB_; clear HB_)
  clear hc0 hc5 hc6
  have hc0 : World.cell? w1 ⟨w.heap.size, 0, none⟩ = some (.int .i64 (c 0)) := (onc 0).trans rfl
  have hc3 : World.cell? w1 ⟨w.heap.size, 3, none⟩ = some (.int .u64 (c 3)) := (onc 3).trans rfl
  have hc5 : World.cell? w1 ⟨w.heap.size, 5, none⟩ = some (.int .i64 (c 5)) := (onc 5).trans rfl
  have hc6 : World.cell? w1 ⟨w.heap.size, 6, none⟩ = some (.int .i64 (c 6)) := (onc 6).trans rfl
  clear onc
  have onc := trivial
  go_wp2_with fail
  (go_at_call 37; (with_reducible refine (rbytes_any R rc l at_ 16 d true _ (Kd.F_now HR.out) HC.out HA.out i64B16 HL.out HP.out).mono ?_); rintro e_ w2 ⟨v_q, rfl, hr_q, hb_⟩; have HB_ : Aside0 (Below w.heap.size w w2) := Aside0.mk (below_step (bG HB) hb_); have hzw2 := hb_.size; (try simp at hzw2); have on_ := Aside0.mk (box_below hb_ (eG on)); have orr_ := Aside0.mk (box_below hb_ (eG orr)); have pn_ := Aside0.mk (box_below hb_ (eG pn)); have pr_ := Aside0.mk (box_below hb_ (eG pr)); have HR_ := Aside0.mk (Kd.F_below (fG HR) hb_); clear HR; have HR := HR_; clear HR_; (try clear on onc onf onl); have on := on_; clear on_; obtain ⟨onc, onf, onl⟩ := cells_of on.out; (try clear orr orrc orrf orrl); have orr := orr_; clear orr_; obtain ⟨orrc, orrf, orrl⟩ := cells_of orr.out; (try clear pn pnc pnf pnl); have pn := pn_; clear pn_; obtain ⟨pnc, pnf, pnl⟩ := cells_of pn.out; (try clear pr prc prf prl); have pr := pr_; clear pr_; obtain ⟨prc, prf, prl⟩ := cells_of pr.out; clear HB hb_; have HB := HB_; clear HB_; obtain ⟨A_q, c_q, ev_, hc_q, hf_q⟩ := R_Fl hr_q; subst ev_; have qc := Aside0.mk hc_q; have q := Aside0.mk (Kd.F_bound hf_q); clear hc_q hf_q hr_q; skip)
  clear hc0 hc3 hc5 hc6
  have hdl := HDL.out
  obtain ⟨ad, rfl⟩ := row_some2 q.out 10 (by omega)
  have hcell : w2.cell? ⟨ad.block, ad.off + 10, none⟩ = some (.int .u8 x) := row_at2 q.out 10 (by omega) HX.out
  rw [hdl]
  rw [hdl] at q qc
  clear hdl
  have hc4 : World.cell? w2 ⟨w.heap.size, 4, none⟩ = some (.int .i64 (c 4)) := (onc 4).trans rfl
  have hc5 : World.cell? w2 ⟨w.heap.size, 5, none⟩ = some (.int .i64 (c 5)) := (onc 5).trans rfl
  clear onc
  have onc := trivial
  go_upto_region 11 with fail
  (have HR_ := Aside0.mk (Kd.F_far (p := ⟨w.heap.size, 5, none⟩) HR.out (fun j_ hj_ => by (try dsimp only at hj_); (try dsimp only); (try simp only [sz_alloc, sz_drew, sz_drewN, sz_set] at hj_); omega) (.int .i64 (Int.tmod (wrap64 (c 5 + 1)) (c 4)))); clear HR; have HR := HR_; clear HR_; have q_ := Aside0.mk (Kd.F_far (p := ⟨w.heap.size, 5, none⟩) q.out (fun j_ hj_ => by (try dsimp only at hj_); (try dsimp only); (try simp only [sz_alloc, sz_drew, sz_drewN, sz_set] at hj_); omega) (.int .i64 (Int.tmod (wrap64 (c 5 + 1)) (c 4)))); clear q; have q := q_; clear q_; have orr_ := Aside0.mk (blk_far (p := ⟨w.heap.size, 5, none⟩) orr.out (by show _ ≠ _; dsimp only; omega) (.int .i64 (Int.tmod (wrap64 (c 5 + 1)) (c 4)))); clear orr orrc orrf orrl; have orr := orr_; clear orr_; obtain ⟨orrc, orrf, orrl⟩ := cells_of orr.out; have pn_ := Aside0.mk (blk_far (p := ⟨w.heap.size, 5, none⟩) pn.out (by show _ ≠ _; dsimp only; omega) (.int .i64 (Int.tmod (wrap64 (c 5 + 1)) (c 4)))); clear pn pnc pnf pnl; have pn := pn_; clear pn_; obtain ⟨pnc, pnf, pnl⟩ := cells_of pn.out; have pr_ := Aside0.mk (blk_far (p := ⟨w.heap.size, 5, none⟩) pr.out (by show _ ≠ _; dsimp only; omega) (.int .i64 (Int.tmod (wrap64 (c 5 + 1)) (c 4)))); clear pr prc prf prl; have pr := pr_; clear pr_; obtain ⟨prc, prf, prl⟩ := cells_of pr.out; have on_ := Aside0.mk (blk_put on.out 5 (.int .i64 (Int.tmod (wrap64 (c 5 + 1)) (c 4))) (cs' := C14 (upd c 5 (Int.tmod (wrap64 (c 5 + 1)) (c 4))) (.slice A m cap)) rfl); clear on onc onf onl; have on := on_; clear on_; obtain ⟨onc, onf, onl⟩ := cells_of on.out)
  clear hc4 hc5 hcell
  obtain ⟨qb, qo, eA, _⟩ := F_cell' q.out (by decide)
  injection eA with eA
  subst eA
  obtain ⟨i096, hi096, _, hsz96, _⟩ := info_parts infoB
  have hc8 := qc.out
  have hcut1 := cut_to (P := Try.prog) 23 5 .i64 Try.underlying23 hi096 (some ⟨qb, qo, none⟩) 16 c_q 8 (by decide) (by decide) qc.out
  have hcut2 := cut_mid (P := Try.prog) 23 5 .i64 .i64 Try.underlying23 hi096 1 hsz96 (some ⟨qb, qo, none⟩) 16 c_q 8 10 (by decide) (by decide) (by decide) qc.out
  rw [if_neg (by omega)] at hcut2
  simp only [Option.map_some, add_eq] at hcut2
  have hq3 : Aside0 (Kd.F (Kd.int .u8) _ _ (some ⟨qb, qo, none⟩) 8 (d.take 8)) := ⟨F_sub q.out 0 8 (by decide)⟩
  have hq4 := Aside0.mk (F_sub q.out 8 2 (by decide))
  go_wp2_with fail
  (go_at_call 39; (with_reducible refine (rget_size _ _ d _ HDL.out HDB.out (Kd.F_now (fG hq4)) (by omega)).mono ?_); rintro e_ w3 ⟨rfl, hb_⟩; have HB_ : Aside0 (Below w.heap.size w w3) := Aside0.mk (below_step (bG HB) hb_); have hzw3 := hb_.size; (try simp at hzw3); have on_ := Aside0.mk (box_below hb_ (eG on)); have orr_ := Aside0.mk (box_below hb_ (eG orr)); have pn_ := Aside0.mk (box_below hb_ (eG pn)); have pr_ := Aside0.mk (box_below hb_ (eG pr)); have HR_ := Aside0.mk (Kd.F_below (fG HR) hb_); clear HR; have HR := HR_; clear HR_; have q_ := Aside0.mk (Kd.F_below (fG q) hb_); clear q; have q := q_; clear q_; have hq3_ := Aside0.mk (Kd.F_below (fG hq3) hb_); clear hq3; have hq3 := hq3_; clear hq3_; (try clear on onc onf onl); have on := on_; clear on_; obtain ⟨onc, onf, onl⟩ := cells_of on.out; (try clear orr orrc orrf orrl); have orr := orr_; clear orr_; obtain ⟨orrc, orrf, orrl⟩ := cells_of orr.out; (try clear pn pnc pnf pnl); have pn := pn_; clear pn_; obtain ⟨pnc, pnf, pnl⟩ := cells_of pn.out; (try clear pr prc prf prl); have pr := pr_; clear pr_; obtain ⟨prc, prf, prl⟩ := cells_of pr.out; clear HB hb_; have HB := HB_; clear HB_)
  go_upto_region 12 with fail
  refine start_ (n := 11) (S := fun w' => w'.heap[w.heap.size + 1]? = some (.cells #[.slice R l.length rc] 27 (0, 0))) (ds := []) #[false, false, false, false, false, false, false, false, false, false, false] (by kernel_rfl) rfl rfl (eG orr) (fun hHeld => ?_)
  refine rowL_ (i := 0) (N := some 73) #[true, false, false, false, false, false, false, false, false, false, false] rfl rfl (by kernel_rfl) 27 _ rfl (w.heap.size + 1) (#[.slice R l.length rc]) (fun _ _ _ h => h) (by rfl) (by rfl) _ _ _ (fun _ h => h) Try.underlying27 rfl i27 hHeld (a' := ?_) ?_ ?_
  rotate_left
  · simp only [Act.put, List.setIfInBounds_toArray, List.set_cons_zero, List.set_cons_succ, i64_w, i32_w]
    rfl
  refine pure_ (i := 1) (N := some 74) (v := ?_) (a' := ?_) #[true, true, false, false, false, false, false, false, false, false, false] rfl rfl (by kernel_rfl) (fun _ _ _ h => h) (Or.inl ⟨by rfl, ?_⟩) ?_ ?_
  rotate_left
  · intro w'
    go_simp
    with_reducible rfl
  rotate_left
  · simp only [Act.put, List.setIfInBounds_toArray, List.set_cons_zero, List.set_cons_succ, i64_w, i32_w]
    rfl
  refine pure_ (i := 2) (N := some 75) (v := ?_) (a' := ?_) #[true, true, true, false, false, false, false, false, false, false, false] rfl rfl (by kernel_rfl) (fun _ _ _ h => h) (Or.inl ⟨by rfl, ?_⟩) ?_ ?_
  rotate_left
  · intro w'
    go_simp
    with_reducible rfl
  rotate_left
  · simp only [Act.put, List.setIfInBounds_toArray, List.set_cons_zero, List.set_cons_succ, i64_w, i32_w]
    rfl
  refine pure_ (i := 4) (N := some 77) (v := ?_) (a' := ?_) #[true, true, true, false, true, false, false, false, false, false, false] rfl rfl (by kernel_rfl) (fun _ _ _ h => h) (Or.inl ⟨by rfl, ?_⟩) ?_ ?_
  rotate_left
  · intro w'
    go_simp
    with_reducible rfl
  rotate_left
  · simp only [Act.put, List.setIfInBounds_toArray, List.set_cons_zero, List.set_cons_succ, i64_w, i32_w]
    rfl
  refine one_ (i := 3) (N := some 76) #[true, true, true, true, true, false, false, false, false, false, false] rfl rfl (by kernel_rfl) (by decide) (fun K hK => ?_)
  (refine goes_ Try.func39 (by kernel_rfl) rfl #[.slice (some ⟨qb, qo, none⟩) 8 c_q, .bool false] (by rfl) rfl rfl (by (try simp only [List.map_toArray, List.map_cons, List.map_nil]); first | done | rfl) ?_; (with_reducible refine (rget_buf _ _ d _ HDL.out HDB.out (Kd.F_now (fG hq3)) (by omega)).mono ?_); rintro e_ w4 ⟨rfl, hb_⟩; refine ⟨_, rfl, ?_⟩; have HB_ : Aside0 (Below w.heap.size w w4) := Aside0.mk (below_step (bG HB) hb_); have hzw4 := hb_.size; (try simp at hzw4); have on_ := Aside0.mk (box_below hb_ (eG on)); have orr_ := Aside0.mk (box_below hb_ (eG orr)); have pn_ := Aside0.mk (box_below hb_ (eG pn)); have pr_ := Aside0.mk (box_below hb_ (eG pr)); have HR_ := Aside0.mk (Kd.F_below (fG HR) hb_); clear HR; have HR := HR_; clear HR_; have q_ := Aside0.mk (Kd.F_below (fG q) hb_); clear q; have q := q_; clear q_; (try clear on onc onf onl); have on := on_; clear on_; obtain ⟨onc, onf, onl⟩ := cells_of on.out; (try clear orr orrc orrf orrl); have orr := orr_; clear orr_; obtain ⟨orrc, orrf, orrl⟩ := cells_of orr.out; (try clear pn pnc pnf pnl); have pn := pn_; clear pn_; obtain ⟨pnc, pnf, pnl⟩ := cells_of pn.out; (try clear pr prc prf prl); have pr := pr_; clear pr_; obtain ⟨prc, prf, prl⟩ := cells_of pr.out; clear HB hb_; have HB := HB_; clear HB_)
  refine hK.out _ _ (eG orr) (fun hHeld => ?_)
  clear hK K
  refine norm_ (a' := ?_) ?_ ?_
  rotate_left
  · simp only [Act.put, List.setIfInBounds_toArray, List.set_cons_zero, List.set_cons_succ, i64_w, i32_w]
    rfl
  refine one_ (i := 5) (N := some 78) #[true, true, true, true, true, true, false, false, false, false, false] rfl rfl (by kernel_rfl) (by decide) (fun K hK => ?_)
  (refine goes_ Try.func37 (by kernel_rfl) rfl #[.agg #[.slice R l.length rc], .int .u64 (bufD d), .int .i64 (sizeD d)] (by rfl) rfl rfl (by (try simp only [List.map_toArray, List.map_cons, List.map_nil]); first | done | rfl) ?_; (with_reducible refine (rbytes_any R rc l (bufD d) (sizeD d) fr false _ (Kd.F_now (fG HR)) HC.out HBU.out HKI.out HL.out HPB.out).mono ?_); rintro e_ w5 ⟨v_t, rfl, hr_t, hb_⟩; refine ⟨_, rfl, ?_⟩; have HB_ : Aside0 (Below w.heap.size w w5) := Aside0.mk (below_step (bG HB) hb_); have hzw5 := hb_.size; (try simp at hzw5); have on_ := Aside0.mk (box_below hb_ (eG on)); have orr_ := Aside0.mk (box_below hb_ (eG orr)); have pn_ := Aside0.mk (box_below hb_ (eG pn)); have pr_ := Aside0.mk (box_below hb_ (eG pr)); have HR_ := Aside0.mk (Kd.F_below (fG HR) hb_); clear HR; have HR := HR_; clear HR_; have q_ := Aside0.mk (Kd.F_below (fG q) hb_); clear q; have q := q_; clear q_; (try clear on onc onf onl); have on := on_; clear on_; obtain ⟨onc, onf, onl⟩ := cells_of on.out; (try clear orr orrc orrf orrl); have orr := orr_; clear orr_; obtain ⟨orrc, orrf, orrl⟩ := cells_of orr.out; (try clear pn pnc pnf pnl); have pn := pn_; clear pn_; obtain ⟨pnc, pnf, pnl⟩ := cells_of pn.out; (try clear pr prc prf prl); have pr := pr_; clear pr_; obtain ⟨prc, prf, prl⟩ := cells_of pr.out; clear HB hb_; have HB := HB_; clear HB_; obtain ⟨A_t, c_t, ev_, hc_t, hf_t⟩ := R_Fl hr_t; subst ev_; have tc := Aside0.mk hc_t; have t := Aside0.mk (Kd.F_bound hf_t); clear hc_t hf_t hr_t; skip)
  refine hK.out _ _ (eG orr) (fun hHeld => ?_)
  clear hK K
  refine norm_ (a' := ?_) ?_ ?_
  rotate_left
  · simp only [Act.put, List.setIfInBounds_toArray, List.set_cons_zero, List.set_cons_succ, i64_w, i32_w]
    rfl
  refine pure_ (i := 6) (N := some 72) (v := ?_) (a' := ?_) #[true, true, true, true, true, true, true, false, false, false, false] rfl rfl (by kernel_rfl) (fun _ _ _ h => h) (Or.inl ⟨by rfl, ?_⟩) ?_ ?_
  rotate_left
  · intro w'
    go_simp
    with_reducible rfl
  rotate_left
  · simp only [Act.put, List.setIfInBounds_toArray, List.set_cons_zero, List.set_cons_succ, i64_w, i32_w]
    rfl
  refine pure_ (i := 7) (N := some 79) (v := ?_) (a' := ?_) #[true, true, true, true, true, true, true, true, false, false, false] rfl rfl (by kernel_rfl) (fun _ _ _ h => h) (Or.inl ⟨by rfl, ?_⟩) ?_ ?_
  rotate_left
  · intro w'
    go_simp
    with_reducible rfl
  rotate_left
  · simp only [Act.put, List.setIfInBounds_toArray, List.set_cons_zero, List.set_cons_succ, i64_w, i32_w]
    rfl
  refine pure_ (i := 8) (N := some 80) (v := ?_) (a' := ?_) #[true, true, true, true, true, true, true, true, true, false, false] rfl rfl (by kernel_rfl) (fun _ _ _ h => h) (Or.inl ⟨by rfl, ?_⟩) ?_ ?_
  rotate_left
  · intro w'
    go_simp
    with_reducible rfl
  rotate_left
  · simp only [Act.put, List.setIfInBounds_toArray, List.set_cons_zero, List.set_cons_succ, i64_w, i32_w]
    rfl
  refine pure_ (i := 9) (N := some 12) (v := ?_) (a' := ?_) #[true, true, true, true, true, true, true, true, true, true, false] rfl rfl (by kernel_rfl) (fun _ _ _ h => h) (Or.inl ⟨by rfl, ?_⟩) ?_ ?_
  rotate_left
  · intro w'
    go_simp
    with_reducible rfl
  rotate_left
  · simp only [Act.put, List.setIfInBounds_toArray, List.set_cons_zero, List.set_cons_succ, i64_w, i32_w]
    rfl
  refine pure_ (i := 10) (N := some 13) (v := ?_) (a' := ?_) #[true, true, true, true, true, true, true, true, true, true, true] rfl rfl (by kernel_rfl) (fun _ _ _ h => h) (Or.inl ⟨by rfl, ?_⟩) ?_ ?_
  rotate_left
  · intro w'
    go_simp
    with_reducible rfl
  rotate_left
  · simp only [Act.put, List.setIfInBounds_toArray, List.set_cons_zero, List.set_cons_succ, i64_w, i32_w]
    rfl
  refine done_ (by kernel_rfl) ?_
  go_upto_region 14 with fail
  refine start_ (n := 10) (S := fun w' => w'.heap[w.heap.size]? = some (.cells (C14 (upd c 5 (Int.tmod (wrap64 (c 5 + 1)) (c 4))) (.slice A m cap)) 25 (0, 0)) ∧ w'.heap[w.heap.size + 1]? = some (.cells (#[.slice R l.length rc]) 27 (0, 0))) (ds := []) #[false, false, false, false, false, false, false, false, false, false] (by kernel_rfl) rfl rfl ⟨(eG on), (eG orr)⟩ (fun hHeld => ?_)
  refine rowL_ (i := 0) (N := some 91) #[true, false, false, false, false, false, false, false, false, false] rfl rfl (by kernel_rfl) 25 _ rfl (w.heap.size) (C14 (upd c 5 (Int.tmod (wrap64 (c 5 + 1)) (c 4))) (.slice A m cap)) (fun _ _ _ h => h) (by rfl) (by rfl) _ _ _ (fun _ h => h.1) Try.underlying25 rfl i25 hHeld (a' := ?_) ?_ ?_
  rotate_left
  · simp only [Act.put, List.setIfInBounds_toArray, List.set_cons_zero, List.set_cons_succ, i64_w, i32_w]
    rfl
  refine rowL_ (i := 2) (N := some 93) #[true, false, true, false, false, false, false, false, false, false] rfl rfl (by kernel_rfl) 27 _ rfl (w.heap.size + 1) (#[.slice R l.length rc]) (fun _ _ _ h => h) (by rfl) (by rfl) _ _ _ (fun _ h => h.2) Try.underlying27 rfl i27 hHeld (a' := ?_) ?_ ?_
  rotate_left
  · simp only [Act.put, List.setIfInBounds_toArray, List.set_cons_zero, List.set_cons_succ, i64_w, i32_w]
    rfl
  refine pure_ (i := 3) (N := some 94) (v := ?_) (a' := ?_) #[true, false, true, true, false, false, false, false, false, false] rfl rfl (by kernel_rfl) (fun _ _ _ h => h) (Or.inl ⟨by rfl, ?_⟩) ?_ ?_
  rotate_left
  · intro w'
    go_simp
    with_reducible rfl
  rotate_left
  · simp only [Act.put, List.setIfInBounds_toArray, List.set_cons_zero, List.set_cons_succ, i64_w, i32_w]
    rfl
  refine pure_ (i := 4) (N := some 95) (v := ?_) (a' := ?_) #[true, false, true, true, true, false, false, false, false, false] rfl rfl (by kernel_rfl) (fun _ _ _ h => h) (Or.inl ⟨by rfl, ?_⟩) ?_ ?_
  rotate_left
  · intro w'
    go_simp
    with_reducible rfl
  rotate_left
  · simp only [Act.put, List.setIfInBounds_toArray, List.set_cons_zero, List.set_cons_succ, i64_w, i32_w]
    rfl
  refine one_ (i := 1) (N := some 92) #[true, true, true, true, true, false, false, false, false, false] rfl rfl (by kernel_rfl) (by decide) (fun K hK => ?_)
  (refine goes_ Try.func43 (by kernel_rfl) rfl #[.agg (C14 (upd c 5 (Int.tmod (wrap64 (c 5 + 1)) (c 4))) (.slice A m cap))] (by rfl) rfl rfl (by (try simp only [List.map_toArray, List.map_cons, List.map_nil]); first | done | rfl) ?_; (with_reducible refine (rwrong_is (upd c 5 (Int.tmod (wrap64 (c 5 + 1)) (c 4))) A m cap _).mono ?_); rintro e_ wq1 ⟨rfl, hb_⟩; refine ⟨_, rfl, ?_⟩; have HB_ : Aside0 (Below w.heap.size w wq1) := Aside0.mk (below_step (bG HB) hb_); have hzwq1 := hb_.size; (try simp at hzwq1); have on_ := Aside0.mk (box_below hb_ (eG on)); have orr_ := Aside0.mk (box_below hb_ (eG orr)); have pn_ := Aside0.mk (box_below hb_ (eG pn)); have pr_ := Aside0.mk (box_below hb_ (eG pr)); have HR_ := Aside0.mk (Kd.F_below (fG HR) hb_); clear HR; have HR := HR_; clear HR_; have q_ := Aside0.mk (Kd.F_below (fG q) hb_); clear q; have q := q_; clear q_; (try clear on onc onf onl); have on := on_; clear on_; obtain ⟨onc, onf, onl⟩ := cells_of on.out; (try clear orr orrc orrf orrl); have orr := orr_; clear orr_; obtain ⟨orrc, orrf, orrl⟩ := cells_of orr.out; (try clear pn pnc pnf pnl); have pn := pn_; clear pn_; obtain ⟨pnc, pnf, pnl⟩ := cells_of pn.out; (try clear pr prc prf prl); have pr := pr_; clear pr_; obtain ⟨prc, prf, prl⟩ := cells_of pr.out; clear HB hb_; have HB := HB_; clear HB_)
  refine hK.out _ _ ⟨(eG on), (eG orr)⟩ (fun hHeld => ?_)
  clear hK K
  refine norm_ (a' := ?_) ?_ ?_
  rotate_left
  · simp only [Act.put, List.setIfInBounds_toArray, List.set_cons_zero, List.set_cons_succ, i64_w, i32_w]
    rfl
  refine one_ (i := 5) (N := some 96) #[true, true, true, true, true, true, false, false, false, false] rfl rfl (by kernel_rfl) (by decide) (fun K hK => ?_)
  (refine goes_ Try.func44 (by kernel_rfl) rfl #[.agg #[.slice R l.length rc], .int .u64 at_, .slice (some ⟨qb, qo, none⟩) 16 c_q, .int .u8 2] (by rfl) rfl rfl (by (try simp only [List.map_toArray, List.map_cons, List.map_nil]); first | done | rfl) ?_; (with_reducible refine (rdone_is at_ (IntKind.u64.wrap (at_ + 10)) (flagD d) (restD d) 2 _ R rc l ⟨qb, qo, none⟩ c_q d _ _ _ rfl (flagD_is d) (restD_is d) HDL.out (fG HR) HC.out (fG q) qc.out HFL.out).mono ?_); rintro e_ wq2 ⟨A_s, c_s, rfl, hc_s, hr_s, hb_⟩; refine ⟨_, rfl, ?_⟩; have HB_ : Aside0 (Below w.heap.size w wq2) := Aside0.mk (below_step (bG HB) hb_); have hzwq2 := hb_.size; (try simp at hzwq2); have on_ := Aside0.mk (box_below hb_ (eG on)); have orr_ := Aside0.mk (box_below hb_ (eG orr)); have pn_ := Aside0.mk (box_below hb_ (eG pn)); have pr_ := Aside0.mk (box_below hb_ (eG pr)); have HR_ := Aside0.mk (Kd.F_below (fG HR) hb_); clear HR; have HR := HR_; clear HR_; have q_ := Aside0.mk (Kd.F_below (fG q) hb_); clear q; have q := q_; clear q_; (try clear on onc onf onl); have on := on_; clear on_; obtain ⟨onc, onf, onl⟩ := cells_of on.out; (try clear orr orrc orrf orrl); have orr := orr_; clear orr_; obtain ⟨orrc, orrf, orrl⟩ := cells_of orr.out; (try clear pn pnc pnf pnl); have pn := pn_; clear pn_; obtain ⟨pnc, pnf, pnl⟩ := cells_of pn.out; (try clear pr prc prf prl); have pr := pr_; clear pr_; obtain ⟨prc, prf, prl⟩ := cells_of pr.out; clear HB hb_; have HB := HB_; clear HB_; have sc := Aside0.mk hc_s; have s := Aside0.mk (Kd.F_bound hr_s); clear hc_s hr_s; skip)
  refine hK.out _ _ ⟨(eG on), (eG orr)⟩ (fun hHeld => ?_)
  clear hK K
  refine norm_ (a' := ?_) ?_ ?_
  rotate_left
  · simp only [Act.put, List.setIfInBounds_toArray, List.set_cons_zero, List.set_cons_succ, i64_w, i32_w]
    rfl
  refine rowS_ (i := 6) #[true, true, true, true, true, true, true, false, false, false] rfl rfl (by kernel_rfl) (by decide) 25 _ _ rfl (w.heap.size + 1 + 1) (C14 (failC (upd c 5 (Int.tmod (wrap64 (c 5 + 1)) (c 4)))) (.slice A m cap)) (by rfl) (by rfl) (by rfl) (#[.int .i64 0, .int .i64 0, .int .i64 0, .int .u64 0, .int .i64 0, .int .i64 0, .int .i64 0, .int .u64 0, .int .i64 0, .int .i64 0, .int .i64 0, .int .i64 0, .int .i64 0, .slice none 0 0]) 25 (eG pn) rfl i25 (C14_one _ _ _ _) ?_
  (rintro wq3 ⟨hx_, hk_, hb_, hzz_⟩; have HB_ : Aside0 (Below w.heap.size w wq3) := Aside0.mk (Below.trans (bG HB) (Below.mono hb_ (by first | omega | (simp only [sz_alloc, sz_drew, sz_drewN]; omega)))); have hzwq3 := hzz_; (try simp at hzwq3); clear hzz_; have on_ := Aside0.mk (st_put on.out hk_ (fun h_ => (by repeat (with_reducible first | exact h_ | apply ext_drew | apply ext_drewN | apply ext_alloc | refine blk_far ?_ (by show _ ≠ _; dsimp only; omega) _))) (by omega)); clear on onc onf onl; have on := on_; clear on_; obtain ⟨onc, onf, onl⟩ := cells_of on.out; have orr_ := Aside0.mk (st_put orr.out hk_ (fun h_ => (by repeat (with_reducible first | exact h_ | apply ext_drew | apply ext_drewN | apply ext_alloc | refine blk_far ?_ (by show _ ≠ _; dsimp only; omega) _))) (by omega)); clear orr orrc orrf orrl; have orr := orr_; clear orr_; obtain ⟨orrc, orrf, orrl⟩ := cells_of orr.out; have pr_ := Aside0.mk (st_put pr.out hk_ (fun h_ => (by repeat (with_reducible first | exact h_ | apply ext_drew | apply ext_drewN | apply ext_alloc | refine blk_far ?_ (by show _ ≠ _; dsimp only; omega) _))) (by omega)); clear pr prc prf prl; have pr := pr_; clear pr_; obtain ⟨prc, prf, prl⟩ := cells_of pr.out; have HR_ := Aside0.mk (Kd.F_step (fG HR) (fun j_ hj_ hl_ => hk_ j_ (by (try dsimp only at hj_); (try simp only [sz_alloc, sz_drew, sz_drewN, sz_set] at hj_); omega))); clear HR; have HR := HR_; clear HR_; have q_ := Aside0.mk (Kd.F_step (fG q) (fun j_ hj_ hl_ => hk_ j_ (by (try dsimp only at hj_); (try simp only [sz_alloc, sz_drew, sz_drewN, sz_set] at hj_); omega))); clear q; have q := q_; clear q_; have s_ := Aside0.mk (Kd.F_step (fG s) (fun j_ hj_ hl_ => hk_ j_ (by (try dsimp only at hj_); (try simp only [sz_alloc, sz_drew, sz_drewN, sz_set] at hj_); omega))); clear s; have s := s_; clear s_; (try clear pn pnc pnf pnl); have pn := Aside0.mk hx_; obtain ⟨pnc, pnf, pnl⟩ := cells_of pn.out; clear HB hb_ hk_ hx_; have HB := HB_; clear HB_)
  refine ⟨⟨(eG on), (eG orr)⟩, ?_⟩
  refine rowS_ (i := 7) #[true, true, true, true, true, true, true, true, false, false] rfl rfl (by kernel_rfl) (by decide) 27 _ _ rfl (w.heap.size + 1 + 1 + 1) (#[.slice A_s (fillL l (IntKind.u64.wrap (at_ + 10)) [Go.bits .andNot .u8 (flagD d) 1, restD d, 2, 0]).length c_s]) (by rfl) (by rfl) (by rfl) (#[.slice none 0 0]) 27 (eG pr) rfl i27 (one27 _ _ _) ?_
  (rintro wq4 ⟨hx_, hk_, hb_, hzz_⟩; have HB_ : Aside0 (Below w.heap.size w wq4) := Aside0.mk (Below.trans (bG HB) (Below.mono hb_ (by first | omega | (simp only [sz_alloc, sz_drew, sz_drewN]; omega)))); have hzwq4 := hzz_; (try simp at hzwq4); clear hzz_; have on_ := Aside0.mk (st_put on.out hk_ (fun h_ => (by repeat (with_reducible first | exact h_ | apply ext_drew | apply ext_drewN | apply ext_alloc | refine blk_far ?_ (by show _ ≠ _; dsimp only; omega) _))) (by omega)); clear on onc onf onl; have on := on_; clear on_; obtain ⟨onc, onf, onl⟩ := cells_of on.out; have orr_ := Aside0.mk (st_put orr.out hk_ (fun h_ => (by repeat (with_reducible first | exact h_ | apply ext_drew | apply ext_drewN | apply ext_alloc | refine blk_far ?_ (by show _ ≠ _; dsimp only; omega) _))) (by omega)); clear orr orrc orrf orrl; have orr := orr_; clear orr_; obtain ⟨orrc, orrf, orrl⟩ := cells_of orr.out; have pn_ := Aside0.mk (st_put pn.out hk_ (fun h_ => (by repeat (with_reducible first | exact h_ | apply ext_drew | apply ext_drewN | apply ext_alloc | refine blk_far ?_ (by show _ ≠ _; dsimp only; omega) _))) (by omega)); clear pn pnc pnf pnl; have pn := pn_; clear pn_; obtain ⟨pnc, pnf, pnl⟩ := cells_of pn.out; have HR_ := Aside0.mk (Kd.F_step (fG HR) (fun j_ hj_ hl_ => hk_ j_ (by (try dsimp only at hj_); (try simp only [sz_alloc, sz_drew, sz_drewN, sz_set] at hj_); omega))); clear HR; have HR := HR_; clear HR_; have q_ := Aside0.mk (Kd.F_step (fG q) (fun j_ hj_ hl_ => hk_ j_ (by (try dsimp only at hj_); (try simp only [sz_alloc, sz_drew, sz_drewN, sz_set] at hj_); omega))); clear q; have q := q_; clear q_; have s_ := Aside0.mk (Kd.F_step (fG s) (fun j_ hj_ hl_ => hk_ j_ (by (try dsimp only at hj_); (try simp only [sz_alloc, sz_drew, sz_drewN, sz_set] at hj_); omega))); clear s; have s := s_; clear s_; (try clear pr prc prf prl); have pr := Aside0.mk hx_; obtain ⟨prc, prf, prl⟩ := cells_of pr.out; clear HB hb_ hk_ hx_; have HB := HB_; clear HB_)
  refine ⟨⟨(eG on), (eG orr)⟩, ?_⟩
  refine pure_ (i := 8) (N := some 6) (v := ?_) (a' := ?_) #[true, true, true, true, true, true, true, true, true, false] rfl rfl (by kernel_rfl) (fun _ _ _ h => h) (Or.inl ⟨by rfl, ?_⟩) ?_ ?_
  rotate_left
  · intro w'
    go_simp
    with_reducible rfl
  rotate_left
  · simp only [Act.put, List.setIfInBounds_toArray, List.set_cons_zero, List.set_cons_succ, i64_w, i32_w]
    rfl
  refine pure_ (i := 9) (N := some 7) (v := ?_) (a' := ?_) #[true, true, true, true, true, true, true, true, true, true] rfl rfl (by kernel_rfl) (fun _ _ _ h => h) (Or.inl ⟨by rfl, ?_⟩) ?_ ?_
  rotate_left
  · intro w'
    go_simp
    with_reducible rfl
  rotate_left
  · simp only [Act.put, List.setIfInBounds_toArray, List.set_cons_zero, List.set_cons_succ, i64_w, i32_w]
    rfl
  refine done_ (by kernel_rfl) ?_
  go_wp2
  refine bodyPost_ret (results_cctt rfl _ _ (w.heap.size + 1 + 1) (w.heap.size + 1 + 1 + 1) 25 27 (C14 (failC (upd c 5 (Int.tmod (wrap64 (c 5 + 1)) (c 4)))) (.slice A m cap)) #[.slice A_s (fillL l (IntKind.u64.wrap (at_ + 10)) [Go.bits .andNot .u8 (flagD d) 1, restD d, 2, 0]).length c_s] (0, 0) (0, 0) _ _ rfl rfl pn.out pr.out Try.underlying25 rfl i25 Try.underlying27 rfl i27) rfl ?_
  exact ⟨A_s, c_s, none, 0, rfl, sc.out, (by refine F_res (ok := ?_) ?_ ?_; rotate_left; (repeat (with_reducible first | exact s.out | apply Kd.F_drew | apply Kd.F_drewN | apply Kd.F_alloc | refine Kd.F_far ?_ ?_ _)); all_goals (intro j_ hj_; (try dsimp only at hj_); (try dsimp only); (try simp only [sz_alloc, sz_drew, sz_drewN, sz_set] at hj_); first | omega | exact .inl hj_.1 | exact .inl hj_ | exact .inr (by omega) | (rcases hj_ with hj_ | hj_; exact .inl hj_.1; exact .inr (by omega)) | (rcases hj_ with hj_ | hj_; exact .inl hj_; exact .inr (by omega)) | (rcases hj_.1 with hk_ | hk_; (first | exact .inl hk_.1 | exact .inl hk_); exact .inr (by omega)))), Nat.le_refl _, F_nil, (bG HB)⟩
set_option maxHeartbeats 1600000 in
set_option maxRecDepth 100000 in
theorem rsend_short (A : Option Addr) (m cap : Nat) (R : Option Addr) (rc : Nat) (l : List Int) (c : Nat → Int) (w : World) (ok : Nat → Prop) (hr : Kd.F (Kd.int .u8) w ok R l.length l) (hc : l.length ≤ rc) (at_ : Int) (hk : okC c m = true) (hb0 : (Int.tmod (c 0) 2 == 0) = false) (hb5 : (c 5 == c 6) = false) (hat : IntKind.u64.wrap (c 3 + IntKind.u64.wrap (16 * IntKind.u64.wrap (c 5))) = at_) (ha : u64B at_) (hl : (l.length : Int) ≤ 70000) (h3 : 0 ≤ c 3) (h7 : 0 ≤ c 7) (d : List Int) (x : Int) (hp : bytesZ l at_ 16 = (d, true)) (hdl : d.length = 16) (hx : d.getD 10 0 = x) (ho : (Int.tmod x 2 == 0) = false) (ho' : (x % 2 == 0) = false) (hne : ¬ c 4 = 0) (hbu : u64B (bufD d)) (hki : i64B (sizeD d)) (hdb : ∀ z ∈ d, byte z) (hws : wrap64 (sizeD d) = sizeD d) (fr : List Int) (hpb : bytesZ l (bufD d) (sizeD d) = (fr, true)) (hs14 : decide (sizeD d < 14) = true) :
    Calls Try.prog 24 #[.agg (C14 c (.slice A m cap)), .agg #[.slice R l.length rc]] w (SendPost A m cap ok w (failC (upd c 5 (Int.tmod (wrap64 (c 5 + 1)) (c 4)))) (fillL l (IntKind.u64.wrap (at_ + 10)) [Go.bits .andNot .u8 (flagD d) 1, restD d, 2, 0]) [] true) := by
  have HB := Aside0.mk (Below.refl w.heap.size w)
  have HR := Aside0.mk (Kd.F_bound hr)
  have HC := Aside0.mk hc
  have hu := Try.underlying25
  have hu7 := Try.underlying27
  have HK := Aside0.mk hk
  have HA := Aside0.mk ha
  have HL := Aside0.mk hl
  have H3 := Aside0.mk h3
  have H7 := Aside0.mk h7
  clear h3 h7
  have HP := Aside0.mk hp
  have HX := Aside0.mk hx
  have HDL := Aside0.mk hdl
  clear hp hx hdl
  have HBU := Aside0.mk hbu
  have HKI := Aside0.mk hki
  have HDB := Aside0.mk hdb
  have HPB := Aside0.mk hpb
  clear hbu hki hdb hpb
  have HFL := Aside0.mk (refFill_is l (IntKind.u64.wrap (at_ + 10)) [Go.bits .andNot .u8 (flagD d) 1, restD d, 2, 0] (wrap_u _) (by simp) hl)
  clear hr hc hk ha hl
  go_enter Try.func24, Try.ntmps24
  go_upto_region 1 with fail
  obtain ⟨wa, hwa, on0, or0, pn0, pr0, hb_, hz0⟩ := letter4 w (.cells (C14 c (.slice A m cap)) 25 (0, 0)) (.cells #[.slice R l.length rc] 27 (0, 0)) (.cells #[.int .i64 0, .int .i64 0, .int .i64 0, .int .u64 0, .int .i64 0, .int .i64 0, .int .i64 0, .int .u64 0, .int .i64 0, .int .i64 0, .int .i64 0, .int .i64 0, .int .i64 0, .slice none 0 0] 25 (0, 0)) (.cells #[.slice none 0 0] 27 (0, 0))
  rw [hwa]
  clear hwa
  have hzwa := Nat.le_of_eq hz0.symm
  clear hz0
  have on := Aside0.mk on0
  have orr := Aside0.mk or0
  have pn := Aside0.mk pn0
  have pr := Aside0.mk pr0
  clear on0 or0 pn0 pr0
  obtain ⟨onc, onf, onl⟩ := cells_of on.out
  obtain ⟨orrc, orrf, orrl⟩ := cells_of orr.out
  obtain ⟨pnc, pnf, pnl⟩ := cells_of pn.out
  obtain ⟨prc, prf, prl⟩ := cells_of pr.out
  have HB_ : Aside0 (Below w.heap.size w wa) := ⟨hb_⟩
  have HR_ := Aside0.mk (Kd.F_below HR.out hb_)
  clear HB HR hb_; have HB := HB_; have HR := HR_; clear HB_ HR_
  have hc0 : World.cell? wa ⟨w.heap.size, 0, none⟩ = some (.int .i64 (c 0)) := (onc 0).trans rfl
  have hc5 : World.cell? wa ⟨w.heap.size, 5, none⟩ = some (.int .i64 (c 5)) := (onc 5).trans rfl
  have hc6 : World.cell? wa ⟨w.heap.size, 6, none⟩ = some (.int .i64 (c 6)) := (onc 6).trans rfl
  clear onc
  have onc := trivial
  go_wp2_with (first | ((with_reducible refine gate_dst (N := 14) rfl ?_); (try (refine gate_guard (by rfl) ?_; dsimp only)); refine wpList_load_row rfl 25 _ rfl _ (by rfl) _ (C14 c (.slice A m cap)) _ _ (eG on) Try.underlying25 rfl i25 ?_))
  (go_at_call 20; (with_reducible refine (rCheck_of true c A m cap _ H3.out H7.out HK.out).mono ?_); rintro e_ w1 ⟨rfl, hb_⟩; have HB_ : Aside0 (Below w.heap.size w w1) := Aside0.mk (below_step (bG HB) hb_); have hzw1 := hb_.size; (try simp at hzw1); have on_ := Aside0.mk (box_below hb_ (eG on)); have orr_ := Aside0.mk (box_below hb_ (eG orr)); have pn_ := Aside0.mk (box_below hb_ (eG pn)); have pr_ := Aside0.mk (box_below hb_ (eG pr)); have HR_ := Aside0.mk (Kd.F_below (fG HR) hb_); clear HR; have HR := HR_; clear HR_; (try clear on onc onf onl); have on := on_; clear on_; obtain ⟨onc, onf, onl⟩ := cells_of on.out; (try clear orr orrc orrf orrl); have orr := orr_; clear orr_; obtain ⟨orrc, orrf, orrl⟩ := cells_of orr.out; (try clear pn pnc pnf pnl); have pn := pn_; clear pn_; obtain ⟨pnc, pnf, pnl⟩ := cells_of pn.out; (try clear pr prc prf prl); have pr := pr_; clear pr_; obtain ⟨prc, prf, prl⟩ := cells_of pr.out; clear HB hb_; have HB := HB_; clear HB_)
  clear hc0 hc5 hc6
  have hc0 : World.cell? w1 ⟨w.heap.size, 0, none⟩ = some (.int .i64 (c 0)) := (onc 0).trans rfl
  have hc3 : World.cell? w1 ⟨w.heap.size, 3, none⟩ = some (.int .u64 (c 3)) := (onc 3).trans rfl
  have hc5 : World.cell? w1 ⟨w.heap.size, 5, none⟩ = some (.int .i64 (c 5)) := (onc 5).trans rfl
  have hc6 : World.cell? w1 ⟨w.heap.size, 6, none⟩ = some (.int .i64 (c 6)) := (onc 6).trans rfl
  clear onc
  have onc := trivial
  go_wp2_with fail
  (go_at_call 37; (with_reducible refine (rbytes_any R rc l at_ 16 d true _ (Kd.F_now HR.out) HC.out HA.out i64B16 HL.out HP.out).mono ?_); rintro e_ w2 ⟨v_q, rfl, hr_q, hb_⟩; have HB_ : Aside0 (Below w.heap.size w w2) := Aside0.mk (below_step (bG HB) hb_); have hzw2 := hb_.size; (try simp at hzw2); have on_ := Aside0.mk (box_below hb_ (eG on)); have orr_ := Aside0.mk (box_below hb_ (eG orr)); have pn_ := Aside0.mk (box_below hb_ (eG pn)); have pr_ := Aside0.mk (box_below hb_ (eG pr)); have HR_ := Aside0.mk (Kd.F_below (fG HR) hb_); clear HR; have HR := HR_; clear HR_; (try clear on onc onf onl); have on := on_; clear on_; obtain ⟨onc, onf, onl⟩ := cells_of on.out; (try clear orr orrc orrf orrl); have orr := orr_; clear orr_; obtain ⟨orrc, orrf, orrl⟩ := cells_of orr.out; (try clear pn pnc pnf pnl); have pn := pn_; clear pn_; obtain ⟨pnc, pnf, pnl⟩ := cells_of pn.out; (try clear pr prc prf prl); have pr := pr_; clear pr_; obtain ⟨prc, prf, prl⟩ := cells_of pr.out; clear HB hb_; have HB := HB_; clear HB_; obtain ⟨A_q, c_q, ev_, hc_q, hf_q⟩ := R_Fl hr_q; subst ev_; have qc := Aside0.mk hc_q; have q := Aside0.mk (Kd.F_bound hf_q); clear hc_q hf_q hr_q; skip)
  clear hc0 hc3 hc5 hc6
  have hdl := HDL.out
  obtain ⟨ad, rfl⟩ := row_some2 q.out 10 (by omega)
  have hcell : w2.cell? ⟨ad.block, ad.off + 10, none⟩ = some (.int .u8 x) := row_at2 q.out 10 (by omega) HX.out
  rw [hdl]
  rw [hdl] at q qc
  clear hdl
  have hc4 : World.cell? w2 ⟨w.heap.size, 4, none⟩ = some (.int .i64 (c 4)) := (onc 4).trans rfl
  have hc5 : World.cell? w2 ⟨w.heap.size, 5, none⟩ = some (.int .i64 (c 5)) := (onc 5).trans rfl
  clear onc
  have onc := trivial
  go_upto_region 11 with fail
  (have HR_ := Aside0.mk (Kd.F_far (p := ⟨w.heap.size, 5, none⟩) HR.out (fun j_ hj_ => by (try dsimp only at hj_); (try dsimp only); (try simp only [sz_alloc, sz_drew, sz_drewN, sz_set] at hj_); omega) (.int .i64 (Int.tmod (wrap64 (c 5 + 1)) (c 4)))); clear HR; have HR := HR_; clear HR_; have q_ := Aside0.mk (Kd.F_far (p := ⟨w.heap.size, 5, none⟩) q.out (fun j_ hj_ => by (try dsimp only at hj_); (try dsimp only); (try simp only [sz_alloc, sz_drew, sz_drewN, sz_set] at hj_); omega) (.int .i64 (Int.tmod (wrap64 (c 5 + 1)) (c 4)))); clear q; have q := q_; clear q_; have orr_ := Aside0.mk (blk_far (p := ⟨w.heap.size, 5, none⟩) orr.out (by show _ ≠ _; dsimp only; omega) (.int .i64 (Int.tmod (wrap64 (c 5 + 1)) (c 4)))); clear orr orrc orrf orrl; have orr := orr_; clear orr_; obtain ⟨orrc, orrf, orrl⟩ := cells_of orr.out; have pn_ := Aside0.mk (blk_far (p := ⟨w.heap.size, 5, none⟩) pn.out (by show _ ≠ _; dsimp only; omega) (.int .i64 (Int.tmod (wrap64 (c 5 + 1)) (c 4)))); clear pn pnc pnf pnl; have pn := pn_; clear pn_; obtain ⟨pnc, pnf, pnl⟩ := cells_of pn.out; have pr_ := Aside0.mk (blk_far (p := ⟨w.heap.size, 5, none⟩) pr.out (by show _ ≠ _; dsimp only; omega) (.int .i64 (Int.tmod (wrap64 (c 5 + 1)) (c 4)))); clear pr prc prf prl; have pr := pr_; clear pr_; obtain ⟨prc, prf, prl⟩ := cells_of pr.out; have on_ := Aside0.mk (blk_put on.out 5 (.int .i64 (Int.tmod (wrap64 (c 5 + 1)) (c 4))) (cs' := C14 (upd c 5 (Int.tmod (wrap64 (c 5 + 1)) (c 4))) (.slice A m cap)) rfl); clear on onc onf onl; have on := on_; clear on_; obtain ⟨onc, onf, onl⟩ := cells_of on.out)
  clear hc4 hc5 hcell
  obtain ⟨qb, qo, eA, _⟩ := F_cell' q.out (by decide)
  injection eA with eA
  subst eA
  obtain ⟨i096, hi096, _, hsz96, _⟩ := info_parts infoB
  have hc8 := qc.out
  have hcut1 := cut_to (P := Try.prog) 23 5 .i64 Try.underlying23 hi096 (some ⟨qb, qo, none⟩) 16 c_q 8 (by decide) (by decide) qc.out
  have hcut2 := cut_mid (P := Try.prog) 23 5 .i64 .i64 Try.underlying23 hi096 1 hsz96 (some ⟨qb, qo, none⟩) 16 c_q 8 10 (by decide) (by decide) (by decide) qc.out
  rw [if_neg (by omega)] at hcut2
  simp only [Option.map_some, add_eq] at hcut2
  have hq3 : Aside0 (Kd.F (Kd.int .u8) _ _ (some ⟨qb, qo, none⟩) 8 (d.take 8)) := ⟨F_sub q.out 0 8 (by decide)⟩
  have hq4 := Aside0.mk (F_sub q.out 8 2 (by decide))
  go_wp2_with fail
  (go_at_call 39; (with_reducible refine (rget_size _ _ d _ HDL.out HDB.out (Kd.F_now (fG hq4)) (by omega)).mono ?_); rintro e_ w3 ⟨rfl, hb_⟩; have HB_ : Aside0 (Below w.heap.size w w3) := Aside0.mk (below_step (bG HB) hb_); have hzw3 := hb_.size; (try simp at hzw3); have on_ := Aside0.mk (box_below hb_ (eG on)); have orr_ := Aside0.mk (box_below hb_ (eG orr)); have pn_ := Aside0.mk (box_below hb_ (eG pn)); have pr_ := Aside0.mk (box_below hb_ (eG pr)); have HR_ := Aside0.mk (Kd.F_below (fG HR) hb_); clear HR; have HR := HR_; clear HR_; have q_ := Aside0.mk (Kd.F_below (fG q) hb_); clear q; have q := q_; clear q_; have hq3_ := Aside0.mk (Kd.F_below (fG hq3) hb_); clear hq3; have hq3 := hq3_; clear hq3_; (try clear on onc onf onl); have on := on_; clear on_; obtain ⟨onc, onf, onl⟩ := cells_of on.out; (try clear orr orrc orrf orrl); have orr := orr_; clear orr_; obtain ⟨orrc, orrf, orrl⟩ := cells_of orr.out; (try clear pn pnc pnf pnl); have pn := pn_; clear pn_; obtain ⟨pnc, pnf, pnl⟩ := cells_of pn.out; (try clear pr prc prf prl); have pr := pr_; clear pr_; obtain ⟨prc, prf, prl⟩ := cells_of pr.out; clear HB hb_; have HB := HB_; clear HB_)
  go_upto_region 12 with fail
  refine start_ (n := 11) (S := fun w' => w'.heap[w.heap.size + 1]? = some (.cells #[.slice R l.length rc] 27 (0, 0))) (ds := []) #[false, false, false, false, false, false, false, false, false, false, false] (by kernel_rfl) rfl rfl (eG orr) (fun hHeld => ?_)
  refine rowL_ (i := 0) (N := some 73) #[true, false, false, false, false, false, false, false, false, false, false] rfl rfl (by kernel_rfl) 27 _ rfl (w.heap.size + 1) (#[.slice R l.length rc]) (fun _ _ _ h => h) (by rfl) (by rfl) _ _ _ (fun _ h => h) Try.underlying27 rfl i27 hHeld (a' := ?_) ?_ ?_
  rotate_left
  · simp only [Act.put, List.setIfInBounds_toArray, List.set_cons_zero, List.set_cons_succ, i64_w, i32_w]
    rfl
  refine pure_ (i := 1) (N := some 74) (v := ?_) (a' := ?_) #[true, true, false, false, false, false, false, false, false, false, false] rfl rfl (by kernel_rfl) (fun _ _ _ h => h) (Or.inl ⟨by rfl, ?_⟩) ?_ ?_
  rotate_left
  · intro w'
    go_simp
    with_reducible rfl
  rotate_left
  · simp only [Act.put, List.setIfInBounds_toArray, List.set_cons_zero, List.set_cons_succ, i64_w, i32_w]
    rfl
  refine pure_ (i := 2) (N := some 75) (v := ?_) (a' := ?_) #[true, true, true, false, false, false, false, false, false, false, false] rfl rfl (by kernel_rfl) (fun _ _ _ h => h) (Or.inl ⟨by rfl, ?_⟩) ?_ ?_
  rotate_left
  · intro w'
    go_simp
    with_reducible rfl
  rotate_left
  · simp only [Act.put, List.setIfInBounds_toArray, List.set_cons_zero, List.set_cons_succ, i64_w, i32_w]
    rfl
  refine pure_ (i := 4) (N := some 77) (v := ?_) (a' := ?_) #[true, true, true, false, true, false, false, false, false, false, false] rfl rfl (by kernel_rfl) (fun _ _ _ h => h) (Or.inl ⟨by rfl, ?_⟩) ?_ ?_
  rotate_left
  · intro w'
    go_simp
    with_reducible rfl
  rotate_left
  · simp only [Act.put, List.setIfInBounds_toArray, List.set_cons_zero, List.set_cons_succ, i64_w, i32_w]
    rfl
  refine one_ (i := 3) (N := some 76) #[true, true, true, true, true, false, false, false, false, false, false] rfl rfl (by kernel_rfl) (by decide) (fun K hK => ?_)
  (refine goes_ Try.func39 (by kernel_rfl) rfl #[.slice (some ⟨qb, qo, none⟩) 8 c_q, .bool false] (by rfl) rfl rfl (by (try simp only [List.map_toArray, List.map_cons, List.map_nil]); first | done | rfl) ?_; (with_reducible refine (rget_buf _ _ d _ HDL.out HDB.out (Kd.F_now (fG hq3)) (by omega)).mono ?_); rintro e_ w4 ⟨rfl, hb_⟩; refine ⟨_, rfl, ?_⟩; have HB_ : Aside0 (Below w.heap.size w w4) := Aside0.mk (below_step (bG HB) hb_); have hzw4 := hb_.size; (try simp at hzw4); have on_ := Aside0.mk (box_below hb_ (eG on)); have orr_ := Aside0.mk (box_below hb_ (eG orr)); have pn_ := Aside0.mk (box_below hb_ (eG pn)); have pr_ := Aside0.mk (box_below hb_ (eG pr)); have HR_ := Aside0.mk (Kd.F_below (fG HR) hb_); clear HR; have HR := HR_; clear HR_; have q_ := Aside0.mk (Kd.F_below (fG q) hb_); clear q; have q := q_; clear q_; (try clear on onc onf onl); have on := on_; clear on_; obtain ⟨onc, onf, onl⟩ := cells_of on.out; (try clear orr orrc orrf orrl); have orr := orr_; clear orr_; obtain ⟨orrc, orrf, orrl⟩ := cells_of orr.out; (try clear pn pnc pnf pnl); have pn := pn_; clear pn_; obtain ⟨pnc, pnf, pnl⟩ := cells_of pn.out; (try clear pr prc prf prl); have pr := pr_; clear pr_; obtain ⟨prc, prf, prl⟩ := cells_of pr.out; clear HB hb_; have HB := HB_; clear HB_)
  refine hK.out _ _ (eG orr) (fun hHeld => ?_)
  clear hK K
  refine norm_ (a' := ?_) ?_ ?_
  rotate_left
  · simp only [Act.put, List.setIfInBounds_toArray, List.set_cons_zero, List.set_cons_succ, i64_w, i32_w]
    rfl
  refine one_ (i := 5) (N := some 78) #[true, true, true, true, true, true, false, false, false, false, false] rfl rfl (by kernel_rfl) (by decide) (fun K hK => ?_)
  (refine goes_ Try.func37 (by kernel_rfl) rfl #[.agg #[.slice R l.length rc], .int .u64 (bufD d), .int .i64 (sizeD d)] (by rfl) rfl rfl (by (try simp only [List.map_toArray, List.map_cons, List.map_nil]); first | done | rfl) ?_; (with_reducible refine (rbytes_any R rc l (bufD d) (sizeD d) fr true _ (Kd.F_now (fG HR)) HC.out HBU.out HKI.out HL.out HPB.out).mono ?_); rintro e_ w5 ⟨v_t, rfl, hr_t, hb_⟩; refine ⟨_, rfl, ?_⟩; have HB_ : Aside0 (Below w.heap.size w w5) := Aside0.mk (below_step (bG HB) hb_); have hzw5 := hb_.size; (try simp at hzw5); have on_ := Aside0.mk (box_below hb_ (eG on)); have orr_ := Aside0.mk (box_below hb_ (eG orr)); have pn_ := Aside0.mk (box_below hb_ (eG pn)); have pr_ := Aside0.mk (box_below hb_ (eG pr)); have HR_ := Aside0.mk (Kd.F_below (fG HR) hb_); clear HR; have HR := HR_; clear HR_; have q_ := Aside0.mk (Kd.F_below (fG q) hb_); clear q; have q := q_; clear q_; (try clear on onc onf onl); have on := on_; clear on_; obtain ⟨onc, onf, onl⟩ := cells_of on.out; (try clear orr orrc orrf orrl); have orr := orr_; clear orr_; obtain ⟨orrc, orrf, orrl⟩ := cells_of orr.out; (try clear pn pnc pnf pnl); have pn := pn_; clear pn_; obtain ⟨pnc, pnf, pnl⟩ := cells_of pn.out; (try clear pr prc prf prl); have pr := pr_; clear pr_; obtain ⟨prc, prf, prl⟩ := cells_of pr.out; clear HB hb_; have HB := HB_; clear HB_; obtain ⟨A_t, c_t, ev_, hc_t, hf_t⟩ := R_Fl hr_t; subst ev_; have tc := Aside0.mk hc_t; have t := Aside0.mk (Kd.F_bound hf_t); clear hc_t hf_t hr_t; skip)
  refine hK.out _ _ (eG orr) (fun hHeld => ?_)
  clear hK K
  refine norm_ (a' := ?_) ?_ ?_
  rotate_left
  · simp only [Act.put, List.setIfInBounds_toArray, List.set_cons_zero, List.set_cons_succ, i64_w, i32_w]
    rfl
  refine pure_ (i := 6) (N := some 72) (v := ?_) (a' := ?_) #[true, true, true, true, true, true, true, false, false, false, false] rfl rfl (by kernel_rfl) (fun _ _ _ h => h) (Or.inl ⟨by rfl, ?_⟩) ?_ ?_
  rotate_left
  · intro w'
    go_simp
    with_reducible rfl
  rotate_left
  · simp only [Act.put, List.setIfInBounds_toArray, List.set_cons_zero, List.set_cons_succ, i64_w, i32_w]
    rfl
  refine pure_ (i := 7) (N := some 79) (v := ?_) (a' := ?_) #[true, true, true, true, true, true, true, true, false, false, false] rfl rfl (by kernel_rfl) (fun _ _ _ h => h) (Or.inl ⟨by rfl, ?_⟩) ?_ ?_
  rotate_left
  · intro w'
    go_simp
    with_reducible rfl
  rotate_left
  · simp only [Act.put, List.setIfInBounds_toArray, List.set_cons_zero, List.set_cons_succ, i64_w, i32_w]
    rfl
  refine pure_ (i := 8) (N := some 80) (v := ?_) (a' := ?_) #[true, true, true, true, true, true, true, true, true, false, false] rfl rfl (by kernel_rfl) (fun _ _ _ h => h) (Or.inl ⟨by rfl, ?_⟩) ?_ ?_
  rotate_left
  · intro w'
    go_simp
    with_reducible rfl
  rotate_left
  · simp only [Act.put, List.setIfInBounds_toArray, List.set_cons_zero, List.set_cons_succ, i64_w, i32_w]
    rfl
  refine pure_ (i := 9) (N := some 12) (v := ?_) (a' := ?_) #[true, true, true, true, true, true, true, true, true, true, false] rfl rfl (by kernel_rfl) (fun _ _ _ h => h) (Or.inl ⟨by rfl, ?_⟩) ?_ ?_
  rotate_left
  · intro w'
    go_simp
    with_reducible rfl
  rotate_left
  · simp only [Act.put, List.setIfInBounds_toArray, List.set_cons_zero, List.set_cons_succ, i64_w, i32_w]
    rfl
  refine pure_ (i := 10) (N := some 13) (v := ?_) (a' := ?_) #[true, true, true, true, true, true, true, true, true, true, true] rfl rfl (by kernel_rfl) (fun _ _ _ h => h) (Or.inl ⟨by rfl, ?_⟩) ?_ ?_
  rotate_left
  · intro w'
    go_simp
    with_reducible rfl
  rotate_left
  · simp only [Act.put, List.setIfInBounds_toArray, List.set_cons_zero, List.set_cons_succ, i64_w, i32_w]
    rfl
  refine done_ (by kernel_rfl) ?_
  go_upto_region 14 with fail
  refine start_ (n := 10) (S := fun w' => w'.heap[w.heap.size]? = some (.cells (C14 (upd c 5 (Int.tmod (wrap64 (c 5 + 1)) (c 4))) (.slice A m cap)) 25 (0, 0)) ∧ w'.heap[w.heap.size + 1]? = some (.cells (#[.slice R l.length rc]) 27 (0, 0))) (ds := []) #[false, false, false, false, false, false, false, false, false, false] (by kernel_rfl) rfl rfl ⟨(eG on), (eG orr)⟩ (fun hHeld => ?_)
  refine rowL_ (i := 0) (N := some 91) #[true, false, false, false, false, false, false, false, false, false] rfl rfl (by kernel_rfl) 25 _ rfl (w.heap.size) (C14 (upd c 5 (Int.tmod (wrap64 (c 5 + 1)) (c 4))) (.slice A m cap)) (fun _ _ _ h => h) (by rfl) (by rfl) _ _ _ (fun _ h => h.1) Try.underlying25 rfl i25 hHeld (a' := ?_) ?_ ?_
  rotate_left
  · simp only [Act.put, List.setIfInBounds_toArray, List.set_cons_zero, List.set_cons_succ, i64_w, i32_w]
    rfl
  refine rowL_ (i := 2) (N := some 93) #[true, false, true, false, false, false, false, false, false, false] rfl rfl (by kernel_rfl) 27 _ rfl (w.heap.size + 1) (#[.slice R l.length rc]) (fun _ _ _ h => h) (by rfl) (by rfl) _ _ _ (fun _ h => h.2) Try.underlying27 rfl i27 hHeld (a' := ?_) ?_ ?_
  rotate_left
  · simp only [Act.put, List.setIfInBounds_toArray, List.set_cons_zero, List.set_cons_succ, i64_w, i32_w]
    rfl
  refine pure_ (i := 3) (N := some 94) (v := ?_) (a' := ?_) #[true, false, true, true, false, false, false, false, false, false] rfl rfl (by kernel_rfl) (fun _ _ _ h => h) (Or.inl ⟨by rfl, ?_⟩) ?_ ?_
  rotate_left
  · intro w'
    go_simp
    with_reducible rfl
  rotate_left
  · simp only [Act.put, List.setIfInBounds_toArray, List.set_cons_zero, List.set_cons_succ, i64_w, i32_w]
    rfl
  refine pure_ (i := 4) (N := some 95) (v := ?_) (a' := ?_) #[true, false, true, true, true, false, false, false, false, false] rfl rfl (by kernel_rfl) (fun _ _ _ h => h) (Or.inl ⟨by rfl, ?_⟩) ?_ ?_
  rotate_left
  · intro w'
    go_simp
    with_reducible rfl
  rotate_left
  · simp only [Act.put, List.setIfInBounds_toArray, List.set_cons_zero, List.set_cons_succ, i64_w, i32_w]
    rfl
  refine one_ (i := 1) (N := some 92) #[true, true, true, true, true, false, false, false, false, false] rfl rfl (by kernel_rfl) (by decide) (fun K hK => ?_)
  (refine goes_ Try.func43 (by kernel_rfl) rfl #[.agg (C14 (upd c 5 (Int.tmod (wrap64 (c 5 + 1)) (c 4))) (.slice A m cap))] (by rfl) rfl rfl (by (try simp only [List.map_toArray, List.map_cons, List.map_nil]); first | done | rfl) ?_; (with_reducible refine (rwrong_is (upd c 5 (Int.tmod (wrap64 (c 5 + 1)) (c 4))) A m cap _).mono ?_); rintro e_ wq1 ⟨rfl, hb_⟩; refine ⟨_, rfl, ?_⟩; have HB_ : Aside0 (Below w.heap.size w wq1) := Aside0.mk (below_step (bG HB) hb_); have hzwq1 := hb_.size; (try simp at hzwq1); have on_ := Aside0.mk (box_below hb_ (eG on)); have orr_ := Aside0.mk (box_below hb_ (eG orr)); have pn_ := Aside0.mk (box_below hb_ (eG pn)); have pr_ := Aside0.mk (box_below hb_ (eG pr)); have HR_ := Aside0.mk (Kd.F_below (fG HR) hb_); clear HR; have HR := HR_; clear HR_; have q_ := Aside0.mk (Kd.F_below (fG q) hb_); clear q; have q := q_; clear q_; (try clear on onc onf onl); have on := on_; clear on_; obtain ⟨onc, onf, onl⟩ := cells_of on.out; (try clear orr orrc orrf orrl); have orr := orr_; clear orr_; obtain ⟨orrc, orrf, orrl⟩ := cells_of orr.out; (try clear pn pnc pnf pnl); have pn := pn_; clear pn_; obtain ⟨pnc, pnf, pnl⟩ := cells_of pn.out; (try clear pr prc prf prl); have pr := pr_; clear pr_; obtain ⟨prc, prf, prl⟩ := cells_of pr.out; clear HB hb_; have HB := HB_; clear HB_)
  refine hK.out _ _ ⟨(eG on), (eG orr)⟩ (fun hHeld => ?_)
  clear hK K
  refine norm_ (a' := ?_) ?_ ?_
  rotate_left
  · simp only [Act.put, List.setIfInBounds_toArray, List.set_cons_zero, List.set_cons_succ, i64_w, i32_w]
    rfl
  refine one_ (i := 5) (N := some 96) #[true, true, true, true, true, true, false, false, false, false] rfl rfl (by kernel_rfl) (by decide) (fun K hK => ?_)
  (refine goes_ Try.func44 (by kernel_rfl) rfl #[.agg #[.slice R l.length rc], .int .u64 at_, .slice (some ⟨qb, qo, none⟩) 16 c_q, .int .u8 2] (by rfl) rfl rfl (by (try simp only [List.map_toArray, List.map_cons, List.map_nil]); first | done | rfl) ?_; (with_reducible refine (rdone_is at_ (IntKind.u64.wrap (at_ + 10)) (flagD d) (restD d) 2 _ R rc l ⟨qb, qo, none⟩ c_q d _ _ _ rfl (flagD_is d) (restD_is d) HDL.out (fG HR) HC.out (fG q) qc.out HFL.out).mono ?_); rintro e_ wq2 ⟨A_s, c_s, rfl, hc_s, hr_s, hb_⟩; refine ⟨_, rfl, ?_⟩; have HB_ : Aside0 (Below w.heap.size w wq2) := Aside0.mk (below_step (bG HB) hb_); have hzwq2 := hb_.size; (try simp at hzwq2); have on_ := Aside0.mk (box_below hb_ (eG on)); have orr_ := Aside0.mk (box_below hb_ (eG orr)); have pn_ := Aside0.mk (box_below hb_ (eG pn)); have pr_ := Aside0.mk (box_below hb_ (eG pr)); have HR_ := Aside0.mk (Kd.F_below (fG HR) hb_); clear HR; have HR := HR_; clear HR_; have q_ := Aside0.mk (Kd.F_below (fG q) hb_); clear q; have q := q_; clear q_; (try clear on onc onf onl); have on := on_; clear on_; obtain ⟨onc, onf, onl⟩ := cells_of on.out; (try clear orr orrc orrf orrl); have orr := orr_; clear orr_; obtain ⟨orrc, orrf, orrl⟩ := cells_of orr.out; (try clear pn pnc pnf pnl); have pn := pn_; clear pn_; obtain ⟨pnc, pnf, pnl⟩ := cells_of pn.out; (try clear pr prc prf prl); have pr := pr_; clear pr_; obtain ⟨prc, prf, prl⟩ := cells_of pr.out; clear HB hb_; have HB := HB_; clear HB_; have sc := Aside0.mk hc_s; have s := Aside0.mk (Kd.F_bound hr_s); clear hc_s hr_s; skip)
  refine hK.out _ _ ⟨(eG on), (eG orr)⟩ (fun hHeld => ?_)
  clear hK K
  refine norm_ (a' := ?_) ?_ ?_
  rotate_left
  · simp only [Act.put, List.setIfInBounds_toArray, List.set_cons_zero, List.set_cons_succ, i64_w, i32_w]
    rfl
  refine rowS_ (i := 6) #[true, true, true, true, true, true, true, false, false, false] rfl rfl (by kernel_rfl) (by decide) 25 _ _ rfl (w.heap.size + 1 + 1) (C14 (failC (upd c 5 (Int.tmod (wrap64 (c 5 + 1)) (c 4)))) (.slice A m cap)) (by rfl) (by rfl) (by rfl) (#[.int .i64 0, .int .i64 0, .int .i64 0, .int .u64 0, .int .i64 0, .int .i64 0, .int .i64 0, .int .u64 0, .int .i64 0, .int .i64 0, .int .i64 0, .int .i64 0, .int .i64 0, .slice none 0 0]) 25 (eG pn) rfl i25 (C14_one _ _ _ _) ?_
  (rintro wq3 ⟨hx_, hk_, hb_, hzz_⟩; have HB_ : Aside0 (Below w.heap.size w wq3) := Aside0.mk (Below.trans (bG HB) (Below.mono hb_ (by first | omega | (simp only [sz_alloc, sz_drew, sz_drewN]; omega)))); have hzwq3 := hzz_; (try simp at hzwq3); clear hzz_; have on_ := Aside0.mk (st_put on.out hk_ (fun h_ => (by repeat (with_reducible first | exact h_ | apply ext_drew | apply ext_drewN | apply ext_alloc | refine blk_far ?_ (by show _ ≠ _; dsimp only; omega) _))) (by omega)); clear on onc onf onl; have on := on_; clear on_; obtain ⟨onc, onf, onl⟩ := cells_of on.out; have orr_ := Aside0.mk (st_put orr.out hk_ (fun h_ => (by repeat (with_reducible first | exact h_ | apply ext_drew | apply ext_drewN | apply ext_alloc | refine blk_far ?_ (by show _ ≠ _; dsimp only; omega) _))) (by omega)); clear orr orrc orrf orrl; have orr := orr_; clear orr_; obtain ⟨orrc, orrf, orrl⟩ := cells_of orr.out; have pr_ := Aside0.mk (st_put pr.out hk_ (fun h_ => (by repeat (with_reducible first | exact h_ | apply ext_drew | apply ext_drewN | apply ext_alloc | refine blk_far ?_ (by show _ ≠ _; dsimp only; omega) _))) (by omega)); clear pr prc prf prl; have pr := pr_; clear pr_; obtain ⟨prc, prf, prl⟩ := cells_of pr.out; have HR_ := Aside0.mk (Kd.F_step (fG HR) (fun j_ hj_ hl_ => hk_ j_ (by (try dsimp only at hj_); (try simp only [sz_alloc, sz_drew, sz_drewN, sz_set] at hj_); omega))); clear HR; have HR := HR_; clear HR_; have q_ := Aside0.mk (Kd.F_step (fG q) (fun j_ hj_ hl_ => hk_ j_ (by (try dsimp only at hj_); (try simp only [sz_alloc, sz_drew, sz_drewN, sz_set] at hj_); omega))); clear q; have q := q_; clear q_; have s_ := Aside0.mk (Kd.F_step (fG s) (fun j_ hj_ hl_ => hk_ j_ (by (try dsimp only at hj_); (try simp only [sz_alloc, sz_drew, sz_drewN, sz_set] at hj_); omega))); clear s; have s := s_; clear s_; (try clear pn pnc pnf pnl); have pn := Aside0.mk hx_; obtain ⟨pnc, pnf, pnl⟩ := cells_of pn.out; clear HB hb_ hk_ hx_; have HB := HB_; clear HB_)
  refine ⟨⟨(eG on), (eG orr)⟩, ?_⟩
  refine rowS_ (i := 7) #[true, true, true, true, true, true, true, true, false, false] rfl rfl (by kernel_rfl) (by decide) 27 _ _ rfl (w.heap.size + 1 + 1 + 1) (#[.slice A_s (fillL l (IntKind.u64.wrap (at_ + 10)) [Go.bits .andNot .u8 (flagD d) 1, restD d, 2, 0]).length c_s]) (by rfl) (by rfl) (by rfl) (#[.slice none 0 0]) 27 (eG pr) rfl i27 (one27 _ _ _) ?_
  (rintro wq4 ⟨hx_, hk_, hb_, hzz_⟩; have HB_ : Aside0 (Below w.heap.size w wq4) := Aside0.mk (Below.trans (bG HB) (Below.mono hb_ (by first | omega | (simp only [sz_alloc, sz_drew, sz_drewN]; omega)))); have hzwq4 := hzz_; (try simp at hzwq4); clear hzz_; have on_ := Aside0.mk (st_put on.out hk_ (fun h_ => (by repeat (with_reducible first | exact h_ | apply ext_drew | apply ext_drewN | apply ext_alloc | refine blk_far ?_ (by show _ ≠ _; dsimp only; omega) _))) (by omega)); clear on onc onf onl; have on := on_; clear on_; obtain ⟨onc, onf, onl⟩ := cells_of on.out; have orr_ := Aside0.mk (st_put orr.out hk_ (fun h_ => (by repeat (with_reducible first | exact h_ | apply ext_drew | apply ext_drewN | apply ext_alloc | refine blk_far ?_ (by show _ ≠ _; dsimp only; omega) _))) (by omega)); clear orr orrc orrf orrl; have orr := orr_; clear orr_; obtain ⟨orrc, orrf, orrl⟩ := cells_of orr.out; have pn_ := Aside0.mk (st_put pn.out hk_ (fun h_ => (by repeat (with_reducible first | exact h_ | apply ext_drew | apply ext_drewN | apply ext_alloc | refine blk_far ?_ (by show _ ≠ _; dsimp only; omega) _))) (by omega)); clear pn pnc pnf pnl; have pn := pn_; clear pn_; obtain ⟨pnc, pnf, pnl⟩ := cells_of pn.out; have HR_ := Aside0.mk (Kd.F_step (fG HR) (fun j_ hj_ hl_ => hk_ j_ (by (try dsimp only at hj_); (try simp only [sz_alloc, sz_drew, sz_drewN, sz_set] at hj_); omega))); clear HR; have HR := HR_; clear HR_; have q_ := Aside0.mk (Kd.F_step (fG q) (fun j_ hj_ hl_ => hk_ j_ (by (try dsimp only at hj_); (try simp only [sz_alloc, sz_drew, sz_drewN, sz_set] at hj_); omega))); clear q; have q := q_; clear q_; have s_ := Aside0.mk (Kd.F_step (fG s) (fun j_ hj_ hl_ => hk_ j_ (by (try dsimp only at hj_); (try simp only [sz_alloc, sz_drew, sz_drewN, sz_set] at hj_); omega))); clear s; have s := s_; clear s_; (try clear pr prc prf prl); have pr := Aside0.mk hx_; obtain ⟨prc, prf, prl⟩ := cells_of pr.out; clear HB hb_ hk_ hx_; have HB := HB_; clear HB_)
  refine ⟨⟨(eG on), (eG orr)⟩, ?_⟩
  refine pure_ (i := 8) (N := some 6) (v := ?_) (a' := ?_) #[true, true, true, true, true, true, true, true, true, false] rfl rfl (by kernel_rfl) (fun _ _ _ h => h) (Or.inl ⟨by rfl, ?_⟩) ?_ ?_
  rotate_left
  · intro w'
    go_simp
    with_reducible rfl
  rotate_left
  · simp only [Act.put, List.setIfInBounds_toArray, List.set_cons_zero, List.set_cons_succ, i64_w, i32_w]
    rfl
  refine pure_ (i := 9) (N := some 7) (v := ?_) (a' := ?_) #[true, true, true, true, true, true, true, true, true, true] rfl rfl (by kernel_rfl) (fun _ _ _ h => h) (Or.inl ⟨by rfl, ?_⟩) ?_ ?_
  rotate_left
  · intro w'
    go_simp
    with_reducible rfl
  rotate_left
  · simp only [Act.put, List.setIfInBounds_toArray, List.set_cons_zero, List.set_cons_succ, i64_w, i32_w]
    rfl
  refine done_ (by kernel_rfl) ?_
  go_wp2
  refine bodyPost_ret (results_cctt rfl _ _ (w.heap.size + 1 + 1) (w.heap.size + 1 + 1 + 1) 25 27 (C14 (failC (upd c 5 (Int.tmod (wrap64 (c 5 + 1)) (c 4)))) (.slice A m cap)) #[.slice A_s (fillL l (IntKind.u64.wrap (at_ + 10)) [Go.bits .andNot .u8 (flagD d) 1, restD d, 2, 0]).length c_s] (0, 0) (0, 0) _ _ rfl rfl pn.out pr.out Try.underlying25 rfl i25 Try.underlying27 rfl i27) rfl ?_
  exact ⟨A_s, c_s, none, 0, rfl, sc.out, (by refine F_res (ok := ?_) ?_ ?_; rotate_left; (repeat (with_reducible first | exact s.out | apply Kd.F_drew | apply Kd.F_drewN | apply Kd.F_alloc | refine Kd.F_far ?_ ?_ _)); all_goals (intro j_ hj_; (try dsimp only at hj_); (try dsimp only); (try simp only [sz_alloc, sz_drew, sz_drewN, sz_set] at hj_); first | omega | exact .inl hj_.1 | exact .inl hj_ | exact .inr (by omega) | (rcases hj_ with hj_ | hj_; exact .inl hj_.1; exact .inr (by omega)) | (rcases hj_ with hj_ | hj_; exact .inl hj_; exact .inr (by omega)) | (rcases hj_.1 with hk_ | hk_; (first | exact .inl hk_.1 | exact .inl hk_); exact .inr (by omega)))), Nat.le_refl _, F_nil, (bG HB)⟩
set_option maxHeartbeats 1600000 in
set_option maxRecDepth 100000 in
theorem rsend_long (A : Option Addr) (m cap : Nat) (R : Option Addr) (rc : Nat) (l : List Int) (c : Nat → Int) (w : World) (ok : Nat → Prop) (hr : Kd.F (Kd.int .u8) w ok R l.length l) (hc : l.length ≤ rc) (at_ : Int) (hk : okC c m = true) (hb0 : (Int.tmod (c 0) 2 == 0) = false) (hb5 : (c 5 == c 6) = false) (hat : IntKind.u64.wrap (c 3 + IntKind.u64.wrap (16 * IntKind.u64.wrap (c 5))) = at_) (ha : u64B at_) (hl : (l.length : Int) ≤ 70000) (h3 : 0 ≤ c 3) (h7 : 0 ≤ c 7) (d : List Int) (x : Int) (hp : bytesZ l at_ 16 = (d, true)) (hdl : d.length = 16) (hx : d.getD 10 0 = x) (ho : (Int.tmod x 2 == 0) = false) (ho' : (x % 2 == 0) = false) (hne : ¬ c 4 = 0) (hbu : u64B (bufD d)) (hki : i64B (sizeD d)) (hdb : ∀ z ∈ d, byte z) (hws : wrap64 (sizeD d) = sizeD d) (fr : List Int) (hpb : bytesZ l (bufD d) (sizeD d) = (fr, true)) (hs14 : decide (sizeD d < 14) = false) (hs15 : decide (sizeD d > 1514) = true) :
    Calls Try.prog 24 #[.agg (C14 c (.slice A m cap)), .agg #[.slice R l.length rc]] w (SendPost A m cap ok w (failC (upd c 5 (Int.tmod (wrap64 (c 5 + 1)) (c 4)))) (fillL l (IntKind.u64.wrap (at_ + 10)) [Go.bits .andNot .u8 (flagD d) 1, restD d, 2, 0]) [] true) := by
  have HB := Aside0.mk (Below.refl w.heap.size w)
  have HR := Aside0.mk (Kd.F_bound hr)
  have HC := Aside0.mk hc
  have hu := Try.underlying25
  have hu7 := Try.underlying27
  have HK := Aside0.mk hk
  have HA := Aside0.mk ha
  have HL := Aside0.mk hl
  have H3 := Aside0.mk h3
  have H7 := Aside0.mk h7
  clear h3 h7
  have HP := Aside0.mk hp
  have HX := Aside0.mk hx
  have HDL := Aside0.mk hdl
  clear hp hx hdl
  have HBU := Aside0.mk hbu
  have HKI := Aside0.mk hki
  have HDB := Aside0.mk hdb
  have HPB := Aside0.mk hpb
  clear hbu hki hdb hpb
  have HFL := Aside0.mk (refFill_is l (IntKind.u64.wrap (at_ + 10)) [Go.bits .andNot .u8 (flagD d) 1, restD d, 2, 0] (wrap_u _) (by simp) hl)
  clear hr hc hk ha hl
  go_enter Try.func24, Try.ntmps24
  go_upto_region 1 with fail
  obtain ⟨wa, hwa, on0, or0, pn0, pr0, hb_, hz0⟩ := letter4 w (.cells (C14 c (.slice A m cap)) 25 (0, 0)) (.cells #[.slice R l.length rc] 27 (0, 0)) (.cells #[.int .i64 0, .int .i64 0, .int .i64 0, .int .u64 0, .int .i64 0, .int .i64 0, .int .i64 0, .int .u64 0, .int .i64 0, .int .i64 0, .int .i64 0, .int .i64 0, .int .i64 0, .slice none 0 0] 25 (0, 0)) (.cells #[.slice none 0 0] 27 (0, 0))
  rw [hwa]
  clear hwa
  have hzwa := Nat.le_of_eq hz0.symm
  clear hz0
  have on := Aside0.mk on0
  have orr := Aside0.mk or0
  have pn := Aside0.mk pn0
  have pr := Aside0.mk pr0
  clear on0 or0 pn0 pr0
  obtain ⟨onc, onf, onl⟩ := cells_of on.out
  obtain ⟨orrc, orrf, orrl⟩ := cells_of orr.out
  obtain ⟨pnc, pnf, pnl⟩ := cells_of pn.out
  obtain ⟨prc, prf, prl⟩ := cells_of pr.out
  have HB_ : Aside0 (Below w.heap.size w wa) := ⟨hb_⟩
  have HR_ := Aside0.mk (Kd.F_below HR.out hb_)
  clear HB HR hb_; have HB := HB_; have HR := HR_; clear HB_ HR_
  have hc0 : World.cell? wa ⟨w.heap.size, 0, none⟩ = some (.int .i64 (c 0)) := (onc 0).trans rfl
  have hc5 : World.cell? wa ⟨w.heap.size, 5, none⟩ = some (.int .i64 (c 5)) := (onc 5).trans rfl
  have hc6 : World.cell? wa ⟨w.heap.size, 6, none⟩ = some (.int .i64 (c 6)) := (onc 6).trans rfl
  clear onc
  have onc := trivial
  go_wp2_with (first | ((with_reducible refine gate_dst (N := 14) rfl ?_); (try (refine gate_guard (by rfl) ?_; dsimp only)); refine wpList_load_row rfl 25 _ rfl _ (by rfl) _ (C14 c (.slice A m cap)) _ _ (eG on) Try.underlying25 rfl i25 ?_))
  (go_at_call 20; (with_reducible refine (rCheck_of true c A m cap _ H3.out H7.out HK.out).mono ?_); rintro e_ w1 ⟨rfl, hb_⟩; have HB_ : Aside0 (Below w.heap.size w w1) := Aside0.mk (below_step (bG HB) hb_); have hzw1 := hb_.size; (try simp at hzw1); have on_ := Aside0.mk (box_below hb_ (eG on)); have orr_ := Aside0.mk (box_below hb_ (eG orr)); have pn_ := Aside0.mk (box_below hb_ (eG pn)); have pr_ := Aside0.mk (box_below hb_ (eG pr)); have HR_ := Aside0.mk (Kd.F_below (fG HR) hb_); clear HR; have HR := HR_; clear HR_; (try clear on onc onf onl); have on := on_; clear on_; obtain ⟨onc, onf, onl⟩ := cells_of on.out; (try clear orr orrc orrf orrl); have orr := orr_; clear orr_; obtain ⟨orrc, orrf, orrl⟩ := cells_of orr.out; (try clear pn pnc pnf pnl); have pn := pn_; clear pn_; obtain ⟨pnc, pnf, pnl⟩ := cells_of pn.out; (try clear pr prc prf prl); have pr := pr_; clear pr_; obtain ⟨prc, prf, prl⟩ := cells_of pr.out; clear HB hb_; have HB := HB_; clear HB_)
  clear hc0 hc5 hc6
  have hc0 : World.cell? w1 ⟨w.heap.size, 0, none⟩ = some (.int .i64 (c 0)) := (onc 0).trans rfl
  have hc3 : World.cell? w1 ⟨w.heap.size, 3, none⟩ = some (.int .u64 (c 3)) := (onc 3).trans rfl
  have hc5 : World.cell? w1 ⟨w.heap.size, 5, none⟩ = some (.int .i64 (c 5)) := (onc 5).trans rfl
  have hc6 : World.cell? w1 ⟨w.heap.size, 6, none⟩ = some (.int .i64 (c 6)) := (onc 6).trans rfl
  clear onc
  have onc := trivial
  go_wp2_with fail
  (go_at_call 37; (with_reducible refine (rbytes_any R rc l at_ 16 d true _ (Kd.F_now HR.out) HC.out HA.out i64B16 HL.out HP.out).mono ?_); rintro e_ w2 ⟨v_q, rfl, hr_q, hb_⟩; have HB_ : Aside0 (Below w.heap.size w w2) := Aside0.mk (below_step (bG HB) hb_); have hzw2 := hb_.size; (try simp at hzw2); have on_ := Aside0.mk (box_below hb_ (eG on)); have orr_ := Aside0.mk (box_below hb_ (eG orr)); have pn_ := Aside0.mk (box_below hb_ (eG pn)); have pr_ := Aside0.mk (box_below hb_ (eG pr)); have HR_ := Aside0.mk (Kd.F_below (fG HR) hb_); clear HR; have HR := HR_; clear HR_; (try clear on onc onf onl); have on := on_; clear on_; obtain ⟨onc, onf, onl⟩ := cells_of on.out; (try clear orr orrc orrf orrl); have orr := orr_; clear orr_; obtain ⟨orrc, orrf, orrl⟩ := cells_of orr.out; (try clear pn pnc pnf pnl); have pn := pn_; clear pn_; obtain ⟨pnc, pnf, pnl⟩ := cells_of pn.out; (try clear pr prc prf prl); have pr := pr_; clear pr_; obtain ⟨prc, prf, prl⟩ := cells_of pr.out; clear HB hb_; have HB := HB_; clear HB_; obtain ⟨A_q, c_q, ev_, hc_q, hf_q⟩ := R_Fl hr_q; subst ev_; have qc := Aside0.mk hc_q; have q := Aside0.mk (Kd.F_bound hf_q); clear hc_q hf_q hr_q; skip)
  clear hc0 hc3 hc5 hc6
  have hdl := HDL.out
  obtain ⟨ad, rfl⟩ := row_some2 q.out 10 (by omega)
  have hcell : w2.cell? ⟨ad.block, ad.off + 10, none⟩ = some (.int .u8 x) := row_at2 q.out 10 (by omega) HX.out
  rw [hdl]
  rw [hdl] at q qc
  clear hdl
  have hc4 : World.cell? w2 ⟨w.heap.size, 4, none⟩ = some (.int .i64 (c 4)) := (onc 4).trans rfl
  have hc5 : World.cell? w2 ⟨w.heap.size, 5, none⟩ = some (.int .i64 (c 5)) := (onc 5).trans rfl
  clear onc
  have onc := trivial
  go_upto_region 11 with fail
  (have HR_ := Aside0.mk (Kd.F_far (p := ⟨w.heap.size, 5, none⟩) HR.out (fun j_ hj_ => by (try dsimp only at hj_); (try dsimp only); (try simp only [sz_alloc, sz_drew, sz_drewN, sz_set] at hj_); omega) (.int .i64 (Int.tmod (wrap64 (c 5 + 1)) (c 4)))); clear HR; have HR := HR_; clear HR_; have q_ := Aside0.mk (Kd.F_far (p := ⟨w.heap.size, 5, none⟩) q.out (fun j_ hj_ => by (try dsimp only at hj_); (try dsimp only); (try simp only [sz_alloc, sz_drew, sz_drewN, sz_set] at hj_); omega) (.int .i64 (Int.tmod (wrap64 (c 5 + 1)) (c 4)))); clear q; have q := q_; clear q_; have orr_ := Aside0.mk (blk_far (p := ⟨w.heap.size, 5, none⟩) orr.out (by show _ ≠ _; dsimp only; omega) (.int .i64 (Int.tmod (wrap64 (c 5 + 1)) (c 4)))); clear orr orrc orrf orrl; have orr := orr_; clear orr_; obtain ⟨orrc, orrf, orrl⟩ := cells_of orr.out; have pn_ := Aside0.mk (blk_far (p := ⟨w.heap.size, 5, none⟩) pn.out (by show _ ≠ _; dsimp only; omega) (.int .i64 (Int.tmod (wrap64 (c 5 + 1)) (c 4)))); clear pn pnc pnf pnl; have pn := pn_; clear pn_; obtain ⟨pnc, pnf, pnl⟩ := cells_of pn.out; have pr_ := Aside0.mk (blk_far (p := ⟨w.heap.size, 5, none⟩) pr.out (by show _ ≠ _; dsimp only; omega) (.int .i64 (Int.tmod (wrap64 (c 5 + 1)) (c 4)))); clear pr prc prf prl; have pr := pr_; clear pr_; obtain ⟨prc, prf, prl⟩ := cells_of pr.out; have on_ := Aside0.mk (blk_put on.out 5 (.int .i64 (Int.tmod (wrap64 (c 5 + 1)) (c 4))) (cs' := C14 (upd c 5 (Int.tmod (wrap64 (c 5 + 1)) (c 4))) (.slice A m cap)) rfl); clear on onc onf onl; have on := on_; clear on_; obtain ⟨onc, onf, onl⟩ := cells_of on.out)
  clear hc4 hc5 hcell
  obtain ⟨qb, qo, eA, _⟩ := F_cell' q.out (by decide)
  injection eA with eA
  subst eA
  obtain ⟨i096, hi096, _, hsz96, _⟩ := info_parts infoB
  have hc8 := qc.out
  have hcut1 := cut_to (P := Try.prog) 23 5 .i64 Try.underlying23 hi096 (some ⟨qb, qo, none⟩) 16 c_q 8 (by decide) (by decide) qc.out
  have hcut2 := cut_mid (P := Try.prog) 23 5 .i64 .i64 Try.underlying23 hi096 1 hsz96 (some ⟨qb, qo, none⟩) 16 c_q 8 10 (by decide) (by decide) (by decide) qc.out
  rw [if_neg (by omega)] at hcut2
  simp only [Option.map_some, add_eq] at hcut2
  have hq3 : Aside0 (Kd.F (Kd.int .u8) _ _ (some ⟨qb, qo, none⟩) 8 (d.take 8)) := ⟨F_sub q.out 0 8 (by decide)⟩
  have hq4 := Aside0.mk (F_sub q.out 8 2 (by decide))
  go_wp2_with fail
  (go_at_call 39; (with_reducible refine (rget_size _ _ d _ HDL.out HDB.out (Kd.F_now (fG hq4)) (by omega)).mono ?_); rintro e_ w3 ⟨rfl, hb_⟩; have HB_ : Aside0 (Below w.heap.size w w3) := Aside0.mk (below_step (bG HB) hb_); have hzw3 := hb_.size; (try simp at hzw3); have on_ := Aside0.mk (box_below hb_ (eG on)); have orr_ := Aside0.mk (box_below hb_ (eG orr)); have pn_ := Aside0.mk (box_below hb_ (eG pn)); have pr_ := Aside0.mk (box_below hb_ (eG pr)); have HR_ := Aside0.mk (Kd.F_below (fG HR) hb_); clear HR; have HR := HR_; clear HR_; have q_ := Aside0.mk (Kd.F_below (fG q) hb_); clear q; have q := q_; clear q_; have hq3_ := Aside0.mk (Kd.F_below (fG hq3) hb_); clear hq3; have hq3 := hq3_; clear hq3_; (try clear on onc onf onl); have on := on_; clear on_; obtain ⟨onc, onf, onl⟩ := cells_of on.out; (try clear orr orrc orrf orrl); have orr := orr_; clear orr_; obtain ⟨orrc, orrf, orrl⟩ := cells_of orr.out; (try clear pn pnc pnf pnl); have pn := pn_; clear pn_; obtain ⟨pnc, pnf, pnl⟩ := cells_of pn.out; (try clear pr prc prf prl); have pr := pr_; clear pr_; obtain ⟨prc, prf, prl⟩ := cells_of pr.out; clear HB hb_; have HB := HB_; clear HB_)
  go_upto_region 12 with fail
  refine start_ (n := 11) (S := fun w' => w'.heap[w.heap.size + 1]? = some (.cells #[.slice R l.length rc] 27 (0, 0))) (ds := []) #[false, false, false, false, false, false, false, false, false, false, false] (by kernel_rfl) rfl rfl (eG orr) (fun hHeld => ?_)
  refine rowL_ (i := 0) (N := some 73) #[true, false, false, false, false, false, false, false, false, false, false] rfl rfl (by kernel_rfl) 27 _ rfl (w.heap.size + 1) (#[.slice R l.length rc]) (fun _ _ _ h => h) (by rfl) (by rfl) _ _ _ (fun _ h => h) Try.underlying27 rfl i27 hHeld (a' := ?_) ?_ ?_
  rotate_left
  · simp only [Act.put, List.setIfInBounds_toArray, List.set_cons_zero, List.set_cons_succ, i64_w, i32_w]
    rfl
  refine pure_ (i := 1) (N := some 74) (v := ?_) (a' := ?_) #[true, true, false, false, false, false, false, false, false, false, false] rfl rfl (by kernel_rfl) (fun _ _ _ h => h) (Or.inl ⟨by rfl, ?_⟩) ?_ ?_
  rotate_left
  · intro w'
    go_simp
    with_reducible rfl
  rotate_left
  · simp only [Act.put, List.setIfInBounds_toArray, List.set_cons_zero, List.set_cons_succ, i64_w, i32_w]
    rfl
  refine pure_ (i := 2) (N := some 75) (v := ?_) (a' := ?_) #[true, true, true, false, false, false, false, false, false, false, false] rfl rfl (by kernel_rfl) (fun _ _ _ h => h) (Or.inl ⟨by rfl, ?_⟩) ?_ ?_
  rotate_left
  · intro w'
    go_simp
    with_reducible rfl
  rotate_left
  · simp only [Act.put, List.setIfInBounds_toArray, List.set_cons_zero, List.set_cons_succ, i64_w, i32_w]
    rfl
  refine pure_ (i := 4) (N := some 77) (v := ?_) (a' := ?_) #[true, true, true, false, true, false, false, false, false, false, false] rfl rfl (by kernel_rfl) (fun _ _ _ h => h) (Or.inl ⟨by rfl, ?_⟩) ?_ ?_
  rotate_left
  · intro w'
    go_simp
    with_reducible rfl
  rotate_left
  · simp only [Act.put, List.setIfInBounds_toArray, List.set_cons_zero, List.set_cons_succ, i64_w, i32_w]
    rfl
  refine one_ (i := 3) (N := some 76) #[true, true, true, true, true, false, false, false, false, false, false] rfl rfl (by kernel_rfl) (by decide) (fun K hK => ?_)
  (refine goes_ Try.func39 (by kernel_rfl) rfl #[.slice (some ⟨qb, qo, none⟩) 8 c_q, .bool false] (by rfl) rfl rfl (by (try simp only [List.map_toArray, List.map_cons, List.map_nil]); first | done | rfl) ?_; (with_reducible refine (rget_buf _ _ d _ HDL.out HDB.out (Kd.F_now (fG hq3)) (by omega)).mono ?_); rintro e_ w4 ⟨rfl, hb_⟩; refine ⟨_, rfl, ?_⟩; have HB_ : Aside0 (Below w.heap.size w w4) := Aside0.mk (below_step (bG HB) hb_); have hzw4 := hb_.size; (try simp at hzw4); have on_ := Aside0.mk (box_below hb_ (eG on)); have orr_ := Aside0.mk (box_below hb_ (eG orr)); have pn_ := Aside0.mk (box_below hb_ (eG pn)); have pr_ := Aside0.mk (box_below hb_ (eG pr)); have HR_ := Aside0.mk (Kd.F_below (fG HR) hb_); clear HR; have HR := HR_; clear HR_; have q_ := Aside0.mk (Kd.F_below (fG q) hb_); clear q; have q := q_; clear q_; (try clear on onc onf onl); have on := on_; clear on_; obtain ⟨onc, onf, onl⟩ := cells_of on.out; (try clear orr orrc orrf orrl); have orr := orr_; clear orr_; obtain ⟨orrc, orrf, orrl⟩ := cells_of orr.out; (try clear pn pnc pnf pnl); have pn := pn_; clear pn_; obtain ⟨pnc, pnf, pnl⟩ := cells_of pn.out; (try clear pr prc prf prl); have pr := pr_; clear pr_; obtain ⟨prc, prf, prl⟩ := cells_of pr.out; clear HB hb_; have HB := HB_; clear HB_)
  refine hK.out _ _ (eG orr) (fun hHeld => ?_)
  clear hK K
  refine norm_ (a' := ?_) ?_ ?_
  rotate_left
  · simp only [Act.put, List.setIfInBounds_toArray, List.set_cons_zero, List.set_cons_succ, i64_w, i32_w]
    rfl
  refine one_ (i := 5) (N := some 78) #[true, true, true, true, true, true, false, false, false, false, false] rfl rfl (by kernel_rfl) (by decide) (fun K hK => ?_)
  (refine goes_ Try.func37 (by kernel_rfl) rfl #[.agg #[.slice R l.length rc], .int .u64 (bufD d), .int .i64 (sizeD d)] (by rfl) rfl rfl (by (try simp only [List.map_toArray, List.map_cons, List.map_nil]); first | done | rfl) ?_; (with_reducible refine (rbytes_any R rc l (bufD d) (sizeD d) fr true _ (Kd.F_now (fG HR)) HC.out HBU.out HKI.out HL.out HPB.out).mono ?_); rintro e_ w5 ⟨v_t, rfl, hr_t, hb_⟩; refine ⟨_, rfl, ?_⟩; have HB_ : Aside0 (Below w.heap.size w w5) := Aside0.mk (below_step (bG HB) hb_); have hzw5 := hb_.size; (try simp at hzw5); have on_ := Aside0.mk (box_below hb_ (eG on)); have orr_ := Aside0.mk (box_below hb_ (eG orr)); have pn_ := Aside0.mk (box_below hb_ (eG pn)); have pr_ := Aside0.mk (box_below hb_ (eG pr)); have HR_ := Aside0.mk (Kd.F_below (fG HR) hb_); clear HR; have HR := HR_; clear HR_; have q_ := Aside0.mk (Kd.F_below (fG q) hb_); clear q; have q := q_; clear q_; (try clear on onc onf onl); have on := on_; clear on_; obtain ⟨onc, onf, onl⟩ := cells_of on.out; (try clear orr orrc orrf orrl); have orr := orr_; clear orr_; obtain ⟨orrc, orrf, orrl⟩ := cells_of orr.out; (try clear pn pnc pnf pnl); have pn := pn_; clear pn_; obtain ⟨pnc, pnf, pnl⟩ := cells_of pn.out; (try clear pr prc prf prl); have pr := pr_; clear pr_; obtain ⟨prc, prf, prl⟩ := cells_of pr.out; clear HB hb_; have HB := HB_; clear HB_; obtain ⟨A_t, c_t, ev_, hc_t, hf_t⟩ := R_Fl hr_t; subst ev_; have tc := Aside0.mk hc_t; have t := Aside0.mk (Kd.F_bound hf_t); clear hc_t hf_t hr_t; skip)
  refine hK.out _ _ (eG orr) (fun hHeld => ?_)
  clear hK K
  refine norm_ (a' := ?_) ?_ ?_
  rotate_left
  · simp only [Act.put, List.setIfInBounds_toArray, List.set_cons_zero, List.set_cons_succ, i64_w, i32_w]
    rfl
  refine pure_ (i := 6) (N := some 72) (v := ?_) (a' := ?_) #[true, true, true, true, true, true, true, false, false, false, false] rfl rfl (by kernel_rfl) (fun _ _ _ h => h) (Or.inl ⟨by rfl, ?_⟩) ?_ ?_
  rotate_left
  · intro w'
    go_simp
    with_reducible rfl
  rotate_left
  · simp only [Act.put, List.setIfInBounds_toArray, List.set_cons_zero, List.set_cons_succ, i64_w, i32_w]
    rfl
  refine pure_ (i := 7) (N := some 79) (v := ?_) (a' := ?_) #[true, true, true, true, true, true, true, true, false, false, false] rfl rfl (by kernel_rfl) (fun _ _ _ h => h) (Or.inl ⟨by rfl, ?_⟩) ?_ ?_
  rotate_left
  · intro w'
    go_simp
    with_reducible rfl
  rotate_left
  · simp only [Act.put, List.setIfInBounds_toArray, List.set_cons_zero, List.set_cons_succ, i64_w, i32_w]
    rfl
  refine pure_ (i := 8) (N := some 80) (v := ?_) (a' := ?_) #[true, true, true, true, true, true, true, true, true, false, false] rfl rfl (by kernel_rfl) (fun _ _ _ h => h) (Or.inl ⟨by rfl, ?_⟩) ?_ ?_
  rotate_left
  · intro w'
    go_simp
    with_reducible rfl
  rotate_left
  · simp only [Act.put, List.setIfInBounds_toArray, List.set_cons_zero, List.set_cons_succ, i64_w, i32_w]
    rfl
  refine pure_ (i := 9) (N := some 12) (v := ?_) (a' := ?_) #[true, true, true, true, true, true, true, true, true, true, false] rfl rfl (by kernel_rfl) (fun _ _ _ h => h) (Or.inl ⟨by rfl, ?_⟩) ?_ ?_
  rotate_left
  · intro w'
    go_simp
    with_reducible rfl
  rotate_left
  · simp only [Act.put, List.setIfInBounds_toArray, List.set_cons_zero, List.set_cons_succ, i64_w, i32_w]
    rfl
  refine pure_ (i := 10) (N := some 13) (v := ?_) (a' := ?_) #[true, true, true, true, true, true, true, true, true, true, true] rfl rfl (by kernel_rfl) (fun _ _ _ h => h) (Or.inl ⟨by rfl, ?_⟩) ?_ ?_
  rotate_left
  · intro w'
    go_simp
    with_reducible rfl
  rotate_left
  · simp only [Act.put, List.setIfInBounds_toArray, List.set_cons_zero, List.set_cons_succ, i64_w, i32_w]
    rfl
  refine done_ (by kernel_rfl) ?_
  go_upto_region 14 with fail
  refine start_ (n := 10) (S := fun w' => w'.heap[w.heap.size]? = some (.cells (C14 (upd c 5 (Int.tmod (wrap64 (c 5 + 1)) (c 4))) (.slice A m cap)) 25 (0, 0)) ∧ w'.heap[w.heap.size + 1]? = some (.cells (#[.slice R l.length rc]) 27 (0, 0))) (ds := []) #[false, false, false, false, false, false, false, false, false, false] (by kernel_rfl) rfl rfl ⟨(eG on), (eG orr)⟩ (fun hHeld => ?_)
  refine rowL_ (i := 0) (N := some 91) #[true, false, false, false, false, false, false, false, false, false] rfl rfl (by kernel_rfl) 25 _ rfl (w.heap.size) (C14 (upd c 5 (Int.tmod (wrap64 (c 5 + 1)) (c 4))) (.slice A m cap)) (fun _ _ _ h => h) (by rfl) (by rfl) _ _ _ (fun _ h => h.1) Try.underlying25 rfl i25 hHeld (a' := ?_) ?_ ?_
  rotate_left
  · simp only [Act.put, List.setIfInBounds_toArray, List.set_cons_zero, List.set_cons_succ, i64_w, i32_w]
    rfl
  refine rowL_ (i := 2) (N := some 93) #[true, false, true, false, false, false, false, false, false, false] rfl rfl (by kernel_rfl) 27 _ rfl (w.heap.size + 1) (#[.slice R l.length rc]) (fun _ _ _ h => h) (by rfl) (by rfl) _ _ _ (fun _ h => h.2) Try.underlying27 rfl i27 hHeld (a' := ?_) ?_ ?_
  rotate_left
  · simp only [Act.put, List.setIfInBounds_toArray, List.set_cons_zero, List.set_cons_succ, i64_w, i32_w]
    rfl
  refine pure_ (i := 3) (N := some 94) (v := ?_) (a' := ?_) #[true, false, true, true, false, false, false, false, false, false] rfl rfl (by kernel_rfl) (fun _ _ _ h => h) (Or.inl ⟨by rfl, ?_⟩) ?_ ?_
  rotate_left
  · intro w'
    go_simp
    with_reducible rfl
  rotate_left
  · simp only [Act.put, List.setIfInBounds_toArray, List.set_cons_zero, List.set_cons_succ, i64_w, i32_w]
    rfl
  refine pure_ (i := 4) (N := some 95) (v := ?_) (a' := ?_) #[true, false, true, true, true, false, false, false, false, false] rfl rfl (by kernel_rfl) (fun _ _ _ h => h) (Or.inl ⟨by rfl, ?_⟩) ?_ ?_
  rotate_left
  · intro w'
    go_simp
    with_reducible rfl
  rotate_left
  · simp only [Act.put, List.setIfInBounds_toArray, List.set_cons_zero, List.set_cons_succ, i64_w, i32_w]
    rfl
  refine one_ (i := 1) (N := some 92) #[true, true, true, true, true, false, false, false, false, false] rfl rfl (by kernel_rfl) (by decide) (fun K hK => ?_)
  (refine goes_ Try.func43 (by kernel_rfl) rfl #[.agg (C14 (upd c 5 (Int.tmod (wrap64 (c 5 + 1)) (c 4))) (.slice A m cap))] (by rfl) rfl rfl (by (try simp only [List.map_toArray, List.map_cons, List.map_nil]); first | done | rfl) ?_; (with_reducible refine (rwrong_is (upd c 5 (Int.tmod (wrap64 (c 5 + 1)) (c 4))) A m cap _).mono ?_); rintro e_ wq1 ⟨rfl, hb_⟩; refine ⟨_, rfl, ?_⟩; have HB_ : Aside0 (Below w.heap.size w wq1) := Aside0.mk (below_step (bG HB) hb_); have hzwq1 := hb_.size; (try simp at hzwq1); have on_ := Aside0.mk (box_below hb_ (eG on)); have orr_ := Aside0.mk (box_below hb_ (eG orr)); have pn_ := Aside0.mk (box_below hb_ (eG pn)); have pr_ := Aside0.mk (box_below hb_ (eG pr)); have HR_ := Aside0.mk (Kd.F_below (fG HR) hb_); clear HR; have HR := HR_; clear HR_; have q_ := Aside0.mk (Kd.F_below (fG q) hb_); clear q; have q := q_; clear q_; (try clear on onc onf onl); have on := on_; clear on_; obtain ⟨onc, onf, onl⟩ := cells_of on.out; (try clear orr orrc orrf orrl); have orr := orr_; clear orr_; obtain ⟨orrc, orrf, orrl⟩ := cells_of orr.out; (try clear pn pnc pnf pnl); have pn := pn_; clear pn_; obtain ⟨pnc, pnf, pnl⟩ := cells_of pn.out; (try clear pr prc prf prl); have pr := pr_; clear pr_; obtain ⟨prc, prf, prl⟩ := cells_of pr.out; clear HB hb_; have HB := HB_; clear HB_)
  refine hK.out _ _ ⟨(eG on), (eG orr)⟩ (fun hHeld => ?_)
  clear hK K
  refine norm_ (a' := ?_) ?_ ?_
  rotate_left
  · simp only [Act.put, List.setIfInBounds_toArray, List.set_cons_zero, List.set_cons_succ, i64_w, i32_w]
    rfl
  refine one_ (i := 5) (N := some 96) #[true, true, true, true, true, true, false, false, false, false] rfl rfl (by kernel_rfl) (by decide) (fun K hK => ?_)
  (refine goes_ Try.func44 (by kernel_rfl) rfl #[.agg #[.slice R l.length rc], .int .u64 at_, .slice (some ⟨qb, qo, none⟩) 16 c_q, .int .u8 2] (by rfl) rfl rfl (by (try simp only [List.map_toArray, List.map_cons, List.map_nil]); first | done | rfl) ?_; (with_reducible refine (rdone_is at_ (IntKind.u64.wrap (at_ + 10)) (flagD d) (restD d) 2 _ R rc l ⟨qb, qo, none⟩ c_q d _ _ _ rfl (flagD_is d) (restD_is d) HDL.out (fG HR) HC.out (fG q) qc.out HFL.out).mono ?_); rintro e_ wq2 ⟨A_s, c_s, rfl, hc_s, hr_s, hb_⟩; refine ⟨_, rfl, ?_⟩; have HB_ : Aside0 (Below w.heap.size w wq2) := Aside0.mk (below_step (bG HB) hb_); have hzwq2 := hb_.size; (try simp at hzwq2); have on_ := Aside0.mk (box_below hb_ (eG on)); have orr_ := Aside0.mk (box_below hb_ (eG orr)); have pn_ := Aside0.mk (box_below hb_ (eG pn)); have pr_ := Aside0.mk (box_below hb_ (eG pr)); have HR_ := Aside0.mk (Kd.F_below (fG HR) hb_); clear HR; have HR := HR_; clear HR_; have q_ := Aside0.mk (Kd.F_below (fG q) hb_); clear q; have q := q_; clear q_; (try clear on onc onf onl); have on := on_; clear on_; obtain ⟨onc, onf, onl⟩ := cells_of on.out; (try clear orr orrc orrf orrl); have orr := orr_; clear orr_; obtain ⟨orrc, orrf, orrl⟩ := cells_of orr.out; (try clear pn pnc pnf pnl); have pn := pn_; clear pn_; obtain ⟨pnc, pnf, pnl⟩ := cells_of pn.out; (try clear pr prc prf prl); have pr := pr_; clear pr_; obtain ⟨prc, prf, prl⟩ := cells_of pr.out; clear HB hb_; have HB := HB_; clear HB_; have sc := Aside0.mk hc_s; have s := Aside0.mk (Kd.F_bound hr_s); clear hc_s hr_s; skip)
  refine hK.out _ _ ⟨(eG on), (eG orr)⟩ (fun hHeld => ?_)
  clear hK K
  refine norm_ (a' := ?_) ?_ ?_
  rotate_left
  · simp only [Act.put, List.setIfInBounds_toArray, List.set_cons_zero, List.set_cons_succ, i64_w, i32_w]
    rfl
  refine rowS_ (i := 6) #[true, true, true, true, true, true, true, false, false, false] rfl rfl (by kernel_rfl) (by decide) 25 _ _ rfl (w.heap.size + 1 + 1) (C14 (failC (upd c 5 (Int.tmod (wrap64 (c 5 + 1)) (c 4)))) (.slice A m cap)) (by rfl) (by rfl) (by rfl) (#[.int .i64 0, .int .i64 0, .int .i64 0, .int .u64 0, .int .i64 0, .int .i64 0, .int .i64 0, .int .u64 0, .int .i64 0, .int .i64 0, .int .i64 0, .int .i64 0, .int .i64 0, .slice none 0 0]) 25 (eG pn) rfl i25 (C14_one _ _ _ _) ?_
  (rintro wq3 ⟨hx_, hk_, hb_, hzz_⟩; have HB_ : Aside0 (Below w.heap.size w wq3) := Aside0.mk (Below.trans (bG HB) (Below.mono hb_ (by first | omega | (simp only [sz_alloc, sz_drew, sz_drewN]; omega)))); have hzwq3 := hzz_; (try simp at hzwq3); clear hzz_; have on_ := Aside0.mk (st_put on.out hk_ (fun h_ => (by repeat (with_reducible first | exact h_ | apply ext_drew | apply ext_drewN | apply ext_alloc | refine blk_far ?_ (by show _ ≠ _; dsimp only; omega) _))) (by omega)); clear on onc onf onl; have on := on_; clear on_; obtain ⟨onc, onf, onl⟩ := cells_of on.out; have orr_ := Aside0.mk (st_put orr.out hk_ (fun h_ => (by repeat (with_reducible first | exact h_ | apply ext_drew | apply ext_drewN | apply ext_alloc | refine blk_far ?_ (by show _ ≠ _; dsimp only; omega) _))) (by omega)); clear orr orrc orrf orrl; have orr := orr_; clear orr_; obtain ⟨orrc, orrf, orrl⟩ := cells_of orr.out; have pr_ := Aside0.mk (st_put pr.out hk_ (fun h_ => (by repeat (with_reducible first | exact h_ | apply ext_drew | apply ext_drewN | apply ext_alloc | refine blk_far ?_ (by show _ ≠ _; dsimp only; omega) _))) (by omega)); clear pr prc prf prl; have pr := pr_; clear pr_; obtain ⟨prc, prf, prl⟩ := cells_of pr.out; have HR_ := Aside0.mk (Kd.F_step (fG HR) (fun j_ hj_ hl_ => hk_ j_ (by (try dsimp only at hj_); (try simp only [sz_alloc, sz_drew, sz_drewN, sz_set] at hj_); omega))); clear HR; have HR := HR_; clear HR_; have q_ := Aside0.mk (Kd.F_step (fG q) (fun j_ hj_ hl_ => hk_ j_ (by (try dsimp only at hj_); (try simp only [sz_alloc, sz_drew, sz_drewN, sz_set] at hj_); omega))); clear q; have q := q_; clear q_; have s_ := Aside0.mk (Kd.F_step (fG s) (fun j_ hj_ hl_ => hk_ j_ (by (try dsimp only at hj_); (try simp only [sz_alloc, sz_drew, sz_drewN, sz_set] at hj_); omega))); clear s; have s := s_; clear s_; (try clear pn pnc pnf pnl); have pn := Aside0.mk hx_; obtain ⟨pnc, pnf, pnl⟩ := cells_of pn.out; clear HB hb_ hk_ hx_; have HB := HB_; clear HB_)
  refine ⟨⟨(eG on), (eG orr)⟩, ?_⟩
  refine rowS_ (i := 7) #[true, true, true, true, true, true, true, true, false, false] rfl rfl (by kernel_rfl) (by decide) 27 _ _ rfl (w.heap.size + 1 + 1 + 1) (#[.slice A_s (fillL l (IntKind.u64.wrap (at_ + 10)) [Go.bits .andNot .u8 (flagD d) 1, restD d, 2, 0]).length c_s]) (by rfl) (by rfl) (by rfl) (#[.slice none 0 0]) 27 (eG pr) rfl i27 (one27 _ _ _) ?_
  (rintro wq4 ⟨hx_, hk_, hb_, hzz_⟩; have HB_ : Aside0 (Below w.heap.size w wq4) := Aside0.mk (Below.trans (bG HB) (Below.mono hb_ (by first | omega | (simp only [sz_alloc, sz_drew, sz_drewN]; omega)))); have hzwq4 := hzz_; (try simp at hzwq4); clear hzz_; have on_ := Aside0.mk (st_put on.out hk_ (fun h_ => (by repeat (with_reducible first | exact h_ | apply ext_drew | apply ext_drewN | apply ext_alloc | refine blk_far ?_ (by show _ ≠ _; dsimp only; omega) _))) (by omega)); clear on onc onf onl; have on := on_; clear on_; obtain ⟨onc, onf, onl⟩ := cells_of on.out; have orr_ := Aside0.mk (st_put orr.out hk_ (fun h_ => (by repeat (with_reducible first | exact h_ | apply ext_drew | apply ext_drewN | apply ext_alloc | refine blk_far ?_ (by show _ ≠ _; dsimp only; omega) _))) (by omega)); clear orr orrc orrf orrl; have orr := orr_; clear orr_; obtain ⟨orrc, orrf, orrl⟩ := cells_of orr.out; have pn_ := Aside0.mk (st_put pn.out hk_ (fun h_ => (by repeat (with_reducible first | exact h_ | apply ext_drew | apply ext_drewN | apply ext_alloc | refine blk_far ?_ (by show _ ≠ _; dsimp only; omega) _))) (by omega)); clear pn pnc pnf pnl; have pn := pn_; clear pn_; obtain ⟨pnc, pnf, pnl⟩ := cells_of pn.out; have HR_ := Aside0.mk (Kd.F_step (fG HR) (fun j_ hj_ hl_ => hk_ j_ (by (try dsimp only at hj_); (try simp only [sz_alloc, sz_drew, sz_drewN, sz_set] at hj_); omega))); clear HR; have HR := HR_; clear HR_; have q_ := Aside0.mk (Kd.F_step (fG q) (fun j_ hj_ hl_ => hk_ j_ (by (try dsimp only at hj_); (try simp only [sz_alloc, sz_drew, sz_drewN, sz_set] at hj_); omega))); clear q; have q := q_; clear q_; have s_ := Aside0.mk (Kd.F_step (fG s) (fun j_ hj_ hl_ => hk_ j_ (by (try dsimp only at hj_); (try simp only [sz_alloc, sz_drew, sz_drewN, sz_set] at hj_); omega))); clear s; have s := s_; clear s_; (try clear pr prc prf prl); have pr := Aside0.mk hx_; obtain ⟨prc, prf, prl⟩ := cells_of pr.out; clear HB hb_ hk_ hx_; have HB := HB_; clear HB_)
  refine ⟨⟨(eG on), (eG orr)⟩, ?_⟩
  refine pure_ (i := 8) (N := some 6) (v := ?_) (a' := ?_) #[true, true, true, true, true, true, true, true, true, false] rfl rfl (by kernel_rfl) (fun _ _ _ h => h) (Or.inl ⟨by rfl, ?_⟩) ?_ ?_
  rotate_left
  · intro w'
    go_simp
    with_reducible rfl
  rotate_left
  · simp only [Act.put, List.setIfInBounds_toArray, List.set_cons_zero, List.set_cons_succ, i64_w, i32_w]
    rfl
  refine pure_ (i := 9) (N := some 7) (v := ?_) (a' := ?_) #[true, true, true, true, true, true, true, true, true, true] rfl rfl (by kernel_rfl) (fun _ _ _ h => h) (Or.inl ⟨by rfl, ?_⟩) ?_ ?_
  rotate_left
  · intro w'
    go_simp
    with_reducible rfl
  rotate_left
  · simp only [Act.put, List.setIfInBounds_toArray, List.set_cons_zero, List.set_cons_succ, i64_w, i32_w]
    rfl
  refine done_ (by kernel_rfl) ?_
  go_wp2
  refine bodyPost_ret (results_cctt rfl _ _ (w.heap.size + 1 + 1) (w.heap.size + 1 + 1 + 1) 25 27 (C14 (failC (upd c 5 (Int.tmod (wrap64 (c 5 + 1)) (c 4)))) (.slice A m cap)) #[.slice A_s (fillL l (IntKind.u64.wrap (at_ + 10)) [Go.bits .andNot .u8 (flagD d) 1, restD d, 2, 0]).length c_s] (0, 0) (0, 0) _ _ rfl rfl pn.out pr.out Try.underlying25 rfl i25 Try.underlying27 rfl i27) rfl ?_
  exact ⟨A_s, c_s, none, 0, rfl, sc.out, (by refine F_res (ok := ?_) ?_ ?_; rotate_left; (repeat (with_reducible first | exact s.out | apply Kd.F_drew | apply Kd.F_drewN | apply Kd.F_alloc | refine Kd.F_far ?_ ?_ _)); all_goals (intro j_ hj_; (try dsimp only at hj_); (try dsimp only); (try simp only [sz_alloc, sz_drew, sz_drewN, sz_set] at hj_); first | omega | exact .inl hj_.1 | exact .inl hj_ | exact .inr (by omega) | (rcases hj_ with hj_ | hj_; exact .inl hj_.1; exact .inr (by omega)) | (rcases hj_ with hj_ | hj_; exact .inl hj_; exact .inr (by omega)) | (rcases hj_.1 with hk_ | hk_; (first | exact .inl hk_.1 | exact .inl hk_); exact .inr (by omega)))), Nat.le_refl _, F_nil, (bG HB)⟩
end Go.Proofs.Ytdblpflepfcnjaa.Q
