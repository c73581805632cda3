import Derived.Test.YtdblpflepfcnjaaPZ1
import Derived.Test.YtdblpflepfcnjaaPXRr2
import Derived.Test.YtdblpflepfcnjaaPZ6
/- The document's Receive: a good frame. -/
namespace Go.Proofs.Ytdblpflepfcnjaa.Q
open Go.RowKit Go.Proofs.YtdblpflepfcnjaaW.PrintWords Go.Proofs.YtdblpflepfcnjaaW.PrintLast Go.Proofs.YtdblpflepfcnjaaW.PrintMore Go.Proofs.Ytdblpflepfcnjaa.L
attribute [local go_sem] Instr.field part asAgg lt_step max2_int min2_int max_two min_two max_three min_three max_four min_four lt_0_1 lt_0_2 lt_1_2 lt_0_3 lt_1_3 lt_2_3 lt_0_4 lt_1_4 lt_2_4 lt_3_4 lt_0_5 lt_1_5 lt_2_5 lt_3_5 lt_4_5 lt_0_6 lt_1_6 lt_2_6 lt_3_6 lt_4_6 lt_5_6 lt_0_7 lt_1_7 lt_2_7 lt_3_7 lt_4_7 lt_5_7 lt_6_7 lt_0_8 lt_1_8 lt_2_8 lt_3_8 lt_4_8 lt_5_8 lt_6_8 lt_7_8
set_option linter.unusedVariables false
set_option linter.unusedSimpArgs false
theorem putB2_len (x : Int) : (putB x 2 false).length = 2 := rfl
theorem rput_is (x : Int) (w : World) : Calls Try.prog 53 #[.int .u64 x, .int .i64 2, .bool false] w fun e w' => ∃ A' c', e = .returned (.slice A' 2 c') ∧ 2 ≤ c' ∧ Kd.F (Kd.int .u8) w' (fun j => w.heap.size ≤ j) A' 2 (putB x 2 false) ∧ Below w.heap.size w w' := by
  refine (drawbridgeref01_Put.calls 18 x 2 false _ w (refput_tells 18 (Nat.le_refl _) x 2 false (by omega))).mono ?_
  rintro e w' ⟨v, rfl, hR, hB⟩
  obtain ⟨A, c, ev, hc, hF⟩ := R_Fl hR
  subst ev
  exact ⟨A, c, rfl, hc, hF, hB⟩
theorem rfill_r (R : Option Addr) (rc : Nat) (l : List Int) (a : Int) (A2 : Option Addr) (c2 : Nat) (b : List Int) (n : Nat) (hn : b.length = n) (w : World) (ok ok2 : Nat → Prop) (hr : Kd.F (Kd.int .u8) w ok R l.length l) (hc : l.length ≤ rc) (hr2 : Kd.F (Kd.int .u8) w ok2 A2 n b) (hc2 : n ≤ c2) (ha : u64B a) (hl : (l.length : Int) ≤ 70000) (hb : (n : Int) ≤ 9223372036854775807) :
    Calls Try.prog 31 #[.agg #[.slice R l.length rc], .int .u64 a, .slice A2 n c2] w fun e w' => ∃ A' c', e = .returned (.tuple #[.agg #[.slice A' (fillL l a b).length c'], .bool (placeZ l.length a n).2]) ∧ (fillL l a b).length ≤ c' ∧ Kd.F (Kd.int .u8) w' (fun j => ok j ∨ w.heap.size ≤ j) A' (fillL l a b).length (fillL l a b) ∧ Below w.heap.size w w' := by
  subst hn
  refine (drawbridgeref07_Fill.calls ok R rc l a A2 c2 b (fillL l a b) _ w (Kd.V_mk hc hr) (Kd.F_now hr2) hc2 (refFill_is l a b ha hb hl)).mono ?_
  rintro e w' ⟨v, he, hV, hB⟩
  obtain ⟨A', c', ev, hc, hF'⟩ := hV
  subst ev
  exact ⟨A', c', he, hc, hF', hB⟩
set_option maxHeartbeats 1600000 in
set_option maxRecDepth 100000 in
theorem rrecv_good (A : Option Addr) (cap : Nat) (mac : List Int) (R : Option Addr) (rc : Nat) (l : List Int) (FA : Option Addr) (fc : Nat) (fr : List Int) (c : Nat → Int) (w : World) (okm ok okf : Nat → Prop) (hm : Kd.F (Kd.int .u8) w okm A mac.length mac) (hmc : mac.length ≤ cap) (hr : Kd.F (Kd.int .u8) w ok R l.length l) (hc : l.length ≤ rc) (hf : Kd.F (Kd.int .u8) w okf FA fr.length fr) (hfc : fr.length ≤ fc) (at_ : Int) (h3 : 0 ≤ c 3) (h7 : 0 ≤ c 7) (hk : okC c mac.length = true) (e1 e2 e3 e4 e5 : Bool) (he1 : decide ((fr.length : Int) < 14) = e1) (he2 : decide ((fr.length : Int) > 1514) = e2) (he3 : (Int.tmod (wrap64 (Int.tdiv (c 0) 2)) 2 == 0) = e3) (he3' : Int.tmod (wrap64 (Int.tdiv (c 0) 2)) 2 = 0 ↔ e3 = true) (he4 : ∀ W, Kd.F (Kd.int .u8) W (fun _ => True) A mac.length mac → Kd.F (Kd.int .u8) W (fun _ => True) FA fr.length fr → e1 = false → Calls Try.prog 50 #[.agg (C14 c (.slice A mac.length cap)), .slice FA fr.length fc] W fun e w' => e = .returned (.bool e4) ∧ Below W.heap.size W w') (he5 : (c 9 == c 10) = e5) (hb : (e1 || e2 || e3 || !e4 || e5) = false) (hat : IntKind.u64.wrap (c 7 + IntKind.u64.wrap (16 * IntKind.u64.wrap (c 9))) = at_) (ha : u64B at_) (hl : (l.length : Int) ≤ 70000) (d : List Int) (x : Int) (hp : bytesZ l at_ 16 = (d, true)) (hdl : d.length = 16) (hx : d.getD 10 0 = x) (ho : (Int.tmod x 2 == 0) = false) (ho' : (x % 2 == 0) = false) (hne : ¬ c 8 = 0) (hbu : u64B (bufD d)) (hdb : ∀ z ∈ d, byte z) (hws : wrap64 (sizeD d) = sizeD d) (hfl : (fr.length : Int) ≤ 9223372036854775807) (hz1 : decide (sizeD d < (fr.length : Int)) = false) (hin : (placeZ l.length (bufD d) fr.length).2 = true) :
    Calls Try.prog 28 #[.agg (C14 c (.slice A mac.length cap)), .agg #[.slice R l.length rc], .slice FA fr.length fc] w (RecvPost A mac.length cap ok w (upd (upd c 9 (Int.tmod (wrap64 (c 9 + 1)) (c 8))) 1 (Go.bits .or .i64 (c 1) 2)) (fillL (fillL (fillL l (IntKind.u64.wrap (at_ + 8)) (putB (fr.length : Int) 2 false)) (bufD d) fr) (IntKind.u64.wrap (at_ + 10)) [Go.bits .andNot .u8 (flagD d) 1, restD d, 1, 0]) true) := by
  have HB := Aside0.mk (Below.refl w.heap.size w)
  have HR := Aside0.mk (Kd.F_bound hr)
  have HM := Aside0.mk (Kd.F_bound hm)
  have HF := Aside0.mk (Kd.F_bound hf)
  have HC := Aside0.mk hc
  have HMC := Aside0.mk hmc
  have HFC := Aside0.mk hfc
  have HK := Aside0.mk hk
  have hu := Try.underlying25
  have hu7 := Try.underlying27
  have H3 := Aside0.mk h3
  have H7 := Aside0.mk h7
  clear h3 h7
  have HWT := Aside0.mk he4
  clear he4
  have HA := Aside0.mk ha
  have HL := Aside0.mk hl
  clear ha hl
  have HP := Aside0.mk hp
  have HX := Aside0.mk hx
  have HDL := Aside0.mk hdl
  clear hp hx hdl
  have HBU := Aside0.mk hbu
  have HDB := Aside0.mk hdb
  clear hbu hdb
  have HIN := Aside0.mk hin
  clear hin
  have hwf : IntKind.u64.wrap (fr.length : Int) = fr.length := by rw [IntKind.wrap_u64]; omega
  have hl1 : (fillL l (IntKind.u64.wrap (at_ + 8)) (putB (fr.length : Int) 2 false)).length = l.length := fillL_length _ _ _
  have hl2 : (fillL (fillL l (IntKind.u64.wrap (at_ + 8)) (putB (fr.length : Int) 2 false)) (bufD d) fr).length = l.length := (fillL_length _ _ _).trans hl1
  have HL1 := Aside0.mk (show ((fillL l (IntKind.u64.wrap (at_ + 8)) (putB (fr.length : Int) 2 false)).length : Int) ≤ 70000 from by rw [hl1]; exact HL.out)
  have HFL := Aside0.mk (refFill_is (fillL (fillL l (IntKind.u64.wrap (at_ + 8)) (putB (fr.length : Int) 2 false)) (bufD d) fr) (IntKind.u64.wrap (at_ + 10)) [Go.bits .andNot .u8 (flagD d) 1, restD d, 1, 0] (wrap_u _) (by simp) (by rw [hl2]; exact HL.out))
  clear hl1 hl2
  clear hm hmc hr hc hf hfc hk
  go_enter Try.func28, Try.ntmps28
  go_upto_region 1 with fail
  obtain ⟨wa, hwa, on0, or0, pn0, pr0, hb_, hz0⟩ := letter4 w (.cells (C14 c (.slice A mac.length cap)) 25 (0, 0)) (.cells #[.slice R l.length rc] 27 (0, 0)) (.cells #[.int .i64 0, .int .i64 0, .int .i64 0, .int .u64 0, .int .i64 0, .int .i64 0, .int .i64 0, .int .u64 0, .int .i64 0, .int .i64 0, .int .i64 0, .int .i64 0, .int .i64 0, .slice none 0 0] 25 (0, 0)) (.cells #[.slice none 0 0] 27 (0, 0))
  rw [hwa]
  clear hwa
  have hzwa := Nat.le_of_eq hz0.symm
  clear hz0
  have on := Aside0.mk on0
  have orr := Aside0.mk or0
  have pn := Aside0.mk pn0
  have pr := Aside0.mk pr0
  clear on0 or0 pn0 pr0
  obtain ⟨onc, onf, onl⟩ := cells_of on.out
  obtain ⟨orrc, orrf, orrl⟩ := cells_of orr.out
  obtain ⟨pnc, pnf, pnl⟩ := cells_of pn.out
  obtain ⟨prc, prf, prl⟩ := cells_of pr.out
  have HB_ : Aside0 (Below w.heap.size w wa) := ⟨hb_⟩
  have HR_ := Aside0.mk (Kd.F_below HR.out hb_)
  have HM_ := Aside0.mk (Kd.F_below HM.out hb_)
  have HF_ := Aside0.mk (Kd.F_below HF.out hb_)
  clear HB HR HM HF hb_; have HB := HB_; have HR := HR_; have HM := HM_; have HF := HF_; clear HB_ HR_ HM_ HF_
  go_wp2_with (first | ((with_reducible refine gate_dst (N := 16) rfl ?_); (try (refine gate_guard (by rfl) ?_; dsimp only)); refine wpList_load_row rfl 25 _ rfl _ (by rfl) _ (C14 c (.slice A mac.length cap)) _ _ (eG on) Try.underlying25 rfl i25 ?_))
  (go_at_call 20; (with_reducible refine (rCheck_of true c A mac.length cap _ H3.out H7.out HK.out).mono ?_); rintro e_ w1 ⟨rfl, hb_⟩; have HB_ : Aside0 (Below w.heap.size w w1) := Aside0.mk (below_step (bG HB) hb_); have hzw1 := hb_.size; (try simp at hzw1); have on_ := Aside0.mk (box_below hb_ (eG on)); have orr_ := Aside0.mk (box_below hb_ (eG orr)); have pn_ := Aside0.mk (box_below hb_ (eG pn)); have pr_ := Aside0.mk (box_below hb_ (eG pr)); have HR_ := Aside0.mk (Kd.F_below (fG HR) hb_); clear HR; have HR := HR_; clear HR_; have HM_ := Aside0.mk (Kd.F_below (fG HM) hb_); clear HM; have HM := HM_; clear HM_; have HF_ := Aside0.mk (Kd.F_below (fG HF) hb_); clear HF; have HF := HF_; clear HF_; (try clear on onc onf onl); have on := on_; clear on_; obtain ⟨onc, onf, onl⟩ := cells_of on.out; (try clear orr orrc orrf orrl); have orr := orr_; clear orr_; obtain ⟨orrc, orrf, orrl⟩ := cells_of orr.out; (try clear pn pnc pnf pnl); have pn := pn_; clear pn_; obtain ⟨pnc, pnf, pnl⟩ := cells_of pn.out; (try clear pr prc prf prl); have pr := pr_; clear pr_; obtain ⟨prc, prf, prl⟩ := cells_of pr.out; clear HB hb_; have HB := HB_; clear HB_)
  obtain ⟨⟨⟨⟨rfl, rfl⟩, rfl⟩, rfl⟩, rfl⟩ : (((e1 = false ∧ e2 = false) ∧ e3 = false) ∧ e4 = true) ∧ e5 = false := by simpa [Bool.or_eq_false_iff] using hb
  have hc0 : World.cell? w1 ⟨w.heap.size, 0, none⟩ = some (.int .i64 (c 0)) := (onc 0).trans rfl
  have hc9 : World.cell? w1 ⟨w.heap.size, 9, none⟩ = some (.int .i64 (c 9)) := (onc 9).trans rfl
  have hc10 : World.cell? w1 ⟨w.heap.size, 10, none⟩ = some (.int .i64 (c 10)) := (onc 10).trans rfl
  clear onc
  have onc := trivial
  go_wp2_with (first | ((with_reducible refine gate_dst (N := 37) rfl ?_); (try (refine gate_guard (by rfl) ?_; dsimp only)); refine wpList_load_row rfl 25 _ rfl _ (by rfl) _ (C14 c (.slice A mac.length cap)) _ _ (eG on) Try.underlying25 rfl i25 ?_))
  (go_at_call 50; (with_reducible refine (HWT.out _ (Kd.F_mono (fG HM) (fun _ _ => trivial)) (Kd.F_mono (fG HF) (fun _ _ => trivial)) (by first | trivial | rfl)).mono ?_); rintro e_ w2 ⟨rfl, hb_⟩; have HB_ : Aside0 (Below w.heap.size w w2) := Aside0.mk (below_step (bG HB) hb_); have hzw2 := hb_.size; (try simp at hzw2); have on_ := Aside0.mk (box_below hb_ (eG on)); have orr_ := Aside0.mk (box_below hb_ (eG orr)); have pn_ := Aside0.mk (box_below hb_ (eG pn)); have pr_ := Aside0.mk (box_below hb_ (eG pr)); have HR_ := Aside0.mk (Kd.F_below (fG HR) hb_); clear HR; have HR := HR_; clear HR_; have HF_ := Aside0.mk (Kd.F_below (fG HF) hb_); clear HF; have HF := HF_; clear HF_; (try clear on onc onf onl); have on := on_; clear on_; obtain ⟨onc, onf, onl⟩ := cells_of on.out; (try clear orr orrc orrf orrl); have orr := orr_; clear orr_; obtain ⟨orrc, orrf, orrl⟩ := cells_of orr.out; (try clear pn pnc pnf pnl); have pn := pn_; clear pn_; obtain ⟨pnc, pnf, pnl⟩ := cells_of pn.out; (try clear pr prc prf prl); have pr := pr_; clear pr_; obtain ⟨prc, prf, prl⟩ := cells_of pr.out; clear HB hb_; have HB := HB_; clear HB_)
  clear hc0 hc9 hc10
  have hc7 : World.cell? w2 ⟨w.heap.size, 7, none⟩ = some (.int .u64 (c 7)) := (onc 7).trans rfl
  have hc9 : World.cell? w2 ⟨w.heap.size, 9, none⟩ = some (.int .i64 (c 9)) := (onc 9).trans rfl
  have hc10 : World.cell? w2 ⟨w.heap.size, 10, none⟩ = some (.int .i64 (c 10)) := (onc 10).trans rfl
  clear onc
  have onc := trivial
  go_wp2_with fail
  (go_at_call 37; (with_reducible refine (rbytes_any R rc l at_ 16 d true _ (Kd.F_now (fG HR)) HC.out HA.out i64B16 HL.out HP.out).mono ?_); rintro e_ w3 ⟨v_q, rfl, hr_q, hb_⟩; have HB_ : Aside0 (Below w.heap.size w w3) := Aside0.mk (below_step (bG HB) hb_); have hzw3 := hb_.size; (try simp at hzw3); have on_ := Aside0.mk (box_below hb_ (eG on)); have orr_ := Aside0.mk (box_below hb_ (eG orr)); have pn_ := Aside0.mk (box_below hb_ (eG pn)); have pr_ := Aside0.mk (box_below hb_ (eG pr)); have HR_ := Aside0.mk (Kd.F_below (fG HR) hb_); clear HR; have HR := HR_; clear HR_; have HF_ := Aside0.mk (Kd.F_below (fG HF) hb_); clear HF; have HF := HF_; clear HF_; (try clear on onc onf onl); have on := on_; clear on_; obtain ⟨onc, onf, onl⟩ := cells_of on.out; (try clear orr orrc orrf orrl); have orr := orr_; clear orr_; obtain ⟨orrc, orrf, orrl⟩ := cells_of orr.out; (try clear pn pnc pnf pnl); have pn := pn_; clear pn_; obtain ⟨pnc, pnf, pnl⟩ := cells_of pn.out; (try clear pr prc prf prl); have pr := pr_; clear pr_; obtain ⟨prc, prf, prl⟩ := cells_of pr.out; clear HB hb_; have HB := HB_; clear HB_; obtain ⟨A_q, c_q, ev_, hc_q, hf_q⟩ := R_Fl hr_q; subst ev_; have qc := Aside0.mk hc_q; have q := Aside0.mk (Kd.F_bound hf_q); clear hc_q hf_q hr_q; skip)
  clear hc7 hc9 hc10
  have hdl := HDL.out
  obtain ⟨ad, rfl⟩ := row_some3 q.out 10 (by omega)
  have hcell : w3.cell? ⟨ad.block, ad.off + 10, none⟩ = some (.int .u8 x) := row_at3 q.out 10 (by omega) HX.out
  rw [hdl]
  rw [hdl] at q qc
  clear hdl
  have hc8 : World.cell? w3 ⟨w.heap.size, 8, none⟩ = some (.int .i64 (c 8)) := (onc 8).trans rfl
  have hc9 : World.cell? w3 ⟨w.heap.size, 9, none⟩ = some (.int .i64 (c 9)) := (onc 9).trans rfl
  clear onc
  have onc := trivial
  go_upto_region 13 with fail
  (have HR_ := Aside0.mk (Kd.F_far (p := ⟨w.heap.size, 9, none⟩) HR.out (fun j_ hj_ => by (try dsimp only at hj_); (try dsimp only); (try simp only [sz_alloc, sz_drew, sz_drewN, sz_set] at hj_); omega) (.int .i64 (Int.tmod (wrap64 (c 9 + 1)) (c 8)))); clear HR; have HR := HR_; clear HR_; have HF_ := Aside0.mk (Kd.F_far (p := ⟨w.heap.size, 9, none⟩) HF.out (fun j_ hj_ => by (try dsimp only at hj_); (try dsimp only); (try simp only [sz_alloc, sz_drew, sz_drewN, sz_set] at hj_); omega) (.int .i64 (Int.tmod (wrap64 (c 9 + 1)) (c 8)))); clear HF; have HF := HF_; clear HF_; have q_ := Aside0.mk (Kd.F_far (p := ⟨w.heap.size, 9, none⟩) q.out (fun j_ hj_ => by (try dsimp only at hj_); (try dsimp only); (try simp only [sz_alloc, sz_drew, sz_drewN, sz_set] at hj_); omega) (.int .i64 (Int.tmod (wrap64 (c 9 + 1)) (c 8)))); clear q; have q := q_; clear q_; have orr_ := Aside0.mk (blk_far (p := ⟨w.heap.size, 9, none⟩) orr.out (by show _ ≠ _; dsimp only; omega) (.int .i64 (Int.tmod (wrap64 (c 9 + 1)) (c 8)))); clear orr orrc orrf orrl; have orr := orr_; clear orr_; obtain ⟨orrc, orrf, orrl⟩ := cells_of orr.out; have pn_ := Aside0.mk (blk_far (p := ⟨w.heap.size, 9, none⟩) pn.out (by show _ ≠ _; dsimp only; omega) (.int .i64 (Int.tmod (wrap64 (c 9 + 1)) (c 8)))); clear pn pnc pnf pnl; have pn := pn_; clear pn_; obtain ⟨pnc, pnf, pnl⟩ := cells_of pn.out; have pr_ := Aside0.mk (blk_far (p := ⟨w.heap.size, 9, none⟩) pr.out (by show _ ≠ _; dsimp only; omega) (.int .i64 (Int.tmod (wrap64 (c 9 + 1)) (c 8)))); clear pr prc prf prl; have pr := pr_; clear pr_; obtain ⟨prc, prf, prl⟩ := cells_of pr.out; have on_ := Aside0.mk (blk_put on.out 9 (.int .i64 (Int.tmod (wrap64 (c 9 + 1)) (c 8))) (cs' := C14 (upd c 9 (Int.tmod (wrap64 (c 9 + 1)) (c 8))) (.slice A mac.length cap)) rfl); clear on onc onf onl; have on := on_; clear on_; obtain ⟨onc, onf, onl⟩ := cells_of on.out)
  clear hc8 hc9 hcell
  obtain ⟨qb, qo, eA, _⟩ := F_cell' q.out (by decide)
  injection eA with eA
  subst eA
  obtain ⟨i096, hi096, _, hsz96, _⟩ := info_parts infoB
  have hc8 := qc.out
  have hcut1 := cut_to (P := Try.prog) 23 5 .i64 Try.underlying23 hi096 (some ⟨qb, qo, none⟩) 16 c_q 8 (by decide) (by decide) qc.out
  have hcut2 := cut_mid (P := Try.prog) 23 5 .i64 .i64 Try.underlying23 hi096 1 hsz96 (some ⟨qb, qo, none⟩) 16 c_q 8 10 (by decide) (by decide) (by decide) qc.out
  rw [if_neg (by omega)] at hcut2
  simp only [Option.map_some, add_eq] at hcut2
  have hq3 : Aside0 (Kd.F (Kd.int .u8) _ _ (some ⟨qb, qo, none⟩) 8 (d.take 8)) := ⟨F_sub q.out 0 8 (by decide)⟩
  have hq4 := Aside0.mk (F_sub q.out 8 2 (by decide))
  refine start_ (n := 9) (S := fun w' => True) (ds := []) #[false, false, false, false, false, false, false, false, false] (by kernel_rfl) rfl rfl trivial (fun hHeld => ?_)
  refine pure_ (i := 0) (N := some 90) (v := ?_) (a' := ?_) #[true, false, false, false, false, false, false, false, false] rfl rfl (by kernel_rfl) (fun _ _ _ h => h) (Or.inl ⟨by rfl, ?_⟩) ?_ ?_
  rotate_left
  · intro w'
    go_simp
    with_reducible rfl
  rotate_left
  · simp only [Act.put, List.setIfInBounds_toArray, List.set_cons_zero, List.set_cons_succ, i64_w, i32_w]
    rfl
  refine pure_ (i := 1) (N := some 91) (v := ?_) (a' := ?_) #[true, true, false, false, false, false, false, false, false] rfl rfl (by kernel_rfl) (fun _ _ _ h => h) (Or.inl ⟨by rfl, ?_⟩) ?_ ?_
  rotate_left
  · intro w'
    go_simp
    with_reducible rfl
  rotate_left
  · simp only [Act.put, List.setIfInBounds_toArray, List.set_cons_zero, List.set_cons_succ, i64_w, i32_w]
    rfl
  refine pure_ (i := 3) (N := some 93) (v := ?_) (a' := ?_) #[true, true, false, true, false, false, false, false, false] rfl rfl (by kernel_rfl) (fun _ _ _ h => h) (Or.inl ⟨by rfl, ?_⟩) ?_ ?_
  rotate_left
  · intro w'
    go_simp
    with_reducible rfl
  rotate_left
  · simp only [Act.put, List.setIfInBounds_toArray, List.set_cons_zero, List.set_cons_succ, i64_w, i32_w]
    rfl
  refine pure_ (i := 4) (N := some 94) (v := ?_) (a' := ?_) #[true, true, false, true, true, false, false, false, false] rfl rfl (by kernel_rfl) (fun _ _ _ h => h) (Or.inl ⟨by rfl, ?_⟩) ?_ ?_
  rotate_left
  · intro w'
    go_simp
    with_reducible rfl
  rotate_left
  · simp only [Act.put, List.setIfInBounds_toArray, List.set_cons_zero, List.set_cons_succ, i64_w, i32_w]
    rfl
  refine one_ (i := 2) (N := some 92) #[true, true, true, true, true, false, false, false, false] rfl rfl (by kernel_rfl) (by decide) (fun K hK => ?_)
  (refine goes_ Try.func39 (by kernel_rfl) rfl #[.slice (some ⟨qb, qo, none⟩) 8 c_q, .bool false] (by rfl) rfl rfl (by (try simp only [List.map_toArray, List.map_cons, List.map_nil]); first | done | rfl) ?_; (with_reducible refine (rget_buf _ _ d _ HDL.out HDB.out (Kd.F_now (fG hq3)) (by omega)).mono ?_); rintro e_ w4 ⟨rfl, hb_⟩; refine ⟨_, rfl, ?_⟩; have HB_ : Aside0 (Below w.heap.size w w4) := Aside0.mk (below_step (bG HB) hb_); have hzw4 := hb_.size; (try simp at hzw4); have on_ := Aside0.mk (box_below hb_ (eG on)); have orr_ := Aside0.mk (box_below hb_ (eG orr)); have pn_ := Aside0.mk (box_below hb_ (eG pn)); have pr_ := Aside0.mk (box_below hb_ (eG pr)); have HR_ := Aside0.mk (Kd.F_below (fG HR) hb_); clear HR; have HR := HR_; clear HR_; have HF_ := Aside0.mk (Kd.F_below (fG HF) hb_); clear HF; have HF := HF_; clear HF_; have q_ := Aside0.mk (Kd.F_below (fG q) hb_); clear q; have q := q_; clear q_; have hq4_ := Aside0.mk (Kd.F_below (fG hq4) hb_); clear hq4; have hq4 := hq4_; clear hq4_; (try clear on onc onf onl); have on := on_; clear on_; obtain ⟨onc, onf, onl⟩ := cells_of on.out; (try clear orr orrc orrf orrl); have orr := orr_; clear orr_; obtain ⟨orrc, orrf, orrl⟩ := cells_of orr.out; (try clear pn pnc pnf pnl); have pn := pn_; clear pn_; obtain ⟨pnc, pnf, pnl⟩ := cells_of pn.out; (try clear pr prc prf prl); have pr := pr_; clear pr_; obtain ⟨prc, prf, prl⟩ := cells_of pr.out; clear HB hb_; have HB := HB_; clear HB_)
  refine hK.out _ _ trivial (fun hHeld => ?_)
  clear hK K
  refine norm_ (a' := ?_) ?_ ?_
  rotate_left
  · simp only [Act.put, List.setIfInBounds_toArray, List.set_cons_zero, List.set_cons_succ, i64_w, i32_w]
    rfl
  refine one_ (i := 5) (N := some 95) #[true, true, true, true, true, true, false, false, false] rfl rfl (by kernel_rfl) (by decide) (fun K hK => ?_)
  (refine goes_ Try.func39 (by kernel_rfl) rfl #[.slice (some ⟨qb, qo + 8, none⟩) 2 (c_q - 8), .bool false] (by rfl) rfl rfl (by (try simp only [List.map_toArray, List.map_cons, List.map_nil]); first | done | rfl) ?_; (with_reducible refine (rget_size _ _ d _ HDL.out HDB.out (Kd.F_now (fG hq4)) (by omega)).mono ?_); rintro e_ w5 ⟨rfl, hb_⟩; refine ⟨_, rfl, ?_⟩; have HB_ : Aside0 (Below w.heap.size w w5) := Aside0.mk (below_step (bG HB) hb_); have hzw5 := hb_.size; (try simp at hzw5); have on_ := Aside0.mk (box_below hb_ (eG on)); have orr_ := Aside0.mk (box_below hb_ (eG orr)); have pn_ := Aside0.mk (box_below hb_ (eG pn)); have pr_ := Aside0.mk (box_below hb_ (eG pr)); have HR_ := Aside0.mk (Kd.F_below (fG HR) hb_); clear HR; have HR := HR_; clear HR_; have HF_ := Aside0.mk (Kd.F_below (fG HF) hb_); clear HF; have HF := HF_; clear HF_; have q_ := Aside0.mk (Kd.F_below (fG q) hb_); clear q; have q := q_; clear q_; (try clear on onc onf onl); have on := on_; clear on_; obtain ⟨onc, onf, onl⟩ := cells_of on.out; (try clear orr orrc orrf orrl); have orr := orr_; clear orr_; obtain ⟨orrc, orrf, orrl⟩ := cells_of orr.out; (try clear pn pnc pnf pnl); have pn := pn_; clear pn_; obtain ⟨pnc, pnf, pnl⟩ := cells_of pn.out; (try clear pr prc prf prl); have pr := pr_; clear pr_; obtain ⟨prc, prf, prl⟩ := cells_of pr.out; clear HB hb_; have HB := HB_; clear HB_)
  refine hK.out _ _ trivial (fun hHeld => ?_)
  clear hK K
  refine norm_ (a' := ?_) ?_ ?_
  rotate_left
  · simp only [Act.put, List.setIfInBounds_toArray, List.set_cons_zero, List.set_cons_succ, i64_w, i32_w]
    rfl
  refine pure_ (i := 6) (N := some 96) (v := ?_) (a' := ?_) #[true, true, true, true, true, true, true, false, false] rfl rfl (by kernel_rfl) (fun _ _ _ h => h) (Or.inl ⟨by rfl, ?_⟩) ?_ ?_
  rotate_left
  · intro w'
    go_simp
    with_reducible rfl
  rotate_left
  · simp only [Act.put, List.setIfInBounds_toArray, List.set_cons_zero, List.set_cons_succ, i64_w, i32_w]
    rfl
  refine pure_ (i := 7) (N := some 12) (v := ?_) (a' := ?_) #[true, true, true, true, true, true, true, true, false] rfl rfl (by kernel_rfl) (fun _ _ _ h => h) (Or.inl ⟨by rfl, ?_⟩) ?_ ?_
  rotate_left
  · intro w'
    go_simp
    with_reducible rfl
  rotate_left
  · simp only [Act.put, List.setIfInBounds_toArray, List.set_cons_zero, List.set_cons_succ, i64_w, i32_w]
    rfl
  refine pure_ (i := 8) (N := some 13) (v := ?_) (a' := ?_) #[true, true, true, true, true, true, true, true, true] rfl rfl (by kernel_rfl) (fun _ _ _ h => h) (Or.inl ⟨by rfl, ?_⟩) ?_ ?_
  rotate_left
  · intro w'
    go_simp
    with_reducible rfl
  rotate_left
  · simp only [Act.put, List.setIfInBounds_toArray, List.set_cons_zero, List.set_cons_succ, i64_w, i32_w]
    rfl
  refine done_ (by kernel_rfl) ?_
  clear hcut1 hcut2 hq3 hq4 hi096 hsz96
  go_upto_region 14 with fail
  go_wp2_with fail
  (go_at_call 52; (with_reducible refine (rinside_c true R rc l (bufD d) fr.length _ (Kd.F_now (fG HR)) HC.out HBU.out (by omega) HL.out HIN.out).mono ?_); rintro e_ w6 ⟨rfl, hb_⟩; have HB_ : Aside0 (Below w.heap.size w w6) := Aside0.mk (below_step (bG HB) hb_); have hzw6 := hb_.size; (try simp at hzw6); have on_ := Aside0.mk (box_below hb_ (eG on)); have orr_ := Aside0.mk (box_below hb_ (eG orr)); have pn_ := Aside0.mk (box_below hb_ (eG pn)); have pr_ := Aside0.mk (box_below hb_ (eG pr)); have HR_ := Aside0.mk (Kd.F_below (fG HR) hb_); clear HR; have HR := HR_; clear HR_; have HF_ := Aside0.mk (Kd.F_below (fG HF) hb_); clear HF; have HF := HF_; clear HF_; have q_ := Aside0.mk (Kd.F_below (fG q) hb_); clear q; have q := q_; clear q_; (try clear on onc onf onl); have on := on_; clear on_; obtain ⟨onc, onf, onl⟩ := cells_of on.out; (try clear orr orrc orrf orrl); have orr := orr_; clear orr_; obtain ⟨orrc, orrf, orrl⟩ := cells_of orr.out; (try clear pn pnc pnf pnl); have pn := pn_; clear pn_; obtain ⟨pnc, pnf, pnl⟩ := cells_of pn.out; (try clear pr prc prf prl); have pr := pr_; clear pr_; obtain ⟨prc, prf, prl⟩ := cells_of pr.out; clear HB hb_; have HB := HB_; clear HB_)
  go_upto_region 16 with fail
  go_cut [14] (fun p wx => ∃ (g : Nat) (A' : Option Addr) (c' : Nat), p = .pointer (some ⟨g, 0, none⟩) ∧ Aside0 (wx.heap[g]? = some (.cells #[.slice A' (fillL l (IntKind.u64.wrap (at_ + 8)) (putB (fr.length : Int) 2 false)).length c'] 27 (0, 0))) ∧ Aside0 (wx.heap[w.heap.size]? = some (.cells (C14 (upd c 9 (Int.tmod (wrap64 (c 9 + 1)) (c 8))) (.slice A mac.length cap)) 25 (0, 0))) ∧ Aside0 (wx.heap[w.heap.size + 1]? = some (.cells #[.slice R l.length rc] 27 (0, 0))) ∧ Aside0 (wx.heap[w.heap.size + 1 + 1]? = some (.cells #[.int .i64 0, .int .i64 0, .int .i64 0, .int .u64 0, .int .i64 0, .int .i64 0, .int .i64 0, .int .u64 0, .int .i64 0, .int .i64 0, .int .i64 0, .int .i64 0, .int .i64 0, .slice none 0 0] 25 (0, 0))) ∧ Aside0 (wx.heap[w.heap.size + 1 + 1 + 1]? = some (.cells #[.slice none 0 0] 27 (0, 0))) ∧ Aside0 (Kd.F (Kd.int .u8) wx (fun k => okf k ∧ k < w.heap.size) FA fr.length fr) ∧ Aside0 (Kd.F (Kd.int .u8) wx (fun k => w.heap.size + 1 + 1 + 1 < k ∧ k ≠ g) (some ⟨qb, qo, none⟩) 16 d) ∧ Aside0 (Kd.F (Kd.int .u8) wx (fun j => (ok j ∧ j < w.heap.size) ∨ (w.heap.size + 1 + 1 + 1 < j ∧ j ≠ g)) A' (fillL l (IntKind.u64.wrap (at_ + 8)) (putB (fr.length : Int) 2 false)).length (fillL l (IntKind.u64.wrap (at_ + 8)) (putB (fr.length : Int) 2 false))) ∧ Aside0 ((fillL l (IntKind.u64.wrap (at_ + 8)) (putB (fr.length : Int) 2 false)).length ≤ c') ∧ Aside0 (Below w.heap.size w wx) ∧ w.heap.size + 1 + 1 + 1 < g)
  case first =>
    refine start_ (n := 14) (S := fun w' => w'.heap[w.heap.size + 1]? = some (.cells #[.slice R l.length rc] 27 (0, 0))) (ds := []) #[false, false, false, false, false, false, false, false, false, false, false, false, false, false] (by kernel_rfl) rfl rfl (eG orr) (fun hHeld => ?_)
    refine rowL_ (i := 0) (N := some 117) #[true, false, false, false, false, false, false, false, false, false, false, false, false, false] rfl rfl (by kernel_rfl) 27 _ rfl (w.heap.size + 1) (#[.slice R l.length rc]) (fun _ _ _ h => h) (by rfl) (by rfl) _ _ _ (fun _ h => h) Try.underlying27 rfl i27 hHeld (a' := ?_) ?_ ?_
    rotate_left
    · simp only [Act.put, List.setIfInBounds_toArray, List.set_cons_zero, List.set_cons_succ, i64_w, i32_w]
      rfl
    refine pure_ (i := 1) (N := some 118) (v := ?_) (a' := ?_) #[true, true, false, false, false, false, false, false, false, false, false, false, false, false] rfl rfl (by kernel_rfl) (fun _ _ _ h => h) (Or.inl ⟨by rfl, ?_⟩) ?_ ?_
    rotate_left
    · intro w'
      go_simp
      with_reducible rfl
    rotate_left
    · simp only [Act.put, List.setIfInBounds_toArray, List.set_cons_zero, List.set_cons_succ, i64_w, i32_w]
      rfl
    refine pure_ (i := 2) (N := some 119) (v := ?_) (a' := ?_) #[true, true, true, false, false, false, false, false, false, false, false, false, false, false] rfl rfl (by kernel_rfl) (fun _ _ _ h => h) (Or.inl ⟨by rfl, ?_⟩) ?_ ?_
    rotate_left
    · intro w'
      go_simp
      with_reducible rfl
    rotate_left
    · simp only [Act.put, List.setIfInBounds_toArray, List.set_cons_zero, List.set_cons_succ, i64_w, i32_w]
      rfl
    refine pure_ (i := 3) (N := some 120) (v := ?_) (a' := ?_) #[true, true, true, true, false, false, false, false, false, false, false, false, false, false] rfl rfl (by kernel_rfl) (fun _ _ _ h => h) (Or.inl ⟨by rfl, ?_⟩) ?_ ?_
    rotate_left
    · intro w'
      go_simp
      with_reducible rfl
    rotate_left
    · simp only [Act.put, List.setIfInBounds_toArray, List.set_cons_zero, List.set_cons_succ, i64_w, i32_w]
      rfl
    refine pure_ (i := 4) (N := some 121) (v := ?_) (a' := ?_) #[true, true, true, true, true, false, false, false, false, false, false, false, false, false] rfl rfl (by kernel_rfl) (fun _ _ _ h => h) (Or.inl ⟨by rfl, ?_⟩) ?_ ?_
    rotate_left
    · intro w'
      go_simp
      with_reducible rfl
    rotate_left
    · simp only [Act.put, List.setIfInBounds_toArray, List.set_cons_zero, List.set_cons_succ, i64_w, i32_w]
      rfl
    refine pure_ (i := 5) (N := some 122) (v := ?_) (a' := ?_) #[true, true, true, true, true, true, false, false, false, false, false, false, false, false] rfl rfl (by kernel_rfl) (fun _ _ _ h => h) (Or.inl ⟨by rfl, ?_⟩) ?_ ?_
    rotate_left
    · intro w'
      go_simp
      with_reducible rfl
    rotate_left
    · simp only [Act.put, List.setIfInBounds_toArray, List.set_cons_zero, List.set_cons_succ, i64_w, i32_w]
      rfl
    refine two_ (i := 6) (j := 11) (Ni := some 123) (Nj := some 14) #[true, true, true, true, true, true, true, false, false, false, false, false, false, false] #[true, true, true, true, true, true, false, false, false, false, false, true, false, false] rfl rfl rfl rfl (by kernel_rfl) (by decide) (by decide) (fun K hK => ?_) (fun K hK => ?_)
    · skip
      (refine goes_ Try.func53 (by kernel_rfl) rfl #[.int .u64 (fr.length : Int), .int .i64 2, .bool false] (by rfl) rfl rfl (by (try simp only [List.map_toArray, List.map_cons, List.map_nil]); first | done | rfl) ?_; (with_reducible refine (rput_is (fr.length : Int) _).mono ?_); rintro e_ w7 ⟨A_z, c_z, rfl, hc_z, hr_z, hb_⟩; refine ⟨_, rfl, ?_⟩; have HB_ : Aside0 (Below w.heap.size w w7) := Aside0.mk (below_step (bG HB) hb_); have hzw7 := hb_.size; (try simp at hzw7); have on_ := Aside0.mk (box_below hb_ (eG on)); have orr_ := Aside0.mk (box_below hb_ (eG orr)); have pn_ := Aside0.mk (box_below hb_ (eG pn)); have pr_ := Aside0.mk (box_below hb_ (eG pr)); have HR_ := Aside0.mk (Kd.F_below (fG HR) hb_); clear HR; have HR := HR_; clear HR_; have HF_ := Aside0.mk (Kd.F_below (fG HF) hb_); clear HF; have HF := HF_; clear HF_; have q_ := Aside0.mk (Kd.F_below (fG q) hb_); clear q; have q := q_; clear q_; (try clear on onc onf onl); have on := on_; clear on_; obtain ⟨onc, onf, onl⟩ := cells_of on.out; (try clear orr orrc orrf orrl); have orr := orr_; clear orr_; obtain ⟨orrc, orrf, orrl⟩ := cells_of orr.out; (try clear pn pnc pnf pnl); have pn := pn_; clear pn_; obtain ⟨pnc, pnf, pnl⟩ := cells_of pn.out; (try clear pr prc prf prl); have pr := pr_; clear pr_; obtain ⟨prc, prf, prl⟩ := cells_of pr.out; clear HB hb_; have HB := HB_; clear HB_; have zc := Aside0.mk hc_z; have z := Aside0.mk (Kd.F_bound hr_z); clear hc_z hr_z; skip)
      refine hK.out _ _ (eG orr) (fun hHeld => ?_)
      clear hK K
      refine norm_ (a' := ?_) ?_ ?_
      rotate_left
      · simp only [Act.put, List.setIfInBounds_toArray, List.set_cons_zero, List.set_cons_succ, i64_w, i32_w]
        rfl
      refine two_ (i := 7) (j := 11) (Ni := some 124) (Nj := some 14) #[true, true, true, true, true, true, true, true, false, false, false, false, false, false] #[true, true, true, true, true, true, true, false, false, false, false, true, false, false] rfl rfl rfl rfl (by kernel_rfl) (by decide) (by decide) (fun K hK => ?_) (fun K hK => ?_)
      · skip
        (refine goes_ Try.func31 (by kernel_rfl) rfl #[.agg #[.slice R l.length rc], .int .u64 (IntKind.u64.wrap (at_ + 8)), .slice A_z 2 c_z] (by rfl) rfl rfl (by (try simp only [List.map_toArray, List.map_cons, List.map_nil]); first | done | rfl) ?_; (with_reducible refine (rfill_r R rc l (IntKind.u64.wrap (at_ + 8)) A_z c_z (putB (fr.length : Int) 2 false) 2 (putB2_len _) _ _ _ (fG HR) HC.out (fG z) zc.out (wrap_u _) HL.out (by omega)).mono ?_); rintro e_ w8 ⟨A_f, c_f, rfl, hc_f, hr_f, hb_⟩; refine ⟨_, rfl, ?_⟩; have HB_ : Aside0 (Below w.heap.size w w8) := Aside0.mk (below_step (bG HB) hb_); have hzw8 := hb_.size; (try simp at hzw8); have on_ := Aside0.mk (box_below hb_ (eG on)); have orr_ := Aside0.mk (box_below hb_ (eG orr)); have pn_ := Aside0.mk (box_below hb_ (eG pn)); have pr_ := Aside0.mk (box_below hb_ (eG pr)); have HF_ := Aside0.mk (Kd.F_below (fG HF) hb_); clear HF; have HF := HF_; clear HF_; have q_ := Aside0.mk (Kd.F_below (fG q) hb_); clear q; have q := q_; clear q_; (try clear on onc onf onl); have on := on_; clear on_; obtain ⟨onc, onf, onl⟩ := cells_of on.out; (try clear orr orrc orrf orrl); have orr := orr_; clear orr_; obtain ⟨orrc, orrf, orrl⟩ := cells_of orr.out; (try clear pn pnc pnf pnl); have pn := pn_; clear pn_; obtain ⟨pnc, pnf, pnl⟩ := cells_of pn.out; (try clear pr prc prf prl); have pr := pr_; clear pr_; obtain ⟨prc, prf, prl⟩ := cells_of pr.out; clear HB hb_; have HB := HB_; clear HB_; have fc := Aside0.mk hc_f; have f := Aside0.mk (Kd.F_bound hr_f); clear hc_f hr_f; skip)
        refine hK.out _ _ (eG orr) (fun hHeld => ?_)
        clear hK K
        refine norm_ (a' := ?_) ?_ ?_
        rotate_left
        · simp only [Act.put, List.setIfInBounds_toArray, List.set_cons_zero, List.set_cons_succ, i64_w, i32_w]
          rfl
        refine pure_ (i := 8) (N := some 116) (v := ?_) (a' := ?_) #[true, true, true, true, true, true, true, true, true, false, false, false, false, false] rfl rfl (by kernel_rfl) (fun _ _ _ h => h) (Or.inl ⟨by rfl, ?_⟩) ?_ ?_
        rotate_left
        · intro w'
          go_simp
          with_reducible rfl
        rotate_left
        · simp only [Act.put, List.setIfInBounds_toArray, List.set_cons_zero, List.set_cons_succ, i64_w, i32_w]
          rfl
        refine pure_ (i := 9) (N := some 125) (v := ?_) (a' := ?_) #[true, true, true, true, true, true, true, true, true, true, false, false, false, false] rfl rfl (by kernel_rfl) (fun _ _ _ h => h) (Or.inl ⟨by rfl, ?_⟩) ?_ ?_
        rotate_left
        · intro w'
          go_simp
          with_reducible rfl
        rotate_left
        · simp only [Act.put, List.setIfInBounds_toArray, List.set_cons_zero, List.set_cons_succ, i64_w, i32_w]
          rfl
        refine pure_ (i := 10) (N := some 126) (v := ?_) (a' := ?_) #[true, true, true, true, true, true, true, true, true, true, true, false, false, false] rfl rfl (by kernel_rfl) (fun _ _ _ h => h) (Or.inl ⟨by rfl, ?_⟩) ?_ ?_
        rotate_left
        · intro w'
          go_simp
          with_reducible rfl
        rotate_left
        · simp only [Act.put, List.setIfInBounds_toArray, List.set_cons_zero, List.set_cons_succ, i64_w, i32_w]
          rfl
        refine one_ (i := 11) (N := some 14) #[true, true, true, true, true, true, true, true, true, true, true, true, false, false] rfl rfl (by kernel_rfl) (by decide) (fun K hK => ?_)
        refine val_ (v := (.pointer (some ⟨(World.heap w8).size, 0, none⟩))) (w1 := World.alloc w8 (.cells #[.slice none 0 0] 27 (0, 0))) (by rfl) rfl ?_ ?_
        · first | kernel_rfl | (go_simp; done) | (go_simp; rfl)
        refine hK.out _ _ (eG orr) (fun hHeld => ?_)
        clear hK K
        obtain ⟨w9, hw_, hx_, hb_, hz_⟩ := letter1 w8 (.cells #[.slice none 0 0] 27 (0, 0))
        rw [hw_] at hHeld ⊢
        clear hw_
        have hzw9 := Nat.le_of_eq hz_.symm
        (try simp only [sz_drew] at hx_ hzw9)
        clear hz_
        have on_ := Aside0.mk (box_below hb_ (eG on))
        (try clear on onc onf onl)
        have on := on_
        clear on_
        obtain ⟨onc, onf, onl⟩ := cells_of on.out
        have orr_ := Aside0.mk (box_below hb_ (eG orr))
        (try clear orr orrc orrf orrl)
        have orr := orr_
        clear orr_
        obtain ⟨orrc, orrf, orrl⟩ := cells_of orr.out
        have pn_ := Aside0.mk (box_below hb_ (eG pn))
        (try clear pn pnc pnf pnl)
        have pn := pn_
        clear pn_
        obtain ⟨pnc, pnf, pnl⟩ := cells_of pn.out
        have pr_ := Aside0.mk (box_below hb_ (eG pr))
        (try clear pr prc prf prl)
        have pr := pr_
        clear pr_
        obtain ⟨prc, prf, prl⟩ := cells_of pr.out
        have HF_ := Aside0.mk (Kd.F_below (fG HF) hb_)
        clear HF
        have HF := HF_
        clear HF_
        have q_ := Aside0.mk (Kd.F_below (fG q) hb_)
        clear q
        have q := q_
        clear q_
        have f_ := Aside0.mk (Kd.F_below (fG f) hb_)
        clear f
        have f := f_
        clear f_
        have og := Aside0.mk hx_
        obtain ⟨ogc, ogf, ogl⟩ := cells_of og.out
        have HB_ : Aside0 (Below w.heap.size w w9) := Aside0.mk (below_step (bG HB) hb_)
        clear HB hb_ hx_
        have HB := HB_
        clear HB_
        refine norm_ (a' := ?_) ?_ ?_
        rotate_left
        · simp only [Act.put, List.setIfInBounds_toArray, List.set_cons_zero, List.set_cons_succ, i64_w, i32_w]
          rfl
        refine rowS_ (i := 12) #[true, true, true, true, true, true, true, true, true, true, true, true, true, false] rfl rfl (by kernel_rfl) (by decide) 27 _ _ rfl (w8.heap.size) (#[.slice A_f (fillL l (IntKind.u64.wrap (at_ + 8)) (putB (fr.length : Int) 2 false)).length c_f]) (by rfl) (by rfl) (by rfl) (#[.slice none 0 0]) 27 (eG og) rfl i27 (one27 _ _ _) ?_
        (rintro wz ⟨hx_, hk_, hb_, hzz_⟩; have HB_ : Aside0 (Below w.heap.size w wz) := Aside0.mk (Below.trans (bG HB) (Below.mono hb_ (by first | omega | (simp only [sz_alloc, sz_drew, sz_drewN]; omega)))); have hzwz := hzz_; (try simp at hzwz); clear hzz_; have on_ := Aside0.mk (st_put on.out hk_ (fun h_ => (by repeat (with_reducible first | exact h_ | apply ext_drew | apply ext_drewN | apply ext_alloc | refine blk_far ?_ (by show _ ≠ _; dsimp only; omega) _))) (by omega)); clear on onc onf onl; have on := on_; clear on_; obtain ⟨onc, onf, onl⟩ := cells_of on.out; have orr_ := Aside0.mk (st_put orr.out hk_ (fun h_ => (by repeat (with_reducible first | exact h_ | apply ext_drew | apply ext_drewN | apply ext_alloc | refine blk_far ?_ (by show _ ≠ _; dsimp only; omega) _))) (by omega)); clear orr orrc orrf orrl; have orr := orr_; clear orr_; obtain ⟨orrc, orrf, orrl⟩ := cells_of orr.out; have pn_ := Aside0.mk (st_put pn.out hk_ (fun h_ => (by repeat (with_reducible first | exact h_ | apply ext_drew | apply ext_drewN | apply ext_alloc | refine blk_far ?_ (by show _ ≠ _; dsimp only; omega) _))) (by omega)); clear pn pnc pnf pnl; have pn := pn_; clear pn_; obtain ⟨pnc, pnf, pnl⟩ := cells_of pn.out; have pr_ := Aside0.mk (st_put pr.out hk_ (fun h_ => (by repeat (with_reducible first | exact h_ | apply ext_drew | apply ext_drewN | apply ext_alloc | refine blk_far ?_ (by show _ ≠ _; dsimp only; omega) _))) (by omega)); clear pr prc prf prl; have pr := pr_; clear pr_; obtain ⟨prc, prf, prl⟩ := cells_of pr.out; have HF_ := Aside0.mk (Kd.F_step (fG HF) (fun j_ hj_ hl_ => hk_ j_ (by (try dsimp only at hj_); (try simp only [sz_alloc, sz_drew, sz_drewN, sz_set] at hj_); omega))); clear HF; have HF := HF_; clear HF_; have q_ := Aside0.mk (Kd.F_step (fG q) (fun j_ hj_ hl_ => hk_ j_ (by (try dsimp only at hj_); (try simp only [sz_alloc, sz_drew, sz_drewN, sz_set] at hj_); omega))); clear q; have q := q_; clear q_; have f_ := Aside0.mk (Kd.F_step (fG f) (fun j_ hj_ hl_ => hk_ j_ (by (try dsimp only at hj_); (try simp only [sz_alloc, sz_drew, sz_drewN, sz_set] at hj_); omega))); clear f; have f := f_; clear f_; (try clear og ogc ogf ogl); have og := Aside0.mk hx_; obtain ⟨ogc, ogf, ogl⟩ := cells_of og.out; clear HB hb_ hk_ hx_; have HB := HB_; clear HB_)
        refine ⟨(eG orr), ?_⟩
        refine pure_ (i := 13) (N := some 15) (v := ?_) (a' := ?_) #[true, true, true, true, true, true, true, true, true, true, true, true, true, true] rfl rfl (by kernel_rfl) (fun _ _ _ h => h) (Or.inl ⟨by rfl, ?_⟩) ?_ ?_
        rotate_left
        · intro w'
          go_simp
          with_reducible rfl
        rotate_left
        · simp only [Act.put, List.setIfInBounds_toArray, List.set_cons_zero, List.set_cons_succ, i64_w, i32_w]
          rfl
        refine done_ (by kernel_rfl) ?_
        go_wp2_with fail
        go_meet
        exact ⟨w8.heap.size, A_f, c_f, rfl, ⟨og.out⟩, ⟨on.out⟩, ⟨orr.out⟩, ⟨pn.out⟩, ⟨pr.out⟩, ⟨HF.out⟩, ⟨Kd.F_mono (fG q) (fun j hj => by (try simp only [sz_alloc, sz_drew, sz_drewN, sz_set] at hj); omega)⟩, ⟨by refine F_res (ok := ?_) (fG f) ?_; intro j_ hj_; (try simp only [sz_alloc, sz_drew, sz_drewN, sz_set] at hj_); rcases hj_.1 with h | h; exact .inl h; exact .inr (by omega)⟩, fc, HB, by omega⟩
      · skip
        refine val_ (v := (.pointer (some ⟨(World.heap w7).size, 0, none⟩))) (w1 := World.alloc w7 (.cells #[.slice none 0 0] 27 (0, 0))) (by rfl) rfl ?_ ?_
        · first | kernel_rfl | (go_simp; done) | (go_simp; rfl)
        refine hK.out _ _ (eG orr) (fun hHeld => ?_)
        clear hK K
        obtain ⟨w8, hw_, hx_, hb_, hz_⟩ := letter1 w7 (.cells #[.slice none 0 0] 27 (0, 0))
        rw [hw_] at hHeld ⊢
        clear hw_
        have hzw8 := Nat.le_of_eq hz_.symm
        (try simp only [sz_drew] at hx_ hzw8)
        clear hz_
        have on_ := Aside0.mk (box_below hb_ (eG on))
        (try clear on onc onf onl)
        have on := on_
        clear on_
        obtain ⟨onc, onf, onl⟩ := cells_of on.out
        have orr_ := Aside0.mk (box_below hb_ (eG orr))
        (try clear orr orrc orrf orrl)
        have orr := orr_
        clear orr_
        obtain ⟨orrc, orrf, orrl⟩ := cells_of orr.out
        have pn_ := Aside0.mk (box_below hb_ (eG pn))
        (try clear pn pnc pnf pnl)
        have pn := pn_
        clear pn_
        obtain ⟨pnc, pnf, pnl⟩ := cells_of pn.out
        have pr_ := Aside0.mk (box_below hb_ (eG pr))
        (try clear pr prc prf prl)
        have pr := pr_
        clear pr_
        obtain ⟨prc, prf, prl⟩ := cells_of pr.out
        have HR_ := Aside0.mk (Kd.F_below (fG HR) hb_)
        clear HR
        have HR := HR_
        clear HR_
        have HF_ := Aside0.mk (Kd.F_below (fG HF) hb_)
        clear HF
        have HF := HF_
        clear HF_
        have q_ := Aside0.mk (Kd.F_below (fG q) hb_)
        clear q
        have q := q_
        clear q_
        have z_ := Aside0.mk (Kd.F_below (fG z) hb_)
        clear z
        have z := z_
        clear z_
        have og := Aside0.mk hx_
        obtain ⟨ogc, ogf, ogl⟩ := cells_of og.out
        have HB_ : Aside0 (Below w.heap.size w w8) := Aside0.mk (below_step (bG HB) hb_)
        clear HB hb_ hx_
        have HB := HB_
        clear HB_
        refine norm_ (a' := ?_) ?_ ?_
        rotate_left
        · simp only [Act.put, List.setIfInBounds_toArray, List.set_cons_zero, List.set_cons_succ, i64_w, i32_w]
          rfl
        refine one_ (i := 7) (N := some 124) #[true, true, true, true, true, true, true, true, false, false, false, true, false, false] rfl rfl (by kernel_rfl) (by decide) (fun K hK => ?_)
        (refine goes_ Try.func31 (by kernel_rfl) rfl #[.agg #[.slice R l.length rc], .int .u64 (IntKind.u64.wrap (at_ + 8)), .slice A_z 2 c_z] (by rfl) rfl rfl (by (try simp only [List.map_toArray, List.map_cons, List.map_nil]); first | done | rfl) ?_; (with_reducible refine (rfill_r R rc l (IntKind.u64.wrap (at_ + 8)) A_z c_z (putB (fr.length : Int) 2 false) 2 (putB2_len _) _ _ _ (fG HR) HC.out (fG z) zc.out (wrap_u _) HL.out (by omega)).mono ?_); rintro e_ w9 ⟨A_f, c_f, rfl, hc_f, hr_f, hb_⟩; refine ⟨_, rfl, ?_⟩; have HB_ : Aside0 (Below w.heap.size w w9) := Aside0.mk (below_step (bG HB) hb_); have hzw9 := hb_.size; (try simp at hzw9); have on_ := Aside0.mk (box_below hb_ (eG on)); have orr_ := Aside0.mk (box_below hb_ (eG orr)); have pn_ := Aside0.mk (box_below hb_ (eG pn)); have pr_ := Aside0.mk (box_below hb_ (eG pr)); have og_ := Aside0.mk (box_below hb_ (eG og)); have HF_ := Aside0.mk (Kd.F_below (fG HF) hb_); clear HF; have HF := HF_; clear HF_; have q_ := Aside0.mk (Kd.F_below (fG q) hb_); clear q; have q := q_; clear q_; (try clear on onc onf onl); have on := on_; clear on_; obtain ⟨onc, onf, onl⟩ := cells_of on.out; (try clear orr orrc orrf orrl); have orr := orr_; clear orr_; obtain ⟨orrc, orrf, orrl⟩ := cells_of orr.out; (try clear pn pnc pnf pnl); have pn := pn_; clear pn_; obtain ⟨pnc, pnf, pnl⟩ := cells_of pn.out; (try clear pr prc prf prl); have pr := pr_; clear pr_; obtain ⟨prc, prf, prl⟩ := cells_of pr.out; (try clear og ogc ogf ogl); have og := og_; clear og_; obtain ⟨ogc, ogf, ogl⟩ := cells_of og.out; clear HB hb_; have HB := HB_; clear HB_; have fc := Aside0.mk hc_f; have f := Aside0.mk (Kd.F_bound hr_f); clear hc_f hr_f; skip)
        refine hK.out _ _ (eG orr) (fun hHeld => ?_)
        clear hK K
        refine norm_ (a' := ?_) ?_ ?_
        rotate_left
        · simp only [Act.put, List.setIfInBounds_toArray, List.set_cons_zero, List.set_cons_succ, i64_w, i32_w]
          rfl
        refine pure_ (i := 8) (N := some 116) (v := ?_) (a' := ?_) #[true, true, true, true, true, true, true, true, true, false, false, true, false, false] rfl rfl (by kernel_rfl) (fun _ _ _ h => h) (Or.inl ⟨by rfl, ?_⟩) ?_ ?_
        rotate_left
        · intro w'
          go_simp
          with_reducible rfl
        rotate_left
        · simp only [Act.put, List.setIfInBounds_toArray, List.set_cons_zero, List.set_cons_succ, i64_w, i32_w]
          rfl
        refine pure_ (i := 9) (N := some 125) (v := ?_) (a' := ?_) #[true, true, true, true, true, true, true, true, true, true, false, true, false, false] rfl rfl (by kernel_rfl) (fun _ _ _ h => h) (Or.inl ⟨by rfl, ?_⟩) ?_ ?_
        rotate_left
        · intro w'
          go_simp
          with_reducible rfl
        rotate_left
        · simp only [Act.put, List.setIfInBounds_toArray, List.set_cons_zero, List.set_cons_succ, i64_w, i32_w]
          rfl
        refine pure_ (i := 10) (N := some 126) (v := ?_) (a' := ?_) #[true, true, true, true, true, true, true, true, true, true, true, true, false, false] rfl rfl (by kernel_rfl) (fun _ _ _ h => h) (Or.inl ⟨by rfl, ?_⟩) ?_ ?_
        rotate_left
        · intro w'
          go_simp
          with_reducible rfl
        rotate_left
        · simp only [Act.put, List.setIfInBounds_toArray, List.set_cons_zero, List.set_cons_succ, i64_w, i32_w]
          rfl
        refine rowS_ (i := 12) #[true, true, true, true, true, true, true, true, true, true, true, true, true, false] rfl rfl (by kernel_rfl) (by decide) 27 _ _ rfl (w7.heap.size) (#[.slice A_f (fillL l (IntKind.u64.wrap (at_ + 8)) (putB (fr.length : Int) 2 false)).length c_f]) (by rfl) (by rfl) (by rfl) (#[.slice none 0 0]) 27 (eG og) rfl i27 (one27 _ _ _) ?_
        (rintro wz ⟨hx_, hk_, hb_, hzz_⟩; have HB_ : Aside0 (Below w.heap.size w wz) := Aside0.mk (Below.trans (bG HB) (Below.mono hb_ (by first | omega | (simp only [sz_alloc, sz_drew, sz_drewN]; omega)))); have hzwz := hzz_; (try simp at hzwz); clear hzz_; have on_ := Aside0.mk (st_put on.out hk_ (fun h_ => (by repeat (with_reducible first | exact h_ | apply ext_drew | apply ext_drewN | apply ext_alloc | refine blk_far ?_ (by show _ ≠ _; dsimp only; omega) _))) (by omega)); clear on onc onf onl; have on := on_; clear on_; obtain ⟨onc, onf, onl⟩ := cells_of on.out; have orr_ := Aside0.mk (st_put orr.out hk_ (fun h_ => (by repeat (with_reducible first | exact h_ | apply ext_drew | apply ext_drewN | apply ext_alloc | refine blk_far ?_ (by show _ ≠ _; dsimp only; omega) _))) (by omega)); clear orr orrc orrf orrl; have orr := orr_; clear orr_; obtain ⟨orrc, orrf, orrl⟩ := cells_of orr.out; have pn_ := Aside0.mk (st_put pn.out hk_ (fun h_ => (by repeat (with_reducible first | exact h_ | apply ext_drew | apply ext_drewN | apply ext_alloc | refine blk_far ?_ (by show _ ≠ _; dsimp only; omega) _))) (by omega)); clear pn pnc pnf pnl; have pn := pn_; clear pn_; obtain ⟨pnc, pnf, pnl⟩ := cells_of pn.out; have pr_ := Aside0.mk (st_put pr.out hk_ (fun h_ => (by repeat (with_reducible first | exact h_ | apply ext_drew | apply ext_drewN | apply ext_alloc | refine blk_far ?_ (by show _ ≠ _; dsimp only; omega) _))) (by omega)); clear pr prc prf prl; have pr := pr_; clear pr_; obtain ⟨prc, prf, prl⟩ := cells_of pr.out; have HF_ := Aside0.mk (Kd.F_step (fG HF) (fun j_ hj_ hl_ => hk_ j_ (by (try dsimp only at hj_); (try simp only [sz_alloc, sz_drew, sz_drewN, sz_set] at hj_); omega))); clear HF; have HF := HF_; clear HF_; have q_ := Aside0.mk (Kd.F_step (fG q) (fun j_ hj_ hl_ => hk_ j_ (by (try dsimp only at hj_); (try simp only [sz_alloc, sz_drew, sz_drewN, sz_set] at hj_); omega))); clear q; have q := q_; clear q_; have f_ := Aside0.mk (Kd.F_step (fG f) (fun j_ hj_ hl_ => hk_ j_ (by (try dsimp only at hj_); (try simp only [sz_alloc, sz_drew, sz_drewN, sz_set] at hj_); omega))); clear f; have f := f_; clear f_; (try clear og ogc ogf ogl); have og := Aside0.mk hx_; obtain ⟨ogc, ogf, ogl⟩ := cells_of og.out; clear HB hb_ hk_ hx_; have HB := HB_; clear HB_)
        refine ⟨(eG orr), ?_⟩
        refine pure_ (i := 13) (N := some 15) (v := ?_) (a' := ?_) #[true, true, true, true, true, true, true, true, true, true, true, true, true, true] rfl rfl (by kernel_rfl) (fun _ _ _ h => h) (Or.inl ⟨by rfl, ?_⟩) ?_ ?_
        rotate_left
        · intro w'
          go_simp
          with_reducible rfl
        rotate_left
        · simp only [Act.put, List.setIfInBounds_toArray, List.set_cons_zero, List.set_cons_succ, i64_w, i32_w]
          rfl
        refine done_ (by kernel_rfl) ?_
        go_wp2_with fail
        go_meet
        exact ⟨w7.heap.size, A_f, c_f, rfl, ⟨og.out⟩, ⟨on.out⟩, ⟨orr.out⟩, ⟨pn.out⟩, ⟨pr.out⟩, ⟨HF.out⟩, ⟨Kd.F_mono (fG q) (fun j hj => by (try simp only [sz_alloc, sz_drew, sz_drewN, sz_set] at hj); omega)⟩, ⟨by refine F_res (ok := ?_) (fG f) ?_; intro j_ hj_; (try simp only [sz_alloc, sz_drew, sz_drewN, sz_set] at hj_); rcases hj_.1 with h | h; exact .inl h; exact .inr (by omega)⟩, fc, HB, by omega⟩
    · skip
      refine val_ (v := (.pointer (some ⟨(World.heap (World.drew w6)).size, 0, none⟩))) (w1 := World.alloc (World.drew w6) (.cells #[.slice none 0 0] 27 (0, 0))) (by rfl) rfl ?_ ?_
      · first | kernel_rfl | (go_simp; done) | (go_simp; rfl)
      refine hK.out _ _ (eG orr) (fun hHeld => ?_)
      clear hK K
      obtain ⟨w7, hw_, hx_, hb_, hz_⟩ := letter1 (World.drew w6) (.cells #[.slice none 0 0] 27 (0, 0))
      rw [hw_] at hHeld ⊢
      clear hw_
      have hzw7 := Nat.le_of_eq hz_.symm
      (try simp only [sz_drew] at hx_ hzw7)
      clear hz_
      have on_ := Aside0.mk (box_below hb_ (eG on))
      (try clear on onc onf onl)
      have on := on_
      clear on_
      obtain ⟨onc, onf, onl⟩ := cells_of on.out
      have orr_ := Aside0.mk (box_below hb_ (eG orr))
      (try clear orr orrc orrf orrl)
      have orr := orr_
      clear orr_
      obtain ⟨orrc, orrf, orrl⟩ := cells_of orr.out
      have pn_ := Aside0.mk (box_below hb_ (eG pn))
      (try clear pn pnc pnf pnl)
      have pn := pn_
      clear pn_
      obtain ⟨pnc, pnf, pnl⟩ := cells_of pn.out
      have pr_ := Aside0.mk (box_below hb_ (eG pr))
      (try clear pr prc prf prl)
      have pr := pr_
      clear pr_
      obtain ⟨prc, prf, prl⟩ := cells_of pr.out
      have HR_ := Aside0.mk (Kd.F_below (fG HR) hb_)
      clear HR
      have HR := HR_
      clear HR_
      have HF_ := Aside0.mk (Kd.F_below (fG HF) hb_)
      clear HF
      have HF := HF_
      clear HF_
      have q_ := Aside0.mk (Kd.F_below (fG q) hb_)
      clear q
      have q := q_
      clear q_
      have og := Aside0.mk hx_
      obtain ⟨ogc, ogf, ogl⟩ := cells_of og.out
      have HB_ : Aside0 (Below w.heap.size w w7) := Aside0.mk (below_step (bG HB) hb_)
      clear HB hb_ hx_
      have HB := HB_
      clear HB_
      refine norm_ (a' := ?_) ?_ ?_
      rotate_left
      · simp only [Act.put, List.setIfInBounds_toArray, List.set_cons_zero, List.set_cons_succ, i64_w, i32_w]
        rfl
      refine one_ (i := 6) (N := some 123) #[true, true, true, true, true, true, true, false, false, false, false, true, false, false] rfl rfl (by kernel_rfl) (by decide) (fun K hK => ?_)
      (refine goes_ Try.func53 (by kernel_rfl) rfl #[.int .u64 (fr.length : Int), .int .i64 2, .bool false] (by rfl) rfl rfl (by (try simp only [List.map_toArray, List.map_cons, List.map_nil]); first | done | rfl) ?_; (with_reducible refine (rput_is (fr.length : Int) _).mono ?_); rintro e_ w8 ⟨A_z, c_z, rfl, hc_z, hr_z, hb_⟩; refine ⟨_, rfl, ?_⟩; have HB_ : Aside0 (Below w.heap.size w w8) := Aside0.mk (below_step (bG HB) hb_); have hzw8 := hb_.size; (try simp at hzw8); have on_ := Aside0.mk (box_below hb_ (eG on)); have orr_ := Aside0.mk (box_below hb_ (eG orr)); have pn_ := Aside0.mk (box_below hb_ (eG pn)); have pr_ := Aside0.mk (box_below hb_ (eG pr)); have og_ := Aside0.mk (box_below hb_ (eG og)); have HR_ := Aside0.mk (Kd.F_below (fG HR) hb_); clear HR; have HR := HR_; clear HR_; have HF_ := Aside0.mk (Kd.F_below (fG HF) hb_); clear HF; have HF := HF_; clear HF_; have q_ := Aside0.mk (Kd.F_below (fG q) hb_); clear q; have q := q_; clear q_; (try clear on onc onf onl); have on := on_; clear on_; obtain ⟨onc, onf, onl⟩ := cells_of on.out; (try clear orr orrc orrf orrl); have orr := orr_; clear orr_; obtain ⟨orrc, orrf, orrl⟩ := cells_of orr.out; (try clear pn pnc pnf pnl); have pn := pn_; clear pn_; obtain ⟨pnc, pnf, pnl⟩ := cells_of pn.out; (try clear pr prc prf prl); have pr := pr_; clear pr_; obtain ⟨prc, prf, prl⟩ := cells_of pr.out; (try clear og ogc ogf ogl); have og := og_; clear og_; obtain ⟨ogc, ogf, ogl⟩ := cells_of og.out; clear HB hb_; have HB := HB_; clear HB_; have zc := Aside0.mk hc_z; have z := Aside0.mk (Kd.F_bound hr_z); clear hc_z hr_z; skip)
      refine hK.out _ _ (eG orr) (fun hHeld => ?_)
      clear hK K
      refine norm_ (a' := ?_) ?_ ?_
      rotate_left
      · simp only [Act.put, List.setIfInBounds_toArray, List.set_cons_zero, List.set_cons_succ, i64_w, i32_w]
        rfl
      refine one_ (i := 7) (N := some 124) #[true, true, true, true, true, true, true, true, false, false, false, true, false, false] rfl rfl (by kernel_rfl) (by decide) (fun K hK => ?_)
      (refine goes_ Try.func31 (by kernel_rfl) rfl #[.agg #[.slice R l.length rc], .int .u64 (IntKind.u64.wrap (at_ + 8)), .slice A_z 2 c_z] (by rfl) rfl rfl (by (try simp only [List.map_toArray, List.map_cons, List.map_nil]); first | done | rfl) ?_; (with_reducible refine (rfill_r R rc l (IntKind.u64.wrap (at_ + 8)) A_z c_z (putB (fr.length : Int) 2 false) 2 (putB2_len _) _ _ _ (fG HR) HC.out (fG z) zc.out (wrap_u _) HL.out (by omega)).mono ?_); rintro e_ w9 ⟨A_f, c_f, rfl, hc_f, hr_f, hb_⟩; refine ⟨_, rfl, ?_⟩; have HB_ : Aside0 (Below w.heap.size w w9) := Aside0.mk (below_step (bG HB) hb_); have hzw9 := hb_.size; (try simp at hzw9); have on_ := Aside0.mk (box_below hb_ (eG on)); have orr_ := Aside0.mk (box_below hb_ (eG orr)); have pn_ := Aside0.mk (box_below hb_ (eG pn)); have pr_ := Aside0.mk (box_below hb_ (eG pr)); have og_ := Aside0.mk (box_below hb_ (eG og)); have HF_ := Aside0.mk (Kd.F_below (fG HF) hb_); clear HF; have HF := HF_; clear HF_; have q_ := Aside0.mk (Kd.F_below (fG q) hb_); clear q; have q := q_; clear q_; (try clear on onc onf onl); have on := on_; clear on_; obtain ⟨onc, onf, onl⟩ := cells_of on.out; (try clear orr orrc orrf orrl); have orr := orr_; clear orr_; obtain ⟨orrc, orrf, orrl⟩ := cells_of orr.out; (try clear pn pnc pnf pnl); have pn := pn_; clear pn_; obtain ⟨pnc, pnf, pnl⟩ := cells_of pn.out; (try clear pr prc prf prl); have pr := pr_; clear pr_; obtain ⟨prc, prf, prl⟩ := cells_of pr.out; (try clear og ogc ogf ogl); have og := og_; clear og_; obtain ⟨ogc, ogf, ogl⟩ := cells_of og.out; clear HB hb_; have HB := HB_; clear HB_; have fc := Aside0.mk hc_f; have f := Aside0.mk (Kd.F_bound hr_f); clear hc_f hr_f; skip)
      refine hK.out _ _ (eG orr) (fun hHeld => ?_)
      clear hK K
      refine norm_ (a' := ?_) ?_ ?_
      rotate_left
      · simp only [Act.put, List.setIfInBounds_toArray, List.set_cons_zero, List.set_cons_succ, i64_w, i32_w]
        rfl
      refine pure_ (i := 8) (N := some 116) (v := ?_) (a' := ?_) #[true, true, true, true, true, true, true, true, true, false, false, true, false, false] rfl rfl (by kernel_rfl) (fun _ _ _ h => h) (Or.inl ⟨by rfl, ?_⟩) ?_ ?_
      rotate_left
      · intro w'
        go_simp
        with_reducible rfl
      rotate_left
      · simp only [Act.put, List.setIfInBounds_toArray, List.set_cons_zero, List.set_cons_succ, i64_w, i32_w]
        rfl
      refine pure_ (i := 9) (N := some 125) (v := ?_) (a' := ?_) #[true, true, true, true, true, true, true, true, true, true, false, true, false, false] rfl rfl (by kernel_rfl) (fun _ _ _ h => h) (Or.inl ⟨by rfl, ?_⟩) ?_ ?_
      rotate_left
      · intro w'
        go_simp
        with_reducible rfl
      rotate_left
      · simp only [Act.put, List.setIfInBounds_toArray, List.set_cons_zero, List.set_cons_succ, i64_w, i32_w]
        rfl
      refine pure_ (i := 10) (N := some 126) (v := ?_) (a' := ?_) #[true, true, true, true, true, true, true, true, true, true, true, true, false, false] rfl rfl (by kernel_rfl) (fun _ _ _ h => h) (Or.inl ⟨by rfl, ?_⟩) ?_ ?_
      rotate_left
      · intro w'
        go_simp
        with_reducible rfl
      rotate_left
      · simp only [Act.put, List.setIfInBounds_toArray, List.set_cons_zero, List.set_cons_succ, i64_w, i32_w]
        rfl
      refine rowS_ (i := 12) #[true, true, true, true, true, true, true, true, true, true, true, true, true, false] rfl rfl (by kernel_rfl) (by decide) 27 _ _ rfl (w6.heap.size) (#[.slice A_f (fillL l (IntKind.u64.wrap (at_ + 8)) (putB (fr.length : Int) 2 false)).length c_f]) (by rfl) (by rfl) (by rfl) (#[.slice none 0 0]) 27 (eG og) rfl i27 (one27 _ _ _) ?_
      (rintro wz ⟨hx_, hk_, hb_, hzz_⟩; have HB_ : Aside0 (Below w.heap.size w wz) := Aside0.mk (Below.trans (bG HB) (Below.mono hb_ (by first | omega | (simp only [sz_alloc, sz_drew, sz_drewN]; omega)))); have hzwz := hzz_; (try simp at hzwz); clear hzz_; have on_ := Aside0.mk (st_put on.out hk_ (fun h_ => (by repeat (with_reducible first | exact h_ | apply ext_drew | apply ext_drewN | apply ext_alloc | refine blk_far ?_ (by show _ ≠ _; dsimp only; omega) _))) (by omega)); clear on onc onf onl; have on := on_; clear on_; obtain ⟨onc, onf, onl⟩ := cells_of on.out; have orr_ := Aside0.mk (st_put orr.out hk_ (fun h_ => (by repeat (with_reducible first | exact h_ | apply ext_drew | apply ext_drewN | apply ext_alloc | refine blk_far ?_ (by show _ ≠ _; dsimp only; omega) _))) (by omega)); clear orr orrc orrf orrl; have orr := orr_; clear orr_; obtain ⟨orrc, orrf, orrl⟩ := cells_of orr.out; have pn_ := Aside0.mk (st_put pn.out hk_ (fun h_ => (by repeat (with_reducible first | exact h_ | apply ext_drew | apply ext_drewN | apply ext_alloc | refine blk_far ?_ (by show _ ≠ _; dsimp only; omega) _))) (by omega)); clear pn pnc pnf pnl; have pn := pn_; clear pn_; obtain ⟨pnc, pnf, pnl⟩ := cells_of pn.out; have pr_ := Aside0.mk (st_put pr.out hk_ (fun h_ => (by repeat (with_reducible first | exact h_ | apply ext_drew | apply ext_drewN | apply ext_alloc | refine blk_far ?_ (by show _ ≠ _; dsimp only; omega) _))) (by omega)); clear pr prc prf prl; have pr := pr_; clear pr_; obtain ⟨prc, prf, prl⟩ := cells_of pr.out; have HF_ := Aside0.mk (Kd.F_step (fG HF) (fun j_ hj_ hl_ => hk_ j_ (by (try dsimp only at hj_); (try simp only [sz_alloc, sz_drew, sz_drewN, sz_set] at hj_); omega))); clear HF; have HF := HF_; clear HF_; have q_ := Aside0.mk (Kd.F_step (fG q) (fun j_ hj_ hl_ => hk_ j_ (by (try dsimp only at hj_); (try simp only [sz_alloc, sz_drew, sz_drewN, sz_set] at hj_); omega))); clear q; have q := q_; clear q_; have f_ := Aside0.mk (Kd.F_step (fG f) (fun j_ hj_ hl_ => hk_ j_ (by (try dsimp only at hj_); (try simp only [sz_alloc, sz_drew, sz_drewN, sz_set] at hj_); omega))); clear f; have f := f_; clear f_; (try clear og ogc ogf ogl); have og := Aside0.mk hx_; obtain ⟨ogc, ogf, ogl⟩ := cells_of og.out; clear HB hb_ hk_ hx_; have HB := HB_; clear HB_)
      refine ⟨(eG orr), ?_⟩
      refine pure_ (i := 13) (N := some 15) (v := ?_) (a' := ?_) #[true, true, true, true, true, true, true, true, true, true, true, true, true, true] rfl rfl (by kernel_rfl) (fun _ _ _ h => h) (Or.inl ⟨by rfl, ?_⟩) ?_ ?_
      rotate_left
      · intro w'
        go_simp
        with_reducible rfl
      rotate_left
      · simp only [Act.put, List.setIfInBounds_toArray, List.set_cons_zero, List.set_cons_succ, i64_w, i32_w]
        rfl
      refine done_ (by kernel_rfl) ?_
      go_wp2_with fail
      go_meet
      exact ⟨w6.heap.size, A_f, c_f, rfl, ⟨og.out⟩, ⟨on.out⟩, ⟨orr.out⟩, ⟨pn.out⟩, ⟨pr.out⟩, ⟨HF.out⟩, ⟨Kd.F_mono (fG q) (fun j hj => by (try simp only [sz_alloc, sz_drew, sz_drewN, sz_set] at hj); omega)⟩, ⟨by refine F_res (ok := ?_) (fG f) ?_; intro j_ hj_; (try simp only [sz_alloc, sz_drew, sz_drewN, sz_set] at hj_); rcases hj_.1 with h | h; exact .inl h; exact .inr (by omega)⟩, fc, HB, by omega⟩
  case rest =>
  clear on orr pn pr HR HF q HB onf onl onc orrc orrf orrl pnc pnf pnl prc prf prl
  obtain ⟨g, A_f, c_f, rfl, og, on, orr, pn, pr, HF, q, f, fc_, HB, hg⟩ := hcut
  rename World => wc
  obtain ⟨onc, onf, onl⟩ := cells_of on.out
  obtain ⟨orrc, orrf, orrl⟩ := cells_of orr.out
  obtain ⟨pnc, pnf, pnl⟩ := cells_of pn.out
  obtain ⟨prc, prf, prl⟩ := cells_of pr.out
  have hzwc := prl
  obtain ⟨ogc, ogf, ogl⟩ := cells_of og.out
  have hgz := ogl
  go_wp2_with fail
  (go_at_call 31; (with_reducible refine (rfill_r A_f c_f (fillL l (IntKind.u64.wrap (at_ + 8)) (putB (fr.length : Int) 2 false)) (bufD d) FA fc fr fr.length rfl _ _ _ (fG f) fc_.out (fG HF) HFC.out HBU.out HL1.out (by omega)).mono ?_); rintro e_ wd ⟨A_t, c_t, rfl, hc_t, hr_t, hb_⟩; have HB_ : Aside0 (Below w.heap.size w wd) := Aside0.mk (below_step (bG HB) hb_); have hzwd := hb_.size; (try simp at hzwd); have on_ := Aside0.mk (box_below hb_ (eG on)); have pn_ := Aside0.mk (box_below hb_ (eG pn)); have pr_ := Aside0.mk (box_below hb_ (eG pr)); have og_ := Aside0.mk (box_below hb_ (eG og)); have q_ := Aside0.mk (Kd.F_below (fG q) hb_); clear q; have q := q_; clear q_; (try clear on onc onf onl); have on := on_; clear on_; obtain ⟨onc, onf, onl⟩ := cells_of on.out; (try clear pn pnc pnf pnl); have pn := pn_; clear pn_; obtain ⟨pnc, pnf, pnl⟩ := cells_of pn.out; (try clear pr prc prf prl); have pr := pr_; clear pr_; obtain ⟨prc, prf, prl⟩ := cells_of pr.out; (try clear og ogc ogf ogl); have og := og_; clear og_; obtain ⟨ogc, ogf, ogl⟩ := cells_of og.out; clear HB hb_; have HB := HB_; clear HB_; have tc := Aside0.mk hc_t; have t := Aside0.mk (Kd.F_bound hr_t); clear hc_t hr_t; skip)
  have t_ := Aside0.mk (Kd.F_mono t.out (ok' := fun j => (ok j ∧ j < w.heap.size) ∨ (w.heap.size + 1 + 1 + 1 < j ∧ j ≠ g)) (fun j hj => by rcases hj.1 with (h | h) | h; exact .inl h; exact .inr h; exact .inr (by omega)))
  clear t
  have t := t_
  clear t_
  go_upto_region 18 with fail
  (have q_ := Aside0.mk (Kd.F_far (p := ⟨g, 0, none⟩) q.out (fun j_ hj_ => by (try dsimp only at hj_); (try dsimp only); (try simp only [sz_alloc, sz_drew, sz_drewN, sz_set] at hj_); omega) (.slice A_t (fillL (fillL l (IntKind.u64.wrap (at_ + 8)) (putB (fr.length : Int) 2 false)) (bufD d) fr).length c_t)); clear q; have q := q_; clear q_; have t_ := Aside0.mk (Kd.F_far (p := ⟨g, 0, none⟩) t.out (fun j_ hj_ => by (try dsimp only at hj_); (try dsimp only); (try simp only [sz_alloc, sz_drew, sz_drewN, sz_set] at hj_); omega) (.slice A_t (fillL (fillL l (IntKind.u64.wrap (at_ + 8)) (putB (fr.length : Int) 2 false)) (bufD d) fr).length c_t)); clear t; have t := t_; clear t_; have on_ := Aside0.mk (blk_far (p := ⟨g, 0, none⟩) on.out (by show _ ≠ _; dsimp only; omega) (.slice A_t (fillL (fillL l (IntKind.u64.wrap (at_ + 8)) (putB (fr.length : Int) 2 false)) (bufD d) fr).length c_t)); clear on onc onf onl; have on := on_; clear on_; obtain ⟨onc, onf, onl⟩ := cells_of on.out; have pn_ := Aside0.mk (blk_far (p := ⟨g, 0, none⟩) pn.out (by show _ ≠ _; dsimp only; omega) (.slice A_t (fillL (fillL l (IntKind.u64.wrap (at_ + 8)) (putB (fr.length : Int) 2 false)) (bufD d) fr).length c_t)); clear pn pnc pnf pnl; have pn := pn_; clear pn_; obtain ⟨pnc, pnf, pnl⟩ := cells_of pn.out; have pr_ := Aside0.mk (blk_far (p := ⟨g, 0, none⟩) pr.out (by show _ ≠ _; dsimp only; omega) (.slice A_t (fillL (fillL l (IntKind.u64.wrap (at_ + 8)) (putB (fr.length : Int) 2 false)) (bufD d) fr).length c_t)); clear pr prc prf prl; have pr := pr_; clear pr_; obtain ⟨prc, prf, prl⟩ := cells_of pr.out; have og_ := Aside0.mk (blk_put og.out 0 (.slice A_t (fillL (fillL l (IntKind.u64.wrap (at_ + 8)) (putB (fr.length : Int) 2 false)) (bufD d) fr).length c_t) (cs' := #[.slice A_t (fillL (fillL l (IntKind.u64.wrap (at_ + 8)) (putB (fr.length : Int) 2 false)) (bufD d) fr).length c_t]) rfl); clear og ogc ogf ogl; have og := og_; clear og_; obtain ⟨ogc, ogf, ogl⟩ := cells_of og.out)
  have hc1 : World.cell? (wd.setCell ⟨g, 0, none⟩ (.slice A_t (fillL (fillL l (IntKind.u64.wrap (at_ + 8)) (putB (fr.length : Int) 2 false)) (bufD d) fr).length c_t)) ⟨w.heap.size, 1, none⟩ = some (.int .i64 (c 1)) := (onc 1).trans rfl
  clear onc
  have onc := trivial
  go_upto_region 19 with fail
  (have q_ := Aside0.mk (Kd.F_far (p := ⟨w.heap.size, 1, none⟩) q.out (fun j_ hj_ => by (try dsimp only at hj_); (try dsimp only); (try simp only [sz_alloc, sz_drew, sz_drewN, sz_set] at hj_); omega) (.int .i64 (Go.bits .or .i64 (c 1) 2))); clear q; have q := q_; clear q_; have t_ := Aside0.mk (Kd.F_far (p := ⟨w.heap.size, 1, none⟩) t.out (fun j_ hj_ => by (try dsimp only at hj_); (try dsimp only); (try simp only [sz_alloc, sz_drew, sz_drewN, sz_set] at hj_); omega) (.int .i64 (Go.bits .or .i64 (c 1) 2))); clear t; have t := t_; clear t_; have pn_ := Aside0.mk (blk_far (p := ⟨w.heap.size, 1, none⟩) pn.out (by show _ ≠ _; dsimp only; omega) (.int .i64 (Go.bits .or .i64 (c 1) 2))); clear pn pnc pnf pnl; have pn := pn_; clear pn_; obtain ⟨pnc, pnf, pnl⟩ := cells_of pn.out; have pr_ := Aside0.mk (blk_far (p := ⟨w.heap.size, 1, none⟩) pr.out (by show _ ≠ _; dsimp only; omega) (.int .i64 (Go.bits .or .i64 (c 1) 2))); clear pr prc prf prl; have pr := pr_; clear pr_; obtain ⟨prc, prf, prl⟩ := cells_of pr.out; have og_ := Aside0.mk (blk_far (p := ⟨w.heap.size, 1, none⟩) og.out (by show _ ≠ _; dsimp only; omega) (.int .i64 (Go.bits .or .i64 (c 1) 2))); clear og ogc ogf ogl; have og := og_; clear og_; obtain ⟨ogc, ogf, ogl⟩ := cells_of og.out; have on_ := Aside0.mk (blk_put on.out 1 (.int .i64 (Go.bits .or .i64 (c 1) 2)) (cs' := C14 (upd (upd c 9 (Int.tmod (wrap64 (c 9 + 1)) (c 8))) 1 (Go.bits .or .i64 (c 1) 2)) (.slice A mac.length cap)) rfl); clear on onc onf onl; have on := on_; clear on_; obtain ⟨onc, onf, onl⟩ := cells_of on.out)
  clear hc1
  refine start_ (n := 8) (S := fun w' => w'.heap[w.heap.size]? = some (.cells (C14 (upd (upd c 9 (Int.tmod (wrap64 (c 9 + 1)) (c 8))) 1 (Go.bits .or .i64 (c 1) 2)) (.slice A mac.length cap)) 25 (0, 0)) ∧ w'.heap[g]? = some (.cells (#[.slice A_t (fillL (fillL l (IntKind.u64.wrap (at_ + 8)) (putB (fr.length : Int) 2 false)) (bufD d) fr).length c_t]) 27 (0, 0))) (ds := []) #[false, false, false, false, false, false, false, false] (by kernel_rfl) rfl rfl ⟨(eG on), (eG og)⟩ (fun hHeld => ?_)
  refine rowL_ (i := 0) (N := some 138) #[true, false, false, false, false, false, false, false] rfl rfl (by kernel_rfl) 25 _ rfl (w.heap.size) (C14 (upd (upd c 9 (Int.tmod (wrap64 (c 9 + 1)) (c 8))) 1 (Go.bits .or .i64 (c 1) 2)) (.slice A mac.length cap)) (fun _ _ _ h => h) (by rfl) (by rfl) _ _ _ (fun _ h => h.1) Try.underlying25 rfl i25 hHeld (a' := ?_) ?_ ?_
  rotate_left
  · simp only [Act.put, List.setIfInBounds_toArray, List.set_cons_zero, List.set_cons_succ, i64_w, i32_w]
    rfl
  refine rowL_ (i := 1) (N := some 139) #[true, true, false, false, false, false, false, false] rfl rfl (by kernel_rfl) 27 _ rfl (g) (#[.slice A_t (fillL (fillL l (IntKind.u64.wrap (at_ + 8)) (putB (fr.length : Int) 2 false)) (bufD d) fr).length c_t]) (fun _ _ _ h => h) (by rfl) (by rfl) _ _ _ (fun _ h => h.2) Try.underlying27 rfl i27 hHeld (a' := ?_) ?_ ?_
  rotate_left
  · simp only [Act.put, List.setIfInBounds_toArray, List.set_cons_zero, List.set_cons_succ, i64_w, i32_w]
    rfl
  refine pure_ (i := 2) (N := some 140) (v := ?_) (a' := ?_) #[true, true, true, false, false, false, false, false] rfl rfl (by kernel_rfl) (fun _ _ _ h => h) (Or.inl ⟨by rfl, ?_⟩) ?_ ?_
  rotate_left
  · intro w'
    go_simp
    with_reducible rfl
  rotate_left
  · simp only [Act.put, List.setIfInBounds_toArray, List.set_cons_zero, List.set_cons_succ, i64_w, i32_w]
    rfl
  refine pure_ (i := 3) (N := some 141) (v := ?_) (a' := ?_) #[true, true, true, true, false, false, false, false] rfl rfl (by kernel_rfl) (fun _ _ _ h => h) (Or.inl ⟨by rfl, ?_⟩) ?_ ?_
  rotate_left
  · intro w'
    go_simp
    with_reducible rfl
  rotate_left
  · simp only [Act.put, List.setIfInBounds_toArray, List.set_cons_zero, List.set_cons_succ, i64_w, i32_w]
    rfl
  refine one_ (i := 4) (N := some 142) #[true, true, true, true, true, false, false, false] rfl rfl (by kernel_rfl) (by decide) (fun K hK => ?_)
  (refine goes_ Try.func44 (by kernel_rfl) rfl #[.agg #[.slice A_t (fillL (fillL l (IntKind.u64.wrap (at_ + 8)) (putB (fr.length : Int) 2 false)) (bufD d) fr).length c_t], .int .u64 at_, .slice (some ⟨qb, qo, none⟩) 16 c_q, .int .u8 1] (by rfl) rfl rfl (by (try simp only [List.map_toArray, List.map_cons, List.map_nil]); first | done | rfl) ?_; (with_reducible refine (rdone_is at_ (IntKind.u64.wrap (at_ + 10)) (flagD d) (restD d) 1 _ A_t c_t (fillL (fillL l (IntKind.u64.wrap (at_ + 8)) (putB (fr.length : Int) 2 false)) (bufD d) fr) ⟨qb, qo, none⟩ c_q d _ _ _ rfl (flagD_is d) (restD_is d) HDL.out (fG t) tc.out (fG q) qc.out HFL.out).mono ?_); rintro e_ wq1 ⟨A_s, c_s, rfl, hc_s, hr_s, hb_⟩; refine ⟨_, rfl, ?_⟩; have HB_ : Aside0 (Below w.heap.size w wq1) := Aside0.mk (below_step (bG HB) hb_); have hzwq1 := hb_.size; (try simp at hzwq1); have on_ := Aside0.mk (box_below hb_ (eG on)); have pn_ := Aside0.mk (box_below hb_ (eG pn)); have pr_ := Aside0.mk (box_below hb_ (eG pr)); have og_ := Aside0.mk (box_below hb_ (eG og)); have q_ := Aside0.mk (Kd.F_below (fG q) hb_); clear q; have q := q_; clear q_; have t_ := Aside0.mk (Kd.F_below (fG t) hb_); clear t; have t := t_; clear t_; (try clear on onc onf onl); have on := on_; clear on_; obtain ⟨onc, onf, onl⟩ := cells_of on.out; (try clear pn pnc pnf pnl); have pn := pn_; clear pn_; obtain ⟨pnc, pnf, pnl⟩ := cells_of pn.out; (try clear pr prc prf prl); have pr := pr_; clear pr_; obtain ⟨prc, prf, prl⟩ := cells_of pr.out; (try clear og ogc ogf ogl); have og := og_; clear og_; obtain ⟨ogc, ogf, ogl⟩ := cells_of og.out; clear HB hb_; have HB := HB_; clear HB_; have sc := Aside0.mk hc_s; have s := Aside0.mk (Kd.F_bound hr_s); clear hc_s hr_s; skip)
  refine hK.out _ _ ⟨(eG on), (eG og)⟩ (fun hHeld => ?_)
  clear hK K
  refine norm_ (a' := ?_) ?_ ?_
  rotate_left
  · simp only [Act.put, List.setIfInBounds_toArray, List.set_cons_zero, List.set_cons_succ, i64_w, i32_w]
    rfl
  refine rowS_ (i := 5) #[true, true, true, true, true, true, false, false] rfl rfl (by kernel_rfl) (by decide) 25 _ _ rfl (w.heap.size + 1 + 1) (C14 (upd (upd c 9 (Int.tmod (wrap64 (c 9 + 1)) (c 8))) 1 (Go.bits .or .i64 (c 1) 2)) (.slice A mac.length cap)) (by rfl) (by rfl) (by rfl) (#[.int .i64 0, .int .i64 0, .int .i64 0, .int .u64 0, .int .i64 0, .int .i64 0, .int .i64 0, .int .u64 0, .int .i64 0, .int .i64 0, .int .i64 0, .int .i64 0, .int .i64 0, .slice none 0 0]) 25 (eG pn) rfl i25 (C14_one _ _ _ _) ?_
  (rintro wq2 ⟨hx_, hk_, hb_, hzz_⟩; have HB_ : Aside0 (Below w.heap.size w wq2) := Aside0.mk (Below.trans (bG HB) (Below.mono hb_ (by first | omega | (simp only [sz_alloc, sz_drew, sz_drewN]; omega)))); have hzwq2 := hzz_; (try simp at hzwq2); clear hzz_; have on_ := Aside0.mk (st_put on.out hk_ (fun h_ => (by repeat (with_reducible first | exact h_ | apply ext_drew | apply ext_drewN | apply ext_alloc | refine blk_far ?_ (by show _ ≠ _; dsimp only; omega) _))) (by omega)); clear on onc onf onl; have on := on_; clear on_; obtain ⟨onc, onf, onl⟩ := cells_of on.out; have pr_ := Aside0.mk (st_put pr.out hk_ (fun h_ => (by repeat (with_reducible first | exact h_ | apply ext_drew | apply ext_drewN | apply ext_alloc | refine blk_far ?_ (by show _ ≠ _; dsimp only; omega) _))) (by omega)); clear pr prc prf prl; have pr := pr_; clear pr_; obtain ⟨prc, prf, prl⟩ := cells_of pr.out; have og_ := Aside0.mk (st_put og.out hk_ (fun h_ => (by repeat (with_reducible first | exact h_ | apply ext_drew | apply ext_drewN | apply ext_alloc | refine blk_far ?_ (by show _ ≠ _; dsimp only; omega) _))) (by omega)); clear og ogc ogf ogl; have og := og_; clear og_; obtain ⟨ogc, ogf, ogl⟩ := cells_of og.out; have q_ := Aside0.mk (Kd.F_step (fG q) (fun j_ hj_ hl_ => hk_ j_ (by (try dsimp only at hj_); (try simp only [sz_alloc, sz_drew, sz_drewN, sz_set] at hj_); omega))); clear q; have q := q_; clear q_; have t_ := Aside0.mk (Kd.F_step (fG t) (fun j_ hj_ hl_ => hk_ j_ (by (try dsimp only at hj_); (try simp only [sz_alloc, sz_drew, sz_drewN, sz_set] at hj_); omega))); clear t; have t := t_; clear t_; have s_ := Aside0.mk (Kd.F_step (fG s) (fun j_ hj_ hl_ => hk_ j_ (by (try dsimp only at hj_); (try simp only [sz_alloc, sz_drew, sz_drewN, sz_set] at hj_); omega))); clear s; have s := s_; clear s_; (try clear pn pnc pnf pnl); have pn := Aside0.mk hx_; obtain ⟨pnc, pnf, pnl⟩ := cells_of pn.out; clear HB hb_ hk_ hx_; have HB := HB_; clear HB_)
  refine ⟨⟨(eG on), (eG og)⟩, ?_⟩
  refine rowS_ (i := 6) #[true, true, true, true, true, true, true, false] rfl rfl (by kernel_rfl) (by decide) 27 _ _ rfl (w.heap.size + 1 + 1 + 1) (#[.slice A_s (fillL (fillL (fillL l (IntKind.u64.wrap (at_ + 8)) (putB (fr.length : Int) 2 false)) (bufD d) fr) (IntKind.u64.wrap (at_ + 10)) [Go.bits .andNot .u8 (flagD d) 1, restD d, 1, 0]).length c_s]) (by rfl) (by rfl) (by rfl) (#[.slice none 0 0]) 27 (eG pr) rfl i27 (one27 _ _ _) ?_
  (rintro wq3 ⟨hx_, hk_, hb_, hzz_⟩; have HB_ : Aside0 (Below w.heap.size w wq3) := Aside0.mk (Below.trans (bG HB) (Below.mono hb_ (by first | omega | (simp only [sz_alloc, sz_drew, sz_drewN]; omega)))); have hzwq3 := hzz_; (try simp at hzwq3); clear hzz_; have on_ := Aside0.mk (st_put on.out hk_ (fun h_ => (by repeat (with_reducible first | exact h_ | apply ext_drew | apply ext_drewN | apply ext_alloc | refine blk_far ?_ (by show _ ≠ _; dsimp only; omega) _))) (by omega)); clear on onc onf onl; have on := on_; clear on_; obtain ⟨onc, onf, onl⟩ := cells_of on.out; have pn_ := Aside0.mk (st_put pn.out hk_ (fun h_ => (by repeat (with_reducible first | exact h_ | apply ext_drew | apply ext_drewN | apply ext_alloc | refine blk_far ?_ (by show _ ≠ _; dsimp only; omega) _))) (by omega)); clear pn pnc pnf pnl; have pn := pn_; clear pn_; obtain ⟨pnc, pnf, pnl⟩ := cells_of pn.out; have og_ := Aside0.mk (st_put og.out hk_ (fun h_ => (by repeat (with_reducible first | exact h_ | apply ext_drew | apply ext_drewN | apply ext_alloc | refine blk_far ?_ (by show _ ≠ _; dsimp only; omega) _))) (by omega)); clear og ogc ogf ogl; have og := og_; clear og_; obtain ⟨ogc, ogf, ogl⟩ := cells_of og.out; have q_ := Aside0.mk (Kd.F_step (fG q) (fun j_ hj_ hl_ => hk_ j_ (by (try dsimp only at hj_); (try simp only [sz_alloc, sz_drew, sz_drewN, sz_set] at hj_); omega))); clear q; have q := q_; clear q_; have t_ := Aside0.mk (Kd.F_step (fG t) (fun j_ hj_ hl_ => hk_ j_ (by (try dsimp only at hj_); (try simp only [sz_alloc, sz_drew, sz_drewN, sz_set] at hj_); omega))); clear t; have t := t_; clear t_; have s_ := Aside0.mk (Kd.F_step (fG s) (fun j_ hj_ hl_ => hk_ j_ (by (try dsimp only at hj_); (try simp only [sz_alloc, sz_drew, sz_drewN, sz_set] at hj_); omega))); clear s; have s := s_; clear s_; (try clear pr prc prf prl); have pr := Aside0.mk hx_; obtain ⟨prc, prf, prl⟩ := cells_of pr.out; clear HB hb_ hk_ hx_; have HB := HB_; clear HB_)
  refine ⟨⟨(eG on), (eG og)⟩, ?_⟩
  refine pure_ (i := 7) (N := some 8) (v := ?_) (a' := ?_) #[true, true, true, true, true, true, true, true] rfl rfl (by kernel_rfl) (fun _ _ _ h => h) (Or.inl ⟨by rfl, ?_⟩) ?_ ?_
  rotate_left
  · intro w'
    go_simp
    with_reducible rfl
  rotate_left
  · simp only [Act.put, List.setIfInBounds_toArray, List.set_cons_zero, List.set_cons_succ, i64_w, i32_w]
    rfl
  refine done_ (by kernel_rfl) ?_
  go_wp2
  refine bodyPost_ret (results_cct rfl _ _ (w.heap.size + 1 + 1) (w.heap.size + 1 + 1 + 1) 25 27 (C14 (upd (upd c 9 (Int.tmod (wrap64 (c 9 + 1)) (c 8))) 1 (Go.bits .or .i64 (c 1) 2)) (.slice A mac.length cap)) #[.slice A_s (fillL (fillL (fillL l (IntKind.u64.wrap (at_ + 8)) (putB (fr.length : Int) 2 false)) (bufD d) fr) (IntKind.u64.wrap (at_ + 10)) [Go.bits .andNot .u8 (flagD d) 1, restD d, 1, 0]).length c_s] (0, 0) (0, 0) _ _ rfl rfl pn.out pr.out Try.underlying25 rfl i25 Try.underlying27 rfl i27) rfl ?_
  exact ⟨A_s, c_s, rfl, sc.out, (by refine F_res (ok := ?_) (fG s) ?_; intro j_ hj_; rcases hj_.1 with (h | h) | h; exact .inl h.1; exact .inr (by omega); exact .inr (by (try simp only [sz_alloc, sz_drew, sz_drewN, sz_set] at h); omega)), (bG HB)⟩
end Go.Proofs.Ytdblpflepfcnjaa.Q
