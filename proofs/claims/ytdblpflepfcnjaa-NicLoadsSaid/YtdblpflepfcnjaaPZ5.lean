import Derived.Test.YtdblpflepfcnjaaPZ1
import Derived.Test.YtdblpflepfcnjaaPZ3
import Derived.Test.YtdblpflepfcnjaaPZ4
import Derived.Deep.DeepCutAuto
import Derived.Test.YtdblpflepfcnjaaPXWWords
import Derived.Test.YtdblpflepfcnjaaPXWLast
import Derived.Test.YtdblpflepfcnjaaPXWMore
import Derived.ProofKit
import Derived.Deep.Slices
import Derived.ChangeSame
section
/- nic.Send: a frame goes. -/
namespace Go.Proofs.Ytdblpflepfcnjaa.Q
open Go.RowKit Go.Proofs.YtdblpflepfcnjaaW.PrintWords Go.Proofs.YtdblpflepfcnjaaW.PrintLast Go.Proofs.YtdblpflepfcnjaaW.PrintMore Go.Proofs.Ytdblpflepfcnjaa.L
attribute [local go_sem] Instr.field part asAgg lt_step max2_int min2_int max_two min_two max_three min_three max_four min_four lt_0_1 lt_0_2 lt_1_2 lt_0_3 lt_1_3 lt_2_3 lt_0_4 lt_1_4 lt_2_4 lt_3_4 lt_0_5 lt_1_5 lt_2_5 lt_3_5 lt_4_5 lt_0_6 lt_1_6 lt_2_6 lt_3_6 lt_4_6 lt_5_6 lt_0_7 lt_1_7 lt_2_7 lt_3_7 lt_4_7 lt_5_7 lt_6_7 lt_0_8 lt_1_8 lt_2_8 lt_3_8 lt_4_8 lt_5_8 lt_6_8 lt_7_8
set_option linter.unusedVariables false
set_option linter.unusedSimpArgs false
set_option maxHeartbeats 1600000 in
set_option maxRecDepth 100000 in
theorem send_good (A : Option Addr) (m cap : Nat) (R : Option Addr) (rc : Nat) (l : List Int) (c : Nat → Int) (w : World) (ok : Nat → Prop) (hr : Kd.F (Kd.int .u8) w ok R l.length l) (hc : l.length ≤ rc) (at_ : Int) (hk : okC c m = true) (hb0 : (Go.bits .and .i64 (c 0) 1 == 0) = false) (hb5 : (c 5 == c 6) = false) (hat : IntKind.u64.wrap (c 3 + IntKind.u64.wrap (16 * IntKind.u64.wrap (c 5))) = at_) (ha : u64B at_) (hl : (l.length : Int) ≤ 70000) (hby : ∀ z ∈ l, byte z) (hp : (placeZ l.length at_ 16).2 = true) (ho : (Go.bits .and .u8 (flagD (cutL l at_ 16)) 1 == 1) = true) (hne : ¬ c 4 = 0) (hbu : u64B (bufD (cutL l at_ 16))) (fr : List Int) (hfr : cutL l (bufD (cutL l at_ 16)) (sizeD (cutL l at_ 16)) = fr) (hpb : (placeZ l.length (bufD (cutL l at_ 16)) (sizeD (cutL l at_ 16))).2 = true) (hs14 : decide ((sizeD (cutL l at_ 16)) < 14) = false) (hs15 : decide ((sizeD (cutL l at_ 16)) > 1514) = false) (hki : i64B (sizeD (cutL l at_ 16))) (h14 : 14 ≤ (sizeD (cutL l at_ 16))) :
    Calls Try.prog 11 #[.agg (C14 c (.slice A m cap)), .agg #[.slice R l.length rc]] w (SendPost A m cap ok w (upd (upd c 5 (Int.tmod (wrap64 (c 5 + 1)) (c 4))) 1 (Go.bits .or .i64 (c 1) 1)) (fillL l (IntKind.u64.wrap (at_ + 10)) [Go.bits .andNot .u8 (flagD (cutL l at_ 16)) 1, restD (cutL l at_ 16), 1, 0]) fr true) := by
  have HB := Aside0.mk (Below.refl w.heap.size w)
  have HR := Aside0.mk (Kd.F_bound hr)
  have HC := Aside0.mk hc
  have hu := Try.underlying25
  have hu7 := Try.underlying27
  have HK := Aside0.mk hk
  have HA := Aside0.mk ha
  have HL := Aside0.mk hl
  have HP := Aside0.mk hp
  have HY := Aside0.mk hby
  have HO := Aside0.mk ho
  clear hp hby ho
  have HBU := Aside0.mk hbu
  clear hbu
  have hfn := cut_len l (bufD (cutL l at_ 16)) (sizeD (cutL l at_ 16)) hpb
  rw [hfr] at hfn
  have HFN := Aside0.mk hfn
  have HFR := Aside0.mk hfr
  have HPB := Aside0.mk hpb
  have HKI := Aside0.mk hki
  have H14 := Aside0.mk h14
  clear hpb hki hfr hfn h14
  clear hr hc hk ha hl
  go_enter Try.func11, Try.ntmps11
  go_upto_region 1 with fail
  obtain ⟨wa, hwa, on0, or0, pn0, pr0, hb_, hz0⟩ := letter4 w (.cells (C14 c (.slice A m cap)) 25 (0, 0)) (.cells #[.slice R l.length rc] 27 (0, 0)) (.cells #[.int .i64 0, .int .i64 0, .int .i64 0, .int .u64 0, .int .i64 0, .int .i64 0, .int .i64 0, .int .u64 0, .int .i64 0, .int .i64 0, .int .i64 0, .int .i64 0, .int .i64 0, .slice none 0 0] 25 (0, 0)) (.cells #[.slice none 0 0] 27 (0, 0))
  rw [hwa]
  clear hwa
  have hzwa := Nat.le_of_eq hz0.symm
  clear hz0
  have on := Aside0.mk on0
  have orr := Aside0.mk or0
  have pn := Aside0.mk pn0
  have pr := Aside0.mk pr0
  clear on0 or0 pn0 pr0
  obtain ⟨onc, onf, onl⟩ := cells_of on.out
  obtain ⟨orrc, orrf, orrl⟩ := cells_of orr.out
  obtain ⟨pnc, pnf, pnl⟩ := cells_of pn.out
  obtain ⟨prc, prf, prl⟩ := cells_of pr.out
  have HB_ : Aside0 (Below w.heap.size w wa) := ⟨hb_⟩
  have HR_ := Aside0.mk (Kd.F_below HR.out hb_)
  clear HB HR hb_; have HB := HB_; have HR := HR_; clear HB_ HR_
  have hc0 : World.cell? wa ⟨w.heap.size, 0, none⟩ = some (.int .i64 (c 0)) := (onc 0).trans rfl
  have hc5 : World.cell? wa ⟨w.heap.size, 5, none⟩ = some (.int .i64 (c 5)) := (onc 5).trans rfl
  have hc6 : World.cell? wa ⟨w.heap.size, 6, none⟩ = some (.int .i64 (c 6)) := (onc 6).trans rfl
  clear onc
  have onc := trivial
  go_wp2_with (first | ((with_reducible refine gate_dst (N := 11) rfl ?_); (try (refine gate_guard (by rfl) ?_; dsimp only)); refine wpList_load_row rfl 25 _ rfl _ (by rfl) _ (C14 c (.slice A m cap)) _ _ (eG on) Try.underlying25 rfl i25 ?_))
  (go_at_call 9; (with_reducible refine (Check_of true c A m cap _ HK.out).mono ?_); rintro e_ w1 ⟨rfl, hb_⟩; have HB_ : Aside0 (Below w.heap.size w w1) := Aside0.mk (below_step (bG HB) hb_); have hzw1 := hb_.size; (try simp at hzw1); have on_ := Aside0.mk (box_below hb_ (eG on)); have orr_ := Aside0.mk (box_below hb_ (eG orr)); have pn_ := Aside0.mk (box_below hb_ (eG pn)); have pr_ := Aside0.mk (box_below hb_ (eG pr)); have HR_ := Aside0.mk (Kd.F_below (fG HR) hb_); clear HR; have HR := HR_; clear HR_; (try clear on onc onf onl); have on := on_; clear on_; obtain ⟨onc, onf, onl⟩ := cells_of on.out; (try clear orr orrc orrf orrl); have orr := orr_; clear orr_; obtain ⟨orrc, orrf, orrl⟩ := cells_of orr.out; (try clear pn pnc pnf pnl); have pn := pn_; clear pn_; obtain ⟨pnc, pnf, pnl⟩ := cells_of pn.out; (try clear pr prc prf prl); have pr := pr_; clear pr_; obtain ⟨prc, prf, prl⟩ := cells_of pr.out; clear HB hb_; have HB := HB_; clear HB_)
  clear hc0 hc5 hc6
  have hc0 : World.cell? w1 ⟨w.heap.size, 0, none⟩ = some (.int .i64 (c 0)) := (onc 0).trans rfl
  have hc3 : World.cell? w1 ⟨w.heap.size, 3, none⟩ = some (.int .u64 (c 3)) := (onc 3).trans rfl
  have hc5 : World.cell? w1 ⟨w.heap.size, 5, none⟩ = some (.int .i64 (c 5)) := (onc 5).trans rfl
  have hc6 : World.cell? w1 ⟨w.heap.size, 6, none⟩ = some (.int .i64 (c 6)) := (onc 6).trans rfl
  clear onc
  have onc := trivial
  go_wp2_with fail
  (go_at_call 32; (with_reducible refine (fetch_yes R rc l (c 3) (c 5) at_ _ hat (Kd.F_now HR.out) HC.out HA.out HL.out HY.out HP.out).mono ?_); rintro e_ w2 ⟨rfl, hb_⟩; have HB_ : Aside0 (Below w.heap.size w w2) := Aside0.mk (below_step (bG HB) hb_); have hzw2 := hb_.size; (try simp at hzw2); have on_ := Aside0.mk (box_below hb_ (eG on)); have orr_ := Aside0.mk (box_below hb_ (eG orr)); have pn_ := Aside0.mk (box_below hb_ (eG pn)); have pr_ := Aside0.mk (box_below hb_ (eG pr)); have HR_ := Aside0.mk (Kd.F_below (fG HR) hb_); clear HR; have HR := HR_; clear HR_; (try clear on onc onf onl); have on := on_; clear on_; obtain ⟨onc, onf, onl⟩ := cells_of on.out; (try clear orr orrc orrf orrl); have orr := orr_; clear orr_; obtain ⟨orrc, orrf, orrl⟩ := cells_of orr.out; (try clear pn pnc pnf pnl); have pn := pn_; clear pn_; obtain ⟨pnc, pnf, pnl⟩ := cells_of pn.out; (try clear pr prc prf prl); have pr := pr_; clear pr_; obtain ⟨prc, prf, prl⟩ := cells_of pr.out; clear HB hb_; have HB := HB_; clear HB_)
  clear hc0 hc3 hc5 hc6
  go_upto_region 4 with fail
  obtain ⟨w3, hw_, od0, hb_, hz0⟩ := letter1 w2 (.cells #[.int .u64 at_, .int .u64 (bufD (cutL l at_ 16)), .int .i64 (sizeD (cutL l at_ 16)), .int .u8 (flagD (cutL l at_ 16)), .int .u8 (restD (cutL l at_ 16))] 58 (0, 0))
  rw [hw_]
  clear hw_
  have hzw3 := Nat.le_of_eq hz0.symm
  clear hz0
  have on_ := Aside0.mk (box_below hb_ on.out)
  (try clear on onc onf onl)
  have on := on_
  clear on_
  obtain ⟨onc, onf, onl⟩ := cells_of on.out
  have orr_ := Aside0.mk (box_below hb_ orr.out)
  (try clear orr orrc orrf orrl)
  have orr := orr_
  clear orr_
  obtain ⟨orrc, orrf, orrl⟩ := cells_of orr.out
  have pn_ := Aside0.mk (box_below hb_ pn.out)
  (try clear pn pnc pnf pnl)
  have pn := pn_
  clear pn_
  obtain ⟨pnc, pnf, pnl⟩ := cells_of pn.out
  have pr_ := Aside0.mk (box_below hb_ pr.out)
  (try clear pr prc prf prl)
  have pr := pr_
  clear pr_
  obtain ⟨prc, prf, prl⟩ := cells_of pr.out
  have HR_ := Aside0.mk (Kd.F_below HR.out hb_)
  clear HR
  have HR := HR_
  clear HR_
  have od := Aside0.mk od0
  clear od0
  obtain ⟨odc, odf, odl⟩ := cells_of od.out
  have HB_ : Aside0 (Below w.heap.size w w3) := Aside0.mk (below_step HB.out hb_)
  clear HB hb_
  have HB := HB_
  clear HB_
  go_wp2_with fail
  (go_at_call 34; (with_reducible refine (own_of true _ _ _ _ _ _ HO.out).mono ?_); rintro e_ w4 ⟨rfl, hb_⟩; have HB_ : Aside0 (Below w.heap.size w w4) := Aside0.mk (below_step (bG HB) hb_); have hzw4 := hb_.size; (try simp at hzw4); have on_ := Aside0.mk (box_below hb_ (eG on)); have orr_ := Aside0.mk (box_below hb_ (eG orr)); have pn_ := Aside0.mk (box_below hb_ (eG pn)); have pr_ := Aside0.mk (box_below hb_ (eG pr)); have od_ := Aside0.mk (box_below hb_ (eG od)); have HR_ := Aside0.mk (Kd.F_below (fG HR) hb_); clear HR; have HR := HR_; clear HR_; (try clear on onc onf onl); have on := on_; clear on_; obtain ⟨onc, onf, onl⟩ := cells_of on.out; (try clear orr orrc orrf orrl); have orr := orr_; clear orr_; obtain ⟨orrc, orrf, orrl⟩ := cells_of orr.out; (try clear pn pnc pnf pnl); have pn := pn_; clear pn_; obtain ⟨pnc, pnf, pnl⟩ := cells_of pn.out; (try clear pr prc prf prl); have pr := pr_; clear pr_; obtain ⟨prc, prf, prl⟩ := cells_of pr.out; (try clear od odc odf odl); have od := od_; clear od_; obtain ⟨odc, odf, odl⟩ := cells_of od.out; clear HB hb_; have HB := HB_; clear HB_)
  have hc4 : World.cell? w4 ⟨w.heap.size, 4, none⟩ = some (.int .i64 (c 4)) := (onc 4).trans rfl
  have hc5 : World.cell? w4 ⟨w.heap.size, 5, none⟩ = some (.int .i64 (c 5)) := (onc 5).trans rfl
  clear onc
  have onc := trivial
  go_upto_region 10 with fail
  (have HR_ := Aside0.mk (Kd.F_far (p := ⟨w.heap.size, 5, none⟩) HR.out (fun j_ hj_ => by (try dsimp only at hj_); (try dsimp only); (try simp only [sz_alloc, sz_drew, sz_drewN, sz_set] at hj_); omega) (.int .i64 (Int.tmod (wrap64 (c 5 + 1)) (c 4)))); clear HR; have HR := HR_; clear HR_; have orr_ := Aside0.mk (blk_far (p := ⟨w.heap.size, 5, none⟩) orr.out (by show _ ≠ _; dsimp only; omega) (.int .i64 (Int.tmod (wrap64 (c 5 + 1)) (c 4)))); clear orr orrc orrf orrl; have orr := orr_; clear orr_; obtain ⟨orrc, orrf, orrl⟩ := cells_of orr.out; have pn_ := Aside0.mk (blk_far (p := ⟨w.heap.size, 5, none⟩) pn.out (by show _ ≠ _; dsimp only; omega) (.int .i64 (Int.tmod (wrap64 (c 5 + 1)) (c 4)))); clear pn pnc pnf pnl; have pn := pn_; clear pn_; obtain ⟨pnc, pnf, pnl⟩ := cells_of pn.out; have pr_ := Aside0.mk (blk_far (p := ⟨w.heap.size, 5, none⟩) pr.out (by show _ ≠ _; dsimp only; omega) (.int .i64 (Int.tmod (wrap64 (c 5 + 1)) (c 4)))); clear pr prc prf prl; have pr := pr_; clear pr_; obtain ⟨prc, prf, prl⟩ := cells_of pr.out; have od_ := Aside0.mk (blk_far (p := ⟨w.heap.size, 5, none⟩) od.out (by show _ ≠ _; dsimp only; omega) (.int .i64 (Int.tmod (wrap64 (c 5 + 1)) (c 4)))); clear od odc odf odl; have od := od_; clear od_; obtain ⟨odc, odf, odl⟩ := cells_of od.out; have on_ := Aside0.mk (blk_put on.out 5 (.int .i64 (Int.tmod (wrap64 (c 5 + 1)) (c 4))) (cs' := C14 (upd c 5 (Int.tmod (wrap64 (c 5 + 1)) (c 4))) (.slice A m cap)) rfl); clear on onc onf onl; have on := on_; clear on_; obtain ⟨onc, onf, onl⟩ := cells_of on.out)
  clear hc4 hc5
  go_wp2_with fail
  (go_at_call 35; (with_reducible refine (bytes_c R rc l (bufD (cutL l at_ 16)) (sizeD (cutL l at_ 16)) fr.length _ HFN.out (by rw [HFN.out]; have := H14.out; omega) (Kd.F_now (fG HR)) HC.out HBU.out HKI.out HL.out HPB.out).mono ?_); rintro e_ w6 ⟨qb, qo, qc, rfl, hq1, hq2, hq3, hb_⟩; have HB_ : Aside0 (Below w.heap.size w w6) := Aside0.mk (below_step (bG HB) hb_); have hzw6 := hb_.size; (try simp at hzw6); have on_ := Aside0.mk (box_below hb_ (eG on)); have orr_ := Aside0.mk (box_below hb_ (eG orr)); have pn_ := Aside0.mk (box_below hb_ (eG pn)); have pr_ := Aside0.mk (box_below hb_ (eG pr)); have od_ := Aside0.mk (box_below hb_ (eG od)); have HR_ := Aside0.mk (Kd.F_below (fG HR) hb_); clear HR; have HR := HR_; clear HR_; (try clear on onc onf onl); have on := on_; clear on_; obtain ⟨onc, onf, onl⟩ := cells_of on.out; (try clear orr orrc orrf orrl); have orr := orr_; clear orr_; obtain ⟨orrc, orrf, orrl⟩ := cells_of orr.out; (try clear pn pnc pnf pnl); have pn := pn_; clear pn_; obtain ⟨pnc, pnf, pnl⟩ := cells_of pn.out; (try clear pr prc prf prl); have pr := pr_; clear pr_; obtain ⟨prc, prf, prl⟩ := cells_of pr.out; (try clear od odc odf odl); have od := od_; clear od_; obtain ⟨odc, odf, odl⟩ := cells_of od.out; clear HB hb_; have HB := HB_; clear HB_; have hq1_ := Aside0.mk hq1; clear hq1; have hq1 := hq1_; clear hq1_; have hq2_ := Aside0.mk hq2; clear hq2; have hq2 := hq2_; clear hq2_; have hq3_ := Aside0.mk hq3; clear hq3; have hq3 := hq3_; clear hq3_; skip)
  rw [HFR.out] at hq2
  have hq2_ := Aside0.mk (Kd.F_mono hq2.out (ok' := fun j => w.heap.size + 1 + 1 + 1 < j) (fun j hj => by (try simp only [sz_alloc, sz_drew, sz_drewN, sz_set] at hj); omega))
  clear hq2
  have hq2 := hq2_
  clear hq2_
  have hc1 : World.cell? w6 ⟨w.heap.size, 1, none⟩ = some (.int .i64 (c 1)) := (onc 1).trans rfl
  clear onc
  have onc := trivial
  go_upto_region 14 with fail
  (have HR_ := Aside0.mk (Kd.F_far (p := ⟨w.heap.size, 1, none⟩) HR.out (fun j_ hj_ => by (try dsimp only at hj_); (try dsimp only); (try simp only [sz_alloc, sz_drew, sz_drewN, sz_set] at hj_); omega) (.int .i64 (Go.bits .or .i64 (c 1) 1))); clear HR; have HR := HR_; clear HR_; have hq2_ := Aside0.mk (Kd.F_far (p := ⟨w.heap.size, 1, none⟩) hq2.out (fun j_ hj_ => by (try dsimp only at hj_); (try dsimp only); (try simp only [sz_alloc, sz_drew, sz_drewN, sz_set] at hj_); omega) (.int .i64 (Go.bits .or .i64 (c 1) 1))); clear hq2; have hq2 := hq2_; clear hq2_; have orr_ := Aside0.mk (blk_far (p := ⟨w.heap.size, 1, none⟩) orr.out (by show _ ≠ _; dsimp only; omega) (.int .i64 (Go.bits .or .i64 (c 1) 1))); clear orr orrc orrf orrl; have orr := orr_; clear orr_; obtain ⟨orrc, orrf, orrl⟩ := cells_of orr.out; have pn_ := Aside0.mk (blk_far (p := ⟨w.heap.size, 1, none⟩) pn.out (by show _ ≠ _; dsimp only; omega) (.int .i64 (Go.bits .or .i64 (c 1) 1))); clear pn pnc pnf pnl; have pn := pn_; clear pn_; obtain ⟨pnc, pnf, pnl⟩ := cells_of pn.out; have pr_ := Aside0.mk (blk_far (p := ⟨w.heap.size, 1, none⟩) pr.out (by show _ ≠ _; dsimp only; omega) (.int .i64 (Go.bits .or .i64 (c 1) 1))); clear pr prc prf prl; have pr := pr_; clear pr_; obtain ⟨prc, prf, prl⟩ := cells_of pr.out; have od_ := Aside0.mk (blk_far (p := ⟨w.heap.size, 1, none⟩) od.out (by show _ ≠ _; dsimp only; omega) (.int .i64 (Go.bits .or .i64 (c 1) 1))); clear od odc odf odl; have od := od_; clear od_; obtain ⟨odc, odf, odl⟩ := cells_of od.out; have on_ := Aside0.mk (blk_put on.out 1 (.int .i64 (Go.bits .or .i64 (c 1) 1)) (cs' := C14 (upd (upd c 5 (Int.tmod (wrap64 (c 5 + 1)) (c 4))) 1 (Go.bits .or .i64 (c 1) 1)) (.slice A m cap)) rfl); clear on onc onf onl; have on := on_; clear on_; obtain ⟨onc, onf, onl⟩ := cells_of on.out)
  clear hc1
  refine start_ (n := 9) (S := fun w' => w'.heap[w.heap.size]? = some (.cells (C14 (upd (upd c 5 (Int.tmod (wrap64 (c 5 + 1)) (c 4))) 1 (Go.bits .or .i64 (c 1) 1)) (.slice A m cap)) 25 (0, 0)) ∧ w'.heap[w2.heap.size]? = some (.cells (#[.int .u64 at_, .int .u64 (bufD (cutL l at_ 16)), .int .i64 (sizeD (cutL l at_ 16)), .int .u8 (flagD (cutL l at_ 16)), .int .u8 (restD (cutL l at_ 16))]) 58 (0, 0)) ∧ w'.heap[w.heap.size + 1]? = some (.cells (#[.slice R l.length rc]) 27 (0, 0))) (ds := []) #[false, false, false, false, false, false, false, false, false] (by kernel_rfl) rfl rfl ⟨(eG on), (eG od), (eG orr)⟩ (fun hHeld => ?_)
  refine rowL_ (i := 0) (N := some 91) #[true, false, false, false, false, false, false, false, false] rfl rfl (by kernel_rfl) 25 _ rfl (w.heap.size) (C14 (upd (upd c 5 (Int.tmod (wrap64 (c 5 + 1)) (c 4))) 1 (Go.bits .or .i64 (c 1) 1)) (.slice A m cap)) (fun _ _ _ h => h) (by rfl) (by rfl) _ _ _ (fun _ h => h.1) Try.underlying25 rfl i25 hHeld (a' := ?_) ?_ ?_
  rotate_left
  · simp only [Act.put, List.setIfInBounds_toArray, List.set_cons_zero, List.set_cons_succ, i64_w, i32_w]
    rfl
  refine rowL_ (i := 1) (N := some 92) #[true, true, false, false, false, false, false, false, false] rfl rfl (by kernel_rfl) 58 _ rfl (w2.heap.size) (#[.int .u64 at_, .int .u64 (bufD (cutL l at_ 16)), .int .i64 (sizeD (cutL l at_ 16)), .int .u8 (flagD (cutL l at_ 16)), .int .u8 (restD (cutL l at_ 16))]) (fun _ _ _ h => h) (by rfl) (by rfl) _ _ _ (fun _ h => h.2.1) Try.underlying58 rfl i58 hHeld (a' := ?_) ?_ ?_
  rotate_left
  · simp only [Act.put, List.setIfInBounds_toArray, List.set_cons_zero, List.set_cons_succ, i64_w, i32_w]
    rfl
  refine rowL_ (i := 2) (N := some 93) #[true, true, true, false, false, false, false, false, false] rfl rfl (by kernel_rfl) 27 _ rfl (w.heap.size + 1) (#[.slice R l.length rc]) (fun _ _ _ h => h) (by rfl) (by rfl) _ _ _ (fun _ h => h.2.2) Try.underlying27 rfl i27 hHeld (a' := ?_) ?_ ?_
  rotate_left
  · simp only [Act.put, List.setIfInBounds_toArray, List.set_cons_zero, List.set_cons_succ, i64_w, i32_w]
    rfl
  refine pure_ (i := 4) (N := some 95) (v := ?_) (a' := ?_) #[true, true, true, false, true, false, false, false, false] rfl rfl (by kernel_rfl) (fun _ _ _ h => h) (Or.inl ⟨by rfl, ?_⟩) ?_ ?_
  rotate_left
  · intro w'
    go_simp
    with_reducible rfl
  rotate_left
  · simp only [Act.put, List.setIfInBounds_toArray, List.set_cons_zero, List.set_cons_succ, i64_w, i32_w]
    rfl
  refine one_ (i := 3) (N := some 94) #[true, true, true, true, true, false, false, false, false] rfl rfl (by kernel_rfl) (by decide) (fun K hK => ?_)
  (refine goes_ Try.func36 (by kernel_rfl) rfl #[.agg #[.int .u64 at_, .int .u64 (bufD (cutL l at_ 16)), .int .i64 (sizeD (cutL l at_ 16)), .int .u8 (flagD (cutL l at_ 16)), .int .u8 (restD (cutL l at_ 16))], .agg #[.slice R (l).length rc], .int .u8 1] (by rfl) rfl rfl (by (try simp only [List.map_toArray, List.map_cons, List.map_nil]); first | done | rfl) ?_; (with_reducible refine (done_is at_ (bufD (cutL l at_ 16)) (sizeD (cutL l at_ 16)) (flagD (cutL l at_ 16)) (restD (cutL l at_ 16)) 1 R rc l _ _ (fG HR) HC.out HA.out (by have := HL.out; omega)).mono ?_); rintro e_ wq1 ⟨A_s, c_s, rfl, hc_s, hr_s, hb_⟩; refine ⟨_, rfl, ?_⟩; have HB_ : Aside0 (Below w.heap.size w wq1) := Aside0.mk (below_step (bG HB) hb_); have hzwq1 := hb_.size; (try simp at hzwq1); have on_ := Aside0.mk (box_below hb_ (eG on)); have orr_ := Aside0.mk (box_below hb_ (eG orr)); have pn_ := Aside0.mk (box_below hb_ (eG pn)); have pr_ := Aside0.mk (box_below hb_ (eG pr)); have od_ := Aside0.mk (box_below hb_ (eG od)); have HR_ := Aside0.mk (Kd.F_below (fG HR) hb_); clear HR; have HR := HR_; clear HR_; have hq2_ := Aside0.mk (Kd.F_below (fG hq2) hb_); clear hq2; have hq2 := hq2_; clear hq2_; (try clear on onc onf onl); have on := on_; clear on_; obtain ⟨onc, onf, onl⟩ := cells_of on.out; (try clear orr orrc orrf orrl); have orr := orr_; clear orr_; obtain ⟨orrc, orrf, orrl⟩ := cells_of orr.out; (try clear pn pnc pnf pnl); have pn := pn_; clear pn_; obtain ⟨pnc, pnf, pnl⟩ := cells_of pn.out; (try clear pr prc prf prl); have pr := pr_; clear pr_; obtain ⟨prc, prf, prl⟩ := cells_of pr.out; (try clear od odc odf odl); have od := od_; clear od_; obtain ⟨odc, odf, odl⟩ := cells_of od.out; clear HB hb_; have HB := HB_; clear HB_; have sc := Aside0.mk hc_s; have s := Aside0.mk (Kd.F_bound hr_s); clear hc_s hr_s; skip)
  refine hK.out _ _ ⟨(eG on), (eG od), (eG orr)⟩ (fun hHeld => ?_)
  clear hK K
  refine norm_ (a' := ?_) ?_ ?_
  rotate_left
  · simp only [Act.put, List.setIfInBounds_toArray, List.set_cons_zero, List.set_cons_succ, i64_w, i32_w]
    rfl
  refine rowS_ (i := 5) #[true, true, true, true, true, true, false, false, false] rfl rfl (by kernel_rfl) (by decide) 25 _ _ rfl (w.heap.size + 1 + 1) (C14 (upd (upd c 5 (Int.tmod (wrap64 (c 5 + 1)) (c 4))) 1 (Go.bits .or .i64 (c 1) 1)) (.slice A m cap)) (by rfl) (by rfl) (by rfl) (#[.int .i64 0, .int .i64 0, .int .i64 0, .int .u64 0, .int .i64 0, .int .i64 0, .int .i64 0, .int .u64 0, .int .i64 0, .int .i64 0, .int .i64 0, .int .i64 0, .int .i64 0, .slice none 0 0]) 25 (eG pn) rfl i25 (C14_one _ _ _ _) ?_
  (rintro wq2 ⟨hx_, hk_, hb_, hzz_⟩; have HB_ : Aside0 (Below w.heap.size w wq2) := Aside0.mk (Below.trans (bG HB) (Below.mono hb_ (by first | omega | (simp only [sz_alloc, sz_drew, sz_drewN]; omega)))); have hzwq2 := hzz_; (try simp at hzwq2); clear hzz_; have on_ := Aside0.mk (st_put on.out hk_ (fun h_ => (by repeat (with_reducible first | exact h_ | apply ext_drew | apply ext_drewN | apply ext_alloc | refine blk_far ?_ (by show _ ≠ _; dsimp only; omega) _))) (by omega)); clear on onc onf onl; have on := on_; clear on_; obtain ⟨onc, onf, onl⟩ := cells_of on.out; have orr_ := Aside0.mk (st_put orr.out hk_ (fun h_ => (by repeat (with_reducible first | exact h_ | apply ext_drew | apply ext_drewN | apply ext_alloc | refine blk_far ?_ (by show _ ≠ _; dsimp only; omega) _))) (by omega)); clear orr orrc orrf orrl; have orr := orr_; clear orr_; obtain ⟨orrc, orrf, orrl⟩ := cells_of orr.out; have pr_ := Aside0.mk (st_put pr.out hk_ (fun h_ => (by repeat (with_reducible first | exact h_ | apply ext_drew | apply ext_drewN | apply ext_alloc | refine blk_far ?_ (by show _ ≠ _; dsimp only; omega) _))) (by omega)); clear pr prc prf prl; have pr := pr_; clear pr_; obtain ⟨prc, prf, prl⟩ := cells_of pr.out; have od_ := Aside0.mk (st_put od.out hk_ (fun h_ => (by repeat (with_reducible first | exact h_ | apply ext_drew | apply ext_drewN | apply ext_alloc | refine blk_far ?_ (by show _ ≠ _; dsimp only; omega) _))) (by omega)); clear od odc odf odl; have od := od_; clear od_; obtain ⟨odc, odf, odl⟩ := cells_of od.out; have HR_ := Aside0.mk (Kd.F_step (fG HR) (fun j_ hj_ hl_ => hk_ j_ (by (try dsimp only at hj_); (try simp only [sz_alloc, sz_drew, sz_drewN, sz_set] at hj_); omega))); clear HR; have HR := HR_; clear HR_; have hq2_ := Aside0.mk (Kd.F_step (fG hq2) (fun j_ hj_ hl_ => hk_ j_ (by (try dsimp only at hj_); (try simp only [sz_alloc, sz_drew, sz_drewN, sz_set] at hj_); omega))); clear hq2; have hq2 := hq2_; clear hq2_; have s_ := Aside0.mk (Kd.F_step (fG s) (fun j_ hj_ hl_ => hk_ j_ (by (try dsimp only at hj_); (try simp only [sz_alloc, sz_drew, sz_drewN, sz_set] at hj_); omega))); clear s; have s := s_; clear s_; (try clear pn pnc pnf pnl); have pn := Aside0.mk hx_; obtain ⟨pnc, pnf, pnl⟩ := cells_of pn.out; clear HB hb_ hk_ hx_; have HB := HB_; clear HB_)
  refine ⟨⟨(eG on), (eG od), (eG orr)⟩, ?_⟩
  refine rowS_ (i := 6) #[true, true, true, true, true, true, true, false, false] rfl rfl (by kernel_rfl) (by decide) 27 _ _ rfl (w.heap.size + 1 + 1 + 1) (#[.slice A_s (fillL l (IntKind.u64.wrap (at_ + 10)) [Go.bits .andNot .u8 (flagD (cutL l at_ 16)) 1, restD (cutL l at_ 16), 1, 0]).length c_s]) (by rfl) (by rfl) (by rfl) (#[.slice none 0 0]) 27 (eG pr) rfl i27 (one27 _ _ _) ?_
  (rintro wq3 ⟨hx_, hk_, hb_, hzz_⟩; have HB_ : Aside0 (Below w.heap.size w wq3) := Aside0.mk (Below.trans (bG HB) (Below.mono hb_ (by first | omega | (simp only [sz_alloc, sz_drew, sz_drewN]; omega)))); have hzwq3 := hzz_; (try simp at hzwq3); clear hzz_; have on_ := Aside0.mk (st_put on.out hk_ (fun h_ => (by repeat (with_reducible first | exact h_ | apply ext_drew | apply ext_drewN | apply ext_alloc | refine blk_far ?_ (by show _ ≠ _; dsimp only; omega) _))) (by omega)); clear on onc onf onl; have on := on_; clear on_; obtain ⟨onc, onf, onl⟩ := cells_of on.out; have orr_ := Aside0.mk (st_put orr.out hk_ (fun h_ => (by repeat (with_reducible first | exact h_ | apply ext_drew | apply ext_drewN | apply ext_alloc | refine blk_far ?_ (by show _ ≠ _; dsimp only; omega) _))) (by omega)); clear orr orrc orrf orrl; have orr := orr_; clear orr_; obtain ⟨orrc, orrf, orrl⟩ := cells_of orr.out; have pn_ := Aside0.mk (st_put pn.out hk_ (fun h_ => (by repeat (with_reducible first | exact h_ | apply ext_drew | apply ext_drewN | apply ext_alloc | refine blk_far ?_ (by show _ ≠ _; dsimp only; omega) _))) (by omega)); clear pn pnc pnf pnl; have pn := pn_; clear pn_; obtain ⟨pnc, pnf, pnl⟩ := cells_of pn.out; have od_ := Aside0.mk (st_put od.out hk_ (fun h_ => (by repeat (with_reducible first | exact h_ | apply ext_drew | apply ext_drewN | apply ext_alloc | refine blk_far ?_ (by show _ ≠ _; dsimp only; omega) _))) (by omega)); clear od odc odf odl; have od := od_; clear od_; obtain ⟨odc, odf, odl⟩ := cells_of od.out; have HR_ := Aside0.mk (Kd.F_step (fG HR) (fun j_ hj_ hl_ => hk_ j_ (by (try dsimp only at hj_); (try simp only [sz_alloc, sz_drew, sz_drewN, sz_set] at hj_); omega))); clear HR; have HR := HR_; clear HR_; have hq2_ := Aside0.mk (Kd.F_step (fG hq2) (fun j_ hj_ hl_ => hk_ j_ (by (try dsimp only at hj_); (try simp only [sz_alloc, sz_drew, sz_drewN, sz_set] at hj_); omega))); clear hq2; have hq2 := hq2_; clear hq2_; have s_ := Aside0.mk (Kd.F_step (fG s) (fun j_ hj_ hl_ => hk_ j_ (by (try dsimp only at hj_); (try simp only [sz_alloc, sz_drew, sz_drewN, sz_set] at hj_); omega))); clear s; have s := s_; clear s_; (try clear pr prc prf prl); have pr := Aside0.mk hx_; obtain ⟨prc, prf, prl⟩ := cells_of pr.out; clear HB hb_ hk_ hx_; have HB := HB_; clear HB_)
  refine ⟨⟨(eG on), (eG od), (eG orr)⟩, ?_⟩
  refine pure_ (i := 7) (N := some 6) (v := ?_) (a' := ?_) #[true, true, true, true, true, true, true, true, false] rfl rfl (by kernel_rfl) (fun _ _ _ h => h) (Or.inl ⟨by rfl, ?_⟩) ?_ ?_
  rotate_left
  · intro w'
    go_simp
    with_reducible rfl
  rotate_left
  · simp only [Act.put, List.setIfInBounds_toArray, List.set_cons_zero, List.set_cons_succ, i64_w, i32_w]
    rfl
  refine pure_ (i := 8) (N := some 7) (v := ?_) (a' := ?_) #[true, true, true, true, true, true, true, true, true] rfl rfl (by kernel_rfl) (fun _ _ _ h => h) (Or.inl ⟨by rfl, ?_⟩) ?_ ?_
  rotate_left
  · intro w'
    go_simp
    with_reducible rfl
  rotate_left
  · simp only [Act.put, List.setIfInBounds_toArray, List.set_cons_zero, List.set_cons_succ, i64_w, i32_w]
    rfl
  refine done_ (by kernel_rfl) ?_
  go_wp2
  refine bodyPost_ret (results_cctt rfl _ _ (w.heap.size + 1 + 1) (w.heap.size + 1 + 1 + 1) 25 27 (C14 (upd (upd c 5 (Int.tmod (wrap64 (c 5 + 1)) (c 4))) 1 (Go.bits .or .i64 (c 1) 1)) (.slice A m cap)) #[.slice A_s (fillL l (IntKind.u64.wrap (at_ + 10)) [Go.bits .andNot .u8 (flagD (cutL l at_ 16)) 1, restD (cutL l at_ 16), 1, 0]).length c_s] (0, 0) (0, 0) _ _ rfl rfl pn.out pr.out Try.underlying25 rfl i25 Try.underlying27 rfl i27) rfl ?_
  exact ⟨A_s, c_s, some ⟨qb, qo, none⟩, qc, rfl, sc.out, (by refine F_res (ok := ?_) ?_ ?_; rotate_left; (repeat (with_reducible first | exact s.out | apply Kd.F_drew | apply Kd.F_drewN | apply Kd.F_alloc | refine Kd.F_far ?_ ?_ _)); all_goals (intro j_ hj_; (try dsimp only at hj_); (try dsimp only); (try simp only [sz_alloc, sz_drew, sz_drewN, sz_set] at hj_); first | omega | exact .inl hj_.1 | exact .inl hj_ | exact .inr (by omega) | (rcases hj_ with hj_ | hj_; exact .inl hj_.1; exact .inr (by omega)) | (rcases hj_ with hj_ | hj_; exact .inl hj_; exact .inr (by omega)) | (rcases hj_.1 with hk_ | hk_; (first | exact .inl hk_.1 | exact .inl hk_); exact .inr (by omega)))), hq1.out, (by refine F_res (ok := ?_) (fG hq2) ?_; intro j_ hj_; omega), (bG HB)⟩
end Go.Proofs.Ytdblpflepfcnjaa.Q
end
section
/- nic.Receive: its ways that end early. -/
namespace Go.Proofs.Ytdblpflepfcnjaa.Q
open Go.RowKit Go.Proofs.YtdblpflepfcnjaaW.PrintWords Go.Proofs.YtdblpflepfcnjaaW.PrintLast Go.Proofs.YtdblpflepfcnjaaW.PrintMore Go.Proofs.Ytdblpflepfcnjaa.L
attribute [local go_sem] Instr.field part asAgg lt_step max2_int min2_int max_two min_two max_three min_three max_four min_four lt_0_1 lt_0_2 lt_1_2 lt_0_3 lt_1_3 lt_2_3 lt_0_4 lt_1_4 lt_2_4 lt_3_4 lt_0_5 lt_1_5 lt_2_5 lt_3_5 lt_4_5 lt_0_6 lt_1_6 lt_2_6 lt_3_6 lt_4_6 lt_5_6 lt_0_7 lt_1_7 lt_2_7 lt_3_7 lt_4_7 lt_5_7 lt_6_7 lt_0_8 lt_1_8 lt_2_8 lt_3_8 lt_4_8 lt_5_8 lt_6_8 lt_7_8
set_option linter.unusedVariables false
set_option linter.unusedSimpArgs false
def RecvPost (A : Option Addr) (m cap : Nat) (ok : Nat → Prop) (w : World) (c : Nat → Int) (l : List Int) (b : Bool) (e : Ending) (w' : World) : Prop :=
  ∃ A' c', e = .returned (.tuple #[.agg (C14 c (.slice A m cap)), .agg #[.slice A' l.length c'], .bool b]) ∧ l.length ≤ c' ∧ Kd.F (Kd.int .u8) w' (fun j => ok j ∨ w.heap.size ≤ j) A' l.length l ∧ Below w.heap.size w w'
set_option maxHeartbeats 1600000 in
set_option maxRecDepth 100000 in
theorem recv_no (A : Option Addr) (cap : Nat) (mac : List Int) (R : Option Addr) (rc : Nat) (l : List Int) (FA : Option Addr) (fc : Nat) (fr : List Int) (c : Nat → Int) (w : World) (okm ok okf : Nat → Prop) (hm : Kd.F (Kd.int .u8) w okm A mac.length mac) (hmc : mac.length ≤ cap) (hr : Kd.F (Kd.int .u8) w ok R l.length l) (hc : l.length ≤ rc) (hf : Kd.F (Kd.int .u8) w okf FA fr.length fr) (hfc : fr.length ≤ fc) (hk : okC c mac.length = true) (hwt : wantsZ c mac fr = false) :
    Calls Try.prog 27 #[.agg (C14 c (.slice A mac.length cap)), .agg #[.slice R l.length rc], .slice FA fr.length fc] w (RecvPost A mac.length cap ok w (dropC c) l false) := by
  have HB := Aside0.mk (Below.refl w.heap.size w)
  have HR := Aside0.mk (Kd.F_bound hr)
  have HM := Aside0.mk (Kd.F_bound hm)
  have HF := Aside0.mk (Kd.F_bound hf)
  have HC := Aside0.mk hc
  have HMC := Aside0.mk hmc
  have HFC := Aside0.mk hfc
  have HK := Aside0.mk hk
  have hu := Try.underlying25
  have hu7 := Try.underlying27
  have HWT := Aside0.mk hwt
  clear hwt
  clear hm hmc hr hc hf hfc hk
  go_enter Try.func27, Try.ntmps27
  go_upto_region 1 with fail
  obtain ⟨wa, hwa, on0, or0, pn0, pr0, hb_, hz0⟩ := letter4 w (.cells (C14 c (.slice A mac.length cap)) 25 (0, 0)) (.cells #[.slice R l.length rc] 27 (0, 0)) (.cells #[.int .i64 0, .int .i64 0, .int .i64 0, .int .u64 0, .int .i64 0, .int .i64 0, .int .i64 0, .int .u64 0, .int .i64 0, .int .i64 0, .int .i64 0, .int .i64 0, .int .i64 0, .slice none 0 0] 25 (0, 0)) (.cells #[.slice none 0 0] 27 (0, 0))
  rw [hwa]
  clear hwa
  have hzwa := Nat.le_of_eq hz0.symm
  clear hz0
  have on := Aside0.mk on0
  have orr := Aside0.mk or0
  have pn := Aside0.mk pn0
  have pr := Aside0.mk pr0
  clear on0 or0 pn0 pr0
  obtain ⟨onc, onf, onl⟩ := cells_of on.out
  obtain ⟨orrc, orrf, orrl⟩ := cells_of orr.out
  obtain ⟨pnc, pnf, pnl⟩ := cells_of pn.out
  obtain ⟨prc, prf, prl⟩ := cells_of pr.out
  have HB_ : Aside0 (Below w.heap.size w wa) := ⟨hb_⟩
  have HR_ := Aside0.mk (Kd.F_below HR.out hb_)
  have HM_ := Aside0.mk (Kd.F_below HM.out hb_)
  have HF_ := Aside0.mk (Kd.F_below HF.out hb_)
  clear HB HR HM HF hb_; have HB := HB_; have HR := HR_; have HM := HM_; have HF := HF_; clear HB_ HR_ HM_ HF_
  go_wp2_with (first | ((with_reducible refine gate_dst (N := 11) rfl ?_); (try (refine gate_guard (by rfl) ?_; dsimp only)); refine wpList_load_row rfl 25 _ rfl _ (by rfl) _ (C14 c (.slice A mac.length cap)) _ _ (eG on) Try.underlying25 rfl i25 ?_))
  (go_at_call 9; (with_reducible refine (Check_of true c A mac.length cap _ HK.out).mono ?_); rintro e_ w1 ⟨rfl, hb_⟩; have HB_ : Aside0 (Below w.heap.size w w1) := Aside0.mk (below_step (bG HB) hb_); have hzw1 := hb_.size; (try simp at hzw1); have on_ := Aside0.mk (box_below hb_ (eG on)); have orr_ := Aside0.mk (box_below hb_ (eG orr)); have pn_ := Aside0.mk (box_below hb_ (eG pn)); have pr_ := Aside0.mk (box_below hb_ (eG pr)); have HR_ := Aside0.mk (Kd.F_below (fG HR) hb_); clear HR; have HR := HR_; clear HR_; have HM_ := Aside0.mk (Kd.F_below (fG HM) hb_); clear HM; have HM := HM_; clear HM_; have HF_ := Aside0.mk (Kd.F_below (fG HF) hb_); clear HF; have HF := HF_; clear HF_; (try clear on onc onf onl); have on := on_; clear on_; obtain ⟨onc, onf, onl⟩ := cells_of on.out; (try clear orr orrc orrf orrl); have orr := orr_; clear orr_; obtain ⟨orrc, orrf, orrl⟩ := cells_of orr.out; (try clear pn pnc pnf pnl); have pn := pn_; clear pn_; obtain ⟨pnc, pnf, pnl⟩ := cells_of pn.out; (try clear pr prc prf prl); have pr := pr_; clear pr_; obtain ⟨prc, prf, prl⟩ := cells_of pr.out; clear HB hb_; have HB := HB_; clear HB_)
  go_wp2_with (first | ((with_reducible refine gate_dst (N := 16) rfl ?_); (try (refine gate_guard (by rfl) ?_; dsimp only)); refine wpList_load_row rfl 25 _ rfl _ (by rfl) _ (C14 c (.slice A mac.length cap)) _ _ (eG on) Try.underlying25 rfl i25 ?_))
  (go_at_call 45; (with_reducible refine (wants_of false A cap mac FA fc fr c _ _ _ (fG HM) HMC.out (fG HF) HFC.out HWT.out).mono ?_); rintro e_ w2 ⟨rfl, hb_⟩; have HB_ : Aside0 (Below w.heap.size w w2) := Aside0.mk (below_step (bG HB) hb_); have hzw2 := hb_.size; (try simp at hzw2); have on_ := Aside0.mk (box_below hb_ (eG on)); have orr_ := Aside0.mk (box_below hb_ (eG orr)); have pn_ := Aside0.mk (box_below hb_ (eG pn)); have pr_ := Aside0.mk (box_below hb_ (eG pr)); have HR_ := Aside0.mk (Kd.F_below (fG HR) hb_); clear HR; have HR := HR_; clear HR_; have HF_ := Aside0.mk (Kd.F_below (fG HF) hb_); clear HF; have HF := HF_; clear HF_; (try clear on onc onf onl); have on := on_; clear on_; obtain ⟨onc, onf, onl⟩ := cells_of on.out; (try clear orr orrc orrf orrl); have orr := orr_; clear orr_; obtain ⟨orrc, orrf, orrl⟩ := cells_of orr.out; (try clear pn pnc pnf pnl); have pn := pn_; clear pn_; obtain ⟨pnc, pnf, pnl⟩ := cells_of pn.out; (try clear pr prc prf prl); have pr := pr_; clear pr_; obtain ⟨prc, prf, prl⟩ := cells_of pr.out; clear HB hb_; have HB := HB_; clear HB_)
  go_upto_region 4 with fail
  refine start_ (n := 6) (S := fun w' => w'.heap[w.heap.size]? = some (.cells (C14 c (.slice A mac.length cap)) 25 (0, 0)) ∧ w'.heap[w.heap.size + 1]? = some (.cells (#[.slice R l.length rc]) 27 (0, 0))) (ds := []) #[false, false, false, false, false, false] (by kernel_rfl) rfl rfl ⟨(eG on), (eG orr)⟩ (fun hHeld => ?_)
  refine rowL_ (i := 0) (N := some 20) #[true, false, false, false, false, false] rfl rfl (by kernel_rfl) 25 _ rfl (w.heap.size) (C14 c (.slice A mac.length cap)) (fun _ _ _ h => h) (by rfl) (by rfl) _ _ _ (fun _ h => h.1) Try.underlying25 rfl i25 hHeld (a' := ?_) ?_ ?_
  rotate_left
  · simp only [Act.put, List.setIfInBounds_toArray, List.set_cons_zero, List.set_cons_succ, i64_w, i32_w]
    rfl
  refine rowL_ (i := 2) (N := some 22) #[true, false, true, false, false, false] rfl rfl (by kernel_rfl) 27 _ rfl (w.heap.size + 1) (#[.slice R l.length rc]) (fun _ _ _ h => h) (by rfl) (by rfl) _ _ _ (fun _ h => h.2) Try.underlying27 rfl i27 hHeld (a' := ?_) ?_ ?_
  rotate_left
  · simp only [Act.put, List.setIfInBounds_toArray, List.set_cons_zero, List.set_cons_succ, i64_w, i32_w]
    rfl
  refine one_ (i := 1) (N := some 21) #[true, true, true, false, false, false] rfl rfl (by kernel_rfl) (by decide) (fun K hK => ?_)
  (refine goes_ Try.func46 (by kernel_rfl) rfl #[.agg (C14 (c) (.slice A mac.length cap))] (by rfl) rfl rfl (by (try simp only [List.map_toArray, List.map_cons, List.map_nil]); first | done | rfl) ?_; (with_reducible refine (drops_is (c) A mac.length cap _).mono ?_); rintro e_ wq1 ⟨rfl, hb_⟩; refine ⟨_, rfl, ?_⟩; have HB_ : Aside0 (Below w.heap.size w wq1) := Aside0.mk (below_step (bG HB) hb_); have hzwq1 := hb_.size; (try simp at hzwq1); have on_ := Aside0.mk (box_below hb_ (eG on)); have orr_ := Aside0.mk (box_below hb_ (eG orr)); have pn_ := Aside0.mk (box_below hb_ (eG pn)); have pr_ := Aside0.mk (box_below hb_ (eG pr)); have HR_ := Aside0.mk (Kd.F_below (fG HR) hb_); clear HR; have HR := HR_; clear HR_; (try clear on onc onf onl); have on := on_; clear on_; obtain ⟨onc, onf, onl⟩ := cells_of on.out; (try clear orr orrc orrf orrl); have orr := orr_; clear orr_; obtain ⟨orrc, orrf, orrl⟩ := cells_of orr.out; (try clear pn pnc pnf pnl); have pn := pn_; clear pn_; obtain ⟨pnc, pnf, pnl⟩ := cells_of pn.out; (try clear pr prc prf prl); have pr := pr_; clear pr_; obtain ⟨prc, prf, prl⟩ := cells_of pr.out; clear HB hb_; have HB := HB_; clear HB_)
  refine hK.out _ _ ⟨(eG on), (eG orr)⟩ (fun hHeld => ?_)
  clear hK K
  refine norm_ (a' := ?_) ?_ ?_
  rotate_left
  · simp only [Act.put, List.setIfInBounds_toArray, List.set_cons_zero, List.set_cons_succ, i64_w, i32_w]
    rfl
  refine rowS_ (i := 3) #[true, true, true, true, false, false] rfl rfl (by kernel_rfl) (by decide) 25 _ _ rfl (w.heap.size + 1 + 1) (C14 (dropC c) (.slice A mac.length cap)) (by rfl) (by rfl) (by rfl) (#[.int .i64 0, .int .i64 0, .int .i64 0, .int .u64 0, .int .i64 0, .int .i64 0, .int .i64 0, .int .u64 0, .int .i64 0, .int .i64 0, .int .i64 0, .int .i64 0, .int .i64 0, .slice none 0 0]) 25 (eG pn) rfl i25 (C14_one _ _ _ _) ?_
  (rintro wq2 ⟨hx_, hk_, hb_, hzz_⟩; have HB_ : Aside0 (Below w.heap.size w wq2) := Aside0.mk (Below.trans (bG HB) (Below.mono hb_ (by first | omega | (simp only [sz_alloc, sz_drew, sz_drewN]; omega)))); have hzwq2 := hzz_; (try simp at hzwq2); clear hzz_; have on_ := Aside0.mk (st_put on.out hk_ (fun h_ => (by repeat (with_reducible first | exact h_ | apply ext_drew | apply ext_drewN | apply ext_alloc | refine blk_far ?_ (by show _ ≠ _; dsimp only; omega) _))) (by omega)); clear on onc onf onl; have on := on_; clear on_; obtain ⟨onc, onf, onl⟩ := cells_of on.out; have orr_ := Aside0.mk (st_put orr.out hk_ (fun h_ => (by repeat (with_reducible first | exact h_ | apply ext_drew | apply ext_drewN | apply ext_alloc | refine blk_far ?_ (by show _ ≠ _; dsimp only; omega) _))) (by omega)); clear orr orrc orrf orrl; have orr := orr_; clear orr_; obtain ⟨orrc, orrf, orrl⟩ := cells_of orr.out; have pr_ := Aside0.mk (st_put pr.out hk_ (fun h_ => (by repeat (with_reducible first | exact h_ | apply ext_drew | apply ext_drewN | apply ext_alloc | refine blk_far ?_ (by show _ ≠ _; dsimp only; omega) _))) (by omega)); clear pr prc prf prl; have pr := pr_; clear pr_; obtain ⟨prc, prf, prl⟩ := cells_of pr.out; have HR_ := Aside0.mk (Kd.F_step (fG HR) (fun j_ hj_ hl_ => hk_ j_ (by (try dsimp only at hj_); (try simp only [sz_alloc, sz_drew, sz_drewN, sz_set] at hj_); omega))); clear HR; have HR := HR_; clear HR_; (try clear pn pnc pnf pnl); have pn := Aside0.mk hx_; obtain ⟨pnc, pnf, pnl⟩ := cells_of pn.out; clear HB hb_ hk_ hx_; have HB := HB_; clear HB_)
  refine ⟨⟨(eG on), (eG orr)⟩, ?_⟩
  refine rowS_ (i := 4) #[true, true, true, true, true, false] rfl rfl (by kernel_rfl) (by decide) 27 _ _ rfl (w.heap.size + 1 + 1 + 1) (#[.slice R l.length rc]) (by rfl) (by rfl) (by rfl) (#[.slice none 0 0]) 27 (eG pr) rfl i27 (one27 _ _ _) ?_
  (rintro wq3 ⟨hx_, hk_, hb_, hzz_⟩; have HB_ : Aside0 (Below w.heap.size w wq3) := Aside0.mk (Below.trans (bG HB) (Below.mono hb_ (by first | omega | (simp only [sz_alloc, sz_drew, sz_drewN]; omega)))); have hzwq3 := hzz_; (try simp at hzwq3); clear hzz_; have on_ := Aside0.mk (st_put on.out hk_ (fun h_ => (by repeat (with_reducible first | exact h_ | apply ext_drew | apply ext_drewN | apply ext_alloc | refine blk_far ?_ (by show _ ≠ _; dsimp only; omega) _))) (by omega)); clear on onc onf onl; have on := on_; clear on_; obtain ⟨onc, onf, onl⟩ := cells_of on.out; have orr_ := Aside0.mk (st_put orr.out hk_ (fun h_ => (by repeat (with_reducible first | exact h_ | apply ext_drew | apply ext_drewN | apply ext_alloc | refine blk_far ?_ (by show _ ≠ _; dsimp only; omega) _))) (by omega)); clear orr orrc orrf orrl; have orr := orr_; clear orr_; obtain ⟨orrc, orrf, orrl⟩ := cells_of orr.out; have pn_ := Aside0.mk (st_put pn.out hk_ (fun h_ => (by repeat (with_reducible first | exact h_ | apply ext_drew | apply ext_drewN | apply ext_alloc | refine blk_far ?_ (by show _ ≠ _; dsimp only; omega) _))) (by omega)); clear pn pnc pnf pnl; have pn := pn_; clear pn_; obtain ⟨pnc, pnf, pnl⟩ := cells_of pn.out; have HR_ := Aside0.mk (Kd.F_step (fG HR) (fun j_ hj_ hl_ => hk_ j_ (by (try dsimp only at hj_); (try simp only [sz_alloc, sz_drew, sz_drewN, sz_set] at hj_); omega))); clear HR; have HR := HR_; clear HR_; (try clear pr prc prf prl); have pr := Aside0.mk hx_; obtain ⟨prc, prf, prl⟩ := cells_of pr.out; clear HB hb_ hk_ hx_; have HB := HB_; clear HB_)
  refine ⟨⟨(eG on), (eG orr)⟩, ?_⟩
  refine pure_ (i := 5) (N := some 8) (v := ?_) (a' := ?_) #[true, true, true, true, true, true] rfl rfl (by kernel_rfl) (fun _ _ _ h => h) (Or.inl ⟨by rfl, ?_⟩) ?_ ?_
  rotate_left
  · intro w'
    go_simp
    with_reducible rfl
  rotate_left
  · simp only [Act.put, List.setIfInBounds_toArray, List.set_cons_zero, List.set_cons_succ, i64_w, i32_w]
    rfl
  refine done_ (by kernel_rfl) ?_
  go_wp2
  refine bodyPost_ret (results_cct rfl _ _ (w.heap.size + 1 + 1) (w.heap.size + 1 + 1 + 1) 25 27 (C14 (dropC c) (.slice A mac.length cap)) #[.slice R l.length rc] (0, 0) (0, 0) _ _ rfl rfl pn.out pr.out Try.underlying25 rfl i25 Try.underlying27 rfl i27) rfl ?_
  exact ⟨R, rc, rfl, HC.out, (by refine F_res (ok := ?_) ?_ ?_; rotate_left; (repeat (with_reducible first | exact HR.out | apply Kd.F_drew | apply Kd.F_drewN | apply Kd.F_alloc | refine Kd.F_far ?_ ?_ _)); all_goals (intro j_ hj_; (try dsimp only at hj_); (try dsimp only); (try simp only [sz_alloc, sz_drew, sz_drewN, sz_set] at hj_); first | omega | exact .inl hj_.1 | exact .inl hj_ | exact .inr (by omega) | (rcases hj_ with hj_ | hj_; exact .inl hj_.1; exact .inr (by omega)) | (rcases hj_ with hj_ | hj_; exact .inl hj_; exact .inr (by omega)) | (rcases hj_.1 with hk_ | hk_; (first | exact .inl hk_.1 | exact .inl hk_); exact .inr (by omega)))), (bG HB)⟩
end Go.Proofs.Ytdblpflepfcnjaa.Q
end
section
/- The contracts of the reference's Sext and Get (layer 1). -/
namespace Go.Proofs.Ytdblpflepfcnjaa.Q
open Go.RowKit Go.Proofs.YtdblpflepfcnjaaW.PrintWords Go.Proofs.YtdblpflepfcnjaaW.PrintLast Go.Proofs.YtdblpflepfcnjaaW.PrintMore Go.Proofs.Ytdblpflepfcnjaa.L
attribute [local go_sem] max2_int min2_int max_two min_two max_three min_three max_four min_four
set_option linter.unusedVariables false
set_option linter.unusedSimpArgs false

def drawbridgeref01_Get.f (l0 : List Int) (a1 : Bool) : Option Int := if ∀ x ∈ l0.take 8, byte x then some (getB l0 a1) else none
set_option maxHeartbeats 8000000 in
set_option maxRecDepth 100000 in
theorem drawbridgeref01_Get.calls (A0 : Option Addr) (c0 : Nat) (l0 : List Int) (a1 : Bool) (r : Int) (w : World) (hr0 : Kd.C (Kd.int .u8) w A0 l0.length l0) (hc0 : l0.length ≤ c0) (h : drawbridgeref01_Get.f l0 a1 = some r) :
    Calls Try.prog 39 #[.slice A0 l0.length c0, .bool a1] w fun e w' => e = .returned (.int .u64 r) ∧ Below w.heap.size w w' := by
  have HR0 := Aside0.mk hr0
  have HC0 := Aside0.mk hc0
  have HB := Aside0.mk (Below.refl w.heap.size w)
  have hm : l0.length ≤ 9223372036854775807 := hr0.2.1
  clear hr0 hc0
  unfold drawbridgeref01_Get.f at h
  by_cases hby : ∀ x ∈ l0.take 8, byte x
  · rw [if_pos hby] at h
    obtain rfl := Option.some.inj h
    clear h
    have HBY := Aside0.mk hby
    clear hby
    have H8 : (l0.length : Int) ≤ 8 ∨ 8 < (l0.length : Int) := by omega
    obtain ⟨N, hN⟩ : ∃ N : Nat, N = (l0.take 8).length := ⟨_, rfl⟩
    have hN8 : N ≤ 8 := by rw [hN]; simp; omega
    have hNl : N ≤ l0.length := by rw [hN]; simp; omega
    have hE : l0.length ≤ N ∨ 8 ≤ N := by rw [hN]; simp; omega
    have HN := Aside0.mk hN
    clear hN
    cases a1
    · have hbs : ∀ k, k < N → (l0.take 8).reverse[k]? = some (rd l0 ((N - 1 - k : Nat) : Int)) := fun k hk => by
        unfold rd; rw [Int.toNat_natCast]; exact rev8_at l0 k _ (by rw [← HN.out]; exact hk) (by rw [← HN.out]; omega)
      have HBS := Aside0.mk hbs
      clear hbs
      have HBR := Aside0.mk (fun x (hx : x ∈ (l0.take 8).reverse) => HBY.out x (List.mem_reverse.1 hx))
      have HNR : Aside0 (N = (l0.take 8).reverse.length) := ⟨by rw [List.length_reverse]; exact HN.out⟩
      rcases H8 with H8 | H8
      all_goals
        go_enter Try.func39, Try.ntmps39
        go_wp2
        go_loop [5, 7] (fun v5 v7 => ∃ k : Nat, k ≤ N ∧ v7 = .int .i64 k ∧ v5 = .int .u64 (getLE ((l0.take 8).reverse.take k).reverse)) (fun _ v7 => N - (intOf v7).toNat)
        case atStart => exact ⟨0, Nat.zero_le _, rfl, rfl⟩
        case round =>
          obtain ⟨k, hk, rfl, rfl⟩ := hrel
          by_cases hlt : k < N
          · obtain ⟨ad, rfl, hc⟩ := Kd.at_int HR0.out ((N - 1 - k : Nat) : Int) (by omega) (by omega)
            rw [Int.toNat_natCast] at hc
            have hc1 : l0.length ≤ 8 → w.cell? (ad.add (l0.length - 1 - k)) = some (.int .u8 (rd l0 ((N - 1 - k : Nat) : Int))) := fun h => by rw [show l0.length - 1 - k = N - 1 - k by omega]; exact hc
            have hc2 : 8 < l0.length → w.cell? (ad.add (8 - 1 - k)) = some (.int .u8 (rd l0 ((N - 1 - k : Nat) : Int))) := fun h => by rw [show 8 - 1 - k = N - 1 - k by omega]; exact hc
            first | (replace hc1 := hc1 (by omega)) | (replace hc2 := hc2 (by omega))
            go_wp2
            all_goals
              go_round
              case rel => exact ⟨k + 1, by omega, by go_num, congrArg _ (horner_step _ k _ (by have := HNR.out; omega) (by have := HNR.out; omega) HBR.out (HBS.out k hlt))⟩
              case measure => simp [intOf]; omega
          · go_wp2
            go_ret
            exact ⟨congrArg (fun z => Ending.returned (.int .u64 z)) (by rw [List.take_of_length_le (by have := HNR.out; omega), List.reverse_reverse]; rfl), HB.out⟩
    · have hbs : ∀ k, k < N → (l0.take 8)[k]? = some (rd l0 (k : Int)) := fun k hk => by
        rw [HN.out] at hk; unfold rd; rw [Int.toNat_natCast]; exact take8_at l0 k hk
      have HBS := Aside0.mk hbs
      clear hbs
      rcases H8 with H8 | H8
      all_goals
        go_enter Try.func39, Try.ntmps39
        go_wp2
        go_loop [5, 7] (fun v5 v7 => ∃ k : Nat, k ≤ N ∧ v7 = .int .i64 k ∧ v5 = .int .u64 (getLE ((l0.take 8).take k).reverse)) (fun _ v7 => N - (intOf v7).toNat)
        case atStart => exact ⟨0, Nat.zero_le _, rfl, rfl⟩
        case round =>
          obtain ⟨k, hk, rfl, rfl⟩ := hrel
          by_cases hlt : k < N
          · obtain ⟨ad, rfl, hc⟩ := Kd.at_int HR0.out (k : Int) (by omega) (by omega)
            rw [Int.toNat_natCast] at hc
            go_wp2
            all_goals
              go_round
              case rel => exact ⟨k + 1, by omega, by go_num, congrArg _ (horner_step _ k _ (by have := HN.out; omega) (by have := HN.out; omega) HBY.out (HBS.out k hlt))⟩
              case measure => simp [intOf]; omega
          · go_wp2
            go_ret
            exact ⟨congrArg (fun z => Ending.returned (.int .u64 z)) (by rw [List.take_of_length_le (by have := HN.out; omega)]; rfl), HB.out⟩
  · rw [if_neg hby] at h
    exact absurd h (by simp)

end Go.Proofs.Ytdblpflepfcnjaa.Q
end
section
/- The document's in, Check, wrong, dropped. -/
namespace Go.Proofs.Ytdblpflepfcnjaa.Q
open Go.RowKit Go.Proofs.YtdblpflepfcnjaaW.PrintWords Go.Proofs.YtdblpflepfcnjaaW.PrintLast Go.Proofs.YtdblpflepfcnjaaW.PrintMore Go.Proofs.Ytdblpflepfcnjaa.L
attribute [local go_sem] Instr.field part asAgg lt_step max2_int min2_int max_two min_two max_three min_three max_four min_four lt_0_1 lt_0_2 lt_1_2 lt_0_3 lt_1_3 lt_2_3 lt_0_4 lt_1_4 lt_2_4 lt_3_4 lt_0_5 lt_1_5 lt_2_5 lt_3_5 lt_4_5 lt_0_6 lt_1_6 lt_2_6 lt_3_6 lt_4_6 lt_5_6 lt_0_7 lt_1_7 lt_2_7 lt_3_7 lt_4_7 lt_5_7 lt_6_7 lt_0_8 lt_1_8 lt_2_8 lt_3_8 lt_4_8 lt_5_8 lt_6_8 lt_7_8
set_option linter.unusedVariables false
set_option linter.unusedSimpArgs false
def inB (n lo hi : Int) : Bool := decide (lo ≤ n) && decide (n ≤ hi)
def ringsB (c : Nat → Int) : Bool := inB (c 4) 1 64 && inB (c 8) 1 64 && inB (c 5) 0 (wrap64 (c 4 - 1)) && inB (c 6) 0 (wrap64 (c 4 - 1)) && inB (c 9) 0 (wrap64 (c 8 - 1)) && inB (c 10) 0 (wrap64 (c 8 - 1))
def okR (c : Nat → Int) (m : Nat) : Bool := decide (m = 6) && inB (c 0) 0 7 && inB (c 1) 0 15 && inB (c 2) 0 15 && decide (c 3 < 4294967296) && decide (c 7 < 4294967296) && ringsB c && inB (c 11) 0 2147483648 && inB (c 12) 0 2147483648
theorem okR_is (c : Nat → Int) (m : Nat) (h3 : 0 ≤ c 3) (h7 : 0 ≤ c 7) : okR c m = okC c m := by
  rw [Bool.eq_iff_iff, okC_iff]
  unfold okR ringsB inB
  simp only [Bool.and_eq_true, decide_eq_true_eq]
  constructor
  · rintro ⟨⟨⟨⟨⟨⟨⟨⟨h1, h2⟩, h4⟩, h5⟩, h6⟩, h8⟩, ⟨⟨⟨⟨⟨r1, r2⟩, r3⟩, r4⟩, r5⟩, r6⟩⟩, h9⟩, h10⟩
    rw [w64 (by omega) (by omega)] at r3 r4 r5 r6
    exact ⟨h1, by omega, by omega, by omega, by omega, by omega, by omega, by omega, by omega, by omega, by omega, by omega, by omega, by omega⟩
  · rintro ⟨h1, h2, h4, h5, h9, h10, tb, tn, th, tt, rb, rn, rh, rt⟩
    rw [w64 (by omega) (by omega), w64 (by omega) (by omega)]
    exact ⟨⟨⟨⟨⟨⟨⟨⟨h1, by omega⟩, by omega⟩, by omega⟩, by omega⟩, by omega⟩, ⟨⟨⟨⟨⟨by omega, by omega⟩, by omega⟩, by omega⟩, by omega⟩, by omega⟩⟩, by omega⟩, by omega⟩
set_option maxHeartbeats 1600000 in
set_option maxRecDepth 100000 in
theorem rin_is (n lo hi : Int) (w : World) : Calls Try.prog 42 #[.int .i64 n, .int .i64 lo, .int .i64 hi] w fun e w' => e = .returned (.bool (inB n lo hi)) ∧ w = w' := by
  unfold inB
  go_enter Try.func42, Try.ntmps42
  go_wp2
  all_goals go_ret
  all_goals exact ⟨by simp [*] <;> (intros; omega), rfl⟩
set_option maxHeartbeats 1600000 in
set_option maxRecDepth 100000 in
theorem rCheck_is (c : Nat → Int) (A : Option Addr) (m cap : Nat) (w : World) : Calls Try.prog 20 #[.agg (C14 c (.slice A m cap))] w fun e w' => e = .returned (.bool (okR c m)) ∧ Below w.heap.size w w' := by
  have HB := Aside0.mk (Below.refl w.heap.size w)
  have hu := Try.underlying25
  go_enter Try.func20, Try.ntmps20
  go_upto_region 1 with fail
  obtain ⟨wa, hwa, oc0, hb_, hz0⟩ := letter1 w (.cells (C14 c (.slice A m cap)) 25 (0, 0))
  rw [hwa]
  clear hwa
  obtain ⟨occ, ocf, ocl⟩ := cells_of oc0
  have hc0 := (occ 0).trans (C14_at c (.slice A m cap) 0 (by decide))
  have hc1 := (occ 1).trans (C14_at c (.slice A m cap) 1 (by decide))
  have hc2 := (occ 2).trans (C14_at c (.slice A m cap) 2 (by decide))
  have hc3 := (occ 3).trans (C14_at c (.slice A m cap) 3 (by decide))
  have hc4 := (occ 4).trans (C14_at c (.slice A m cap) 4 (by decide))
  have hc5 := (occ 5).trans (C14_at c (.slice A m cap) 5 (by decide))
  have hc6 := (occ 6).trans (C14_at c (.slice A m cap) 6 (by decide))
  have hc7 := (occ 7).trans (C14_at c (.slice A m cap) 7 (by decide))
  have hc8 := (occ 8).trans (C14_at c (.slice A m cap) 8 (by decide))
  have hc9 := (occ 9).trans (C14_at c (.slice A m cap) 9 (by decide))
  have hc10 := (occ 10).trans (C14_at c (.slice A m cap) 10 (by decide))
  have hc11 := (occ 11).trans (C14_at c (.slice A m cap) 11 (by decide))
  have hc12 := (occ 12).trans (C14_at c (.slice A m cap) 12 (by decide))
  have hc13 := (occ 13).trans (C14_mac c (.slice A m cap))
  simp only [show kd14 3 = .u64 from rfl, show kd14 7 = .u64 from rfl, show kd14 0 = .i64 from rfl, show kd14 1 = .i64 from rfl, show kd14 2 = .i64 from rfl, show kd14 4 = .i64 from rfl, show kd14 5 = .i64 from rfl, show kd14 6 = .i64 from rfl, show kd14 8 = .i64 from rfl, show kd14 9 = .i64 from rfl, show kd14 10 = .i64 from rfl, show kd14 11 = .i64 from rfl, show kd14 12 = .i64 from rfl] at hc0 hc1 hc2 hc3 hc4 hc5 hc6 hc7 hc8 hc9 hc10 hc11 hc12
  clear occ oc0 hz0
  go_cut [3] (fun v wx => v = .bool (ringsB c) ∧ wa = wx)
  case first =>
    go_wp2_with (first | (go_at_call 42; (with_reducible refine (rin_is (_) (_) (_) _).mono ?_); rintro e_ w_ ⟨rfl, rfl⟩))
    all_goals go_meet
    all_goals refine ⟨congrArg Value.bool ?_, rfl⟩
    all_goals (unfold ringsB; simp [*])
  case rest =>
  obtain ⟨rfl, rfl⟩ := hcut
  obtain ⟨rg, hrg⟩ : ∃ b, ringsB c = b := ⟨_, rfl⟩
  cases rg
  all_goals go_wp2_with (first | (go_at_call 42; (with_reducible refine (rin_is (_) (_) (_) _).mono ?_); rintro e_ w_ ⟨rfl, rfl⟩))
  all_goals go_ret
  all_goals refine ⟨congrArg (fun x => Ending.returned (.bool x)) ?_, (by repeat (first | (with_reducible first | exact hb_ | exact Below.refl _ _ | apply below_alloc | apply pw_below_drewN | apply below_drew | refine below_set ?_ (by omega)) | exact hb_))⟩
  all_goals (unfold okR; simp [*] <;> omega)
theorem rCheck_of (b : Bool) (c : Nat → Int) (A : Option Addr) (m cap : Nat) (w : World) (h3 : 0 ≤ c 3) (h7 : 0 ≤ c 7) (h : okC c m = b) : Calls Try.prog 20 #[.agg (C14 c (.slice A m cap))] w fun e w' => e = .returned (.bool b) ∧ Below w.heap.size w w' := by
  rw [← h, ← okR_is c m h3 h7]; exact rCheck_is c A m cap w
end Go.Proofs.Ytdblpflepfcnjaa.Q
end
section
/- The document's wanted. -/
namespace Go.Proofs.Ytdblpflepfcnjaa.Q
open Go.RowKit Go.Proofs.YtdblpflepfcnjaaW.PrintWords Go.Proofs.YtdblpflepfcnjaaW.PrintLast Go.Proofs.YtdblpflepfcnjaaW.PrintMore Go.Proofs.Ytdblpflepfcnjaa.L
attribute [local go_sem] Instr.field part asAgg lt_step max2_int min2_int max_two min_two max_three min_three max_four min_four lt_0_1 lt_0_2 lt_1_2 lt_0_3 lt_1_3 lt_2_3 lt_0_4 lt_1_4 lt_2_4 lt_3_4 lt_0_5 lt_1_5 lt_2_5 lt_3_5 lt_4_5 lt_0_6 lt_1_6 lt_2_6 lt_3_6 lt_4_6 lt_5_6 lt_0_7 lt_1_7 lt_2_7 lt_3_7 lt_4_7 lt_5_7 lt_6_7 lt_0_8 lt_1_8 lt_2_8 lt_3_8 lt_4_8 lt_5_8 lt_6_8 lt_7_8
set_option linter.unusedVariables false
set_option linter.unusedSimpArgs false
theorem row_at3 {k : IntKind} {W : World} {ok : Nat → Prop} {ad : Addr} {n : Nat} {xs : List Int} {x : Int} (h : Kd.F (Kd.int k) W ok (some ad) n xs) (i : Nat) (hi : i < n) (hx : xs.getD i 0 = x) : W.cell? (ad.add i) = some (.int k x) := by
  obtain ⟨ad', e, hc⟩ := Kd.at_int (Kd.F_now h) (i : Int) (by omega) (by omega)
  injection e with e
  subst e
  unfold rd at hc
  rw [Int.toNat_natCast, hx] at hc
  exact hc
theorem row_some3 {k : IntKind} {W : World} {ok : Nat → Prop} {A : Option Addr} {n : Nat} {xs : List Int} (h : Kd.F (Kd.int k) W ok A n xs) (i : Nat) (hi : i < n) : ∃ ad, A = some ad := by
  obtain ⟨ad', e, _⟩ := Kd.at_int (Kd.F_now h) (i : Int) (by omega) (by omega)
  exact ⟨ad', e⟩
end Go.Proofs.Ytdblpflepfcnjaa.Q
end
section
/- Arguments that lie in memory, opened: a row of whole numbers, a row of elements of whatever kind, as lists. -/
namespace Go.Proofs.Ytdblpflepfcnjaa.L
open Go.RowKit Go.Proofs.YtdblpflepfcnjaaW.PrintWords Go.Proofs.YtdblpflepfcnjaaW.PrintLast Go.Proofs.YtdblpflepfcnjaaW.PrintMore Go.ChangeShapes Go.WideShapes Go.Deep
section
variable {H : Type} {enc : TypeId × Value → H} {P : Program} {w : World} {base : Nat} {spare : Nat → Bool} {held : Bool} {n : Nat} {t e : TypeId} {c : Value} {x : DataW H × List MemPlace}
theorem leaf_int {k : IntKind} (ht : P.underlying t = some (.int k)) (h : DataW.trod enc P w base spare held n t [c] = some x) : ∃ a, c = .int k a ∧ (Lit.int k a).wf = true := by
  obtain ⟨a, he, _, hw⟩ := DataW.trod_int ht h
  exact ⟨a, by injection he, hw⟩
theorem leaf_rows {α : Type} {d : Kd α} (Q : α → Prop) (ht : P.underlying t = some (.slice e)) (hsz : P.cellsOf e = d.sz)
    (hel : ∀ (n : Nat) (cs : List Value) (y : DataW H × List MemPlace), cs.length = P.cellsOf e → DataW.trod enc P w base spare held n e cs = some y → ∃ s, d.K w s cs ∧ Q s)
    (h : DataW.trod enc P w base spare held n t [c] = some x) : ∃ (A : Option Addr) (cap : Nat) (l : List α), c = .slice A l.length cap ∧ d.C w A l.length l ∧ l.length ≤ cap ∧ l.length ≤ maxLen ∧ ∀ s ∈ l, Q s := by
  rcases open_slice ht h with ⟨hcs, _⟩ | ⟨a, len, cap, m, n', D, Pl, hcs, _, hl, hm, hmm, hx, hi⟩
  · injection hcs with hc
    exact ⟨none, 0, [], hc, ⟨rfl, Nat.zero_le _, fun hn => absurd hn (Nat.lt_irrefl 0)⟩, Nat.le_refl _, Nat.zero_le _, fun s hs => by cases hs⟩
  · have hc : c = .slice (some a) len cap := by injection hcs
    have hlm : len ≤ m := by rw [hmm]; split <;> omega
    have key : ∀ i, i < len → ∃ s cs, cs.length = d.sz ∧ d.K w s cs ∧ Q s ∧ ∀ j u, cs[j]? = some u → w.cell? (a.add (i * d.sz + j)) = some u := by
      intro i hil
      obtain ⟨cs', hcells, htr⟩ := hi i (by omega)
      rw [hsz] at hcells
      obtain ⟨_, hcl, hat⟩ := World.cells?_some hcells
      obtain ⟨s, hk, hq⟩ := hel n' cs' _ (by rw [hsz]; exact hcl) htr
      refine ⟨s, cs', hcl, hk, hq, fun j u hu => ?_⟩
      have hj : j < cs'.length := (List.getElem?_eq_some_iff.1 hu).1
      have := hat j (by omega)
      rw [Go.Deep.add_add] at this
      rw [this]; exact hu
    have ex : ∃ l : List α, l.length = len ∧ ∀ i s, l[i]? = some s → Q s ∧ ∃ cs, cs.length = d.sz ∧ d.K w s cs ∧ ∀ j u, cs[j]? = some u → w.cell? (a.add (i * d.sz + j)) = some u := by
      clear hi hc hl hm hmm hlm hcs hx
      induction len with
      | zero => exact ⟨[], rfl, fun i s hs => by simp at hs⟩
      | succ len ih =>
        obtain ⟨l, hll, hl⟩ := ih (fun i hil => key i (by omega))
        obtain ⟨s, cs, h1, h2, h3, h4⟩ := key len (by omega)
        refine ⟨l ++ [s], by simp [hll], fun i z hz => ?_⟩
        rcases Nat.lt_or_ge i l.length with hlt | hge
        · rw [List.getElem?_append_left hlt] at hz
          exact hl i z hz
        · have hi : i = len := by
            have := (List.getElem?_eq_some_iff.1 hz).1
            rw [List.length_append, List.length_singleton] at this
            omega
          subst hi
          rw [List.getElem?_append_right hge, hll, Nat.sub_self] at hz
          have : s = z := by simpa using hz
          subst this
          exact ⟨h3, cs, h1, h2, h4⟩
    obtain ⟨l, hll, hl'⟩ := ex
    refine ⟨some a, cap, l, by rw [hll]; exact hc, ⟨rfl, by rw [hll]; unfold maxLen at hm; omega, fun _ => ⟨a, rfl, fun j p hj => ?_⟩⟩, by omega, by omega, fun s hs => ?_⟩
    · obtain ⟨_, cs, h1, h2, h4⟩ := hl' j p hj
      exact ⟨cs, h1, h2, h4⟩
    · obtain ⟨i, hi'⟩ := List.getElem?_of_mem hs
      exact (hl' i s hi').1
theorem leaf_ints {k : IntKind} (ht : P.underlying t = some (.slice e)) (he : P.underlying e = some (.int k)) (hc1 : P.cellsOf e = 1) (h : DataW.trod enc P w base spare held n t [c] = some x) :
    ∃ (A : Option Addr) (cap : Nat) (l : List Int), c = .slice A l.length cap ∧ Kd.C (Kd.int k) w A l.length l ∧ l.length ≤ cap ∧ l.length ≤ maxLen ∧ ∀ z ∈ l, (Lit.int k z).wf = true :=
  leaf_rows (d := Kd.int k) (fun z => (Lit.int k z).wf = true) ht hc1 (fun n cs y hcs hy => by
    obtain ⟨a, rfl, _, hw⟩ := DataW.trod_int he hy
    exact ⟨a, rfl, hw⟩) h
/-- A struct's field, as a reading of its own cells. -/
theorem leaf_field {fs : Array Field} {cs : List Value} (ht : P.underlying t = some (.struct fs)) (h : DataW.trod enc P w base spare held n t cs = some x) :
    ∃ m, ∀ (i : Nat) (f : Field), fs[i]? = some f → ∃ y, DataW.trod enc P w base spare held m f.type ((cs.drop f.offset).take (P.cellsOf f.type)) = some y := by
  obtain ⟨xs, m, _, _, _, hlen, hg⟩ := DataW.trod_struct ht h
  refine ⟨m, fun i f hf => ?_⟩
  have hi : i < fs.size := (Array.getElem?_eq_some_iff.1 hf).1
  exact ⟨_, (hg i f hf).trans (List.getElem?_eq_getElem (by omega))⟩
end
end Go.Proofs.Ytdblpflepfcnjaa.L
end
