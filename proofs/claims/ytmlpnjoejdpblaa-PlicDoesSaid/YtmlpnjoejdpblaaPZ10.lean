import Derived.Test.YtmlpnjoejdpblaaPZ1
import Derived.Test.YtmlpnjoejdpblaaPZ9
import Derived.Deep.DeepCutAuto
import Derived.RegionTactic
import Derived.BigRegion
import Derived.Test.YtmlpnjoejdpblaaPZ8
import Derived.Test.YtmlpnjoejdpblaaPZ2
import Derived.Test.YtmlpnjoejdpblaaPZ5
import Derived.Test.YtmlpnjoejdpblaaPZ7
import Derived.Test.YtmlpnjoejdpblaaPXQx5
import Derived.Test.YtmlpnjoejdpblaaPXQx8
import Derived.Test.YtmlpnjoejdpblaaPXQx2
section
/- The document's Store, claims given back. -/
namespace Go.Proofs.Ytmlpnjoejdpblaa.Q
open Go.RowKit Go.Proofs.YtmlpnjoejdpblaaW.PrintWords Go.Proofs.YtmlpnjoejdpblaaW.PrintLast Go.Proofs.YtmlpnjoejdpblaaW.PrintMore Go.Proofs.Ytmlpnjoejdpblaa.L
attribute [local go_sem] Instr.field part asAgg lt_step max2_int min2_int max_two min_two max_three min_three max_four min_four lt_0_1 lt_0_2 lt_1_2 lt_0_3 lt_1_3 lt_2_3 lt_0_4 lt_1_4 lt_2_4 lt_3_4 lt_0_5 lt_1_5 lt_2_5 lt_3_5 lt_4_5 lt_0_6 lt_1_6 lt_2_6 lt_3_6 lt_4_6 lt_5_6 lt_0_7 lt_1_7 lt_2_7 lt_3_7 lt_4_7 lt_5_7 lt_6_7 lt_0_8 lt_1_8 lt_2_8 lt_3_8 lt_4_8 lt_5_8 lt_6_8 lt_7_8
set_option linter.unusedVariables false
set_option linter.unusedSimpArgs false
set_option maxHeartbeats 1600000 in
set_option maxRecDepth 100000 in
theorem rstore_c00n (p : Pd) (v : Pv) (size : Int) (x : Int) (w : World) (ok : Nat → Prop) (hF : PF w ok p v) (ho : OKP p) (hk : ckP p = true) (hs : size = 4) (h1 : (x.tmod 4294967296 == 1) = false) (h2 : (x.tmod 4294967296 == 2) = false) :
    Calls Try.prog 14 #[.agg (PC p v), .int .u64 2097156, .int .i64 size, .int .u64 x] w fun e w' => ∃ v' : Pv, e = .returned (.tuple #[.agg (PC p v'), .bool true]) ∧ PF w' (fun j => ok j ∨ w.heap.size ≤ j) p v' ∧ Below w.heap.size w w' := by
  subst hs
  have HK := Aside0.mk hk
  obtain ⟨hl0, hl3, hl4, _⟩ := check_len hk
  clear hk hl0 hl3 hl4
  have hw512 : IntKind.u64.wrap 512 = 512 := by decide
  have hw0 : IntKind.u64.wrap 0 = 0 := by decide
  have HB := Aside0.mk (Below.refl w.heap.size w)
  have HF := Aside0.mk hF.bound
  have HO := Aside0.mk ho
  have hu := Try.underlying24
  clear hF ho
  go_enter Try.func14, Try.ntmps14
  go_upto_region 1 with fail
  obtain ⟨wa, hwa, on0, pn0, hb_, hz0⟩ := letter2 w (.cells (PC p v) 24 (0, 0)) (.cells PZ 24 (0, 0))
  unfold PZ at hwa
  rw [hwa]
  clear hwa
  have hzwa := Nat.le_of_eq hz0.symm
  clear hz0
  have on := Aside0.mk on0
  have pn := Aside0.mk pn0
  clear on0 pn0
  obtain ⟨onc, onf, onl⟩ := cells_of on.out
  obtain ⟨pnc, pnf, pnl⟩ := cells_of pn.out
  have HB_ : Aside0 (Below w.heap.size w wa) := ⟨hb_⟩
  have HF_ : Aside0 (PF wa (fun j => (ok j ∨ w.heap.size ≤ j) ∧ j ≠ w.heap.size ∧ j ≠ w.heap.size + 1) p v) := ⟨(HF.out.below hb_).mono (fun j hj => ⟨.inl hj.1, by have h_ := hj.2; omega, by have h_ := hj.2; omega⟩)⟩
  clear HB HF hb_; have HB := HB_; have HF := HF_; clear HB_ HF_
  go_wp2_with (first | ((with_reducible refine gate_dst (N := 11) rfl ?_); (try (refine gate_guard (by rfl) ?_; dsimp only)); refine wpList_load_row rfl 24 _ rfl _ (by rfl) _ (PC p v) _ _ (eG on) Try.underlying24 rfl infPC ?_))
  (go_at_call 18; (with_reducible refine (rcheck_c HF.out HO.out true HK.out).mono ?_); rintro e_ w1 ⟨rfl, hb_⟩; have HB_ : Aside0 (Below w.heap.size w w1) := Aside0.mk (below_step (bG HB) hb_); have hzw1 := hb_.size; (try simp at hzw1); have on_ := Aside0.mk (box_below hb_ (eG on)); have pn_ := Aside0.mk (box_below hb_ (eG pn)); (try clear on onc onf onl); have on := on_; clear on_; obtain ⟨onc, onf, onl⟩ := cells_of on.out; (try clear pn pnc pnf pnl); have pn := pn_; clear pn_; obtain ⟨pnc, pnf, pnl⟩ := cells_of pn.out; have HF_ := Aside0.mk (PF.below (by repeat (with_reducible first | exact HF.out | apply PF.drew | apply PF.drewN | apply PF.alloc)) hb_); clear HF; have HF := HF_; clear HF_; clear HB hb_; have HB := HB_; clear HB_)
  go_upto_region 20 with fail
  have HM := HF
  clear HF
  go_wp2_with (first | ((with_reducible refine gate_dst (N := 91) rfl ?_); (try (refine gate_guard (by rfl) ?_; dsimp only)); refine wpList_load_row rfl 24 _ rfl _ (by rfl) _ (PC p v) _ _ (eG on) Try.underlying24 rfl infPC ?_) | ((with_reducible refine gate_store (t := 24) (p := 8) (v := .tmp 91) rfl ?_); refine wpList_store_all rfl 24 _ _ rfl rfl _ (PC p v) (by rfl) (by rfl) _ _ pn.out rfl infPC (HM.out.one) ?_; rintro w8 ⟨hx_, hk_, hb_, hzz_⟩; have HB_ : Aside0 (Below w.heap.size w w8) := Aside0.mk (Below.trans (bG HB) (Below.mono hb_ (by first | omega | (simp only [sz_alloc, sz_drew, sz_drewN]; omega)))); have hzw8 := hzz_; (try simp at hzw8); clear hzz_; have on_ := Aside0.mk (st_put on.out hk_ (fun h_ => (by repeat (with_reducible first | exact h_ | apply ext_drew | apply ext_drewN | apply ext_alloc | refine blk_far ?_ (by show _ ≠ _; dsimp only; omega) _))) (by omega)); clear on onc onf onl; have on := on_; clear on_; obtain ⟨onc, onf, onl⟩ := cells_of on.out; (first | (have HM_ := Aside0.mk (PF.step HM.out (fun j hj _ => hk_ j (hj.2.2)))) | (have HM_ := Aside0.mk (PF.step (PF.alloc HM.out _) (fun j hj _ => hk_ j (hj.2.2))))); clear HM; have HM := HM_; clear HM_; (try clear pn pnc pnf pnl); have pn := Aside0.mk hx_; obtain ⟨pnc, pnf, pnl⟩ := cells_of pn.out; clear HB hb_ hk_ hx_; have HB := HB_; clear HB_))
  refine bodyPost_ret (results_ct rfl _ _ (w.heap.size + 1) 24 (PC p v) (0, 0) _ rfl pn.out Try.underlying24 rfl infPC) rfl ⟨v, rfl, HM.out.mono (fun j hj => hj.1), (bG HB)⟩
set_option maxHeartbeats 1600000 in
set_option maxRecDepth 100000 in
theorem rstore_c01y (p : Pd) (v : Pv) (size : Int) (x : Int) (w : World) (ok : Nat → Prop) (hF : PF w ok p v) (ho : OKP p) (hk : ckP p = true) (hs : size = 4) (hY : x.tmod 4294967296 = 1) (hb : (Go.bits .and .i64 (rd p.q3 0) 2 != 0) = true) :
    Calls Try.prog 14 #[.agg (PC p v), .int .u64 2097156, .int .i64 size, .int .u64 x] w fun e w' => ∃ v' : Pv, e = .returned (.tuple #[.agg (PC ({ p with y := Go.bits .andNot .i64 p.y 2 } : Pd) v'), .bool true]) ∧ PF w' (fun j => ok j ∨ w.heap.size ≤ j) ({ p with y := Go.bits .andNot .i64 p.y 2 } : Pd) v' ∧ Below w.heap.size w w' := by
  subst hs
  have HK := Aside0.mk hk
  obtain ⟨hl0, hl3, hl4, _⟩ := check_len hk
  have hix : (0 : Int) < (p.q3.length : Int) := by omega
  have hixn : 0 < p.q3.length := by omega
  have HIX := Aside0.mk hixn
  obtain ⟨ab, ao, cc, e0⟩ := hF.p3.addr (by omega)
  have HE := Aside0.mk e0
  clear e0
  clear hk hl0 hl3 hl4
  have hw512 : IntKind.u64.wrap 512 = 512 := by decide
  have hw0 : IntKind.u64.wrap 0 = 0 := by decide
  have HB := Aside0.mk (Below.refl w.heap.size w)
  have HF := Aside0.mk hF.bound
  have HO := Aside0.mk ho
  have hu := Try.underlying24
  clear hF ho
  go_enter Try.func14, Try.ntmps14
  go_upto_region 1 with fail
  obtain ⟨wa, hwa, on0, pn0, hb_, hz0⟩ := letter2 w (.cells (PC p v) 24 (0, 0)) (.cells PZ 24 (0, 0))
  unfold PZ at hwa
  rw [hwa]
  clear hwa
  have hzwa := Nat.le_of_eq hz0.symm
  clear hz0
  have on := Aside0.mk on0
  have pn := Aside0.mk pn0
  clear on0 pn0
  obtain ⟨onc, onf, onl⟩ := cells_of on.out
  obtain ⟨pnc, pnf, pnl⟩ := cells_of pn.out
  have HB_ : Aside0 (Below w.heap.size w wa) := ⟨hb_⟩
  have HF_ : Aside0 (PF wa (fun j => (ok j ∨ w.heap.size ≤ j) ∧ j ≠ w.heap.size ∧ j ≠ w.heap.size + 1) p v) := ⟨(HF.out.below hb_).mono (fun j hj => ⟨.inl hj.1, by have h_ := hj.2; omega, by have h_ := hj.2; omega⟩)⟩
  clear HB HF hb_; have HB := HB_; have HF := HF_; clear HB_ HF_
  go_wp2_with (first | ((with_reducible refine gate_dst (N := 11) rfl ?_); (try (refine gate_guard (by rfl) ?_; dsimp only)); refine wpList_load_row rfl 24 _ rfl _ (by rfl) _ (PC p v) _ _ (eG on) Try.underlying24 rfl infPC ?_))
  (go_at_call 18; (with_reducible refine (rcheck_c HF.out HO.out true HK.out).mono ?_); rintro e_ w1 ⟨rfl, hb_⟩; have HB_ : Aside0 (Below w.heap.size w w1) := Aside0.mk (below_step (bG HB) hb_); have hzw1 := hb_.size; (try simp at hzw1); have on_ := Aside0.mk (box_below hb_ (eG on)); have pn_ := Aside0.mk (box_below hb_ (eG pn)); (try clear on onc onf onl); have on := on_; clear on_; obtain ⟨onc, onf, onl⟩ := cells_of on.out; (try clear pn pnc pnf pnl); have pn := pn_; clear pn_; obtain ⟨pnc, pnf, pnl⟩ := cells_of pn.out; have HF_ := Aside0.mk (PF.below (by repeat (with_reducible first | exact HF.out | apply PF.drew | apply PF.drewN | apply PF.alloc)) hb_); clear HF; have HF := HF_; clear HF_; clear HB hb_; have HB := HB_; clear HB_)
  have hc : w1.cell? ⟨w.heap.size, 3, none⟩ = some (.slice (some ⟨ab, ao, none⟩) p.q3.length cc) := ((onc 3).trans (show (PC p v)[3]? = some v.p3 from rfl)).trans (congrArg some HE.out)
  have he : w1.cell? ⟨ab, ao, none⟩ = some (.int .i64 (rd p.q3 0)) := SL.at HF.out.p3 HE.out 0 HIX.out
  have hc2 : w1.cell? ⟨w.heap.size, 2, none⟩ = some (.int .i64 p.y) := onc 2
  have hf2 := onf 2
  clear onc
  have onc := trivial
  go_upto_region 20 with fail
  (have pn_ := Aside0.mk (blk_far (p := ⟨w.heap.size, 2, none⟩) pn.out (by show _ ≠ _; dsimp only; omega) (.int .i64 (Go.bits .andNot .i64 p.y 2))); clear pn pnc pnf pnl; have pn := pn_; clear pn_; obtain ⟨pnc, pnf, pnl⟩ := cells_of pn.out; have on_ := Aside0.mk (blk_put on.out 2 (.int .i64 (Go.bits .andNot .i64 p.y 2)) (cs' := (PC ({ p with y := Go.bits .andNot .i64 p.y 2 } : Pd) v)) rfl); clear on onc onf onl; have on := on_; clear on_; obtain ⟨onc, onf, onl⟩ := cells_of on.out)
  have HM : Aside0 (PF (w1.setCell ⟨w.heap.size, 2, none⟩ (.int .i64 (Go.bits .andNot .i64 p.y 2))) (fun j => (ok j ∨ w.heap.size ≤ j) ∧ j ≠ w.heap.size ∧ j ≠ w.heap.size + 1) ({ p with y := Go.bits .andNot .i64 p.y 2 } : Pd) v) := ⟨PF.step (show PF w1 (fun j => (ok j ∨ w.heap.size ≤ j) ∧ j ≠ w.heap.size ∧ j ≠ w.heap.size + 1) ({ p with y := Go.bits .andNot .i64 p.y 2 } : Pd) v from ⟨HF.out.p0, HF.out.p3, HF.out.p4⟩) (fun j hj _ => Below.heap_setCell w1 ⟨w.heap.size, 2, none⟩ (.int .i64 (Go.bits .andNot .i64 p.y 2)) j hj.2.1)⟩
  clear HF
  go_wp2_with (first | ((with_reducible refine gate_dst (N := 91) rfl ?_); (try (refine gate_guard (by rfl) ?_; dsimp only)); refine wpList_load_row rfl 24 _ rfl _ (by rfl) _ (PC ({ p with y := Go.bits .andNot .i64 p.y 2 } : Pd) v) _ _ (eG on) Try.underlying24 rfl infPC ?_) | ((with_reducible refine gate_store (t := 24) (p := 8) (v := .tmp 91) rfl ?_); refine wpList_store_all rfl 24 _ _ rfl rfl _ (PC ({ p with y := Go.bits .andNot .i64 p.y 2 } : Pd) v) (by rfl) (by rfl) _ _ pn.out rfl infPC (HM.out.one) ?_; rintro w8 ⟨hx_, hk_, hb_, hzz_⟩; have HB_ : Aside0 (Below w.heap.size w w8) := Aside0.mk (Below.trans (bG HB) (Below.mono hb_ (by first | omega | (simp only [sz_alloc, sz_drew, sz_drewN]; omega)))); have hzw8 := hzz_; (try simp at hzw8); clear hzz_; have on_ := Aside0.mk (st_put on.out hk_ (fun h_ => (by repeat (with_reducible first | exact h_ | apply ext_drew | apply ext_drewN | apply ext_alloc | refine blk_far ?_ (by show _ ≠ _; dsimp only; omega) _))) (by omega)); clear on onc onf onl; have on := on_; clear on_; obtain ⟨onc, onf, onl⟩ := cells_of on.out; (first | (have HM_ := Aside0.mk (PF.step HM.out (fun j hj _ => hk_ j (hj.2.2)))) | (have HM_ := Aside0.mk (PF.step (PF.alloc HM.out _) (fun j hj _ => hk_ j (hj.2.2))))); clear HM; have HM := HM_; clear HM_; (try clear pn pnc pnf pnl); have pn := Aside0.mk hx_; obtain ⟨pnc, pnf, pnl⟩ := cells_of pn.out; clear HB hb_ hk_ hx_; have HB := HB_; clear HB_))
  refine bodyPost_ret (results_ct rfl _ _ (w.heap.size + 1) 24 (PC ({ p with y := Go.bits .andNot .i64 p.y 2 } : Pd) v) (0, 0) _ rfl pn.out Try.underlying24 rfl infPC) rfl ⟨v, rfl, HM.out.mono (fun j hj => hj.1), (bG HB)⟩
set_option maxHeartbeats 1600000 in
set_option maxRecDepth 100000 in
theorem rstore_c01n (p : Pd) (v : Pv) (size : Int) (x : Int) (w : World) (ok : Nat → Prop) (hF : PF w ok p v) (ho : OKP p) (hk : ckP p = true) (hs : size = 4) (hY : x.tmod 4294967296 = 1) (hb : (Go.bits .and .i64 (rd p.q3 0) 2 != 0) = false) :
    Calls Try.prog 14 #[.agg (PC p v), .int .u64 2097156, .int .i64 size, .int .u64 x] w fun e w' => ∃ v' : Pv, e = .returned (.tuple #[.agg (PC p v'), .bool true]) ∧ PF w' (fun j => ok j ∨ w.heap.size ≤ j) p v' ∧ Below w.heap.size w w' := by
  subst hs
  have HK := Aside0.mk hk
  obtain ⟨hl0, hl3, hl4, _⟩ := check_len hk
  have hix : (0 : Int) < (p.q3.length : Int) := by omega
  have hixn : 0 < p.q3.length := by omega
  have HIX := Aside0.mk hixn
  obtain ⟨ab, ao, cc, e0⟩ := hF.p3.addr (by omega)
  have HE := Aside0.mk e0
  clear e0
  clear hk hl0 hl3 hl4
  have hw512 : IntKind.u64.wrap 512 = 512 := by decide
  have hw0 : IntKind.u64.wrap 0 = 0 := by decide
  have HB := Aside0.mk (Below.refl w.heap.size w)
  have HF := Aside0.mk hF.bound
  have HO := Aside0.mk ho
  have hu := Try.underlying24
  clear hF ho
  go_enter Try.func14, Try.ntmps14
  go_upto_region 1 with fail
  obtain ⟨wa, hwa, on0, pn0, hb_, hz0⟩ := letter2 w (.cells (PC p v) 24 (0, 0)) (.cells PZ 24 (0, 0))
  unfold PZ at hwa
  rw [hwa]
  clear hwa
  have hzwa := Nat.le_of_eq hz0.symm
  clear hz0
  have on := Aside0.mk on0
  have pn := Aside0.mk pn0
  clear on0 pn0
  obtain ⟨onc, onf, onl⟩ := cells_of on.out
  obtain ⟨pnc, pnf, pnl⟩ := cells_of pn.out
  have HB_ : Aside0 (Below w.heap.size w wa) := ⟨hb_⟩
  have HF_ : Aside0 (PF wa (fun j => (ok j ∨ w.heap.size ≤ j) ∧ j ≠ w.heap.size ∧ j ≠ w.heap.size + 1) p v) := ⟨(HF.out.below hb_).mono (fun j hj => ⟨.inl hj.1, by have h_ := hj.2; omega, by have h_ := hj.2; omega⟩)⟩
  clear HB HF hb_; have HB := HB_; have HF := HF_; clear HB_ HF_
  go_wp2_with (first | ((with_reducible refine gate_dst (N := 11) rfl ?_); (try (refine gate_guard (by rfl) ?_; dsimp only)); refine wpList_load_row rfl 24 _ rfl _ (by rfl) _ (PC p v) _ _ (eG on) Try.underlying24 rfl infPC ?_))
  (go_at_call 18; (with_reducible refine (rcheck_c HF.out HO.out true HK.out).mono ?_); rintro e_ w1 ⟨rfl, hb_⟩; have HB_ : Aside0 (Below w.heap.size w w1) := Aside0.mk (below_step (bG HB) hb_); have hzw1 := hb_.size; (try simp at hzw1); have on_ := Aside0.mk (box_below hb_ (eG on)); have pn_ := Aside0.mk (box_below hb_ (eG pn)); (try clear on onc onf onl); have on := on_; clear on_; obtain ⟨onc, onf, onl⟩ := cells_of on.out; (try clear pn pnc pnf pnl); have pn := pn_; clear pn_; obtain ⟨pnc, pnf, pnl⟩ := cells_of pn.out; have HF_ := Aside0.mk (PF.below (by repeat (with_reducible first | exact HF.out | apply PF.drew | apply PF.drewN | apply PF.alloc)) hb_); clear HF; have HF := HF_; clear HF_; clear HB hb_; have HB := HB_; clear HB_)
  have hc : w1.cell? ⟨w.heap.size, 3, none⟩ = some (.slice (some ⟨ab, ao, none⟩) p.q3.length cc) := ((onc 3).trans (show (PC p v)[3]? = some v.p3 from rfl)).trans (congrArg some HE.out)
  have he : w1.cell? ⟨ab, ao, none⟩ = some (.int .i64 (rd p.q3 0)) := SL.at HF.out.p3 HE.out 0 HIX.out
  clear onc
  have onc := trivial
  go_upto_region 20 with fail
  have HM := HF
  clear HF
  go_wp2_with (first | ((with_reducible refine gate_dst (N := 91) rfl ?_); (try (refine gate_guard (by rfl) ?_; dsimp only)); refine wpList_load_row rfl 24 _ rfl _ (by rfl) _ (PC p v) _ _ (eG on) Try.underlying24 rfl infPC ?_) | ((with_reducible refine gate_store (t := 24) (p := 8) (v := .tmp 91) rfl ?_); refine wpList_store_all rfl 24 _ _ rfl rfl _ (PC p v) (by rfl) (by rfl) _ _ pn.out rfl infPC (HM.out.one) ?_; rintro w8 ⟨hx_, hk_, hb_, hzz_⟩; have HB_ : Aside0 (Below w.heap.size w w8) := Aside0.mk (Below.trans (bG HB) (Below.mono hb_ (by first | omega | (simp only [sz_alloc, sz_drew, sz_drewN]; omega)))); have hzw8 := hzz_; (try simp at hzw8); clear hzz_; have on_ := Aside0.mk (st_put on.out hk_ (fun h_ => (by repeat (with_reducible first | exact h_ | apply ext_drew | apply ext_drewN | apply ext_alloc | refine blk_far ?_ (by show _ ≠ _; dsimp only; omega) _))) (by omega)); clear on onc onf onl; have on := on_; clear on_; obtain ⟨onc, onf, onl⟩ := cells_of on.out; (first | (have HM_ := Aside0.mk (PF.step HM.out (fun j hj _ => hk_ j (hj.2.2)))) | (have HM_ := Aside0.mk (PF.step (PF.alloc HM.out _) (fun j hj _ => hk_ j (hj.2.2))))); clear HM; have HM := HM_; clear HM_; (try clear pn pnc pnf pnl); have pn := Aside0.mk hx_; obtain ⟨pnc, pnf, pnl⟩ := cells_of pn.out; clear HB hb_ hk_ hx_; have HB := HB_; clear HB_))
  refine bodyPost_ret (results_ct rfl _ _ (w.heap.size + 1) 24 (PC p v) (0, 0) _ rfl pn.out Try.underlying24 rfl infPC) rfl ⟨v, rfl, HM.out.mono (fun j hj => hj.1), (bG HB)⟩
set_option maxHeartbeats 1600000 in
set_option maxRecDepth 100000 in
theorem rstore_c02y (p : Pd) (v : Pv) (size : Int) (x : Int) (w : World) (ok : Nat → Prop) (hF : PF w ok p v) (ho : OKP p) (hk : ckP p = true) (hs : size = 4) (hY : x.tmod 4294967296 = 2) (hb : (Go.bits .and .i64 (rd p.q3 0) 4 != 0) = true) :
    Calls Try.prog 14 #[.agg (PC p v), .int .u64 2097156, .int .i64 size, .int .u64 x] w fun e w' => ∃ v' : Pv, e = .returned (.tuple #[.agg (PC ({ p with y := Go.bits .andNot .i64 p.y 4 } : Pd) v'), .bool true]) ∧ PF w' (fun j => ok j ∨ w.heap.size ≤ j) ({ p with y := Go.bits .andNot .i64 p.y 4 } : Pd) v' ∧ Below w.heap.size w w' := by
  subst hs
  have HK := Aside0.mk hk
  obtain ⟨hl0, hl3, hl4, _⟩ := check_len hk
  have hix : (0 : Int) < (p.q3.length : Int) := by omega
  have hixn : 0 < p.q3.length := by omega
  have HIX := Aside0.mk hixn
  obtain ⟨ab, ao, cc, e0⟩ := hF.p3.addr (by omega)
  have HE := Aside0.mk e0
  clear e0
  clear hk hl0 hl3 hl4
  have hw512 : IntKind.u64.wrap 512 = 512 := by decide
  have hw0 : IntKind.u64.wrap 0 = 0 := by decide
  have HB := Aside0.mk (Below.refl w.heap.size w)
  have HF := Aside0.mk hF.bound
  have HO := Aside0.mk ho
  have hu := Try.underlying24
  clear hF ho
  go_enter Try.func14, Try.ntmps14
  go_upto_region 1 with fail
  obtain ⟨wa, hwa, on0, pn0, hb_, hz0⟩ := letter2 w (.cells (PC p v) 24 (0, 0)) (.cells PZ 24 (0, 0))
  unfold PZ at hwa
  rw [hwa]
  clear hwa
  have hzwa := Nat.le_of_eq hz0.symm
  clear hz0
  have on := Aside0.mk on0
  have pn := Aside0.mk pn0
  clear on0 pn0
  obtain ⟨onc, onf, onl⟩ := cells_of on.out
  obtain ⟨pnc, pnf, pnl⟩ := cells_of pn.out
  have HB_ : Aside0 (Below w.heap.size w wa) := ⟨hb_⟩
  have HF_ : Aside0 (PF wa (fun j => (ok j ∨ w.heap.size ≤ j) ∧ j ≠ w.heap.size ∧ j ≠ w.heap.size + 1) p v) := ⟨(HF.out.below hb_).mono (fun j hj => ⟨.inl hj.1, by have h_ := hj.2; omega, by have h_ := hj.2; omega⟩)⟩
  clear HB HF hb_; have HB := HB_; have HF := HF_; clear HB_ HF_
  go_wp2_with (first | ((with_reducible refine gate_dst (N := 11) rfl ?_); (try (refine gate_guard (by rfl) ?_; dsimp only)); refine wpList_load_row rfl 24 _ rfl _ (by rfl) _ (PC p v) _ _ (eG on) Try.underlying24 rfl infPC ?_))
  (go_at_call 18; (with_reducible refine (rcheck_c HF.out HO.out true HK.out).mono ?_); rintro e_ w1 ⟨rfl, hb_⟩; have HB_ : Aside0 (Below w.heap.size w w1) := Aside0.mk (below_step (bG HB) hb_); have hzw1 := hb_.size; (try simp at hzw1); have on_ := Aside0.mk (box_below hb_ (eG on)); have pn_ := Aside0.mk (box_below hb_ (eG pn)); (try clear on onc onf onl); have on := on_; clear on_; obtain ⟨onc, onf, onl⟩ := cells_of on.out; (try clear pn pnc pnf pnl); have pn := pn_; clear pn_; obtain ⟨pnc, pnf, pnl⟩ := cells_of pn.out; have HF_ := Aside0.mk (PF.below (by repeat (with_reducible first | exact HF.out | apply PF.drew | apply PF.drewN | apply PF.alloc)) hb_); clear HF; have HF := HF_; clear HF_; clear HB hb_; have HB := HB_; clear HB_)
  have hc : w1.cell? ⟨w.heap.size, 3, none⟩ = some (.slice (some ⟨ab, ao, none⟩) p.q3.length cc) := ((onc 3).trans (show (PC p v)[3]? = some v.p3 from rfl)).trans (congrArg some HE.out)
  have he : w1.cell? ⟨ab, ao, none⟩ = some (.int .i64 (rd p.q3 0)) := SL.at HF.out.p3 HE.out 0 HIX.out
  have hc2 : w1.cell? ⟨w.heap.size, 2, none⟩ = some (.int .i64 p.y) := onc 2
  have hf2 := onf 2
  clear onc
  have onc := trivial
  go_upto_region 20 with fail
  (have pn_ := Aside0.mk (blk_far (p := ⟨w.heap.size, 2, none⟩) pn.out (by show _ ≠ _; dsimp only; omega) (.int .i64 (Go.bits .andNot .i64 p.y 4))); clear pn pnc pnf pnl; have pn := pn_; clear pn_; obtain ⟨pnc, pnf, pnl⟩ := cells_of pn.out; have on_ := Aside0.mk (blk_put on.out 2 (.int .i64 (Go.bits .andNot .i64 p.y 4)) (cs' := (PC ({ p with y := Go.bits .andNot .i64 p.y 4 } : Pd) v)) rfl); clear on onc onf onl; have on := on_; clear on_; obtain ⟨onc, onf, onl⟩ := cells_of on.out)
  have HM : Aside0 (PF (w1.setCell ⟨w.heap.size, 2, none⟩ (.int .i64 (Go.bits .andNot .i64 p.y 4))) (fun j => (ok j ∨ w.heap.size ≤ j) ∧ j ≠ w.heap.size ∧ j ≠ w.heap.size + 1) ({ p with y := Go.bits .andNot .i64 p.y 4 } : Pd) v) := ⟨PF.step (show PF w1 (fun j => (ok j ∨ w.heap.size ≤ j) ∧ j ≠ w.heap.size ∧ j ≠ w.heap.size + 1) ({ p with y := Go.bits .andNot .i64 p.y 4 } : Pd) v from ⟨HF.out.p0, HF.out.p3, HF.out.p4⟩) (fun j hj _ => Below.heap_setCell w1 ⟨w.heap.size, 2, none⟩ (.int .i64 (Go.bits .andNot .i64 p.y 4)) j hj.2.1)⟩
  clear HF
  go_wp2_with (first | ((with_reducible refine gate_dst (N := 91) rfl ?_); (try (refine gate_guard (by rfl) ?_; dsimp only)); refine wpList_load_row rfl 24 _ rfl _ (by rfl) _ (PC ({ p with y := Go.bits .andNot .i64 p.y 4 } : Pd) v) _ _ (eG on) Try.underlying24 rfl infPC ?_) | ((with_reducible refine gate_store (t := 24) (p := 8) (v := .tmp 91) rfl ?_); refine wpList_store_all rfl 24 _ _ rfl rfl _ (PC ({ p with y := Go.bits .andNot .i64 p.y 4 } : Pd) v) (by rfl) (by rfl) _ _ pn.out rfl infPC (HM.out.one) ?_; rintro w8 ⟨hx_, hk_, hb_, hzz_⟩; have HB_ : Aside0 (Below w.heap.size w w8) := Aside0.mk (Below.trans (bG HB) (Below.mono hb_ (by first | omega | (simp only [sz_alloc, sz_drew, sz_drewN]; omega)))); have hzw8 := hzz_; (try simp at hzw8); clear hzz_; have on_ := Aside0.mk (st_put on.out hk_ (fun h_ => (by repeat (with_reducible first | exact h_ | apply ext_drew | apply ext_drewN | apply ext_alloc | refine blk_far ?_ (by show _ ≠ _; dsimp only; omega) _))) (by omega)); clear on onc onf onl; have on := on_; clear on_; obtain ⟨onc, onf, onl⟩ := cells_of on.out; (first | (have HM_ := Aside0.mk (PF.step HM.out (fun j hj _ => hk_ j (hj.2.2)))) | (have HM_ := Aside0.mk (PF.step (PF.alloc HM.out _) (fun j hj _ => hk_ j (hj.2.2))))); clear HM; have HM := HM_; clear HM_; (try clear pn pnc pnf pnl); have pn := Aside0.mk hx_; obtain ⟨pnc, pnf, pnl⟩ := cells_of pn.out; clear HB hb_ hk_ hx_; have HB := HB_; clear HB_))
  refine bodyPost_ret (results_ct rfl _ _ (w.heap.size + 1) 24 (PC ({ p with y := Go.bits .andNot .i64 p.y 4 } : Pd) v) (0, 0) _ rfl pn.out Try.underlying24 rfl infPC) rfl ⟨v, rfl, HM.out.mono (fun j hj => hj.1), (bG HB)⟩
set_option maxHeartbeats 1600000 in
set_option maxRecDepth 100000 in
theorem rstore_c02n (p : Pd) (v : Pv) (size : Int) (x : Int) (w : World) (ok : Nat → Prop) (hF : PF w ok p v) (ho : OKP p) (hk : ckP p = true) (hs : size = 4) (hY : x.tmod 4294967296 = 2) (hb : (Go.bits .and .i64 (rd p.q3 0) 4 != 0) = false) :
    Calls Try.prog 14 #[.agg (PC p v), .int .u64 2097156, .int .i64 size, .int .u64 x] w fun e w' => ∃ v' : Pv, e = .returned (.tuple #[.agg (PC p v'), .bool true]) ∧ PF w' (fun j => ok j ∨ w.heap.size ≤ j) p v' ∧ Below w.heap.size w w' := by
  subst hs
  have HK := Aside0.mk hk
  obtain ⟨hl0, hl3, hl4, _⟩ := check_len hk
  have hix : (0 : Int) < (p.q3.length : Int) := by omega
  have hixn : 0 < p.q3.length := by omega
  have HIX := Aside0.mk hixn
  obtain ⟨ab, ao, cc, e0⟩ := hF.p3.addr (by omega)
  have HE := Aside0.mk e0
  clear e0
  clear hk hl0 hl3 hl4
  have hw512 : IntKind.u64.wrap 512 = 512 := by decide
  have hw0 : IntKind.u64.wrap 0 = 0 := by decide
  have HB := Aside0.mk (Below.refl w.heap.size w)
  have HF := Aside0.mk hF.bound
  have HO := Aside0.mk ho
  have hu := Try.underlying24
  clear hF ho
  go_enter Try.func14, Try.ntmps14
  go_upto_region 1 with fail
  obtain ⟨wa, hwa, on0, pn0, hb_, hz0⟩ := letter2 w (.cells (PC p v) 24 (0, 0)) (.cells PZ 24 (0, 0))
  unfold PZ at hwa
  rw [hwa]
  clear hwa
  have hzwa := Nat.le_of_eq hz0.symm
  clear hz0
  have on := Aside0.mk on0
  have pn := Aside0.mk pn0
  clear on0 pn0
  obtain ⟨onc, onf, onl⟩ := cells_of on.out
  obtain ⟨pnc, pnf, pnl⟩ := cells_of pn.out
  have HB_ : Aside0 (Below w.heap.size w wa) := ⟨hb_⟩
  have HF_ : Aside0 (PF wa (fun j => (ok j ∨ w.heap.size ≤ j) ∧ j ≠ w.heap.size ∧ j ≠ w.heap.size + 1) p v) := ⟨(HF.out.below hb_).mono (fun j hj => ⟨.inl hj.1, by have h_ := hj.2; omega, by have h_ := hj.2; omega⟩)⟩
  clear HB HF hb_; have HB := HB_; have HF := HF_; clear HB_ HF_
  go_wp2_with (first | ((with_reducible refine gate_dst (N := 11) rfl ?_); (try (refine gate_guard (by rfl) ?_; dsimp only)); refine wpList_load_row rfl 24 _ rfl _ (by rfl) _ (PC p v) _ _ (eG on) Try.underlying24 rfl infPC ?_))
  (go_at_call 18; (with_reducible refine (rcheck_c HF.out HO.out true HK.out).mono ?_); rintro e_ w1 ⟨rfl, hb_⟩; have HB_ : Aside0 (Below w.heap.size w w1) := Aside0.mk (below_step (bG HB) hb_); have hzw1 := hb_.size; (try simp at hzw1); have on_ := Aside0.mk (box_below hb_ (eG on)); have pn_ := Aside0.mk (box_below hb_ (eG pn)); (try clear on onc onf onl); have on := on_; clear on_; obtain ⟨onc, onf, onl⟩ := cells_of on.out; (try clear pn pnc pnf pnl); have pn := pn_; clear pn_; obtain ⟨pnc, pnf, pnl⟩ := cells_of pn.out; have HF_ := Aside0.mk (PF.below (by repeat (with_reducible first | exact HF.out | apply PF.drew | apply PF.drewN | apply PF.alloc)) hb_); clear HF; have HF := HF_; clear HF_; clear HB hb_; have HB := HB_; clear HB_)
  have hc : w1.cell? ⟨w.heap.size, 3, none⟩ = some (.slice (some ⟨ab, ao, none⟩) p.q3.length cc) := ((onc 3).trans (show (PC p v)[3]? = some v.p3 from rfl)).trans (congrArg some HE.out)
  have he : w1.cell? ⟨ab, ao, none⟩ = some (.int .i64 (rd p.q3 0)) := SL.at HF.out.p3 HE.out 0 HIX.out
  clear onc
  have onc := trivial
  go_upto_region 20 with fail
  have HM := HF
  clear HF
  go_wp2_with (first | ((with_reducible refine gate_dst (N := 91) rfl ?_); (try (refine gate_guard (by rfl) ?_; dsimp only)); refine wpList_load_row rfl 24 _ rfl _ (by rfl) _ (PC p v) _ _ (eG on) Try.underlying24 rfl infPC ?_) | ((with_reducible refine gate_store (t := 24) (p := 8) (v := .tmp 91) rfl ?_); refine wpList_store_all rfl 24 _ _ rfl rfl _ (PC p v) (by rfl) (by rfl) _ _ pn.out rfl infPC (HM.out.one) ?_; rintro w8 ⟨hx_, hk_, hb_, hzz_⟩; have HB_ : Aside0 (Below w.heap.size w w8) := Aside0.mk (Below.trans (bG HB) (Below.mono hb_ (by first | omega | (simp only [sz_alloc, sz_drew, sz_drewN]; omega)))); have hzw8 := hzz_; (try simp at hzw8); clear hzz_; have on_ := Aside0.mk (st_put on.out hk_ (fun h_ => (by repeat (with_reducible first | exact h_ | apply ext_drew | apply ext_drewN | apply ext_alloc | refine blk_far ?_ (by show _ ≠ _; dsimp only; omega) _))) (by omega)); clear on onc onf onl; have on := on_; clear on_; obtain ⟨onc, onf, onl⟩ := cells_of on.out; (first | (have HM_ := Aside0.mk (PF.step HM.out (fun j hj _ => hk_ j (hj.2.2)))) | (have HM_ := Aside0.mk (PF.step (PF.alloc HM.out _) (fun j hj _ => hk_ j (hj.2.2))))); clear HM; have HM := HM_; clear HM_; (try clear pn pnc pnf pnl); have pn := Aside0.mk hx_; obtain ⟨pnc, pnf, pnl⟩ := cells_of pn.out; clear HB hb_ hk_ hx_; have HB := HB_; clear HB_))
  refine bodyPost_ret (results_ct rfl _ _ (w.heap.size + 1) 24 (PC p v) (0, 0) _ rfl pn.out Try.underlying24 rfl infPC) rfl ⟨v, rfl, HM.out.mono (fun j hj => hj.1), (bG HB)⟩
set_option maxHeartbeats 1600000 in
set_option maxRecDepth 100000 in
theorem rstore_c10n (p : Pd) (v : Pv) (size : Int) (x : Int) (w : World) (ok : Nat → Prop) (hF : PF w ok p v) (ho : OKP p) (hk : ckP p = true) (hs : size = 4) (h1 : (x.tmod 4294967296 == 1) = false) (h2 : (x.tmod 4294967296 == 2) = false) :
    Calls Try.prog 14 #[.agg (PC p v), .int .u64 2101252, .int .i64 size, .int .u64 x] w fun e w' => ∃ v' : Pv, e = .returned (.tuple #[.agg (PC p v'), .bool true]) ∧ PF w' (fun j => ok j ∨ w.heap.size ≤ j) p v' ∧ Below w.heap.size w w' := by
  subst hs
  have HK := Aside0.mk hk
  obtain ⟨hl0, hl3, hl4, _⟩ := check_len hk
  clear hk hl0 hl3 hl4
  have hw513 : IntKind.u64.wrap 513 = 513 := by decide
  have hw1 : IntKind.u64.wrap 1 = 1 := by decide
  have HB := Aside0.mk (Below.refl w.heap.size w)
  have HF := Aside0.mk hF.bound
  have HO := Aside0.mk ho
  have hu := Try.underlying24
  clear hF ho
  go_enter Try.func14, Try.ntmps14
  go_upto_region 1 with fail
  obtain ⟨wa, hwa, on0, pn0, hb_, hz0⟩ := letter2 w (.cells (PC p v) 24 (0, 0)) (.cells PZ 24 (0, 0))
  unfold PZ at hwa
  rw [hwa]
  clear hwa
  have hzwa := Nat.le_of_eq hz0.symm
  clear hz0
  have on := Aside0.mk on0
  have pn := Aside0.mk pn0
  clear on0 pn0
  obtain ⟨onc, onf, onl⟩ := cells_of on.out
  obtain ⟨pnc, pnf, pnl⟩ := cells_of pn.out
  have HB_ : Aside0 (Below w.heap.size w wa) := ⟨hb_⟩
  have HF_ : Aside0 (PF wa (fun j => (ok j ∨ w.heap.size ≤ j) ∧ j ≠ w.heap.size ∧ j ≠ w.heap.size + 1) p v) := ⟨(HF.out.below hb_).mono (fun j hj => ⟨.inl hj.1, by have h_ := hj.2; omega, by have h_ := hj.2; omega⟩)⟩
  clear HB HF hb_; have HB := HB_; have HF := HF_; clear HB_ HF_
  go_wp2_with (first | ((with_reducible refine gate_dst (N := 11) rfl ?_); (try (refine gate_guard (by rfl) ?_; dsimp only)); refine wpList_load_row rfl 24 _ rfl _ (by rfl) _ (PC p v) _ _ (eG on) Try.underlying24 rfl infPC ?_))
  (go_at_call 18; (with_reducible refine (rcheck_c HF.out HO.out true HK.out).mono ?_); rintro e_ w1 ⟨rfl, hb_⟩; have HB_ : Aside0 (Below w.heap.size w w1) := Aside0.mk (below_step (bG HB) hb_); have hzw1 := hb_.size; (try simp at hzw1); have on_ := Aside0.mk (box_below hb_ (eG on)); have pn_ := Aside0.mk (box_below hb_ (eG pn)); (try clear on onc onf onl); have on := on_; clear on_; obtain ⟨onc, onf, onl⟩ := cells_of on.out; (try clear pn pnc pnf pnl); have pn := pn_; clear pn_; obtain ⟨pnc, pnf, pnl⟩ := cells_of pn.out; have HF_ := Aside0.mk (PF.below (by repeat (with_reducible first | exact HF.out | apply PF.drew | apply PF.drewN | apply PF.alloc)) hb_); clear HF; have HF := HF_; clear HF_; clear HB hb_; have HB := HB_; clear HB_)
  go_upto_region 20 with fail
  have HM := HF
  clear HF
  go_wp2_with (first | ((with_reducible refine gate_dst (N := 91) rfl ?_); (try (refine gate_guard (by rfl) ?_; dsimp only)); refine wpList_load_row rfl 24 _ rfl _ (by rfl) _ (PC p v) _ _ (eG on) Try.underlying24 rfl infPC ?_) | ((with_reducible refine gate_store (t := 24) (p := 8) (v := .tmp 91) rfl ?_); refine wpList_store_all rfl 24 _ _ rfl rfl _ (PC p v) (by rfl) (by rfl) _ _ pn.out rfl infPC (HM.out.one) ?_; rintro w8 ⟨hx_, hk_, hb_, hzz_⟩; have HB_ : Aside0 (Below w.heap.size w w8) := Aside0.mk (Below.trans (bG HB) (Below.mono hb_ (by first | omega | (simp only [sz_alloc, sz_drew, sz_drewN]; omega)))); have hzw8 := hzz_; (try simp at hzw8); clear hzz_; have on_ := Aside0.mk (st_put on.out hk_ (fun h_ => (by repeat (with_reducible first | exact h_ | apply ext_drew | apply ext_drewN | apply ext_alloc | refine blk_far ?_ (by show _ ≠ _; dsimp only; omega) _))) (by omega)); clear on onc onf onl; have on := on_; clear on_; obtain ⟨onc, onf, onl⟩ := cells_of on.out; (first | (have HM_ := Aside0.mk (PF.step HM.out (fun j hj _ => hk_ j (hj.2.2)))) | (have HM_ := Aside0.mk (PF.step (PF.alloc HM.out _) (fun j hj _ => hk_ j (hj.2.2))))); clear HM; have HM := HM_; clear HM_; (try clear pn pnc pnf pnl); have pn := Aside0.mk hx_; obtain ⟨pnc, pnf, pnl⟩ := cells_of pn.out; clear HB hb_ hk_ hx_; have HB := HB_; clear HB_))
  refine bodyPost_ret (results_ct rfl _ _ (w.heap.size + 1) 24 (PC p v) (0, 0) _ rfl pn.out Try.underlying24 rfl infPC) rfl ⟨v, rfl, HM.out.mono (fun j hj => hj.1), (bG HB)⟩
set_option maxHeartbeats 1600000 in
set_option maxRecDepth 100000 in
theorem rstore_c11y (p : Pd) (v : Pv) (size : Int) (x : Int) (w : World) (ok : Nat → Prop) (hF : PF w ok p v) (ho : OKP p) (hk : ckP p = true) (hs : size = 4) (hY : x.tmod 4294967296 = 1) (hb : (Go.bits .and .i64 (rd p.q3 1) 2 != 0) = true) :
    Calls Try.prog 14 #[.agg (PC p v), .int .u64 2101252, .int .i64 size, .int .u64 x] w fun e w' => ∃ v' : Pv, e = .returned (.tuple #[.agg (PC ({ p with y := Go.bits .andNot .i64 p.y 2 } : Pd) v'), .bool true]) ∧ PF w' (fun j => ok j ∨ w.heap.size ≤ j) ({ p with y := Go.bits .andNot .i64 p.y 2 } : Pd) v' ∧ Below w.heap.size w w' := by
  subst hs
  have HK := Aside0.mk hk
  obtain ⟨hl0, hl3, hl4, _⟩ := check_len hk
  have hix : (1 : Int) < (p.q3.length : Int) := by omega
  have hixn : 1 < p.q3.length := by omega
  have HIX := Aside0.mk hixn
  obtain ⟨ab, ao, cc, e0⟩ := hF.p3.addr (by omega)
  have HE := Aside0.mk e0
  clear e0
  clear hk hl0 hl3 hl4
  have hw513 : IntKind.u64.wrap 513 = 513 := by decide
  have hw1 : IntKind.u64.wrap 1 = 1 := by decide
  have HB := Aside0.mk (Below.refl w.heap.size w)
  have HF := Aside0.mk hF.bound
  have HO := Aside0.mk ho
  have hu := Try.underlying24
  clear hF ho
  go_enter Try.func14, Try.ntmps14
  go_upto_region 1 with fail
  obtain ⟨wa, hwa, on0, pn0, hb_, hz0⟩ := letter2 w (.cells (PC p v) 24 (0, 0)) (.cells PZ 24 (0, 0))
  unfold PZ at hwa
  rw [hwa]
  clear hwa
  have hzwa := Nat.le_of_eq hz0.symm
  clear hz0
  have on := Aside0.mk on0
  have pn := Aside0.mk pn0
  clear on0 pn0
  obtain ⟨onc, onf, onl⟩ := cells_of on.out
  obtain ⟨pnc, pnf, pnl⟩ := cells_of pn.out
  have HB_ : Aside0 (Below w.heap.size w wa) := ⟨hb_⟩
  have HF_ : Aside0 (PF wa (fun j => (ok j ∨ w.heap.size ≤ j) ∧ j ≠ w.heap.size ∧ j ≠ w.heap.size + 1) p v) := ⟨(HF.out.below hb_).mono (fun j hj => ⟨.inl hj.1, by have h_ := hj.2; omega, by have h_ := hj.2; omega⟩)⟩
  clear HB HF hb_; have HB := HB_; have HF := HF_; clear HB_ HF_
  go_wp2_with (first | ((with_reducible refine gate_dst (N := 11) rfl ?_); (try (refine gate_guard (by rfl) ?_; dsimp only)); refine wpList_load_row rfl 24 _ rfl _ (by rfl) _ (PC p v) _ _ (eG on) Try.underlying24 rfl infPC ?_))
  (go_at_call 18; (with_reducible refine (rcheck_c HF.out HO.out true HK.out).mono ?_); rintro e_ w1 ⟨rfl, hb_⟩; have HB_ : Aside0 (Below w.heap.size w w1) := Aside0.mk (below_step (bG HB) hb_); have hzw1 := hb_.size; (try simp at hzw1); have on_ := Aside0.mk (box_below hb_ (eG on)); have pn_ := Aside0.mk (box_below hb_ (eG pn)); (try clear on onc onf onl); have on := on_; clear on_; obtain ⟨onc, onf, onl⟩ := cells_of on.out; (try clear pn pnc pnf pnl); have pn := pn_; clear pn_; obtain ⟨pnc, pnf, pnl⟩ := cells_of pn.out; have HF_ := Aside0.mk (PF.below (by repeat (with_reducible first | exact HF.out | apply PF.drew | apply PF.drewN | apply PF.alloc)) hb_); clear HF; have HF := HF_; clear HF_; clear HB hb_; have HB := HB_; clear HB_)
  have hc : w1.cell? ⟨w.heap.size, 3, none⟩ = some (.slice (some ⟨ab, ao, none⟩) p.q3.length cc) := ((onc 3).trans (show (PC p v)[3]? = some v.p3 from rfl)).trans (congrArg some HE.out)
  have he : w1.cell? ⟨ab, ao + 1, none⟩ = some (.int .i64 (rd p.q3 1)) := SL.at HF.out.p3 HE.out 1 HIX.out
  have hc2 : w1.cell? ⟨w.heap.size, 2, none⟩ = some (.int .i64 p.y) := onc 2
  have hf2 := onf 2
  clear onc
  have onc := trivial
  go_upto_region 20 with fail
  (have pn_ := Aside0.mk (blk_far (p := ⟨w.heap.size, 2, none⟩) pn.out (by show _ ≠ _; dsimp only; omega) (.int .i64 (Go.bits .andNot .i64 p.y 2))); clear pn pnc pnf pnl; have pn := pn_; clear pn_; obtain ⟨pnc, pnf, pnl⟩ := cells_of pn.out; have on_ := Aside0.mk (blk_put on.out 2 (.int .i64 (Go.bits .andNot .i64 p.y 2)) (cs' := (PC ({ p with y := Go.bits .andNot .i64 p.y 2 } : Pd) v)) rfl); clear on onc onf onl; have on := on_; clear on_; obtain ⟨onc, onf, onl⟩ := cells_of on.out)
  have HM : Aside0 (PF (w1.setCell ⟨w.heap.size, 2, none⟩ (.int .i64 (Go.bits .andNot .i64 p.y 2))) (fun j => (ok j ∨ w.heap.size ≤ j) ∧ j ≠ w.heap.size ∧ j ≠ w.heap.size + 1) ({ p with y := Go.bits .andNot .i64 p.y 2 } : Pd) v) := ⟨PF.step (show PF w1 (fun j => (ok j ∨ w.heap.size ≤ j) ∧ j ≠ w.heap.size ∧ j ≠ w.heap.size + 1) ({ p with y := Go.bits .andNot .i64 p.y 2 } : Pd) v from ⟨HF.out.p0, HF.out.p3, HF.out.p4⟩) (fun j hj _ => Below.heap_setCell w1 ⟨w.heap.size, 2, none⟩ (.int .i64 (Go.bits .andNot .i64 p.y 2)) j hj.2.1)⟩
  clear HF
  go_wp2_with (first | ((with_reducible refine gate_dst (N := 91) rfl ?_); (try (refine gate_guard (by rfl) ?_; dsimp only)); refine wpList_load_row rfl 24 _ rfl _ (by rfl) _ (PC ({ p with y := Go.bits .andNot .i64 p.y 2 } : Pd) v) _ _ (eG on) Try.underlying24 rfl infPC ?_) | ((with_reducible refine gate_store (t := 24) (p := 8) (v := .tmp 91) rfl ?_); refine wpList_store_all rfl 24 _ _ rfl rfl _ (PC ({ p with y := Go.bits .andNot .i64 p.y 2 } : Pd) v) (by rfl) (by rfl) _ _ pn.out rfl infPC (HM.out.one) ?_; rintro w8 ⟨hx_, hk_, hb_, hzz_⟩; have HB_ : Aside0 (Below w.heap.size w w8) := Aside0.mk (Below.trans (bG HB) (Below.mono hb_ (by first | omega | (simp only [sz_alloc, sz_drew, sz_drewN]; omega)))); have hzw8 := hzz_; (try simp at hzw8); clear hzz_; have on_ := Aside0.mk (st_put on.out hk_ (fun h_ => (by repeat (with_reducible first | exact h_ | apply ext_drew | apply ext_drewN | apply ext_alloc | refine blk_far ?_ (by show _ ≠ _; dsimp only; omega) _))) (by omega)); clear on onc onf onl; have on := on_; clear on_; obtain ⟨onc, onf, onl⟩ := cells_of on.out; (first | (have HM_ := Aside0.mk (PF.step HM.out (fun j hj _ => hk_ j (hj.2.2)))) | (have HM_ := Aside0.mk (PF.step (PF.alloc HM.out _) (fun j hj _ => hk_ j (hj.2.2))))); clear HM; have HM := HM_; clear HM_; (try clear pn pnc pnf pnl); have pn := Aside0.mk hx_; obtain ⟨pnc, pnf, pnl⟩ := cells_of pn.out; clear HB hb_ hk_ hx_; have HB := HB_; clear HB_))
  refine bodyPost_ret (results_ct rfl _ _ (w.heap.size + 1) 24 (PC ({ p with y := Go.bits .andNot .i64 p.y 2 } : Pd) v) (0, 0) _ rfl pn.out Try.underlying24 rfl infPC) rfl ⟨v, rfl, HM.out.mono (fun j hj => hj.1), (bG HB)⟩
set_option maxHeartbeats 1600000 in
set_option maxRecDepth 100000 in
theorem rstore_c11n (p : Pd) (v : Pv) (size : Int) (x : Int) (w : World) (ok : Nat → Prop) (hF : PF w ok p v) (ho : OKP p) (hk : ckP p = true) (hs : size = 4) (hY : x.tmod 4294967296 = 1) (hb : (Go.bits .and .i64 (rd p.q3 1) 2 != 0) = false) :
    Calls Try.prog 14 #[.agg (PC p v), .int .u64 2101252, .int .i64 size, .int .u64 x] w fun e w' => ∃ v' : Pv, e = .returned (.tuple #[.agg (PC p v'), .bool true]) ∧ PF w' (fun j => ok j ∨ w.heap.size ≤ j) p v' ∧ Below w.heap.size w w' := by
  subst hs
  have HK := Aside0.mk hk
  obtain ⟨hl0, hl3, hl4, _⟩ := check_len hk
  have hix : (1 : Int) < (p.q3.length : Int) := by omega
  have hixn : 1 < p.q3.length := by omega
  have HIX := Aside0.mk hixn
  obtain ⟨ab, ao, cc, e0⟩ := hF.p3.addr (by omega)
  have HE := Aside0.mk e0
  clear e0
  clear hk hl0 hl3 hl4
  have hw513 : IntKind.u64.wrap 513 = 513 := by decide
  have hw1 : IntKind.u64.wrap 1 = 1 := by decide
  have HB := Aside0.mk (Below.refl w.heap.size w)
  have HF := Aside0.mk hF.bound
  have HO := Aside0.mk ho
  have hu := Try.underlying24
  clear hF ho
  go_enter Try.func14, Try.ntmps14
  go_upto_region 1 with fail
  obtain ⟨wa, hwa, on0, pn0, hb_, hz0⟩ := letter2 w (.cells (PC p v) 24 (0, 0)) (.cells PZ 24 (0, 0))
  unfold PZ at hwa
  rw [hwa]
  clear hwa
  have hzwa := Nat.le_of_eq hz0.symm
  clear hz0
  have on := Aside0.mk on0
  have pn := Aside0.mk pn0
  clear on0 pn0
  obtain ⟨onc, onf, onl⟩ := cells_of on.out
  obtain ⟨pnc, pnf, pnl⟩ := cells_of pn.out
  have HB_ : Aside0 (Below w.heap.size w wa) := ⟨hb_⟩
  have HF_ : Aside0 (PF wa (fun j => (ok j ∨ w.heap.size ≤ j) ∧ j ≠ w.heap.size ∧ j ≠ w.heap.size + 1) p v) := ⟨(HF.out.below hb_).mono (fun j hj => ⟨.inl hj.1, by have h_ := hj.2; omega, by have h_ := hj.2; omega⟩)⟩
  clear HB HF hb_; have HB := HB_; have HF := HF_; clear HB_ HF_
  go_wp2_with (first | ((with_reducible refine gate_dst (N := 11) rfl ?_); (try (refine gate_guard (by rfl) ?_; dsimp only)); refine wpList_load_row rfl 24 _ rfl _ (by rfl) _ (PC p v) _ _ (eG on) Try.underlying24 rfl infPC ?_))
  (go_at_call 18; (with_reducible refine (rcheck_c HF.out HO.out true HK.out).mono ?_); rintro e_ w1 ⟨rfl, hb_⟩; have HB_ : Aside0 (Below w.heap.size w w1) := Aside0.mk (below_step (bG HB) hb_); have hzw1 := hb_.size; (try simp at hzw1); have on_ := Aside0.mk (box_below hb_ (eG on)); have pn_ := Aside0.mk (box_below hb_ (eG pn)); (try clear on onc onf onl); have on := on_; clear on_; obtain ⟨onc, onf, onl⟩ := cells_of on.out; (try clear pn pnc pnf pnl); have pn := pn_; clear pn_; obtain ⟨pnc, pnf, pnl⟩ := cells_of pn.out; have HF_ := Aside0.mk (PF.below (by repeat (with_reducible first | exact HF.out | apply PF.drew | apply PF.drewN | apply PF.alloc)) hb_); clear HF; have HF := HF_; clear HF_; clear HB hb_; have HB := HB_; clear HB_)
  have hc : w1.cell? ⟨w.heap.size, 3, none⟩ = some (.slice (some ⟨ab, ao, none⟩) p.q3.length cc) := ((onc 3).trans (show (PC p v)[3]? = some v.p3 from rfl)).trans (congrArg some HE.out)
  have he : w1.cell? ⟨ab, ao + 1, none⟩ = some (.int .i64 (rd p.q3 1)) := SL.at HF.out.p3 HE.out 1 HIX.out
  clear onc
  have onc := trivial
  go_upto_region 20 with fail
  have HM := HF
  clear HF
  go_wp2_with (first | ((with_reducible refine gate_dst (N := 91) rfl ?_); (try (refine gate_guard (by rfl) ?_; dsimp only)); refine wpList_load_row rfl 24 _ rfl _ (by rfl) _ (PC p v) _ _ (eG on) Try.underlying24 rfl infPC ?_) | ((with_reducible refine gate_store (t := 24) (p := 8) (v := .tmp 91) rfl ?_); refine wpList_store_all rfl 24 _ _ rfl rfl _ (PC p v) (by rfl) (by rfl) _ _ pn.out rfl infPC (HM.out.one) ?_; rintro w8 ⟨hx_, hk_, hb_, hzz_⟩; have HB_ : Aside0 (Below w.heap.size w w8) := Aside0.mk (Below.trans (bG HB) (Below.mono hb_ (by first | omega | (simp only [sz_alloc, sz_drew, sz_drewN]; omega)))); have hzw8 := hzz_; (try simp at hzw8); clear hzz_; have on_ := Aside0.mk (st_put on.out hk_ (fun h_ => (by repeat (with_reducible first | exact h_ | apply ext_drew | apply ext_drewN | apply ext_alloc | refine blk_far ?_ (by show _ ≠ _; dsimp only; omega) _))) (by omega)); clear on onc onf onl; have on := on_; clear on_; obtain ⟨onc, onf, onl⟩ := cells_of on.out; (first | (have HM_ := Aside0.mk (PF.step HM.out (fun j hj _ => hk_ j (hj.2.2)))) | (have HM_ := Aside0.mk (PF.step (PF.alloc HM.out _) (fun j hj _ => hk_ j (hj.2.2))))); clear HM; have HM := HM_; clear HM_; (try clear pn pnc pnf pnl); have pn := Aside0.mk hx_; obtain ⟨pnc, pnf, pnl⟩ := cells_of pn.out; clear HB hb_ hk_ hx_; have HB := HB_; clear HB_))
  refine bodyPost_ret (results_ct rfl _ _ (w.heap.size + 1) 24 (PC p v) (0, 0) _ rfl pn.out Try.underlying24 rfl infPC) rfl ⟨v, rfl, HM.out.mono (fun j hj => hj.1), (bG HB)⟩
set_option maxHeartbeats 1600000 in
set_option maxRecDepth 100000 in
theorem rstore_c12y (p : Pd) (v : Pv) (size : Int) (x : Int) (w : World) (ok : Nat → Prop) (hF : PF w ok p v) (ho : OKP p) (hk : ckP p = true) (hs : size = 4) (hY : x.tmod 4294967296 = 2) (hb : (Go.bits .and .i64 (rd p.q3 1) 4 != 0) = true) :
    Calls Try.prog 14 #[.agg (PC p v), .int .u64 2101252, .int .i64 size, .int .u64 x] w fun e w' => ∃ v' : Pv, e = .returned (.tuple #[.agg (PC ({ p with y := Go.bits .andNot .i64 p.y 4 } : Pd) v'), .bool true]) ∧ PF w' (fun j => ok j ∨ w.heap.size ≤ j) ({ p with y := Go.bits .andNot .i64 p.y 4 } : Pd) v' ∧ Below w.heap.size w w' := by
  subst hs
  have HK := Aside0.mk hk
  obtain ⟨hl0, hl3, hl4, _⟩ := check_len hk
  have hix : (1 : Int) < (p.q3.length : Int) := by omega
  have hixn : 1 < p.q3.length := by omega
  have HIX := Aside0.mk hixn
  obtain ⟨ab, ao, cc, e0⟩ := hF.p3.addr (by omega)
  have HE := Aside0.mk e0
  clear e0
  clear hk hl0 hl3 hl4
  have hw513 : IntKind.u64.wrap 513 = 513 := by decide
  have hw1 : IntKind.u64.wrap 1 = 1 := by decide
  have HB := Aside0.mk (Below.refl w.heap.size w)
  have HF := Aside0.mk hF.bound
  have HO := Aside0.mk ho
  have hu := Try.underlying24
  clear hF ho
  go_enter Try.func14, Try.ntmps14
  go_upto_region 1 with fail
  obtain ⟨wa, hwa, on0, pn0, hb_, hz0⟩ := letter2 w (.cells (PC p v) 24 (0, 0)) (.cells PZ 24 (0, 0))
  unfold PZ at hwa
  rw [hwa]
  clear hwa
  have hzwa := Nat.le_of_eq hz0.symm
  clear hz0
  have on := Aside0.mk on0
  have pn := Aside0.mk pn0
  clear on0 pn0
  obtain ⟨onc, onf, onl⟩ := cells_of on.out
  obtain ⟨pnc, pnf, pnl⟩ := cells_of pn.out
  have HB_ : Aside0 (Below w.heap.size w wa) := ⟨hb_⟩
  have HF_ : Aside0 (PF wa (fun j => (ok j ∨ w.heap.size ≤ j) ∧ j ≠ w.heap.size ∧ j ≠ w.heap.size + 1) p v) := ⟨(HF.out.below hb_).mono (fun j hj => ⟨.inl hj.1, by have h_ := hj.2; omega, by have h_ := hj.2; omega⟩)⟩
  clear HB HF hb_; have HB := HB_; have HF := HF_; clear HB_ HF_
  go_wp2_with (first | ((with_reducible refine gate_dst (N := 11) rfl ?_); (try (refine gate_guard (by rfl) ?_; dsimp only)); refine wpList_load_row rfl 24 _ rfl _ (by rfl) _ (PC p v) _ _ (eG on) Try.underlying24 rfl infPC ?_))
  (go_at_call 18; (with_reducible refine (rcheck_c HF.out HO.out true HK.out).mono ?_); rintro e_ w1 ⟨rfl, hb_⟩; have HB_ : Aside0 (Below w.heap.size w w1) := Aside0.mk (below_step (bG HB) hb_); have hzw1 := hb_.size; (try simp at hzw1); have on_ := Aside0.mk (box_below hb_ (eG on)); have pn_ := Aside0.mk (box_below hb_ (eG pn)); (try clear on onc onf onl); have on := on_; clear on_; obtain ⟨onc, onf, onl⟩ := cells_of on.out; (try clear pn pnc pnf pnl); have pn := pn_; clear pn_; obtain ⟨pnc, pnf, pnl⟩ := cells_of pn.out; have HF_ := Aside0.mk (PF.below (by repeat (with_reducible first | exact HF.out | apply PF.drew | apply PF.drewN | apply PF.alloc)) hb_); clear HF; have HF := HF_; clear HF_; clear HB hb_; have HB := HB_; clear HB_)
  have hc : w1.cell? ⟨w.heap.size, 3, none⟩ = some (.slice (some ⟨ab, ao, none⟩) p.q3.length cc) := ((onc 3).trans (show (PC p v)[3]? = some v.p3 from rfl)).trans (congrArg some HE.out)
  have he : w1.cell? ⟨ab, ao + 1, none⟩ = some (.int .i64 (rd p.q3 1)) := SL.at HF.out.p3 HE.out 1 HIX.out
  have hc2 : w1.cell? ⟨w.heap.size, 2, none⟩ = some (.int .i64 p.y) := onc 2
  have hf2 := onf 2
  clear onc
  have onc := trivial
  go_upto_region 20 with fail
  (have pn_ := Aside0.mk (blk_far (p := ⟨w.heap.size, 2, none⟩) pn.out (by show _ ≠ _; dsimp only; omega) (.int .i64 (Go.bits .andNot .i64 p.y 4))); clear pn pnc pnf pnl; have pn := pn_; clear pn_; obtain ⟨pnc, pnf, pnl⟩ := cells_of pn.out; have on_ := Aside0.mk (blk_put on.out 2 (.int .i64 (Go.bits .andNot .i64 p.y 4)) (cs' := (PC ({ p with y := Go.bits .andNot .i64 p.y 4 } : Pd) v)) rfl); clear on onc onf onl; have on := on_; clear on_; obtain ⟨onc, onf, onl⟩ := cells_of on.out)
  have HM : Aside0 (PF (w1.setCell ⟨w.heap.size, 2, none⟩ (.int .i64 (Go.bits .andNot .i64 p.y 4))) (fun j => (ok j ∨ w.heap.size ≤ j) ∧ j ≠ w.heap.size ∧ j ≠ w.heap.size + 1) ({ p with y := Go.bits .andNot .i64 p.y 4 } : Pd) v) := ⟨PF.step (show PF w1 (fun j => (ok j ∨ w.heap.size ≤ j) ∧ j ≠ w.heap.size ∧ j ≠ w.heap.size + 1) ({ p with y := Go.bits .andNot .i64 p.y 4 } : Pd) v from ⟨HF.out.p0, HF.out.p3, HF.out.p4⟩) (fun j hj _ => Below.heap_setCell w1 ⟨w.heap.size, 2, none⟩ (.int .i64 (Go.bits .andNot .i64 p.y 4)) j hj.2.1)⟩
  clear HF
  go_wp2_with (first | ((with_reducible refine gate_dst (N := 91) rfl ?_); (try (refine gate_guard (by rfl) ?_; dsimp only)); refine wpList_load_row rfl 24 _ rfl _ (by rfl) _ (PC ({ p with y := Go.bits .andNot .i64 p.y 4 } : Pd) v) _ _ (eG on) Try.underlying24 rfl infPC ?_) | ((with_reducible refine gate_store (t := 24) (p := 8) (v := .tmp 91) rfl ?_); refine wpList_store_all rfl 24 _ _ rfl rfl _ (PC ({ p with y := Go.bits .andNot .i64 p.y 4 } : Pd) v) (by rfl) (by rfl) _ _ pn.out rfl infPC (HM.out.one) ?_; rintro w8 ⟨hx_, hk_, hb_, hzz_⟩; have HB_ : Aside0 (Below w.heap.size w w8) := Aside0.mk (Below.trans (bG HB) (Below.mono hb_ (by first | omega | (simp only [sz_alloc, sz_drew, sz_drewN]; omega)))); have hzw8 := hzz_; (try simp at hzw8); clear hzz_; have on_ := Aside0.mk (st_put on.out hk_ (fun h_ => (by repeat (with_reducible first | exact h_ | apply ext_drew | apply ext_drewN | apply ext_alloc | refine blk_far ?_ (by show _ ≠ _; dsimp only; omega) _))) (by omega)); clear on onc onf onl; have on := on_; clear on_; obtain ⟨onc, onf, onl⟩ := cells_of on.out; (first | (have HM_ := Aside0.mk (PF.step HM.out (fun j hj _ => hk_ j (hj.2.2)))) | (have HM_ := Aside0.mk (PF.step (PF.alloc HM.out _) (fun j hj _ => hk_ j (hj.2.2))))); clear HM; have HM := HM_; clear HM_; (try clear pn pnc pnf pnl); have pn := Aside0.mk hx_; obtain ⟨pnc, pnf, pnl⟩ := cells_of pn.out; clear HB hb_ hk_ hx_; have HB := HB_; clear HB_))
  refine bodyPost_ret (results_ct rfl _ _ (w.heap.size + 1) 24 (PC ({ p with y := Go.bits .andNot .i64 p.y 4 } : Pd) v) (0, 0) _ rfl pn.out Try.underlying24 rfl infPC) rfl ⟨v, rfl, HM.out.mono (fun j hj => hj.1), (bG HB)⟩
set_option maxHeartbeats 1600000 in
set_option maxRecDepth 100000 in
theorem rstore_c12n (p : Pd) (v : Pv) (size : Int) (x : Int) (w : World) (ok : Nat → Prop) (hF : PF w ok p v) (ho : OKP p) (hk : ckP p = true) (hs : size = 4) (hY : x.tmod 4294967296 = 2) (hb : (Go.bits .and .i64 (rd p.q3 1) 4 != 0) = false) :
    Calls Try.prog 14 #[.agg (PC p v), .int .u64 2101252, .int .i64 size, .int .u64 x] w fun e w' => ∃ v' : Pv, e = .returned (.tuple #[.agg (PC p v'), .bool true]) ∧ PF w' (fun j => ok j ∨ w.heap.size ≤ j) p v' ∧ Below w.heap.size w w' := by
  subst hs
  have HK := Aside0.mk hk
  obtain ⟨hl0, hl3, hl4, _⟩ := check_len hk
  have hix : (1 : Int) < (p.q3.length : Int) := by omega
  have hixn : 1 < p.q3.length := by omega
  have HIX := Aside0.mk hixn
  obtain ⟨ab, ao, cc, e0⟩ := hF.p3.addr (by omega)
  have HE := Aside0.mk e0
  clear e0
  clear hk hl0 hl3 hl4
  have hw513 : IntKind.u64.wrap 513 = 513 := by decide
  have hw1 : IntKind.u64.wrap 1 = 1 := by decide
  have HB := Aside0.mk (Below.refl w.heap.size w)
  have HF := Aside0.mk hF.bound
  have HO := Aside0.mk ho
  have hu := Try.underlying24
  clear hF ho
  go_enter Try.func14, Try.ntmps14
  go_upto_region 1 with fail
  obtain ⟨wa, hwa, on0, pn0, hb_, hz0⟩ := letter2 w (.cells (PC p v) 24 (0, 0)) (.cells PZ 24 (0, 0))
  unfold PZ at hwa
  rw [hwa]
  clear hwa
  have hzwa := Nat.le_of_eq hz0.symm
  clear hz0
  have on := Aside0.mk on0
  have pn := Aside0.mk pn0
  clear on0 pn0
  obtain ⟨onc, onf, onl⟩ := cells_of on.out
  obtain ⟨pnc, pnf, pnl⟩ := cells_of pn.out
  have HB_ : Aside0 (Below w.heap.size w wa) := ⟨hb_⟩
  have HF_ : Aside0 (PF wa (fun j => (ok j ∨ w.heap.size ≤ j) ∧ j ≠ w.heap.size ∧ j ≠ w.heap.size + 1) p v) := ⟨(HF.out.below hb_).mono (fun j hj => ⟨.inl hj.1, by have h_ := hj.2; omega, by have h_ := hj.2; omega⟩)⟩
  clear HB HF hb_; have HB := HB_; have HF := HF_; clear HB_ HF_
  go_wp2_with (first | ((with_reducible refine gate_dst (N := 11) rfl ?_); (try (refine gate_guard (by rfl) ?_; dsimp only)); refine wpList_load_row rfl 24 _ rfl _ (by rfl) _ (PC p v) _ _ (eG on) Try.underlying24 rfl infPC ?_))
  (go_at_call 18; (with_reducible refine (rcheck_c HF.out HO.out true HK.out).mono ?_); rintro e_ w1 ⟨rfl, hb_⟩; have HB_ : Aside0 (Below w.heap.size w w1) := Aside0.mk (below_step (bG HB) hb_); have hzw1 := hb_.size; (try simp at hzw1); have on_ := Aside0.mk (box_below hb_ (eG on)); have pn_ := Aside0.mk (box_below hb_ (eG pn)); (try clear on onc onf onl); have on := on_; clear on_; obtain ⟨onc, onf, onl⟩ := cells_of on.out; (try clear pn pnc pnf pnl); have pn := pn_; clear pn_; obtain ⟨pnc, pnf, pnl⟩ := cells_of pn.out; have HF_ := Aside0.mk (PF.below (by repeat (with_reducible first | exact HF.out | apply PF.drew | apply PF.drewN | apply PF.alloc)) hb_); clear HF; have HF := HF_; clear HF_; clear HB hb_; have HB := HB_; clear HB_)
  have hc : w1.cell? ⟨w.heap.size, 3, none⟩ = some (.slice (some ⟨ab, ao, none⟩) p.q3.length cc) := ((onc 3).trans (show (PC p v)[3]? = some v.p3 from rfl)).trans (congrArg some HE.out)
  have he : w1.cell? ⟨ab, ao + 1, none⟩ = some (.int .i64 (rd p.q3 1)) := SL.at HF.out.p3 HE.out 1 HIX.out
  clear onc
  have onc := trivial
  go_upto_region 20 with fail
  have HM := HF
  clear HF
  go_wp2_with (first | ((with_reducible refine gate_dst (N := 91) rfl ?_); (try (refine gate_guard (by rfl) ?_; dsimp only)); refine wpList_load_row rfl 24 _ rfl _ (by rfl) _ (PC p v) _ _ (eG on) Try.underlying24 rfl infPC ?_) | ((with_reducible refine gate_store (t := 24) (p := 8) (v := .tmp 91) rfl ?_); refine wpList_store_all rfl 24 _ _ rfl rfl _ (PC p v) (by rfl) (by rfl) _ _ pn.out rfl infPC (HM.out.one) ?_; rintro w8 ⟨hx_, hk_, hb_, hzz_⟩; have HB_ : Aside0 (Below w.heap.size w w8) := Aside0.mk (Below.trans (bG HB) (Below.mono hb_ (by first | omega | (simp only [sz_alloc, sz_drew, sz_drewN]; omega)))); have hzw8 := hzz_; (try simp at hzw8); clear hzz_; have on_ := Aside0.mk (st_put on.out hk_ (fun h_ => (by repeat (with_reducible first | exact h_ | apply ext_drew | apply ext_drewN | apply ext_alloc | refine blk_far ?_ (by show _ ≠ _; dsimp only; omega) _))) (by omega)); clear on onc onf onl; have on := on_; clear on_; obtain ⟨onc, onf, onl⟩ := cells_of on.out; (first | (have HM_ := Aside0.mk (PF.step HM.out (fun j hj _ => hk_ j (hj.2.2)))) | (have HM_ := Aside0.mk (PF.step (PF.alloc HM.out _) (fun j hj _ => hk_ j (hj.2.2))))); clear HM; have HM := HM_; clear HM_; (try clear pn pnc pnf pnl); have pn := Aside0.mk hx_; obtain ⟨pnc, pnf, pnl⟩ := cells_of pn.out; clear HB hb_ hk_ hx_; have HB := HB_; clear HB_))
  refine bodyPost_ret (results_ct rfl _ _ (w.heap.size + 1) 24 (PC p v) (0, 0) _ rfl pn.out Try.underlying24 rfl infPC) rfl ⟨v, rfl, HM.out.mono (fun j hj => hj.1), (bG HB)⟩
end Go.Proofs.Ytmlpnjoejdpblaa.Q
end
section
/- The document's Load and Store answer as the program's. -/
namespace Go.Proofs.Ytmlpnjoejdpblaa.Q
open Go.RowKit Go.Proofs.YtmlpnjoejdpblaaW.PrintWords Go.Proofs.YtmlpnjoejdpblaaW.PrintLast Go.Proofs.YtmlpnjoejdpblaaW.PrintMore Go.Proofs.Ytmlpnjoejdpblaa.L
set_option linter.unusedVariables false
theorem nat_and (a b : Nat) (ha : a < 9223372036854775808) (hb : b < 9223372036854775808) : Go.bits .and .i64 (a : Int) (b : Int) = ((a &&& b : Nat) : Int) := by
  have hl : a &&& b < 9223372036854775808 := Nat.lt_of_le_of_lt Nat.and_le_left ha
  rw [i64_and]
  have e1 : bv (a : Int) = BitVec.ofNat 64 a := BitVec.ofInt_natCast 64 a
  have e2 : bv (b : Int) = BitVec.ofNat 64 b := BitVec.ofInt_natCast 64 b
  rw [e1, e2, ← BitVec.ofNat_and, BitVec.toInt_eq_toNat_bmod, BitVec.toNat_ofNat, Nat.mod_eq_of_lt (by omega)]
  exact Int.bmod_eq_of_le (by omega) (by omega)
theorem and7_mod (n : Nat) : n &&& 7 = n % 8 := by rw [show (7 : Nat) = 2 ^ 3 - 1 from rfl, Nat.and_two_pow_sub_one_eq_mod]
theorem num8 (x : Int) (h : u64B x) : wrap64 (x.tmod 8) = Go.bits .and .i64 (IntKind.u32.wrap x) 7 := by
  obtain ⟨n, rfl⟩ := Int.eq_ofNat_of_zero_le h.1
  have e : IntKind.u32.wrap (n : Int) = ((n % 4294967296 : Nat) : Int) := by rw [IntKind.wrap_u32]; omega
  rw [e, show (7 : Int) = ((7 : Nat) : Int) from rfl, nat_and _ _ (by omega) (by omega), and7_mod, Int.tmod_eq_emod_of_nonneg (by omega)]
  unfold wrap64
  omega
theorem num6 (x : Int) (h : u64B x) : wrap64 (Go.bits .and .u64 (x.tmod 4294967296) 6) = Go.bits .and .i64 (IntKind.u32.wrap x) 6 := by
  obtain ⟨n, rfl⟩ := Int.eq_ofNat_of_zero_le h.1
  have e : IntKind.u32.wrap (n : Int) = ((n % 4294967296 : Nat) : Int) := by rw [IntKind.wrap_u32]; omega
  have e2 : (n : Int).tmod 4294967296 = ((n % 4294967296 : Nat) : Int) := by rw [Int.tmod_eq_emod_of_nonneg (by omega)]; omega
  have hle : (n % 4294967296) &&& 6 ≤ n % 4294967296 := Nat.and_le_left
  rw [e, e2, show (6 : Int) = ((6 : Nat) : Int) from rfl, nat_and _ _ (by omega) (by omega), u64_and _ _ (by omega) (by omega) (by decide) (by decide), Int.toNat_natCast, Int.toNat_natCast]
  unfold wrap64
  omega
theorem give2 : (([0, 2, 4, 6] : List Int).all fun c => ([0, 2, 4, 6] : List Int).all fun e => ([2, 4] : List Int).all fun b => decide (Go.bits .andNot .i64 c (Go.bits .and .i64 b e) = if (Go.bits .and .i64 e b != 0) = true then Go.bits .andNot .i64 c b else c)) = true := by kernel_rfl
theorem give_is {c e : Int} (hc : m6 c) (he : m6 e) (b : Int) (hb : b = 2 ∨ b = 4) : Go.bits .andNot .i64 c (Go.bits .and .i64 b e) = if (Go.bits .and .i64 e b != 0) = true then Go.bits .andNot .i64 c b else c := by
  have h := all4 (all4 give2 hc) he
  rw [List.all_eq_true] at h
  exact of_decide_eq_true (h b (by rcases hb with rfl | rfl <;> simp))
theorem claim_is (p : Pd) (ho : OKP p) (hk : ckP p = true) (k : Int) (hk2 : k = 0 ∨ k = 1) : drawbridgeref10_claim.f 4 p.q0 p.x p.y p.q3 p.q4 k = claimZ p.q0 p.x p.y p.q3 p.q4 k := by
  obtain ⟨a, b, e, f, g, h, e1, e2, e3, r1, r2, mp, mc, r3, r4, r5, r6⟩ := check_get hk ho.x ho.y ho.q3
  have hck := rcheck_is 0 p.q0 p.x p.y p.q3 p.q4 ho.x ho.y ho.q3
  unfold ckP at hk
  rw [hk] at hck
  rw [e1, e2, e3] at hck ⊢
  exact rclaim_is 0 r1 r2 mp mc r3 r4 r5 r6 hck k hk2
section
variable (p : Pd) (v : Pv) (off size : Int) (w : World) (ok : Nat → Prop) (hF : PF w ok p v) (ho : OKP p)
include hF ho
theorem rload_c (r1 : Int) (p2 : Pd) (r7 : Bool) (h : plic_Load.f p.q0 p.x p.y p.q3 p.q4 off size = some (r1, p2.q0, p2.x, p2.y, p2.q3, p2.q4, r7)) :
    Calls Try.prog 13 #[.agg (PC p v), .int .u64 off, .int .i64 size] w fun e w' => ∃ v' : Pv, e = .returned (.tuple #[.int .u64 r1, .agg (PC p2 v'), .bool r7]) ∧ PF w' (fun j => ok j ∨ w.heap.size ≤ j) p2 v' ∧ Below w.heap.size w w' := by
  obtain ⟨q0, x, y, q3, q4⟩ := p2
  dsimp only at h
  unfold plic_Load.f at h
  have INJ : ∀ {r1 : Int} {q0 q0' : List Int} {x x' y y' : Int} {q3 q3' q4 q4' : List Int} {r7 r7' : Bool} {s : Int}, (some (s, q0', x', y', q3', q4', r7') : Option (Int × List Int × Int × Int × List Int × List Int × Bool)) = some (r1, q0, x, y, q3, q4, r7) → s = r1 ∧ q0' = q0 ∧ x' = x ∧ y' = y ∧ q3' = q3 ∧ q4' = q4 ∧ r7' = r7 := fun h => by injection h with h; injection h with h1 h; injection h with h2 h; injection h with h3 h; injection h with h4 h; injection h with h5 h; injection h with h6 h7; exact ⟨h1, h2, h3, h4, h5, h6, h7⟩
  by_cases hg : checkZ p.q0 p.x p.y p.q3 p.q4 = true ∧ size = 4
  case neg =>
    rw [if_neg hg] at h
    obtain ⟨rfl, rfl, rfl, rfl, rfl, rfl, rfl⟩ := INJ h
    cases hck : ckP p
    · exact rload_nock p v off size w ok hF ho hck
    · exact rload_nosz p v off size w ok hF ho hck (bne_iff_ne.mpr fun e => hg ⟨hck, e⟩)
  rw [if_pos hg] at h
  obtain ⟨hck, hs⟩ := hg
  by_cases h4 : off = 4
  · rw [if_pos h4] at h
    obtain ⟨rfl, rfl, rfl, rfl, rfl, rfl, rfl⟩ := INJ h
    subst h4
    exact rload_p1 p v size w ok hF ho hck hs
  rw [if_neg h4] at h
  by_cases h8 : off = 8
  · rw [if_pos h8] at h
    obtain ⟨rfl, rfl, rfl, rfl, rfl, rfl, rfl⟩ := INJ h
    subst h8
    exact rload_p2 p v size w ok hF ho hck hs
  rw [if_neg h8] at h
  by_cases h4096 : off = 4096
  · rw [if_pos h4096] at h
    obtain ⟨rfl, rfl, rfl, rfl, rfl, rfl, rfl⟩ := INJ h
    subst h4096
    exact rload_pend p v size w ok hF ho hck hs
  rw [if_neg h4096] at h
  by_cases h8192 : off = 8192
  · rw [if_pos h8192] at h
    obtain ⟨rfl, rfl, rfl, rfl, rfl, rfl, rfl⟩ := INJ h
    subst h8192
    exact rload_e0 p v size w ok hF ho hck hs
  rw [if_neg h8192] at h
  by_cases h8320 : off = 8320
  · rw [if_pos h8320] at h
    obtain ⟨rfl, rfl, rfl, rfl, rfl, rfl, rfl⟩ := INJ h
    subst h8320
    exact rload_e1 p v size w ok hF ho hck hs
  rw [if_neg h8320] at h
  by_cases h2097152 : off = 2097152
  · rw [if_pos h2097152] at h
    obtain ⟨rfl, rfl, rfl, rfl, rfl, rfl, rfl⟩ := INJ h
    subst h2097152
    exact rload_t0 p v size w ok hF ho hck hs
  rw [if_neg h2097152] at h
  by_cases h2101248 : off = 2101248
  · rw [if_pos h2101248] at h
    obtain ⟨rfl, rfl, rfl, rfl, rfl, rfl, rfl⟩ := INJ h
    subst h2101248
    exact rload_t1 p v size w ok hF ho hck hs
  rw [if_neg h2101248] at h
  by_cases h2097156 : off = 2097156
  · rw [if_pos h2097156] at h
    subst h2097156
    exact rload_c0 p v size w ok hF ho hck hs r1 ⟨q0, x, y, q3, q4⟩ r7 (by rw [claim_is p ho hck 0 (by decide)]; exact h)
  rw [if_neg h2097156] at h
  by_cases h2101252 : off = 2101252
  · rw [if_pos h2101252] at h
    subst h2101252
    exact rload_c1 p v size w ok hF ho hck hs r1 ⟨q0, x, y, q3, q4⟩ r7 (by rw [claim_is p ho hck 1 (by decide)]; exact h)
  rw [if_neg h2101252] at h
  obtain ⟨rfl, rfl, rfl, rfl, rfl, rfl, rfl⟩ := INJ h
  exact rload_none p v off size w ok hF ho hck hs (beq_eq_false_iff_ne.mpr h4) (beq_eq_false_iff_ne.mpr h8) (beq_eq_false_iff_ne.mpr h4096) (beq_eq_false_iff_ne.mpr h8192) (beq_eq_false_iff_ne.mpr h8320) (beq_eq_false_iff_ne.mpr h2097152) (beq_eq_false_iff_ne.mpr h2101248) (beq_eq_false_iff_ne.mpr h2097156) (beq_eq_false_iff_ne.mpr h2101252)
theorem rstore_c (X : Int) (hX : u64B X) (p2 : Pd) (r6 : Bool) (h : plic_Store.f p.q0 p.x p.y p.q3 p.q4 off size X = some (p2.q0, p2.x, p2.y, p2.q3, p2.q4, r6)) :
    Calls Try.prog 14 #[.agg (PC p v), .int .u64 off, .int .i64 size, .int .u64 X] w fun e w' => ∃ v' : Pv, e = .returned (.tuple #[.agg (PC p2 v'), .bool r6]) ∧ PF w' (fun j => ok j ∨ w.heap.size ≤ j) p2 v' ∧ Below w.heap.size w w' := by
  obtain ⟨q0, x, y, q3, q4⟩ := p2
  dsimp only at h
  unfold plic_Store.f at h
  have INJ : ∀ {q0 q0' : List Int} {x x' y y' : Int} {q3 q3' q4 q4' : List Int} {r7 r7' : Bool}, (some (q0', x', y', q3', q4', r7') : Option (List Int × Int × Int × List Int × List Int × Bool)) = some (q0, x, y, q3, q4, r7) → q0' = q0 ∧ x' = x ∧ y' = y ∧ q3' = q3 ∧ q4' = q4 ∧ r7' = r7 := fun h => by injection h with h; injection h with h2 h; injection h with h3 h; injection h with h4 h; injection h with h5 h; injection h with h6 h7; exact ⟨h2, h3, h4, h5, h6, h7⟩
  by_cases hg : checkZ p.q0 p.x p.y p.q3 p.q4 = true ∧ size = 4
  case neg =>
    rw [if_neg hg] at h
    obtain ⟨rfl, rfl, rfl, rfl, rfl, rfl⟩ := INJ h
    cases hck : ckP p
    · exact rstore_nock p v off size X w ok hF ho hck
    · exact rstore_nosz p v off size X w ok hF ho hck (bne_iff_ne.mpr fun e => hg ⟨hck, e⟩)
  rw [if_pos hg] at h
  obtain ⟨hck, hs⟩ := hg
  obtain ⟨a', b', e', f', g', h', e1, e2, e3, r1, r2, mp, mc, r3, r4, r5, r6'⟩ := check_get hck ho.x ho.y ho.q3
  have hw : IntKind.u32.wrap X = X.tmod 4294967296 := by rw [IntKind.wrap_u32, Int.tmod_eq_emod_of_nonneg hX.1]
  by_cases h4 : off = 4
  · rw [if_pos h4] at h
    obtain ⟨rfl, rfl, rfl, rfl, rfl, rfl⟩ := INJ h
    subst h4
    exact rstore_p1 p v size X w ok hF ho hck hs _ (num8 X hX)
  rw [if_neg h4] at h
  by_cases h8 : off = 8
  · rw [if_pos h8] at h
    obtain ⟨rfl, rfl, rfl, rfl, rfl, rfl⟩ := INJ h
    subst h8
    exact rstore_p2 p v size X w ok hF ho hck hs _ (num8 X hX)
  rw [if_neg h8] at h
  by_cases h4096 : off = 4096
  · rw [if_pos h4096] at h
    obtain ⟨rfl, rfl, rfl, rfl, rfl, rfl⟩ := INJ h
    subst h4096
    exact rstore_pend p v size X w ok hF ho hck hs
  rw [if_neg h4096] at h
  by_cases h8192 : off = 8192
  · rw [if_pos h8192] at h
    obtain ⟨rfl, rfl, rfl, rfl, rfl, rfl⟩ := INJ h
    subst h8192
    exact rstore_e0 p v size X w ok hF ho hck hs _ (num6 X hX)
  rw [if_neg h8192] at h
  by_cases h8320 : off = 8320
  · rw [if_pos h8320] at h
    obtain ⟨rfl, rfl, rfl, rfl, rfl, rfl⟩ := INJ h
    subst h8320
    exact rstore_e1 p v size X w ok hF ho hck hs _ (num6 X hX)
  rw [if_neg h8320] at h
  by_cases h2097152 : off = 2097152
  · rw [if_pos h2097152] at h
    obtain ⟨rfl, rfl, rfl, rfl, rfl, rfl⟩ := INJ h
    subst h2097152
    exact rstore_t0 p v size X w ok hF ho hck hs _ (num8 X hX)
  rw [if_neg h2097152] at h
  by_cases h2101248 : off = 2101248
  · rw [if_pos h2101248] at h
    obtain ⟨rfl, rfl, rfl, rfl, rfl, rfl⟩ := INJ h
    subst h2101248
    exact rstore_t1 p v size X w ok hF ho hck hs _ (num8 X hX)
  rw [if_neg h2101248] at h
  by_cases h2097156 : off = 2097156
  · rw [if_pos h2097156] at h
    subst h2097156
    have me : m6 (rd p.q3 0) := by rw [e2]; exact rd_or r3 r4 (by decide)
    unfold giveZ at h
    by_cases y1 : IntKind.u32.wrap X = 1
    · rw [if_pos y1] at h
      obtain ⟨rfl, rfl, rfl, rfl, rfl, rfl⟩ := INJ h
      rw [give_is mc me 2 (.inl rfl)]
      rw [hw] at y1
      cases hb : (Go.bits .and .i64 (rd p.q3 0) 2 != 0)
      · exact rstore_c01n p v size X w ok hF ho hck hs y1 hb
      · exact rstore_c01y p v size X w ok hF ho hck hs y1 hb
    rw [if_neg y1] at h
    by_cases y2 : IntKind.u32.wrap X = 2
    · rw [if_pos y2] at h
      obtain ⟨rfl, rfl, rfl, rfl, rfl, rfl⟩ := INJ h
      rw [give_is mc me 4 (.inr rfl)]
      rw [hw] at y2
      cases hb : (Go.bits .and .i64 (rd p.q3 0) 4 != 0)
      · exact rstore_c02n p v size X w ok hF ho hck hs y2 hb
      · exact rstore_c02y p v size X w ok hF ho hck hs y2 hb
    rw [if_neg y2] at h
    obtain ⟨rfl, rfl, rfl, rfl, rfl, rfl⟩ := INJ h
    rw [hw] at y1 y2
    exact rstore_c00n p v size X w ok hF ho hck hs (beq_eq_false_iff_ne.mpr y1) (beq_eq_false_iff_ne.mpr y2)
  rw [if_neg h2097156] at h
  by_cases h2101252 : off = 2101252
  · rw [if_pos h2101252] at h
    subst h2101252
    have me : m6 (rd p.q3 1) := by rw [e2]; exact rd_or r3 r4 (by decide)
    unfold giveZ at h
    by_cases y1 : IntKind.u32.wrap X = 1
    · rw [if_pos y1] at h
      obtain ⟨rfl, rfl, rfl, rfl, rfl, rfl⟩ := INJ h
      rw [give_is mc me 2 (.inl rfl)]
      rw [hw] at y1
      cases hb : (Go.bits .and .i64 (rd p.q3 1) 2 != 0)
      · exact rstore_c11n p v size X w ok hF ho hck hs y1 hb
      · exact rstore_c11y p v size X w ok hF ho hck hs y1 hb
    rw [if_neg y1] at h
    by_cases y2 : IntKind.u32.wrap X = 2
    · rw [if_pos y2] at h
      obtain ⟨rfl, rfl, rfl, rfl, rfl, rfl⟩ := INJ h
      rw [give_is mc me 4 (.inr rfl)]
      rw [hw] at y2
      cases hb : (Go.bits .and .i64 (rd p.q3 1) 4 != 0)
      · exact rstore_c12n p v size X w ok hF ho hck hs y2 hb
      · exact rstore_c12y p v size X w ok hF ho hck hs y2 hb
    rw [if_neg y2] at h
    obtain ⟨rfl, rfl, rfl, rfl, rfl, rfl⟩ := INJ h
    rw [hw] at y1 y2
    exact rstore_c10n p v size X w ok hF ho hck hs (beq_eq_false_iff_ne.mpr y1) (beq_eq_false_iff_ne.mpr y2)
  rw [if_neg h2101252] at h
  obtain ⟨rfl, rfl, rfl, rfl, rfl, rfl⟩ := INJ h
  exact rstore_none p v off size X w ok hF ho hck hs (beq_eq_false_iff_ne.mpr h4) (beq_eq_false_iff_ne.mpr h8) (beq_eq_false_iff_ne.mpr h4096) (beq_eq_false_iff_ne.mpr h8192) (beq_eq_false_iff_ne.mpr h8320) (beq_eq_false_iff_ne.mpr h2097152) (beq_eq_false_iff_ne.mpr h2101248) (beq_eq_false_iff_ne.mpr h2097156) (beq_eq_false_iff_ne.mpr h2101252)
end
end Go.Proofs.Ytmlpnjoejdpblaa.Q
end
section
/- The rest that PlicDoes calls: the program's functions, New, Same on equal controllers, over the letters. -/
namespace Go.Proofs.Ytmlpnjoejdpblaa.Q
open Go.RowKit Go.Proofs.YtmlpnjoejdpblaaW.PrintWords Go.Proofs.YtmlpnjoejdpblaaW.PrintLast Go.Proofs.YtmlpnjoejdpblaaW.PrintMore Go.Proofs.Ytmlpnjoejdpblaa.L
set_option linter.unusedVariables false
def Tot {α : Type} (o : Option α) : Prop := ∃ t, o = some t
theorem Tot.ite {α : Type} {c : Prop} [Decidable c] {o1 o2 : Option α} (h1 : Tot o1) (h2 : Tot o2) : Tot (if c then o1 else o2) := by
  by_cases h : c
  · rw [if_pos h]; exact h1
  · rw [if_neg h]; exact h2
theorem Tot.some {α : Type} (t : α) : Tot (some t) := ⟨t, rfl⟩
theorem load_tot (p : Pd) (off size : Int) : ∃ (r1 : Int) (p2 : Pd) (r7 : Bool), plic_Load.f p.q0 p.x p.y p.q3 p.q4 off size = some (r1, p2.q0, p2.x, p2.y, p2.q3, p2.q4, r7) := by
  have h : Tot (plic_Load.f p.q0 p.x p.y p.q3 p.q4 off size) := by
    unfold plic_Load.f claimZ
    repeat' (first | refine Tot.ite ?_ ?_ | exact Tot.some _)
  obtain ⟨⟨r1, q0, x, y, q3, q4, r7⟩, h⟩ := h
  exact ⟨r1, ⟨q0, x, y, q3, q4⟩, r7, h⟩
theorem store_tot (p : Pd) (off size X : Int) : ∃ (p2 : Pd) (r6 : Bool), plic_Store.f p.q0 p.x p.y p.q3 p.q4 off size X = some (p2.q0, p2.x, p2.y, p2.q3, p2.q4, r6) := by
  have h : Tot (plic_Store.f p.q0 p.x p.y p.q3 p.q4 off size X) := by
    unfold plic_Store.f giveZ
    repeat' (first | refine Tot.ite ?_ ?_ | exact Tot.some _)
  obtain ⟨⟨q0, x, y, q3, q4, r6⟩, h⟩ := h
  exact ⟨⟨q0, x, y, q3, q4⟩, r6, h⟩
theorem set_tot (p : Pd) (k : Int) : ∃ p2 : Pd, plic_Set.f p.q0 p.x p.y p.q3 p.q4 k = some (p2.q0, p2.x, p2.y, p2.q3, p2.q4) := by
  have h : Tot (plic_Set.f p.q0 p.x p.y p.q3 p.q4 k) := by
    unfold plic_Set.f plic_Check.f
    rw [Option.bind_some]
    repeat' (first | refine Tot.ite ?_ ?_ | exact Tot.some _)
  obtain ⟨⟨q0, x, y, q3, q4⟩, h⟩ := h
  exact ⟨⟨q0, x, y, q3, q4⟩, h⟩
theorem best_tot (p : Pd) (ho : OKP p) (k : Int) : ∃ n, plic_Best.f 4 p.q0 p.x p.y p.q3 p.q4 k = some n ∧ drawbridgeref10_Best.f 4 p.q0 p.x p.y p.q3 p.q4 k = some n := by
  have hc := rcheck_is 0 p.q0 p.x p.y p.q3 p.q4 ho.x ho.y ho.q3
  have j1 : drawbridgeref10_Best.j0 4 k true p.q0 p.x p.y p.q3 p.q4 = some 0 := by rw [drawbridgeref10_Best.j0, if_pos rfl]
  cases hk : checkZ p.q0 p.x p.y p.q3 p.q4
  · refine ⟨0, best_no _ _ _ _ _ k 3 (.inl hk), ?_⟩
    unfold drawbridgeref10_Best.f
    rw [hk] at hc
    rw [show (4 : Nat) = 0 + 4 from rfl, hc, Option.bind_some, if_neg (by decide)]
    exact j1
  · by_cases h01 : k = 0 ∨ k = 1
    · refine ⟨_, best_is _ _ _ _ _ k 0 hk h01, ?_⟩
      obtain ⟨a, b, e, f, g, h, e1, e2, e3, r1, r2, mp, mc, r3, r4, r5, r6⟩ := check_get hk ho.x ho.y ho.q3
      rw [hk] at hc
      rw [e1, e2, e3] at hc ⊢
      exact rbest_is 0 r1 r2 mp mc r3 r4 r5 r6 k h01 hc
    · refine ⟨0, best_no _ _ _ _ _ k 3 (.inr (by omega)), ?_⟩
      unfold drawbridgeref10_Best.f
      rw [hk] at hc
      rw [show (4 : Nat) = 0 + 4 from rfl, hc, Option.bind_some, if_pos rfl]
      by_cases hn : k < 0
      · rw [if_pos hn]; exact j1
      · rw [if_neg hn, decide_eq_true (by omega)]; exact j1
section
variable {w : World} {ok : Nat → Prop} {p : Pd} {v : Pv} (hF : PF w ok p v)
include hF
theorem pload_c (off size r1 : Int) (p2 : Pd) (r7 : Bool) (h : plic_Load.f p.q0 p.x p.y p.q3 p.q4 off size = some (r1, p2.q0, p2.x, p2.y, p2.q3, p2.q4, r7)) :
    Calls Try.prog 11 #[.agg (PC p v), .int .u64 off, .int .i64 size] w fun e w' => ∃ v' : Pv, e = .returned (.tuple #[.int .u64 r1, .agg (PC p2 v'), .bool r7]) ∧ PF w' (fun j => ok j ∨ w.heap.size ≤ j) p2 v' ∧ Below w.heap.size w w' := by
  obtain ⟨A0, c0, e0, h0⟩ := hF.p0.V (ty := 3) (n := w.heap.size)
  obtain ⟨A3, c3, e3, h3⟩ := hF.p3.V (ty := 3) (n := w.heap.size)
  obtain ⟨A4, c4, e4, h4⟩ := hF.p4.V (ty := 3) (n := w.heap.size)
  unfold PC
  rw [e0, e3, e4]
  refine (plic_Load.calls ok A0 c0 p.q0 p.x p.y ok A3 c3 p.q3 ok A4 c4 p.q4 off size r1 p2.q0 p2.x p2.y p2.q3 p2.q4 r7 w h0 h3 h4 h).mono ?_
  rintro e w' ⟨v0, v3, v4, he, s0, s3, s4, hb⟩
  exact ⟨⟨v0, v3, v4⟩, he, ⟨(SL.of_V s0).mono (fun j hj => by simpa using hj), (SL.of_V s3).mono (fun j hj => by simpa using hj), (SL.of_V s4).mono (fun j hj => by simpa using hj)⟩, hb⟩
theorem pstore_c (off size X : Int) (p2 : Pd) (r6 : Bool) (h : plic_Store.f p.q0 p.x p.y p.q3 p.q4 off size X = some (p2.q0, p2.x, p2.y, p2.q3, p2.q4, r6)) :
    Calls Try.prog 12 #[.agg (PC p v), .int .u64 off, .int .i64 size, .int .u64 X] w fun e w' => ∃ v' : Pv, e = .returned (.tuple #[.agg (PC p2 v'), .bool r6]) ∧ PF w' (fun j => ok j ∨ w.heap.size ≤ j) p2 v' ∧ Below w.heap.size w w' := by
  obtain ⟨A0, c0, e0, h0⟩ := hF.p0.V (ty := 3) (n := w.heap.size)
  obtain ⟨A3, c3, e3, h3⟩ := hF.p3.V (ty := 3) (n := w.heap.size)
  obtain ⟨A4, c4, e4, h4⟩ := hF.p4.V (ty := 3) (n := w.heap.size)
  unfold PC
  rw [e0, e3, e4]
  refine (plic_Store.calls ok A0 c0 p.q0 p.x p.y ok A3 c3 p.q3 ok A4 c4 p.q4 off size X p2.q0 p2.x p2.y p2.q3 p2.q4 r6 w h0 h3 h4 h).mono ?_
  rintro e w' ⟨v0, v3, v4, he, s0, s3, s4, hb⟩
  exact ⟨⟨v0, v3, v4⟩, he, ⟨(SL.of_V s0).mono (fun j hj => by simpa using hj), (SL.of_V s3).mono (fun j hj => by simpa using hj), (SL.of_V s4).mono (fun j hj => by simpa using hj)⟩, hb⟩
theorem pset_c (k : Int) (p2 : Pd) (h : plic_Set.f p.q0 p.x p.y p.q3 p.q4 k = some (p2.q0, p2.x, p2.y, p2.q3, p2.q4)) :
    Calls Try.prog 9 #[.agg (PC p v), .int .i64 k] w fun e w' => ∃ v' : Pv, e = .returned (.agg (PC p2 v')) ∧ PF w' (fun j => ok j ∨ w.heap.size ≤ j) p2 v' ∧ Below w.heap.size w w' := by
  obtain ⟨A0, c0, e0, h0⟩ := hF.p0.V (ty := 3) (n := w.heap.size)
  obtain ⟨A3, c3, e3, h3⟩ := hF.p3.V (ty := 3) (n := w.heap.size)
  obtain ⟨A4, c4, e4, h4⟩ := hF.p4.V (ty := 3) (n := w.heap.size)
  unfold PC
  rw [e0, e3, e4]
  refine (plic_Set.calls ok A0 c0 p.q0 p.x p.y ok A3 c3 p.q3 ok A4 c4 p.q4 k p2.q0 p2.x p2.y p2.q3 p2.q4 w h0 h3 h4 h).mono ?_
  rintro e w' ⟨v0, v3, v4, he, s0, s3, s4, hb⟩
  exact ⟨⟨v0, v3, v4⟩, he, ⟨(SL.of_V s0).mono (fun j hj => by simpa using hj), (SL.of_V s3).mono (fun j hj => by simpa using hj), (SL.of_V s4).mono (fun j hj => by simpa using hj)⟩, hb⟩
theorem pbest_c (k n : Int) (h : plic_Best.f 4 p.q0 p.x p.y p.q3 p.q4 k = some n) : Calls Try.prog 16 #[.agg (PC p v), .int .i64 k] w fun e w' => e = .returned (.int .i64 n) ∧ Below w.heap.size w w' := by
  obtain ⟨A0, c0, e0, h0, g0⟩ := hF.p0
  obtain ⟨A3, c3, e3, h3, g3⟩ := hF.p3
  obtain ⟨A4, c4, e4, h4, g4⟩ := hF.p4
  unfold PC
  rw [e0, e3, e4]
  exact plic_Best.calls 4 A0 c0 p.q0 p.x p.y A3 c3 p.q3 A4 c4 p.q4 k n w (Kd.F_now g0) h0 (Kd.F_now g3) h3 (Kd.F_now g4) h4 h
theorem rbest_c (k n : Int) (h : drawbridgeref10_Best.f 4 p.q0 p.x p.y p.q3 p.q4 k = some n) : Calls Try.prog 17 #[.agg (PC p v), .int .i64 k] w fun e w' => e = .returned (.int .i64 n) ∧ Below w.heap.size w w' := by
  obtain ⟨A0, c0, e0, h0, g0⟩ := hF.p0
  obtain ⟨A3, c3, e3, h3, g3⟩ := hF.p3
  obtain ⟨A4, c4, e4, h4, g4⟩ := hF.p4
  unfold PC
  rw [e0, e3, e4]
  exact drawbridgeref10_Best.calls 4 A0 c0 p.q0 p.x p.y A3 c3 p.q3 A4 c4 p.q4 k n w (Kd.F_now g0) h0 (Kd.F_now g3) h3 (Kd.F_now g4) h4 h
theorem pcheck_c (r : Bool) (h : ckP p = r) : Calls Try.prog 7 #[.agg (PC p v)] w fun e w' => e = .returned (.bool r) ∧ Below w.heap.size w w' := by
  obtain ⟨A0, c0, e0, h0, g0⟩ := hF.p0
  obtain ⟨A3, c3, e3, h3, g3⟩ := hF.p3
  obtain ⟨A4, c4, e4, h4, g4⟩ := hF.p4
  unfold PC
  rw [e0, e3, e4]
  subst h
  exact check_runs _ _ _ _ _ _ _ _ _ _ _ _ (Kd.F_now g0) (Kd.F_now g3) (Kd.F_now g4)
theorem psame_c {ok' : Nat → Prop} {v' : Pv} (hG : PF w ok' p v') : Calls Try.prog 8 #[.agg (PC p v), .agg (PC p v')] w fun e w' => e = .returned (.bool true) ∧ Below w.heap.size w w' := by
  have l0 := hF.p0.len
  have l3 := hF.p3.len
  have l4 := hF.p4.len
  obtain ⟨A0, c0, e0, h0, g0⟩ := hF.p0
  obtain ⟨A3, c3, e3, h3, g3⟩ := hF.p3
  obtain ⟨A4, c4, e4, h4, g4⟩ := hF.p4
  obtain ⟨B0, d0, f0, k0, m0⟩ := hG.p0
  obtain ⟨B3, d3, f3, k3, m3⟩ := hG.p3
  obtain ⟨B4, d4, f4, k4, m4⟩ := hG.p4
  unfold PC
  rw [e0, e3, e4, f0, f3, f4]
  exact drawbridgeref10_Same.calls (p.q0.length + p.q3.length + p.q4.length + 1) A0 c0 p.q0 p.x p.y A3 c3 p.q3 A4 c4 p.q4 B0 d0 p.q0 p.x p.y B3 d3 p.q3 B4 d4 p.q4 true w (Kd.F_now g0) h0 (Kd.F_now g3) h3 (Kd.F_now g4) h4 (Kd.F_now m0) k0 (Kd.F_now m3) k3 (Kd.F_now m4) k4 (same_refl _ _ _ _ _ _ l0 l3 l4 (by omega) (by omega) (by omega))
end
def pN : Pd := ⟨[0, 0, 0], 0, 0, [0, 0], [0, 0]⟩
theorem pnew_c (w : World) : Calls Try.prog 19 #[] w fun e w' => ∃ v' : Pv, e = .returned (.agg (PC pN v')) ∧ PF w' (fun j => w.heap.size ≤ j) pN v' ∧ Below w.heap.size w w' := by
  refine (plic_New.calls [0, 0, 0] 0 0 [0, 0] [0, 0] w (by kernel_rfl)).mono ?_
  rintro r w' ⟨p0, p3, p4, he, h0, h3, h4, hb⟩
  exact ⟨⟨p0, p3, p4⟩, he, ⟨SL.of_R h0, SL.of_R h3, SL.of_R h4⟩, hb⟩
theorem rnew_c (w : World) : Calls Try.prog 20 #[] w fun e w' => ∃ v' : Pv, e = .returned (.agg (PC pN v')) ∧ PF w' (fun j => w.heap.size ≤ j) pN v' ∧ Below w.heap.size w w' := by
  refine (drawbridgeref10_New.calls [0, 0, 0] 0 0 [0, 0] [0, 0] w (by kernel_rfl)).mono ?_
  rintro r w' ⟨p0, p3, p4, he, h0, h3, h4, hb⟩
  exact ⟨⟨p0, p3, p4⟩, he, ⟨SL.of_R h0, SL.of_R h3, SL.of_R h4⟩, hb⟩
end Go.Proofs.Ytmlpnjoejdpblaa.Q
end
