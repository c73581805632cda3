import Derived.Test.YtmlpnjoejdpblaaPZ1
import Derived.Test.YtmlpnjoejdpblaaPZ7
import Derived.Deep.DeepCutAuto
import Derived.RegionTactic
import Derived.BigRegion
section
/- The document's Store, refused; what is pending. -/
namespace Go.Proofs.Ytmlpnjoejdpblaa.Q
open Go.RowKit Go.Proofs.YtmlpnjoejdpblaaW.PrintWords Go.Proofs.YtmlpnjoejdpblaaW.PrintLast Go.Proofs.YtmlpnjoejdpblaaW.PrintMore Go.Proofs.Ytmlpnjoejdpblaa.L
attribute [local go_sem] Instr.field part asAgg lt_step max2_int min2_int max_two min_two max_three min_three max_four min_four lt_0_1 lt_0_2 lt_1_2 lt_0_3 lt_1_3 lt_2_3 lt_0_4 lt_1_4 lt_2_4 lt_3_4 lt_0_5 lt_1_5 lt_2_5 lt_3_5 lt_4_5 lt_0_6 lt_1_6 lt_2_6 lt_3_6 lt_4_6 lt_5_6 lt_0_7 lt_1_7 lt_2_7 lt_3_7 lt_4_7 lt_5_7 lt_6_7 lt_0_8 lt_1_8 lt_2_8 lt_3_8 lt_4_8 lt_5_8 lt_6_8 lt_7_8
set_option linter.unusedVariables false
set_option linter.unusedSimpArgs false
set_option maxHeartbeats 1600000 in
set_option maxRecDepth 100000 in
theorem rstore_nock (p : Pd) (v : Pv) (off : Int) (size : Int) (x : Int) (w : World) (ok : Nat → Prop) (hF : PF w ok p v) (ho : OKP p) (hk : ckP p = false) :
    Calls Try.prog 14 #[.agg (PC p v), .int .u64 off, .int .i64 size, .int .u64 x] w fun e w' => ∃ v' : Pv, e = .returned (.tuple #[.agg (PC p v'), .bool false]) ∧ PF w' (fun j => ok j ∨ w.heap.size ≤ j) p v' ∧ Below w.heap.size w w' := by
  have HK := Aside0.mk hk
  clear hk
  have HB := Aside0.mk (Below.refl w.heap.size w)
  have HF := Aside0.mk hF.bound
  have HO := Aside0.mk ho
  have hu := Try.underlying24
  clear hF ho
  go_enter Try.func14, Try.ntmps14
  go_upto_region 1 with fail
  obtain ⟨wa, hwa, on0, pn0, hb_, hz0⟩ := letter2 w (.cells (PC p v) 24 (0, 0)) (.cells PZ 24 (0, 0))
  unfold PZ at hwa
  rw [hwa]
  clear hwa
  have hzwa := Nat.le_of_eq hz0.symm
  clear hz0
  have on := Aside0.mk on0
  have pn := Aside0.mk pn0
  clear on0 pn0
  obtain ⟨onc, onf, onl⟩ := cells_of on.out
  obtain ⟨pnc, pnf, pnl⟩ := cells_of pn.out
  have HB_ : Aside0 (Below w.heap.size w wa) := ⟨hb_⟩
  have HF_ : Aside0 (PF wa (fun j => (ok j ∨ w.heap.size ≤ j) ∧ j ≠ w.heap.size ∧ j ≠ w.heap.size + 1) p v) := ⟨(HF.out.below hb_).mono (fun j hj => ⟨.inl hj.1, by have h_ := hj.2; omega, by have h_ := hj.2; omega⟩)⟩
  clear HB HF hb_; have HB := HB_; have HF := HF_; clear HB_ HF_
  go_wp2_with (first | ((with_reducible refine gate_dst (N := 11) rfl ?_); (try (refine gate_guard (by rfl) ?_; dsimp only)); refine wpList_load_row rfl 24 _ rfl _ (by rfl) _ (PC p v) _ _ (eG on) Try.underlying24 rfl infPC ?_))
  (go_at_call 18; (with_reducible refine (rcheck_c HF.out HO.out false HK.out).mono ?_); rintro e_ w1 ⟨rfl, hb_⟩; have HB_ : Aside0 (Below w.heap.size w w1) := Aside0.mk (below_step (bG HB) hb_); have hzw1 := hb_.size; (try simp at hzw1); have on_ := Aside0.mk (box_below hb_ (eG on)); have pn_ := Aside0.mk (box_below hb_ (eG pn)); (try clear on onc onf onl); have on := on_; clear on_; obtain ⟨onc, onf, onl⟩ := cells_of on.out; (try clear pn pnc pnf pnl); have pn := pn_; clear pn_; obtain ⟨pnc, pnf, pnl⟩ := cells_of pn.out; have HF_ := Aside0.mk (PF.below (by repeat (with_reducible first | exact HF.out | apply PF.drew | apply PF.drewN | apply PF.alloc)) hb_); clear HF; have HF := HF_; clear HF_; clear HB hb_; have HB := HB_; clear HB_)
  go_wp2_with (first | ((with_reducible refine gate_dst (N := 18) rfl ?_); (try (refine gate_guard (by rfl) ?_; dsimp only)); refine wpList_load_row rfl 24 _ rfl _ (by rfl) _ (PC p v) _ _ (eG on) Try.underlying24 rfl infPC ?_) | ((with_reducible refine gate_store (t := 24) (p := 8) (v := .tmp 18) rfl ?_); refine wpList_store_all rfl 24 _ _ rfl rfl _ (PC p v) (by rfl) (by rfl) _ _ pn.out rfl infPC (HF.out.one) ?_; rintro w8 ⟨hx_, hk_, hb_, hzz_⟩; have HB_ : Aside0 (Below w.heap.size w w8) := Aside0.mk (Below.trans (bG HB) (Below.mono hb_ (by first | omega | (simp only [sz_alloc, sz_drew, sz_drewN]; omega)))); have hzw8 := hzz_; (try simp at hzw8); clear hzz_; have on_ := Aside0.mk (st_put on.out hk_ (fun h_ => (by repeat (with_reducible first | exact h_ | apply ext_drew | apply ext_drewN | apply ext_alloc | refine blk_far ?_ (by show _ ≠ _; dsimp only; omega) _))) (by omega)); clear on onc onf onl; have on := on_; clear on_; obtain ⟨onc, onf, onl⟩ := cells_of on.out; (first | (have HF_ := Aside0.mk (PF.step HF.out (fun j hj _ => hk_ j (hj.2.2)))) | (have HF_ := Aside0.mk (PF.step (PF.alloc HF.out _) (fun j hj _ => hk_ j (hj.2.2))))); clear HF; have HF := HF_; clear HF_; (try clear pn pnc pnf pnl); have pn := Aside0.mk hx_; obtain ⟨pnc, pnf, pnl⟩ := cells_of pn.out; clear HB hb_ hk_ hx_; have HB := HB_; clear HB_))
  refine bodyPost_ret (results_ct rfl _ _ (w.heap.size + 1) 24 (PC p v) (0, 0) _ rfl pn.out Try.underlying24 rfl infPC) rfl ⟨v, rfl, HF.out.mono (fun j hj => hj.1), (bG HB)⟩
set_option maxHeartbeats 1600000 in
set_option maxRecDepth 100000 in
theorem rstore_nosz (p : Pd) (v : Pv) (off : Int) (size : Int) (x : Int) (w : World) (ok : Nat → Prop) (hF : PF w ok p v) (ho : OKP p) (hk : ckP p = true) (hsz : (size != 4) = true) :
    Calls Try.prog 14 #[.agg (PC p v), .int .u64 off, .int .i64 size, .int .u64 x] w fun e w' => ∃ v' : Pv, e = .returned (.tuple #[.agg (PC p v'), .bool false]) ∧ PF w' (fun j => ok j ∨ w.heap.size ≤ j) p v' ∧ Below w.heap.size w w' := by
  have HK := Aside0.mk hk
  clear hk
  have HB := Aside0.mk (Below.refl w.heap.size w)
  have HF := Aside0.mk hF.bound
  have HO := Aside0.mk ho
  have hu := Try.underlying24
  clear hF ho
  go_enter Try.func14, Try.ntmps14
  go_upto_region 1 with fail
  obtain ⟨wa, hwa, on0, pn0, hb_, hz0⟩ := letter2 w (.cells (PC p v) 24 (0, 0)) (.cells PZ 24 (0, 0))
  unfold PZ at hwa
  rw [hwa]
  clear hwa
  have hzwa := Nat.le_of_eq hz0.symm
  clear hz0
  have on := Aside0.mk on0
  have pn := Aside0.mk pn0
  clear on0 pn0
  obtain ⟨onc, onf, onl⟩ := cells_of on.out
  obtain ⟨pnc, pnf, pnl⟩ := cells_of pn.out
  have HB_ : Aside0 (Below w.heap.size w wa) := ⟨hb_⟩
  have HF_ : Aside0 (PF wa (fun j => (ok j ∨ w.heap.size ≤ j) ∧ j ≠ w.heap.size ∧ j ≠ w.heap.size + 1) p v) := ⟨(HF.out.below hb_).mono (fun j hj => ⟨.inl hj.1, by have h_ := hj.2; omega, by have h_ := hj.2; omega⟩)⟩
  clear HB HF hb_; have HB := HB_; have HF := HF_; clear HB_ HF_
  go_wp2_with (first | ((with_reducible refine gate_dst (N := 11) rfl ?_); (try (refine gate_guard (by rfl) ?_; dsimp only)); refine wpList_load_row rfl 24 _ rfl _ (by rfl) _ (PC p v) _ _ (eG on) Try.underlying24 rfl infPC ?_))
  (go_at_call 18; (with_reducible refine (rcheck_c HF.out HO.out true HK.out).mono ?_); rintro e_ w1 ⟨rfl, hb_⟩; have HB_ : Aside0 (Below w.heap.size w w1) := Aside0.mk (below_step (bG HB) hb_); have hzw1 := hb_.size; (try simp at hzw1); have on_ := Aside0.mk (box_below hb_ (eG on)); have pn_ := Aside0.mk (box_below hb_ (eG pn)); (try clear on onc onf onl); have on := on_; clear on_; obtain ⟨onc, onf, onl⟩ := cells_of on.out; (try clear pn pnc pnf pnl); have pn := pn_; clear pn_; obtain ⟨pnc, pnf, pnl⟩ := cells_of pn.out; have HF_ := Aside0.mk (PF.below (by repeat (with_reducible first | exact HF.out | apply PF.drew | apply PF.drewN | apply PF.alloc)) hb_); clear HF; have HF := HF_; clear HF_; clear HB hb_; have HB := HB_; clear HB_)
  go_wp2_with (first | ((with_reducible refine gate_dst (N := 18) rfl ?_); (try (refine gate_guard (by rfl) ?_; dsimp only)); refine wpList_load_row rfl 24 _ rfl _ (by rfl) _ (PC p v) _ _ (eG on) Try.underlying24 rfl infPC ?_) | ((with_reducible refine gate_store (t := 24) (p := 8) (v := .tmp 18) rfl ?_); refine wpList_store_all rfl 24 _ _ rfl rfl _ (PC p v) (by rfl) (by rfl) _ _ pn.out rfl infPC (HF.out.one) ?_; rintro w8 ⟨hx_, hk_, hb_, hzz_⟩; have HB_ : Aside0 (Below w.heap.size w w8) := Aside0.mk (Below.trans (bG HB) (Below.mono hb_ (by first | omega | (simp only [sz_alloc, sz_drew, sz_drewN]; omega)))); have hzw8 := hzz_; (try simp at hzw8); clear hzz_; have on_ := Aside0.mk (st_put on.out hk_ (fun h_ => (by repeat (with_reducible first | exact h_ | apply ext_drew | apply ext_drewN | apply ext_alloc | refine blk_far ?_ (by show _ ≠ _; dsimp only; omega) _))) (by omega)); clear on onc onf onl; have on := on_; clear on_; obtain ⟨onc, onf, onl⟩ := cells_of on.out; (first | (have HF_ := Aside0.mk (PF.step HF.out (fun j hj _ => hk_ j (hj.2.2)))) | (have HF_ := Aside0.mk (PF.step (PF.alloc HF.out _) (fun j hj _ => hk_ j (hj.2.2))))); clear HF; have HF := HF_; clear HF_; (try clear pn pnc pnf pnl); have pn := Aside0.mk hx_; obtain ⟨pnc, pnf, pnl⟩ := cells_of pn.out; clear HB hb_ hk_ hx_; have HB := HB_; clear HB_))
  refine bodyPost_ret (results_ct rfl _ _ (w.heap.size + 1) 24 (PC p v) (0, 0) _ rfl pn.out Try.underlying24 rfl infPC) rfl ⟨v, rfl, HF.out.mono (fun j hj => hj.1), (bG HB)⟩
set_option maxHeartbeats 1600000 in
set_option maxRecDepth 100000 in
theorem rstore_none (p : Pd) (v : Pv) (off : Int) (size : Int) (x : Int) (w : World) (ok : Nat → Prop) (hF : PF w ok p v) (ho : OKP p) (hk : ckP p = true) (hs : size = 4) (h0 : (off == 4) = false) (h1 : (off == 8) = false) (h2 : (off == 4096) = false) (h3 : (off == 8192) = false) (h4 : (off == 8320) = false) (h5 : (off == 2097152) = false) (h6 : (off == 2101248) = false) (h7 : (off == 2097156) = false) (h8 : (off == 2101252) = false) :
    Calls Try.prog 14 #[.agg (PC p v), .int .u64 off, .int .i64 size, .int .u64 x] w fun e w' => ∃ v' : Pv, e = .returned (.tuple #[.agg (PC p v'), .bool false]) ∧ PF w' (fun j => ok j ∨ w.heap.size ≤ j) p v' ∧ Below w.heap.size w w' := by
  subst hs
  have HK := Aside0.mk hk
  clear hk
  have HB := Aside0.mk (Below.refl w.heap.size w)
  have HF := Aside0.mk hF.bound
  have HO := Aside0.mk ho
  have hu := Try.underlying24
  clear hF ho
  go_enter Try.func14, Try.ntmps14
  go_upto_region 1 with fail
  obtain ⟨wa, hwa, on0, pn0, hb_, hz0⟩ := letter2 w (.cells (PC p v) 24 (0, 0)) (.cells PZ 24 (0, 0))
  unfold PZ at hwa
  rw [hwa]
  clear hwa
  have hzwa := Nat.le_of_eq hz0.symm
  clear hz0
  have on := Aside0.mk on0
  have pn := Aside0.mk pn0
  clear on0 pn0
  obtain ⟨onc, onf, onl⟩ := cells_of on.out
  obtain ⟨pnc, pnf, pnl⟩ := cells_of pn.out
  have HB_ : Aside0 (Below w.heap.size w wa) := ⟨hb_⟩
  have HF_ : Aside0 (PF wa (fun j => (ok j ∨ w.heap.size ≤ j) ∧ j ≠ w.heap.size ∧ j ≠ w.heap.size + 1) p v) := ⟨(HF.out.below hb_).mono (fun j hj => ⟨.inl hj.1, by have h_ := hj.2; omega, by have h_ := hj.2; omega⟩)⟩
  clear HB HF hb_; have HB := HB_; have HF := HF_; clear HB_ HF_
  go_wp2_with (first | ((with_reducible refine gate_dst (N := 11) rfl ?_); (try (refine gate_guard (by rfl) ?_; dsimp only)); refine wpList_load_row rfl 24 _ rfl _ (by rfl) _ (PC p v) _ _ (eG on) Try.underlying24 rfl infPC ?_))
  (go_at_call 18; (with_reducible refine (rcheck_c HF.out HO.out true HK.out).mono ?_); rintro e_ w1 ⟨rfl, hb_⟩; have HB_ : Aside0 (Below w.heap.size w w1) := Aside0.mk (below_step (bG HB) hb_); have hzw1 := hb_.size; (try simp at hzw1); have on_ := Aside0.mk (box_below hb_ (eG on)); have pn_ := Aside0.mk (box_below hb_ (eG pn)); (try clear on onc onf onl); have on := on_; clear on_; obtain ⟨onc, onf, onl⟩ := cells_of on.out; (try clear pn pnc pnf pnl); have pn := pn_; clear pn_; obtain ⟨pnc, pnf, pnl⟩ := cells_of pn.out; have HF_ := Aside0.mk (PF.below (by repeat (with_reducible first | exact HF.out | apply PF.drew | apply PF.drewN | apply PF.alloc)) hb_); clear HF; have HF := HF_; clear HF_; clear HB hb_; have HB := HB_; clear HB_)
  go_wp2_with (first | ((with_reducible refine gate_dst (N := 22) rfl ?_); (try (refine gate_guard (by rfl) ?_; dsimp only)); refine wpList_load_row rfl 24 _ rfl _ (by rfl) _ (PC p v) _ _ (eG on) Try.underlying24 rfl infPC ?_) | ((with_reducible refine gate_store (t := 24) (p := 8) (v := .tmp 22) rfl ?_); refine wpList_store_all rfl 24 _ _ rfl rfl _ (PC p v) (by rfl) (by rfl) _ _ pn.out rfl infPC (HF.out.one) ?_; rintro w8 ⟨hx_, hk_, hb_, hzz_⟩; have HB_ : Aside0 (Below w.heap.size w w8) := Aside0.mk (Below.trans (bG HB) (Below.mono hb_ (by first | omega | (simp only [sz_alloc, sz_drew, sz_drewN]; omega)))); have hzw8 := hzz_; (try simp at hzw8); clear hzz_; have on_ := Aside0.mk (st_put on.out hk_ (fun h_ => (by repeat (with_reducible first | exact h_ | apply ext_drew | apply ext_drewN | apply ext_alloc | refine blk_far ?_ (by show _ ≠ _; dsimp only; omega) _))) (by omega)); clear on onc onf onl; have on := on_; clear on_; obtain ⟨onc, onf, onl⟩ := cells_of on.out; (first | (have HF_ := Aside0.mk (PF.step HF.out (fun j hj _ => hk_ j (hj.2.2)))) | (have HF_ := Aside0.mk (PF.step (PF.alloc HF.out _) (fun j hj _ => hk_ j (hj.2.2))))); clear HF; have HF := HF_; clear HF_; (try clear pn pnc pnf pnl); have pn := Aside0.mk hx_; obtain ⟨pnc, pnf, pnl⟩ := cells_of pn.out; clear HB hb_ hk_ hx_; have HB := HB_; clear HB_))
  refine bodyPost_ret (results_ct rfl _ _ (w.heap.size + 1) 24 (PC p v) (0, 0) _ rfl pn.out Try.underlying24 rfl infPC) rfl ⟨v, rfl, HF.out.mono (fun j hj => hj.1), (bG HB)⟩
set_option maxHeartbeats 1600000 in
set_option maxRecDepth 100000 in
theorem rstore_pend (p : Pd) (v : Pv) (size : Int) (x : Int) (w : World) (ok : Nat → Prop) (hF : PF w ok p v) (ho : OKP p) (hk : ckP p = true) (hs : size = 4) :
    Calls Try.prog 14 #[.agg (PC p v), .int .u64 4096, .int .i64 size, .int .u64 x] w fun e w' => ∃ v' : Pv, e = .returned (.tuple #[.agg (PC p v'), .bool true]) ∧ PF w' (fun j => ok j ∨ w.heap.size ≤ j) p v' ∧ Below w.heap.size w w' := by
  subst hs
  have HK := Aside0.mk hk
  clear hk
  have HB := Aside0.mk (Below.refl w.heap.size w)
  have HF := Aside0.mk hF.bound
  have HO := Aside0.mk ho
  have hu := Try.underlying24
  clear hF ho
  go_enter Try.func14, Try.ntmps14
  go_upto_region 1 with fail
  obtain ⟨wa, hwa, on0, pn0, hb_, hz0⟩ := letter2 w (.cells (PC p v) 24 (0, 0)) (.cells PZ 24 (0, 0))
  unfold PZ at hwa
  rw [hwa]
  clear hwa
  have hzwa := Nat.le_of_eq hz0.symm
  clear hz0
  have on := Aside0.mk on0
  have pn := Aside0.mk pn0
  clear on0 pn0
  obtain ⟨onc, onf, onl⟩ := cells_of on.out
  obtain ⟨pnc, pnf, pnl⟩ := cells_of pn.out
  have HB_ : Aside0 (Below w.heap.size w wa) := ⟨hb_⟩
  have HF_ : Aside0 (PF wa (fun j => (ok j ∨ w.heap.size ≤ j) ∧ j ≠ w.heap.size ∧ j ≠ w.heap.size + 1) p v) := ⟨(HF.out.below hb_).mono (fun j hj => ⟨.inl hj.1, by have h_ := hj.2; omega, by have h_ := hj.2; omega⟩)⟩
  clear HB HF hb_; have HB := HB_; have HF := HF_; clear HB_ HF_
  go_wp2_with (first | ((with_reducible refine gate_dst (N := 11) rfl ?_); (try (refine gate_guard (by rfl) ?_; dsimp only)); refine wpList_load_row rfl 24 _ rfl _ (by rfl) _ (PC p v) _ _ (eG on) Try.underlying24 rfl infPC ?_))
  (go_at_call 18; (with_reducible refine (rcheck_c HF.out HO.out true HK.out).mono ?_); rintro e_ w1 ⟨rfl, hb_⟩; have HB_ : Aside0 (Below w.heap.size w w1) := Aside0.mk (below_step (bG HB) hb_); have hzw1 := hb_.size; (try simp at hzw1); have on_ := Aside0.mk (box_below hb_ (eG on)); have pn_ := Aside0.mk (box_below hb_ (eG pn)); (try clear on onc onf onl); have on := on_; clear on_; obtain ⟨onc, onf, onl⟩ := cells_of on.out; (try clear pn pnc pnf pnl); have pn := pn_; clear pn_; obtain ⟨pnc, pnf, pnl⟩ := cells_of pn.out; have HF_ := Aside0.mk (PF.below (by repeat (with_reducible first | exact HF.out | apply PF.drew | apply PF.drewN | apply PF.alloc)) hb_); clear HF; have HF := HF_; clear HF_; clear HB hb_; have HB := HB_; clear HB_)
  go_wp2_with (first | ((with_reducible refine gate_dst (N := 91) rfl ?_); (try (refine gate_guard (by rfl) ?_; dsimp only)); refine wpList_load_row rfl 24 _ rfl _ (by rfl) _ (PC p v) _ _ (eG on) Try.underlying24 rfl infPC ?_) | ((with_reducible refine gate_store (t := 24) (p := 8) (v := .tmp 91) rfl ?_); refine wpList_store_all rfl 24 _ _ rfl rfl _ (PC p v) (by rfl) (by rfl) _ _ pn.out rfl infPC (HF.out.one) ?_; rintro w8 ⟨hx_, hk_, hb_, hzz_⟩; have HB_ : Aside0 (Below w.heap.size w w8) := Aside0.mk (Below.trans (bG HB) (Below.mono hb_ (by first | omega | (simp only [sz_alloc, sz_drew, sz_drewN]; omega)))); have hzw8 := hzz_; (try simp at hzw8); clear hzz_; have on_ := Aside0.mk (st_put on.out hk_ (fun h_ => (by repeat (with_reducible first | exact h_ | apply ext_drew | apply ext_drewN | apply ext_alloc | refine blk_far ?_ (by show _ ≠ _; dsimp only; omega) _))) (by omega)); clear on onc onf onl; have on := on_; clear on_; obtain ⟨onc, onf, onl⟩ := cells_of on.out; (first | (have HF_ := Aside0.mk (PF.step HF.out (fun j hj _ => hk_ j (hj.2.2)))) | (have HF_ := Aside0.mk (PF.step (PF.alloc HF.out _) (fun j hj _ => hk_ j (hj.2.2))))); clear HF; have HF := HF_; clear HF_; (try clear pn pnc pnf pnl); have pn := Aside0.mk hx_; obtain ⟨pnc, pnf, pnl⟩ := cells_of pn.out; clear HB hb_ hk_ hx_; have HB := HB_; clear HB_))
  refine bodyPost_ret (results_ct rfl _ _ (w.heap.size + 1) 24 (PC p v) (0, 0) _ rfl pn.out Try.underlying24 rfl infPC) rfl ⟨v, rfl, HF.out.mono (fun j hj => hj.1), (bG HB)⟩
end Go.Proofs.Ytmlpnjoejdpblaa.Q
end
section
/- The document's Store, rows. -/
namespace Go.Proofs.Ytmlpnjoejdpblaa.Q
open Go.RowKit Go.Proofs.YtmlpnjoejdpblaaW.PrintWords Go.Proofs.YtmlpnjoejdpblaaW.PrintLast Go.Proofs.YtmlpnjoejdpblaaW.PrintMore Go.Proofs.Ytmlpnjoejdpblaa.L
attribute [local go_sem] Instr.field part asAgg lt_step max2_int min2_int max_two min_two max_three min_three max_four min_four lt_0_1 lt_0_2 lt_1_2 lt_0_3 lt_1_3 lt_2_3 lt_0_4 lt_1_4 lt_2_4 lt_3_4 lt_0_5 lt_1_5 lt_2_5 lt_3_5 lt_4_5 lt_0_6 lt_1_6 lt_2_6 lt_3_6 lt_4_6 lt_5_6 lt_0_7 lt_1_7 lt_2_7 lt_3_7 lt_4_7 lt_5_7 lt_6_7 lt_0_8 lt_1_8 lt_2_8 lt_3_8 lt_4_8 lt_5_8 lt_6_8 lt_7_8
set_option linter.unusedVariables false
set_option linter.unusedSimpArgs false
theorem rwith_is (l : List Int) (i : Nat) (n : Int) (hi : i < l.length) (hl : l.length < 100) : drawbridgeref10_with.f l (i : Int) n = some (l.set i n) := by
  unfold drawbridgeref10_with.f
  have hw : IntKind.u64.wrap (l.length : Int) = l.length := by rw [IntKind.wrap_u64]; omega
  simp only [Option.bind_some, List.nil_append, List.length_nil]
  rw [if_pos (by omega), hw, if_pos (by omega), if_pos (by omega), if_pos (by omega), Int.toNat_natCast]
set_option maxHeartbeats 1600000 in
set_option maxRecDepth 100000 in
theorem rstore_p1 (p : Pd) (v : Pv) (size : Int) (x : Int) (w : World) (ok : Nat → Prop) (hF : PF w ok p v) (ho : OKP p) (hk : ckP p = true) (hs : size = 4) (N : Int) (hN : wrap64 (x.tmod 8) = N) :
    Calls Try.prog 14 #[.agg (PC p v), .int .u64 4, .int .i64 size, .int .u64 x] w fun e w' => ∃ v' : Pv, e = .returned (.tuple #[.agg (PC ({ p with q0 := p.q0.set 1 N } : Pd) v'), .bool true]) ∧ PF w' (fun j => ok j ∨ w.heap.size ≤ j) ({ p with q0 := p.q0.set 1 N } : Pd) v' ∧ Below w.heap.size w w' := by
  subst hs
  have HK := Aside0.mk hk
  obtain ⟨hl0, hl3, hl4, _⟩ := check_len hk
  have HW := Aside0.mk (rwith_is p.q0 1 N (by omega) (by omega))
  clear hk hl0 hl3 hl4
  have hw1 : IntKind.u64.wrap 1 = 1 := by decide
  have HB := Aside0.mk (Below.refl w.heap.size w)
  have HF := Aside0.mk hF.bound
  have HO := Aside0.mk ho
  have hu := Try.underlying24
  clear hF ho
  go_enter Try.func14, Try.ntmps14
  go_upto_region 1 with fail
  obtain ⟨wa, hwa, on0, pn0, hb_, hz0⟩ := letter2 w (.cells (PC p v) 24 (0, 0)) (.cells PZ 24 (0, 0))
  unfold PZ at hwa
  rw [hwa]
  clear hwa
  have hzwa := Nat.le_of_eq hz0.symm
  clear hz0
  have on := Aside0.mk on0
  have pn := Aside0.mk pn0
  clear on0 pn0
  obtain ⟨onc, onf, onl⟩ := cells_of on.out
  obtain ⟨pnc, pnf, pnl⟩ := cells_of pn.out
  have HB_ : Aside0 (Below w.heap.size w wa) := ⟨hb_⟩
  have HF_ : Aside0 (PF wa (fun j => (ok j ∨ w.heap.size ≤ j) ∧ j ≠ w.heap.size ∧ j ≠ w.heap.size + 1) p v) := ⟨(HF.out.below hb_).mono (fun j hj => ⟨.inl hj.1, by have h_ := hj.2; omega, by have h_ := hj.2; omega⟩)⟩
  clear HB HF hb_; have HB := HB_; have HF := HF_; clear HB_ HF_
  go_wp2_with (first | ((with_reducible refine gate_dst (N := 11) rfl ?_); (try (refine gate_guard (by rfl) ?_; dsimp only)); refine wpList_load_row rfl 24 _ rfl _ (by rfl) _ (PC p v) _ _ (eG on) Try.underlying24 rfl infPC ?_))
  (go_at_call 18; (with_reducible refine (rcheck_c HF.out HO.out true HK.out).mono ?_); rintro e_ w1 ⟨rfl, hb_⟩; have HB_ : Aside0 (Below w.heap.size w w1) := Aside0.mk (below_step (bG HB) hb_); have hzw1 := hb_.size; (try simp at hzw1); have on_ := Aside0.mk (box_below hb_ (eG on)); have pn_ := Aside0.mk (box_below hb_ (eG pn)); (try clear on onc onf onl); have on := on_; clear on_; obtain ⟨onc, onf, onl⟩ := cells_of on.out; (try clear pn pnc pnf pnl); have pn := pn_; clear pn_; obtain ⟨pnc, pnf, pnl⟩ := cells_of pn.out; have HF_ := Aside0.mk (PF.below (by repeat (with_reducible first | exact HF.out | apply PF.drew | apply PF.drewN | apply PF.alloc)) hb_); clear HF; have HF := HF_; clear HF_; clear HB hb_; have HB := HB_; clear HB_)
  have hc : w1.cell? ⟨w.heap.size, 0, none⟩ = some v.p0 := (onc 0).trans rfl
  have SR := Aside0.mk HF.out.p0
  clear onc
  have onc := trivial
  go_wp2_with fail
  (go_at_call 31; (with_reducible refine (rwith_c 0 1 N v.p0 p.q0 _ _ _ SR.out HW.out).mono ?_); rintro e_ w2 ⟨V, rfl, sl_, hb_⟩; have HB_ : Aside0 (Below w.heap.size w w2) := Aside0.mk (below_step (bG HB) hb_); have hzw2 := hb_.size; (try simp at hzw2); have on_ := Aside0.mk (box_below hb_ (eG on)); have pn_ := Aside0.mk (box_below hb_ (eG pn)); (try clear on onc onf onl); have on := on_; clear on_; obtain ⟨onc, onf, onl⟩ := cells_of on.out; (try clear pn pnc pnf pnl); have pn := pn_; clear pn_; obtain ⟨pnc, pnf, pnl⟩ := cells_of pn.out; have HF_ := Aside0.mk (PF.below (by repeat (with_reducible first | exact HF.out | apply PF.drew | apply PF.drewN | apply PF.alloc)) hb_); clear HF; have HF := HF_; clear HF_; clear HB hb_; have HB := HB_; clear HB_; have sl__ := Aside0.mk sl_; clear sl_; have sl_ := sl__; clear sl__; skip)
  have HN : Aside0 (PF w2 (fun j => (ok j ∨ w.heap.size ≤ j) ∧ j ≠ w.heap.size ∧ j ≠ w.heap.size + 1) ({ p with q0 := p.q0.set 1 N } : Pd) ({ v with p0 := V } : Pv)) := ⟨(show PF w2 (fun j => (ok j ∨ w.heap.size ≤ j) ∧ j ≠ w.heap.size ∧ j ≠ w.heap.size + 1) ({ p with q0 := p.q0.set 1 N } : Pd) ({ v with p0 := V } : Pv) from ⟨sl_.out.mono (fun j hj => ⟨.inr (by have h_ : w1.heap.size ≤ j := hj; omega), by have h_ : w1.heap.size ≤ j := hj; omega, by have h_ : w1.heap.size ≤ j := hj; omega⟩), HF.out.p3, HF.out.p4⟩)⟩
  obtain ⟨A_V, c_V, eV, hcV, hFV⟩ := sl_.out
  rw [List.length_set] at eV
  subst eV
  clear sl_ hcV hFV SR HF
  obtain ⟨RL, hRL⟩ : ∃ n, p.q0.length = n := ⟨_, rfl⟩
  rw [hRL] at HN
  rw [hRL]
  go_upto_region 20 with fail
  (have pn_ := Aside0.mk (blk_far (p := ⟨w.heap.size, 0, none⟩) pn.out (by show _ ≠ _; dsimp only; omega) (.slice A_V RL c_V)); clear pn pnc pnf pnl; have pn := pn_; clear pn_; obtain ⟨pnc, pnf, pnl⟩ := cells_of pn.out; have on_ := Aside0.mk (blk_put on.out 0 (.slice A_V RL c_V) (cs' := (PC ({ p with q0 := p.q0.set 1 N } : Pd) ({ v with p0 := (.slice A_V RL c_V) } : Pv))) rfl); clear on onc onf onl; have on := on_; clear on_; obtain ⟨onc, onf, onl⟩ := cells_of on.out)
  have HM := Aside0.mk (PF.step HN.out (fun j hj _ => Below.heap_setCell w2 ⟨w.heap.size, 0, none⟩ (.slice A_V RL c_V) j hj.2.1))
  clear HN
  go_wp2_with (first | ((with_reducible refine gate_dst (N := 91) rfl ?_); (try (refine gate_guard (by rfl) ?_; dsimp only)); refine wpList_load_row rfl 24 _ rfl _ (by rfl) _ (PC ({ p with q0 := p.q0.set 1 N } : Pd) ({ v with p0 := (.slice A_V RL c_V) } : Pv)) _ _ (eG on) Try.underlying24 rfl infPC ?_) | ((with_reducible refine gate_store (t := 24) (p := 8) (v := .tmp 91) rfl ?_); refine wpList_store_all rfl 24 _ _ rfl rfl _ (PC ({ p with q0 := p.q0.set 1 N } : Pd) ({ v with p0 := (.slice A_V RL c_V) } : Pv)) (by rfl) (by rfl) _ _ pn.out rfl infPC (HM.out.one) ?_; rintro w8 ⟨hx_, hk_, hb_, hzz_⟩; have HB_ : Aside0 (Below w.heap.size w w8) := Aside0.mk (Below.trans (bG HB) (Below.mono hb_ (by first | omega | (simp only [sz_alloc, sz_drew, sz_drewN]; omega)))); have hzw8 := hzz_; (try simp at hzw8); clear hzz_; have on_ := Aside0.mk (st_put on.out hk_ (fun h_ => (by repeat (with_reducible first | exact h_ | apply ext_drew | apply ext_drewN | apply ext_alloc | refine blk_far ?_ (by show _ ≠ _; dsimp only; omega) _))) (by omega)); clear on onc onf onl; have on := on_; clear on_; obtain ⟨onc, onf, onl⟩ := cells_of on.out; (first | (have HM_ := Aside0.mk (PF.step HM.out (fun j hj _ => hk_ j (hj.2.2)))) | (have HM_ := Aside0.mk (PF.step (PF.alloc HM.out _) (fun j hj _ => hk_ j (hj.2.2))))); clear HM; have HM := HM_; clear HM_; (try clear pn pnc pnf pnl); have pn := Aside0.mk hx_; obtain ⟨pnc, pnf, pnl⟩ := cells_of pn.out; clear HB hb_ hk_ hx_; have HB := HB_; clear HB_))
  refine bodyPost_ret (results_ct rfl _ _ (w.heap.size + 1) 24 (PC ({ p with q0 := p.q0.set 1 N } : Pd) ({ v with p0 := (.slice A_V RL c_V) } : Pv)) (0, 0) _ rfl pn.out Try.underlying24 rfl infPC) rfl ⟨({ v with p0 := (.slice A_V RL c_V) } : Pv), rfl, HM.out.mono (fun j hj => hj.1), (bG HB)⟩
set_option maxHeartbeats 1600000 in
set_option maxRecDepth 100000 in
theorem rstore_p2 (p : Pd) (v : Pv) (size : Int) (x : Int) (w : World) (ok : Nat → Prop) (hF : PF w ok p v) (ho : OKP p) (hk : ckP p = true) (hs : size = 4) (N : Int) (hN : wrap64 (x.tmod 8) = N) :
    Calls Try.prog 14 #[.agg (PC p v), .int .u64 8, .int .i64 size, .int .u64 x] w fun e w' => ∃ v' : Pv, e = .returned (.tuple #[.agg (PC ({ p with q0 := p.q0.set 2 N } : Pd) v'), .bool true]) ∧ PF w' (fun j => ok j ∨ w.heap.size ≤ j) ({ p with q0 := p.q0.set 2 N } : Pd) v' ∧ Below w.heap.size w w' := by
  subst hs
  have HK := Aside0.mk hk
  obtain ⟨hl0, hl3, hl4, _⟩ := check_len hk
  have HW := Aside0.mk (rwith_is p.q0 2 N (by omega) (by omega))
  clear hk hl0 hl3 hl4
  have hw2 : IntKind.u64.wrap 2 = 2 := by decide
  have HB := Aside0.mk (Below.refl w.heap.size w)
  have HF := Aside0.mk hF.bound
  have HO := Aside0.mk ho
  have hu := Try.underlying24
  clear hF ho
  go_enter Try.func14, Try.ntmps14
  go_upto_region 1 with fail
  obtain ⟨wa, hwa, on0, pn0, hb_, hz0⟩ := letter2 w (.cells (PC p v) 24 (0, 0)) (.cells PZ 24 (0, 0))
  unfold PZ at hwa
  rw [hwa]
  clear hwa
  have hzwa := Nat.le_of_eq hz0.symm
  clear hz0
  have on := Aside0.mk on0
  have pn := Aside0.mk pn0
  clear on0 pn0
  obtain ⟨onc, onf, onl⟩ := cells_of on.out
  obtain ⟨pnc, pnf, pnl⟩ := cells_of pn.out
  have HB_ : Aside0 (Below w.heap.size w wa) := ⟨hb_⟩
  have HF_ : Aside0 (PF wa (fun j => (ok j ∨ w.heap.size ≤ j) ∧ j ≠ w.heap.size ∧ j ≠ w.heap.size + 1) p v) := ⟨(HF.out.below hb_).mono (fun j hj => ⟨.inl hj.1, by have h_ := hj.2; omega, by have h_ := hj.2; omega⟩)⟩
  clear HB HF hb_; have HB := HB_; have HF := HF_; clear HB_ HF_
  go_wp2_with (first | ((with_reducible refine gate_dst (N := 11) rfl ?_); (try (refine gate_guard (by rfl) ?_; dsimp only)); refine wpList_load_row rfl 24 _ rfl _ (by rfl) _ (PC p v) _ _ (eG on) Try.underlying24 rfl infPC ?_))
  (go_at_call 18; (with_reducible refine (rcheck_c HF.out HO.out true HK.out).mono ?_); rintro e_ w1 ⟨rfl, hb_⟩; have HB_ : Aside0 (Below w.heap.size w w1) := Aside0.mk (below_step (bG HB) hb_); have hzw1 := hb_.size; (try simp at hzw1); have on_ := Aside0.mk (box_below hb_ (eG on)); have pn_ := Aside0.mk (box_below hb_ (eG pn)); (try clear on onc onf onl); have on := on_; clear on_; obtain ⟨onc, onf, onl⟩ := cells_of on.out; (try clear pn pnc pnf pnl); have pn := pn_; clear pn_; obtain ⟨pnc, pnf, pnl⟩ := cells_of pn.out; have HF_ := Aside0.mk (PF.below (by repeat (with_reducible first | exact HF.out | apply PF.drew | apply PF.drewN | apply PF.alloc)) hb_); clear HF; have HF := HF_; clear HF_; clear HB hb_; have HB := HB_; clear HB_)
  have hc : w1.cell? ⟨w.heap.size, 0, none⟩ = some v.p0 := (onc 0).trans rfl
  have SR := Aside0.mk HF.out.p0
  clear onc
  have onc := trivial
  go_wp2_with fail
  (go_at_call 31; (with_reducible refine (rwith_c 0 2 N v.p0 p.q0 _ _ _ SR.out HW.out).mono ?_); rintro e_ w2 ⟨V, rfl, sl_, hb_⟩; have HB_ : Aside0 (Below w.heap.size w w2) := Aside0.mk (below_step (bG HB) hb_); have hzw2 := hb_.size; (try simp at hzw2); have on_ := Aside0.mk (box_below hb_ (eG on)); have pn_ := Aside0.mk (box_below hb_ (eG pn)); (try clear on onc onf onl); have on := on_; clear on_; obtain ⟨onc, onf, onl⟩ := cells_of on.out; (try clear pn pnc pnf pnl); have pn := pn_; clear pn_; obtain ⟨pnc, pnf, pnl⟩ := cells_of pn.out; have HF_ := Aside0.mk (PF.below (by repeat (with_reducible first | exact HF.out | apply PF.drew | apply PF.drewN | apply PF.alloc)) hb_); clear HF; have HF := HF_; clear HF_; clear HB hb_; have HB := HB_; clear HB_; have sl__ := Aside0.mk sl_; clear sl_; have sl_ := sl__; clear sl__; skip)
  have HN : Aside0 (PF w2 (fun j => (ok j ∨ w.heap.size ≤ j) ∧ j ≠ w.heap.size ∧ j ≠ w.heap.size + 1) ({ p with q0 := p.q0.set 2 N } : Pd) ({ v with p0 := V } : Pv)) := ⟨(show PF w2 (fun j => (ok j ∨ w.heap.size ≤ j) ∧ j ≠ w.heap.size ∧ j ≠ w.heap.size + 1) ({ p with q0 := p.q0.set 2 N } : Pd) ({ v with p0 := V } : Pv) from ⟨sl_.out.mono (fun j hj => ⟨.inr (by have h_ : w1.heap.size ≤ j := hj; omega), by have h_ : w1.heap.size ≤ j := hj; omega, by have h_ : w1.heap.size ≤ j := hj; omega⟩), HF.out.p3, HF.out.p4⟩)⟩
  obtain ⟨A_V, c_V, eV, hcV, hFV⟩ := sl_.out
  rw [List.length_set] at eV
  subst eV
  clear sl_ hcV hFV SR HF
  obtain ⟨RL, hRL⟩ : ∃ n, p.q0.length = n := ⟨_, rfl⟩
  rw [hRL] at HN
  rw [hRL]
  go_upto_region 20 with fail
  (have pn_ := Aside0.mk (blk_far (p := ⟨w.heap.size, 0, none⟩) pn.out (by show _ ≠ _; dsimp only; omega) (.slice A_V RL c_V)); clear pn pnc pnf pnl; have pn := pn_; clear pn_; obtain ⟨pnc, pnf, pnl⟩ := cells_of pn.out; have on_ := Aside0.mk (blk_put on.out 0 (.slice A_V RL c_V) (cs' := (PC ({ p with q0 := p.q0.set 2 N } : Pd) ({ v with p0 := (.slice A_V RL c_V) } : Pv))) rfl); clear on onc onf onl; have on := on_; clear on_; obtain ⟨onc, onf, onl⟩ := cells_of on.out)
  have HM := Aside0.mk (PF.step HN.out (fun j hj _ => Below.heap_setCell w2 ⟨w.heap.size, 0, none⟩ (.slice A_V RL c_V) j hj.2.1))
  clear HN
  go_wp2_with (first | ((with_reducible refine gate_dst (N := 91) rfl ?_); (try (refine gate_guard (by rfl) ?_; dsimp only)); refine wpList_load_row rfl 24 _ rfl _ (by rfl) _ (PC ({ p with q0 := p.q0.set 2 N } : Pd) ({ v with p0 := (.slice A_V RL c_V) } : Pv)) _ _ (eG on) Try.underlying24 rfl infPC ?_) | ((with_reducible refine gate_store (t := 24) (p := 8) (v := .tmp 91) rfl ?_); refine wpList_store_all rfl 24 _ _ rfl rfl _ (PC ({ p with q0 := p.q0.set 2 N } : Pd) ({ v with p0 := (.slice A_V RL c_V) } : Pv)) (by rfl) (by rfl) _ _ pn.out rfl infPC (HM.out.one) ?_; rintro w8 ⟨hx_, hk_, hb_, hzz_⟩; have HB_ : Aside0 (Below w.heap.size w w8) := Aside0.mk (Below.trans (bG HB) (Below.mono hb_ (by first | omega | (simp only [sz_alloc, sz_drew, sz_drewN]; omega)))); have hzw8 := hzz_; (try simp at hzw8); clear hzz_; have on_ := Aside0.mk (st_put on.out hk_ (fun h_ => (by repeat (with_reducible first | exact h_ | apply ext_drew | apply ext_drewN | apply ext_alloc | refine blk_far ?_ (by show _ ≠ _; dsimp only; omega) _))) (by omega)); clear on onc onf onl; have on := on_; clear on_; obtain ⟨onc, onf, onl⟩ := cells_of on.out; (first | (have HM_ := Aside0.mk (PF.step HM.out (fun j hj _ => hk_ j (hj.2.2)))) | (have HM_ := Aside0.mk (PF.step (PF.alloc HM.out _) (fun j hj _ => hk_ j (hj.2.2))))); clear HM; have HM := HM_; clear HM_; (try clear pn pnc pnf pnl); have pn := Aside0.mk hx_; obtain ⟨pnc, pnf, pnl⟩ := cells_of pn.out; clear HB hb_ hk_ hx_; have HB := HB_; clear HB_))
  refine bodyPost_ret (results_ct rfl _ _ (w.heap.size + 1) 24 (PC ({ p with q0 := p.q0.set 2 N } : Pd) ({ v with p0 := (.slice A_V RL c_V) } : Pv)) (0, 0) _ rfl pn.out Try.underlying24 rfl infPC) rfl ⟨({ v with p0 := (.slice A_V RL c_V) } : Pv), rfl, HM.out.mono (fun j hj => hj.1), (bG HB)⟩
set_option maxHeartbeats 1600000 in
set_option maxRecDepth 100000 in
theorem rstore_e0 (p : Pd) (v : Pv) (size : Int) (x : Int) (w : World) (ok : Nat → Prop) (hF : PF w ok p v) (ho : OKP p) (hk : ckP p = true) (hs : size = 4) (N : Int) (hN : wrap64 (Go.bits .and .u64 (x.tmod 4294967296) 6) = N) :
    Calls Try.prog 14 #[.agg (PC p v), .int .u64 8192, .int .i64 size, .int .u64 x] w fun e w' => ∃ v' : Pv, e = .returned (.tuple #[.agg (PC ({ p with q3 := p.q3.set 0 N } : Pd) v'), .bool true]) ∧ PF w' (fun j => ok j ∨ w.heap.size ≤ j) ({ p with q3 := p.q3.set 0 N } : Pd) v' ∧ Below w.heap.size w w' := by
  subst hs
  have HK := Aside0.mk hk
  obtain ⟨hl0, hl3, hl4, _⟩ := check_len hk
  have HW := Aside0.mk (rwith_is p.q3 0 N (by omega) (by omega))
  clear hk hl0 hl3 hl4
  have hw0 : IntKind.u64.wrap 0 = 0 := by decide
  have HB := Aside0.mk (Below.refl w.heap.size w)
  have HF := Aside0.mk hF.bound
  have HO := Aside0.mk ho
  have hu := Try.underlying24
  clear hF ho
  go_enter Try.func14, Try.ntmps14
  go_upto_region 1 with fail
  obtain ⟨wa, hwa, on0, pn0, hb_, hz0⟩ := letter2 w (.cells (PC p v) 24 (0, 0)) (.cells PZ 24 (0, 0))
  unfold PZ at hwa
  rw [hwa]
  clear hwa
  have hzwa := Nat.le_of_eq hz0.symm
  clear hz0
  have on := Aside0.mk on0
  have pn := Aside0.mk pn0
  clear on0 pn0
  obtain ⟨onc, onf, onl⟩ := cells_of on.out
  obtain ⟨pnc, pnf, pnl⟩ := cells_of pn.out
  have HB_ : Aside0 (Below w.heap.size w wa) := ⟨hb_⟩
  have HF_ : Aside0 (PF wa (fun j => (ok j ∨ w.heap.size ≤ j) ∧ j ≠ w.heap.size ∧ j ≠ w.heap.size + 1) p v) := ⟨(HF.out.below hb_).mono (fun j hj => ⟨.inl hj.1, by have h_ := hj.2; omega, by have h_ := hj.2; omega⟩)⟩
  clear HB HF hb_; have HB := HB_; have HF := HF_; clear HB_ HF_
  go_wp2_with (first | ((with_reducible refine gate_dst (N := 11) rfl ?_); (try (refine gate_guard (by rfl) ?_; dsimp only)); refine wpList_load_row rfl 24 _ rfl _ (by rfl) _ (PC p v) _ _ (eG on) Try.underlying24 rfl infPC ?_))
  (go_at_call 18; (with_reducible refine (rcheck_c HF.out HO.out true HK.out).mono ?_); rintro e_ w1 ⟨rfl, hb_⟩; have HB_ : Aside0 (Below w.heap.size w w1) := Aside0.mk (below_step (bG HB) hb_); have hzw1 := hb_.size; (try simp at hzw1); have on_ := Aside0.mk (box_below hb_ (eG on)); have pn_ := Aside0.mk (box_below hb_ (eG pn)); (try clear on onc onf onl); have on := on_; clear on_; obtain ⟨onc, onf, onl⟩ := cells_of on.out; (try clear pn pnc pnf pnl); have pn := pn_; clear pn_; obtain ⟨pnc, pnf, pnl⟩ := cells_of pn.out; have HF_ := Aside0.mk (PF.below (by repeat (with_reducible first | exact HF.out | apply PF.drew | apply PF.drewN | apply PF.alloc)) hb_); clear HF; have HF := HF_; clear HF_; clear HB hb_; have HB := HB_; clear HB_)
  have hc : w1.cell? ⟨w.heap.size, 3, none⟩ = some v.p3 := (onc 3).trans rfl
  have SR := Aside0.mk HF.out.p3
  clear onc
  have onc := trivial
  go_wp2_with fail
  (go_at_call 31; (with_reducible refine (rwith_c 0 0 N v.p3 p.q3 _ _ _ SR.out HW.out).mono ?_); rintro e_ w2 ⟨V, rfl, sl_, hb_⟩; have HB_ : Aside0 (Below w.heap.size w w2) := Aside0.mk (below_step (bG HB) hb_); have hzw2 := hb_.size; (try simp at hzw2); have on_ := Aside0.mk (box_below hb_ (eG on)); have pn_ := Aside0.mk (box_below hb_ (eG pn)); (try clear on onc onf onl); have on := on_; clear on_; obtain ⟨onc, onf, onl⟩ := cells_of on.out; (try clear pn pnc pnf pnl); have pn := pn_; clear pn_; obtain ⟨pnc, pnf, pnl⟩ := cells_of pn.out; have HF_ := Aside0.mk (PF.below (by repeat (with_reducible first | exact HF.out | apply PF.drew | apply PF.drewN | apply PF.alloc)) hb_); clear HF; have HF := HF_; clear HF_; clear HB hb_; have HB := HB_; clear HB_; have sl__ := Aside0.mk sl_; clear sl_; have sl_ := sl__; clear sl__; skip)
  have HN : Aside0 (PF w2 (fun j => (ok j ∨ w.heap.size ≤ j) ∧ j ≠ w.heap.size ∧ j ≠ w.heap.size + 1) ({ p with q3 := p.q3.set 0 N } : Pd) ({ v with p3 := V } : Pv)) := ⟨(show PF w2 (fun j => (ok j ∨ w.heap.size ≤ j) ∧ j ≠ w.heap.size ∧ j ≠ w.heap.size + 1) ({ p with q3 := p.q3.set 0 N } : Pd) ({ v with p3 := V } : Pv) from ⟨HF.out.p0, sl_.out.mono (fun j hj => ⟨.inr (by have h_ : w1.heap.size ≤ j := hj; omega), by have h_ : w1.heap.size ≤ j := hj; omega, by have h_ : w1.heap.size ≤ j := hj; omega⟩), HF.out.p4⟩)⟩
  obtain ⟨A_V, c_V, eV, hcV, hFV⟩ := sl_.out
  rw [List.length_set] at eV
  subst eV
  clear sl_ hcV hFV SR HF
  obtain ⟨RL, hRL⟩ : ∃ n, p.q3.length = n := ⟨_, rfl⟩
  rw [hRL] at HN
  rw [hRL]
  go_upto_region 20 with fail
  (have pn_ := Aside0.mk (blk_far (p := ⟨w.heap.size, 3, none⟩) pn.out (by show _ ≠ _; dsimp only; omega) (.slice A_V RL c_V)); clear pn pnc pnf pnl; have pn := pn_; clear pn_; obtain ⟨pnc, pnf, pnl⟩ := cells_of pn.out; have on_ := Aside0.mk (blk_put on.out 3 (.slice A_V RL c_V) (cs' := (PC ({ p with q3 := p.q3.set 0 N } : Pd) ({ v with p3 := (.slice A_V RL c_V) } : Pv))) rfl); clear on onc onf onl; have on := on_; clear on_; obtain ⟨onc, onf, onl⟩ := cells_of on.out)
  have HM := Aside0.mk (PF.step HN.out (fun j hj _ => Below.heap_setCell w2 ⟨w.heap.size, 3, none⟩ (.slice A_V RL c_V) j hj.2.1))
  clear HN
  go_wp2_with (first | ((with_reducible refine gate_dst (N := 91) rfl ?_); (try (refine gate_guard (by rfl) ?_; dsimp only)); refine wpList_load_row rfl 24 _ rfl _ (by rfl) _ (PC ({ p with q3 := p.q3.set 0 N } : Pd) ({ v with p3 := (.slice A_V RL c_V) } : Pv)) _ _ (eG on) Try.underlying24 rfl infPC ?_) | ((with_reducible refine gate_store (t := 24) (p := 8) (v := .tmp 91) rfl ?_); refine wpList_store_all rfl 24 _ _ rfl rfl _ (PC ({ p with q3 := p.q3.set 0 N } : Pd) ({ v with p3 := (.slice A_V RL c_V) } : Pv)) (by rfl) (by rfl) _ _ pn.out rfl infPC (HM.out.one) ?_; rintro w8 ⟨hx_, hk_, hb_, hzz_⟩; have HB_ : Aside0 (Below w.heap.size w w8) := Aside0.mk (Below.trans (bG HB) (Below.mono hb_ (by first | omega | (simp only [sz_alloc, sz_drew, sz_drewN]; omega)))); have hzw8 := hzz_; (try simp at hzw8); clear hzz_; have on_ := Aside0.mk (st_put on.out hk_ (fun h_ => (by repeat (with_reducible first | exact h_ | apply ext_drew | apply ext_drewN | apply ext_alloc | refine blk_far ?_ (by show _ ≠ _; dsimp only; omega) _))) (by omega)); clear on onc onf onl; have on := on_; clear on_; obtain ⟨onc, onf, onl⟩ := cells_of on.out; (first | (have HM_ := Aside0.mk (PF.step HM.out (fun j hj _ => hk_ j (hj.2.2)))) | (have HM_ := Aside0.mk (PF.step (PF.alloc HM.out _) (fun j hj _ => hk_ j (hj.2.2))))); clear HM; have HM := HM_; clear HM_; (try clear pn pnc pnf pnl); have pn := Aside0.mk hx_; obtain ⟨pnc, pnf, pnl⟩ := cells_of pn.out; clear HB hb_ hk_ hx_; have HB := HB_; clear HB_))
  refine bodyPost_ret (results_ct rfl _ _ (w.heap.size + 1) 24 (PC ({ p with q3 := p.q3.set 0 N } : Pd) ({ v with p3 := (.slice A_V RL c_V) } : Pv)) (0, 0) _ rfl pn.out Try.underlying24 rfl infPC) rfl ⟨({ v with p3 := (.slice A_V RL c_V) } : Pv), rfl, HM.out.mono (fun j hj => hj.1), (bG HB)⟩
set_option maxHeartbeats 1600000 in
set_option maxRecDepth 100000 in
theorem rstore_e1 (p : Pd) (v : Pv) (size : Int) (x : Int) (w : World) (ok : Nat → Prop) (hF : PF w ok p v) (ho : OKP p) (hk : ckP p = true) (hs : size = 4) (N : Int) (hN : wrap64 (Go.bits .and .u64 (x.tmod 4294967296) 6) = N) :
    Calls Try.prog 14 #[.agg (PC p v), .int .u64 8320, .int .i64 size, .int .u64 x] w fun e w' => ∃ v' : Pv, e = .returned (.tuple #[.agg (PC ({ p with q3 := p.q3.set 1 N } : Pd) v'), .bool true]) ∧ PF w' (fun j => ok j ∨ w.heap.size ≤ j) ({ p with q3 := p.q3.set 1 N } : Pd) v' ∧ Below w.heap.size w w' := by
  subst hs
  have HK := Aside0.mk hk
  obtain ⟨hl0, hl3, hl4, _⟩ := check_len hk
  have HW := Aside0.mk (rwith_is p.q3 1 N (by omega) (by omega))
  clear hk hl0 hl3 hl4
  have hw128 : IntKind.u64.wrap 128 = 128 := by decide
  have hw1 : IntKind.u64.wrap 1 = 1 := by decide
  have HB := Aside0.mk (Below.refl w.heap.size w)
  have HF := Aside0.mk hF.bound
  have HO := Aside0.mk ho
  have hu := Try.underlying24
  clear hF ho
  go_enter Try.func14, Try.ntmps14
  go_upto_region 1 with fail
  obtain ⟨wa, hwa, on0, pn0, hb_, hz0⟩ := letter2 w (.cells (PC p v) 24 (0, 0)) (.cells PZ 24 (0, 0))
  unfold PZ at hwa
  rw [hwa]
  clear hwa
  have hzwa := Nat.le_of_eq hz0.symm
  clear hz0
  have on := Aside0.mk on0
  have pn := Aside0.mk pn0
  clear on0 pn0
  obtain ⟨onc, onf, onl⟩ := cells_of on.out
  obtain ⟨pnc, pnf, pnl⟩ := cells_of pn.out
  have HB_ : Aside0 (Below w.heap.size w wa) := ⟨hb_⟩
  have HF_ : Aside0 (PF wa (fun j => (ok j ∨ w.heap.size ≤ j) ∧ j ≠ w.heap.size ∧ j ≠ w.heap.size + 1) p v) := ⟨(HF.out.below hb_).mono (fun j hj => ⟨.inl hj.1, by have h_ := hj.2; omega, by have h_ := hj.2; omega⟩)⟩
  clear HB HF hb_; have HB := HB_; have HF := HF_; clear HB_ HF_
  go_wp2_with (first | ((with_reducible refine gate_dst (N := 11) rfl ?_); (try (refine gate_guard (by rfl) ?_; dsimp only)); refine wpList_load_row rfl 24 _ rfl _ (by rfl) _ (PC p v) _ _ (eG on) Try.underlying24 rfl infPC ?_))
  (go_at_call 18; (with_reducible refine (rcheck_c HF.out HO.out true HK.out).mono ?_); rintro e_ w1 ⟨rfl, hb_⟩; have HB_ : Aside0 (Below w.heap.size w w1) := Aside0.mk (below_step (bG HB) hb_); have hzw1 := hb_.size; (try simp at hzw1); have on_ := Aside0.mk (box_below hb_ (eG on)); have pn_ := Aside0.mk (box_below hb_ (eG pn)); (try clear on onc onf onl); have on := on_; clear on_; obtain ⟨onc, onf, onl⟩ := cells_of on.out; (try clear pn pnc pnf pnl); have pn := pn_; clear pn_; obtain ⟨pnc, pnf, pnl⟩ := cells_of pn.out; have HF_ := Aside0.mk (PF.below (by repeat (with_reducible first | exact HF.out | apply PF.drew | apply PF.drewN | apply PF.alloc)) hb_); clear HF; have HF := HF_; clear HF_; clear HB hb_; have HB := HB_; clear HB_)
  have hc : w1.cell? ⟨w.heap.size, 3, none⟩ = some v.p3 := (onc 3).trans rfl
  have SR := Aside0.mk HF.out.p3
  clear onc
  have onc := trivial
  go_wp2_with fail
  (go_at_call 31; (with_reducible refine (rwith_c 0 1 N v.p3 p.q3 _ _ _ SR.out HW.out).mono ?_); rintro e_ w2 ⟨V, rfl, sl_, hb_⟩; have HB_ : Aside0 (Below w.heap.size w w2) := Aside0.mk (below_step (bG HB) hb_); have hzw2 := hb_.size; (try simp at hzw2); have on_ := Aside0.mk (box_below hb_ (eG on)); have pn_ := Aside0.mk (box_below hb_ (eG pn)); (try clear on onc onf onl); have on := on_; clear on_; obtain ⟨onc, onf, onl⟩ := cells_of on.out; (try clear pn pnc pnf pnl); have pn := pn_; clear pn_; obtain ⟨pnc, pnf, pnl⟩ := cells_of pn.out; have HF_ := Aside0.mk (PF.below (by repeat (with_reducible first | exact HF.out | apply PF.drew | apply PF.drewN | apply PF.alloc)) hb_); clear HF; have HF := HF_; clear HF_; clear HB hb_; have HB := HB_; clear HB_; have sl__ := Aside0.mk sl_; clear sl_; have sl_ := sl__; clear sl__; skip)
  have HN : Aside0 (PF w2 (fun j => (ok j ∨ w.heap.size ≤ j) ∧ j ≠ w.heap.size ∧ j ≠ w.heap.size + 1) ({ p with q3 := p.q3.set 1 N } : Pd) ({ v with p3 := V } : Pv)) := ⟨(show PF w2 (fun j => (ok j ∨ w.heap.size ≤ j) ∧ j ≠ w.heap.size ∧ j ≠ w.heap.size + 1) ({ p with q3 := p.q3.set 1 N } : Pd) ({ v with p3 := V } : Pv) from ⟨HF.out.p0, sl_.out.mono (fun j hj => ⟨.inr (by have h_ : w1.heap.size ≤ j := hj; omega), by have h_ : w1.heap.size ≤ j := hj; omega, by have h_ : w1.heap.size ≤ j := hj; omega⟩), HF.out.p4⟩)⟩
  obtain ⟨A_V, c_V, eV, hcV, hFV⟩ := sl_.out
  rw [List.length_set] at eV
  subst eV
  clear sl_ hcV hFV SR HF
  obtain ⟨RL, hRL⟩ : ∃ n, p.q3.length = n := ⟨_, rfl⟩
  rw [hRL] at HN
  rw [hRL]
  go_upto_region 20 with fail
  (have pn_ := Aside0.mk (blk_far (p := ⟨w.heap.size, 3, none⟩) pn.out (by show _ ≠ _; dsimp only; omega) (.slice A_V RL c_V)); clear pn pnc pnf pnl; have pn := pn_; clear pn_; obtain ⟨pnc, pnf, pnl⟩ := cells_of pn.out; have on_ := Aside0.mk (blk_put on.out 3 (.slice A_V RL c_V) (cs' := (PC ({ p with q3 := p.q3.set 1 N } : Pd) ({ v with p3 := (.slice A_V RL c_V) } : Pv))) rfl); clear on onc onf onl; have on := on_; clear on_; obtain ⟨onc, onf, onl⟩ := cells_of on.out)
  have HM := Aside0.mk (PF.step HN.out (fun j hj _ => Below.heap_setCell w2 ⟨w.heap.size, 3, none⟩ (.slice A_V RL c_V) j hj.2.1))
  clear HN
  go_wp2_with (first | ((with_reducible refine gate_dst (N := 91) rfl ?_); (try (refine gate_guard (by rfl) ?_; dsimp only)); refine wpList_load_row rfl 24 _ rfl _ (by rfl) _ (PC ({ p with q3 := p.q3.set 1 N } : Pd) ({ v with p3 := (.slice A_V RL c_V) } : Pv)) _ _ (eG on) Try.underlying24 rfl infPC ?_) | ((with_reducible refine gate_store (t := 24) (p := 8) (v := .tmp 91) rfl ?_); refine wpList_store_all rfl 24 _ _ rfl rfl _ (PC ({ p with q3 := p.q3.set 1 N } : Pd) ({ v with p3 := (.slice A_V RL c_V) } : Pv)) (by rfl) (by rfl) _ _ pn.out rfl infPC (HM.out.one) ?_; rintro w8 ⟨hx_, hk_, hb_, hzz_⟩; have HB_ : Aside0 (Below w.heap.size w w8) := Aside0.mk (Below.trans (bG HB) (Below.mono hb_ (by first | omega | (simp only [sz_alloc, sz_drew, sz_drewN]; omega)))); have hzw8 := hzz_; (try simp at hzw8); clear hzz_; have on_ := Aside0.mk (st_put on.out hk_ (fun h_ => (by repeat (with_reducible first | exact h_ | apply ext_drew | apply ext_drewN | apply ext_alloc | refine blk_far ?_ (by show _ ≠ _; dsimp only; omega) _))) (by omega)); clear on onc onf onl; have on := on_; clear on_; obtain ⟨onc, onf, onl⟩ := cells_of on.out; (first | (have HM_ := Aside0.mk (PF.step HM.out (fun j hj _ => hk_ j (hj.2.2)))) | (have HM_ := Aside0.mk (PF.step (PF.alloc HM.out _) (fun j hj _ => hk_ j (hj.2.2))))); clear HM; have HM := HM_; clear HM_; (try clear pn pnc pnf pnl); have pn := Aside0.mk hx_; obtain ⟨pnc, pnf, pnl⟩ := cells_of pn.out; clear HB hb_ hk_ hx_; have HB := HB_; clear HB_))
  refine bodyPost_ret (results_ct rfl _ _ (w.heap.size + 1) 24 (PC ({ p with q3 := p.q3.set 1 N } : Pd) ({ v with p3 := (.slice A_V RL c_V) } : Pv)) (0, 0) _ rfl pn.out Try.underlying24 rfl infPC) rfl ⟨({ v with p3 := (.slice A_V RL c_V) } : Pv), rfl, HM.out.mono (fun j hj => hj.1), (bG HB)⟩
set_option maxHeartbeats 1600000 in
set_option maxRecDepth 100000 in
theorem rstore_t0 (p : Pd) (v : Pv) (size : Int) (x : Int) (w : World) (ok : Nat → Prop) (hF : PF w ok p v) (ho : OKP p) (hk : ckP p = true) (hs : size = 4) (N : Int) (hN : wrap64 (x.tmod 8) = N) :
    Calls Try.prog 14 #[.agg (PC p v), .int .u64 2097152, .int .i64 size, .int .u64 x] w fun e w' => ∃ v' : Pv, e = .returned (.tuple #[.agg (PC ({ p with q4 := p.q4.set 0 N } : Pd) v'), .bool true]) ∧ PF w' (fun j => ok j ∨ w.heap.size ≤ j) ({ p with q4 := p.q4.set 0 N } : Pd) v' ∧ Below w.heap.size w w' := by
  subst hs
  have HK := Aside0.mk hk
  obtain ⟨hl0, hl3, hl4, _⟩ := check_len hk
  have HW := Aside0.mk (rwith_is p.q4 0 N (by omega) (by omega))
  clear hk hl0 hl3 hl4
  have hw512 : IntKind.u64.wrap 512 = 512 := by decide
  have hw0 : IntKind.u64.wrap 0 = 0 := by decide
  have HB := Aside0.mk (Below.refl w.heap.size w)
  have HF := Aside0.mk hF.bound
  have HO := Aside0.mk ho
  have hu := Try.underlying24
  clear hF ho
  go_enter Try.func14, Try.ntmps14
  go_upto_region 1 with fail
  obtain ⟨wa, hwa, on0, pn0, hb_, hz0⟩ := letter2 w (.cells (PC p v) 24 (0, 0)) (.cells PZ 24 (0, 0))
  unfold PZ at hwa
  rw [hwa]
  clear hwa
  have hzwa := Nat.le_of_eq hz0.symm
  clear hz0
  have on := Aside0.mk on0
  have pn := Aside0.mk pn0
  clear on0 pn0
  obtain ⟨onc, onf, onl⟩ := cells_of on.out
  obtain ⟨pnc, pnf, pnl⟩ := cells_of pn.out
  have HB_ : Aside0 (Below w.heap.size w wa) := ⟨hb_⟩
  have HF_ : Aside0 (PF wa (fun j => (ok j ∨ w.heap.size ≤ j) ∧ j ≠ w.heap.size ∧ j ≠ w.heap.size + 1) p v) := ⟨(HF.out.below hb_).mono (fun j hj => ⟨.inl hj.1, by have h_ := hj.2; omega, by have h_ := hj.2; omega⟩)⟩
  clear HB HF hb_; have HB := HB_; have HF := HF_; clear HB_ HF_
  go_wp2_with (first | ((with_reducible refine gate_dst (N := 11) rfl ?_); (try (refine gate_guard (by rfl) ?_; dsimp only)); refine wpList_load_row rfl 24 _ rfl _ (by rfl) _ (PC p v) _ _ (eG on) Try.underlying24 rfl infPC ?_))
  (go_at_call 18; (with_reducible refine (rcheck_c HF.out HO.out true HK.out).mono ?_); rintro e_ w1 ⟨rfl, hb_⟩; have HB_ : Aside0 (Below w.heap.size w w1) := Aside0.mk (below_step (bG HB) hb_); have hzw1 := hb_.size; (try simp at hzw1); have on_ := Aside0.mk (box_below hb_ (eG on)); have pn_ := Aside0.mk (box_below hb_ (eG pn)); (try clear on onc onf onl); have on := on_; clear on_; obtain ⟨onc, onf, onl⟩ := cells_of on.out; (try clear pn pnc pnf pnl); have pn := pn_; clear pn_; obtain ⟨pnc, pnf, pnl⟩ := cells_of pn.out; have HF_ := Aside0.mk (PF.below (by repeat (with_reducible first | exact HF.out | apply PF.drew | apply PF.drewN | apply PF.alloc)) hb_); clear HF; have HF := HF_; clear HF_; clear HB hb_; have HB := HB_; clear HB_)
  have hc : w1.cell? ⟨w.heap.size, 4, none⟩ = some v.p4 := (onc 4).trans rfl
  have SR := Aside0.mk HF.out.p4
  clear onc
  have onc := trivial
  go_wp2_with fail
  (go_at_call 31; (with_reducible refine (rwith_c 0 0 N v.p4 p.q4 _ _ _ SR.out HW.out).mono ?_); rintro e_ w2 ⟨V, rfl, sl_, hb_⟩; have HB_ : Aside0 (Below w.heap.size w w2) := Aside0.mk (below_step (bG HB) hb_); have hzw2 := hb_.size; (try simp at hzw2); have on_ := Aside0.mk (box_below hb_ (eG on)); have pn_ := Aside0.mk (box_below hb_ (eG pn)); (try clear on onc onf onl); have on := on_; clear on_; obtain ⟨onc, onf, onl⟩ := cells_of on.out; (try clear pn pnc pnf pnl); have pn := pn_; clear pn_; obtain ⟨pnc, pnf, pnl⟩ := cells_of pn.out; have HF_ := Aside0.mk (PF.below (by repeat (with_reducible first | exact HF.out | apply PF.drew | apply PF.drewN | apply PF.alloc)) hb_); clear HF; have HF := HF_; clear HF_; clear HB hb_; have HB := HB_; clear HB_; have sl__ := Aside0.mk sl_; clear sl_; have sl_ := sl__; clear sl__; skip)
  have HN : Aside0 (PF w2 (fun j => (ok j ∨ w.heap.size ≤ j) ∧ j ≠ w.heap.size ∧ j ≠ w.heap.size + 1) ({ p with q4 := p.q4.set 0 N } : Pd) ({ v with p4 := V } : Pv)) := ⟨(show PF w2 (fun j => (ok j ∨ w.heap.size ≤ j) ∧ j ≠ w.heap.size ∧ j ≠ w.heap.size + 1) ({ p with q4 := p.q4.set 0 N } : Pd) ({ v with p4 := V } : Pv) from ⟨HF.out.p0, HF.out.p3, sl_.out.mono (fun j hj => ⟨.inr (by have h_ : w1.heap.size ≤ j := hj; omega), by have h_ : w1.heap.size ≤ j := hj; omega, by have h_ : w1.heap.size ≤ j := hj; omega⟩)⟩)⟩
  obtain ⟨A_V, c_V, eV, hcV, hFV⟩ := sl_.out
  rw [List.length_set] at eV
  subst eV
  clear sl_ hcV hFV SR HF
  obtain ⟨RL, hRL⟩ : ∃ n, p.q4.length = n := ⟨_, rfl⟩
  rw [hRL] at HN
  rw [hRL]
  go_upto_region 20 with fail
  (have pn_ := Aside0.mk (blk_far (p := ⟨w.heap.size, 4, none⟩) pn.out (by show _ ≠ _; dsimp only; omega) (.slice A_V RL c_V)); clear pn pnc pnf pnl; have pn := pn_; clear pn_; obtain ⟨pnc, pnf, pnl⟩ := cells_of pn.out; have on_ := Aside0.mk (blk_put on.out 4 (.slice A_V RL c_V) (cs' := (PC ({ p with q4 := p.q4.set 0 N } : Pd) ({ v with p4 := (.slice A_V RL c_V) } : Pv))) rfl); clear on onc onf onl; have on := on_; clear on_; obtain ⟨onc, onf, onl⟩ := cells_of on.out)
  have HM := Aside0.mk (PF.step HN.out (fun j hj _ => Below.heap_setCell w2 ⟨w.heap.size, 4, none⟩ (.slice A_V RL c_V) j hj.2.1))
  clear HN
  go_wp2_with (first | ((with_reducible refine gate_dst (N := 91) rfl ?_); (try (refine gate_guard (by rfl) ?_; dsimp only)); refine wpList_load_row rfl 24 _ rfl _ (by rfl) _ (PC ({ p with q4 := p.q4.set 0 N } : Pd) ({ v with p4 := (.slice A_V RL c_V) } : Pv)) _ _ (eG on) Try.underlying24 rfl infPC ?_) | ((with_reducible refine gate_store (t := 24) (p := 8) (v := .tmp 91) rfl ?_); refine wpList_store_all rfl 24 _ _ rfl rfl _ (PC ({ p with q4 := p.q4.set 0 N } : Pd) ({ v with p4 := (.slice A_V RL c_V) } : Pv)) (by rfl) (by rfl) _ _ pn.out rfl infPC (HM.out.one) ?_; rintro w8 ⟨hx_, hk_, hb_, hzz_⟩; have HB_ : Aside0 (Below w.heap.size w w8) := Aside0.mk (Below.trans (bG HB) (Below.mono hb_ (by first | omega | (simp only [sz_alloc, sz_drew, sz_drewN]; omega)))); have hzw8 := hzz_; (try simp at hzw8); clear hzz_; have on_ := Aside0.mk (st_put on.out hk_ (fun h_ => (by repeat (with_reducible first | exact h_ | apply ext_drew | apply ext_drewN | apply ext_alloc | refine blk_far ?_ (by show _ ≠ _; dsimp only; omega) _))) (by omega)); clear on onc onf onl; have on := on_; clear on_; obtain ⟨onc, onf, onl⟩ := cells_of on.out; (first | (have HM_ := Aside0.mk (PF.step HM.out (fun j hj _ => hk_ j (hj.2.2)))) | (have HM_ := Aside0.mk (PF.step (PF.alloc HM.out _) (fun j hj _ => hk_ j (hj.2.2))))); clear HM; have HM := HM_; clear HM_; (try clear pn pnc pnf pnl); have pn := Aside0.mk hx_; obtain ⟨pnc, pnf, pnl⟩ := cells_of pn.out; clear HB hb_ hk_ hx_; have HB := HB_; clear HB_))
  refine bodyPost_ret (results_ct rfl _ _ (w.heap.size + 1) 24 (PC ({ p with q4 := p.q4.set 0 N } : Pd) ({ v with p4 := (.slice A_V RL c_V) } : Pv)) (0, 0) _ rfl pn.out Try.underlying24 rfl infPC) rfl ⟨({ v with p4 := (.slice A_V RL c_V) } : Pv), rfl, HM.out.mono (fun j hj => hj.1), (bG HB)⟩
set_option maxHeartbeats 1600000 in
set_option maxRecDepth 100000 in
theorem rstore_t1 (p : Pd) (v : Pv) (size : Int) (x : Int) (w : World) (ok : Nat → Prop) (hF : PF w ok p v) (ho : OKP p) (hk : ckP p = true) (hs : size = 4) (N : Int) (hN : wrap64 (x.tmod 8) = N) :
    Calls Try.prog 14 #[.agg (PC p v), .int .u64 2101248, .int .i64 size, .int .u64 x] w fun e w' => ∃ v' : Pv, e = .returned (.tuple #[.agg (PC ({ p with q4 := p.q4.set 1 N } : Pd) v'), .bool true]) ∧ PF w' (fun j => ok j ∨ w.heap.size ≤ j) ({ p with q4 := p.q4.set 1 N } : Pd) v' ∧ Below w.heap.size w w' := by
  subst hs
  have HK := Aside0.mk hk
  obtain ⟨hl0, hl3, hl4, _⟩ := check_len hk
  have HW := Aside0.mk (rwith_is p.q4 1 N (by omega) (by omega))
  clear hk hl0 hl3 hl4
  have hw513 : IntKind.u64.wrap 513 = 513 := by decide
  have hw1 : IntKind.u64.wrap 1 = 1 := by decide
  have HB := Aside0.mk (Below.refl w.heap.size w)
  have HF := Aside0.mk hF.bound
  have HO := Aside0.mk ho
  have hu := Try.underlying24
  clear hF ho
  go_enter Try.func14, Try.ntmps14
  go_upto_region 1 with fail
  obtain ⟨wa, hwa, on0, pn0, hb_, hz0⟩ := letter2 w (.cells (PC p v) 24 (0, 0)) (.cells PZ 24 (0, 0))
  unfold PZ at hwa
  rw [hwa]
  clear hwa
  have hzwa := Nat.le_of_eq hz0.symm
  clear hz0
  have on := Aside0.mk on0
  have pn := Aside0.mk pn0
  clear on0 pn0
  obtain ⟨onc, onf, onl⟩ := cells_of on.out
  obtain ⟨pnc, pnf, pnl⟩ := cells_of pn.out
  have HB_ : Aside0 (Below w.heap.size w wa) := ⟨hb_⟩
  have HF_ : Aside0 (PF wa (fun j => (ok j ∨ w.heap.size ≤ j) ∧ j ≠ w.heap.size ∧ j ≠ w.heap.size + 1) p v) := ⟨(HF.out.below hb_).mono (fun j hj => ⟨.inl hj.1, by have h_ := hj.2; omega, by have h_ := hj.2; omega⟩)⟩
  clear HB HF hb_; have HB := HB_; have HF := HF_; clear HB_ HF_
  go_wp2_with (first | ((with_reducible refine gate_dst (N := 11) rfl ?_); (try (refine gate_guard (by rfl) ?_; dsimp only)); refine wpList_load_row rfl 24 _ rfl _ (by rfl) _ (PC p v) _ _ (eG on) Try.underlying24 rfl infPC ?_))
  (go_at_call 18; (with_reducible refine (rcheck_c HF.out HO.out true HK.out).mono ?_); rintro e_ w1 ⟨rfl, hb_⟩; have HB_ : Aside0 (Below w.heap.size w w1) := Aside0.mk (below_step (bG HB) hb_); have hzw1 := hb_.size; (try simp at hzw1); have on_ := Aside0.mk (box_below hb_ (eG on)); have pn_ := Aside0.mk (box_below hb_ (eG pn)); (try clear on onc onf onl); have on := on_; clear on_; obtain ⟨onc, onf, onl⟩ := cells_of on.out; (try clear pn pnc pnf pnl); have pn := pn_; clear pn_; obtain ⟨pnc, pnf, pnl⟩ := cells_of pn.out; have HF_ := Aside0.mk (PF.below (by repeat (with_reducible first | exact HF.out | apply PF.drew | apply PF.drewN | apply PF.alloc)) hb_); clear HF; have HF := HF_; clear HF_; clear HB hb_; have HB := HB_; clear HB_)
  have hc : w1.cell? ⟨w.heap.size, 4, none⟩ = some v.p4 := (onc 4).trans rfl
  have SR := Aside0.mk HF.out.p4
  clear onc
  have onc := trivial
  go_wp2_with fail
  (go_at_call 31; (with_reducible refine (rwith_c 0 1 N v.p4 p.q4 _ _ _ SR.out HW.out).mono ?_); rintro e_ w2 ⟨V, rfl, sl_, hb_⟩; have HB_ : Aside0 (Below w.heap.size w w2) := Aside0.mk (below_step (bG HB) hb_); have hzw2 := hb_.size; (try simp at hzw2); have on_ := Aside0.mk (box_below hb_ (eG on)); have pn_ := Aside0.mk (box_below hb_ (eG pn)); (try clear on onc onf onl); have on := on_; clear on_; obtain ⟨onc, onf, onl⟩ := cells_of on.out; (try clear pn pnc pnf pnl); have pn := pn_; clear pn_; obtain ⟨pnc, pnf, pnl⟩ := cells_of pn.out; have HF_ := Aside0.mk (PF.below (by repeat (with_reducible first | exact HF.out | apply PF.drew | apply PF.drewN | apply PF.alloc)) hb_); clear HF; have HF := HF_; clear HF_; clear HB hb_; have HB := HB_; clear HB_; have sl__ := Aside0.mk sl_; clear sl_; have sl_ := sl__; clear sl__; skip)
  have HN : Aside0 (PF w2 (fun j => (ok j ∨ w.heap.size ≤ j) ∧ j ≠ w.heap.size ∧ j ≠ w.heap.size + 1) ({ p with q4 := p.q4.set 1 N } : Pd) ({ v with p4 := V } : Pv)) := ⟨(show PF w2 (fun j => (ok j ∨ w.heap.size ≤ j) ∧ j ≠ w.heap.size ∧ j ≠ w.heap.size + 1) ({ p with q4 := p.q4.set 1 N } : Pd) ({ v with p4 := V } : Pv) from ⟨HF.out.p0, HF.out.p3, sl_.out.mono (fun j hj => ⟨.inr (by have h_ : w1.heap.size ≤ j := hj; omega), by have h_ : w1.heap.size ≤ j := hj; omega, by have h_ : w1.heap.size ≤ j := hj; omega⟩)⟩)⟩
  obtain ⟨A_V, c_V, eV, hcV, hFV⟩ := sl_.out
  rw [List.length_set] at eV
  subst eV
  clear sl_ hcV hFV SR HF
  obtain ⟨RL, hRL⟩ : ∃ n, p.q4.length = n := ⟨_, rfl⟩
  rw [hRL] at HN
  rw [hRL]
  go_upto_region 20 with fail
  (have pn_ := Aside0.mk (blk_far (p := ⟨w.heap.size, 4, none⟩) pn.out (by show _ ≠ _; dsimp only; omega) (.slice A_V RL c_V)); clear pn pnc pnf pnl; have pn := pn_; clear pn_; obtain ⟨pnc, pnf, pnl⟩ := cells_of pn.out; have on_ := Aside0.mk (blk_put on.out 4 (.slice A_V RL c_V) (cs' := (PC ({ p with q4 := p.q4.set 1 N } : Pd) ({ v with p4 := (.slice A_V RL c_V) } : Pv))) rfl); clear on onc onf onl; have on := on_; clear on_; obtain ⟨onc, onf, onl⟩ := cells_of on.out)
  have HM := Aside0.mk (PF.step HN.out (fun j hj _ => Below.heap_setCell w2 ⟨w.heap.size, 4, none⟩ (.slice A_V RL c_V) j hj.2.1))
  clear HN
  go_wp2_with (first | ((with_reducible refine gate_dst (N := 91) rfl ?_); (try (refine gate_guard (by rfl) ?_; dsimp only)); refine wpList_load_row rfl 24 _ rfl _ (by rfl) _ (PC ({ p with q4 := p.q4.set 1 N } : Pd) ({ v with p4 := (.slice A_V RL c_V) } : Pv)) _ _ (eG on) Try.underlying24 rfl infPC ?_) | ((with_reducible refine gate_store (t := 24) (p := 8) (v := .tmp 91) rfl ?_); refine wpList_store_all rfl 24 _ _ rfl rfl _ (PC ({ p with q4 := p.q4.set 1 N } : Pd) ({ v with p4 := (.slice A_V RL c_V) } : Pv)) (by rfl) (by rfl) _ _ pn.out rfl infPC (HM.out.one) ?_; rintro w8 ⟨hx_, hk_, hb_, hzz_⟩; have HB_ : Aside0 (Below w.heap.size w w8) := Aside0.mk (Below.trans (bG HB) (Below.mono hb_ (by first | omega | (simp only [sz_alloc, sz_drew, sz_drewN]; omega)))); have hzw8 := hzz_; (try simp at hzw8); clear hzz_; have on_ := Aside0.mk (st_put on.out hk_ (fun h_ => (by repeat (with_reducible first | exact h_ | apply ext_drew | apply ext_drewN | apply ext_alloc | refine blk_far ?_ (by show _ ≠ _; dsimp only; omega) _))) (by omega)); clear on onc onf onl; have on := on_; clear on_; obtain ⟨onc, onf, onl⟩ := cells_of on.out; (first | (have HM_ := Aside0.mk (PF.step HM.out (fun j hj _ => hk_ j (hj.2.2)))) | (have HM_ := Aside0.mk (PF.step (PF.alloc HM.out _) (fun j hj _ => hk_ j (hj.2.2))))); clear HM; have HM := HM_; clear HM_; (try clear pn pnc pnf pnl); have pn := Aside0.mk hx_; obtain ⟨pnc, pnf, pnl⟩ := cells_of pn.out; clear HB hb_ hk_ hx_; have HB := HB_; clear HB_))
  refine bodyPost_ret (results_ct rfl _ _ (w.heap.size + 1) 24 (PC ({ p with q4 := p.q4.set 1 N } : Pd) ({ v with p4 := (.slice A_V RL c_V) } : Pv)) (0, 0) _ rfl pn.out Try.underlying24 rfl infPC) rfl ⟨({ v with p4 := (.slice A_V RL c_V) } : Pv), rfl, HM.out.mono (fun j hj => hj.1), (bG HB)⟩
end Go.Proofs.Ytmlpnjoejdpblaa.Q
end
