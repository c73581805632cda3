/- csr.Write and csr.Read. -/
import Derived.Test.YtncdhfigfbhohaaCread
import Derived.Test.YtncdhfigfbhohaaCwrite
import Derived.Test.YtncdhfigfbhohaaCis
import Derived.Test.YtncdhfigfbhohaaSt
namespace Go.Proofs.Ytncdhfigfbhohaa.Q
open Go.RowKit Go.Proofs.YtncdhfigfbhohaaW.PrintWords Go.Proofs.YtncdhfigfbhohaaW.PrintLast Go.Proofs.YtncdhfigfbhohaaW.PrintMore Go.Proofs.Ytncdhfigfbhohaa.L
attribute [local go_sem] Instr.field part asAgg lt_step max2_int min2_int max_two min_two max_three min_three max_four min_four lt_0_1 lt_0_2 lt_1_2 lt_0_3 lt_1_3 lt_2_3 lt_0_4 lt_1_4 lt_2_4 lt_3_4 lt_0_5 lt_1_5 lt_2_5 lt_3_5 lt_4_5 lt_0_6 lt_1_6 lt_2_6 lt_3_6 lt_4_6 lt_5_6 lt_0_7 lt_1_7 lt_2_7 lt_3_7 lt_4_7 lt_5_7 lt_6_7 lt_0_8 lt_1_8 lt_2_8 lt_3_8 lt_4_8 lt_5_8 lt_6_8 lt_7_8
set_option linter.unusedVariables false
set_option linter.unusedSimpArgs false
theorem put_keep {W W' base : World} {i g : Nat} {o : Obj} (h : base.heap[i]? = some o) (hk : ∀ i, i ≠ g → W'.heap[i]? = W.heap[i]?) (he : base.heap[i]? = some o → W.heap[i]? = some o) (hi : i ≠ g) : W'.heap[i]? = some o := (hk i hi).trans (he h)
theorem readB_some (b : Nat) (c : Nat → Int) (n p x : Int) (w : World) (hb : w.heap[b]? = some (.cells (C17 c) 35 (0, 0))) (h : readZ c n p = some x) :
    Calls Try.prog 14 #[.pointer (some ⟨b, 0, none⟩), .int .i64 n, .int .i64 p] w fun e w' => e = .returned (.tuple #[.int .u64 x, .nilIface]) ∧ Below w.heap.size w w' :=
  (read_some b c n p x w hb h).mono fun _ _ ⟨he, k, hw⟩ => ⟨he, by subst hw; exact pw_below_drewN (Below.refl _ _) k⟩
theorem readB_none (b : Nat) (c : Nat → Int) (n p : Int) (w : World) (hb : w.heap[b]? = some (.cells (C17 c) 35 (0, 0))) (h : readZ c n p = none) :
    Calls Try.prog 14 #[.pointer (some ⟨b, 0, none⟩), .int .i64 n, .int .i64 p] w fun e w' => ∃ g, e = .returned (.tuple #[.int .u64 0, .iface 46 (.pointer (some ⟨g, 0, none⟩))]) ∧ w'.heap[g]? = some (.cells #[.int .i64 n] 48 (0, 0)) ∧ Below w.heap.size w w' :=
  (read_none b c n p w hb h).mono fun _ _ ⟨he, hw⟩ => ⟨_, he, by subst hw; exact ⟨nb_1 _ _, Below.alloc (Below.refl _ _) (Nat.le_refl _) _⟩⟩
theorem isB_nil (w : World) : Calls Try.prog 16 #[.nilIface, .iface 43 (.agg #[])] w fun e w' => e = .returned (.bool false) ∧ Below w.heap.size w w' :=
  (is_nil w).mono fun _ _ ⟨he, hw⟩ => ⟨he, by subst hw; exact Below.refl _ _⟩
theorem isB_refusal (g : Nat) (n : Int) (w : World) (hg : w.heap[g]? = some (.cells #[.int .i64 n] 48 (0, 0))) :
    Calls Try.prog 16 #[.iface 46 (.pointer (some ⟨g, 0, none⟩)), .iface 43 (.agg #[])] w fun e w' => e = .returned (.bool true) ∧ Below w.heap.size w w' :=
  (is_refusal g n w hg).mono fun _ _ ⟨he, hw⟩ => ⟨he, by subst hw; exact Below.refl _ _⟩
set_option maxHeartbeats 1600000 in
set_option maxRecDepth 100000 in
theorem Write_no (c : Nat → Int) (n p x : Int) (w : World) (h : readZ c n p = none) :
    Calls Try.prog 10 #[.agg (C17 c), .int .i64 n, .int .i64 p, .int .u64 x] w fun e w' => e = .returned (.tuple #[.agg (C17 c), .bool false]) ∧ Below w.heap.size w w' := by
  have HB := Aside0.mk (Below.refl w.heap.size w)
  have H := Aside0.mk h
  clear h
  have I24 : Aside0 ((Try.prog.info? 24).map (·.size) = some (C17 c).size) := ⟨C17_info c 24 (by kernel_rfl)⟩
  have I35 : Aside0 ((Try.prog.info? 35).map (·.size) = some (C17 c).size) := ⟨C17_info c 35 (by kernel_rfl)⟩
  have SC : Aside0 (17 = (C17 c).size) := ⟨rfl⟩
  have OC : Aside0 ((C17 c).all (·.oneCell') = true) := ⟨C17_one c⟩
  go_enter Try.func10, Try.ntmps10
  go_upto_region 1 with fail
  obtain ⟨wa, hwa, oc0, od0, hb_, hz0⟩ := letter2 w (.cells (C17 c) 24 (0, 0)) (.cells #[.int .u64 0, .int .u64 0, .int .u64 0, .int .u64 0, .int .u64 0, .int .u64 0, .int .u64 0, .int .u64 0, .int .u64 0, .int .u64 0, .int .u64 0, .int .u64 0, .int .u64 0, .int .u64 0, .int .u64 0, .int .u64 0, .int .u64 0] 24 (0, 0))
  rw [hwa]
  clear hwa
  have hzwa := Nat.le_of_eq hz0.symm
  clear hz0
  have oc := Aside0.mk oc0
  have od := Aside0.mk od0
  clear oc0 od0
  obtain ⟨occ, ocf, ocl⟩ := cells_of oc.out
  obtain ⟨odc, odf, odl⟩ := cells_of od.out
  have HB_ : Aside0 (Below w.heap.size w wa) := ⟨hb_⟩
  clear HB hb_; have HB := HB_; clear HB_
  go_wp2_with (first | ((with_reducible refine gate_dst (N := 13) rfl ?_); (try (refine gate_guard (by rfl) ?_; dsimp only)); refine wpList_load_row rfl 24 _ rfl _ (by rfl) _ (C17 c) _ _ (by repeat (with_reducible first | exact oc.out | apply ext_drew | apply ext_drewN | apply ext_alloc | refine blk_far ?_ (by show _ ≠ _; dsimp only; omega) _)) Try.underlying24 rfl I24.out ?_) | ((with_reducible refine gate_store (t := 35) (p := 10) (v := .tmp 13) rfl ?_); refine wpList_store_all rfl 35 _ _ rfl rfl _ (C17 c) (by rfl) (by rfl) _ _ (nb_1 _ _) SC.out I35.out OC.out ?_; rintro w1 ⟨hx_, hk_, hb_, hzz_⟩; have HB_ : Aside0 (Below w.heap.size w w1) := Aside0.mk (Below.trans (by repeat (first | (with_reducible first | exact HB.out | exact Below.refl _ _ | apply below_alloc | apply pw_below_drewN | apply below_drew | refine below_set ?_ (by omega)) | exact HB.out)) (Below.mono hb_ (by first | omega | (simp only [sz_alloc, sz_drew, sz_drewN]; omega)))); have hzw1 := hzz_; (try simp at hzw1); clear hzz_; have oc_ := Aside0.mk (st_put oc.out hk_ (fun h_ => (by repeat (with_reducible first | exact h_ | apply ext_drew | apply ext_drewN | apply ext_alloc | refine blk_far ?_ (by show _ ≠ _; dsimp only; omega) _))) (by omega)); clear oc occ ocf ocl; have oc := oc_; clear oc_; obtain ⟨occ, ocf, ocl⟩ := cells_of oc.out; have od_ := Aside0.mk (st_put od.out hk_ (fun h_ => (by repeat (with_reducible first | exact h_ | apply ext_drew | apply ext_drewN | apply ext_alloc | refine blk_far ?_ (by show _ ≠ _; dsimp only; omega) _))) (by omega)); clear od odc odf odl; have od := od_; clear od_; obtain ⟨odc, odf, odl⟩ := cells_of od.out; (try clear of ofc off ofl); have of := Aside0.mk hx_; obtain ⟨ofc, off, ofl⟩ := cells_of of.out; clear HB hb_ hk_ hx_; have HB := HB_; clear HB_))
  (go_at_call 14; (with_reducible refine (readB_none _ c n p _ (by repeat (with_reducible first | exact of.out | apply ext_drew | apply ext_drewN | apply ext_alloc | refine blk_far ?_ (by show _ ≠ _; dsimp only; omega) _)) H.out).mono ?_); rintro e_ w2 ⟨g_, rfl, hg_, hb_⟩; have HB_ : Aside0 (Below w.heap.size w w2) := Aside0.mk (below_step (by repeat (first | (with_reducible first | exact HB.out | exact Below.refl _ _ | apply below_alloc | apply pw_below_drewN | apply below_drew | refine below_set ?_ (by omega)) | exact HB.out)) hb_); have hzw2 := hb_.size; (try simp at hzw2); have oc_ := Aside0.mk (box_below hb_ (by repeat (with_reducible first | exact oc.out | apply ext_drew | apply ext_drewN | apply ext_alloc | refine blk_far ?_ (by show _ ≠ _; dsimp only; omega) _))); have od_ := Aside0.mk (box_below hb_ (by repeat (with_reducible first | exact od.out | apply ext_drew | apply ext_drewN | apply ext_alloc | refine blk_far ?_ (by show _ ≠ _; dsimp only; omega) _))); have of_ := Aside0.mk (box_below hb_ (by repeat (with_reducible first | exact of.out | apply ext_drew | apply ext_drewN | apply ext_alloc | refine blk_far ?_ (by show _ ≠ _; dsimp only; omega) _))); (try clear oc occ ocf ocl); have oc := oc_; clear oc_; obtain ⟨occ, ocf, ocl⟩ := cells_of oc.out; (try clear od odc odf odl); have od := od_; clear od_; obtain ⟨odc, odf, odl⟩ := cells_of od.out; (try clear of ofc off ofl); have of := of_; clear of_; obtain ⟨ofc, off, ofl⟩ := cells_of of.out; clear HB hb_; have HB := HB_; clear HB_; have hg__ := Aside0.mk hg_; clear hg_; have hg_ := hg__; clear hg__; skip)
  go_wp2_with (first | ((with_reducible refine gate_dst (N := 27) rfl ?_); (try (refine gate_guard (by rfl) ?_; dsimp only)); refine wpList_load_row rfl 24 _ rfl _ (by rfl) _ (C17 c) _ _ (by repeat (with_reducible first | exact oc.out | apply ext_drew | apply ext_drewN | apply ext_alloc | refine blk_far ?_ (by show _ ≠ _; dsimp only; omega) _)) Try.underlying24 rfl I24.out ?_) | ((with_reducible refine gate_store (t := 24) (p := 8) (v := .tmp 27) rfl ?_); refine wpList_store_all rfl 24 _ _ rfl rfl _ (C17 c) (by rfl) (by rfl) _ _ od.out SC.out I24.out OC.out ?_; rintro w3 ⟨hx_, hk_, hb_, hzz_⟩; have HB_ : Aside0 (Below w.heap.size w w3) := Aside0.mk (Below.trans (by repeat (first | (with_reducible first | exact HB.out | exact Below.refl _ _ | apply below_alloc | apply pw_below_drewN | apply below_drew | refine below_set ?_ (by omega)) | exact HB.out)) (Below.mono hb_ (by first | omega | (simp only [sz_alloc, sz_drew, sz_drewN]; omega)))); have hzw3 := hzz_; (try simp at hzw3); clear hzz_; have oc_ := Aside0.mk (st_put oc.out hk_ (fun h_ => (by repeat (with_reducible first | exact h_ | apply ext_drew | apply ext_drewN | apply ext_alloc | refine blk_far ?_ (by show _ ≠ _; dsimp only; omega) _))) (by omega)); clear oc occ ocf ocl; have oc := oc_; clear oc_; obtain ⟨occ, ocf, ocl⟩ := cells_of oc.out; have of_ := Aside0.mk (st_put of.out hk_ (fun h_ => (by repeat (with_reducible first | exact h_ | apply ext_drew | apply ext_drewN | apply ext_alloc | refine blk_far ?_ (by show _ ≠ _; dsimp only; omega) _))) (by omega)); clear of ofc off ofl; have of := of_; clear of_; obtain ⟨ofc, off, ofl⟩ := cells_of of.out; (try clear od odc odf odl); have od := Aside0.mk hx_; obtain ⟨odc, odf, odl⟩ := cells_of od.out; clear HB hb_ hk_ hx_; have HB := HB_; clear HB_))
  refine bodyPost_ret (results_ct rfl _ _ (w.heap.size + 1) 24 (C17 c) (0, 0) _ rfl od.out Try.underlying24 rfl I24.out) rfl ⟨rfl, (by repeat (first | (with_reducible first | exact HB.out | exact Below.refl _ _ | apply below_alloc | apply pw_below_drewN | apply below_drew | refine below_set ?_ (by omega)) | exact HB.out))⟩
set_option maxHeartbeats 1600000 in
set_option maxRecDepth 100000 in
theorem Write_low (c : Nat → Int) (n p x v : Int) (w : World) (h : readZ c n p = some v) (hq : (n / 1024 == 3) = true) :
    Calls Try.prog 10 #[.agg (C17 c), .int .i64 n, .int .i64 p, .int .u64 x] w fun e w' => e = .returned (.tuple #[.agg (C17 c), .bool false]) ∧ Below w.heap.size w w' := by
  have HB := Aside0.mk (Below.refl w.heap.size w)
  have H := Aside0.mk h
  clear h
  have I24 : Aside0 ((Try.prog.info? 24).map (·.size) = some (C17 c).size) := ⟨C17_info c 24 (by kernel_rfl)⟩
  have I35 : Aside0 ((Try.prog.info? 35).map (·.size) = some (C17 c).size) := ⟨C17_info c 35 (by kernel_rfl)⟩
  have SC : Aside0 (17 = (C17 c).size) := ⟨rfl⟩
  have OC : Aside0 ((C17 c).all (·.oneCell') = true) := ⟨C17_one c⟩
  go_enter Try.func10, Try.ntmps10
  go_upto_region 1 with fail
  obtain ⟨wa, hwa, oc0, od0, hb_, hz0⟩ := letter2 w (.cells (C17 c) 24 (0, 0)) (.cells #[.int .u64 0, .int .u64 0, .int .u64 0, .int .u64 0, .int .u64 0, .int .u64 0, .int .u64 0, .int .u64 0, .int .u64 0, .int .u64 0, .int .u64 0, .int .u64 0, .int .u64 0, .int .u64 0, .int .u64 0, .int .u64 0, .int .u64 0] 24 (0, 0))
  rw [hwa]
  clear hwa
  have hzwa := Nat.le_of_eq hz0.symm
  clear hz0
  have oc := Aside0.mk oc0
  have od := Aside0.mk od0
  clear oc0 od0
  obtain ⟨occ, ocf, ocl⟩ := cells_of oc.out
  obtain ⟨odc, odf, odl⟩ := cells_of od.out
  have HB_ : Aside0 (Below w.heap.size w wa) := ⟨hb_⟩
  clear HB hb_; have HB := HB_; clear HB_
  go_wp2_with (first | ((with_reducible refine gate_dst (N := 13) rfl ?_); (try (refine gate_guard (by rfl) ?_; dsimp only)); refine wpList_load_row rfl 24 _ rfl _ (by rfl) _ (C17 c) _ _ (by repeat (with_reducible first | exact oc.out | apply ext_drew | apply ext_drewN | apply ext_alloc | refine blk_far ?_ (by show _ ≠ _; dsimp only; omega) _)) Try.underlying24 rfl I24.out ?_) | ((with_reducible refine gate_store (t := 35) (p := 10) (v := .tmp 13) rfl ?_); refine wpList_store_all rfl 35 _ _ rfl rfl _ (C17 c) (by rfl) (by rfl) _ _ (nb_1 _ _) SC.out I35.out OC.out ?_; rintro w1 ⟨hx_, hk_, hb_, hzz_⟩; have HB_ : Aside0 (Below w.heap.size w w1) := Aside0.mk (Below.trans (by repeat (first | (with_reducible first | exact HB.out | exact Below.refl _ _ | apply below_alloc | apply pw_below_drewN | apply below_drew | refine below_set ?_ (by omega)) | exact HB.out)) (Below.mono hb_ (by first | omega | (simp only [sz_alloc, sz_drew, sz_drewN]; omega)))); have hzw1 := hzz_; (try simp at hzw1); clear hzz_; have oc_ := Aside0.mk (st_put oc.out hk_ (fun h_ => (by repeat (with_reducible first | exact h_ | apply ext_drew | apply ext_drewN | apply ext_alloc | refine blk_far ?_ (by show _ ≠ _; dsimp only; omega) _))) (by omega)); clear oc occ ocf ocl; have oc := oc_; clear oc_; obtain ⟨occ, ocf, ocl⟩ := cells_of oc.out; have od_ := Aside0.mk (st_put od.out hk_ (fun h_ => (by repeat (with_reducible first | exact h_ | apply ext_drew | apply ext_drewN | apply ext_alloc | refine blk_far ?_ (by show _ ≠ _; dsimp only; omega) _))) (by omega)); clear od odc odf odl; have od := od_; clear od_; obtain ⟨odc, odf, odl⟩ := cells_of od.out; (try clear of ofc off ofl); have of := Aside0.mk hx_; obtain ⟨ofc, off, ofl⟩ := cells_of of.out; clear HB hb_ hk_ hx_; have HB := HB_; clear HB_))
  (go_at_call 14; (with_reducible refine (readB_some _ c n p v _ (by repeat (with_reducible first | exact of.out | apply ext_drew | apply ext_drewN | apply ext_alloc | refine blk_far ?_ (by show _ ≠ _; dsimp only; omega) _)) H.out).mono ?_); rintro e_ w2 ⟨rfl, hb_⟩; have HB_ : Aside0 (Below w.heap.size w w2) := Aside0.mk (below_step (by repeat (first | (with_reducible first | exact HB.out | exact Below.refl _ _ | apply below_alloc | apply pw_below_drewN | apply below_drew | refine below_set ?_ (by omega)) | exact HB.out)) hb_); have hzw2 := hb_.size; (try simp at hzw2); have oc_ := Aside0.mk (box_below hb_ (by repeat (with_reducible first | exact oc.out | apply ext_drew | apply ext_drewN | apply ext_alloc | refine blk_far ?_ (by show _ ≠ _; dsimp only; omega) _))); have od_ := Aside0.mk (box_below hb_ (by repeat (with_reducible first | exact od.out | apply ext_drew | apply ext_drewN | apply ext_alloc | refine blk_far ?_ (by show _ ≠ _; dsimp only; omega) _))); have of_ := Aside0.mk (box_below hb_ (by repeat (with_reducible first | exact of.out | apply ext_drew | apply ext_drewN | apply ext_alloc | refine blk_far ?_ (by show _ ≠ _; dsimp only; omega) _))); (try clear oc occ ocf ocl); have oc := oc_; clear oc_; obtain ⟨occ, ocf, ocl⟩ := cells_of oc.out; (try clear od odc odf odl); have od := od_; clear od_; obtain ⟨odc, odf, odl⟩ := cells_of od.out; (try clear of ofc off ofl); have of := of_; clear of_; obtain ⟨ofc, off, ofl⟩ := cells_of of.out; clear HB hb_; have HB := HB_; clear HB_)
  go_wp2_with (first | ((with_reducible refine gate_dst (N := 27) rfl ?_); (try (refine gate_guard (by rfl) ?_; dsimp only)); refine wpList_load_row rfl 24 _ rfl _ (by rfl) _ (C17 c) _ _ (by repeat (with_reducible first | exact oc.out | apply ext_drew | apply ext_drewN | apply ext_alloc | refine blk_far ?_ (by show _ ≠ _; dsimp only; omega) _)) Try.underlying24 rfl I24.out ?_) | ((with_reducible refine gate_store (t := 24) (p := 8) (v := .tmp 27) rfl ?_); refine wpList_store_all rfl 24 _ _ rfl rfl _ (C17 c) (by rfl) (by rfl) _ _ od.out SC.out I24.out OC.out ?_; rintro w3 ⟨hx_, hk_, hb_, hzz_⟩; have HB_ : Aside0 (Below w.heap.size w w3) := Aside0.mk (Below.trans (by repeat (first | (with_reducible first | exact HB.out | exact Below.refl _ _ | apply below_alloc | apply pw_below_drewN | apply below_drew | refine below_set ?_ (by omega)) | exact HB.out)) (Below.mono hb_ (by first | omega | (simp only [sz_alloc, sz_drew, sz_drewN]; omega)))); have hzw3 := hzz_; (try simp at hzw3); clear hzz_; have oc_ := Aside0.mk (st_put oc.out hk_ (fun h_ => (by repeat (with_reducible first | exact h_ | apply ext_drew | apply ext_drewN | apply ext_alloc | refine blk_far ?_ (by show _ ≠ _; dsimp only; omega) _))) (by omega)); clear oc occ ocf ocl; have oc := oc_; clear oc_; obtain ⟨occ, ocf, ocl⟩ := cells_of oc.out; have of_ := Aside0.mk (st_put of.out hk_ (fun h_ => (by repeat (with_reducible first | exact h_ | apply ext_drew | apply ext_drewN | apply ext_alloc | refine blk_far ?_ (by show _ ≠ _; dsimp only; omega) _))) (by omega)); clear of ofc off ofl; have of := of_; clear of_; obtain ⟨ofc, off, ofl⟩ := cells_of of.out; (try clear od odc odf odl); have od := Aside0.mk hx_; obtain ⟨odc, odf, odl⟩ := cells_of od.out; clear HB hb_ hk_ hx_; have HB := HB_; clear HB_))
  refine bodyPost_ret (results_ct rfl _ _ (w.heap.size + 1) 24 (C17 c) (0, 0) _ rfl od.out Try.underlying24 rfl I24.out) rfl ⟨rfl, (by repeat (first | (with_reducible first | exact HB.out | exact Below.refl _ _ | apply below_alloc | apply pw_below_drewN | apply below_drew | refine below_set ?_ (by omega)) | exact HB.out))⟩
/-- The writing, as its callers have it. -/
theorem writeP (b : Nat) (c : Nat → Int) (n x : Int) (w : World) (hb : w.heap[b]? = some (.cells (C17 c) 35 (0, 0))) (hn : n = 769 ∨ ∃ i, ofI n = some i) :
    Calls Try.prog 15 #[.pointer (some ⟨b, 0, none⟩), .int .i64 n, .int .u64 x] w fun e w' => e = .returned (.tuple #[]) ∧ w'.heap[b]? = some (.cells (C17 (writeZ c n x)) 35 (0, 0)) ∧ (∀ i, i ≠ b → w'.heap[i]? = w.heap[i]?) ∧ Below b w w' ∧ w'.heap.size = w.heap.size := by
  rcases hn with rfl | ⟨i, hi⟩
  · exact write_none b c x w hb
  · exact write_runs b c n x i w hb hi
set_option maxHeartbeats 1600000 in
set_option maxRecDepth 100000 in
theorem Write_yes (c : Nat → Int) (n p x v : Int) (w : World) (h : readZ c n p = some v) (hq : (n / 1024 == 3) = false) (hn : n = 769 ∨ ∃ i, ofI n = some i) :
    Calls Try.prog 10 #[.agg (C17 c), .int .i64 n, .int .i64 p, .int .u64 x] w fun e w' => e = .returned (.tuple #[.agg (C17 (writeZ c n x)), .bool true]) ∧ Below w.heap.size w w' := by
  have HB := Aside0.mk (Below.refl w.heap.size w)
  have H := Aside0.mk h
  clear h
  have HN := Aside0.mk hn
  clear hn
  have JC : Aside0 ((C17 (writeZ c n x)).all (·.oneCell') = true) := ⟨C17_one _⟩
  have J24 : Aside0 ((Try.prog.info? 24).map (·.size) = some (C17 (writeZ c n x)).size) := ⟨C17_info _ 24 (by kernel_rfl)⟩
  have J35 : Aside0 ((Try.prog.info? 35).map (·.size) = some (C17 (writeZ c n x)).size) := ⟨C17_info _ 35 (by kernel_rfl)⟩
  have TC : Aside0 (17 = (C17 (writeZ c n x)).size) := ⟨rfl⟩
  have I24 : Aside0 ((Try.prog.info? 24).map (·.size) = some (C17 c).size) := ⟨C17_info c 24 (by kernel_rfl)⟩
  have I35 : Aside0 ((Try.prog.info? 35).map (·.size) = some (C17 c).size) := ⟨C17_info c 35 (by kernel_rfl)⟩
  have SC : Aside0 (17 = (C17 c).size) := ⟨rfl⟩
  have OC : Aside0 ((C17 c).all (·.oneCell') = true) := ⟨C17_one c⟩
  go_enter Try.func10, Try.ntmps10
  go_upto_region 1 with fail
  obtain ⟨wa, hwa, oc0, od0, hb_, hz0⟩ := letter2 w (.cells (C17 c) 24 (0, 0)) (.cells #[.int .u64 0, .int .u64 0, .int .u64 0, .int .u64 0, .int .u64 0, .int .u64 0, .int .u64 0, .int .u64 0, .int .u64 0, .int .u64 0, .int .u64 0, .int .u64 0, .int .u64 0, .int .u64 0, .int .u64 0, .int .u64 0, .int .u64 0] 24 (0, 0))
  rw [hwa]
  clear hwa
  have hzwa := Nat.le_of_eq hz0.symm
  clear hz0
  have oc := Aside0.mk oc0
  have od := Aside0.mk od0
  clear oc0 od0
  obtain ⟨occ, ocf, ocl⟩ := cells_of oc.out
  obtain ⟨odc, odf, odl⟩ := cells_of od.out
  have HB_ : Aside0 (Below w.heap.size w wa) := ⟨hb_⟩
  clear HB hb_; have HB := HB_; clear HB_
  go_wp2_with (first | ((with_reducible refine gate_dst (N := 13) rfl ?_); (try (refine gate_guard (by rfl) ?_; dsimp only)); refine wpList_load_row rfl 24 _ rfl _ (by rfl) _ (C17 c) _ _ (by repeat (with_reducible first | exact oc.out | apply ext_drew | apply ext_drewN | apply ext_alloc | refine blk_far ?_ (by show _ ≠ _; dsimp only; omega) _)) Try.underlying24 rfl I24.out ?_) | ((with_reducible refine gate_store (t := 35) (p := 10) (v := .tmp 13) rfl ?_); refine wpList_store_all rfl 35 _ _ rfl rfl _ (C17 c) (by rfl) (by rfl) _ _ (nb_1 _ _) SC.out I35.out OC.out ?_; rintro w1 ⟨hx_, hk_, hb_, hzz_⟩; have HB_ : Aside0 (Below w.heap.size w w1) := Aside0.mk (Below.trans (by repeat (first | (with_reducible first | exact HB.out | exact Below.refl _ _ | apply below_alloc | apply pw_below_drewN | apply below_drew | refine below_set ?_ (by omega)) | exact HB.out)) (Below.mono hb_ (by first | omega | (simp only [sz_alloc, sz_drew, sz_drewN]; omega)))); have hzw1 := hzz_; (try simp at hzw1); clear hzz_; have oc_ := Aside0.mk (st_put oc.out hk_ (fun h_ => (by repeat (with_reducible first | exact h_ | apply ext_drew | apply ext_drewN | apply ext_alloc | refine blk_far ?_ (by show _ ≠ _; dsimp only; omega) _))) (by omega)); clear oc occ ocf ocl; have oc := oc_; clear oc_; obtain ⟨occ, ocf, ocl⟩ := cells_of oc.out; have od_ := Aside0.mk (st_put od.out hk_ (fun h_ => (by repeat (with_reducible first | exact h_ | apply ext_drew | apply ext_drewN | apply ext_alloc | refine blk_far ?_ (by show _ ≠ _; dsimp only; omega) _))) (by omega)); clear od odc odf odl; have od := od_; clear od_; obtain ⟨odc, odf, odl⟩ := cells_of od.out; (try clear of ofc off ofl); have of := Aside0.mk hx_; obtain ⟨ofc, off, ofl⟩ := cells_of of.out; clear HB hb_ hk_ hx_; have HB := HB_; clear HB_))
  (go_at_call 14; (with_reducible refine (readB_some _ c n p v _ (by repeat (with_reducible first | exact of.out | apply ext_drew | apply ext_drewN | apply ext_alloc | refine blk_far ?_ (by show _ ≠ _; dsimp only; omega) _)) H.out).mono ?_); rintro e_ w2 ⟨rfl, hb_⟩; have HB_ : Aside0 (Below w.heap.size w w2) := Aside0.mk (below_step (by repeat (first | (with_reducible first | exact HB.out | exact Below.refl _ _ | apply below_alloc | apply pw_below_drewN | apply below_drew | refine below_set ?_ (by omega)) | exact HB.out)) hb_); have hzw2 := hb_.size; (try simp at hzw2); have oc_ := Aside0.mk (box_below hb_ (by repeat (with_reducible first | exact oc.out | apply ext_drew | apply ext_drewN | apply ext_alloc | refine blk_far ?_ (by show _ ≠ _; dsimp only; omega) _))); have od_ := Aside0.mk (box_below hb_ (by repeat (with_reducible first | exact od.out | apply ext_drew | apply ext_drewN | apply ext_alloc | refine blk_far ?_ (by show _ ≠ _; dsimp only; omega) _))); have of_ := Aside0.mk (box_below hb_ (by repeat (with_reducible first | exact of.out | apply ext_drew | apply ext_drewN | apply ext_alloc | refine blk_far ?_ (by show _ ≠ _; dsimp only; omega) _))); (try clear oc occ ocf ocl); have oc := oc_; clear oc_; obtain ⟨occ, ocf, ocl⟩ := cells_of oc.out; (try clear od odc odf odl); have od := od_; clear od_; obtain ⟨odc, odf, odl⟩ := cells_of od.out; (try clear of ofc off ofl); have of := of_; clear of_; obtain ⟨ofc, off, ofl⟩ := cells_of of.out; clear HB hb_; have HB := HB_; clear HB_)
  go_wp2_with fail
  (go_at_call 15; (with_reducible refine (writeP _ c n x _ (by repeat (with_reducible first | exact of.out | apply ext_drew | apply ext_drewN | apply ext_alloc | refine blk_far ?_ (by show _ ≠ _; dsimp only; omega) _)) HN.out).mono ?_); rintro e_ w3 ⟨rfl, hx_, hk_, hb_, hzz_⟩; have HB_ : Aside0 (Below w.heap.size w w3) := Aside0.mk (Below.trans (by repeat (first | (with_reducible first | exact HB.out | exact Below.refl _ _ | apply below_alloc | apply pw_below_drewN | apply below_drew | refine below_set ?_ (by omega)) | exact HB.out)) (Below.mono hb_ (by omega))); have hzw3 := hzz_; (try simp at hzw3); clear hzz_; have oc_ := Aside0.mk (put_keep oc.out hk_ (fun h_ => (by repeat (with_reducible first | exact h_ | apply ext_drew | apply ext_drewN | apply ext_alloc | refine blk_far ?_ (by show _ ≠ _; dsimp only; omega) _))) (by omega)); have od_ := Aside0.mk (put_keep od.out hk_ (fun h_ => (by repeat (with_reducible first | exact h_ | apply ext_drew | apply ext_drewN | apply ext_alloc | refine blk_far ?_ (by show _ ≠ _; dsimp only; omega) _))) (by omega)); have of_ := Aside0.mk hx_; (try clear oc occ ocf ocl); have oc := oc_; clear oc_; obtain ⟨occ, ocf, ocl⟩ := cells_of oc.out; (try clear od odc odf odl); have od := od_; clear od_; obtain ⟨odc, odf, odl⟩ := cells_of od.out; (try clear of ofc off ofl); have of := of_; clear of_; obtain ⟨ofc, off, ofl⟩ := cells_of of.out; clear HB hb_ hk_ hx_; have HB := HB_; clear HB_; skip)
  go_wp2_with (first | ((with_reducible refine gate_dst (N := 31) rfl ?_); (try (refine gate_guard (by rfl) ?_; dsimp only)); refine wpList_load_row rfl 35 _ rfl _ (by rfl) _ (C17 (writeZ c n x)) _ _ (by repeat (with_reducible first | exact of.out | apply ext_drew | apply ext_drewN | apply ext_alloc | refine blk_far ?_ (by show _ ≠ _; dsimp only; omega) _)) Try.underlying35 rfl J35.out ?_) | ((with_reducible refine gate_store (t := 24) (p := 8) (v := .tmp 31) rfl ?_); refine wpList_store_all rfl 24 _ _ rfl rfl _ (C17 (writeZ c n x)) (by rfl) (by rfl) _ _ od.out TC.out J24.out JC.out ?_; rintro w4 ⟨hx_, hk_, hb_, hzz_⟩; have HB_ : Aside0 (Below w.heap.size w w4) := Aside0.mk (Below.trans (by repeat (first | (with_reducible first | exact HB.out | exact Below.refl _ _ | apply below_alloc | apply pw_below_drewN | apply below_drew | refine below_set ?_ (by omega)) | exact HB.out)) (Below.mono hb_ (by first | omega | (simp only [sz_alloc, sz_drew, sz_drewN]; omega)))); have hzw4 := hzz_; (try simp at hzw4); clear hzz_; have oc_ := Aside0.mk (st_put oc.out hk_ (fun h_ => (by repeat (with_reducible first | exact h_ | apply ext_drew | apply ext_drewN | apply ext_alloc | refine blk_far ?_ (by show _ ≠ _; dsimp only; omega) _))) (by omega)); clear oc occ ocf ocl; have oc := oc_; clear oc_; obtain ⟨occ, ocf, ocl⟩ := cells_of oc.out; have of_ := Aside0.mk (st_put of.out hk_ (fun h_ => (by repeat (with_reducible first | exact h_ | apply ext_drew | apply ext_drewN | apply ext_alloc | refine blk_far ?_ (by show _ ≠ _; dsimp only; omega) _))) (by omega)); clear of ofc off ofl; have of := of_; clear of_; obtain ⟨ofc, off, ofl⟩ := cells_of of.out; (try clear od odc odf odl); have od := Aside0.mk hx_; obtain ⟨odc, odf, odl⟩ := cells_of od.out; clear HB hb_ hk_ hx_; have HB := HB_; clear HB_))
  refine bodyPost_ret (results_ct rfl _ _ (w.heap.size + 1) 24 (C17 (writeZ c n x)) (0, 0) _ rfl od.out Try.underlying24 rfl J24.out) rfl ⟨rfl, (by repeat (first | (with_reducible first | exact HB.out | exact Below.refl _ _ | apply below_alloc | apply pw_below_drewN | apply below_drew | refine below_set ?_ (by omega)) | exact HB.out))⟩
set_option maxHeartbeats 1600000 in
set_option maxRecDepth 100000 in
theorem Read_some (c : Nat → Int) (n p v : Int) (w : World) (h : readZ c n p = some v) :
    Calls Try.prog 11 #[.agg (C17 c), .int .i64 n, .int .i64 p] w fun e w' => e = .returned (.tuple #[.int .u64 v, .bool true]) ∧ Below w.heap.size w w' := by
  have HB := Aside0.mk (Below.refl w.heap.size w)
  have H := Aside0.mk h
  clear h
  have I24 : Aside0 ((Try.prog.info? 24).map (·.size) = some (C17 c).size) := ⟨C17_info c 24 (by kernel_rfl)⟩
  have I35 : Aside0 ((Try.prog.info? 35).map (·.size) = some (C17 c).size) := ⟨C17_info c 35 (by kernel_rfl)⟩
  have SC : Aside0 (17 = (C17 c).size) := ⟨rfl⟩
  have OC : Aside0 ((C17 c).all (·.oneCell') = true) := ⟨C17_one c⟩
  go_enter Try.func11, Try.ntmps11
  go_upto_region 1 with fail
  obtain ⟨wa, hwa, oc0, hb_, hz0⟩ := letter1 w (.cells (C17 c) 24 (0, 0))
  rw [hwa]
  clear hwa
  have hzwa := Nat.le_of_eq hz0.symm
  clear hz0
  have oc := Aside0.mk oc0
  clear oc0
  obtain ⟨occ, ocf, ocl⟩ := cells_of oc.out
  have HB_ : Aside0 (Below w.heap.size w wa) := ⟨hb_⟩
  clear HB hb_; have HB := HB_; clear HB_
  go_wp2_with (first | ((with_reducible refine gate_dst (N := 11) rfl ?_); (try (refine gate_guard (by rfl) ?_; dsimp only)); refine wpList_load_row rfl 24 _ rfl _ (by rfl) _ (C17 c) _ _ (by repeat (with_reducible first | exact oc.out | apply ext_drew | apply ext_drewN | apply ext_alloc | refine blk_far ?_ (by show _ ≠ _; dsimp only; omega) _)) Try.underlying24 rfl I24.out ?_) | ((with_reducible refine gate_store (t := 35) (p := 8) (v := .tmp 11) rfl ?_); refine wpList_store_all rfl 35 _ _ rfl rfl _ (C17 c) (by rfl) (by rfl) _ _ (nb_1 _ _) SC.out I35.out OC.out ?_; rintro w1 ⟨hx_, hk_, hb_, hzz_⟩; have HB_ : Aside0 (Below w.heap.size w w1) := Aside0.mk (Below.trans (by repeat (first | (with_reducible first | exact HB.out | exact Below.refl _ _ | apply below_alloc | apply pw_below_drewN | apply below_drew | refine below_set ?_ (by omega)) | exact HB.out)) (Below.mono hb_ (by first | omega | (simp only [sz_alloc, sz_drew, sz_drewN]; omega)))); have hzw1 := hzz_; (try simp at hzw1); clear hzz_; have oc_ := Aside0.mk (st_put oc.out hk_ (fun h_ => (by repeat (with_reducible first | exact h_ | apply ext_drew | apply ext_drewN | apply ext_alloc | refine blk_far ?_ (by show _ ≠ _; dsimp only; omega) _))) (by omega)); clear oc occ ocf ocl; have oc := oc_; clear oc_; obtain ⟨occ, ocf, ocl⟩ := cells_of oc.out; (try clear of ofc off ofl); have of := Aside0.mk hx_; obtain ⟨ofc, off, ofl⟩ := cells_of of.out; clear HB hb_ hk_ hx_; have HB := HB_; clear HB_))
  (go_at_call 14; (with_reducible refine (readB_some _ c n p v _ (by repeat (with_reducible first | exact of.out | apply ext_drew | apply ext_drewN | apply ext_alloc | refine blk_far ?_ (by show _ ≠ _; dsimp only; omega) _)) H.out).mono ?_); rintro e_ w2 ⟨rfl, hb_⟩; have HB_ : Aside0 (Below w.heap.size w w2) := Aside0.mk (below_step (by repeat (first | (with_reducible first | exact HB.out | exact Below.refl _ _ | apply below_alloc | apply pw_below_drewN | apply below_drew | refine below_set ?_ (by omega)) | exact HB.out)) hb_); have hzw2 := hb_.size; (try simp at hzw2); have oc_ := Aside0.mk (box_below hb_ (by repeat (with_reducible first | exact oc.out | apply ext_drew | apply ext_drewN | apply ext_alloc | refine blk_far ?_ (by show _ ≠ _; dsimp only; omega) _))); have of_ := Aside0.mk (box_below hb_ (by repeat (with_reducible first | exact of.out | apply ext_drew | apply ext_drewN | apply ext_alloc | refine blk_far ?_ (by show _ ≠ _; dsimp only; omega) _))); (try clear oc occ ocf ocl); have oc := oc_; clear oc_; obtain ⟨occ, ocf, ocl⟩ := cells_of oc.out; (try clear of ofc off ofl); have of := of_; clear of_; obtain ⟨ofc, off, ofl⟩ := cells_of of.out; clear HB hb_; have HB := HB_; clear HB_)
  go_wp2_with fail
  (go_at_call 16; (with_reducible refine (isB_nil _).mono ?_); rintro e_ w3 ⟨rfl, hb_⟩; have HB_ : Aside0 (Below w.heap.size w w3) := Aside0.mk (below_step (by repeat (first | (with_reducible first | exact HB.out | exact Below.refl _ _ | apply below_alloc | apply pw_below_drewN | apply below_drew | refine below_set ?_ (by omega)) | exact HB.out)) hb_); have hzw3 := hb_.size; (try simp at hzw3); have oc_ := Aside0.mk (box_below hb_ (by repeat (with_reducible first | exact oc.out | apply ext_drew | apply ext_drewN | apply ext_alloc | refine blk_far ?_ (by show _ ≠ _; dsimp only; omega) _))); have of_ := Aside0.mk (box_below hb_ (by repeat (with_reducible first | exact of.out | apply ext_drew | apply ext_drewN | apply ext_alloc | refine blk_far ?_ (by show _ ≠ _; dsimp only; omega) _))); (try clear oc occ ocf ocl); have oc := oc_; clear oc_; obtain ⟨occ, ocf, ocl⟩ := cells_of oc.out; (try clear of ofc off ofl); have of := of_; clear of_; obtain ⟨ofc, off, ofl⟩ := cells_of of.out; clear HB hb_; have HB := HB_; clear HB_)
  go_wp2
  go_ret2
  exact ⟨rfl, (by repeat (first | (with_reducible first | exact HB.out | exact Below.refl _ _ | apply below_alloc | apply pw_below_drewN | apply below_drew | refine below_set ?_ (by omega)) | exact HB.out))⟩
set_option maxHeartbeats 1600000 in
set_option maxRecDepth 100000 in
theorem Read_none (c : Nat → Int) (n p : Int) (w : World) (h : readZ c n p = none) :
    Calls Try.prog 11 #[.agg (C17 c), .int .i64 n, .int .i64 p] w fun e w' => e = .returned (.tuple #[.int .u64 0, .bool false]) ∧ Below w.heap.size w w' := by
  have HB := Aside0.mk (Below.refl w.heap.size w)
  have H := Aside0.mk h
  clear h
  have I24 : Aside0 ((Try.prog.info? 24).map (·.size) = some (C17 c).size) := ⟨C17_info c 24 (by kernel_rfl)⟩
  have I35 : Aside0 ((Try.prog.info? 35).map (·.size) = some (C17 c).size) := ⟨C17_info c 35 (by kernel_rfl)⟩
  have SC : Aside0 (17 = (C17 c).size) := ⟨rfl⟩
  have OC : Aside0 ((C17 c).all (·.oneCell') = true) := ⟨C17_one c⟩
  go_enter Try.func11, Try.ntmps11
  go_upto_region 1 with fail
  obtain ⟨wa, hwa, oc0, hb_, hz0⟩ := letter1 w (.cells (C17 c) 24 (0, 0))
  rw [hwa]
  clear hwa
  have hzwa := Nat.le_of_eq hz0.symm
  clear hz0
  have oc := Aside0.mk oc0
  clear oc0
  obtain ⟨occ, ocf, ocl⟩ := cells_of oc.out
  have HB_ : Aside0 (Below w.heap.size w wa) := ⟨hb_⟩
  clear HB hb_; have HB := HB_; clear HB_
  go_wp2_with (first | ((with_reducible refine gate_dst (N := 11) rfl ?_); (try (refine gate_guard (by rfl) ?_; dsimp only)); refine wpList_load_row rfl 24 _ rfl _ (by rfl) _ (C17 c) _ _ (by repeat (with_reducible first | exact oc.out | apply ext_drew | apply ext_drewN | apply ext_alloc | refine blk_far ?_ (by show _ ≠ _; dsimp only; omega) _)) Try.underlying24 rfl I24.out ?_) | ((with_reducible refine gate_store (t := 35) (p := 8) (v := .tmp 11) rfl ?_); refine wpList_store_all rfl 35 _ _ rfl rfl _ (C17 c) (by rfl) (by rfl) _ _ (nb_1 _ _) SC.out I35.out OC.out ?_; rintro w1 ⟨hx_, hk_, hb_, hzz_⟩; have HB_ : Aside0 (Below w.heap.size w w1) := Aside0.mk (Below.trans (by repeat (first | (with_reducible first | exact HB.out | exact Below.refl _ _ | apply below_alloc | apply pw_below_drewN | apply below_drew | refine below_set ?_ (by omega)) | exact HB.out)) (Below.mono hb_ (by first | omega | (simp only [sz_alloc, sz_drew, sz_drewN]; omega)))); have hzw1 := hzz_; (try simp at hzw1); clear hzz_; have oc_ := Aside0.mk (st_put oc.out hk_ (fun h_ => (by repeat (with_reducible first | exact h_ | apply ext_drew | apply ext_drewN | apply ext_alloc | refine blk_far ?_ (by show _ ≠ _; dsimp only; omega) _))) (by omega)); clear oc occ ocf ocl; have oc := oc_; clear oc_; obtain ⟨occ, ocf, ocl⟩ := cells_of oc.out; (try clear of ofc off ofl); have of := Aside0.mk hx_; obtain ⟨ofc, off, ofl⟩ := cells_of of.out; clear HB hb_ hk_ hx_; have HB := HB_; clear HB_))
  (go_at_call 14; (with_reducible refine (readB_none _ c n p _ (by repeat (with_reducible first | exact of.out | apply ext_drew | apply ext_drewN | apply ext_alloc | refine blk_far ?_ (by show _ ≠ _; dsimp only; omega) _)) H.out).mono ?_); rintro e_ w2 ⟨g_, rfl, hg_, hb_⟩; have HB_ : Aside0 (Below w.heap.size w w2) := Aside0.mk (below_step (by repeat (first | (with_reducible first | exact HB.out | exact Below.refl _ _ | apply below_alloc | apply pw_below_drewN | apply below_drew | refine below_set ?_ (by omega)) | exact HB.out)) hb_); have hzw2 := hb_.size; (try simp at hzw2); have oc_ := Aside0.mk (box_below hb_ (by repeat (with_reducible first | exact oc.out | apply ext_drew | apply ext_drewN | apply ext_alloc | refine blk_far ?_ (by show _ ≠ _; dsimp only; omega) _))); have of_ := Aside0.mk (box_below hb_ (by repeat (with_reducible first | exact of.out | apply ext_drew | apply ext_drewN | apply ext_alloc | refine blk_far ?_ (by show _ ≠ _; dsimp only; omega) _))); (try clear oc occ ocf ocl); have oc := oc_; clear oc_; obtain ⟨occ, ocf, ocl⟩ := cells_of oc.out; (try clear of ofc off ofl); have of := of_; clear of_; obtain ⟨ofc, off, ofl⟩ := cells_of of.out; clear HB hb_; have HB := HB_; clear HB_; have hg__ := Aside0.mk hg_; clear hg_; have hg_ := hg__; clear hg__; skip)
  go_wp2_with fail
  (go_at_call 16; (with_reducible refine (isB_refusal _ n _ (by repeat (with_reducible first | exact hg_.out | apply ext_drew | apply ext_drewN | apply ext_alloc | refine blk_far ?_ (by show _ ≠ _; dsimp only; omega) _))).mono ?_); rintro e_ w3 ⟨rfl, hb_⟩; have HB_ : Aside0 (Below w.heap.size w w3) := Aside0.mk (below_step (by repeat (first | (with_reducible first | exact HB.out | exact Below.refl _ _ | apply below_alloc | apply pw_below_drewN | apply below_drew | refine below_set ?_ (by omega)) | exact HB.out)) hb_); have hzw3 := hb_.size; (try simp at hzw3); have oc_ := Aside0.mk (box_below hb_ (by repeat (with_reducible first | exact oc.out | apply ext_drew | apply ext_drewN | apply ext_alloc | refine blk_far ?_ (by show _ ≠ _; dsimp only; omega) _))); have of_ := Aside0.mk (box_below hb_ (by repeat (with_reducible first | exact of.out | apply ext_drew | apply ext_drewN | apply ext_alloc | refine blk_far ?_ (by show _ ≠ _; dsimp only; omega) _))); (try clear oc occ ocf ocl); have oc := oc_; clear oc_; obtain ⟨occ, ocf, ocl⟩ := cells_of oc.out; (try clear of ofc off ofl); have of := of_; clear of_; obtain ⟨ofc, off, ofl⟩ := cells_of of.out; clear HB hb_; have HB := HB_; clear HB_)
  go_wp2
  go_ret2
  exact ⟨rfl, (by repeat (first | (with_reducible first | exact HB.out | exact Below.refl _ _ | apply below_alloc | apply pw_below_drewN | apply below_drew | refine below_set ?_ (by omega)) | exact HB.out))⟩
end Go.Proofs.Ytncdhfigfbhohaa.Q
