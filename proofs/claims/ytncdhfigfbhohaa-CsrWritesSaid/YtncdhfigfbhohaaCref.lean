/- ref05.Write. -/
import Derived.Test.YtncdhfigfbhohaaCrefR
namespace Go.Proofs.Ytncdhfigfbhohaa.Q
open Go.RowKit Go.Proofs.YtncdhfigfbhohaaW.PrintWords Go.Proofs.YtncdhfigfbhohaaW.PrintLast Go.Proofs.YtncdhfigfbhohaaW.PrintMore Go.Proofs.Ytncdhfigfbhohaa.L
attribute [local go_sem] Instr.field part asAgg lt_step max2_int min2_int max_two min_two max_three min_three max_four min_four lt_0_1 lt_0_2 lt_1_2 lt_0_3 lt_1_3 lt_2_3 lt_0_4 lt_1_4 lt_2_4 lt_3_4 lt_0_5 lt_1_5 lt_2_5 lt_3_5 lt_4_5 lt_0_6 lt_1_6 lt_2_6 lt_3_6 lt_4_6 lt_5_6 lt_0_7 lt_1_7 lt_2_7 lt_3_7 lt_4_7 lt_5_7 lt_6_7 lt_0_8 lt_1_8 lt_2_8 lt_3_8 lt_4_8 lt_5_8 lt_6_8 lt_7_8
set_option linter.unusedVariables false
set_option linter.unusedSimpArgs false
theorem readY (c : Nat → Int) (n p : Int) (k : Bool) (w : World) (ER : ∀ W, Calls Try.prog 17 #[.agg (C17 c), .int .i64 n, .int .i64 p] W fun e w' => (∃ y, e = .returned (.tuple #[.int .u64 y, .bool k])) ∧ Below W.heap.size W w') : Calls Try.prog 17 #[.agg (C17 c), .int .i64 n, .int .i64 p] w fun e w' => ∃ y, e = .returned (.tuple #[.int .u64 y, .bool k]) ∧ Below w.heap.size w w' := (ER w).mono fun _ _ ⟨⟨y, he⟩, hb⟩ => ⟨y, he, hb⟩
set_option maxHeartbeats 1600000 in
set_option maxRecDepth 100000 in
theorem refW_no (c d : Nat → Int) (n p x : Int) (w : World)  (ER : ∀ W, Calls Try.prog 17 #[.agg (C17 c), .int .i64 n, .int .i64 p] W fun e w' => (∃ y, e = .returned (.tuple #[.int .u64 y, .bool false])) ∧ Below W.heap.size W w') :
    Calls Try.prog 12 #[.agg (C17 c), .int .i64 n, .int .i64 p, .int .u64 x] w fun e w' => e = .returned (.tuple #[.agg (C17 c), .bool false]) ∧ Below w.heap.size w w' := by
  have HB := Aside0.mk (Below.refl w.heap.size w)
  have ER_ := Aside0.mk ER
  clear ER
  go_enter Try.func12, Try.ntmps12
  go_upto_region 1 with fail
  obtain ⟨wa, hwa, oc0, od0, hb_, hz0⟩ := letter2 w (.cells (C17 c) 24 (0, 0)) (.cells #[.int .u64 0, .int .u64 0, .int .u64 0, .int .u64 0, .int .u64 0, .int .u64 0, .int .u64 0, .int .u64 0, .int .u64 0, .int .u64 0, .int .u64 0, .int .u64 0, .int .u64 0, .int .u64 0, .int .u64 0, .int .u64 0, .int .u64 0] 24 (0, 0))
  rw [hwa]
  clear hwa
  have hzwa := Nat.le_of_eq hz0.symm
  clear hz0
  have oc := Aside0.mk oc0
  have od := Aside0.mk od0
  clear oc0 od0
  obtain ⟨occ, ocf, ocl⟩ := cells_of oc.out
  obtain ⟨odc, odf, odl⟩ := cells_of od.out
  have HB_ : Aside0 (Below w.heap.size w wa) := ⟨hb_⟩
  clear HB hb_; have HB := HB_; clear HB_
  go_wp2_with (first | ((with_reducible refine gate_dst (N := 13) rfl ?_); (try (refine gate_guard (by rfl) ?_; dsimp only)); refine wpList_load_row rfl 24 _ rfl _ (by rfl) _ (C17 c) _ _ (by repeat (with_reducible first | exact oc.out | apply ext_drew | apply ext_drewN | apply ext_alloc | refine blk_far ?_ (by show _ ≠ _; dsimp only; omega) _)) Try.underlying24 rfl (C17_info c 24 (by kernel_rfl)) ?_))
  (go_at_call 17; (with_reducible refine (readY c n p false _ ER_.out).mono ?_); rintro e_ w1 ⟨y, rfl, hb_⟩; have HB_ : Aside0 (Below w.heap.size w w1) := Aside0.mk (below_step (by repeat (first | (with_reducible first | exact HB.out | exact Below.refl _ _ | apply below_alloc | apply pw_below_drewN | apply below_drew | refine below_set ?_ (by omega)) | exact HB.out)) hb_); have hzw1 := hb_.size; (try simp at hzw1); have oc_ := Aside0.mk (box_below hb_ (by repeat (with_reducible first | exact oc.out | apply ext_drew | apply ext_drewN | apply ext_alloc | refine blk_far ?_ (by show _ ≠ _; dsimp only; omega) _))); have od_ := Aside0.mk (box_below hb_ (by repeat (with_reducible first | exact od.out | apply ext_drew | apply ext_drewN | apply ext_alloc | refine blk_far ?_ (by show _ ≠ _; dsimp only; omega) _))); (try clear oc occ ocf ocl); have oc := oc_; clear oc_; obtain ⟨occ, ocf, ocl⟩ := cells_of oc.out; (try clear od odc odf odl); have od := od_; clear od_; obtain ⟨odc, odf, odl⟩ := cells_of od.out; clear HB hb_; have HB := HB_; clear HB_)
  go_wp2_with (first | ((with_reducible refine gate_dst (N := 26) rfl ?_); (try (refine gate_guard (by rfl) ?_; dsimp only)); refine wpList_load_row rfl 24 _ rfl _ (by rfl) _ (C17 c) _ _ (by repeat (with_reducible first | exact oc.out | apply ext_drew | apply ext_drewN | apply ext_alloc | refine blk_far ?_ (by show _ ≠ _; dsimp only; omega) _)) Try.underlying24 rfl (C17_info c 24 (by kernel_rfl)) ?_) | ((with_reducible refine gate_store (t := 24) (p := 8) (v := .tmp 26) rfl ?_); refine wpList_store_all rfl 24 _ _ rfl rfl _ (C17 c) (by rfl) (by rfl) _ _ od.out (show 17 = (C17 c).size from rfl) (C17_info c 24 (by kernel_rfl)) (C17_one c) ?_; rintro w3 ⟨hx_, hk_, hb_, hzz_⟩; have HB_ : Aside0 (Below w.heap.size w w3) := Aside0.mk (Below.trans (by repeat (first | (with_reducible first | exact HB.out | exact Below.refl _ _ | apply below_alloc | apply pw_below_drewN | apply below_drew | refine below_set ?_ (by omega)) | exact HB.out)) (Below.mono hb_ (by first | omega | (simp only [sz_alloc, sz_drew, sz_drewN]; omega)))); have hzw3 := hzz_; (try simp at hzw3); clear hzz_; have oc_ := Aside0.mk (st_put oc.out hk_ (fun h_ => (by repeat (with_reducible first | exact h_ | apply ext_drew | apply ext_drewN | apply ext_alloc | refine blk_far ?_ (by show _ ≠ _; dsimp only; omega) _))) (by omega)); clear oc occ ocf ocl; have oc := oc_; clear oc_; obtain ⟨occ, ocf, ocl⟩ := cells_of oc.out; (try clear od odc odf odl); have od := Aside0.mk hx_; obtain ⟨odc, odf, odl⟩ := cells_of od.out; clear HB hb_ hk_ hx_; have HB := HB_; clear HB_))
  refine bodyPost_ret (results_ct rfl _ _ (w.heap.size + 1) 24 (C17 c) (0, 0) _ rfl od.out Try.underlying24 rfl (C17_info c 24 (by kernel_rfl))) rfl ⟨rfl, (by repeat (first | (with_reducible first | exact HB.out | exact Below.refl _ _ | apply below_alloc | apply pw_below_drewN | apply below_drew | refine below_set ?_ (by omega)) | exact HB.out))⟩
set_option maxHeartbeats 1600000 in
set_option maxRecDepth 100000 in
theorem refW_low (c d : Nat → Int) (n p x : Int) (w : World) (hq : (n / 1024 == 3) = true) (ER : ∀ W, Calls Try.prog 17 #[.agg (C17 c), .int .i64 n, .int .i64 p] W fun e w' => (∃ y, e = .returned (.tuple #[.int .u64 y, .bool true])) ∧ Below W.heap.size W w') :
    Calls Try.prog 12 #[.agg (C17 c), .int .i64 n, .int .i64 p, .int .u64 x] w fun e w' => e = .returned (.tuple #[.agg (C17 c), .bool false]) ∧ Below w.heap.size w w' := by
  have HB := Aside0.mk (Below.refl w.heap.size w)
  have ER_ := Aside0.mk ER
  clear ER
  go_enter Try.func12, Try.ntmps12
  go_upto_region 1 with fail
  obtain ⟨wa, hwa, oc0, od0, hb_, hz0⟩ := letter2 w (.cells (C17 c) 24 (0, 0)) (.cells #[.int .u64 0, .int .u64 0, .int .u64 0, .int .u64 0, .int .u64 0, .int .u64 0, .int .u64 0, .int .u64 0, .int .u64 0, .int .u64 0, .int .u64 0, .int .u64 0, .int .u64 0, .int .u64 0, .int .u64 0, .int .u64 0, .int .u64 0] 24 (0, 0))
  rw [hwa]
  clear hwa
  have hzwa := Nat.le_of_eq hz0.symm
  clear hz0
  have oc := Aside0.mk oc0
  have od := Aside0.mk od0
  clear oc0 od0
  obtain ⟨occ, ocf, ocl⟩ := cells_of oc.out
  obtain ⟨odc, odf, odl⟩ := cells_of od.out
  have HB_ : Aside0 (Below w.heap.size w wa) := ⟨hb_⟩
  clear HB hb_; have HB := HB_; clear HB_
  go_wp2_with (first | ((with_reducible refine gate_dst (N := 13) rfl ?_); (try (refine gate_guard (by rfl) ?_; dsimp only)); refine wpList_load_row rfl 24 _ rfl _ (by rfl) _ (C17 c) _ _ (by repeat (with_reducible first | exact oc.out | apply ext_drew | apply ext_drewN | apply ext_alloc | refine blk_far ?_ (by show _ ≠ _; dsimp only; omega) _)) Try.underlying24 rfl (C17_info c 24 (by kernel_rfl)) ?_))
  (go_at_call 17; (with_reducible refine (readY c n p true _ ER_.out).mono ?_); rintro e_ w1 ⟨y, rfl, hb_⟩; have HB_ : Aside0 (Below w.heap.size w w1) := Aside0.mk (below_step (by repeat (first | (with_reducible first | exact HB.out | exact Below.refl _ _ | apply below_alloc | apply pw_below_drewN | apply below_drew | refine below_set ?_ (by omega)) | exact HB.out)) hb_); have hzw1 := hb_.size; (try simp at hzw1); have oc_ := Aside0.mk (box_below hb_ (by repeat (with_reducible first | exact oc.out | apply ext_drew | apply ext_drewN | apply ext_alloc | refine blk_far ?_ (by show _ ≠ _; dsimp only; omega) _))); have od_ := Aside0.mk (box_below hb_ (by repeat (with_reducible first | exact od.out | apply ext_drew | apply ext_drewN | apply ext_alloc | refine blk_far ?_ (by show _ ≠ _; dsimp only; omega) _))); (try clear oc occ ocf ocl); have oc := oc_; clear oc_; obtain ⟨occ, ocf, ocl⟩ := cells_of oc.out; (try clear od odc odf odl); have od := od_; clear od_; obtain ⟨odc, odf, odl⟩ := cells_of od.out; clear HB hb_; have HB := HB_; clear HB_)
  go_wp2_with (first | ((with_reducible refine gate_dst (N := 26) rfl ?_); (try (refine gate_guard (by rfl) ?_; dsimp only)); refine wpList_load_row rfl 24 _ rfl _ (by rfl) _ (C17 c) _ _ (by repeat (with_reducible first | exact oc.out | apply ext_drew | apply ext_drewN | apply ext_alloc | refine blk_far ?_ (by show _ ≠ _; dsimp only; omega) _)) Try.underlying24 rfl (C17_info c 24 (by kernel_rfl)) ?_) | ((with_reducible refine gate_store (t := 24) (p := 8) (v := .tmp 26) rfl ?_); refine wpList_store_all rfl 24 _ _ rfl rfl _ (C17 c) (by rfl) (by rfl) _ _ od.out (show 17 = (C17 c).size from rfl) (C17_info c 24 (by kernel_rfl)) (C17_one c) ?_; rintro w3 ⟨hx_, hk_, hb_, hzz_⟩; have HB_ : Aside0 (Below w.heap.size w w3) := Aside0.mk (Below.trans (by repeat (first | (with_reducible first | exact HB.out | exact Below.refl _ _ | apply below_alloc | apply pw_below_drewN | apply below_drew | refine below_set ?_ (by omega)) | exact HB.out)) (Below.mono hb_ (by first | omega | (simp only [sz_alloc, sz_drew, sz_drewN]; omega)))); have hzw3 := hzz_; (try simp at hzw3); clear hzz_; have oc_ := Aside0.mk (st_put oc.out hk_ (fun h_ => (by repeat (with_reducible first | exact h_ | apply ext_drew | apply ext_drewN | apply ext_alloc | refine blk_far ?_ (by show _ ≠ _; dsimp only; omega) _))) (by omega)); clear oc occ ocf ocl; have oc := oc_; clear oc_; obtain ⟨occ, ocf, ocl⟩ := cells_of oc.out; (try clear od odc odf odl); have od := Aside0.mk hx_; obtain ⟨odc, odf, odl⟩ := cells_of od.out; clear HB hb_ hk_ hx_; have HB := HB_; clear HB_))
  refine bodyPost_ret (results_ct rfl _ _ (w.heap.size + 1) 24 (C17 c) (0, 0) _ rfl od.out Try.underlying24 rfl (C17_info c 24 (by kernel_rfl))) rfl ⟨rfl, (by repeat (first | (with_reducible first | exact HB.out | exact Below.refl _ _ | apply below_alloc | apply pw_below_drewN | apply below_drew | refine below_set ?_ (by omega)) | exact HB.out))⟩
set_option maxHeartbeats 1600000 in
set_option maxRecDepth 100000 in
theorem refW_sup (c d : Nat → Int) (n p x : Int) (w : World) (hq : (n / 1024 == 3) = false) (hs : (Int.tmod (n / 256) 4 == 1) = true) (ED : Aside0 (∀ W, Calls Try.prog 18 #[.agg (C17 c), .int .i64 n, .int .u64 x] W fun e w' => e = .returned (.agg (C17 d)) ∧ Below W.heap.size W w')) (ER : ∀ W, Calls Try.prog 17 #[.agg (C17 c), .int .i64 n, .int .i64 p] W fun e w' => (∃ y, e = .returned (.tuple #[.int .u64 y, .bool true])) ∧ Below W.heap.size W w') :
    Calls Try.prog 12 #[.agg (C17 c), .int .i64 n, .int .i64 p, .int .u64 x] w fun e w' => e = .returned (.tuple #[.agg (C17 d), .bool true]) ∧ Below w.heap.size w w' := by
  have HB := Aside0.mk (Below.refl w.heap.size w)
  have ER_ := Aside0.mk ER
  clear ER
  go_enter Try.func12, Try.ntmps12
  go_upto_region 1 with fail
  obtain ⟨wa, hwa, oc0, od0, hb_, hz0⟩ := letter2 w (.cells (C17 c) 24 (0, 0)) (.cells #[.int .u64 0, .int .u64 0, .int .u64 0, .int .u64 0, .int .u64 0, .int .u64 0, .int .u64 0, .int .u64 0, .int .u64 0, .int .u64 0, .int .u64 0, .int .u64 0, .int .u64 0, .int .u64 0, .int .u64 0, .int .u64 0, .int .u64 0] 24 (0, 0))
  rw [hwa]
  clear hwa
  have hzwa := Nat.le_of_eq hz0.symm
  clear hz0
  have oc := Aside0.mk oc0
  have od := Aside0.mk od0
  clear oc0 od0
  obtain ⟨occ, ocf, ocl⟩ := cells_of oc.out
  obtain ⟨odc, odf, odl⟩ := cells_of od.out
  have HB_ : Aside0 (Below w.heap.size w wa) := ⟨hb_⟩
  clear HB hb_; have HB := HB_; clear HB_
  go_wp2_with (first | ((with_reducible refine gate_dst (N := 13) rfl ?_); (try (refine gate_guard (by rfl) ?_; dsimp only)); refine wpList_load_row rfl 24 _ rfl _ (by rfl) _ (C17 c) _ _ (by repeat (with_reducible first | exact oc.out | apply ext_drew | apply ext_drewN | apply ext_alloc | refine blk_far ?_ (by show _ ≠ _; dsimp only; omega) _)) Try.underlying24 rfl (C17_info c 24 (by kernel_rfl)) ?_))
  (go_at_call 17; (with_reducible refine (readY c n p true _ ER_.out).mono ?_); rintro e_ w1 ⟨y, rfl, hb_⟩; have HB_ : Aside0 (Below w.heap.size w w1) := Aside0.mk (below_step (by repeat (first | (with_reducible first | exact HB.out | exact Below.refl _ _ | apply below_alloc | apply pw_below_drewN | apply below_drew | refine below_set ?_ (by omega)) | exact HB.out)) hb_); have hzw1 := hb_.size; (try simp at hzw1); have oc_ := Aside0.mk (box_below hb_ (by repeat (with_reducible first | exact oc.out | apply ext_drew | apply ext_drewN | apply ext_alloc | refine blk_far ?_ (by show _ ≠ _; dsimp only; omega) _))); have od_ := Aside0.mk (box_below hb_ (by repeat (with_reducible first | exact od.out | apply ext_drew | apply ext_drewN | apply ext_alloc | refine blk_far ?_ (by show _ ≠ _; dsimp only; omega) _))); (try clear oc occ ocf ocl); have oc := oc_; clear oc_; obtain ⟨occ, ocf, ocl⟩ := cells_of oc.out; (try clear od odc odf odl); have od := od_; clear od_; obtain ⟨odc, odf, odl⟩ := cells_of od.out; clear HB hb_; have HB := HB_; clear HB_)
  go_wp2_with (first | ((with_reducible refine gate_dst (N := 31) rfl ?_); (try (refine gate_guard (by rfl) ?_; dsimp only)); refine wpList_load_row rfl 24 _ rfl _ (by rfl) _ (C17 c) _ _ (by repeat (with_reducible first | exact oc.out | apply ext_drew | apply ext_drewN | apply ext_alloc | refine blk_far ?_ (by show _ ≠ _; dsimp only; omega) _)) Try.underlying24 rfl (C17_info c 24 (by kernel_rfl)) ?_))
  (go_at_call 18; (with_reducible refine (ED.out _).mono ?_); rintro e_ w2 ⟨rfl, hb_⟩; have HB_ : Aside0 (Below w.heap.size w w2) := Aside0.mk (below_step (by repeat (first | (with_reducible first | exact HB.out | exact Below.refl _ _ | apply below_alloc | apply pw_below_drewN | apply below_drew | refine below_set ?_ (by omega)) | exact HB.out)) hb_); have hzw2 := hb_.size; (try simp at hzw2); have oc_ := Aside0.mk (box_below hb_ (by repeat (with_reducible first | exact oc.out | apply ext_drew | apply ext_drewN | apply ext_alloc | refine blk_far ?_ (by show _ ≠ _; dsimp only; omega) _))); have od_ := Aside0.mk (box_below hb_ (by repeat (with_reducible first | exact od.out | apply ext_drew | apply ext_drewN | apply ext_alloc | refine blk_far ?_ (by show _ ≠ _; dsimp only; omega) _))); (try clear oc occ ocf ocl); have oc := oc_; clear oc_; obtain ⟨occ, ocf, ocl⟩ := cells_of oc.out; (try clear od odc odf odl); have od := od_; clear od_; obtain ⟨odc, odf, odl⟩ := cells_of od.out; clear HB hb_; have HB := HB_; clear HB_)
  go_wp2_with (first | ((with_reducible refine gate_store (t := 24) (p := 8) (v := .tmp 34) rfl ?_); refine wpList_store_all rfl 24 _ _ rfl rfl _ (C17 d) (by rfl) (by rfl) _ _ od.out (show 17 = (C17 d).size from rfl) (C17_info d 24 (by kernel_rfl)) (C17_one d) ?_; rintro w3 ⟨hx_, hk_, hb_, hzz_⟩; have HB_ : Aside0 (Below w.heap.size w w3) := Aside0.mk (Below.trans (by repeat (first | (with_reducible first | exact HB.out | exact Below.refl _ _ | apply below_alloc | apply pw_below_drewN | apply below_drew | refine below_set ?_ (by omega)) | exact HB.out)) (Below.mono hb_ (by first | omega | (simp only [sz_alloc, sz_drew, sz_drewN]; omega)))); have hzw3 := hzz_; (try simp at hzw3); clear hzz_; have oc_ := Aside0.mk (st_put oc.out hk_ (fun h_ => (by repeat (with_reducible first | exact h_ | apply ext_drew | apply ext_drewN | apply ext_alloc | refine blk_far ?_ (by show _ ≠ _; dsimp only; omega) _))) (by omega)); clear oc occ ocf ocl; have oc := oc_; clear oc_; obtain ⟨occ, ocf, ocl⟩ := cells_of oc.out; (try clear od odc odf odl); have od := Aside0.mk hx_; obtain ⟨odc, odf, odl⟩ := cells_of od.out; clear HB hb_ hk_ hx_; have HB := HB_; clear HB_))
  refine bodyPost_ret (results_ct rfl _ _ (w.heap.size + 1) 24 (C17 d) (0, 0) _ rfl od.out Try.underlying24 rfl (C17_info d 24 (by kernel_rfl))) rfl ⟨rfl, (by repeat (first | (with_reducible first | exact HB.out | exact Below.refl _ _ | apply below_alloc | apply pw_below_drewN | apply below_drew | refine below_set ?_ (by omega)) | exact HB.out))⟩
set_option maxHeartbeats 1600000 in
set_option maxRecDepth 100000 in
theorem refW_mac (c d : Nat → Int) (n p x : Int) (w : World) (hq : (n / 1024 == 3) = false) (hs : (Int.tmod (n / 256) 4 == 1) = false) (ED : Aside0 (∀ W, Calls Try.prog 19 #[.agg (C17 c), .int .i64 n, .int .u64 x] W fun e w' => e = .returned (.agg (C17 d)) ∧ Below W.heap.size W w')) (ER : ∀ W, Calls Try.prog 17 #[.agg (C17 c), .int .i64 n, .int .i64 p] W fun e w' => (∃ y, e = .returned (.tuple #[.int .u64 y, .bool true])) ∧ Below W.heap.size W w') :
    Calls Try.prog 12 #[.agg (C17 c), .int .i64 n, .int .i64 p, .int .u64 x] w fun e w' => e = .returned (.tuple #[.agg (C17 d), .bool true]) ∧ Below w.heap.size w w' := by
  have HB := Aside0.mk (Below.refl w.heap.size w)
  have ER_ := Aside0.mk ER
  clear ER
  go_enter Try.func12, Try.ntmps12
  go_upto_region 1 with fail
  obtain ⟨wa, hwa, oc0, od0, hb_, hz0⟩ := letter2 w (.cells (C17 c) 24 (0, 0)) (.cells #[.int .u64 0, .int .u64 0, .int .u64 0, .int .u64 0, .int .u64 0, .int .u64 0, .int .u64 0, .int .u64 0, .int .u64 0, .int .u64 0, .int .u64 0, .int .u64 0, .int .u64 0, .int .u64 0, .int .u64 0, .int .u64 0, .int .u64 0] 24 (0, 0))
  rw [hwa]
  clear hwa
  have hzwa := Nat.le_of_eq hz0.symm
  clear hz0
  have oc := Aside0.mk oc0
  have od := Aside0.mk od0
  clear oc0 od0
  obtain ⟨occ, ocf, ocl⟩ := cells_of oc.out
  obtain ⟨odc, odf, odl⟩ := cells_of od.out
  have HB_ : Aside0 (Below w.heap.size w wa) := ⟨hb_⟩
  clear HB hb_; have HB := HB_; clear HB_
  go_wp2_with (first | ((with_reducible refine gate_dst (N := 13) rfl ?_); (try (refine gate_guard (by rfl) ?_; dsimp only)); refine wpList_load_row rfl 24 _ rfl _ (by rfl) _ (C17 c) _ _ (by repeat (with_reducible first | exact oc.out | apply ext_drew | apply ext_drewN | apply ext_alloc | refine blk_far ?_ (by show _ ≠ _; dsimp only; omega) _)) Try.underlying24 rfl (C17_info c 24 (by kernel_rfl)) ?_))
  (go_at_call 17; (with_reducible refine (readY c n p true _ ER_.out).mono ?_); rintro e_ w1 ⟨y, rfl, hb_⟩; have HB_ : Aside0 (Below w.heap.size w w1) := Aside0.mk (below_step (by repeat (first | (with_reducible first | exact HB.out | exact Below.refl _ _ | apply below_alloc | apply pw_below_drewN | apply below_drew | refine below_set ?_ (by omega)) | exact HB.out)) hb_); have hzw1 := hb_.size; (try simp at hzw1); have oc_ := Aside0.mk (box_below hb_ (by repeat (with_reducible first | exact oc.out | apply ext_drew | apply ext_drewN | apply ext_alloc | refine blk_far ?_ (by show _ ≠ _; dsimp only; omega) _))); have od_ := Aside0.mk (box_below hb_ (by repeat (with_reducible first | exact od.out | apply ext_drew | apply ext_drewN | apply ext_alloc | refine blk_far ?_ (by show _ ≠ _; dsimp only; omega) _))); (try clear oc occ ocf ocl); have oc := oc_; clear oc_; obtain ⟨occ, ocf, ocl⟩ := cells_of oc.out; (try clear od odc odf odl); have od := od_; clear od_; obtain ⟨odc, odf, odl⟩ := cells_of od.out; clear HB hb_; have HB := HB_; clear HB_)
  go_wp2_with (first | ((with_reducible refine gate_dst (N := 35) rfl ?_); (try (refine gate_guard (by rfl) ?_; dsimp only)); refine wpList_load_row rfl 24 _ rfl _ (by rfl) _ (C17 c) _ _ (by repeat (with_reducible first | exact oc.out | apply ext_drew | apply ext_drewN | apply ext_alloc | refine blk_far ?_ (by show _ ≠ _; dsimp only; omega) _)) Try.underlying24 rfl (C17_info c 24 (by kernel_rfl)) ?_))
  (go_at_call 19; (with_reducible refine (ED.out _).mono ?_); rintro e_ w2 ⟨rfl, hb_⟩; have HB_ : Aside0 (Below w.heap.size w w2) := Aside0.mk (below_step (by repeat (first | (with_reducible first | exact HB.out | exact Below.refl _ _ | apply below_alloc | apply pw_below_drewN | apply below_drew | refine below_set ?_ (by omega)) | exact HB.out)) hb_); have hzw2 := hb_.size; (try simp at hzw2); have oc_ := Aside0.mk (box_below hb_ (by repeat (with_reducible first | exact oc.out | apply ext_drew | apply ext_drewN | apply ext_alloc | refine blk_far ?_ (by show _ ≠ _; dsimp only; omega) _))); have od_ := Aside0.mk (box_below hb_ (by repeat (with_reducible first | exact od.out | apply ext_drew | apply ext_drewN | apply ext_alloc | refine blk_far ?_ (by show _ ≠ _; dsimp only; omega) _))); (try clear oc occ ocf ocl); have oc := oc_; clear oc_; obtain ⟨occ, ocf, ocl⟩ := cells_of oc.out; (try clear od odc odf odl); have od := od_; clear od_; obtain ⟨odc, odf, odl⟩ := cells_of od.out; clear HB hb_; have HB := HB_; clear HB_)
  go_wp2_with (first | ((with_reducible refine gate_store (t := 24) (p := 8) (v := .tmp 38) rfl ?_); refine wpList_store_all rfl 24 _ _ rfl rfl _ (C17 d) (by rfl) (by rfl) _ _ od.out (show 17 = (C17 d).size from rfl) (C17_info d 24 (by kernel_rfl)) (C17_one d) ?_; rintro w3 ⟨hx_, hk_, hb_, hzz_⟩; have HB_ : Aside0 (Below w.heap.size w w3) := Aside0.mk (Below.trans (by repeat (first | (with_reducible first | exact HB.out | exact Below.refl _ _ | apply below_alloc | apply pw_below_drewN | apply below_drew | refine below_set ?_ (by omega)) | exact HB.out)) (Below.mono hb_ (by first | omega | (simp only [sz_alloc, sz_drew, sz_drewN]; omega)))); have hzw3 := hzz_; (try simp at hzw3); clear hzz_; have oc_ := Aside0.mk (st_put oc.out hk_ (fun h_ => (by repeat (with_reducible first | exact h_ | apply ext_drew | apply ext_drewN | apply ext_alloc | refine blk_far ?_ (by show _ ≠ _; dsimp only; omega) _))) (by omega)); clear oc occ ocf ocl; have oc := oc_; clear oc_; obtain ⟨occ, ocf, ocl⟩ := cells_of oc.out; (try clear od odc odf odl); have od := Aside0.mk hx_; obtain ⟨odc, odf, odl⟩ := cells_of od.out; clear HB hb_ hk_ hx_; have HB := HB_; clear HB_))
  refine bodyPost_ret (results_ct rfl _ _ (w.heap.size + 1) 24 (C17 d) (0, 0) _ rfl od.out Try.underlying24 rfl (C17_info d 24 (by kernel_rfl))) rfl ⟨rfl, (by repeat (first | (with_reducible first | exact HB.out | exact Below.refl _ _ | apply below_alloc | apply pw_below_drewN | apply below_drew | refine below_set ?_ (by omega)) | exact HB.out))⟩
end Go.Proofs.Ytncdhfigfbhohaa.Q
