/- CsrGuards, walked. -/
import Derived.Test.YtncdhfigfbhohaaEheads05
namespace Go.Proofs.Ytncdhfigfbhohaa.Q
open Go.RowKit Go.Proofs.YtncdhfigfbhohaaW.PrintWords Go.Proofs.YtncdhfigfbhohaaW.PrintLast Go.Proofs.YtncdhfigfbhohaaW.PrintMore Go.Proofs.Ytncdhfigfbhohaa.L
attribute [local go_sem] Instr.field part asAgg lt_step max2_int min2_int max_two min_two max_three min_three max_four min_four lt_0_1 lt_0_2 lt_1_2 lt_0_3 lt_1_3 lt_2_3 lt_0_4 lt_1_4 lt_2_4 lt_3_4 lt_0_5 lt_1_5 lt_2_5 lt_3_5 lt_4_5 lt_0_6 lt_1_6 lt_2_6 lt_3_6 lt_4_6 lt_5_6 lt_0_7 lt_1_7 lt_2_7 lt_3_7 lt_4_7 lt_5_7 lt_6_7 lt_0_8 lt_1_8 lt_2_8 lt_3_8 lt_4_8 lt_5_8 lt_6_8 lt_7_8
set_option linter.unusedVariables false
set_option linter.unusedSimpArgs false
def cO (a0_0 a0_1 a0_2 a0_3 a0_4 a0_5 a0_6 a0_7 a0_8 a0_9 a0_10 a0_11 a0_12 a0_13 a0_14 a0_15 a0_16 : Int) : Nat → Int := fun i => [a0_0, a0_1, a0_2, a0_3, a0_4, a0_5, a0_6, a0_7, a0_8, a0_9, a0_10, a0_11, a0_12, a0_13, a0_14, a0_15, a0_16].getD i 0
set_option maxHeartbeats 1600000 in
set_option maxRecDepth 100000 in
theorem guards_out (c : Nat → Int) (n p x : Int) (w : World) (h : n < 0 ∨ 4095 < n ∨ p < 0 ∨ 3 < p) :
    Calls Try.prog 7 #[.agg (C17 c), .int .i64 n, .int .i64 p, .int .u64 x] w fun e w' => e = .returned (.bool true) ∧ Below w.heap.size w w' := by
  have HB := Aside0.mk (Below.refl w.heap.size w)
  have HC : Aside0 (n < 0 ∨ 4095 < n ∨ p < 0 ∨ 3 < p) := ⟨h⟩
  clear h
  cases g0 : decide (n < 0) <;> cases g1 : decide (4095 < n) <;> cases g2 : decide (p < 0) <;> cases g3 : decide (3 < p)
  case false.false.false.false => exact absurd HC.out (by have := of_decide_eq_false g0; have := of_decide_eq_false g1; have := of_decide_eq_false g2; have := of_decide_eq_false g3; omega)
  all_goals
    go_enter Try.func7, Try.ntmps7
    go_upto_region 1 with fail
    obtain ⟨wa, hwa, oc0, hb_, hz0⟩ := letter1 w (.cells (C17 c) 24 (0, 0))
    rw [hwa]
    clear hwa
    have hzwa := Nat.le_of_eq hz0.symm
    clear hz0
    have oc := Aside0.mk oc0
    clear oc0
    obtain ⟨occ, ocf, ocl⟩ := cells_of oc.out
    have HB_ : Aside0 (Below w.heap.size w wa) := ⟨hb_⟩
    clear HB hb_; have HB := HB_; clear HB_
    go_wp2_with fail
    (go_at_call 9; (with_reducible refine (drawbridgelaw05_heads.calls true _ rfl).mono ?_); rintro e_ w2 ⟨rfl, hb_⟩; have HB_ : Aside0 (Below w.heap.size w w2) := Aside0.mk (below_step (by repeat (first | (with_reducible first | exact HB.out | exact Below.refl _ _ | apply below_alloc | apply pw_below_drewN | apply below_drew | refine below_set ?_ (by omega)) | exact HB.out)) hb_); have hzw2 := hb_.size; (try simp at hzw2); have oc_ := Aside0.mk (box_below hb_ (by repeat (with_reducible first | exact oc.out | apply ext_drew | apply ext_drewN | apply ext_alloc | refine blk_far ?_ (by show _ ≠ _; dsimp only; omega) _))); (try clear oc occ ocf ocl); have oc := oc_; clear oc_; obtain ⟨occ, ocf, ocl⟩ := cells_of oc.out; clear HB hb_; have HB := HB_; clear HB_)
    go_wp2
    refine bodyPost_ret (v := .bool true) (by simp [results, Try.results7, go_sem] <;> first | assumption | omega | (symm; assumption)) rfl ?_
    exact ⟨rfl, (by repeat (first | (with_reducible first | exact HB.out | exact Below.refl _ _ | apply below_alloc | apply pw_below_drewN | apply below_drew | refine below_set ?_ (by omega)) | exact HB.out))⟩
set_option maxHeartbeats 1600000 in
set_option maxRecDepth 100000 in
theorem guards_no (c d : Nat → Int) (n p x v : Int) (w : World) (h0 : 0 ≤ n) (h1 : n ≤ 4095) (h2 : 0 ≤ p) (h3 : p ≤ 3) (E1 : Aside0 (∀ W, Calls Try.prog 11 #[.agg (C17 c), .int .i64 n, .int .i64 p] W fun e w' => e = .returned (.tuple #[.int .u64 v, .bool false]) ∧ Below W.heap.size W w')) (E2 : Aside0 (∀ W, Calls Try.prog 10 #[.agg (C17 c), .int .i64 n, .int .i64 p, .int .u64 x] W fun e w' => e = .returned (.tuple #[.agg (C17 d), .bool false]) ∧ Below W.heap.size W w')) :
    Calls Try.prog 7 #[.agg (C17 c), .int .i64 n, .int .i64 p, .int .u64 x] w fun e w' => e = .returned (.bool true) ∧ Below w.heap.size w w' := by
  have HB := Aside0.mk (Below.refl w.heap.size w)
  go_enter Try.func7, Try.ntmps7
  go_upto_region 1 with fail
  obtain ⟨wa, hwa, oc0, hb_, hz0⟩ := letter1 w (.cells (C17 c) 24 (0, 0))
  rw [hwa]
  clear hwa
  have hzwa := Nat.le_of_eq hz0.symm
  clear hz0
  have oc := Aside0.mk oc0
  clear oc0
  obtain ⟨occ, ocf, ocl⟩ := cells_of oc.out
  have HB_ : Aside0 (Below w.heap.size w wa) := ⟨hb_⟩
  clear HB hb_; have HB := HB_; clear HB_
  go_wp2_with (first | ((with_reducible refine gate_dst (N := 30) rfl ?_); (try (refine gate_guard (by rfl) ?_; dsimp only)); refine wpList_load_row rfl 24 _ rfl _ (by rfl) _ (C17 c) _ _ (by repeat (with_reducible first | exact oc.out | apply ext_drew | apply ext_drewN | apply ext_alloc | refine blk_far ?_ (by show _ ≠ _; dsimp only; omega) _)) Try.underlying24 rfl (C17_info c 24 i24) ?_))
  (go_at_call 11; (with_reducible refine (E1.out _).mono ?_); rintro e_ w1 ⟨rfl, hb_⟩; have HB_ : Aside0 (Below w.heap.size w w1) := Aside0.mk (below_step (by repeat (first | (with_reducible first | exact HB.out | exact Below.refl _ _ | apply below_alloc | apply pw_below_drewN | apply below_drew | refine below_set ?_ (by omega)) | exact HB.out)) hb_); have hzw1 := hb_.size; (try simp at hzw1); have oc_ := Aside0.mk (box_below hb_ (by repeat (with_reducible first | exact oc.out | apply ext_drew | apply ext_drewN | apply ext_alloc | refine blk_far ?_ (by show _ ≠ _; dsimp only; omega) _))); (try clear oc occ ocf ocl); have oc := oc_; clear oc_; obtain ⟨occ, ocf, ocl⟩ := cells_of oc.out; clear HB hb_; have HB := HB_; clear HB_)
  go_wp2_with (first | ((with_reducible refine gate_dst (N := 37) rfl ?_); (try (refine gate_guard (by rfl) ?_; dsimp only)); refine wpList_load_row rfl 24 _ rfl _ (by rfl) _ (C17 c) _ _ (by repeat (with_reducible first | exact oc.out | apply ext_drew | apply ext_drewN | apply ext_alloc | refine blk_far ?_ (by show _ ≠ _; dsimp only; omega) _)) Try.underlying24 rfl (C17_info c 24 i24) ?_))
  (go_at_call 10; (with_reducible refine (E2.out _).mono ?_); rintro e_ w2 ⟨rfl, hb_⟩; have HB_ : Aside0 (Below w.heap.size w w2) := Aside0.mk (below_step (by repeat (first | (with_reducible first | exact HB.out | exact Below.refl _ _ | apply below_alloc | apply pw_below_drewN | apply below_drew | refine below_set ?_ (by omega)) | exact HB.out)) hb_); have hzw2 := hb_.size; (try simp at hzw2); have oc_ := Aside0.mk (box_below hb_ (by repeat (with_reducible first | exact oc.out | apply ext_drew | apply ext_drewN | apply ext_alloc | refine blk_far ?_ (by show _ ≠ _; dsimp only; omega) _))); (try clear oc occ ocf ocl); have oc := oc_; clear oc_; obtain ⟨occ, ocf, ocl⟩ := cells_of oc.out; clear HB hb_; have HB := HB_; clear HB_)
  go_wp2_with (first | ((with_reducible refine gate_store (t := 24) (p := 11) (v := .tmp 42) rfl ?_); refine wpList_store_all rfl 24 _ _ rfl rfl _ (C17 d) (by rfl) (by rfl) _ _ (nb_1 _ _) (C17_sz d) (C17_info d 24 i24) (C17_one d) ?_; rintro w3 ⟨hx_, hk_, hb_, hzz_⟩; have HB_ : Aside0 (Below w.heap.size w w3) := Aside0.mk (Below.trans (by repeat (first | (with_reducible first | exact HB.out | exact Below.refl _ _ | apply below_alloc | apply pw_below_drewN | apply below_drew | refine below_set ?_ (by omega)) | exact HB.out)) (Below.mono hb_ (by first | omega | (simp only [sz_alloc, sz_drew, sz_drewN]; omega)))); have hzw3 := hzz_; (try simp at hzw3); clear hzz_; have oc_ := Aside0.mk (st_put oc.out hk_ (fun h_ => (by repeat (with_reducible first | exact h_ | apply ext_drew | apply ext_drewN | apply ext_alloc | refine blk_far ?_ (by show _ ≠ _; dsimp only; omega) _))) (by omega)); clear oc occ ocf ocl; have oc := oc_; clear oc_; obtain ⟨occ, ocf, ocl⟩ := cells_of oc.out; (try clear ob obc obf obl); have ob := Aside0.mk hx_; obtain ⟨obc, obf, obl⟩ := cells_of ob.out; clear HB hb_ hk_ hx_; have HB := HB_; clear HB_))
  (go_at_call 9; (with_reducible refine (drawbridgelaw05_heads.calls true _ rfl).mono ?_); rintro e_ w4 ⟨rfl, hb_⟩; have HB_ : Aside0 (Below w.heap.size w w4) := Aside0.mk (below_step (by repeat (first | (with_reducible first | exact HB.out | exact Below.refl _ _ | apply below_alloc | apply pw_below_drewN | apply below_drew | refine below_set ?_ (by omega)) | exact HB.out)) hb_); have hzw4 := hb_.size; (try simp at hzw4); have oc_ := Aside0.mk (box_below hb_ (by repeat (with_reducible first | exact oc.out | apply ext_drew | apply ext_drewN | apply ext_alloc | refine blk_far ?_ (by show _ ≠ _; dsimp only; omega) _))); (try clear oc occ ocf ocl); have oc := oc_; clear oc_; obtain ⟨occ, ocf, ocl⟩ := cells_of oc.out; clear HB hb_; have HB := HB_; clear HB_)
  go_wp2
  refine bodyPost_ret (v := .bool true) (by simp [results, Try.results7, go_sem] <;> first | assumption | omega | (symm; assumption)) rfl ?_
  exact ⟨rfl, (by repeat (first | (with_reducible first | exact HB.out | exact Below.refl _ _ | apply below_alloc | apply pw_below_drewN | apply below_drew | refine below_set ?_ (by omega)) | exact HB.out))⟩
set_option maxHeartbeats 1600000 in
set_option maxRecDepth 100000 in
theorem guards_ro (c d : Nat → Int) (n p x v : Int) (w : World) (h0 : 0 ≤ n) (h1 : n ≤ 4095) (h2 : 0 ≤ p) (h3 : p ≤ 3) (hn : n / 256 % 4 ≤ p) (E1 : Aside0 (∀ W, Calls Try.prog 11 #[.agg (C17 c), .int .i64 n, .int .i64 p] W fun e w' => e = .returned (.tuple #[.int .u64 v, .bool true]) ∧ Below W.heap.size W w')) (E2 : Aside0 (∀ W, Calls Try.prog 10 #[.agg (C17 c), .int .i64 n, .int .i64 p, .int .u64 x] W fun e w' => e = .returned (.tuple #[.agg (C17 d), .bool false]) ∧ Below W.heap.size W w')) :
    Calls Try.prog 7 #[.agg (C17 c), .int .i64 n, .int .i64 p, .int .u64 x] w fun e w' => e = .returned (.bool true) ∧ Below w.heap.size w w' := by
  have HB := Aside0.mk (Below.refl w.heap.size w)
  go_enter Try.func7, Try.ntmps7
  go_upto_region 1 with fail
  obtain ⟨wa, hwa, oc0, hb_, hz0⟩ := letter1 w (.cells (C17 c) 24 (0, 0))
  rw [hwa]
  clear hwa
  have hzwa := Nat.le_of_eq hz0.symm
  clear hz0
  have oc := Aside0.mk oc0
  clear oc0
  obtain ⟨occ, ocf, ocl⟩ := cells_of oc.out
  have HB_ : Aside0 (Below w.heap.size w wa) := ⟨hb_⟩
  clear HB hb_; have HB := HB_; clear HB_
  go_wp2_with (first | ((with_reducible refine gate_dst (N := 30) rfl ?_); (try (refine gate_guard (by rfl) ?_; dsimp only)); refine wpList_load_row rfl 24 _ rfl _ (by rfl) _ (C17 c) _ _ (by repeat (with_reducible first | exact oc.out | apply ext_drew | apply ext_drewN | apply ext_alloc | refine blk_far ?_ (by show _ ≠ _; dsimp only; omega) _)) Try.underlying24 rfl (C17_info c 24 i24) ?_))
  (go_at_call 11; (with_reducible refine (E1.out _).mono ?_); rintro e_ w1 ⟨rfl, hb_⟩; have HB_ : Aside0 (Below w.heap.size w w1) := Aside0.mk (below_step (by repeat (first | (with_reducible first | exact HB.out | exact Below.refl _ _ | apply below_alloc | apply pw_below_drewN | apply below_drew | refine below_set ?_ (by omega)) | exact HB.out)) hb_); have hzw1 := hb_.size; (try simp at hzw1); have oc_ := Aside0.mk (box_below hb_ (by repeat (with_reducible first | exact oc.out | apply ext_drew | apply ext_drewN | apply ext_alloc | refine blk_far ?_ (by show _ ≠ _; dsimp only; omega) _))); (try clear oc occ ocf ocl); have oc := oc_; clear oc_; obtain ⟨occ, ocf, ocl⟩ := cells_of oc.out; clear HB hb_; have HB := HB_; clear HB_)
  go_wp2_with (first | ((with_reducible refine gate_dst (N := 37) rfl ?_); (try (refine gate_guard (by rfl) ?_; dsimp only)); refine wpList_load_row rfl 24 _ rfl _ (by rfl) _ (C17 c) _ _ (by repeat (with_reducible first | exact oc.out | apply ext_drew | apply ext_drewN | apply ext_alloc | refine blk_far ?_ (by show _ ≠ _; dsimp only; omega) _)) Try.underlying24 rfl (C17_info c 24 i24) ?_))
  (go_at_call 10; (with_reducible refine (E2.out _).mono ?_); rintro e_ w2 ⟨rfl, hb_⟩; have HB_ : Aside0 (Below w.heap.size w w2) := Aside0.mk (below_step (by repeat (first | (with_reducible first | exact HB.out | exact Below.refl _ _ | apply below_alloc | apply pw_below_drewN | apply below_drew | refine below_set ?_ (by omega)) | exact HB.out)) hb_); have hzw2 := hb_.size; (try simp at hzw2); have oc_ := Aside0.mk (box_below hb_ (by repeat (with_reducible first | exact oc.out | apply ext_drew | apply ext_drewN | apply ext_alloc | refine blk_far ?_ (by show _ ≠ _; dsimp only; omega) _))); (try clear oc occ ocf ocl); have oc := oc_; clear oc_; obtain ⟨occ, ocf, ocl⟩ := cells_of oc.out; clear HB hb_; have HB := HB_; clear HB_)
  go_wp2_with (first | ((with_reducible refine gate_store (t := 24) (p := 11) (v := .tmp 42) rfl ?_); refine wpList_store_all rfl 24 _ _ rfl rfl _ (C17 d) (by rfl) (by rfl) _ _ (nb_1 _ _) (C17_sz d) (C17_info d 24 i24) (C17_one d) ?_; rintro w3 ⟨hx_, hk_, hb_, hzz_⟩; have HB_ : Aside0 (Below w.heap.size w w3) := Aside0.mk (Below.trans (by repeat (first | (with_reducible first | exact HB.out | exact Below.refl _ _ | apply below_alloc | apply pw_below_drewN | apply below_drew | refine below_set ?_ (by omega)) | exact HB.out)) (Below.mono hb_ (by first | omega | (simp only [sz_alloc, sz_drew, sz_drewN]; omega)))); have hzw3 := hzz_; (try simp at hzw3); clear hzz_; have oc_ := Aside0.mk (st_put oc.out hk_ (fun h_ => (by repeat (with_reducible first | exact h_ | apply ext_drew | apply ext_drewN | apply ext_alloc | refine blk_far ?_ (by show _ ≠ _; dsimp only; omega) _))) (by omega)); clear oc occ ocf ocl; have oc := oc_; clear oc_; obtain ⟨occ, ocf, ocl⟩ := cells_of oc.out; (try clear ob obc obf obl); have ob := Aside0.mk hx_; obtain ⟨obc, obf, obl⟩ := cells_of ob.out; clear HB hb_ hk_ hx_; have HB := HB_; clear HB_))
  (go_at_call 9; (with_reducible refine (drawbridgelaw05_heads.calls true _ rfl).mono ?_); rintro e_ w4 ⟨rfl, hb_⟩; have HB_ : Aside0 (Below w.heap.size w w4) := Aside0.mk (below_step (by repeat (first | (with_reducible first | exact HB.out | exact Below.refl _ _ | apply below_alloc | apply pw_below_drewN | apply below_drew | refine below_set ?_ (by omega)) | exact HB.out)) hb_); have hzw4 := hb_.size; (try simp at hzw4); have oc_ := Aside0.mk (box_below hb_ (by repeat (with_reducible first | exact oc.out | apply ext_drew | apply ext_drewN | apply ext_alloc | refine blk_far ?_ (by show _ ≠ _; dsimp only; omega) _))); (try clear oc occ ocf ocl); have oc := oc_; clear oc_; obtain ⟨occ, ocf, ocl⟩ := cells_of oc.out; clear HB hb_; have HB := HB_; clear HB_)
  go_wp2
  refine bodyPost_ret (v := .bool true) (by simp [results, Try.results7, go_sem] <;> first | assumption | omega | (symm; assumption)) rfl ?_
  exact ⟨rfl, (by repeat (first | (with_reducible first | exact HB.out | exact Below.refl _ _ | apply below_alloc | apply pw_below_drewN | apply below_drew | refine below_set ?_ (by omega)) | exact HB.out))⟩
set_option maxHeartbeats 1600000 in
set_option maxRecDepth 100000 in
theorem guards_ok (c d : Nat → Int) (n p x v : Int) (w : World) (h0 : 0 ≤ n) (h1 : n ≤ 4095) (h2 : 0 ≤ p) (h3 : p ≤ 3) (hn : n / 256 % 4 ≤ p) (hm : n < 3072) (E1 : Aside0 (∀ W, Calls Try.prog 11 #[.agg (C17 c), .int .i64 n, .int .i64 p] W fun e w' => e = .returned (.tuple #[.int .u64 v, .bool true]) ∧ Below W.heap.size W w')) (E2 : Aside0 (∀ W, Calls Try.prog 10 #[.agg (C17 c), .int .i64 n, .int .i64 p, .int .u64 x] W fun e w' => e = .returned (.tuple #[.agg (C17 d), .bool true]) ∧ Below W.heap.size W w')) :
    Calls Try.prog 7 #[.agg (C17 c), .int .i64 n, .int .i64 p, .int .u64 x] w fun e w' => e = .returned (.bool true) ∧ Below w.heap.size w w' := by
  have HB := Aside0.mk (Below.refl w.heap.size w)
  go_enter Try.func7, Try.ntmps7
  go_upto_region 1 with fail
  obtain ⟨wa, hwa, oc0, hb_, hz0⟩ := letter1 w (.cells (C17 c) 24 (0, 0))
  rw [hwa]
  clear hwa
  have hzwa := Nat.le_of_eq hz0.symm
  clear hz0
  have oc := Aside0.mk oc0
  clear oc0
  obtain ⟨occ, ocf, ocl⟩ := cells_of oc.out
  have HB_ : Aside0 (Below w.heap.size w wa) := ⟨hb_⟩
  clear HB hb_; have HB := HB_; clear HB_
  go_wp2_with (first | ((with_reducible refine gate_dst (N := 30) rfl ?_); (try (refine gate_guard (by rfl) ?_; dsimp only)); refine wpList_load_row rfl 24 _ rfl _ (by rfl) _ (C17 c) _ _ (by repeat (with_reducible first | exact oc.out | apply ext_drew | apply ext_drewN | apply ext_alloc | refine blk_far ?_ (by show _ ≠ _; dsimp only; omega) _)) Try.underlying24 rfl (C17_info c 24 i24) ?_))
  (go_at_call 11; (with_reducible refine (E1.out _).mono ?_); rintro e_ w1 ⟨rfl, hb_⟩; have HB_ : Aside0 (Below w.heap.size w w1) := Aside0.mk (below_step (by repeat (first | (with_reducible first | exact HB.out | exact Below.refl _ _ | apply below_alloc | apply pw_below_drewN | apply below_drew | refine below_set ?_ (by omega)) | exact HB.out)) hb_); have hzw1 := hb_.size; (try simp at hzw1); have oc_ := Aside0.mk (box_below hb_ (by repeat (with_reducible first | exact oc.out | apply ext_drew | apply ext_drewN | apply ext_alloc | refine blk_far ?_ (by show _ ≠ _; dsimp only; omega) _))); (try clear oc occ ocf ocl); have oc := oc_; clear oc_; obtain ⟨occ, ocf, ocl⟩ := cells_of oc.out; clear HB hb_; have HB := HB_; clear HB_)
  go_wp2_with (first | ((with_reducible refine gate_dst (N := 37) rfl ?_); (try (refine gate_guard (by rfl) ?_; dsimp only)); refine wpList_load_row rfl 24 _ rfl _ (by rfl) _ (C17 c) _ _ (by repeat (with_reducible first | exact oc.out | apply ext_drew | apply ext_drewN | apply ext_alloc | refine blk_far ?_ (by show _ ≠ _; dsimp only; omega) _)) Try.underlying24 rfl (C17_info c 24 i24) ?_))
  (go_at_call 10; (with_reducible refine (E2.out _).mono ?_); rintro e_ w2 ⟨rfl, hb_⟩; have HB_ : Aside0 (Below w.heap.size w w2) := Aside0.mk (below_step (by repeat (first | (with_reducible first | exact HB.out | exact Below.refl _ _ | apply below_alloc | apply pw_below_drewN | apply below_drew | refine below_set ?_ (by omega)) | exact HB.out)) hb_); have hzw2 := hb_.size; (try simp at hzw2); have oc_ := Aside0.mk (box_below hb_ (by repeat (with_reducible first | exact oc.out | apply ext_drew | apply ext_drewN | apply ext_alloc | refine blk_far ?_ (by show _ ≠ _; dsimp only; omega) _))); (try clear oc occ ocf ocl); have oc := oc_; clear oc_; obtain ⟨occ, ocf, ocl⟩ := cells_of oc.out; clear HB hb_; have HB := HB_; clear HB_)
  go_wp2_with (first | ((with_reducible refine gate_store (t := 24) (p := 11) (v := .tmp 42) rfl ?_); refine wpList_store_all rfl 24 _ _ rfl rfl _ (C17 d) (by rfl) (by rfl) _ _ (nb_1 _ _) (C17_sz d) (C17_info d 24 i24) (C17_one d) ?_; rintro w3 ⟨hx_, hk_, hb_, hzz_⟩; have HB_ : Aside0 (Below w.heap.size w w3) := Aside0.mk (Below.trans (by repeat (first | (with_reducible first | exact HB.out | exact Below.refl _ _ | apply below_alloc | apply pw_below_drewN | apply below_drew | refine below_set ?_ (by omega)) | exact HB.out)) (Below.mono hb_ (by first | omega | (simp only [sz_alloc, sz_drew, sz_drewN]; omega)))); have hzw3 := hzz_; (try simp at hzw3); clear hzz_; have oc_ := Aside0.mk (st_put oc.out hk_ (fun h_ => (by repeat (with_reducible first | exact h_ | apply ext_drew | apply ext_drewN | apply ext_alloc | refine blk_far ?_ (by show _ ≠ _; dsimp only; omega) _))) (by omega)); clear oc occ ocf ocl; have oc := oc_; clear oc_; obtain ⟨occ, ocf, ocl⟩ := cells_of oc.out; (try clear ob obc obf obl); have ob := Aside0.mk hx_; obtain ⟨obc, obf, obl⟩ := cells_of ob.out; clear HB hb_ hk_ hx_; have HB := HB_; clear HB_))
  (go_at_call 9; (with_reducible refine (drawbridgelaw05_heads.calls true _ rfl).mono ?_); rintro e_ w4 ⟨rfl, hb_⟩; have HB_ : Aside0 (Below w.heap.size w w4) := Aside0.mk (below_step (by repeat (first | (with_reducible first | exact HB.out | exact Below.refl _ _ | apply below_alloc | apply pw_below_drewN | apply below_drew | refine below_set ?_ (by omega)) | exact HB.out)) hb_); have hzw4 := hb_.size; (try simp at hzw4); have oc_ := Aside0.mk (box_below hb_ (by repeat (with_reducible first | exact oc.out | apply ext_drew | apply ext_drewN | apply ext_alloc | refine blk_far ?_ (by show _ ≠ _; dsimp only; omega) _))); (try clear oc occ ocf ocl); have oc := oc_; clear oc_; obtain ⟨occ, ocf, ocl⟩ := cells_of oc.out; clear HB hb_; have HB := HB_; clear HB_)
  go_wp2
  refine bodyPost_ret (v := .bool true) (by simp [results, Try.results7, go_sem] <;> first | assumption | omega | (symm; assumption)) rfl ?_
  exact ⟨rfl, (by repeat (first | (with_reducible first | exact HB.out | exact Below.refl _ _ | apply below_alloc | apply pw_below_drewN | apply below_drew | refine below_set ?_ (by omega)) | exact HB.out))⟩
theorem guards_runs (c : Nat → Int) (n p x : Int) (w : World) (h1 : 0 ≤ n → n ≤ 4095 → (readZ c n p).isSome = true → n / 256 % 4 ≤ p) :
    Calls Try.prog 7 #[.agg (C17 c), .int .i64 n, .int .i64 p, .int .u64 x] w fun e w' => e = .returned (.bool true) ∧ Below w.heap.size w w' := by
  by_cases hr : n < 0 ∨ 4095 < n ∨ p < 0 ∨ 3 < p
  · exact guards_out c n p x w hr
  · have H1 := fun W => Read_is c n p W
    have H2 := fun W => Write_is c n p x W
    cases hq : (readZ c n p).isSome with
    | false =>
      have hok : okW c n p = false := by unfold okW; rw [hq]; rfl
      rw [hq] at H1; rw [hok] at H2
      exact guards_no c (stW c n p x) n p x (rdV c n p) w (by omega) (by omega) (by omega) (by omega) ⟨H1⟩ ⟨H2⟩
    | true =>
      rw [hq] at H1
      have hn := h1 (by omega) (by omega) hq
      cases hok : okW c n p with
      | false =>
        rw [hok] at H2
        exact guards_ro c (stW c n p x) n p x (rdV c n p) w (by omega) (by omega) (by omega) (by omega) hn ⟨H1⟩ ⟨H2⟩
      | true =>
        rw [hok] at H2
        have hm : n < 3072 := by
          unfold okW at hok; rw [hq] at hok
          have : ¬ n / 1024 = 3 := by simpa using hok
          omega
        exact guards_ok c (stW c n p x) n p x (rdV c n p) w (by omega) (by omega) (by omega) (by omega) hn hm ⟨H1⟩ ⟨H2⟩
def drawbridgelaw05_CsrGuards.f (a0_0 a0_1 a0_2 a0_3 a0_4 a0_5 a0_6 a0_7 a0_8 a0_9 a0_10 a0_11 a0_12 a0_13 a0_14 a0_15 a0_16 : Int) (a1 a2 a3 : Int) : Option Bool := if 0 ≤ a1 → a1 ≤ 4095 → (readZ (cO a0_0 a0_1 a0_2 a0_3 a0_4 a0_5 a0_6 a0_7 a0_8 a0_9 a0_10 a0_11 a0_12 a0_13 a0_14 a0_15 a0_16) a1 a2).isSome = true → a1 / 256 % 4 ≤ a2 then some true else none
theorem drawbridgelaw05_CsrGuards.calls (a0_0 a0_1 a0_2 a0_3 a0_4 a0_5 a0_6 a0_7 a0_8 a0_9 a0_10 a0_11 a0_12 a0_13 a0_14 a0_15 a0_16 : Int) (a1 a2 a3 : Int) (r : Bool) (w : World) (h : drawbridgelaw05_CsrGuards.f a0_0 a0_1 a0_2 a0_3 a0_4 a0_5 a0_6 a0_7 a0_8 a0_9 a0_10 a0_11 a0_12 a0_13 a0_14 a0_15 a0_16 a1 a2 a3 = some r) :
    Calls Try.prog 7 #[.agg #[.int .u64 a0_0, .int .u64 a0_1, .int .u64 a0_2, .int .u64 a0_3, .int .u64 a0_4, .int .u64 a0_5, .int .u64 a0_6, .int .u64 a0_7, .int .u64 a0_8, .int .u64 a0_9, .int .u64 a0_10, .int .u64 a0_11, .int .u64 a0_12, .int .u64 a0_13, .int .u64 a0_14, .int .u64 a0_15, .int .u64 a0_16], .int .i64 a1, .int .i64 a2, .int .u64 a3] w fun e w' => e = .returned (.bool r) ∧ Below w.heap.size w w' := by
  unfold drawbridgelaw05_CsrGuards.f at h
  by_cases hg : 0 ≤ a1 → a1 ≤ 4095 → (readZ (cO a0_0 a0_1 a0_2 a0_3 a0_4 a0_5 a0_6 a0_7 a0_8 a0_9 a0_10 a0_11 a0_12 a0_13 a0_14 a0_15 a0_16) a1 a2).isSome = true → a1 / 256 % 4 ≤ a2
  case neg => rw [if_neg hg] at h; cases h
  rw [if_pos hg] at h
  obtain rfl := Option.some.inj h
  exact guards_runs (cO a0_0 a0_1 a0_2 a0_3 a0_4 a0_5 a0_6 a0_7 a0_8 a0_9 a0_10 a0_11 a0_12 a0_13 a0_14 a0_15 a0_16) a1 a2 a3 w hg
end Go.Proofs.Ytncdhfigfbhohaa.Q
