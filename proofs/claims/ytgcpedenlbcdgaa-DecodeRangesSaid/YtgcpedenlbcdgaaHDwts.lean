import Derived.Test.YtgcpedenlbcdgaaHZ4
import Derived.Test.YtgcpedenlbcdgaaHZ2
import Derived.Deep.DrawnRows
import Derived.Deep.QuietTactic
import Derived.BigQuiet
/- decode.word. -/
namespace Go.Proofs.Ytgcpedenlbcdgaa.Q
open Go.RowKit Go.Proofs.YtgcpedenlbcdgaaW.PrintWords Go.Proofs.YtgcpedenlbcdgaaW.PrintLast Go.Proofs.YtgcpedenlbcdgaaW.PrintMore Go.Proofs.Ytgcpedenlbcdgaa.L
attribute [local go_sem] Instr.field part asAgg lt_step max2_int min2_int max_two min_two max_three min_three max_four min_four lt_0_1 lt_0_2 lt_1_2 lt_0_3 lt_1_3 lt_2_3 lt_0_4 lt_1_4 lt_2_4 lt_3_4 lt_0_5 lt_1_5 lt_2_5 lt_3_5 lt_4_5 lt_0_6 lt_1_6 lt_2_6 lt_3_6 lt_4_6 lt_5_6 lt_0_7 lt_1_7 lt_2_7 lt_3_7 lt_4_7 lt_5_7 lt_6_7 lt_0_8 lt_1_8 lt_2_8 lt_3_8 lt_4_8 lt_5_8 lt_6_8 lt_7_8
set_option linter.unusedVariables false
set_option linter.unusedSimpArgs false
attribute [local go_sem ↓] Go.wp_at_zero Go.wp_at_succ
set_option maxHeartbeats 1600000 in
set_option maxRecDepth 100000 in
theorem word_true_11_0 (c f rd r1 r2 m : Int) (w : World) (a0 : 0 ≤ rd) (a1 : rd ≤ 31) (b0 : 0 ≤ r1) (b1 : r1 ≤ 31) (d0 : 0 ≤ r2) (d1 : r2 ≤ 31) (c1 : (c == 1) = false) (c2 : (c == 2) = false) (c3 : (c == 3) = false) (c4 : (c == 4) = false) (c5 : (c == 5) = false) (c6 : (c == 6) = false) (c7 : (c == 7) = false) (c8 : (c == 8) = false) (c9 : (c == 9) = false) (c10 : (c == 10) = false) (c11 : (c == 11) = true) (k0 : (f == 5) = false) (hF : f % 4294967296 = 0) :
    Calls Try.prog 21 #[.agg #[.int .i64 c, .int .i64 f, .bool true, .int .i64 rd, .int .i64 r1, .int .i64 r2, .int .u64 m]] w fun e w' => e = .returned (.int .u32 115) ∧ Below w.heap.size w w' := by
  have HB := Aside0.mk (Below.refl w.heap.size w)
  have hix : ∀ W, (Instr.index 59 (.agg #[.int .u32 115, .int .u32 1048691, .int .u32 270532723, .int .u32 807403635, .int .u32 273678451]) (.int .u32 0)).run Try.prog W = .ok (.int .u32 115) W := fun W => by kernel_rfl
  go_enter Try.func21, Try.ntmps21
  go_upto_region 1 with fail
  obtain ⟨wa, hwa, oc0, hb_, hz0⟩ := letter1 w (.cells #[.int .i64 c, .int .i64 f, .bool true, .int .i64 rd, .int .i64 r1, .int .i64 r2, .int .u64 m] 30 (0, 0))
  rw [hwa]
  clear hwa
  have hzwa := Nat.le_of_eq hz0.symm
  clear hz0
  have oc := Aside0.mk oc0
  clear oc0
  obtain ⟨occ, ocf, ocl⟩ := cells_of oc.out
  have HB_ : Aside0 (Below w.heap.size w wa) := ⟨hb_⟩
  clear HB hb_; have HB := HB_; clear HB_
  go_wp2
  go_quiet (fail)
  go_wp2_with fail
  (go_at_call 44; (with_reducible refine (systems_runs _).mono ?_); rintro e_ w1 ⟨rfl, hb_⟩; have HB_ : Aside0 (Below w.heap.size w w1) := Aside0.mk (below_step (by repeat (first | (with_reducible first | exact HB.out | exact Below.refl _ _ | apply below_alloc | apply pw_below_drewN | apply below_drew | refine below_set ?_ (by omega)) | exact HB.out)) hb_); have hzw1 := hb_.size; (try simp at hzw1); have oc_ := Aside0.mk (box_below hb_ (by repeat (with_reducible first | exact oc.out | apply ext_drew | apply ext_drewN | apply ext_alloc | refine blk_far ?_ (by show _ ≠ _; dsimp only; omega) _))); (try clear oc occ ocf ocl); have oc := oc_; clear oc_; obtain ⟨occ, ocf, ocl⟩ := cells_of oc.out; clear HB hb_; have HB := HB_; clear HB_)
  go_wp2
  all_goals go_ret
  all_goals exact ⟨rfl, (by repeat (first | (with_reducible first | exact HB.out | exact Below.refl _ _ | apply below_alloc | apply pw_below_drewN | apply below_drew | refine below_set ?_ (by omega)) | exact HB.out))⟩
set_option maxHeartbeats 1600000 in
set_option maxRecDepth 100000 in
theorem word_true_11_1 (c f rd r1 r2 m : Int) (w : World) (a0 : 0 ≤ rd) (a1 : rd ≤ 31) (b0 : 0 ≤ r1) (b1 : r1 ≤ 31) (d0 : 0 ≤ r2) (d1 : r2 ≤ 31) (c1 : (c == 1) = false) (c2 : (c == 2) = false) (c3 : (c == 3) = false) (c4 : (c == 4) = false) (c5 : (c == 5) = false) (c6 : (c == 6) = false) (c7 : (c == 7) = false) (c8 : (c == 8) = false) (c9 : (c == 9) = false) (c10 : (c == 10) = false) (c11 : (c == 11) = true) (k0 : (f == 5) = false) (hF : f % 4294967296 = 1) :
    Calls Try.prog 21 #[.agg #[.int .i64 c, .int .i64 f, .bool true, .int .i64 rd, .int .i64 r1, .int .i64 r2, .int .u64 m]] w fun e w' => e = .returned (.int .u32 1048691) ∧ Below w.heap.size w w' := by
  have HB := Aside0.mk (Below.refl w.heap.size w)
  have hix : ∀ W, (Instr.index 59 (.agg #[.int .u32 115, .int .u32 1048691, .int .u32 270532723, .int .u32 807403635, .int .u32 273678451]) (.int .u32 1)).run Try.prog W = .ok (.int .u32 1048691) W := fun W => by kernel_rfl
  go_enter Try.func21, Try.ntmps21
  go_upto_region 1 with fail
  obtain ⟨wa, hwa, oc0, hb_, hz0⟩ := letter1 w (.cells #[.int .i64 c, .int .i64 f, .bool true, .int .i64 rd, .int .i64 r1, .int .i64 r2, .int .u64 m] 30 (0, 0))
  rw [hwa]
  clear hwa
  have hzwa := Nat.le_of_eq hz0.symm
  clear hz0
  have oc := Aside0.mk oc0
  clear oc0
  obtain ⟨occ, ocf, ocl⟩ := cells_of oc.out
  have HB_ : Aside0 (Below w.heap.size w wa) := ⟨hb_⟩
  clear HB hb_; have HB := HB_; clear HB_
  go_wp2
  go_quiet (fail)
  go_wp2_with fail
  (go_at_call 44; (with_reducible refine (systems_runs _).mono ?_); rintro e_ w1 ⟨rfl, hb_⟩; have HB_ : Aside0 (Below w.heap.size w w1) := Aside0.mk (below_step (by repeat (first | (with_reducible first | exact HB.out | exact Below.refl _ _ | apply below_alloc | apply pw_below_drewN | apply below_drew | refine below_set ?_ (by omega)) | exact HB.out)) hb_); have hzw1 := hb_.size; (try simp at hzw1); have oc_ := Aside0.mk (box_below hb_ (by repeat (with_reducible first | exact oc.out | apply ext_drew | apply ext_drewN | apply ext_alloc | refine blk_far ?_ (by show _ ≠ _; dsimp only; omega) _))); (try clear oc occ ocf ocl); have oc := oc_; clear oc_; obtain ⟨occ, ocf, ocl⟩ := cells_of oc.out; clear HB hb_; have HB := HB_; clear HB_)
  go_wp2
  all_goals go_ret
  all_goals exact ⟨rfl, (by repeat (first | (with_reducible first | exact HB.out | exact Below.refl _ _ | apply below_alloc | apply pw_below_drewN | apply below_drew | refine below_set ?_ (by omega)) | exact HB.out))⟩
set_option maxHeartbeats 1600000 in
set_option maxRecDepth 100000 in
theorem word_true_11_2 (c f rd r1 r2 m : Int) (w : World) (a0 : 0 ≤ rd) (a1 : rd ≤ 31) (b0 : 0 ≤ r1) (b1 : r1 ≤ 31) (d0 : 0 ≤ r2) (d1 : r2 ≤ 31) (c1 : (c == 1) = false) (c2 : (c == 2) = false) (c3 : (c == 3) = false) (c4 : (c == 4) = false) (c5 : (c == 5) = false) (c6 : (c == 6) = false) (c7 : (c == 7) = false) (c8 : (c == 8) = false) (c9 : (c == 9) = false) (c10 : (c == 10) = false) (c11 : (c == 11) = true) (k0 : (f == 5) = false) (hF : f % 4294967296 = 2) :
    Calls Try.prog 21 #[.agg #[.int .i64 c, .int .i64 f, .bool true, .int .i64 rd, .int .i64 r1, .int .i64 r2, .int .u64 m]] w fun e w' => e = .returned (.int .u32 270532723) ∧ Below w.heap.size w w' := by
  have HB := Aside0.mk (Below.refl w.heap.size w)
  have hix : ∀ W, (Instr.index 59 (.agg #[.int .u32 115, .int .u32 1048691, .int .u32 270532723, .int .u32 807403635, .int .u32 273678451]) (.int .u32 2)).run Try.prog W = .ok (.int .u32 270532723) W := fun W => by kernel_rfl
  go_enter Try.func21, Try.ntmps21
  go_upto_region 1 with fail
  obtain ⟨wa, hwa, oc0, hb_, hz0⟩ := letter1 w (.cells #[.int .i64 c, .int .i64 f, .bool true, .int .i64 rd, .int .i64 r1, .int .i64 r2, .int .u64 m] 30 (0, 0))
  rw [hwa]
  clear hwa
  have hzwa := Nat.le_of_eq hz0.symm
  clear hz0
  have oc := Aside0.mk oc0
  clear oc0
  obtain ⟨occ, ocf, ocl⟩ := cells_of oc.out
  have HB_ : Aside0 (Below w.heap.size w wa) := ⟨hb_⟩
  clear HB hb_; have HB := HB_; clear HB_
  go_wp2
  go_quiet (fail)
  go_wp2_with fail
  (go_at_call 44; (with_reducible refine (systems_runs _).mono ?_); rintro e_ w1 ⟨rfl, hb_⟩; have HB_ : Aside0 (Below w.heap.size w w1) := Aside0.mk (below_step (by repeat (first | (with_reducible first | exact HB.out | exact Below.refl _ _ | apply below_alloc | apply pw_below_drewN | apply below_drew | refine below_set ?_ (by omega)) | exact HB.out)) hb_); have hzw1 := hb_.size; (try simp at hzw1); have oc_ := Aside0.mk (box_below hb_ (by repeat (with_reducible first | exact oc.out | apply ext_drew | apply ext_drewN | apply ext_alloc | refine blk_far ?_ (by show _ ≠ _; dsimp only; omega) _))); (try clear oc occ ocf ocl); have oc := oc_; clear oc_; obtain ⟨occ, ocf, ocl⟩ := cells_of oc.out; clear HB hb_; have HB := HB_; clear HB_)
  go_wp2
  all_goals go_ret
  all_goals exact ⟨rfl, (by repeat (first | (with_reducible first | exact HB.out | exact Below.refl _ _ | apply below_alloc | apply pw_below_drewN | apply below_drew | refine below_set ?_ (by omega)) | exact HB.out))⟩
set_option maxHeartbeats 1600000 in
set_option maxRecDepth 100000 in
theorem word_true_11_3 (c f rd r1 r2 m : Int) (w : World) (a0 : 0 ≤ rd) (a1 : rd ≤ 31) (b0 : 0 ≤ r1) (b1 : r1 ≤ 31) (d0 : 0 ≤ r2) (d1 : r2 ≤ 31) (c1 : (c == 1) = false) (c2 : (c == 2) = false) (c3 : (c == 3) = false) (c4 : (c == 4) = false) (c5 : (c == 5) = false) (c6 : (c == 6) = false) (c7 : (c == 7) = false) (c8 : (c == 8) = false) (c9 : (c == 9) = false) (c10 : (c == 10) = false) (c11 : (c == 11) = true) (k0 : (f == 5) = false) (hF : f % 4294967296 = 3) :
    Calls Try.prog 21 #[.agg #[.int .i64 c, .int .i64 f, .bool true, .int .i64 rd, .int .i64 r1, .int .i64 r2, .int .u64 m]] w fun e w' => e = .returned (.int .u32 807403635) ∧ Below w.heap.size w w' := by
  have HB := Aside0.mk (Below.refl w.heap.size w)
  have hix : ∀ W, (Instr.index 59 (.agg #[.int .u32 115, .int .u32 1048691, .int .u32 270532723, .int .u32 807403635, .int .u32 273678451]) (.int .u32 3)).run Try.prog W = .ok (.int .u32 807403635) W := fun W => by kernel_rfl
  go_enter Try.func21, Try.ntmps21
  go_upto_region 1 with fail
  obtain ⟨wa, hwa, oc0, hb_, hz0⟩ := letter1 w (.cells #[.int .i64 c, .int .i64 f, .bool true, .int .i64 rd, .int .i64 r1, .int .i64 r2, .int .u64 m] 30 (0, 0))
  rw [hwa]
  clear hwa
  have hzwa := Nat.le_of_eq hz0.symm
  clear hz0
  have oc := Aside0.mk oc0
  clear oc0
  obtain ⟨occ, ocf, ocl⟩ := cells_of oc.out
  have HB_ : Aside0 (Below w.heap.size w wa) := ⟨hb_⟩
  clear HB hb_; have HB := HB_; clear HB_
  go_wp2
  go_quiet (fail)
  go_wp2_with fail
  (go_at_call 44; (with_reducible refine (systems_runs _).mono ?_); rintro e_ w1 ⟨rfl, hb_⟩; have HB_ : Aside0 (Below w.heap.size w w1) := Aside0.mk (below_step (by repeat (first | (with_reducible first | exact HB.out | exact Below.refl _ _ | apply below_alloc | apply pw_below_drewN | apply below_drew | refine below_set ?_ (by omega)) | exact HB.out)) hb_); have hzw1 := hb_.size; (try simp at hzw1); have oc_ := Aside0.mk (box_below hb_ (by repeat (with_reducible first | exact oc.out | apply ext_drew | apply ext_drewN | apply ext_alloc | refine blk_far ?_ (by show _ ≠ _; dsimp only; omega) _))); (try clear oc occ ocf ocl); have oc := oc_; clear oc_; obtain ⟨occ, ocf, ocl⟩ := cells_of oc.out; clear HB hb_; have HB := HB_; clear HB_)
  go_wp2
  all_goals go_ret
  all_goals exact ⟨rfl, (by repeat (first | (with_reducible first | exact HB.out | exact Below.refl _ _ | apply below_alloc | apply pw_below_drewN | apply below_drew | refine below_set ?_ (by omega)) | exact HB.out))⟩
set_option maxHeartbeats 1600000 in
set_option maxRecDepth 100000 in
theorem word_true_11_4 (c f rd r1 r2 m : Int) (w : World) (a0 : 0 ≤ rd) (a1 : rd ≤ 31) (b0 : 0 ≤ r1) (b1 : r1 ≤ 31) (d0 : 0 ≤ r2) (d1 : r2 ≤ 31) (c1 : (c == 1) = false) (c2 : (c == 2) = false) (c3 : (c == 3) = false) (c4 : (c == 4) = false) (c5 : (c == 5) = false) (c6 : (c == 6) = false) (c7 : (c == 7) = false) (c8 : (c == 8) = false) (c9 : (c == 9) = false) (c10 : (c == 10) = false) (c11 : (c == 11) = true) (k0 : (f == 5) = false) (hF : f % 4294967296 = 4) :
    Calls Try.prog 21 #[.agg #[.int .i64 c, .int .i64 f, .bool true, .int .i64 rd, .int .i64 r1, .int .i64 r2, .int .u64 m]] w fun e w' => e = .returned (.int .u32 273678451) ∧ Below w.heap.size w w' := by
  have HB := Aside0.mk (Below.refl w.heap.size w)
  have hix : ∀ W, (Instr.index 59 (.agg #[.int .u32 115, .int .u32 1048691, .int .u32 270532723, .int .u32 807403635, .int .u32 273678451]) (.int .u32 4)).run Try.prog W = .ok (.int .u32 273678451) W := fun W => by kernel_rfl
  go_enter Try.func21, Try.ntmps21
  go_upto_region 1 with fail
  obtain ⟨wa, hwa, oc0, hb_, hz0⟩ := letter1 w (.cells #[.int .i64 c, .int .i64 f, .bool true, .int .i64 rd, .int .i64 r1, .int .i64 r2, .int .u64 m] 30 (0, 0))
  rw [hwa]
  clear hwa
  have hzwa := Nat.le_of_eq hz0.symm
  clear hz0
  have oc := Aside0.mk oc0
  clear oc0
  obtain ⟨occ, ocf, ocl⟩ := cells_of oc.out
  have HB_ : Aside0 (Below w.heap.size w wa) := ⟨hb_⟩
  clear HB hb_; have HB := HB_; clear HB_
  go_wp2
  go_quiet (fail)
  go_wp2_with fail
  (go_at_call 44; (with_reducible refine (systems_runs _).mono ?_); rintro e_ w1 ⟨rfl, hb_⟩; have HB_ : Aside0 (Below w.heap.size w w1) := Aside0.mk (below_step (by repeat (first | (with_reducible first | exact HB.out | exact Below.refl _ _ | apply below_alloc | apply pw_below_drewN | apply below_drew | refine below_set ?_ (by omega)) | exact HB.out)) hb_); have hzw1 := hb_.size; (try simp at hzw1); have oc_ := Aside0.mk (box_below hb_ (by repeat (with_reducible first | exact oc.out | apply ext_drew | apply ext_drewN | apply ext_alloc | refine blk_far ?_ (by show _ ≠ _; dsimp only; omega) _))); (try clear oc occ ocf ocl); have oc := oc_; clear oc_; obtain ⟨occ, ocf, ocl⟩ := cells_of oc.out; clear HB hb_; have HB := HB_; clear HB_)
  go_wp2
  all_goals go_ret
  all_goals exact ⟨rfl, (by repeat (first | (with_reducible first | exact HB.out | exact Below.refl _ _ | apply below_alloc | apply pw_below_drewN | apply below_drew | refine below_set ?_ (by omega)) | exact HB.out))⟩
set_option maxHeartbeats 1600000 in
set_option maxRecDepth 100000 in
theorem word_true_11_5 (c f rd r1 r2 m : Int) (w : World) (a0 : 0 ≤ rd) (a1 : rd ≤ 31) (b0 : 0 ≤ r1) (b1 : r1 ≤ 31) (d0 : 0 ≤ r2) (d1 : r2 ≤ 31) (c1 : (c == 1) = false) (c2 : (c == 2) = false) (c3 : (c == 3) = false) (c4 : (c == 4) = false) (c5 : (c == 5) = false) (c6 : (c == 6) = false) (c7 : (c == 7) = false) (c8 : (c == 8) = false) (c9 : (c == 9) = false) (c10 : (c == 10) = false) (c11 : (c == 11) = true) (k0 : (f == 5) = false) (hF : 4 < f % 4294967296) :
    Calls Try.prog 21 #[.agg #[.int .i64 c, .int .i64 f, .bool true, .int .i64 rd, .int .i64 r1, .int .i64 r2, .int .u64 m]] w fun e w' => e = .returned (.int .u32 273678451) ∧ Below w.heap.size w w' := by
  have HB := Aside0.mk (Below.refl w.heap.size w)
  have hix : ∀ W, (Instr.index 59 (.agg #[.int .u32 115, .int .u32 1048691, .int .u32 270532723, .int .u32 807403635, .int .u32 273678451]) (.int .u32 4)).run Try.prog W = .ok (.int .u32 273678451) W := fun W => by kernel_rfl
  go_enter Try.func21, Try.ntmps21
  go_upto_region 1 with fail
  obtain ⟨wa, hwa, oc0, hb_, hz0⟩ := letter1 w (.cells #[.int .i64 c, .int .i64 f, .bool true, .int .i64 rd, .int .i64 r1, .int .i64 r2, .int .u64 m] 30 (0, 0))
  rw [hwa]
  clear hwa
  have hzwa := Nat.le_of_eq hz0.symm
  clear hz0
  have oc := Aside0.mk oc0
  clear oc0
  obtain ⟨occ, ocf, ocl⟩ := cells_of oc.out
  have HB_ : Aside0 (Below w.heap.size w wa) := ⟨hb_⟩
  clear HB hb_; have HB := HB_; clear HB_
  go_wp2
  go_quiet (fail)
  go_wp2_with fail
  (go_at_call 44; (with_reducible refine (systems_runs _).mono ?_); rintro e_ w1 ⟨rfl, hb_⟩; have HB_ : Aside0 (Below w.heap.size w w1) := Aside0.mk (below_step (by repeat (first | (with_reducible first | exact HB.out | exact Below.refl _ _ | apply below_alloc | apply pw_below_drewN | apply below_drew | refine below_set ?_ (by omega)) | exact HB.out)) hb_); have hzw1 := hb_.size; (try simp at hzw1); have oc_ := Aside0.mk (box_below hb_ (by repeat (with_reducible first | exact oc.out | apply ext_drew | apply ext_drewN | apply ext_alloc | refine blk_far ?_ (by show _ ≠ _; dsimp only; omega) _))); (try clear oc occ ocf ocl); have oc := oc_; clear oc_; obtain ⟨occ, ocf, ocl⟩ := cells_of oc.out; clear HB hb_; have HB := HB_; clear HB_)
  go_wp2
  all_goals first
    | (go_ret; exact ⟨rfl, (by repeat (first | (with_reducible first | exact HB.out | exact Below.refl _ _ | apply below_alloc | apply pw_below_drewN | apply below_drew | refine below_set ?_ (by omega)) | exact HB.out))⟩)
    | (exfalso; omega)
end Go.Proofs.Ytgcpedenlbcdgaa.Q
