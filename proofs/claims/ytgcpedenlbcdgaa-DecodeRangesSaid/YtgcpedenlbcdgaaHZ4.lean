import Derived.Test.YtgcpedenlbcdgaaHDdec
import Derived.Deep.DrawnRows
import Derived.Deep.QuietTactic
import Derived.BigQuiet
import Derived.Test.YtgcpedenlbcdgaaHZ2
section
/- The closure that puts a word together. -/
namespace Go.Proofs.Ytgcpedenlbcdgaa.Q
open Go.RowKit Go.Proofs.YtgcpedenlbcdgaaW.PrintWords Go.Proofs.YtgcpedenlbcdgaaW.PrintLast Go.Proofs.YtgcpedenlbcdgaaW.PrintMore Go.Proofs.Ytgcpedenlbcdgaa.L
attribute [local go_sem] Instr.field part asAgg lt_step max2_int min2_int max_two min_two max_three min_three max_four min_four lt_0_1 lt_0_2 lt_1_2 lt_0_3 lt_1_3 lt_2_3 lt_0_4 lt_1_4 lt_2_4 lt_3_4 lt_0_5 lt_1_5 lt_2_5 lt_3_5 lt_4_5 lt_0_6 lt_1_6 lt_2_6 lt_3_6 lt_4_6 lt_5_6 lt_0_7 lt_1_7 lt_2_7 lt_3_7 lt_4_7 lt_5_7 lt_6_7 lt_0_8 lt_1_8 lt_2_8 lt_3_8 lt_4_8 lt_5_8 lt_6_8 lt_7_8
set_option linter.unusedVariables false
set_option linter.unusedSimpArgs false
attribute [local go_sem ↓] Go.wp_at_zero Go.wp_at_succ
def putZ (op k hi rd r1 r2 : Int) : Int := Go.bits .or .u32 (Go.bits .or .u32 (Go.bits .or .u32 (Go.bits .or .u32 (Go.bits .or .u32 op (rd * 128)) (IntKind.u32.wrap (k * 4096))) (r1 * 32768)) (r2 * 1048576)) (IntKind.u32.wrap (hi * 33554432))
set_option maxHeartbeats 1600000 in
set_option maxRecDepth 100000 in
theorem put_runs (g : Nat) (op k hi c f : Int) (b : Bool) (rd r1 r2 m : Int) (w : World) (hg : w.heap[g]? = some (.cells #[.int .i64 c, .int .i64 f, .bool b, .int .i64 rd, .int .i64 r1, .int .i64 r2, .int .u64 m] 30 (0, 0)))
    (a0 : 0 ≤ rd) (a1 : rd ≤ 31) (b0 : 0 ≤ r1) (b1 : r1 ≤ 31) (d0 : 0 ≤ r2) (d1 : r2 ≤ 31) :
    Calls Try.prog 43 #[.int .u32 op, .int .u32 k, .int .u32 hi, .pointer (some ⟨g, 0, none⟩)] w fun e w' => e = .returned (.int .u32 (putZ op k hi rd r1 r2)) ∧ Drawn0 w w' := by
  obtain ⟨gc, gf, gl⟩ := cells_of hg
  clear hg
  go_enter Try.func43, Try.ntmps43
  go_wp2
  go_ret
  exact ⟨rfl, ⟨0, rfl⟩⟩
end Go.Proofs.Ytgcpedenlbcdgaa.Q
end
section
/- decode.word. -/
namespace Go.Proofs.Ytgcpedenlbcdgaa.Q
open Go.RowKit Go.Proofs.YtgcpedenlbcdgaaW.PrintWords Go.Proofs.YtgcpedenlbcdgaaW.PrintLast Go.Proofs.YtgcpedenlbcdgaaW.PrintMore Go.Proofs.Ytgcpedenlbcdgaa.L
attribute [local go_sem] Instr.field part asAgg lt_step max2_int min2_int max_two min_two max_three min_three max_four min_four lt_0_1 lt_0_2 lt_1_2 lt_0_3 lt_1_3 lt_2_3 lt_0_4 lt_1_4 lt_2_4 lt_3_4 lt_0_5 lt_1_5 lt_2_5 lt_3_5 lt_4_5 lt_0_6 lt_1_6 lt_2_6 lt_3_6 lt_4_6 lt_5_6 lt_0_7 lt_1_7 lt_2_7 lt_3_7 lt_4_7 lt_5_7 lt_6_7 lt_0_8 lt_1_8 lt_2_8 lt_3_8 lt_4_8 lt_5_8 lt_6_8 lt_7_8
set_option linter.unusedVariables false
set_option linter.unusedSimpArgs false
attribute [local go_sem ↓] Go.wp_at_zero Go.wp_at_succ
set_option maxHeartbeats 1600000 in
set_option maxRecDepth 100000 in
theorem word_true_1 (c f rd r1 r2 m : Int) (w : World) (a0 : 0 ≤ rd) (a1 : rd ≤ 31) (b0 : 0 ≤ r1) (b1 : r1 ≤ 31) (d0 : 0 ≤ r2) (d1 : r2 ≤ 31) (c1 : (c == 1) = true) :
    Calls Try.prog 21 #[.agg #[.int .i64 c, .int .i64 f, .bool true, .int .i64 rd, .int .i64 r1, .int .i64 r2, .int .u64 m]] w fun e w' => e = .returned (.int .u32 (Go.bits .or .u32 (putZ 55 0 0 rd r1 r2) (Go.bits .andNot .u32 (m % 4294967296) 4095))) ∧ Below w.heap.size w w' := by
  have HB := Aside0.mk (Below.refl w.heap.size w)
  go_enter Try.func21, Try.ntmps21
  go_upto_region 1 with fail
  obtain ⟨wa, hwa, oc0, hb_, hz0⟩ := letter1 w (.cells #[.int .i64 c, .int .i64 f, .bool true, .int .i64 rd, .int .i64 r1, .int .i64 r2, .int .u64 m] 30 (0, 0))
  rw [hwa]
  clear hwa
  have hzwa := Nat.le_of_eq hz0.symm
  clear hz0
  have oc := Aside0.mk oc0
  clear oc0
  obtain ⟨occ, ocf, ocl⟩ := cells_of oc.out
  have HB_ : Aside0 (Below w.heap.size w wa) := ⟨hb_⟩
  clear HB hb_; have HB := HB_; clear HB_
  go_wp2
  go_quiet (fail)
  go_wp2_with (first | (go_at_call 43; (with_reducible refine (put_runs w.heap.size _ _ _ c f true rd r1 r2 m _ (by repeat (with_reducible first | exact oc.out | apply ext_drew | apply ext_drewN | apply ext_alloc | refine blk_far ?_ (by show _ ≠ _; dsimp only; omega) _)) a0 a1 b0 b1 d0 d1).mono ?_); rintro e_ w_ ⟨rfl, hd_⟩; obtain ⟨n_, rfl⟩ := hd_.out; clear hd_))
  all_goals go_ret
  all_goals exact ⟨rfl, (by repeat (first | (with_reducible first | exact HB.out | exact Below.refl _ _ | apply below_alloc | apply pw_below_drewN | apply below_drew | refine below_set ?_ (by omega)) | exact HB.out))⟩
set_option maxHeartbeats 1600000 in
set_option maxRecDepth 100000 in
theorem word_true_4 (c f rd r1 r2 m : Int) (w : World) (a0 : 0 ≤ rd) (a1 : rd ≤ 31) (b0 : 0 ≤ r1) (b1 : r1 ≤ 31) (d0 : 0 ≤ r2) (d1 : r2 ≤ 31) (c1 : (c == 1) = false) (c2 : (c == 2) = false) (c3 : (c == 3) = false) (c4 : (c == 4) = true) :
    Calls Try.prog 21 #[.agg #[.int .i64 c, .int .i64 f, .bool true, .int .i64 rd, .int .i64 r1, .int .i64 r2, .int .u64 m]] w fun e w' => e = .returned (.int .u32 (Go.bits .or .u32 (putZ 103 0 0 rd r1 r2) (m % 4294967296 * 1048576 % 4294967296))) ∧ Below w.heap.size w w' := by
  have HB := Aside0.mk (Below.refl w.heap.size w)
  go_enter Try.func21, Try.ntmps21
  go_upto_region 1 with fail
  obtain ⟨wa, hwa, oc0, hb_, hz0⟩ := letter1 w (.cells #[.int .i64 c, .int .i64 f, .bool true, .int .i64 rd, .int .i64 r1, .int .i64 r2, .int .u64 m] 30 (0, 0))
  rw [hwa]
  clear hwa
  have hzwa := Nat.le_of_eq hz0.symm
  clear hz0
  have oc := Aside0.mk oc0
  clear oc0
  obtain ⟨occ, ocf, ocl⟩ := cells_of oc.out
  have HB_ : Aside0 (Below w.heap.size w wa) := ⟨hb_⟩
  clear HB hb_; have HB := HB_; clear HB_
  go_wp2
  go_quiet (fail)
  go_wp2_with (first | (go_at_call 43; (with_reducible refine (put_runs w.heap.size _ _ _ c f true rd r1 r2 m _ (by repeat (with_reducible first | exact oc.out | apply ext_drew | apply ext_drewN | apply ext_alloc | refine blk_far ?_ (by show _ ≠ _; dsimp only; omega) _)) a0 a1 b0 b1 d0 d1).mono ?_); rintro e_ w_ ⟨rfl, hd_⟩; obtain ⟨n_, rfl⟩ := hd_.out; clear hd_))
  all_goals go_ret
  all_goals exact ⟨rfl, (by repeat (first | (with_reducible first | exact HB.out | exact Below.refl _ _ | apply below_alloc | apply pw_below_drewN | apply below_drew | refine below_set ?_ (by omega)) | exact HB.out))⟩
set_option maxHeartbeats 1600000 in
set_option maxRecDepth 100000 in
theorem word_true_7 (c f rd r1 r2 m : Int) (w : World) (a0 : 0 ≤ rd) (a1 : rd ≤ 31) (b0 : 0 ≤ r1) (b1 : r1 ≤ 31) (d0 : 0 ≤ r2) (d1 : r2 ≤ 31) (c1 : (c == 1) = false) (c2 : (c == 2) = false) (c3 : (c == 3) = false) (c4 : (c == 4) = false) (c5 : (c == 5) = false) (c6 : (c == 6) = false) (c7 : (c == 7) = true) :
    Calls Try.prog 21 #[.agg #[.int .i64 c, .int .i64 f, .bool true, .int .i64 rd, .int .i64 r1, .int .i64 r2, .int .u64 m]] w fun e w' => e = .returned (.int .u32 (Go.bits .or .u32 (putZ 35 (f % 4294967296) (Go.bits .and .u32 (m % 4294967296 / 32) 127) rd r1 r2) ((Go.bits .and .u32 (m % 4294967296) 31) * 128 % 4294967296))) ∧ Below w.heap.size w w' := by
  have HB := Aside0.mk (Below.refl w.heap.size w)
  go_enter Try.func21, Try.ntmps21
  go_upto_region 1 with fail
  obtain ⟨wa, hwa, oc0, hb_, hz0⟩ := letter1 w (.cells #[.int .i64 c, .int .i64 f, .bool true, .int .i64 rd, .int .i64 r1, .int .i64 r2, .int .u64 m] 30 (0, 0))
  rw [hwa]
  clear hwa
  have hzwa := Nat.le_of_eq hz0.symm
  clear hz0
  have oc := Aside0.mk oc0
  clear oc0
  obtain ⟨occ, ocf, ocl⟩ := cells_of oc.out
  have HB_ : Aside0 (Below w.heap.size w wa) := ⟨hb_⟩
  clear HB hb_; have HB := HB_; clear HB_
  go_wp2
  go_quiet (fail)
  go_wp2_with (first | (go_at_call 43; (with_reducible refine (put_runs w.heap.size _ _ _ c f true rd r1 r2 m _ (by repeat (with_reducible first | exact oc.out | apply ext_drew | apply ext_drewN | apply ext_alloc | refine blk_far ?_ (by show _ ≠ _; dsimp only; omega) _)) a0 a1 b0 b1 d0 d1).mono ?_); rintro e_ w_ ⟨rfl, hd_⟩; obtain ⟨n_, rfl⟩ := hd_.out; clear hd_))
  all_goals go_ret
  all_goals exact ⟨rfl, (by repeat (first | (with_reducible first | exact HB.out | exact Below.refl _ _ | apply below_alloc | apply pw_below_drewN | apply below_drew | refine below_set ?_ (by omega)) | exact HB.out))⟩
set_option maxHeartbeats 1600000 in
set_option maxRecDepth 100000 in
theorem word_true_9 (c f rd r1 r2 m : Int) (w : World) (a0 : 0 ≤ rd) (a1 : rd ≤ 31) (b0 : 0 ≤ r1) (b1 : r1 ≤ 31) (d0 : 0 ≤ r2) (d1 : r2 ≤ 31) (c1 : (c == 1) = false) (c2 : (c == 2) = false) (c3 : (c == 3) = false) (c4 : (c == 4) = false) (c5 : (c == 5) = false) (c6 : (c == 6) = false) (c7 : (c == 7) = false) (c8 : (c == 8) = false) (c9 : (c == 9) = true) :
    Calls Try.prog 21 #[.agg #[.int .i64 c, .int .i64 f, .bool true, .int .i64 rd, .int .i64 r1, .int .i64 r2, .int .u64 m]] w fun e w' => e = .returned (.int .u32 (putZ (Go.bits .or .u32 51 8) (Go.bits .and .u32 (f % 4294967296) 7) (Go.bits .or .i64 (Go.bits .and .i64 (f / 16) 1) (wrap64 (Go.bits .and .i64 (f / 8) 1 * 32)) % 4294967296) rd r1 r2)) ∧ Below w.heap.size w w' := by
  have HB := Aside0.mk (Below.refl w.heap.size w)
  go_enter Try.func21, Try.ntmps21
  go_upto_region 1 with fail
  obtain ⟨wa, hwa, oc0, hb_, hz0⟩ := letter1 w (.cells #[.int .i64 c, .int .i64 f, .bool true, .int .i64 rd, .int .i64 r1, .int .i64 r2, .int .u64 m] 30 (0, 0))
  rw [hwa]
  clear hwa
  have hzwa := Nat.le_of_eq hz0.symm
  clear hz0
  have oc := Aside0.mk oc0
  clear oc0
  obtain ⟨occ, ocf, ocl⟩ := cells_of oc.out
  have HB_ : Aside0 (Below w.heap.size w wa) := ⟨hb_⟩
  clear HB hb_; have HB := HB_; clear HB_
  go_wp2
  go_quiet (fail)
  go_wp2_with (first | (go_at_call 43; (with_reducible refine (put_runs w.heap.size _ _ _ c f true rd r1 r2 m _ (by repeat (with_reducible first | exact oc.out | apply ext_drew | apply ext_drewN | apply ext_alloc | refine blk_far ?_ (by show _ ≠ _; dsimp only; omega) _)) a0 a1 b0 b1 d0 d1).mono ?_); rintro e_ w_ ⟨rfl, hd_⟩; obtain ⟨n_, rfl⟩ := hd_.out; clear hd_))
  all_goals go_ret
  all_goals exact ⟨rfl, (by repeat (first | (with_reducible first | exact HB.out | exact Below.refl _ _ | apply below_alloc | apply pw_below_drewN | apply below_drew | refine below_set ?_ (by omega)) | exact HB.out))⟩
set_option maxHeartbeats 1600000 in
set_option maxRecDepth 100000 in
theorem word_true_12 (c f rd r1 r2 m : Int) (w : World) (a0 : 0 ≤ rd) (a1 : rd ≤ 31) (b0 : 0 ≤ r1) (b1 : r1 ≤ 31) (d0 : 0 ≤ r2) (d1 : r2 ≤ 31) (c1 : (c == 1) = false) (c2 : (c == 2) = false) (c3 : (c == 3) = false) (c4 : (c == 4) = false) (c5 : (c == 5) = false) (c6 : (c == 6) = false) (c7 : (c == 7) = false) (c8 : (c == 8) = false) (c9 : (c == 9) = false) (c10 : (c == 10) = false) (c11 : (c == 11) = false) (c12 : (c == 12) = true) :
    Calls Try.prog 21 #[.agg #[.int .i64 c, .int .i64 f, .bool true, .int .i64 rd, .int .i64 r1, .int .i64 r2, .int .u64 m]] w fun e w' => e = .returned (.int .u32 (Go.bits .or .u32 (putZ 115 (f % 4294967296) 0 rd r1 r2) (m % 4294967296 * 1048576 % 4294967296))) ∧ Below w.heap.size w w' := by
  have HB := Aside0.mk (Below.refl w.heap.size w)
  go_enter Try.func21, Try.ntmps21
  go_upto_region 1 with fail
  obtain ⟨wa, hwa, oc0, hb_, hz0⟩ := letter1 w (.cells #[.int .i64 c, .int .i64 f, .bool true, .int .i64 rd, .int .i64 r1, .int .i64 r2, .int .u64 m] 30 (0, 0))
  rw [hwa]
  clear hwa
  have hzwa := Nat.le_of_eq hz0.symm
  clear hz0
  have oc := Aside0.mk oc0
  clear oc0
  obtain ⟨occ, ocf, ocl⟩ := cells_of oc.out
  have HB_ : Aside0 (Below w.heap.size w wa) := ⟨hb_⟩
  clear HB hb_; have HB := HB_; clear HB_
  go_wp2
  go_quiet (fail)
  go_wp2_with (first | (go_at_call 43; (with_reducible refine (put_runs w.heap.size _ _ _ c f true rd r1 r2 m _ (by repeat (with_reducible first | exact oc.out | apply ext_drew | apply ext_drewN | apply ext_alloc | refine blk_far ?_ (by show _ ≠ _; dsimp only; omega) _)) a0 a1 b0 b1 d0 d1).mono ?_); rintro e_ w_ ⟨rfl, hd_⟩; obtain ⟨n_, rfl⟩ := hd_.out; clear hd_))
  all_goals go_ret
  all_goals exact ⟨rfl, (by repeat (first | (with_reducible first | exact HB.out | exact Below.refl _ _ | apply below_alloc | apply pw_below_drewN | apply below_drew | refine below_set ?_ (by omega)) | exact HB.out))⟩
end Go.Proofs.Ytgcpedenlbcdgaa.Q
end
section
/- decode.word. -/
namespace Go.Proofs.Ytgcpedenlbcdgaa.Q
open Go.RowKit Go.Proofs.YtgcpedenlbcdgaaW.PrintWords Go.Proofs.YtgcpedenlbcdgaaW.PrintLast Go.Proofs.YtgcpedenlbcdgaaW.PrintMore Go.Proofs.Ytgcpedenlbcdgaa.L
attribute [local go_sem] Instr.field part asAgg lt_step max2_int min2_int max_two min_two max_three min_three max_four min_four lt_0_1 lt_0_2 lt_1_2 lt_0_3 lt_1_3 lt_2_3 lt_0_4 lt_1_4 lt_2_4 lt_3_4 lt_0_5 lt_1_5 lt_2_5 lt_3_5 lt_4_5 lt_0_6 lt_1_6 lt_2_6 lt_3_6 lt_4_6 lt_5_6 lt_0_7 lt_1_7 lt_2_7 lt_3_7 lt_4_7 lt_5_7 lt_6_7 lt_0_8 lt_1_8 lt_2_8 lt_3_8 lt_4_8 lt_5_8 lt_6_8 lt_7_8
set_option linter.unusedVariables false
set_option linter.unusedSimpArgs false
attribute [local go_sem ↓] Go.wp_at_zero Go.wp_at_succ
set_option maxHeartbeats 1600000 in
set_option maxRecDepth 100000 in
theorem word_true_2 (c f rd r1 r2 m : Int) (w : World) (a0 : 0 ≤ rd) (a1 : rd ≤ 31) (b0 : 0 ≤ r1) (b1 : r1 ≤ 31) (d0 : 0 ≤ r2) (d1 : r2 ≤ 31) (c1 : (c == 1) = false) (c2 : (c == 2) = true) :
    Calls Try.prog 21 #[.agg #[.int .i64 c, .int .i64 f, .bool true, .int .i64 rd, .int .i64 r1, .int .i64 r2, .int .u64 m]] w fun e w' => e = .returned (.int .u32 (Go.bits .or .u32 (putZ 23 0 0 rd r1 r2) (Go.bits .andNot .u32 (m % 4294967296) 4095))) ∧ Below w.heap.size w w' := by
  have HB := Aside0.mk (Below.refl w.heap.size w)
  go_enter Try.func21, Try.ntmps21
  go_upto_region 1 with fail
  obtain ⟨wa, hwa, oc0, hb_, hz0⟩ := letter1 w (.cells #[.int .i64 c, .int .i64 f, .bool true, .int .i64 rd, .int .i64 r1, .int .i64 r2, .int .u64 m] 30 (0, 0))
  rw [hwa]
  clear hwa
  have hzwa := Nat.le_of_eq hz0.symm
  clear hz0
  have oc := Aside0.mk oc0
  clear oc0
  obtain ⟨occ, ocf, ocl⟩ := cells_of oc.out
  have HB_ : Aside0 (Below w.heap.size w wa) := ⟨hb_⟩
  clear HB hb_; have HB := HB_; clear HB_
  go_wp2
  go_quiet (fail)
  go_wp2_with (first | (go_at_call 43; (with_reducible refine (put_runs w.heap.size _ _ _ c f true rd r1 r2 m _ (by repeat (with_reducible first | exact oc.out | apply ext_drew | apply ext_drewN | apply ext_alloc | refine blk_far ?_ (by show _ ≠ _; dsimp only; omega) _)) a0 a1 b0 b1 d0 d1).mono ?_); rintro e_ w_ ⟨rfl, hd_⟩; obtain ⟨n_, rfl⟩ := hd_.out; clear hd_))
  all_goals go_ret
  all_goals exact ⟨rfl, (by repeat (first | (with_reducible first | exact HB.out | exact Below.refl _ _ | apply below_alloc | apply pw_below_drewN | apply below_drew | refine below_set ?_ (by omega)) | exact HB.out))⟩
set_option maxHeartbeats 1600000 in
set_option maxRecDepth 100000 in
theorem word_true_5 (c f rd r1 r2 m : Int) (w : World) (a0 : 0 ≤ rd) (a1 : rd ≤ 31) (b0 : 0 ≤ r1) (b1 : r1 ≤ 31) (d0 : 0 ≤ r2) (d1 : r2 ≤ 31) (c1 : (c == 1) = false) (c2 : (c == 2) = false) (c3 : (c == 3) = false) (c4 : (c == 4) = false) (c5 : (c == 5) = true) :
    Calls Try.prog 21 #[.agg #[.int .i64 c, .int .i64 f, .bool true, .int .i64 rd, .int .i64 r1, .int .i64 r2, .int .u64 m]] w fun e w' => e = .returned (.int .u32 (Go.bits .or .u32 (Go.bits .or .u32 (Go.bits .or .u32 (Go.bits .or .u32 (putZ 99 (f % 4294967296) 0 rd r1 r2) ((Go.bits .and .u32 (m % 4294967296 / 4096) 1) * 2147483648 % 4294967296)) ((Go.bits .and .u32 (m % 4294967296 / 32) 63) * 33554432 % 4294967296)) ((Go.bits .and .u32 (m % 4294967296 / 2) 15) * 256 % 4294967296)) ((Go.bits .and .u32 (m % 4294967296 / 2048) 1) * 128 % 4294967296))) ∧ Below w.heap.size w w' := by
  have HB := Aside0.mk (Below.refl w.heap.size w)
  go_enter Try.func21, Try.ntmps21
  go_upto_region 1 with fail
  obtain ⟨wa, hwa, oc0, hb_, hz0⟩ := letter1 w (.cells #[.int .i64 c, .int .i64 f, .bool true, .int .i64 rd, .int .i64 r1, .int .i64 r2, .int .u64 m] 30 (0, 0))
  rw [hwa]
  clear hwa
  have hzwa := Nat.le_of_eq hz0.symm
  clear hz0
  have oc := Aside0.mk oc0
  clear oc0
  obtain ⟨occ, ocf, ocl⟩ := cells_of oc.out
  have HB_ : Aside0 (Below w.heap.size w wa) := ⟨hb_⟩
  clear HB hb_; have HB := HB_; clear HB_
  go_wp2
  go_quiet (fail)
  go_wp2_with (first | (go_at_call 43; (with_reducible refine (put_runs w.heap.size _ _ _ c f true rd r1 r2 m _ (by repeat (with_reducible first | exact oc.out | apply ext_drew | apply ext_drewN | apply ext_alloc | refine blk_far ?_ (by show _ ≠ _; dsimp only; omega) _)) a0 a1 b0 b1 d0 d1).mono ?_); rintro e_ w_ ⟨rfl, hd_⟩; obtain ⟨n_, rfl⟩ := hd_.out; clear hd_))
  all_goals go_ret
  all_goals exact ⟨rfl, (by repeat (first | (with_reducible first | exact HB.out | exact Below.refl _ _ | apply below_alloc | apply pw_below_drewN | apply below_drew | refine below_set ?_ (by omega)) | exact HB.out))⟩
set_option maxHeartbeats 1600000 in
set_option maxRecDepth 100000 in
theorem word_true_8a (c f rd r1 r2 m : Int) (w : World) (a0 : 0 ≤ rd) (a1 : rd ≤ 31) (b0 : 0 ≤ r1) (b1 : r1 ≤ 31) (d0 : 0 ≤ r2) (d1 : r2 ≤ 31) (c1 : (c == 1) = false) (c2 : (c == 2) = false) (c3 : (c == 3) = false) (c4 : (c == 4) = false) (c5 : (c == 5) = false) (c6 : (c == 6) = false) (c7 : (c == 7) = false) (c8 : (c == 8) = true) (k0 : (f == 13) = true) :
    Calls Try.prog 21 #[.agg #[.int .i64 c, .int .i64 f, .bool true, .int .i64 rd, .int .i64 r1, .int .i64 r2, .int .u64 m]] w fun e w' => e = .returned (.int .u32 (Go.bits .or .u32 (putZ (Go.bits .or .u32 19 8) 5 32 rd r1 r2) (m % 4294967296 * 1048576 % 4294967296))) ∧ Below w.heap.size w w' := by
  have HB := Aside0.mk (Below.refl w.heap.size w)
  go_enter Try.func21, Try.ntmps21
  go_upto_region 1 with fail
  obtain ⟨wa, hwa, oc0, hb_, hz0⟩ := letter1 w (.cells #[.int .i64 c, .int .i64 f, .bool true, .int .i64 rd, .int .i64 r1, .int .i64 r2, .int .u64 m] 30 (0, 0))
  rw [hwa]
  clear hwa
  have hzwa := Nat.le_of_eq hz0.symm
  clear hz0
  have oc := Aside0.mk oc0
  clear oc0
  obtain ⟨occ, ocf, ocl⟩ := cells_of oc.out
  have HB_ : Aside0 (Below w.heap.size w wa) := ⟨hb_⟩
  clear HB hb_; have HB := HB_; clear HB_
  go_wp2
  go_quiet (fail)
  go_wp2_with (first | (go_at_call 43; (with_reducible refine (put_runs w.heap.size _ _ _ c f true rd r1 r2 m _ (by repeat (with_reducible first | exact oc.out | apply ext_drew | apply ext_drewN | apply ext_alloc | refine blk_far ?_ (by show _ ≠ _; dsimp only; omega) _)) a0 a1 b0 b1 d0 d1).mono ?_); rintro e_ w_ ⟨rfl, hd_⟩; obtain ⟨n_, rfl⟩ := hd_.out; clear hd_))
  all_goals go_ret
  all_goals exact ⟨rfl, (by repeat (first | (with_reducible first | exact HB.out | exact Below.refl _ _ | apply below_alloc | apply pw_below_drewN | apply below_drew | refine below_set ?_ (by omega)) | exact HB.out))⟩
set_option maxHeartbeats 1600000 in
set_option maxRecDepth 100000 in
theorem word_true_10 (c f rd r1 r2 m : Int) (w : World) (a0 : 0 ≤ rd) (a1 : rd ≤ 31) (b0 : 0 ≤ r1) (b1 : r1 ≤ 31) (d0 : 0 ≤ r2) (d1 : r2 ≤ 31) (c1 : (c == 1) = false) (c2 : (c == 2) = false) (c3 : (c == 3) = false) (c4 : (c == 4) = false) (c5 : (c == 5) = false) (c6 : (c == 6) = false) (c7 : (c == 7) = false) (c8 : (c == 8) = false) (c9 : (c == 9) = false) (c10 : (c == 10) = true) :
    Calls Try.prog 21 #[.agg #[.int .i64 c, .int .i64 f, .bool true, .int .i64 rd, .int .i64 r1, .int .i64 r2, .int .u64 m]] w fun e w' => e = .returned (.int .u32 (putZ 15 (f % 4294967296) 0 rd r1 r2)) ∧ Below w.heap.size w w' := by
  have HB := Aside0.mk (Below.refl w.heap.size w)
  go_enter Try.func21, Try.ntmps21
  go_upto_region 1 with fail
  obtain ⟨wa, hwa, oc0, hb_, hz0⟩ := letter1 w (.cells #[.int .i64 c, .int .i64 f, .bool true, .int .i64 rd, .int .i64 r1, .int .i64 r2, .int .u64 m] 30 (0, 0))
  rw [hwa]
  clear hwa
  have hzwa := Nat.le_of_eq hz0.symm
  clear hz0
  have oc := Aside0.mk oc0
  clear oc0
  obtain ⟨occ, ocf, ocl⟩ := cells_of oc.out
  have HB_ : Aside0 (Below w.heap.size w wa) := ⟨hb_⟩
  clear HB hb_; have HB := HB_; clear HB_
  go_wp2
  go_quiet (fail)
  go_wp2_with (first | (go_at_call 43; (with_reducible refine (put_runs w.heap.size _ _ _ c f true rd r1 r2 m _ (by repeat (with_reducible first | exact oc.out | apply ext_drew | apply ext_drewN | apply ext_alloc | refine blk_far ?_ (by show _ ≠ _; dsimp only; omega) _)) a0 a1 b0 b1 d0 d1).mono ?_); rintro e_ w_ ⟨rfl, hd_⟩; obtain ⟨n_, rfl⟩ := hd_.out; clear hd_))
  all_goals go_ret
  all_goals exact ⟨rfl, (by repeat (first | (with_reducible first | exact HB.out | exact Below.refl _ _ | apply below_alloc | apply pw_below_drewN | apply below_drew | refine below_set ?_ (by omega)) | exact HB.out))⟩
set_option maxHeartbeats 1600000 in
set_option maxRecDepth 100000 in
theorem word_true_13 (c f rd r1 r2 m : Int) (w : World) (a0 : 0 ≤ rd) (a1 : rd ≤ 31) (b0 : 0 ≤ r1) (b1 : r1 ≤ 31) (d0 : 0 ≤ r2) (d1 : r2 ≤ 31) (c1 : (c == 1) = false) (c2 : (c == 2) = false) (c3 : (c == 3) = false) (c4 : (c == 4) = false) (c5 : (c == 5) = false) (c6 : (c == 6) = false) (c7 : (c == 7) = false) (c8 : (c == 8) = false) (c9 : (c == 9) = false) (c10 : (c == 10) = false) (c11 : (c == 11) = false) (c12 : (c == 12) = false) (c13 : (c == 13) = true) :
    Calls Try.prog 21 #[.agg #[.int .i64 c, .int .i64 f, .bool true, .int .i64 rd, .int .i64 r1, .int .i64 r2, .int .u64 m]] w fun e w' => e = .returned (.int .u32 (putZ 47 2 (f % 4294967296 * 4 % 4294967296) rd r1 r2)) ∧ Below w.heap.size w w' := by
  have HB := Aside0.mk (Below.refl w.heap.size w)
  go_enter Try.func21, Try.ntmps21
  go_upto_region 1 with fail
  obtain ⟨wa, hwa, oc0, hb_, hz0⟩ := letter1 w (.cells #[.int .i64 c, .int .i64 f, .bool true, .int .i64 rd, .int .i64 r1, .int .i64 r2, .int .u64 m] 30 (0, 0))
  rw [hwa]
  clear hwa
  have hzwa := Nat.le_of_eq hz0.symm
  clear hz0
  have oc := Aside0.mk oc0
  clear oc0
  obtain ⟨occ, ocf, ocl⟩ := cells_of oc.out
  have HB_ : Aside0 (Below w.heap.size w wa) := ⟨hb_⟩
  clear HB hb_; have HB := HB_; clear HB_
  go_wp2
  go_quiet (fail)
  go_wp2_with (first | (go_at_call 43; (with_reducible refine (put_runs w.heap.size _ _ _ c f true rd r1 r2 m _ (by repeat (with_reducible first | exact oc.out | apply ext_drew | apply ext_drewN | apply ext_alloc | refine blk_far ?_ (by show _ ≠ _; dsimp only; omega) _)) a0 a1 b0 b1 d0 d1).mono ?_); rintro e_ w_ ⟨rfl, hd_⟩; obtain ⟨n_, rfl⟩ := hd_.out; clear hd_))
  all_goals go_ret
  all_goals exact ⟨rfl, (by repeat (first | (with_reducible first | exact HB.out | exact Below.refl _ _ | apply below_alloc | apply pw_below_drewN | apply below_drew | refine below_set ?_ (by omega)) | exact HB.out))⟩
end Go.Proofs.Ytgcpedenlbcdgaa.Q
end
section
/- decode.word. -/
namespace Go.Proofs.Ytgcpedenlbcdgaa.Q
open Go.RowKit Go.Proofs.YtgcpedenlbcdgaaW.PrintWords Go.Proofs.YtgcpedenlbcdgaaW.PrintLast Go.Proofs.YtgcpedenlbcdgaaW.PrintMore Go.Proofs.Ytgcpedenlbcdgaa.L
attribute [local go_sem] Instr.field part asAgg lt_step max2_int min2_int max_two min_two max_three min_three max_four min_four lt_0_1 lt_0_2 lt_1_2 lt_0_3 lt_1_3 lt_2_3 lt_0_4 lt_1_4 lt_2_4 lt_3_4 lt_0_5 lt_1_5 lt_2_5 lt_3_5 lt_4_5 lt_0_6 lt_1_6 lt_2_6 lt_3_6 lt_4_6 lt_5_6 lt_0_7 lt_1_7 lt_2_7 lt_3_7 lt_4_7 lt_5_7 lt_6_7 lt_0_8 lt_1_8 lt_2_8 lt_3_8 lt_4_8 lt_5_8 lt_6_8 lt_7_8
set_option linter.unusedVariables false
set_option linter.unusedSimpArgs false
attribute [local go_sem ↓] Go.wp_at_zero Go.wp_at_succ
set_option maxHeartbeats 1600000 in
set_option maxRecDepth 100000 in
theorem word_true_3 (c f rd r1 r2 m : Int) (w : World) (a0 : 0 ≤ rd) (a1 : rd ≤ 31) (b0 : 0 ≤ r1) (b1 : r1 ≤ 31) (d0 : 0 ≤ r2) (d1 : r2 ≤ 31) (c1 : (c == 1) = false) (c2 : (c == 2) = false) (c3 : (c == 3) = true) :
    Calls Try.prog 21 #[.agg #[.int .i64 c, .int .i64 f, .bool true, .int .i64 rd, .int .i64 r1, .int .i64 r2, .int .u64 m]] w fun e w' => e = .returned (.int .u32 (Go.bits .or .u32 (Go.bits .or .u32 (Go.bits .or .u32 (Go.bits .or .u32 (putZ 111 0 0 rd r1 r2) ((Go.bits .and .u32 (m % 4294967296 / 1048576) 1) * 2147483648 % 4294967296)) ((Go.bits .and .u32 (m % 4294967296 / 2) 1023) * 2097152 % 4294967296)) ((Go.bits .and .u32 (m % 4294967296 / 2048) 1) * 1048576 % 4294967296)) ((Go.bits .and .u32 (m % 4294967296 / 4096) 255) * 4096 % 4294967296))) ∧ Below w.heap.size w w' := by
  have HB := Aside0.mk (Below.refl w.heap.size w)
  go_enter Try.func21, Try.ntmps21
  go_upto_region 1 with fail
  obtain ⟨wa, hwa, oc0, hb_, hz0⟩ := letter1 w (.cells #[.int .i64 c, .int .i64 f, .bool true, .int .i64 rd, .int .i64 r1, .int .i64 r2, .int .u64 m] 30 (0, 0))
  rw [hwa]
  clear hwa
  have hzwa := Nat.le_of_eq hz0.symm
  clear hz0
  have oc := Aside0.mk oc0
  clear oc0
  obtain ⟨occ, ocf, ocl⟩ := cells_of oc.out
  have HB_ : Aside0 (Below w.heap.size w wa) := ⟨hb_⟩
  clear HB hb_; have HB := HB_; clear HB_
  go_wp2
  go_quiet (fail)
  go_wp2_with (first | (go_at_call 43; (with_reducible refine (put_runs w.heap.size _ _ _ c f true rd r1 r2 m _ (by repeat (with_reducible first | exact oc.out | apply ext_drew | apply ext_drewN | apply ext_alloc | refine blk_far ?_ (by show _ ≠ _; dsimp only; omega) _)) a0 a1 b0 b1 d0 d1).mono ?_); rintro e_ w_ ⟨rfl, hd_⟩; obtain ⟨n_, rfl⟩ := hd_.out; clear hd_))
  all_goals go_ret
  all_goals exact ⟨rfl, (by repeat (first | (with_reducible first | exact HB.out | exact Below.refl _ _ | apply below_alloc | apply pw_below_drewN | apply below_drew | refine below_set ?_ (by omega)) | exact HB.out))⟩
set_option maxHeartbeats 1600000 in
set_option maxRecDepth 100000 in
theorem word_true_6 (c f rd r1 r2 m : Int) (w : World) (a0 : 0 ≤ rd) (a1 : rd ≤ 31) (b0 : 0 ≤ r1) (b1 : r1 ≤ 31) (d0 : 0 ≤ r2) (d1 : r2 ≤ 31) (c1 : (c == 1) = false) (c2 : (c == 2) = false) (c3 : (c == 3) = false) (c4 : (c == 4) = false) (c5 : (c == 5) = false) (c6 : (c == 6) = true) :
    Calls Try.prog 21 #[.agg #[.int .i64 c, .int .i64 f, .bool true, .int .i64 rd, .int .i64 r1, .int .i64 r2, .int .u64 m]] w fun e w' => e = .returned (.int .u32 (Go.bits .or .u32 (putZ 3 (f % 4294967296) 0 rd r1 r2) (m % 4294967296 * 1048576 % 4294967296))) ∧ Below w.heap.size w w' := by
  have HB := Aside0.mk (Below.refl w.heap.size w)
  go_enter Try.func21, Try.ntmps21
  go_upto_region 1 with fail
  obtain ⟨wa, hwa, oc0, hb_, hz0⟩ := letter1 w (.cells #[.int .i64 c, .int .i64 f, .bool true, .int .i64 rd, .int .i64 r1, .int .i64 r2, .int .u64 m] 30 (0, 0))
  rw [hwa]
  clear hwa
  have hzwa := Nat.le_of_eq hz0.symm
  clear hz0
  have oc := Aside0.mk oc0
  clear oc0
  obtain ⟨occ, ocf, ocl⟩ := cells_of oc.out
  have HB_ : Aside0 (Below w.heap.size w wa) := ⟨hb_⟩
  clear HB hb_; have HB := HB_; clear HB_
  go_wp2
  go_quiet (fail)
  go_wp2_with (first | (go_at_call 43; (with_reducible refine (put_runs w.heap.size _ _ _ c f true rd r1 r2 m _ (by repeat (with_reducible first | exact oc.out | apply ext_drew | apply ext_drewN | apply ext_alloc | refine blk_far ?_ (by show _ ≠ _; dsimp only; omega) _)) a0 a1 b0 b1 d0 d1).mono ?_); rintro e_ w_ ⟨rfl, hd_⟩; obtain ⟨n_, rfl⟩ := hd_.out; clear hd_))
  all_goals go_ret
  all_goals exact ⟨rfl, (by repeat (first | (with_reducible first | exact HB.out | exact Below.refl _ _ | apply below_alloc | apply pw_below_drewN | apply below_drew | refine below_set ?_ (by omega)) | exact HB.out))⟩
set_option maxHeartbeats 1600000 in
set_option maxRecDepth 100000 in
theorem word_true_8b (c f rd r1 r2 m : Int) (w : World) (a0 : 0 ≤ rd) (a1 : rd ≤ 31) (b0 : 0 ≤ r1) (b1 : r1 ≤ 31) (d0 : 0 ≤ r2) (d1 : r2 ≤ 31) (c1 : (c == 1) = false) (c2 : (c == 2) = false) (c3 : (c == 3) = false) (c4 : (c == 4) = false) (c5 : (c == 5) = false) (c6 : (c == 6) = false) (c7 : (c == 7) = false) (c8 : (c == 8) = true) (k0 : (f == 13) = false) :
    Calls Try.prog 21 #[.agg #[.int .i64 c, .int .i64 f, .bool true, .int .i64 rd, .int .i64 r1, .int .i64 r2, .int .u64 m]] w fun e w' => e = .returned (.int .u32 (Go.bits .or .u32 (putZ (Go.bits .or .u32 19 8) (f % 4294967296) 0 rd r1 r2) (m % 4294967296 * 1048576 % 4294967296))) ∧ Below w.heap.size w w' := by
  have HB := Aside0.mk (Below.refl w.heap.size w)
  go_enter Try.func21, Try.ntmps21
  go_upto_region 1 with fail
  obtain ⟨wa, hwa, oc0, hb_, hz0⟩ := letter1 w (.cells #[.int .i64 c, .int .i64 f, .bool true, .int .i64 rd, .int .i64 r1, .int .i64 r2, .int .u64 m] 30 (0, 0))
  rw [hwa]
  clear hwa
  have hzwa := Nat.le_of_eq hz0.symm
  clear hz0
  have oc := Aside0.mk oc0
  clear oc0
  obtain ⟨occ, ocf, ocl⟩ := cells_of oc.out
  have HB_ : Aside0 (Below w.heap.size w wa) := ⟨hb_⟩
  clear HB hb_; have HB := HB_; clear HB_
  go_wp2
  go_quiet (fail)
  go_wp2_with (first | (go_at_call 43; (with_reducible refine (put_runs w.heap.size _ _ _ c f true rd r1 r2 m _ (by repeat (with_reducible first | exact oc.out | apply ext_drew | apply ext_drewN | apply ext_alloc | refine blk_far ?_ (by show _ ≠ _; dsimp only; omega) _)) a0 a1 b0 b1 d0 d1).mono ?_); rintro e_ w_ ⟨rfl, hd_⟩; obtain ⟨n_, rfl⟩ := hd_.out; clear hd_))
  all_goals go_ret
  all_goals exact ⟨rfl, (by repeat (first | (with_reducible first | exact HB.out | exact Below.refl _ _ | apply below_alloc | apply pw_below_drewN | apply below_drew | refine below_set ?_ (by omega)) | exact HB.out))⟩
set_option maxHeartbeats 1600000 in
set_option maxRecDepth 100000 in
theorem word_true_11a (c f rd r1 r2 m : Int) (w : World) (a0 : 0 ≤ rd) (a1 : rd ≤ 31) (b0 : 0 ≤ r1) (b1 : r1 ≤ 31) (d0 : 0 ≤ r2) (d1 : r2 ≤ 31) (c1 : (c == 1) = false) (c2 : (c == 2) = false) (c3 : (c == 3) = false) (c4 : (c == 4) = false) (c5 : (c == 5) = false) (c6 : (c == 6) = false) (c7 : (c == 7) = false) (c8 : (c == 8) = false) (c9 : (c == 9) = false) (c10 : (c == 10) = false) (c11 : (c == 11) = true) (k0 : (f == 5) = true) :
    Calls Try.prog 21 #[.agg #[.int .i64 c, .int .i64 f, .bool true, .int .i64 rd, .int .i64 r1, .int .i64 r2, .int .u64 m]] w fun e w' => e = .returned (.int .u32 (putZ 115 0 9 rd r1 r2)) ∧ Below w.heap.size w w' := by
  have HB := Aside0.mk (Below.refl w.heap.size w)
  go_enter Try.func21, Try.ntmps21
  go_upto_region 1 with fail
  obtain ⟨wa, hwa, oc0, hb_, hz0⟩ := letter1 w (.cells #[.int .i64 c, .int .i64 f, .bool true, .int .i64 rd, .int .i64 r1, .int .i64 r2, .int .u64 m] 30 (0, 0))
  rw [hwa]
  clear hwa
  have hzwa := Nat.le_of_eq hz0.symm
  clear hz0
  have oc := Aside0.mk oc0
  clear oc0
  obtain ⟨occ, ocf, ocl⟩ := cells_of oc.out
  have HB_ : Aside0 (Below w.heap.size w wa) := ⟨hb_⟩
  clear HB hb_; have HB := HB_; clear HB_
  go_wp2
  go_quiet (fail)
  go_wp2_with (first | (go_at_call 43; (with_reducible refine (put_runs w.heap.size _ _ _ c f true rd r1 r2 m _ (by repeat (with_reducible first | exact oc.out | apply ext_drew | apply ext_drewN | apply ext_alloc | refine blk_far ?_ (by show _ ≠ _; dsimp only; omega) _)) a0 a1 b0 b1 d0 d1).mono ?_); rintro e_ w_ ⟨rfl, hd_⟩; obtain ⟨n_, rfl⟩ := hd_.out; clear hd_))
  all_goals go_ret
  all_goals exact ⟨rfl, (by repeat (first | (with_reducible first | exact HB.out | exact Below.refl _ _ | apply below_alloc | apply pw_below_drewN | apply below_drew | refine below_set ?_ (by omega)) | exact HB.out))⟩
set_option maxHeartbeats 1600000 in
set_option maxRecDepth 100000 in
theorem word_true_0 (c f rd r1 r2 m : Int) (w : World) (a0 : 0 ≤ rd) (a1 : rd ≤ 31) (b0 : 0 ≤ r1) (b1 : r1 ≤ 31) (d0 : 0 ≤ r2) (d1 : r2 ≤ 31) (c1 : (c == 1) = false) (c2 : (c == 2) = false) (c3 : (c == 3) = false) (c4 : (c == 4) = false) (c5 : (c == 5) = false) (c6 : (c == 6) = false) (c7 : (c == 7) = false) (c8 : (c == 8) = false) (c9 : (c == 9) = false) (c10 : (c == 10) = false) (c11 : (c == 11) = false) (c12 : (c == 12) = false) (c13 : (c == 13) = false) :
    Calls Try.prog 21 #[.agg #[.int .i64 c, .int .i64 f, .bool true, .int .i64 rd, .int .i64 r1, .int .i64 r2, .int .u64 m]] w fun e w' => e = .returned (.int .u32 0) ∧ Below w.heap.size w w' := by
  have HB := Aside0.mk (Below.refl w.heap.size w)
  go_enter Try.func21, Try.ntmps21
  go_upto_region 1 with fail
  obtain ⟨wa, hwa, oc0, hb_, hz0⟩ := letter1 w (.cells #[.int .i64 c, .int .i64 f, .bool true, .int .i64 rd, .int .i64 r1, .int .i64 r2, .int .u64 m] 30 (0, 0))
  rw [hwa]
  clear hwa
  have hzwa := Nat.le_of_eq hz0.symm
  clear hz0
  have oc := Aside0.mk oc0
  clear oc0
  obtain ⟨occ, ocf, ocl⟩ := cells_of oc.out
  have HB_ : Aside0 (Below w.heap.size w wa) := ⟨hb_⟩
  clear HB hb_; have HB := HB_; clear HB_
  go_wp2
  go_quiet (fail)
  go_wp2_with (first | (go_at_call 43; (with_reducible refine (put_runs w.heap.size _ _ _ c f true rd r1 r2 m _ (by repeat (with_reducible first | exact oc.out | apply ext_drew | apply ext_drewN | apply ext_alloc | refine blk_far ?_ (by show _ ≠ _; dsimp only; omega) _)) a0 a1 b0 b1 d0 d1).mono ?_); rintro e_ w_ ⟨rfl, hd_⟩; obtain ⟨n_, rfl⟩ := hd_.out; clear hd_))
  all_goals go_ret
  all_goals exact ⟨rfl, (by repeat (first | (with_reducible first | exact HB.out | exact Below.refl _ _ | apply below_alloc | apply pw_below_drewN | apply below_drew | refine below_set ?_ (by omega)) | exact HB.out))⟩
end Go.Proofs.Ytgcpedenlbcdgaa.Q
end
section
/- decode.word. -/
namespace Go.Proofs.Ytgcpedenlbcdgaa.Q
open Go.RowKit Go.Proofs.YtgcpedenlbcdgaaW.PrintWords Go.Proofs.YtgcpedenlbcdgaaW.PrintLast Go.Proofs.YtgcpedenlbcdgaaW.PrintMore Go.Proofs.Ytgcpedenlbcdgaa.L
attribute [local go_sem] Instr.field part asAgg lt_step max2_int min2_int max_two min_two max_three min_three max_four min_four lt_0_1 lt_0_2 lt_1_2 lt_0_3 lt_1_3 lt_2_3 lt_0_4 lt_1_4 lt_2_4 lt_3_4 lt_0_5 lt_1_5 lt_2_5 lt_3_5 lt_4_5 lt_0_6 lt_1_6 lt_2_6 lt_3_6 lt_4_6 lt_5_6 lt_0_7 lt_1_7 lt_2_7 lt_3_7 lt_4_7 lt_5_7 lt_6_7 lt_0_8 lt_1_8 lt_2_8 lt_3_8 lt_4_8 lt_5_8 lt_6_8 lt_7_8
set_option linter.unusedVariables false
set_option linter.unusedSimpArgs false
attribute [local go_sem ↓] Go.wp_at_zero Go.wp_at_succ
set_option maxHeartbeats 1600000 in
set_option maxRecDepth 100000 in
theorem word_false_1 (c f rd r1 r2 m : Int) (w : World) (a0 : 0 ≤ rd) (a1 : rd ≤ 31) (b0 : 0 ≤ r1) (b1 : r1 ≤ 31) (d0 : 0 ≤ r2) (d1 : r2 ≤ 31) (c1 : (c == 1) = true) :
    Calls Try.prog 21 #[.agg #[.int .i64 c, .int .i64 f, .bool false, .int .i64 rd, .int .i64 r1, .int .i64 r2, .int .u64 m]] w fun e w' => e = .returned (.int .u32 (Go.bits .or .u32 (putZ 55 0 0 rd r1 r2) (Go.bits .andNot .u32 (m % 4294967296) 4095))) ∧ Below w.heap.size w w' := by
  have HB := Aside0.mk (Below.refl w.heap.size w)
  go_enter Try.func21, Try.ntmps21
  go_upto_region 1 with fail
  obtain ⟨wa, hwa, oc0, hb_, hz0⟩ := letter1 w (.cells #[.int .i64 c, .int .i64 f, .bool false, .int .i64 rd, .int .i64 r1, .int .i64 r2, .int .u64 m] 30 (0, 0))
  rw [hwa]
  clear hwa
  have hzwa := Nat.le_of_eq hz0.symm
  clear hz0
  have oc := Aside0.mk oc0
  clear oc0
  obtain ⟨occ, ocf, ocl⟩ := cells_of oc.out
  have HB_ : Aside0 (Below w.heap.size w wa) := ⟨hb_⟩
  clear HB hb_; have HB := HB_; clear HB_
  go_wp2
  go_quiet (fail)
  go_wp2_with (first | (go_at_call 43; (with_reducible refine (put_runs w.heap.size _ _ _ c f false rd r1 r2 m _ (by repeat (with_reducible first | exact oc.out | apply ext_drew | apply ext_drewN | apply ext_alloc | refine blk_far ?_ (by show _ ≠ _; dsimp only; omega) _)) a0 a1 b0 b1 d0 d1).mono ?_); rintro e_ w_ ⟨rfl, hd_⟩; obtain ⟨n_, rfl⟩ := hd_.out; clear hd_))
  all_goals go_ret
  all_goals exact ⟨rfl, (by repeat (first | (with_reducible first | exact HB.out | exact Below.refl _ _ | apply below_alloc | apply pw_below_drewN | apply below_drew | refine below_set ?_ (by omega)) | exact HB.out))⟩
set_option maxHeartbeats 1600000 in
set_option maxRecDepth 100000 in
theorem word_false_4 (c f rd r1 r2 m : Int) (w : World) (a0 : 0 ≤ rd) (a1 : rd ≤ 31) (b0 : 0 ≤ r1) (b1 : r1 ≤ 31) (d0 : 0 ≤ r2) (d1 : r2 ≤ 31) (c1 : (c == 1) = false) (c2 : (c == 2) = false) (c3 : (c == 3) = false) (c4 : (c == 4) = true) :
    Calls Try.prog 21 #[.agg #[.int .i64 c, .int .i64 f, .bool false, .int .i64 rd, .int .i64 r1, .int .i64 r2, .int .u64 m]] w fun e w' => e = .returned (.int .u32 (Go.bits .or .u32 (putZ 103 0 0 rd r1 r2) (m % 4294967296 * 1048576 % 4294967296))) ∧ Below w.heap.size w w' := by
  have HB := Aside0.mk (Below.refl w.heap.size w)
  go_enter Try.func21, Try.ntmps21
  go_upto_region 1 with fail
  obtain ⟨wa, hwa, oc0, hb_, hz0⟩ := letter1 w (.cells #[.int .i64 c, .int .i64 f, .bool false, .int .i64 rd, .int .i64 r1, .int .i64 r2, .int .u64 m] 30 (0, 0))
  rw [hwa]
  clear hwa
  have hzwa := Nat.le_of_eq hz0.symm
  clear hz0
  have oc := Aside0.mk oc0
  clear oc0
  obtain ⟨occ, ocf, ocl⟩ := cells_of oc.out
  have HB_ : Aside0 (Below w.heap.size w wa) := ⟨hb_⟩
  clear HB hb_; have HB := HB_; clear HB_
  go_wp2
  go_quiet (fail)
  go_wp2_with (first | (go_at_call 43; (with_reducible refine (put_runs w.heap.size _ _ _ c f false rd r1 r2 m _ (by repeat (with_reducible first | exact oc.out | apply ext_drew | apply ext_drewN | apply ext_alloc | refine blk_far ?_ (by show _ ≠ _; dsimp only; omega) _)) a0 a1 b0 b1 d0 d1).mono ?_); rintro e_ w_ ⟨rfl, hd_⟩; obtain ⟨n_, rfl⟩ := hd_.out; clear hd_))
  all_goals go_ret
  all_goals exact ⟨rfl, (by repeat (first | (with_reducible first | exact HB.out | exact Below.refl _ _ | apply below_alloc | apply pw_below_drewN | apply below_drew | refine below_set ?_ (by omega)) | exact HB.out))⟩
set_option maxHeartbeats 1600000 in
set_option maxRecDepth 100000 in
theorem word_false_7 (c f rd r1 r2 m : Int) (w : World) (a0 : 0 ≤ rd) (a1 : rd ≤ 31) (b0 : 0 ≤ r1) (b1 : r1 ≤ 31) (d0 : 0 ≤ r2) (d1 : r2 ≤ 31) (c1 : (c == 1) = false) (c2 : (c == 2) = false) (c3 : (c == 3) = false) (c4 : (c == 4) = false) (c5 : (c == 5) = false) (c6 : (c == 6) = false) (c7 : (c == 7) = true) :
    Calls Try.prog 21 #[.agg #[.int .i64 c, .int .i64 f, .bool false, .int .i64 rd, .int .i64 r1, .int .i64 r2, .int .u64 m]] w fun e w' => e = .returned (.int .u32 (Go.bits .or .u32 (putZ 35 (f % 4294967296) (Go.bits .and .u32 (m % 4294967296 / 32) 127) rd r1 r2) ((Go.bits .and .u32 (m % 4294967296) 31) * 128 % 4294967296))) ∧ Below w.heap.size w w' := by
  have HB := Aside0.mk (Below.refl w.heap.size w)
  go_enter Try.func21, Try.ntmps21
  go_upto_region 1 with fail
  obtain ⟨wa, hwa, oc0, hb_, hz0⟩ := letter1 w (.cells #[.int .i64 c, .int .i64 f, .bool false, .int .i64 rd, .int .i64 r1, .int .i64 r2, .int .u64 m] 30 (0, 0))
  rw [hwa]
  clear hwa
  have hzwa := Nat.le_of_eq hz0.symm
  clear hz0
  have oc := Aside0.mk oc0
  clear oc0
  obtain ⟨occ, ocf, ocl⟩ := cells_of oc.out
  have HB_ : Aside0 (Below w.heap.size w wa) := ⟨hb_⟩
  clear HB hb_; have HB := HB_; clear HB_
  go_wp2
  go_quiet (fail)
  go_wp2_with (first | (go_at_call 43; (with_reducible refine (put_runs w.heap.size _ _ _ c f false rd r1 r2 m _ (by repeat (with_reducible first | exact oc.out | apply ext_drew | apply ext_drewN | apply ext_alloc | refine blk_far ?_ (by show _ ≠ _; dsimp only; omega) _)) a0 a1 b0 b1 d0 d1).mono ?_); rintro e_ w_ ⟨rfl, hd_⟩; obtain ⟨n_, rfl⟩ := hd_.out; clear hd_))
  all_goals go_ret
  all_goals exact ⟨rfl, (by repeat (first | (with_reducible first | exact HB.out | exact Below.refl _ _ | apply below_alloc | apply pw_below_drewN | apply below_drew | refine below_set ?_ (by omega)) | exact HB.out))⟩
set_option maxHeartbeats 1600000 in
set_option maxRecDepth 100000 in
theorem word_false_9 (c f rd r1 r2 m : Int) (w : World) (a0 : 0 ≤ rd) (a1 : rd ≤ 31) (b0 : 0 ≤ r1) (b1 : r1 ≤ 31) (d0 : 0 ≤ r2) (d1 : r2 ≤ 31) (c1 : (c == 1) = false) (c2 : (c == 2) = false) (c3 : (c == 3) = false) (c4 : (c == 4) = false) (c5 : (c == 5) = false) (c6 : (c == 6) = false) (c7 : (c == 7) = false) (c8 : (c == 8) = false) (c9 : (c == 9) = true) :
    Calls Try.prog 21 #[.agg #[.int .i64 c, .int .i64 f, .bool false, .int .i64 rd, .int .i64 r1, .int .i64 r2, .int .u64 m]] w fun e w' => e = .returned (.int .u32 (putZ (Go.bits .or .u32 51 0) (Go.bits .and .u32 (f % 4294967296) 7) (Go.bits .or .i64 (Go.bits .and .i64 (f / 16) 1) (wrap64 (Go.bits .and .i64 (f / 8) 1 * 32)) % 4294967296) rd r1 r2)) ∧ Below w.heap.size w w' := by
  have HB := Aside0.mk (Below.refl w.heap.size w)
  go_enter Try.func21, Try.ntmps21
  go_upto_region 1 with fail
  obtain ⟨wa, hwa, oc0, hb_, hz0⟩ := letter1 w (.cells #[.int .i64 c, .int .i64 f, .bool false, .int .i64 rd, .int .i64 r1, .int .i64 r2, .int .u64 m] 30 (0, 0))
  rw [hwa]
  clear hwa
  have hzwa := Nat.le_of_eq hz0.symm
  clear hz0
  have oc := Aside0.mk oc0
  clear oc0
  obtain ⟨occ, ocf, ocl⟩ := cells_of oc.out
  have HB_ : Aside0 (Below w.heap.size w wa) := ⟨hb_⟩
  clear HB hb_; have HB := HB_; clear HB_
  go_wp2
  go_quiet (fail)
  go_wp2_with (first | (go_at_call 43; (with_reducible refine (put_runs w.heap.size _ _ _ c f false rd r1 r2 m _ (by repeat (with_reducible first | exact oc.out | apply ext_drew | apply ext_drewN | apply ext_alloc | refine blk_far ?_ (by show _ ≠ _; dsimp only; omega) _)) a0 a1 b0 b1 d0 d1).mono ?_); rintro e_ w_ ⟨rfl, hd_⟩; obtain ⟨n_, rfl⟩ := hd_.out; clear hd_))
  all_goals go_ret
  all_goals exact ⟨rfl, (by repeat (first | (with_reducible first | exact HB.out | exact Below.refl _ _ | apply below_alloc | apply pw_below_drewN | apply below_drew | refine below_set ?_ (by omega)) | exact HB.out))⟩
set_option maxHeartbeats 1600000 in
set_option maxRecDepth 100000 in
theorem word_false_12 (c f rd r1 r2 m : Int) (w : World) (a0 : 0 ≤ rd) (a1 : rd ≤ 31) (b0 : 0 ≤ r1) (b1 : r1 ≤ 31) (d0 : 0 ≤ r2) (d1 : r2 ≤ 31) (c1 : (c == 1) = false) (c2 : (c == 2) = false) (c3 : (c == 3) = false) (c4 : (c == 4) = false) (c5 : (c == 5) = false) (c6 : (c == 6) = false) (c7 : (c == 7) = false) (c8 : (c == 8) = false) (c9 : (c == 9) = false) (c10 : (c == 10) = false) (c11 : (c == 11) = false) (c12 : (c == 12) = true) :
    Calls Try.prog 21 #[.agg #[.int .i64 c, .int .i64 f, .bool false, .int .i64 rd, .int .i64 r1, .int .i64 r2, .int .u64 m]] w fun e w' => e = .returned (.int .u32 (Go.bits .or .u32 (putZ 115 (f % 4294967296) 0 rd r1 r2) (m % 4294967296 * 1048576 % 4294967296))) ∧ Below w.heap.size w w' := by
  have HB := Aside0.mk (Below.refl w.heap.size w)
  go_enter Try.func21, Try.ntmps21
  go_upto_region 1 with fail
  obtain ⟨wa, hwa, oc0, hb_, hz0⟩ := letter1 w (.cells #[.int .i64 c, .int .i64 f, .bool false, .int .i64 rd, .int .i64 r1, .int .i64 r2, .int .u64 m] 30 (0, 0))
  rw [hwa]
  clear hwa
  have hzwa := Nat.le_of_eq hz0.symm
  clear hz0
  have oc := Aside0.mk oc0
  clear oc0
  obtain ⟨occ, ocf, ocl⟩ := cells_of oc.out
  have HB_ : Aside0 (Below w.heap.size w wa) := ⟨hb_⟩
  clear HB hb_; have HB := HB_; clear HB_
  go_wp2
  go_quiet (fail)
  go_wp2_with (first | (go_at_call 43; (with_reducible refine (put_runs w.heap.size _ _ _ c f false rd r1 r2 m _ (by repeat (with_reducible first | exact oc.out | apply ext_drew | apply ext_drewN | apply ext_alloc | refine blk_far ?_ (by show _ ≠ _; dsimp only; omega) _)) a0 a1 b0 b1 d0 d1).mono ?_); rintro e_ w_ ⟨rfl, hd_⟩; obtain ⟨n_, rfl⟩ := hd_.out; clear hd_))
  all_goals go_ret
  all_goals exact ⟨rfl, (by repeat (first | (with_reducible first | exact HB.out | exact Below.refl _ _ | apply below_alloc | apply pw_below_drewN | apply below_drew | refine below_set ?_ (by omega)) | exact HB.out))⟩
end Go.Proofs.Ytgcpedenlbcdgaa.Q
end
section
/- decode.word. -/
namespace Go.Proofs.Ytgcpedenlbcdgaa.Q
open Go.RowKit Go.Proofs.YtgcpedenlbcdgaaW.PrintWords Go.Proofs.YtgcpedenlbcdgaaW.PrintLast Go.Proofs.YtgcpedenlbcdgaaW.PrintMore Go.Proofs.Ytgcpedenlbcdgaa.L
attribute [local go_sem] Instr.field part asAgg lt_step max2_int min2_int max_two min_two max_three min_three max_four min_four lt_0_1 lt_0_2 lt_1_2 lt_0_3 lt_1_3 lt_2_3 lt_0_4 lt_1_4 lt_2_4 lt_3_4 lt_0_5 lt_1_5 lt_2_5 lt_3_5 lt_4_5 lt_0_6 lt_1_6 lt_2_6 lt_3_6 lt_4_6 lt_5_6 lt_0_7 lt_1_7 lt_2_7 lt_3_7 lt_4_7 lt_5_7 lt_6_7 lt_0_8 lt_1_8 lt_2_8 lt_3_8 lt_4_8 lt_5_8 lt_6_8 lt_7_8
set_option linter.unusedVariables false
set_option linter.unusedSimpArgs false
attribute [local go_sem ↓] Go.wp_at_zero Go.wp_at_succ
set_option maxHeartbeats 1600000 in
set_option maxRecDepth 100000 in
theorem word_false_2 (c f rd r1 r2 m : Int) (w : World) (a0 : 0 ≤ rd) (a1 : rd ≤ 31) (b0 : 0 ≤ r1) (b1 : r1 ≤ 31) (d0 : 0 ≤ r2) (d1 : r2 ≤ 31) (c1 : (c == 1) = false) (c2 : (c == 2) = true) :
    Calls Try.prog 21 #[.agg #[.int .i64 c, .int .i64 f, .bool false, .int .i64 rd, .int .i64 r1, .int .i64 r2, .int .u64 m]] w fun e w' => e = .returned (.int .u32 (Go.bits .or .u32 (putZ 23 0 0 rd r1 r2) (Go.bits .andNot .u32 (m % 4294967296) 4095))) ∧ Below w.heap.size w w' := by
  have HB := Aside0.mk (Below.refl w.heap.size w)
  go_enter Try.func21, Try.ntmps21
  go_upto_region 1 with fail
  obtain ⟨wa, hwa, oc0, hb_, hz0⟩ := letter1 w (.cells #[.int .i64 c, .int .i64 f, .bool false, .int .i64 rd, .int .i64 r1, .int .i64 r2, .int .u64 m] 30 (0, 0))
  rw [hwa]
  clear hwa
  have hzwa := Nat.le_of_eq hz0.symm
  clear hz0
  have oc := Aside0.mk oc0
  clear oc0
  obtain ⟨occ, ocf, ocl⟩ := cells_of oc.out
  have HB_ : Aside0 (Below w.heap.size w wa) := ⟨hb_⟩
  clear HB hb_; have HB := HB_; clear HB_
  go_wp2
  go_quiet (fail)
  go_wp2_with (first | (go_at_call 43; (with_reducible refine (put_runs w.heap.size _ _ _ c f false rd r1 r2 m _ (by repeat (with_reducible first | exact oc.out | apply ext_drew | apply ext_drewN | apply ext_alloc | refine blk_far ?_ (by show _ ≠ _; dsimp only; omega) _)) a0 a1 b0 b1 d0 d1).mono ?_); rintro e_ w_ ⟨rfl, hd_⟩; obtain ⟨n_, rfl⟩ := hd_.out; clear hd_))
  all_goals go_ret
  all_goals exact ⟨rfl, (by repeat (first | (with_reducible first | exact HB.out | exact Below.refl _ _ | apply below_alloc | apply pw_below_drewN | apply below_drew | refine below_set ?_ (by omega)) | exact HB.out))⟩
set_option maxHeartbeats 1600000 in
set_option maxRecDepth 100000 in
theorem word_false_5 (c f rd r1 r2 m : Int) (w : World) (a0 : 0 ≤ rd) (a1 : rd ≤ 31) (b0 : 0 ≤ r1) (b1 : r1 ≤ 31) (d0 : 0 ≤ r2) (d1 : r2 ≤ 31) (c1 : (c == 1) = false) (c2 : (c == 2) = false) (c3 : (c == 3) = false) (c4 : (c == 4) = false) (c5 : (c == 5) = true) :
    Calls Try.prog 21 #[.agg #[.int .i64 c, .int .i64 f, .bool false, .int .i64 rd, .int .i64 r1, .int .i64 r2, .int .u64 m]] w fun e w' => e = .returned (.int .u32 (Go.bits .or .u32 (Go.bits .or .u32 (Go.bits .or .u32 (Go.bits .or .u32 (putZ 99 (f % 4294967296) 0 rd r1 r2) ((Go.bits .and .u32 (m % 4294967296 / 4096) 1) * 2147483648 % 4294967296)) ((Go.bits .and .u32 (m % 4294967296 / 32) 63) * 33554432 % 4294967296)) ((Go.bits .and .u32 (m % 4294967296 / 2) 15) * 256 % 4294967296)) ((Go.bits .and .u32 (m % 4294967296 / 2048) 1) * 128 % 4294967296))) ∧ Below w.heap.size w w' := by
  have HB := Aside0.mk (Below.refl w.heap.size w)
  go_enter Try.func21, Try.ntmps21
  go_upto_region 1 with fail
  obtain ⟨wa, hwa, oc0, hb_, hz0⟩ := letter1 w (.cells #[.int .i64 c, .int .i64 f, .bool false, .int .i64 rd, .int .i64 r1, .int .i64 r2, .int .u64 m] 30 (0, 0))
  rw [hwa]
  clear hwa
  have hzwa := Nat.le_of_eq hz0.symm
  clear hz0
  have oc := Aside0.mk oc0
  clear oc0
  obtain ⟨occ, ocf, ocl⟩ := cells_of oc.out
  have HB_ : Aside0 (Below w.heap.size w wa) := ⟨hb_⟩
  clear HB hb_; have HB := HB_; clear HB_
  go_wp2
  go_quiet (fail)
  go_wp2_with (first | (go_at_call 43; (with_reducible refine (put_runs w.heap.size _ _ _ c f false rd r1 r2 m _ (by repeat (with_reducible first | exact oc.out | apply ext_drew | apply ext_drewN | apply ext_alloc | refine blk_far ?_ (by show _ ≠ _; dsimp only; omega) _)) a0 a1 b0 b1 d0 d1).mono ?_); rintro e_ w_ ⟨rfl, hd_⟩; obtain ⟨n_, rfl⟩ := hd_.out; clear hd_))
  all_goals go_ret
  all_goals exact ⟨rfl, (by repeat (first | (with_reducible first | exact HB.out | exact Below.refl _ _ | apply below_alloc | apply pw_below_drewN | apply below_drew | refine below_set ?_ (by omega)) | exact HB.out))⟩
set_option maxHeartbeats 1600000 in
set_option maxRecDepth 100000 in
theorem word_false_8a (c f rd r1 r2 m : Int) (w : World) (a0 : 0 ≤ rd) (a1 : rd ≤ 31) (b0 : 0 ≤ r1) (b1 : r1 ≤ 31) (d0 : 0 ≤ r2) (d1 : r2 ≤ 31) (c1 : (c == 1) = false) (c2 : (c == 2) = false) (c3 : (c == 3) = false) (c4 : (c == 4) = false) (c5 : (c == 5) = false) (c6 : (c == 6) = false) (c7 : (c == 7) = false) (c8 : (c == 8) = true) (k0 : (f == 13) = true) :
    Calls Try.prog 21 #[.agg #[.int .i64 c, .int .i64 f, .bool false, .int .i64 rd, .int .i64 r1, .int .i64 r2, .int .u64 m]] w fun e w' => e = .returned (.int .u32 (Go.bits .or .u32 (putZ (Go.bits .or .u32 19 0) 5 32 rd r1 r2) (m % 4294967296 * 1048576 % 4294967296))) ∧ Below w.heap.size w w' := by
  have HB := Aside0.mk (Below.refl w.heap.size w)
  go_enter Try.func21, Try.ntmps21
  go_upto_region 1 with fail
  obtain ⟨wa, hwa, oc0, hb_, hz0⟩ := letter1 w (.cells #[.int .i64 c, .int .i64 f, .bool false, .int .i64 rd, .int .i64 r1, .int .i64 r2, .int .u64 m] 30 (0, 0))
  rw [hwa]
  clear hwa
  have hzwa := Nat.le_of_eq hz0.symm
  clear hz0
  have oc := Aside0.mk oc0
  clear oc0
  obtain ⟨occ, ocf, ocl⟩ := cells_of oc.out
  have HB_ : Aside0 (Below w.heap.size w wa) := ⟨hb_⟩
  clear HB hb_; have HB := HB_; clear HB_
  go_wp2
  go_quiet (fail)
  go_wp2_with (first | (go_at_call 43; (with_reducible refine (put_runs w.heap.size _ _ _ c f false rd r1 r2 m _ (by repeat (with_reducible first | exact oc.out | apply ext_drew | apply ext_drewN | apply ext_alloc | refine blk_far ?_ (by show _ ≠ _; dsimp only; omega) _)) a0 a1 b0 b1 d0 d1).mono ?_); rintro e_ w_ ⟨rfl, hd_⟩; obtain ⟨n_, rfl⟩ := hd_.out; clear hd_))
  all_goals go_ret
  all_goals exact ⟨rfl, (by repeat (first | (with_reducible first | exact HB.out | exact Below.refl _ _ | apply below_alloc | apply pw_below_drewN | apply below_drew | refine below_set ?_ (by omega)) | exact HB.out))⟩
set_option maxHeartbeats 1600000 in
set_option maxRecDepth 100000 in
theorem word_false_10 (c f rd r1 r2 m : Int) (w : World) (a0 : 0 ≤ rd) (a1 : rd ≤ 31) (b0 : 0 ≤ r1) (b1 : r1 ≤ 31) (d0 : 0 ≤ r2) (d1 : r2 ≤ 31) (c1 : (c == 1) = false) (c2 : (c == 2) = false) (c3 : (c == 3) = false) (c4 : (c == 4) = false) (c5 : (c == 5) = false) (c6 : (c == 6) = false) (c7 : (c == 7) = false) (c8 : (c == 8) = false) (c9 : (c == 9) = false) (c10 : (c == 10) = true) :
    Calls Try.prog 21 #[.agg #[.int .i64 c, .int .i64 f, .bool false, .int .i64 rd, .int .i64 r1, .int .i64 r2, .int .u64 m]] w fun e w' => e = .returned (.int .u32 (putZ 15 (f % 4294967296) 0 rd r1 r2)) ∧ Below w.heap.size w w' := by
  have HB := Aside0.mk (Below.refl w.heap.size w)
  go_enter Try.func21, Try.ntmps21
  go_upto_region 1 with fail
  obtain ⟨wa, hwa, oc0, hb_, hz0⟩ := letter1 w (.cells #[.int .i64 c, .int .i64 f, .bool false, .int .i64 rd, .int .i64 r1, .int .i64 r2, .int .u64 m] 30 (0, 0))
  rw [hwa]
  clear hwa
  have hzwa := Nat.le_of_eq hz0.symm
  clear hz0
  have oc := Aside0.mk oc0
  clear oc0
  obtain ⟨occ, ocf, ocl⟩ := cells_of oc.out
  have HB_ : Aside0 (Below w.heap.size w wa) := ⟨hb_⟩
  clear HB hb_; have HB := HB_; clear HB_
  go_wp2
  go_quiet (fail)
  go_wp2_with (first | (go_at_call 43; (with_reducible refine (put_runs w.heap.size _ _ _ c f false rd r1 r2 m _ (by repeat (with_reducible first | exact oc.out | apply ext_drew | apply ext_drewN | apply ext_alloc | refine blk_far ?_ (by show _ ≠ _; dsimp only; omega) _)) a0 a1 b0 b1 d0 d1).mono ?_); rintro e_ w_ ⟨rfl, hd_⟩; obtain ⟨n_, rfl⟩ := hd_.out; clear hd_))
  all_goals go_ret
  all_goals exact ⟨rfl, (by repeat (first | (with_reducible first | exact HB.out | exact Below.refl _ _ | apply below_alloc | apply pw_below_drewN | apply below_drew | refine below_set ?_ (by omega)) | exact HB.out))⟩
set_option maxHeartbeats 1600000 in
set_option maxRecDepth 100000 in
theorem word_false_13 (c f rd r1 r2 m : Int) (w : World) (a0 : 0 ≤ rd) (a1 : rd ≤ 31) (b0 : 0 ≤ r1) (b1 : r1 ≤ 31) (d0 : 0 ≤ r2) (d1 : r2 ≤ 31) (c1 : (c == 1) = false) (c2 : (c == 2) = false) (c3 : (c == 3) = false) (c4 : (c == 4) = false) (c5 : (c == 5) = false) (c6 : (c == 6) = false) (c7 : (c == 7) = false) (c8 : (c == 8) = false) (c9 : (c == 9) = false) (c10 : (c == 10) = false) (c11 : (c == 11) = false) (c12 : (c == 12) = false) (c13 : (c == 13) = true) :
    Calls Try.prog 21 #[.agg #[.int .i64 c, .int .i64 f, .bool false, .int .i64 rd, .int .i64 r1, .int .i64 r2, .int .u64 m]] w fun e w' => e = .returned (.int .u32 (putZ 47 3 (f % 4294967296 * 4 % 4294967296) rd r1 r2)) ∧ Below w.heap.size w w' := by
  have HB := Aside0.mk (Below.refl w.heap.size w)
  go_enter Try.func21, Try.ntmps21
  go_upto_region 1 with fail
  obtain ⟨wa, hwa, oc0, hb_, hz0⟩ := letter1 w (.cells #[.int .i64 c, .int .i64 f, .bool false, .int .i64 rd, .int .i64 r1, .int .i64 r2, .int .u64 m] 30 (0, 0))
  rw [hwa]
  clear hwa
  have hzwa := Nat.le_of_eq hz0.symm
  clear hz0
  have oc := Aside0.mk oc0
  clear oc0
  obtain ⟨occ, ocf, ocl⟩ := cells_of oc.out
  have HB_ : Aside0 (Below w.heap.size w wa) := ⟨hb_⟩
  clear HB hb_; have HB := HB_; clear HB_
  go_wp2
  go_quiet (fail)
  go_wp2_with (first | (go_at_call 43; (with_reducible refine (put_runs w.heap.size _ _ _ c f false rd r1 r2 m _ (by repeat (with_reducible first | exact oc.out | apply ext_drew | apply ext_drewN | apply ext_alloc | refine blk_far ?_ (by show _ ≠ _; dsimp only; omega) _)) a0 a1 b0 b1 d0 d1).mono ?_); rintro e_ w_ ⟨rfl, hd_⟩; obtain ⟨n_, rfl⟩ := hd_.out; clear hd_))
  all_goals go_ret
  all_goals exact ⟨rfl, (by repeat (first | (with_reducible first | exact HB.out | exact Below.refl _ _ | apply below_alloc | apply pw_below_drewN | apply below_drew | refine below_set ?_ (by omega)) | exact HB.out))⟩
end Go.Proofs.Ytgcpedenlbcdgaa.Q
end
section
/- decode.word. -/
namespace Go.Proofs.Ytgcpedenlbcdgaa.Q
open Go.RowKit Go.Proofs.YtgcpedenlbcdgaaW.PrintWords Go.Proofs.YtgcpedenlbcdgaaW.PrintLast Go.Proofs.YtgcpedenlbcdgaaW.PrintMore Go.Proofs.Ytgcpedenlbcdgaa.L
attribute [local go_sem] Instr.field part asAgg lt_step max2_int min2_int max_two min_two max_three min_three max_four min_four lt_0_1 lt_0_2 lt_1_2 lt_0_3 lt_1_3 lt_2_3 lt_0_4 lt_1_4 lt_2_4 lt_3_4 lt_0_5 lt_1_5 lt_2_5 lt_3_5 lt_4_5 lt_0_6 lt_1_6 lt_2_6 lt_3_6 lt_4_6 lt_5_6 lt_0_7 lt_1_7 lt_2_7 lt_3_7 lt_4_7 lt_5_7 lt_6_7 lt_0_8 lt_1_8 lt_2_8 lt_3_8 lt_4_8 lt_5_8 lt_6_8 lt_7_8
set_option linter.unusedVariables false
set_option linter.unusedSimpArgs false
attribute [local go_sem ↓] Go.wp_at_zero Go.wp_at_succ
set_option maxHeartbeats 1600000 in
set_option maxRecDepth 100000 in
theorem word_false_3 (c f rd r1 r2 m : Int) (w : World) (a0 : 0 ≤ rd) (a1 : rd ≤ 31) (b0 : 0 ≤ r1) (b1 : r1 ≤ 31) (d0 : 0 ≤ r2) (d1 : r2 ≤ 31) (c1 : (c == 1) = false) (c2 : (c == 2) = false) (c3 : (c == 3) = true) :
    Calls Try.prog 21 #[.agg #[.int .i64 c, .int .i64 f, .bool false, .int .i64 rd, .int .i64 r1, .int .i64 r2, .int .u64 m]] w fun e w' => e = .returned (.int .u32 (Go.bits .or .u32 (Go.bits .or .u32 (Go.bits .or .u32 (Go.bits .or .u32 (putZ 111 0 0 rd r1 r2) ((Go.bits .and .u32 (m % 4294967296 / 1048576) 1) * 2147483648 % 4294967296)) ((Go.bits .and .u32 (m % 4294967296 / 2) 1023) * 2097152 % 4294967296)) ((Go.bits .and .u32 (m % 4294967296 / 2048) 1) * 1048576 % 4294967296)) ((Go.bits .and .u32 (m % 4294967296 / 4096) 255) * 4096 % 4294967296))) ∧ Below w.heap.size w w' := by
  have HB := Aside0.mk (Below.refl w.heap.size w)
  go_enter Try.func21, Try.ntmps21
  go_upto_region 1 with fail
  obtain ⟨wa, hwa, oc0, hb_, hz0⟩ := letter1 w (.cells #[.int .i64 c, .int .i64 f, .bool false, .int .i64 rd, .int .i64 r1, .int .i64 r2, .int .u64 m] 30 (0, 0))
  rw [hwa]
  clear hwa
  have hzwa := Nat.le_of_eq hz0.symm
  clear hz0
  have oc := Aside0.mk oc0
  clear oc0
  obtain ⟨occ, ocf, ocl⟩ := cells_of oc.out
  have HB_ : Aside0 (Below w.heap.size w wa) := ⟨hb_⟩
  clear HB hb_; have HB := HB_; clear HB_
  go_wp2
  go_quiet (fail)
  go_wp2_with (first | (go_at_call 43; (with_reducible refine (put_runs w.heap.size _ _ _ c f false rd r1 r2 m _ (by repeat (with_reducible first | exact oc.out | apply ext_drew | apply ext_drewN | apply ext_alloc | refine blk_far ?_ (by show _ ≠ _; dsimp only; omega) _)) a0 a1 b0 b1 d0 d1).mono ?_); rintro e_ w_ ⟨rfl, hd_⟩; obtain ⟨n_, rfl⟩ := hd_.out; clear hd_))
  all_goals go_ret
  all_goals exact ⟨rfl, (by repeat (first | (with_reducible first | exact HB.out | exact Below.refl _ _ | apply below_alloc | apply pw_below_drewN | apply below_drew | refine below_set ?_ (by omega)) | exact HB.out))⟩
set_option maxHeartbeats 1600000 in
set_option maxRecDepth 100000 in
theorem word_false_6 (c f rd r1 r2 m : Int) (w : World) (a0 : 0 ≤ rd) (a1 : rd ≤ 31) (b0 : 0 ≤ r1) (b1 : r1 ≤ 31) (d0 : 0 ≤ r2) (d1 : r2 ≤ 31) (c1 : (c == 1) = false) (c2 : (c == 2) = false) (c3 : (c == 3) = false) (c4 : (c == 4) = false) (c5 : (c == 5) = false) (c6 : (c == 6) = true) :
    Calls Try.prog 21 #[.agg #[.int .i64 c, .int .i64 f, .bool false, .int .i64 rd, .int .i64 r1, .int .i64 r2, .int .u64 m]] w fun e w' => e = .returned (.int .u32 (Go.bits .or .u32 (putZ 3 (f % 4294967296) 0 rd r1 r2) (m % 4294967296 * 1048576 % 4294967296))) ∧ Below w.heap.size w w' := by
  have HB := Aside0.mk (Below.refl w.heap.size w)
  go_enter Try.func21, Try.ntmps21
  go_upto_region 1 with fail
  obtain ⟨wa, hwa, oc0, hb_, hz0⟩ := letter1 w (.cells #[.int .i64 c, .int .i64 f, .bool false, .int .i64 rd, .int .i64 r1, .int .i64 r2, .int .u64 m] 30 (0, 0))
  rw [hwa]
  clear hwa
  have hzwa := Nat.le_of_eq hz0.symm
  clear hz0
  have oc := Aside0.mk oc0
  clear oc0
  obtain ⟨occ, ocf, ocl⟩ := cells_of oc.out
  have HB_ : Aside0 (Below w.heap.size w wa) := ⟨hb_⟩
  clear HB hb_; have HB := HB_; clear HB_
  go_wp2
  go_quiet (fail)
  go_wp2_with (first | (go_at_call 43; (with_reducible refine (put_runs w.heap.size _ _ _ c f false rd r1 r2 m _ (by repeat (with_reducible first | exact oc.out | apply ext_drew | apply ext_drewN | apply ext_alloc | refine blk_far ?_ (by show _ ≠ _; dsimp only; omega) _)) a0 a1 b0 b1 d0 d1).mono ?_); rintro e_ w_ ⟨rfl, hd_⟩; obtain ⟨n_, rfl⟩ := hd_.out; clear hd_))
  all_goals go_ret
  all_goals exact ⟨rfl, (by repeat (first | (with_reducible first | exact HB.out | exact Below.refl _ _ | apply below_alloc | apply pw_below_drewN | apply below_drew | refine below_set ?_ (by omega)) | exact HB.out))⟩
set_option maxHeartbeats 1600000 in
set_option maxRecDepth 100000 in
theorem word_false_8b (c f rd r1 r2 m : Int) (w : World) (a0 : 0 ≤ rd) (a1 : rd ≤ 31) (b0 : 0 ≤ r1) (b1 : r1 ≤ 31) (d0 : 0 ≤ r2) (d1 : r2 ≤ 31) (c1 : (c == 1) = false) (c2 : (c == 2) = false) (c3 : (c == 3) = false) (c4 : (c == 4) = false) (c5 : (c == 5) = false) (c6 : (c == 6) = false) (c7 : (c == 7) = false) (c8 : (c == 8) = true) (k0 : (f == 13) = false) :
    Calls Try.prog 21 #[.agg #[.int .i64 c, .int .i64 f, .bool false, .int .i64 rd, .int .i64 r1, .int .i64 r2, .int .u64 m]] w fun e w' => e = .returned (.int .u32 (Go.bits .or .u32 (putZ (Go.bits .or .u32 19 0) (f % 4294967296) 0 rd r1 r2) (m % 4294967296 * 1048576 % 4294967296))) ∧ Below w.heap.size w w' := by
  have HB := Aside0.mk (Below.refl w.heap.size w)
  go_enter Try.func21, Try.ntmps21
  go_upto_region 1 with fail
  obtain ⟨wa, hwa, oc0, hb_, hz0⟩ := letter1 w (.cells #[.int .i64 c, .int .i64 f, .bool false, .int .i64 rd, .int .i64 r1, .int .i64 r2, .int .u64 m] 30 (0, 0))
  rw [hwa]
  clear hwa
  have hzwa := Nat.le_of_eq hz0.symm
  clear hz0
  have oc := Aside0.mk oc0
  clear oc0
  obtain ⟨occ, ocf, ocl⟩ := cells_of oc.out
  have HB_ : Aside0 (Below w.heap.size w wa) := ⟨hb_⟩
  clear HB hb_; have HB := HB_; clear HB_
  go_wp2
  go_quiet (fail)
  go_wp2_with (first | (go_at_call 43; (with_reducible refine (put_runs w.heap.size _ _ _ c f false rd r1 r2 m _ (by repeat (with_reducible first | exact oc.out | apply ext_drew | apply ext_drewN | apply ext_alloc | refine blk_far ?_ (by show _ ≠ _; dsimp only; omega) _)) a0 a1 b0 b1 d0 d1).mono ?_); rintro e_ w_ ⟨rfl, hd_⟩; obtain ⟨n_, rfl⟩ := hd_.out; clear hd_))
  all_goals go_ret
  all_goals exact ⟨rfl, (by repeat (first | (with_reducible first | exact HB.out | exact Below.refl _ _ | apply below_alloc | apply pw_below_drewN | apply below_drew | refine below_set ?_ (by omega)) | exact HB.out))⟩
set_option maxHeartbeats 1600000 in
set_option maxRecDepth 100000 in
theorem word_false_11a (c f rd r1 r2 m : Int) (w : World) (a0 : 0 ≤ rd) (a1 : rd ≤ 31) (b0 : 0 ≤ r1) (b1 : r1 ≤ 31) (d0 : 0 ≤ r2) (d1 : r2 ≤ 31) (c1 : (c == 1) = false) (c2 : (c == 2) = false) (c3 : (c == 3) = false) (c4 : (c == 4) = false) (c5 : (c == 5) = false) (c6 : (c == 6) = false) (c7 : (c == 7) = false) (c8 : (c == 8) = false) (c9 : (c == 9) = false) (c10 : (c == 10) = false) (c11 : (c == 11) = true) (k0 : (f == 5) = true) :
    Calls Try.prog 21 #[.agg #[.int .i64 c, .int .i64 f, .bool false, .int .i64 rd, .int .i64 r1, .int .i64 r2, .int .u64 m]] w fun e w' => e = .returned (.int .u32 (putZ 115 0 9 rd r1 r2)) ∧ Below w.heap.size w w' := by
  have HB := Aside0.mk (Below.refl w.heap.size w)
  go_enter Try.func21, Try.ntmps21
  go_upto_region 1 with fail
  obtain ⟨wa, hwa, oc0, hb_, hz0⟩ := letter1 w (.cells #[.int .i64 c, .int .i64 f, .bool false, .int .i64 rd, .int .i64 r1, .int .i64 r2, .int .u64 m] 30 (0, 0))
  rw [hwa]
  clear hwa
  have hzwa := Nat.le_of_eq hz0.symm
  clear hz0
  have oc := Aside0.mk oc0
  clear oc0
  obtain ⟨occ, ocf, ocl⟩ := cells_of oc.out
  have HB_ : Aside0 (Below w.heap.size w wa) := ⟨hb_⟩
  clear HB hb_; have HB := HB_; clear HB_
  go_wp2
  go_quiet (fail)
  go_wp2_with (first | (go_at_call 43; (with_reducible refine (put_runs w.heap.size _ _ _ c f false rd r1 r2 m _ (by repeat (with_reducible first | exact oc.out | apply ext_drew | apply ext_drewN | apply ext_alloc | refine blk_far ?_ (by show _ ≠ _; dsimp only; omega) _)) a0 a1 b0 b1 d0 d1).mono ?_); rintro e_ w_ ⟨rfl, hd_⟩; obtain ⟨n_, rfl⟩ := hd_.out; clear hd_))
  all_goals go_ret
  all_goals exact ⟨rfl, (by repeat (first | (with_reducible first | exact HB.out | exact Below.refl _ _ | apply below_alloc | apply pw_below_drewN | apply below_drew | refine below_set ?_ (by omega)) | exact HB.out))⟩
set_option maxHeartbeats 1600000 in
set_option maxRecDepth 100000 in
theorem word_false_0 (c f rd r1 r2 m : Int) (w : World) (a0 : 0 ≤ rd) (a1 : rd ≤ 31) (b0 : 0 ≤ r1) (b1 : r1 ≤ 31) (d0 : 0 ≤ r2) (d1 : r2 ≤ 31) (c1 : (c == 1) = false) (c2 : (c == 2) = false) (c3 : (c == 3) = false) (c4 : (c == 4) = false) (c5 : (c == 5) = false) (c6 : (c == 6) = false) (c7 : (c == 7) = false) (c8 : (c == 8) = false) (c9 : (c == 9) = false) (c10 : (c == 10) = false) (c11 : (c == 11) = false) (c12 : (c == 12) = false) (c13 : (c == 13) = false) :
    Calls Try.prog 21 #[.agg #[.int .i64 c, .int .i64 f, .bool false, .int .i64 rd, .int .i64 r1, .int .i64 r2, .int .u64 m]] w fun e w' => e = .returned (.int .u32 0) ∧ Below w.heap.size w w' := by
  have HB := Aside0.mk (Below.refl w.heap.size w)
  go_enter Try.func21, Try.ntmps21
  go_upto_region 1 with fail
  obtain ⟨wa, hwa, oc0, hb_, hz0⟩ := letter1 w (.cells #[.int .i64 c, .int .i64 f, .bool false, .int .i64 rd, .int .i64 r1, .int .i64 r2, .int .u64 m] 30 (0, 0))
  rw [hwa]
  clear hwa
  have hzwa := Nat.le_of_eq hz0.symm
  clear hz0
  have oc := Aside0.mk oc0
  clear oc0
  obtain ⟨occ, ocf, ocl⟩ := cells_of oc.out
  have HB_ : Aside0 (Below w.heap.size w wa) := ⟨hb_⟩
  clear HB hb_; have HB := HB_; clear HB_
  go_wp2
  go_quiet (fail)
  go_wp2_with (first | (go_at_call 43; (with_reducible refine (put_runs w.heap.size _ _ _ c f false rd r1 r2 m _ (by repeat (with_reducible first | exact oc.out | apply ext_drew | apply ext_drewN | apply ext_alloc | refine blk_far ?_ (by show _ ≠ _; dsimp only; omega) _)) a0 a1 b0 b1 d0 d1).mono ?_); rintro e_ w_ ⟨rfl, hd_⟩; obtain ⟨n_, rfl⟩ := hd_.out; clear hd_))
  all_goals go_ret
  all_goals exact ⟨rfl, (by repeat (first | (with_reducible first | exact HB.out | exact Below.refl _ _ | apply below_alloc | apply pw_below_drewN | apply below_drew | refine below_set ?_ (by omega)) | exact HB.out))⟩
end Go.Proofs.Ytgcpedenlbcdgaa.Q
end
