import Derived.Test.YtgcpedenlbcdgaaHZ2
import Derived.Test.YtgcpedenlbcdgaaHZ3
import Derived.Test.YtgcpedenlbcdgaaHZ1
import Derived.Deep.DrawnRows
import Derived.Deep.QuietTactic
import Derived.BigQuiet
/- decode.take. -/
namespace Go.Proofs.Ytgcpedenlbcdgaa.Q
open Go.RowKit Go.Proofs.YtgcpedenlbcdgaaW.PrintWords Go.Proofs.YtgcpedenlbcdgaaW.PrintLast Go.Proofs.YtgcpedenlbcdgaaW.PrintMore Go.Proofs.Ytgcpedenlbcdgaa.L
attribute [local go_sem] Instr.field part asAgg lt_step max2_int min2_int max_two min_two max_three min_three max_four min_four lt_0_1 lt_0_2 lt_1_2 lt_0_3 lt_1_3 lt_2_3 lt_0_4 lt_1_4 lt_2_4 lt_3_4 lt_0_5 lt_1_5 lt_2_5 lt_3_5 lt_4_5 lt_0_6 lt_1_6 lt_2_6 lt_3_6 lt_4_6 lt_5_6 lt_0_7 lt_1_7 lt_2_7 lt_3_7 lt_4_7 lt_5_7 lt_6_7 lt_0_8 lt_1_8 lt_2_8 lt_3_8 lt_4_8 lt_5_8 lt_6_8 lt_7_8
set_option linter.unusedVariables false
set_option linter.unusedSimpArgs false
attribute [local go_sem ↓] Go.wp_at_zero Go.wp_at_succ
set_option maxHeartbeats 1600000 in
set_option maxRecDepth 100000 in
theorem take_59 (x : Int) (w : World) (hx : u32B x) (o55 : (fieldZ x 6 0 == 55) = false) (o23 : (fieldZ x 6 0 == 23) = false) (o111 : (fieldZ x 6 0 == 111) = false) (o103 : (fieldZ x 6 0 == 103) = false) (o99 : (fieldZ x 6 0 == 99) = false) (o3 : (fieldZ x 6 0 == 3) = false) (o35 : (fieldZ x 6 0 == 35) = false) (o19 : (fieldZ x 6 0 == 19) = false) (o27 : (fieldZ x 6 0 == 27) = false) (o51 : (fieldZ x 6 0 == 51) = false) (o59 : (fieldZ x 6 0 == 59) = true) :
    Calls Try.prog 18 #[.int .u32 x] w fun e w' => e = .returned (.tuple #[.agg #[.int .i64 9, .int .i64 (sumF x (fieldZ x 14 12)), .bool true, .int .i64 (fieldZ x 11 7), .int .i64 (fieldZ x 19 15), .int .i64 (fieldZ x 24 20), .int .u64 0], .bool (sumK x (fieldZ x 14 12) true)]) ∧ Below w.heap.size w w' := by
  obtain ⟨p11_7, q11_7⟩ := fieldZ_B x 11 7 hx 5 (by decide) (by decide) (by decide) rfl
  replace q11_7 : fieldZ x 11 7 ≤ 31 := by omega
  obtain ⟨p19_15, q19_15⟩ := fieldZ_B x 19 15 hx 5 (by decide) (by decide) (by decide) rfl
  replace q19_15 : fieldZ x 19 15 ≤ 31 := by omega
  obtain ⟨p24_20, q24_20⟩ := fieldZ_B x 24 20 hx 5 (by decide) (by decide) (by decide) rfl
  replace q24_20 : fieldZ x 24 20 ≤ 31 := by omega
  obtain ⟨p14_12, q14_12⟩ := fieldZ_B x 14 12 hx 3 (by decide) (by decide) (by decide) rfl
  replace q14_12 : fieldZ x 14 12 ≤ 7 := by omega
  obtain ⟨p31_12, q31_12⟩ := fieldZ_B x 31 12 hx 20 (by decide) (by decide) (by decide) rfl
  replace q31_12 : fieldZ x 31 12 ≤ 1048575 := by omega
  obtain ⟨p31_20, q31_20⟩ := fieldZ_B x 31 20 hx 12 (by decide) (by decide) (by decide) rfl
  replace q31_20 : fieldZ x 31 20 ≤ 4095 := by omega
  obtain ⟨p31_31, q31_31⟩ := fieldZ_B x 31 31 hx 1 (by decide) (by decide) (by decide) rfl
  replace q31_31 : fieldZ x 31 31 ≤ 1 := by omega
  obtain ⟨p19_12, q19_12⟩ := fieldZ_B x 19 12 hx 8 (by decide) (by decide) (by decide) rfl
  replace q19_12 : fieldZ x 19 12 ≤ 255 := by omega
  obtain ⟨p20_20, q20_20⟩ := fieldZ_B x 20 20 hx 1 (by decide) (by decide) (by decide) rfl
  replace q20_20 : fieldZ x 20 20 ≤ 1 := by omega
  obtain ⟨p30_21, q30_21⟩ := fieldZ_B x 30 21 hx 10 (by decide) (by decide) (by decide) rfl
  replace q30_21 : fieldZ x 30 21 ≤ 1023 := by omega
  obtain ⟨p7_7, q7_7⟩ := fieldZ_B x 7 7 hx 1 (by decide) (by decide) (by decide) rfl
  replace q7_7 : fieldZ x 7 7 ≤ 1 := by omega
  obtain ⟨p30_25, q30_25⟩ := fieldZ_B x 30 25 hx 6 (by decide) (by decide) (by decide) rfl
  replace q30_25 : fieldZ x 30 25 ≤ 63 := by omega
  obtain ⟨p11_8, q11_8⟩ := fieldZ_B x 11 8 hx 4 (by decide) (by decide) (by decide) rfl
  replace q11_8 : fieldZ x 11 8 ≤ 15 := by omega
  obtain ⟨p31_25, q31_25⟩ := fieldZ_B x 31 25 hx 7 (by decide) (by decide) (by decide) rfl
  replace q31_25 : fieldZ x 31 25 ≤ 127 := by omega
  obtain ⟨p6_0, q6_0⟩ := fieldZ_B x 6 0 hx 7 (by decide) (by decide) (by decide) rfl
  replace q6_0 : fieldZ x 6 0 ≤ 127 := by omega
  have U1 : Aside0 (u64B (fieldZ x 31 12 * 4096)) := ⟨⟨by omega, by omega⟩⟩
  have U2 : Aside0 (u64B (fieldZ x 31 20)) := ⟨⟨by omega, by omega⟩⟩
  have U3 : Aside0 (u64B (Go.bits .or .u64 (Go.bits .or .u64 (Go.bits .or .u64 (fieldZ x 31 31 * 1048576) (fieldZ x 19 12 * 4096)) (fieldZ x 20 20 * 2048)) (fieldZ x 30 21 * 2))) := ⟨or_B (or_B (or_B ⟨by omega, by omega⟩ ⟨by omega, by omega⟩) ⟨by omega, by omega⟩) ⟨by omega, by omega⟩⟩
  have U4 : Aside0 (u64B (Go.bits .or .u64 (Go.bits .or .u64 (Go.bits .or .u64 (fieldZ x 31 31 * 4096) (fieldZ x 7 7 * 2048)) (fieldZ x 30 25 * 32)) (fieldZ x 11 8 * 2))) := ⟨or_B (or_B (or_B ⟨by omega, by omega⟩ ⟨by omega, by omega⟩) ⟨by omega, by omega⟩) ⟨by omega, by omega⟩⟩
  have U5 : Aside0 (u64B (Go.bits .or .u64 (fieldZ x 31 25 * 32) (fieldZ x 11 7))) := ⟨or_B ⟨by omega, by omega⟩ ⟨by omega, by omega⟩⟩
  have HX := Aside0.mk hx
  have HB := Aside0.mk (Below.refl w.heap.size w)
  clear hx
  go_enter Try.func18, Try.ntmps18
  go_upto_region 2 with (first | (go_at_call 31; (with_reducible refine (taker_runs x _).mono ?_); rintro e_ w_ ⟨rfl, rfl⟩))
  obtain ⟨wa, hwa, od0, og0, hb_, hz0⟩ := letter2 w (.cells #[.int .i64 0, .int .i64 0, .bool false, .int .i64 0, .int .i64 0, .int .i64 0, .int .u64 0] 30 (0, 0)) (.cells #[.int .u32 x] 23 (0, 0))
  rw [hwa]
  clear hwa
  have hzwa := Nat.le_of_eq hz0.symm
  clear hz0
  have od := Aside0.mk od0
  have og := Aside0.mk og0
  clear od0 og0
  obtain ⟨odc, odf, odl⟩ := cells_of od.out
  obtain ⟨ogc, ogf, ogl⟩ := cells_of og.out
  have HB_ : Aside0 (Below w.heap.size w wa) := ⟨hb_⟩
  clear HB hb_; have HB := HB_; clear HB_
  go_wp2_with (first | (go_at_call 52; (with_reducible refine (fl_runs (w.heap.size + 1) x _ _ _ (by repeat (with_reducible first | exact og.out | apply ext_drew | apply ext_drewN | apply ext_alloc | refine blk_far ?_ (by show _ ≠ _; dsimp only; omega) _)) HX.out (by omega) (by omega)).mono ?_); rintro e_ w_ ⟨rfl, hd_⟩; obtain ⟨n_, rfl⟩ := hd_.out; clear hd_) | (go_at_call 32; (with_reducible refine (sextB (fieldZ x 31 12 * 4096) 32 U1.out ⟨by decide, by decide⟩ _).mono ?_); rintro e_ w_ ⟨rfl, hd_⟩; obtain ⟨n_, rfl⟩ := hd_.out; clear hd_) | (go_at_call 32; (with_reducible refine (sextB (fieldZ x 31 20) 12 U2.out ⟨by decide, by decide⟩ _).mono ?_); rintro e_ w_ ⟨rfl, hd_⟩; obtain ⟨n_, rfl⟩ := hd_.out; clear hd_) | (go_at_call 32; (with_reducible refine (sextB (Go.bits .or .u64 (Go.bits .or .u64 (Go.bits .or .u64 (fieldZ x 31 31 * 1048576) (fieldZ x 19 12 * 4096)) (fieldZ x 20 20 * 2048)) (fieldZ x 30 21 * 2)) 21 U3.out ⟨by decide, by decide⟩ _).mono ?_); rintro e_ w_ ⟨rfl, hd_⟩; obtain ⟨n_, rfl⟩ := hd_.out; clear hd_) | (go_at_call 32; (with_reducible refine (sextB (Go.bits .or .u64 (Go.bits .or .u64 (Go.bits .or .u64 (fieldZ x 31 31 * 4096) (fieldZ x 7 7 * 2048)) (fieldZ x 30 25 * 32)) (fieldZ x 11 8 * 2)) 13 U4.out ⟨by decide, by decide⟩ _).mono ?_); rintro e_ w_ ⟨rfl, hd_⟩; obtain ⟨n_, rfl⟩ := hd_.out; clear hd_) | (go_at_call 32; (with_reducible refine (sextB (Go.bits .or .u64 (fieldZ x 31 25 * 32) (fieldZ x 11 7)) 12 U5.out ⟨by decide, by decide⟩ _).mono ?_); rintro e_ w_ ⟨rfl, hd_⟩; obtain ⟨n_, rfl⟩ := hd_.out; clear hd_))
  (go_at_call 34; (with_reducible refine (sum_runs (w.heap.size + 1) x 9 (fieldZ x 14 12) true (fieldZ x 11 7) (fieldZ x 19 15) (fieldZ x 24 20) 0 _ (by repeat (with_reducible first | exact og.out | apply ext_drew | apply ext_drewN | apply ext_alloc | refine blk_far ?_ (by show _ ≠ _; dsimp only; omega) _)) HX.out p14_12 q14_12).mono ?_); rintro e_ w1 ⟨rfl, hb_⟩; have HB_ : Aside0 (Below w.heap.size w w1) := Aside0.mk (below_step (by repeat (first | (with_reducible first | exact HB.out | exact Below.refl _ _ | apply below_alloc | apply pw_below_drewN | apply below_drew | refine below_set ?_ (by omega)) | exact HB.out)) hb_); have hzw1 := hb_.size; (try simp at hzw1); have od_ := Aside0.mk (box_below hb_ (by repeat (with_reducible first | exact od.out | apply ext_drew | apply ext_drewN | apply ext_alloc | refine blk_far ?_ (by show _ ≠ _; dsimp only; omega) _))); have og_ := Aside0.mk (box_below hb_ (by repeat (with_reducible first | exact og.out | apply ext_drew | apply ext_drewN | apply ext_alloc | refine blk_far ?_ (by show _ ≠ _; dsimp only; omega) _))); (try clear od odc odf odl); have od := od_; clear od_; obtain ⟨odc, odf, odl⟩ := cells_of od.out; (try clear og ogc ogf ogl); have og := og_; clear og_; obtain ⟨ogc, ogf, ogl⟩ := cells_of og.out; clear HB hb_; have HB := HB_; clear HB_)
  go_wp2
  all_goals (refine bodyPost_ret (results_ct rfl _ _ w.heap.size 30 #[.int .i64 9, .int .i64 (sumF x (fieldZ x 14 12)), .bool true, .int .i64 (fieldZ x 11 7), .int .i64 (fieldZ x 19 15), .int .i64 (fieldZ x 24 20), .int .u64 0] (0, 0) _ rfl ?hb_ Try.underlying30 rfl (by kernel_rfl)) rfl ⟨rfl, (by repeat (first | (with_reducible first | exact HB.out | exact Below.refl _ _ | apply below_alloc | apply pw_below_drewN | apply below_drew | refine below_set ?_ (by omega)) | exact HB.out))⟩; (case hb_ => ((repeat (with_reducible first | refine blk_drew ?_ | refine blk_drewN ?_ _)); first | exact blk_put (blk_put (blk_put (blk_put (blk_put (blk_put (blk_put (od.out) 0 (.int .i64 9) rfl) 1 (.int .i64 (sumF x (fieldZ x 14 12))) rfl) 2 (.bool true) rfl) 3 (.int .i64 (fieldZ x 11 7)) rfl) 4 (.int .i64 (fieldZ x 19 15)) rfl) 5 (.int .i64 (fieldZ x 24 20)) rfl) 6 (.int .u64 0) rfl | exact blk_put (blk_put (blk_put (blk_put (blk_put (blk_put (blk_put (ext_drewN od.out _) 0 (.int .i64 9) rfl) 1 (.int .i64 (sumF x (fieldZ x 14 12))) rfl) 2 (.bool true) rfl) 3 (.int .i64 (fieldZ x 11 7)) rfl) 4 (.int .i64 (fieldZ x 19 15)) rfl) 5 (.int .i64 (fieldZ x 24 20)) rfl) 6 (.int .u64 0) rfl)))
set_option maxHeartbeats 1600000 in
set_option maxRecDepth 100000 in
theorem take_115 (x : Int) (w : World) (hx : u32B x) (o55 : (fieldZ x 6 0 == 55) = false) (o23 : (fieldZ x 6 0 == 23) = false) (o111 : (fieldZ x 6 0 == 111) = false) (o103 : (fieldZ x 6 0 == 103) = false) (o99 : (fieldZ x 6 0 == 99) = false) (o3 : (fieldZ x 6 0 == 3) = false) (o35 : (fieldZ x 6 0 == 35) = false) (o19 : (fieldZ x 6 0 == 19) = false) (o27 : (fieldZ x 6 0 == 27) = false) (o51 : (fieldZ x 6 0 == 51) = false) (o59 : (fieldZ x 6 0 == 59) = false) (o15 : (fieldZ x 6 0 == 15) = false) (o115 : (fieldZ x 6 0 == 115) = true) :
    Calls Try.prog 18 #[.int .u32 x] w fun e w' => e = .returned (.tuple #[.agg #[.int .i64 (sysI x (fieldZ x 14 12) (fieldZ x 11 7) (fieldZ x 19 15) (fieldZ x 24 20)).c, .int .i64 (sysI x (fieldZ x 14 12) (fieldZ x 11 7) (fieldZ x 19 15) (fieldZ x 24 20)).f, .bool (sysI x (fieldZ x 14 12) (fieldZ x 11 7) (fieldZ x 19 15) (fieldZ x 24 20)).b, .int .i64 (sysI x (fieldZ x 14 12) (fieldZ x 11 7) (fieldZ x 19 15) (fieldZ x 24 20)).rd, .int .i64 (sysI x (fieldZ x 14 12) (fieldZ x 11 7) (fieldZ x 19 15) (fieldZ x 24 20)).r1, .int .i64 (sysI x (fieldZ x 14 12) (fieldZ x 11 7) (fieldZ x 19 15) (fieldZ x 24 20)).r2, .int .u64 (sysI x (fieldZ x 14 12) (fieldZ x 11 7) (fieldZ x 19 15) (fieldZ x 24 20)).m], .bool (sysK x (fieldZ x 14 12) (fieldZ x 11 7))]) ∧ Below w.heap.size w w' := by
  obtain ⟨p11_7, q11_7⟩ := fieldZ_B x 11 7 hx 5 (by decide) (by decide) (by decide) rfl
  replace q11_7 : fieldZ x 11 7 ≤ 31 := by omega
  obtain ⟨p19_15, q19_15⟩ := fieldZ_B x 19 15 hx 5 (by decide) (by decide) (by decide) rfl
  replace q19_15 : fieldZ x 19 15 ≤ 31 := by omega
  obtain ⟨p24_20, q24_20⟩ := fieldZ_B x 24 20 hx 5 (by decide) (by decide) (by decide) rfl
  replace q24_20 : fieldZ x 24 20 ≤ 31 := by omega
  obtain ⟨p14_12, q14_12⟩ := fieldZ_B x 14 12 hx 3 (by decide) (by decide) (by decide) rfl
  replace q14_12 : fieldZ x 14 12 ≤ 7 := by omega
  obtain ⟨p31_12, q31_12⟩ := fieldZ_B x 31 12 hx 20 (by decide) (by decide) (by decide) rfl
  replace q31_12 : fieldZ x 31 12 ≤ 1048575 := by omega
  obtain ⟨p31_20, q31_20⟩ := fieldZ_B x 31 20 hx 12 (by decide) (by decide) (by decide) rfl
  replace q31_20 : fieldZ x 31 20 ≤ 4095 := by omega
  obtain ⟨p31_31, q31_31⟩ := fieldZ_B x 31 31 hx 1 (by decide) (by decide) (by decide) rfl
  replace q31_31 : fieldZ x 31 31 ≤ 1 := by omega
  obtain ⟨p19_12, q19_12⟩ := fieldZ_B x 19 12 hx 8 (by decide) (by decide) (by decide) rfl
  replace q19_12 : fieldZ x 19 12 ≤ 255 := by omega
  obtain ⟨p20_20, q20_20⟩ := fieldZ_B x 20 20 hx 1 (by decide) (by decide) (by decide) rfl
  replace q20_20 : fieldZ x 20 20 ≤ 1 := by omega
  obtain ⟨p30_21, q30_21⟩ := fieldZ_B x 30 21 hx 10 (by decide) (by decide) (by decide) rfl
  replace q30_21 : fieldZ x 30 21 ≤ 1023 := by omega
  obtain ⟨p7_7, q7_7⟩ := fieldZ_B x 7 7 hx 1 (by decide) (by decide) (by decide) rfl
  replace q7_7 : fieldZ x 7 7 ≤ 1 := by omega
  obtain ⟨p30_25, q30_25⟩ := fieldZ_B x 30 25 hx 6 (by decide) (by decide) (by decide) rfl
  replace q30_25 : fieldZ x 30 25 ≤ 63 := by omega
  obtain ⟨p11_8, q11_8⟩ := fieldZ_B x 11 8 hx 4 (by decide) (by decide) (by decide) rfl
  replace q11_8 : fieldZ x 11 8 ≤ 15 := by omega
  obtain ⟨p31_25, q31_25⟩ := fieldZ_B x 31 25 hx 7 (by decide) (by decide) (by decide) rfl
  replace q31_25 : fieldZ x 31 25 ≤ 127 := by omega
  obtain ⟨p6_0, q6_0⟩ := fieldZ_B x 6 0 hx 7 (by decide) (by decide) (by decide) rfl
  replace q6_0 : fieldZ x 6 0 ≤ 127 := by omega
  have U1 : Aside0 (u64B (fieldZ x 31 12 * 4096)) := ⟨⟨by omega, by omega⟩⟩
  have U2 : Aside0 (u64B (fieldZ x 31 20)) := ⟨⟨by omega, by omega⟩⟩
  have U3 : Aside0 (u64B (Go.bits .or .u64 (Go.bits .or .u64 (Go.bits .or .u64 (fieldZ x 31 31 * 1048576) (fieldZ x 19 12 * 4096)) (fieldZ x 20 20 * 2048)) (fieldZ x 30 21 * 2))) := ⟨or_B (or_B (or_B ⟨by omega, by omega⟩ ⟨by omega, by omega⟩) ⟨by omega, by omega⟩) ⟨by omega, by omega⟩⟩
  have U4 : Aside0 (u64B (Go.bits .or .u64 (Go.bits .or .u64 (Go.bits .or .u64 (fieldZ x 31 31 * 4096) (fieldZ x 7 7 * 2048)) (fieldZ x 30 25 * 32)) (fieldZ x 11 8 * 2))) := ⟨or_B (or_B (or_B ⟨by omega, by omega⟩ ⟨by omega, by omega⟩) ⟨by omega, by omega⟩) ⟨by omega, by omega⟩⟩
  have U5 : Aside0 (u64B (Go.bits .or .u64 (fieldZ x 31 25 * 32) (fieldZ x 11 7))) := ⟨or_B ⟨by omega, by omega⟩ ⟨by omega, by omega⟩⟩
  have HX := Aside0.mk hx
  have HB := Aside0.mk (Below.refl w.heap.size w)
  clear hx
  go_enter Try.func18, Try.ntmps18
  go_upto_region 2 with (first | (go_at_call 31; (with_reducible refine (taker_runs x _).mono ?_); rintro e_ w_ ⟨rfl, rfl⟩))
  obtain ⟨wa, hwa, od0, og0, hb_, hz0⟩ := letter2 w (.cells #[.int .i64 0, .int .i64 0, .bool false, .int .i64 0, .int .i64 0, .int .i64 0, .int .u64 0] 30 (0, 0)) (.cells #[.int .u32 x] 23 (0, 0))
  rw [hwa]
  clear hwa
  have hzwa := Nat.le_of_eq hz0.symm
  clear hz0
  have od := Aside0.mk od0
  have og := Aside0.mk og0
  clear od0 og0
  obtain ⟨odc, odf, odl⟩ := cells_of od.out
  obtain ⟨ogc, ogf, ogl⟩ := cells_of og.out
  have HB_ : Aside0 (Below w.heap.size w wa) := ⟨hb_⟩
  clear HB hb_; have HB := HB_; clear HB_
  go_wp2_with (first | (go_at_call 52; (with_reducible refine (fl_runs (w.heap.size + 1) x _ _ _ (by repeat (with_reducible first | exact og.out | apply ext_drew | apply ext_drewN | apply ext_alloc | refine blk_far ?_ (by show _ ≠ _; dsimp only; omega) _)) HX.out (by omega) (by omega)).mono ?_); rintro e_ w_ ⟨rfl, hd_⟩; obtain ⟨n_, rfl⟩ := hd_.out; clear hd_) | (go_at_call 32; (with_reducible refine (sextB (fieldZ x 31 12 * 4096) 32 U1.out ⟨by decide, by decide⟩ _).mono ?_); rintro e_ w_ ⟨rfl, hd_⟩; obtain ⟨n_, rfl⟩ := hd_.out; clear hd_) | (go_at_call 32; (with_reducible refine (sextB (fieldZ x 31 20) 12 U2.out ⟨by decide, by decide⟩ _).mono ?_); rintro e_ w_ ⟨rfl, hd_⟩; obtain ⟨n_, rfl⟩ := hd_.out; clear hd_) | (go_at_call 32; (with_reducible refine (sextB (Go.bits .or .u64 (Go.bits .or .u64 (Go.bits .or .u64 (fieldZ x 31 31 * 1048576) (fieldZ x 19 12 * 4096)) (fieldZ x 20 20 * 2048)) (fieldZ x 30 21 * 2)) 21 U3.out ⟨by decide, by decide⟩ _).mono ?_); rintro e_ w_ ⟨rfl, hd_⟩; obtain ⟨n_, rfl⟩ := hd_.out; clear hd_) | (go_at_call 32; (with_reducible refine (sextB (Go.bits .or .u64 (Go.bits .or .u64 (Go.bits .or .u64 (fieldZ x 31 31 * 4096) (fieldZ x 7 7 * 2048)) (fieldZ x 30 25 * 32)) (fieldZ x 11 8 * 2)) 13 U4.out ⟨by decide, by decide⟩ _).mono ?_); rintro e_ w_ ⟨rfl, hd_⟩; obtain ⟨n_, rfl⟩ := hd_.out; clear hd_) | (go_at_call 32; (with_reducible refine (sextB (Go.bits .or .u64 (fieldZ x 31 25 * 32) (fieldZ x 11 7)) 12 U5.out ⟨by decide, by decide⟩ _).mono ?_); rintro e_ w_ ⟨rfl, hd_⟩; obtain ⟨n_, rfl⟩ := hd_.out; clear hd_))
  (go_at_call 35; (with_reducible refine (system_runs (w.heap.size + 1) x (fieldZ x 14 12) (fieldZ x 11 7) (fieldZ x 19 15) (fieldZ x 24 20) _ (by repeat (with_reducible first | exact og.out | apply ext_drew | apply ext_drewN | apply ext_alloc | refine blk_far ?_ (by show _ ≠ _; dsimp only; omega) _)) HX.out).mono ?_); rintro e_ w1 ⟨rfl, hb_⟩; have HB_ : Aside0 (Below w.heap.size w w1) := Aside0.mk (below_step (by repeat (first | (with_reducible first | exact HB.out | exact Below.refl _ _ | apply below_alloc | apply pw_below_drewN | apply below_drew | refine below_set ?_ (by omega)) | exact HB.out)) hb_); have hzw1 := hb_.size; (try simp at hzw1); have od_ := Aside0.mk (box_below hb_ (by repeat (with_reducible first | exact od.out | apply ext_drew | apply ext_drewN | apply ext_alloc | refine blk_far ?_ (by show _ ≠ _; dsimp only; omega) _))); have og_ := Aside0.mk (box_below hb_ (by repeat (with_reducible first | exact og.out | apply ext_drew | apply ext_drewN | apply ext_alloc | refine blk_far ?_ (by show _ ≠ _; dsimp only; omega) _))); (try clear od odc odf odl); have od := od_; clear od_; obtain ⟨odc, odf, odl⟩ := cells_of od.out; (try clear og ogc ogf ogl); have og := og_; clear og_; obtain ⟨ogc, ogf, ogl⟩ := cells_of og.out; clear HB hb_; have HB := HB_; clear HB_)
  go_wp2
  all_goals (refine bodyPost_ret (results_ct rfl _ _ w.heap.size 30 #[.int .i64 (sysI x (fieldZ x 14 12) (fieldZ x 11 7) (fieldZ x 19 15) (fieldZ x 24 20)).c, .int .i64 (sysI x (fieldZ x 14 12) (fieldZ x 11 7) (fieldZ x 19 15) (fieldZ x 24 20)).f, .bool (sysI x (fieldZ x 14 12) (fieldZ x 11 7) (fieldZ x 19 15) (fieldZ x 24 20)).b, .int .i64 (sysI x (fieldZ x 14 12) (fieldZ x 11 7) (fieldZ x 19 15) (fieldZ x 24 20)).rd, .int .i64 (sysI x (fieldZ x 14 12) (fieldZ x 11 7) (fieldZ x 19 15) (fieldZ x 24 20)).r1, .int .i64 (sysI x (fieldZ x 14 12) (fieldZ x 11 7) (fieldZ x 19 15) (fieldZ x 24 20)).r2, .int .u64 (sysI x (fieldZ x 14 12) (fieldZ x 11 7) (fieldZ x 19 15) (fieldZ x 24 20)).m] (0, 0) _ rfl ?hb_ Try.underlying30 rfl (by kernel_rfl)) rfl ⟨rfl, (by repeat (first | (with_reducible first | exact HB.out | exact Below.refl _ _ | apply below_alloc | apply pw_below_drewN | apply below_drew | refine below_set ?_ (by omega)) | exact HB.out))⟩; (case hb_ => ((repeat (with_reducible first | refine blk_drew ?_ | refine blk_drewN ?_ _)); first | exact blk_put (blk_put (blk_put (blk_put (blk_put (blk_put (blk_put (od.out) 0 (.int .i64 (sysI x (fieldZ x 14 12) (fieldZ x 11 7) (fieldZ x 19 15) (fieldZ x 24 20)).c) rfl) 1 (.int .i64 (sysI x (fieldZ x 14 12) (fieldZ x 11 7) (fieldZ x 19 15) (fieldZ x 24 20)).f) rfl) 2 (.bool (sysI x (fieldZ x 14 12) (fieldZ x 11 7) (fieldZ x 19 15) (fieldZ x 24 20)).b) rfl) 3 (.int .i64 (sysI x (fieldZ x 14 12) (fieldZ x 11 7) (fieldZ x 19 15) (fieldZ x 24 20)).rd) rfl) 4 (.int .i64 (sysI x (fieldZ x 14 12) (fieldZ x 11 7) (fieldZ x 19 15) (fieldZ x 24 20)).r1) rfl) 5 (.int .i64 (sysI x (fieldZ x 14 12) (fieldZ x 11 7) (fieldZ x 19 15) (fieldZ x 24 20)).r2) rfl) 6 (.int .u64 (sysI x (fieldZ x 14 12) (fieldZ x 11 7) (fieldZ x 19 15) (fieldZ x 24 20)).m) rfl | exact blk_put (blk_put (blk_put (blk_put (blk_put (blk_put (blk_put (ext_drewN od.out _) 0 (.int .i64 (sysI x (fieldZ x 14 12) (fieldZ x 11 7) (fieldZ x 19 15) (fieldZ x 24 20)).c) rfl) 1 (.int .i64 (sysI x (fieldZ x 14 12) (fieldZ x 11 7) (fieldZ x 19 15) (fieldZ x 24 20)).f) rfl) 2 (.bool (sysI x (fieldZ x 14 12) (fieldZ x 11 7) (fieldZ x 19 15) (fieldZ x 24 20)).b) rfl) 3 (.int .i64 (sysI x (fieldZ x 14 12) (fieldZ x 11 7) (fieldZ x 19 15) (fieldZ x 24 20)).rd) rfl) 4 (.int .i64 (sysI x (fieldZ x 14 12) (fieldZ x 11 7) (fieldZ x 19 15) (fieldZ x 24 20)).r1) rfl) 5 (.int .i64 (sysI x (fieldZ x 14 12) (fieldZ x 11 7) (fieldZ x 19 15) (fieldZ x 24 20)).r2) rfl) 6 (.int .u64 (sysI x (fieldZ x 14 12) (fieldZ x 11 7) (fieldZ x 19 15) (fieldZ x 24 20)).m) rfl)))
set_option maxHeartbeats 1600000 in
set_option maxRecDepth 100000 in
theorem take_47 (x : Int) (w : World) (hx : u32B x) (o55 : (fieldZ x 6 0 == 55) = false) (o23 : (fieldZ x 6 0 == 23) = false) (o111 : (fieldZ x 6 0 == 111) = false) (o103 : (fieldZ x 6 0 == 103) = false) (o99 : (fieldZ x 6 0 == 99) = false) (o3 : (fieldZ x 6 0 == 3) = false) (o35 : (fieldZ x 6 0 == 35) = false) (o19 : (fieldZ x 6 0 == 19) = false) (o27 : (fieldZ x 6 0 == 27) = false) (o51 : (fieldZ x 6 0 == 51) = false) (o59 : (fieldZ x 6 0 == 59) = false) (o15 : (fieldZ x 6 0 == 15) = false) (o115 : (fieldZ x 6 0 == 115) = false) (o47 : (fieldZ x 6 0 == 47) = true) :
    Calls Try.prog 18 #[.int .u32 x] w fun e w' => e = .returned (.tuple #[.agg #[.int .i64 13, .int .i64 (fieldZ x 31 27), .bool (fieldZ x 14 12 == 2), .int .i64 (fieldZ x 11 7), .int .i64 (fieldZ x 19 15), .int .i64 (fieldZ x 24 20), .int .u64 0], .bool (amoK (fieldZ x 31 27) (fieldZ x 14 12) (fieldZ x 24 20))]) ∧ Below w.heap.size w w' := by
  obtain ⟨p11_7, q11_7⟩ := fieldZ_B x 11 7 hx 5 (by decide) (by decide) (by decide) rfl
  replace q11_7 : fieldZ x 11 7 ≤ 31 := by omega
  obtain ⟨p19_15, q19_15⟩ := fieldZ_B x 19 15 hx 5 (by decide) (by decide) (by decide) rfl
  replace q19_15 : fieldZ x 19 15 ≤ 31 := by omega
  obtain ⟨p24_20, q24_20⟩ := fieldZ_B x 24 20 hx 5 (by decide) (by decide) (by decide) rfl
  replace q24_20 : fieldZ x 24 20 ≤ 31 := by omega
  obtain ⟨p14_12, q14_12⟩ := fieldZ_B x 14 12 hx 3 (by decide) (by decide) (by decide) rfl
  replace q14_12 : fieldZ x 14 12 ≤ 7 := by omega
  obtain ⟨p31_12, q31_12⟩ := fieldZ_B x 31 12 hx 20 (by decide) (by decide) (by decide) rfl
  replace q31_12 : fieldZ x 31 12 ≤ 1048575 := by omega
  obtain ⟨p31_20, q31_20⟩ := fieldZ_B x 31 20 hx 12 (by decide) (by decide) (by decide) rfl
  replace q31_20 : fieldZ x 31 20 ≤ 4095 := by omega
  obtain ⟨p31_31, q31_31⟩ := fieldZ_B x 31 31 hx 1 (by decide) (by decide) (by decide) rfl
  replace q31_31 : fieldZ x 31 31 ≤ 1 := by omega
  obtain ⟨p19_12, q19_12⟩ := fieldZ_B x 19 12 hx 8 (by decide) (by decide) (by decide) rfl
  replace q19_12 : fieldZ x 19 12 ≤ 255 := by omega
  obtain ⟨p20_20, q20_20⟩ := fieldZ_B x 20 20 hx 1 (by decide) (by decide) (by decide) rfl
  replace q20_20 : fieldZ x 20 20 ≤ 1 := by omega
  obtain ⟨p30_21, q30_21⟩ := fieldZ_B x 30 21 hx 10 (by decide) (by decide) (by decide) rfl
  replace q30_21 : fieldZ x 30 21 ≤ 1023 := by omega
  obtain ⟨p7_7, q7_7⟩ := fieldZ_B x 7 7 hx 1 (by decide) (by decide) (by decide) rfl
  replace q7_7 : fieldZ x 7 7 ≤ 1 := by omega
  obtain ⟨p30_25, q30_25⟩ := fieldZ_B x 30 25 hx 6 (by decide) (by decide) (by decide) rfl
  replace q30_25 : fieldZ x 30 25 ≤ 63 := by omega
  obtain ⟨p11_8, q11_8⟩ := fieldZ_B x 11 8 hx 4 (by decide) (by decide) (by decide) rfl
  replace q11_8 : fieldZ x 11 8 ≤ 15 := by omega
  obtain ⟨p31_25, q31_25⟩ := fieldZ_B x 31 25 hx 7 (by decide) (by decide) (by decide) rfl
  replace q31_25 : fieldZ x 31 25 ≤ 127 := by omega
  obtain ⟨p6_0, q6_0⟩ := fieldZ_B x 6 0 hx 7 (by decide) (by decide) (by decide) rfl
  replace q6_0 : fieldZ x 6 0 ≤ 127 := by omega
  have U1 : Aside0 (u64B (fieldZ x 31 12 * 4096)) := ⟨⟨by omega, by omega⟩⟩
  have U2 : Aside0 (u64B (fieldZ x 31 20)) := ⟨⟨by omega, by omega⟩⟩
  have U3 : Aside0 (u64B (Go.bits .or .u64 (Go.bits .or .u64 (Go.bits .or .u64 (fieldZ x 31 31 * 1048576) (fieldZ x 19 12 * 4096)) (fieldZ x 20 20 * 2048)) (fieldZ x 30 21 * 2))) := ⟨or_B (or_B (or_B ⟨by omega, by omega⟩ ⟨by omega, by omega⟩) ⟨by omega, by omega⟩) ⟨by omega, by omega⟩⟩
  have U4 : Aside0 (u64B (Go.bits .or .u64 (Go.bits .or .u64 (Go.bits .or .u64 (fieldZ x 31 31 * 4096) (fieldZ x 7 7 * 2048)) (fieldZ x 30 25 * 32)) (fieldZ x 11 8 * 2))) := ⟨or_B (or_B (or_B ⟨by omega, by omega⟩ ⟨by omega, by omega⟩) ⟨by omega, by omega⟩) ⟨by omega, by omega⟩⟩
  have U5 : Aside0 (u64B (Go.bits .or .u64 (fieldZ x 31 25 * 32) (fieldZ x 11 7))) := ⟨or_B ⟨by omega, by omega⟩ ⟨by omega, by omega⟩⟩
  have HX := Aside0.mk hx
  have HB := Aside0.mk (Below.refl w.heap.size w)
  clear hx
  go_enter Try.func18, Try.ntmps18
  go_upto_region 2 with (first | (go_at_call 31; (with_reducible refine (taker_runs x _).mono ?_); rintro e_ w_ ⟨rfl, rfl⟩))
  obtain ⟨wa, hwa, od0, og0, hb_, hz0⟩ := letter2 w (.cells #[.int .i64 0, .int .i64 0, .bool false, .int .i64 0, .int .i64 0, .int .i64 0, .int .u64 0] 30 (0, 0)) (.cells #[.int .u32 x] 23 (0, 0))
  rw [hwa]
  clear hwa
  have hzwa := Nat.le_of_eq hz0.symm
  clear hz0
  have od := Aside0.mk od0
  have og := Aside0.mk og0
  clear od0 og0
  obtain ⟨odc, odf, odl⟩ := cells_of od.out
  obtain ⟨ogc, ogf, ogl⟩ := cells_of og.out
  have HB_ : Aside0 (Below w.heap.size w wa) := ⟨hb_⟩
  clear HB hb_; have HB := HB_; clear HB_
  go_wp2_with (first | (go_at_call 52; (with_reducible refine (fl_runs (w.heap.size + 1) x _ _ _ (by repeat (with_reducible first | exact og.out | apply ext_drew | apply ext_drewN | apply ext_alloc | refine blk_far ?_ (by show _ ≠ _; dsimp only; omega) _)) HX.out (by omega) (by omega)).mono ?_); rintro e_ w_ ⟨rfl, hd_⟩; obtain ⟨n_, rfl⟩ := hd_.out; clear hd_) | (go_at_call 32; (with_reducible refine (sextB (fieldZ x 31 12 * 4096) 32 U1.out ⟨by decide, by decide⟩ _).mono ?_); rintro e_ w_ ⟨rfl, hd_⟩; obtain ⟨n_, rfl⟩ := hd_.out; clear hd_) | (go_at_call 32; (with_reducible refine (sextB (fieldZ x 31 20) 12 U2.out ⟨by decide, by decide⟩ _).mono ?_); rintro e_ w_ ⟨rfl, hd_⟩; obtain ⟨n_, rfl⟩ := hd_.out; clear hd_) | (go_at_call 32; (with_reducible refine (sextB (Go.bits .or .u64 (Go.bits .or .u64 (Go.bits .or .u64 (fieldZ x 31 31 * 1048576) (fieldZ x 19 12 * 4096)) (fieldZ x 20 20 * 2048)) (fieldZ x 30 21 * 2)) 21 U3.out ⟨by decide, by decide⟩ _).mono ?_); rintro e_ w_ ⟨rfl, hd_⟩; obtain ⟨n_, rfl⟩ := hd_.out; clear hd_) | (go_at_call 32; (with_reducible refine (sextB (Go.bits .or .u64 (Go.bits .or .u64 (Go.bits .or .u64 (fieldZ x 31 31 * 4096) (fieldZ x 7 7 * 2048)) (fieldZ x 30 25 * 32)) (fieldZ x 11 8 * 2)) 13 U4.out ⟨by decide, by decide⟩ _).mono ?_); rintro e_ w_ ⟨rfl, hd_⟩; obtain ⟨n_, rfl⟩ := hd_.out; clear hd_) | (go_at_call 32; (with_reducible refine (sextB (Go.bits .or .u64 (fieldZ x 31 25 * 32) (fieldZ x 11 7)) 12 U5.out ⟨by decide, by decide⟩ _).mono ?_); rintro e_ w_ ⟨rfl, hd_⟩; obtain ⟨n_, rfl⟩ := hd_.out; clear hd_))
  (go_at_call 36; (with_reducible refine (atomic_runs (w.heap.size + 1) x (fieldZ x 14 12) (fieldZ x 11 7) (fieldZ x 19 15) (fieldZ x 24 20) _ (by repeat (with_reducible first | exact og.out | apply ext_drew | apply ext_drewN | apply ext_alloc | refine blk_far ?_ (by show _ ≠ _; dsimp only; omega) _)) HX.out).mono ?_); rintro e_ w1 ⟨rfl, hb_⟩; have HB_ : Aside0 (Below w.heap.size w w1) := Aside0.mk (below_step (by repeat (first | (with_reducible first | exact HB.out | exact Below.refl _ _ | apply below_alloc | apply pw_below_drewN | apply below_drew | refine below_set ?_ (by omega)) | exact HB.out)) hb_); have hzw1 := hb_.size; (try simp at hzw1); have od_ := Aside0.mk (box_below hb_ (by repeat (with_reducible first | exact od.out | apply ext_drew | apply ext_drewN | apply ext_alloc | refine blk_far ?_ (by show _ ≠ _; dsimp only; omega) _))); have og_ := Aside0.mk (box_below hb_ (by repeat (with_reducible first | exact og.out | apply ext_drew | apply ext_drewN | apply ext_alloc | refine blk_far ?_ (by show _ ≠ _; dsimp only; omega) _))); (try clear od odc odf odl); have od := od_; clear od_; obtain ⟨odc, odf, odl⟩ := cells_of od.out; (try clear og ogc ogf ogl); have og := og_; clear og_; obtain ⟨ogc, ogf, ogl⟩ := cells_of og.out; clear HB hb_; have HB := HB_; clear HB_)
  go_wp2
  all_goals (refine bodyPost_ret (results_ct rfl _ _ w.heap.size 30 #[.int .i64 13, .int .i64 (fieldZ x 31 27), .bool (fieldZ x 14 12 == 2), .int .i64 (fieldZ x 11 7), .int .i64 (fieldZ x 19 15), .int .i64 (fieldZ x 24 20), .int .u64 0] (0, 0) _ rfl ?hb_ Try.underlying30 rfl (by kernel_rfl)) rfl ⟨rfl, (by repeat (first | (with_reducible first | exact HB.out | exact Below.refl _ _ | apply below_alloc | apply pw_below_drewN | apply below_drew | refine below_set ?_ (by omega)) | exact HB.out))⟩; (case hb_ => ((repeat (with_reducible first | refine blk_drew ?_ | refine blk_drewN ?_ _)); first | exact blk_put (blk_put (blk_put (blk_put (blk_put (blk_put (blk_put (od.out) 0 (.int .i64 13) rfl) 1 (.int .i64 (fieldZ x 31 27)) rfl) 2 (.bool (fieldZ x 14 12 == 2)) rfl) 3 (.int .i64 (fieldZ x 11 7)) rfl) 4 (.int .i64 (fieldZ x 19 15)) rfl) 5 (.int .i64 (fieldZ x 24 20)) rfl) 6 (.int .u64 0) rfl | exact blk_put (blk_put (blk_put (blk_put (blk_put (blk_put (blk_put (ext_drewN od.out _) 0 (.int .i64 13) rfl) 1 (.int .i64 (fieldZ x 31 27)) rfl) 2 (.bool (fieldZ x 14 12 == 2)) rfl) 3 (.int .i64 (fieldZ x 11 7)) rfl) 4 (.int .i64 (fieldZ x 19 15)) rfl) 5 (.int .i64 (fieldZ x 24 20)) rfl) 6 (.int .u64 0) rfl)))
end Go.Proofs.Ytgcpedenlbcdgaa.Q
