import Derived.Test.YtgcpedenlbcdgaaHDtkA
import Derived.Test.YtgcpedenlbcdgaaHDtkB
import Derived.Test.YtgcpedenlbcdgaaHZ3
import Derived.Test.YtgcpedenlbcdgaaHDtkE
import Derived.Test.YtgcpedenlbcdgaaHDtkF
import Derived.Test.YtgcpedenlbcdgaaHDtkG
import Derived.Test.YtgcpedenlbcdgaaHZ1
import Derived.Deep.DrawnRows
import Derived.Deep.QuietTactic
import Derived.BigQuiet
/- decode.take, whole, and decode.Decode. -/
namespace Go.Proofs.Ytgcpedenlbcdgaa.Q
open Go.RowKit Go.Proofs.YtgcpedenlbcdgaaW.PrintWords Go.Proofs.YtgcpedenlbcdgaaW.PrintLast Go.Proofs.YtgcpedenlbcdgaaW.PrintMore Go.Proofs.Ytgcpedenlbcdgaa.L
attribute [local go_sem] Instr.field part asAgg lt_step max2_int min2_int max_two min_two max_three min_three max_four min_four lt_0_1 lt_0_2 lt_1_2 lt_0_3 lt_1_3 lt_2_3 lt_0_4 lt_1_4 lt_2_4 lt_3_4 lt_0_5 lt_1_5 lt_2_5 lt_3_5 lt_4_5 lt_0_6 lt_1_6 lt_2_6 lt_3_6 lt_4_6 lt_5_6 lt_0_7 lt_1_7 lt_2_7 lt_3_7 lt_4_7 lt_5_7 lt_6_7 lt_0_8 lt_1_8 lt_2_8 lt_3_8 lt_4_8 lt_5_8 lt_6_8 lt_7_8
set_option linter.unusedVariables false
set_option linter.unusedSimpArgs false
attribute [local go_sem ↓] Go.wp_at_zero Go.wp_at_succ
def takeI (x : Int) : Ins := if fieldZ x 6 0 == 55 then ⟨1, 0, false, (fieldZ x 11 7), 0, 0, (sextZ (fieldZ x 31 12 * 4096) 32)⟩ else if fieldZ x 6 0 == 23 then ⟨2, 0, false, (fieldZ x 11 7), 0, 0, (sextZ (fieldZ x 31 12 * 4096) 32)⟩ else if fieldZ x 6 0 == 111 then ⟨3, 0, false, (fieldZ x 11 7), 0, 0, (sextZ (Go.bits .or .u64 (Go.bits .or .u64 (Go.bits .or .u64 (fieldZ x 31 31 * 1048576) (fieldZ x 19 12 * 4096)) (fieldZ x 20 20 * 2048)) (fieldZ x 30 21 * 2)) 21)⟩ else if fieldZ x 6 0 == 103 then ⟨4, 0, false, (fieldZ x 11 7), (fieldZ x 19 15), 0, (sextZ (fieldZ x 31 20) 12)⟩ else if fieldZ x 6 0 == 99 then ⟨5, (fieldZ x 14 12), false, 0, (fieldZ x 19 15), (fieldZ x 24 20), (sextZ (Go.bits .or .u64 (Go.bits .or .u64 (Go.bits .or .u64 (fieldZ x 31 31 * 4096) (fieldZ x 7 7 * 2048)) (fieldZ x 30 25 * 32)) (fieldZ x 11 8 * 2)) 13)⟩ else if fieldZ x 6 0 == 3 then ⟨6, (fieldZ x 14 12), false, (fieldZ x 11 7), (fieldZ x 19 15), 0, (sextZ (fieldZ x 31 20) 12)⟩ else if fieldZ x 6 0 == 35 then ⟨7, (fieldZ x 14 12), false, 0, (fieldZ x 19 15), (fieldZ x 24 20), (sextZ (Go.bits .or .u64 (fieldZ x 31 25 * 32) (fieldZ x 11 7)) 12)⟩ else if fieldZ x 6 0 == 19 then (if (fieldZ x 14 12 == 1 || fieldZ x 14 12 == 5) then ⟨8, shiftF x (fieldZ x 14 12) false, false, (fieldZ x 11 7), (fieldZ x 19 15), 0, fieldZ x 25 20⟩ else ⟨8, (fieldZ x 14 12), false, (fieldZ x 11 7), (fieldZ x 19 15), 0, (sextZ (fieldZ x 31 20) 12)⟩) else if fieldZ x 6 0 == 27 then (if (fieldZ x 14 12 == 1 || fieldZ x 14 12 == 5) then ⟨8, shiftF x (fieldZ x 14 12) true, true, (fieldZ x 11 7), (fieldZ x 19 15), 0, fieldZ x 24 20⟩ else ⟨8, (fieldZ x 14 12), true, (fieldZ x 11 7), (fieldZ x 19 15), 0, (sextZ (fieldZ x 31 20) 12)⟩) else if fieldZ x 6 0 == 51 then ⟨9, sumF x (fieldZ x 14 12), false, (fieldZ x 11 7), (fieldZ x 19 15), (fieldZ x 24 20), 0⟩ else if fieldZ x 6 0 == 59 then ⟨9, sumF x (fieldZ x 14 12), true, (fieldZ x 11 7), (fieldZ x 19 15), (fieldZ x 24 20), 0⟩ else if fieldZ x 6 0 == 15 then ⟨10, (fieldZ x 14 12), false, 0, 0, 0, 0⟩ else if fieldZ x 6 0 == 115 then sysI x (fieldZ x 14 12) (fieldZ x 11 7) (fieldZ x 19 15) (fieldZ x 24 20) else if fieldZ x 6 0 == 47 then ⟨13, fieldZ x 31 27, fieldZ x 14 12 == 2, (fieldZ x 11 7), (fieldZ x 19 15), (fieldZ x 24 20), 0⟩ else ⟨0, 0, false, 0, 0, 0, 0⟩
def takeK (x : Int) : Bool := if fieldZ x 6 0 == 55 then true else if fieldZ x 6 0 == 23 then true else if fieldZ x 6 0 == 111 then true else if fieldZ x 6 0 == 103 then (fieldZ x 14 12 == 0) else if fieldZ x 6 0 == 99 then (Go.bits .and .i64 (fieldZ x 14 12) 6 != 2) else if fieldZ x 6 0 == 3 then (fieldZ x 14 12 != 7) else if fieldZ x 6 0 == 35 then (decide (fieldZ x 14 12 < 4)) else if fieldZ x 6 0 == 19 then (if (fieldZ x 14 12 == 1 || fieldZ x 14 12 == 5) then shiftK x (fieldZ x 14 12) false else true) else if fieldZ x 6 0 == 27 then (if (fieldZ x 14 12 == 1 || fieldZ x 14 12 == 5) then shiftK x (fieldZ x 14 12) true else (fieldZ x 14 12 == 0)) else if fieldZ x 6 0 == 51 then sumK x (fieldZ x 14 12) false else if fieldZ x 6 0 == 59 then sumK x (fieldZ x 14 12) true else if fieldZ x 6 0 == 15 then (decide (fieldZ x 14 12 < 2)) else if fieldZ x 6 0 == 115 then sysK x (fieldZ x 14 12) (fieldZ x 11 7) else if fieldZ x 6 0 == 47 then amoK (fieldZ x 31 27) (fieldZ x 14 12) (fieldZ x 24 20) else false
def Ins.cs (i : Ins) : Array Value := #[.int .i64 i.c, .int .i64 i.f, .bool i.b, .int .i64 i.rd, .int .i64 i.r1, .int .i64 i.r2, .int .u64 i.m]
def Ins.zero : Ins := ⟨0, 0, false, 0, 0, 0, 0⟩
theorem cs_sz (i : Ins) : 7 = i.cs.size := rfl
theorem cs_one (i : Ins) : i.cs.all (·.oneCell') = true := one7 _ _ _ _ _ _ _
theorem i30 : (Try.prog.info? 30).map (·.size) = some 7 := by kernel_rfl
theorem cs_info (i : Ins) : (Try.prog.info? 30).map (·.size) = some i.cs.size := i30
theorem take_runs (x : Int) (w : World) (hx : u32B x) : Calls Try.prog 18 #[.int .u32 x] w fun e w' => e = .returned (.tuple #[.agg (takeI x).cs, .bool (takeK x)]) ∧ Below w.heap.size w w' := by
  unfold takeI takeK
  cases o55 : fieldZ x 6 0 == 55
  case true =>
    simp only [if_true, Ins.cs]
    exact take_55 x w hx o55
  simp only [Bool.false_eq_true, if_false]
  cases o23 : fieldZ x 6 0 == 23
  case true =>
    simp only [if_true, Ins.cs]
    exact take_23 x w hx o55 o23
  simp only [Bool.false_eq_true, if_false]
  cases o111 : fieldZ x 6 0 == 111
  case true =>
    simp only [if_true, Ins.cs]
    exact take_111 x w hx o55 o23 o111
  simp only [Bool.false_eq_true, if_false]
  cases o103 : fieldZ x 6 0 == 103
  case true =>
    simp only [if_true, Ins.cs]
    exact take_103 x w hx o55 o23 o111 o103
  simp only [Bool.false_eq_true, if_false]
  cases o99 : fieldZ x 6 0 == 99
  case true =>
    simp only [if_true, Ins.cs]
    exact take_99 x w hx o55 o23 o111 o103 o99
  simp only [Bool.false_eq_true, if_false]
  cases o3 : fieldZ x 6 0 == 3
  case true =>
    simp only [if_true, Ins.cs]
    exact take_3 x w hx o55 o23 o111 o103 o99 o3
  simp only [Bool.false_eq_true, if_false]
  cases o35 : fieldZ x 6 0 == 35
  case true =>
    simp only [if_true, Ins.cs]
    exact take_35 x w hx o55 o23 o111 o103 o99 o3 o35
  simp only [Bool.false_eq_true, if_false]
  cases o19 : fieldZ x 6 0 == 19
  case true =>
    simp only [if_true, Ins.cs]
    cases k1 : fieldZ x 14 12 == 1
    · cases k5 : fieldZ x 14 12 == 5
      · exact take_19_c x w hx o55 o23 o111 o103 o99 o3 o35 o19 k1 k5
      · exact take_19_b x w hx o55 o23 o111 o103 o99 o3 o35 o19 k1 k5
    · exact take_19_a x w hx o55 o23 o111 o103 o99 o3 o35 o19 k1
  simp only [Bool.false_eq_true, if_false]
  cases o27 : fieldZ x 6 0 == 27
  case true =>
    simp only [if_true, Ins.cs]
    cases k1 : fieldZ x 14 12 == 1
    · cases k5 : fieldZ x 14 12 == 5
      · exact take_27_c x w hx o55 o23 o111 o103 o99 o3 o35 o19 o27 k1 k5
      · exact take_27_b x w hx o55 o23 o111 o103 o99 o3 o35 o19 o27 k1 k5
    · exact take_27_a x w hx o55 o23 o111 o103 o99 o3 o35 o19 o27 k1
  simp only [Bool.false_eq_true, if_false]
  cases o51 : fieldZ x 6 0 == 51
  case true =>
    simp only [if_true, Ins.cs]
    exact take_51 x w hx o55 o23 o111 o103 o99 o3 o35 o19 o27 o51
  simp only [Bool.false_eq_true, if_false]
  cases o59 : fieldZ x 6 0 == 59
  case true =>
    simp only [if_true, Ins.cs]
    exact take_59 x w hx o55 o23 o111 o103 o99 o3 o35 o19 o27 o51 o59
  simp only [Bool.false_eq_true, if_false]
  cases o15 : fieldZ x 6 0 == 15
  case true =>
    simp only [if_true, Ins.cs]
    exact take_15 x w hx o55 o23 o111 o103 o99 o3 o35 o19 o27 o51 o59 o15
  simp only [Bool.false_eq_true, if_false]
  cases o115 : fieldZ x 6 0 == 115
  case true =>
    simp only [if_true, Ins.cs]
    exact take_115 x w hx o55 o23 o111 o103 o99 o3 o35 o19 o27 o51 o59 o15 o115
  simp only [Bool.false_eq_true, if_false]
  cases o47 : fieldZ x 6 0 == 47
  case true =>
    simp only [if_true, Ins.cs]
    exact take_47 x w hx o55 o23 o111 o103 o99 o3 o35 o19 o27 o51 o59 o15 o115 o47
  simp only [Bool.false_eq_true, if_false]
  exact take_none x w hx o55 o23 o111 o103 o99 o3 o35 o19 o27 o51 o59 o15 o115 o47
set_option maxHeartbeats 1600000 in
set_option maxRecDepth 100000 in
theorem dec_yes (x : Int) (i : Ins) (w : World) (E1 : Aside0 (∀ W, Calls Try.prog 18 #[.int .u32 x] W fun e w' => e = .returned (.tuple #[.agg i.cs, .bool true]) ∧ Below W.heap.size W w')) :
    Calls Try.prog 11 #[.int .u32 x] w fun e w' => e = .returned (.tuple #[.agg i.cs, .bool true]) ∧ Below w.heap.size w w' := by
  have HB := Aside0.mk (Below.refl w.heap.size w)
  go_enter Try.func11, Try.ntmps11
  go_upto_region 1 with fail
  obtain ⟨wa, hwa, od0, hb_, hz0⟩ := letter1 w (.cells #[.int .i64 0, .int .i64 0, .bool false, .int .i64 0, .int .i64 0, .int .i64 0, .int .u64 0] 30 (0, 0))
  rw [hwa]
  clear hwa
  have hzwa := Nat.le_of_eq hz0.symm
  clear hz0
  have od := Aside0.mk od0
  clear od0
  obtain ⟨odc, odf, odl⟩ := cells_of od.out
  have HB_ : Aside0 (Below w.heap.size w wa) := ⟨hb_⟩
  clear HB hb_; have HB := HB_; clear HB_
  go_wp2_with fail
  (go_at_call 18; (with_reducible refine (E1.out _).mono ?_); rintro e_ w1 ⟨rfl, hb_⟩; have HB_ : Aside0 (Below w.heap.size w w1) := Aside0.mk (below_step (by repeat (first | (with_reducible first | exact HB.out | exact Below.refl _ _ | apply below_alloc | apply pw_below_drewN | apply below_drew | refine below_set ?_ (by omega)) | exact HB.out)) hb_); have hzw1 := hb_.size; (try simp at hzw1); have od_ := Aside0.mk (box_below hb_ (by repeat (with_reducible first | exact od.out | apply ext_drew | apply ext_drewN | apply ext_alloc | refine blk_far ?_ (by show _ ≠ _; dsimp only; omega) _))); (try clear od odc odf odl); have od := od_; clear od_; obtain ⟨odc, odf, odl⟩ := cells_of od.out; clear HB hb_; have HB := HB_; clear HB_)
  go_wp2_with (first | ((with_reducible refine gate_store (t := 30) (p := 4) (v := .tmp 9) rfl ?_); refine wpList_store_all rfl 30 _ _ rfl rfl _ i.cs (by rfl) (by rfl) _ _ (nb_1 _ _) (cs_sz i) (cs_info i) (cs_one i) ?_; rintro w2 ⟨hx_, hk_, hb_, hzz_⟩; have HB_ : Aside0 (Below w.heap.size w w2) := Aside0.mk (Below.trans (by repeat (first | (with_reducible first | exact HB.out | exact Below.refl _ _ | apply below_alloc | apply pw_below_drewN | apply below_drew | refine below_set ?_ (by omega)) | exact HB.out)) (Below.mono hb_ (by first | omega | (simp only [sz_alloc, sz_drew, sz_drewN]; omega)))); have hzw2 := hzz_; (try simp at hzw2); clear hzz_; have od_ := Aside0.mk (st_put od.out hk_ (fun h_ => (by repeat (with_reducible first | exact h_ | apply ext_drew | apply ext_drewN | apply ext_alloc | refine blk_far ?_ (by show _ ≠ _; dsimp only; omega) _))) (by omega)); clear od odc odf odl; have od := od_; clear od_; obtain ⟨odc, odf, odl⟩ := cells_of od.out; (try clear oi oic oif oil); have oi := Aside0.mk hx_; obtain ⟨oic, oif, oil⟩ := cells_of oi.out; clear HB hb_ hk_ hx_; have HB := HB_; clear HB_) | ((with_reducible refine gate_dst (N := 14) rfl ?_); (try (refine gate_guard (by rfl) ?_; dsimp only)); refine wpList_load_row rfl 30 _ rfl _ (by rfl) _ i.cs _ _ (by repeat (with_reducible first | exact oi.out | apply ext_drew | apply ext_drewN | apply ext_alloc | refine blk_far ?_ (by show _ ≠ _; dsimp only; omega) _)) Try.underlying30 rfl (cs_info i) ?_) | ((with_reducible refine gate_store (t := 30) (p := 2) (v := .tmp 14) rfl ?_); refine wpList_store_all rfl 30 _ _ rfl rfl _ i.cs (by rfl) (by rfl) _ _ od.out (cs_sz i) (cs_info i) (cs_one i) ?_; rintro w3 ⟨hx_, hk_, hb_, hzz_⟩; have HB_ : Aside0 (Below w.heap.size w w3) := Aside0.mk (Below.trans (by repeat (first | (with_reducible first | exact HB.out | exact Below.refl _ _ | apply below_alloc | apply pw_below_drewN | apply below_drew | refine below_set ?_ (by omega)) | exact HB.out)) (Below.mono hb_ (by first | omega | (simp only [sz_alloc, sz_drew, sz_drewN]; omega)))); have hzw3 := hzz_; (try simp at hzw3); clear hzz_; have oi_ := Aside0.mk (st_put oi.out hk_ (fun h_ => (by repeat (with_reducible first | exact h_ | apply ext_drew | apply ext_drewN | apply ext_alloc | refine blk_far ?_ (by show _ ≠ _; dsimp only; omega) _))) (by omega)); clear oi oic oif oil; have oi := oi_; clear oi_; obtain ⟨oic, oif, oil⟩ := cells_of oi.out; (try clear od odc odf odl); have od := Aside0.mk hx_; obtain ⟨odc, odf, odl⟩ := cells_of od.out; clear HB hb_ hk_ hx_; have HB := HB_; clear HB_))
  refine bodyPost_ret (results_ct rfl _ _ w.heap.size 30 i.cs (0, 0) _ rfl od.out Try.underlying30 rfl (cs_info i)) rfl ⟨rfl, (by repeat (first | (with_reducible first | exact HB.out | exact Below.refl _ _ | apply below_alloc | apply pw_below_drewN | apply below_drew | refine below_set ?_ (by omega)) | exact HB.out))⟩
set_option maxHeartbeats 1600000 in
set_option maxRecDepth 100000 in
theorem dec_no (x : Int) (i : Ins) (w : World) (E1 : Aside0 (∀ W, Calls Try.prog 18 #[.int .u32 x] W fun e w' => e = .returned (.tuple #[.agg i.cs, .bool false]) ∧ Below W.heap.size W w')) :
    Calls Try.prog 11 #[.int .u32 x] w fun e w' => e = .returned (.tuple #[.agg Ins.zero.cs, .bool false]) ∧ Below w.heap.size w w' := by
  have HB := Aside0.mk (Below.refl w.heap.size w)
  have NN : Aside0 (∀ W, Calls Try.prog 19 #[] W fun e w' => e = .returned (.agg Ins.zero.cs) ∧ Below W.heap.size W w') := ⟨fun W => decode_none.calls _ _ _ _ _ _ _ W rfl⟩
  go_enter Try.func11, Try.ntmps11
  go_upto_region 1 with fail
  obtain ⟨wa, hwa, od0, hb_, hz0⟩ := letter1 w (.cells #[.int .i64 0, .int .i64 0, .bool false, .int .i64 0, .int .i64 0, .int .i64 0, .int .u64 0] 30 (0, 0))
  rw [hwa]
  clear hwa
  have hzwa := Nat.le_of_eq hz0.symm
  clear hz0
  have od := Aside0.mk od0
  clear od0
  obtain ⟨odc, odf, odl⟩ := cells_of od.out
  have HB_ : Aside0 (Below w.heap.size w wa) := ⟨hb_⟩
  clear HB hb_; have HB := HB_; clear HB_
  go_wp2_with fail
  (go_at_call 18; (with_reducible refine (E1.out _).mono ?_); rintro e_ w1 ⟨rfl, hb_⟩; have HB_ : Aside0 (Below w.heap.size w w1) := Aside0.mk (below_step (by repeat (first | (with_reducible first | exact HB.out | exact Below.refl _ _ | apply below_alloc | apply pw_below_drewN | apply below_drew | refine below_set ?_ (by omega)) | exact HB.out)) hb_); have hzw1 := hb_.size; (try simp at hzw1); have od_ := Aside0.mk (box_below hb_ (by repeat (with_reducible first | exact od.out | apply ext_drew | apply ext_drewN | apply ext_alloc | refine blk_far ?_ (by show _ ≠ _; dsimp only; omega) _))); (try clear od odc odf odl); have od := od_; clear od_; obtain ⟨odc, odf, odl⟩ := cells_of od.out; clear HB hb_; have HB := HB_; clear HB_)
  go_wp2_with (first | ((with_reducible refine gate_store (t := 30) (p := 4) (v := .tmp 9) rfl ?_); refine wpList_store_all rfl 30 _ _ rfl rfl _ i.cs (by rfl) (by rfl) _ _ (nb_1 _ _) (cs_sz i) (cs_info i) (cs_one i) ?_; rintro w2 ⟨hx_, hk_, hb_, hzz_⟩; have HB_ : Aside0 (Below w.heap.size w w2) := Aside0.mk (Below.trans (by repeat (first | (with_reducible first | exact HB.out | exact Below.refl _ _ | apply below_alloc | apply pw_below_drewN | apply below_drew | refine below_set ?_ (by omega)) | exact HB.out)) (Below.mono hb_ (by first | omega | (simp only [sz_alloc, sz_drew, sz_drewN]; omega)))); have hzw2 := hzz_; (try simp at hzw2); clear hzz_; have od_ := Aside0.mk (st_put od.out hk_ (fun h_ => (by repeat (with_reducible first | exact h_ | apply ext_drew | apply ext_drewN | apply ext_alloc | refine blk_far ?_ (by show _ ≠ _; dsimp only; omega) _))) (by omega)); clear od odc odf odl; have od := od_; clear od_; obtain ⟨odc, odf, odl⟩ := cells_of od.out; (try clear oi oic oif oil); have oi := Aside0.mk hx_; obtain ⟨oic, oif, oil⟩ := cells_of oi.out; clear HB hb_ hk_ hx_; have HB := HB_; clear HB_))
  (go_at_call 19; (with_reducible refine (NN.out _).mono ?_); rintro e_ w3 ⟨rfl, hb_⟩; have HB_ : Aside0 (Below w.heap.size w w3) := Aside0.mk (below_step (by repeat (first | (with_reducible first | exact HB.out | exact Below.refl _ _ | apply below_alloc | apply pw_below_drewN | apply below_drew | refine below_set ?_ (by omega)) | exact HB.out)) hb_); have hzw3 := hb_.size; (try simp at hzw3); have od_ := Aside0.mk (box_below hb_ (by repeat (with_reducible first | exact od.out | apply ext_drew | apply ext_drewN | apply ext_alloc | refine blk_far ?_ (by show _ ≠ _; dsimp only; omega) _))); (try clear od odc odf odl); have od := od_; clear od_; obtain ⟨odc, odf, odl⟩ := cells_of od.out; clear HB hb_; have HB := HB_; clear HB_)
  go_wp2_with (first | ((with_reducible refine gate_store (t := 30) (p := 2) (v := .tmp 13) rfl ?_); refine wpList_store_all rfl 30 _ _ rfl rfl _ Ins.zero.cs (by rfl) (by rfl) _ _ od.out (cs_sz Ins.zero) (cs_info Ins.zero) (cs_one Ins.zero) ?_; rintro w4 ⟨hx_, hk_, hb_, hzz_⟩; have HB_ : Aside0 (Below w.heap.size w w4) := Aside0.mk (Below.trans (by repeat (first | (with_reducible first | exact HB.out | exact Below.refl _ _ | apply below_alloc | apply pw_below_drewN | apply below_drew | refine below_set ?_ (by omega)) | exact HB.out)) (Below.mono hb_ (by first | omega | (simp only [sz_alloc, sz_drew, sz_drewN]; omega)))); have hzw4 := hzz_; (try simp at hzw4); clear hzz_; (try clear od odc odf odl); have od := Aside0.mk hx_; obtain ⟨odc, odf, odl⟩ := cells_of od.out; clear HB hb_ hk_ hx_; have HB := HB_; clear HB_))
  refine bodyPost_ret (results_ct rfl _ _ w.heap.size 30 Ins.zero.cs (0, 0) _ rfl od.out Try.underlying30 rfl (cs_info Ins.zero)) rfl ⟨rfl, (by repeat (first | (with_reducible first | exact HB.out | exact Below.refl _ _ | apply below_alloc | apply pw_below_drewN | apply below_drew | refine below_set ?_ (by omega)) | exact HB.out))⟩
def decI (x : Int) : Ins := if takeK x then takeI x else Ins.zero
theorem dec_runs (x : Int) (w : World) (hx : u32B x) : Calls Try.prog 11 #[.int .u32 x] w fun e w' => e = .returned (.tuple #[.agg (decI x).cs, .bool (takeK x)]) ∧ Below w.heap.size w w' := by
  unfold decI
  cases hk : takeK x with
  | true => exact dec_yes x (takeI x) w ⟨fun W => by have := take_runs x W hx; rw [hk] at this; exact this⟩
  | false => exact dec_no x (takeI x) w ⟨fun W => by have := take_runs x W hx; rw [hk] at this; exact this⟩
def decode_Decode.f (a0 : Int) : Option (Int × Int × Bool × Int × Int × Int × Int × Bool) := if 0 ≤ a0 ∧ a0 < 4294967296 then some ((decI a0).c, (decI a0).f, (decI a0).b, (decI a0).rd, (decI a0).r1, (decI a0).r2, (decI a0).m, takeK a0) else none
theorem decode_Decode.calls (a0 : Int) (r1 : Int) (r2 : Int) (r3 : Bool) (r4 : Int) (r5 : Int) (r6 : Int) (r7 : Int) (r8 : Bool) (w : World) (h : decode_Decode.f a0 = some (r1, r2, r3, r4, r5, r6, r7, r8)) :
    Calls Try.prog 11 #[.int .u32 a0] w fun e w' => e = .returned (.tuple #[.agg #[.int .i64 r1, .int .i64 r2, .bool r3, .int .i64 r4, .int .i64 r5, .int .i64 r6, .int .u64 r7], .bool r8]) ∧ Below w.heap.size w w' := by
  unfold decode_Decode.f at h
  by_cases hx : 0 ≤ a0 ∧ a0 < 4294967296
  · rw [if_pos hx] at h
    simp only [Option.some.injEq, Prod.mk.injEq] at h
    obtain ⟨rfl, rfl, rfl, rfl, rfl, rfl, rfl, rfl⟩ := h
    exact dec_runs a0 w hx
  · rw [if_neg hx] at h; cases h
end Go.Proofs.Ytgcpedenlbcdgaa.Q
