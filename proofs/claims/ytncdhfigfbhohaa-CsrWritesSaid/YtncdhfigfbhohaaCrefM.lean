/- ref05.machine, case by case. -/
import Derived.Test.YtncdhfigfbhohaaCcall
import Derived.Test.YtncdhfigfbhohaaQx3
import Derived.Test.YtncdhfigfbhohaaQx3
namespace Go.Proofs.Ytncdhfigfbhohaa.Q
open Go.RowKit Go.Proofs.YtncdhfigfbhohaaW.PrintWords Go.Proofs.YtncdhfigfbhohaaW.PrintLast Go.Proofs.YtncdhfigfbhohaaW.PrintMore Go.Proofs.Ytncdhfigfbhohaa.L
attribute [local go_sem] Instr.field part asAgg lt_step max2_int min2_int max_two min_two max_three min_three max_four min_four lt_0_1 lt_0_2 lt_1_2 lt_0_3 lt_1_3 lt_2_3 lt_0_4 lt_1_4 lt_2_4 lt_3_4 lt_0_5 lt_1_5 lt_2_5 lt_3_5 lt_4_5 lt_0_6 lt_1_6 lt_2_6 lt_3_6 lt_4_6 lt_5_6 lt_0_7 lt_1_7 lt_2_7 lt_3_7 lt_4_7 lt_5_7 lt_6_7 lt_0_8 lt_1_8 lt_2_8 lt_3_8 lt_4_8 lt_5_8 lt_6_8 lt_7_8
set_option linter.unusedVariables false
set_option linter.unusedSimpArgs false
set_option maxHeartbeats 1600000 in
set_option maxRecDepth 100000 in
theorem mac_768 (c d : Nat → Int) (x v : Int) (w : World) (hd : upd c 0 v = d) (hv : drawbridgeref05_Status.f x = some v) :
    Calls Try.prog 19 #[.agg (C17 c), .int .i64 768, .int .u64 x] w fun e w' => e = .returned (.agg (C17 d)) ∧ Below w.heap.size w w' := by
  have HB := Aside0.mk (Below.refl w.heap.size w)
  have HD : Aside0 ((C17 c).setIfInBounds 0 (.int .u64 v) = C17 d) := ⟨by rw [← hd]; exact C17_set c v 0 (by decide)⟩
  clear hd
  have HV := Aside0.mk hv
  clear hv
  have J24 : Aside0 ((Try.prog.info? 24).map (·.size) = some (C17 d).size) := ⟨C17_info _ 24 (by kernel_rfl)⟩
  have SC : Aside0 (17 = (C17 d).size) := ⟨rfl⟩
  have OC : Aside0 ((C17 d).all (·.oneCell') = true) := ⟨C17_one _⟩
  have hC0 := C17_at c 0 (by decide)
  go_enter Try.func19, Try.ntmps19
  go_wp2_with (first
    | (go_at_call 27; (with_reducible refine (drawbridgeref05_Status.calls _ v _ HV.out).mono ?_); rintro e w' ⟨rfl, hd⟩; obtain ⟨k_, rfl⟩ := hd.out; clear hd; obtain ⟨wa, hwa, oc0, od0, hb_, hz0⟩ := letter2 w (.cells (C17 c) 24 (0, 0)) (.cells #[.int .u64 0, .int .u64 0, .int .u64 0, .int .u64 0, .int .u64 0, .int .u64 0, .int .u64 0, .int .u64 0, .int .u64 0, .int .u64 0, .int .u64 0, .int .u64 0, .int .u64 0, .int .u64 0, .int .u64 0, .int .u64 0, .int .u64 0] 24 (0, 0)); rw [hwa]; clear hwa; have hzwa := Nat.le_of_eq hz0.symm; have oc := Aside0.mk (blk_put (ext_drewN oc0 k_) 0 (.int .u64 v) HD.out); have od := Aside0.mk (blk_far (p := ⟨w.heap.size, 0, none⟩) (ext_drewN od0 k_) (by show _ ≠ _; dsimp only; omega) (.int .u64 v)); obtain ⟨occ, ocf, ocl⟩ := cells_of oc0; clear oc0 od0 hz0; have HB_ : Aside0 (Below w.heap.size w wa) := ⟨hb_⟩; clear HB hb_; have HB := HB_; clear HB_)
    | ((with_reducible refine gate_dst (N := 61) rfl ?_); (try (refine gate_guard (by rfl) ?_; dsimp only)); refine wpList_load_row rfl 24 _ rfl _ (by rfl) _ (C17 d) _ _ (by repeat (with_reducible first | exact oc.out | apply ext_drew | apply ext_drewN | apply ext_alloc | refine blk_far ?_ (by show _ ≠ _; dsimp only; omega) _)) Try.underlying24 rfl J24.out ?_)
    | ((with_reducible refine gate_store (t := 24) (p := 6) (v := .tmp 61) rfl ?_); refine wpList_store_all rfl 24 _ _ rfl rfl _ (C17 d) (by rfl) (by rfl) _ _ od.out SC.out J24.out OC.out ?_; rintro w1 ⟨hx_, hk_, hb_, hzz_⟩; have HB_ : Aside0 (Below w.heap.size w w1) := Aside0.mk (Below.trans (by repeat (first | (with_reducible first | exact HB.out | exact Below.refl _ _ | apply below_alloc | apply pw_below_drewN | apply below_drew | refine below_set ?_ (by omega)) | exact HB.out)) (Below.mono hb_ (by first | omega | (simp only [sz_alloc, sz_drew, sz_drewN]; omega)))); have hzw1 := hzz_; (try simp at hzw1); clear hzz_; (try clear od odc odf odl); have od := Aside0.mk hx_; obtain ⟨odc, odf, odl⟩ := cells_of od.out; clear HB hb_ hk_ hx_; have HB := HB_; clear HB_))
  refine bodyPost_ret (results_cell_row rfl _ _ (w.heap.size + 1) 24 (C17 d) (0, 0) _ rfl od.out Try.underlying24 rfl J24.out) rfl ⟨rfl, (by repeat (first | (with_reducible first | exact HB.out | exact Below.refl _ _ | apply below_alloc | apply pw_below_drewN | apply below_drew | refine below_set ?_ (by omega)) | exact HB.out))⟩
set_option maxHeartbeats 1600000 in
set_option maxRecDepth 100000 in
theorem mac_770 (c d : Nat → Int) (x v : Int) (w : World) (hd : upd c 1 v = d) (hv : Go.bits .and .u64 x 46079 = v) :
    Calls Try.prog 19 #[.agg (C17 c), .int .i64 770, .int .u64 x] w fun e w' => e = .returned (.agg (C17 d)) ∧ Below w.heap.size w w' := by
  have HB := Aside0.mk (Below.refl w.heap.size w)
  have HD : Aside0 ((C17 c).setIfInBounds 1 (.int .u64 v) = C17 d) := ⟨by rw [← hd]; exact C17_set c v 1 (by decide)⟩
  clear hd
  have J24 : Aside0 ((Try.prog.info? 24).map (·.size) = some (C17 d).size) := ⟨C17_info _ 24 (by kernel_rfl)⟩
  have SC : Aside0 (17 = (C17 d).size) := ⟨rfl⟩
  have OC : Aside0 ((C17 d).all (·.oneCell') = true) := ⟨C17_one _⟩
  have hC1 := C17_at c 1 (by decide)
  go_enter Try.func19, Try.ntmps19
  go_wp2_with (first
    | (obtain ⟨wa, hwa, oc0, od0, hb_, hz0⟩ := letter2 w (.cells (C17 c) 24 (0, 0)) (.cells #[.int .u64 0, .int .u64 0, .int .u64 0, .int .u64 0, .int .u64 0, .int .u64 0, .int .u64 0, .int .u64 0, .int .u64 0, .int .u64 0, .int .u64 0, .int .u64 0, .int .u64 0, .int .u64 0, .int .u64 0, .int .u64 0, .int .u64 0] 24 (0, 0)); rw [hwa]; clear hwa; have hzwa := Nat.le_of_eq hz0.symm; have oc := Aside0.mk oc0; have od := Aside0.mk od0; obtain ⟨occ, ocf, ocl⟩ := cells_of oc0; clear oc0 od0 hz0; have HB_ : Aside0 (Below w.heap.size w wa) := ⟨hb_⟩; clear HB hb_; have HB := HB_; clear HB_)
    | ((with_reducible refine gate_dst (N := 61) rfl ?_); have oq := Aside0.mk (blk_put oc.out 1 (.int .u64 v) HD.out); have oe := Aside0.mk (blk_far (p := ⟨w.heap.size, 1, none⟩) od.out (by show _ ≠ _; dsimp only; omega) (.int .u64 v)); subst hv; (try (refine gate_guard (by rfl) ?_; dsimp only)); refine wpList_load_row rfl 24 _ rfl _ (by rfl) _ (C17 d) _ _ oq.out Try.underlying24 rfl J24.out ?_; clear od; have od := oe)
    | ((with_reducible refine gate_store (t := 24) (p := 6) (v := .tmp 61) rfl ?_); refine wpList_store_all rfl 24 _ _ rfl rfl _ (C17 d) (by rfl) (by rfl) _ _ od.out SC.out J24.out OC.out ?_; rintro w1 ⟨hx_, hk_, hb_, hzz_⟩; have HB_ : Aside0 (Below w.heap.size w w1) := Aside0.mk (Below.trans (by repeat (first | (with_reducible first | exact HB.out | exact Below.refl _ _ | apply below_alloc | apply pw_below_drewN | apply below_drew | refine below_set ?_ (by omega)) | exact HB.out)) (Below.mono hb_ (by first | omega | (simp only [sz_alloc, sz_drew, sz_drewN]; omega)))); have hzw1 := hzz_; (try simp at hzw1); clear hzz_; (try clear od odc odf odl); have od := Aside0.mk hx_; obtain ⟨odc, odf, odl⟩ := cells_of od.out; clear HB hb_ hk_ hx_; have HB := HB_; clear HB_))
  refine bodyPost_ret (results_cell_row rfl _ _ (w.heap.size + 1) 24 (C17 d) (0, 0) _ rfl od.out Try.underlying24 rfl J24.out) rfl ⟨rfl, (by repeat (first | (with_reducible first | exact HB.out | exact Below.refl _ _ | apply below_alloc | apply pw_below_drewN | apply below_drew | refine below_set ?_ (by omega)) | exact HB.out))⟩
set_option maxHeartbeats 1600000 in
set_option maxRecDepth 100000 in
theorem mac_771 (c d : Nat → Int) (x v : Int) (w : World) (hd : upd c 2 v = d) (hv : Go.bits .and .u64 x 546 = v) :
    Calls Try.prog 19 #[.agg (C17 c), .int .i64 771, .int .u64 x] w fun e w' => e = .returned (.agg (C17 d)) ∧ Below w.heap.size w w' := by
  have HB := Aside0.mk (Below.refl w.heap.size w)
  have HD : Aside0 ((C17 c).setIfInBounds 2 (.int .u64 v) = C17 d) := ⟨by rw [← hd]; exact C17_set c v 2 (by decide)⟩
  clear hd
  have J24 : Aside0 ((Try.prog.info? 24).map (·.size) = some (C17 d).size) := ⟨C17_info _ 24 (by kernel_rfl)⟩
  have SC : Aside0 (17 = (C17 d).size) := ⟨rfl⟩
  have OC : Aside0 ((C17 d).all (·.oneCell') = true) := ⟨C17_one _⟩
  have hC2 := C17_at c 2 (by decide)
  go_enter Try.func19, Try.ntmps19
  go_wp2_with (first
    | (obtain ⟨wa, hwa, oc0, od0, hb_, hz0⟩ := letter2 w (.cells (C17 c) 24 (0, 0)) (.cells #[.int .u64 0, .int .u64 0, .int .u64 0, .int .u64 0, .int .u64 0, .int .u64 0, .int .u64 0, .int .u64 0, .int .u64 0, .int .u64 0, .int .u64 0, .int .u64 0, .int .u64 0, .int .u64 0, .int .u64 0, .int .u64 0, .int .u64 0] 24 (0, 0)); rw [hwa]; clear hwa; have hzwa := Nat.le_of_eq hz0.symm; have oc := Aside0.mk oc0; have od := Aside0.mk od0; obtain ⟨occ, ocf, ocl⟩ := cells_of oc0; clear oc0 od0 hz0; have HB_ : Aside0 (Below w.heap.size w wa) := ⟨hb_⟩; clear HB hb_; have HB := HB_; clear HB_)
    | ((with_reducible refine gate_dst (N := 61) rfl ?_); have oq := Aside0.mk (blk_put oc.out 2 (.int .u64 v) HD.out); have oe := Aside0.mk (blk_far (p := ⟨w.heap.size, 2, none⟩) od.out (by show _ ≠ _; dsimp only; omega) (.int .u64 v)); subst hv; (try (refine gate_guard (by rfl) ?_; dsimp only)); refine wpList_load_row rfl 24 _ rfl _ (by rfl) _ (C17 d) _ _ oq.out Try.underlying24 rfl J24.out ?_; clear od; have od := oe)
    | ((with_reducible refine gate_store (t := 24) (p := 6) (v := .tmp 61) rfl ?_); refine wpList_store_all rfl 24 _ _ rfl rfl _ (C17 d) (by rfl) (by rfl) _ _ od.out SC.out J24.out OC.out ?_; rintro w1 ⟨hx_, hk_, hb_, hzz_⟩; have HB_ : Aside0 (Below w.heap.size w w1) := Aside0.mk (Below.trans (by repeat (first | (with_reducible first | exact HB.out | exact Below.refl _ _ | apply below_alloc | apply pw_below_drewN | apply below_drew | refine below_set ?_ (by omega)) | exact HB.out)) (Below.mono hb_ (by first | omega | (simp only [sz_alloc, sz_drew, sz_drewN]; omega)))); have hzw1 := hzz_; (try simp at hzw1); clear hzz_; (try clear od odc odf odl); have od := Aside0.mk hx_; obtain ⟨odc, odf, odl⟩ := cells_of od.out; clear HB hb_ hk_ hx_; have HB := HB_; clear HB_))
  refine bodyPost_ret (results_cell_row rfl _ _ (w.heap.size + 1) 24 (C17 d) (0, 0) _ rfl od.out Try.underlying24 rfl J24.out) rfl ⟨rfl, (by repeat (first | (with_reducible first | exact HB.out | exact Below.refl _ _ | apply below_alloc | apply pw_below_drewN | apply below_drew | refine below_set ?_ (by omega)) | exact HB.out))⟩
set_option maxHeartbeats 1600000 in
set_option maxRecDepth 100000 in
theorem mac_772 (c d : Nat → Int) (x v : Int) (w : World) (hd : upd c 3 v = d) (hv : Go.bits .and .u64 x 2730 = v) :
    Calls Try.prog 19 #[.agg (C17 c), .int .i64 772, .int .u64 x] w fun e w' => e = .returned (.agg (C17 d)) ∧ Below w.heap.size w w' := by
  have HB := Aside0.mk (Below.refl w.heap.size w)
  have HD : Aside0 ((C17 c).setIfInBounds 3 (.int .u64 v) = C17 d) := ⟨by rw [← hd]; exact C17_set c v 3 (by decide)⟩
  clear hd
  have J24 : Aside0 ((Try.prog.info? 24).map (·.size) = some (C17 d).size) := ⟨C17_info _ 24 (by kernel_rfl)⟩
  have SC : Aside0 (17 = (C17 d).size) := ⟨rfl⟩
  have OC : Aside0 ((C17 d).all (·.oneCell') = true) := ⟨C17_one _⟩
  have hC3 := C17_at c 3 (by decide)
  go_enter Try.func19, Try.ntmps19
  go_wp2_with (first
    | (obtain ⟨wa, hwa, oc0, od0, hb_, hz0⟩ := letter2 w (.cells (C17 c) 24 (0, 0)) (.cells #[.int .u64 0, .int .u64 0, .int .u64 0, .int .u64 0, .int .u64 0, .int .u64 0, .int .u64 0, .int .u64 0, .int .u64 0, .int .u64 0, .int .u64 0, .int .u64 0, .int .u64 0, .int .u64 0, .int .u64 0, .int .u64 0, .int .u64 0] 24 (0, 0)); rw [hwa]; clear hwa; have hzwa := Nat.le_of_eq hz0.symm; have oc := Aside0.mk oc0; have od := Aside0.mk od0; obtain ⟨occ, ocf, ocl⟩ := cells_of oc0; clear oc0 od0 hz0; have HB_ : Aside0 (Below w.heap.size w wa) := ⟨hb_⟩; clear HB hb_; have HB := HB_; clear HB_)
    | ((with_reducible refine gate_dst (N := 61) rfl ?_); have oq := Aside0.mk (blk_put oc.out 3 (.int .u64 v) HD.out); have oe := Aside0.mk (blk_far (p := ⟨w.heap.size, 3, none⟩) od.out (by show _ ≠ _; dsimp only; omega) (.int .u64 v)); subst hv; (try (refine gate_guard (by rfl) ?_; dsimp only)); refine wpList_load_row rfl 24 _ rfl _ (by rfl) _ (C17 d) _ _ oq.out Try.underlying24 rfl J24.out ?_; clear od; have od := oe)
    | ((with_reducible refine gate_store (t := 24) (p := 6) (v := .tmp 61) rfl ?_); refine wpList_store_all rfl 24 _ _ rfl rfl _ (C17 d) (by rfl) (by rfl) _ _ od.out SC.out J24.out OC.out ?_; rintro w1 ⟨hx_, hk_, hb_, hzz_⟩; have HB_ : Aside0 (Below w.heap.size w w1) := Aside0.mk (Below.trans (by repeat (first | (with_reducible first | exact HB.out | exact Below.refl _ _ | apply below_alloc | apply pw_below_drewN | apply below_drew | refine below_set ?_ (by omega)) | exact HB.out)) (Below.mono hb_ (by first | omega | (simp only [sz_alloc, sz_drew, sz_drewN]; omega)))); have hzw1 := hzz_; (try simp at hzw1); clear hzz_; (try clear od odc odf odl); have od := Aside0.mk hx_; obtain ⟨odc, odf, odl⟩ := cells_of od.out; clear HB hb_ hk_ hx_; have HB := HB_; clear HB_))
  refine bodyPost_ret (results_cell_row rfl _ _ (w.heap.size + 1) 24 (C17 d) (0, 0) _ rfl od.out Try.underlying24 rfl J24.out) rfl ⟨rfl, (by repeat (first | (with_reducible first | exact HB.out | exact Below.refl _ _ | apply below_alloc | apply pw_below_drewN | apply below_drew | refine below_set ?_ (by omega)) | exact HB.out))⟩
set_option maxHeartbeats 1600000 in
set_option maxRecDepth 100000 in
theorem mac_836 (c d : Nat → Int) (x v : Int) (w : World) (hd : upd c 4 v = d) (hv : drawbridgeref05_mixed.f (c 4) x 546 = some v) :
    Calls Try.prog 19 #[.agg (C17 c), .int .i64 836, .int .u64 x] w fun e w' => e = .returned (.agg (C17 d)) ∧ Below w.heap.size w w' := by
  have HB := Aside0.mk (Below.refl w.heap.size w)
  have HD : Aside0 ((C17 c).setIfInBounds 4 (.int .u64 v) = C17 d) := ⟨by rw [← hd]; exact C17_set c v 4 (by decide)⟩
  clear hd
  have HV := Aside0.mk hv
  clear hv
  have J24 : Aside0 ((Try.prog.info? 24).map (·.size) = some (C17 d).size) := ⟨C17_info _ 24 (by kernel_rfl)⟩
  have SC : Aside0 (17 = (C17 d).size) := ⟨rfl⟩
  have OC : Aside0 ((C17 d).all (·.oneCell') = true) := ⟨C17_one _⟩
  have hC4 := C17_at c 4 (by decide)
  go_enter Try.func19, Try.ntmps19
  go_wp2_with (first
    | (go_at_call 26; (with_reducible refine (drawbridgeref05_mixed.calls _ _ _ v _ HV.out).mono ?_); rintro e w' ⟨rfl, hd⟩; obtain ⟨k_, rfl⟩ := hd.out; clear hd; obtain ⟨wa, hwa, oc0, od0, hb_, hz0⟩ := letter2 w (.cells (C17 c) 24 (0, 0)) (.cells #[.int .u64 0, .int .u64 0, .int .u64 0, .int .u64 0, .int .u64 0, .int .u64 0, .int .u64 0, .int .u64 0, .int .u64 0, .int .u64 0, .int .u64 0, .int .u64 0, .int .u64 0, .int .u64 0, .int .u64 0, .int .u64 0, .int .u64 0] 24 (0, 0)); rw [hwa]; clear hwa; have hzwa := Nat.le_of_eq hz0.symm; have oc := Aside0.mk (blk_put (ext_drewN oc0 k_) 4 (.int .u64 v) HD.out); have od := Aside0.mk (blk_far (p := ⟨w.heap.size, 4, none⟩) (ext_drewN od0 k_) (by show _ ≠ _; dsimp only; omega) (.int .u64 v)); obtain ⟨occ, ocf, ocl⟩ := cells_of oc0; clear oc0 od0 hz0; have HB_ : Aside0 (Below w.heap.size w wa) := ⟨hb_⟩; clear HB hb_; have HB := HB_; clear HB_)
    | ((with_reducible refine gate_dst (N := 61) rfl ?_); (try (refine gate_guard (by rfl) ?_; dsimp only)); refine wpList_load_row rfl 24 _ rfl _ (by rfl) _ (C17 d) _ _ (by repeat (with_reducible first | exact oc.out | apply ext_drew | apply ext_drewN | apply ext_alloc | refine blk_far ?_ (by show _ ≠ _; dsimp only; omega) _)) Try.underlying24 rfl J24.out ?_)
    | ((with_reducible refine gate_store (t := 24) (p := 6) (v := .tmp 61) rfl ?_); refine wpList_store_all rfl 24 _ _ rfl rfl _ (C17 d) (by rfl) (by rfl) _ _ od.out SC.out J24.out OC.out ?_; rintro w1 ⟨hx_, hk_, hb_, hzz_⟩; have HB_ : Aside0 (Below w.heap.size w w1) := Aside0.mk (Below.trans (by repeat (first | (with_reducible first | exact HB.out | exact Below.refl _ _ | apply below_alloc | apply pw_below_drewN | apply below_drew | refine below_set ?_ (by omega)) | exact HB.out)) (Below.mono hb_ (by first | omega | (simp only [sz_alloc, sz_drew, sz_drewN]; omega)))); have hzw1 := hzz_; (try simp at hzw1); clear hzz_; (try clear od odc odf odl); have od := Aside0.mk hx_; obtain ⟨odc, odf, odl⟩ := cells_of od.out; clear HB hb_ hk_ hx_; have HB := HB_; clear HB_))
  refine bodyPost_ret (results_cell_row rfl _ _ (w.heap.size + 1) 24 (C17 d) (0, 0) _ rfl od.out Try.underlying24 rfl J24.out) rfl ⟨rfl, (by repeat (first | (with_reducible first | exact HB.out | exact Below.refl _ _ | apply below_alloc | apply pw_below_drewN | apply below_drew | refine below_set ?_ (by omega)) | exact HB.out))⟩
set_option maxHeartbeats 1600000 in
set_option maxRecDepth 100000 in
theorem mac_773 (c d : Nat → Int) (x v : Int) (w : World) (hd : upd c 5 v = d) (hv : Go.bits .andNot .u64 x 2 = v) :
    Calls Try.prog 19 #[.agg (C17 c), .int .i64 773, .int .u64 x] w fun e w' => e = .returned (.agg (C17 d)) ∧ Below w.heap.size w w' := by
  have HB := Aside0.mk (Below.refl w.heap.size w)
  have HD : Aside0 ((C17 c).setIfInBounds 5 (.int .u64 v) = C17 d) := ⟨by rw [← hd]; exact C17_set c v 5 (by decide)⟩
  clear hd
  have J24 : Aside0 ((Try.prog.info? 24).map (·.size) = some (C17 d).size) := ⟨C17_info _ 24 (by kernel_rfl)⟩
  have SC : Aside0 (17 = (C17 d).size) := ⟨rfl⟩
  have OC : Aside0 ((C17 d).all (·.oneCell') = true) := ⟨C17_one _⟩
  have hC5 := C17_at c 5 (by decide)
  go_enter Try.func19, Try.ntmps19
  go_wp2_with (first
    | (obtain ⟨wa, hwa, oc0, od0, hb_, hz0⟩ := letter2 w (.cells (C17 c) 24 (0, 0)) (.cells #[.int .u64 0, .int .u64 0, .int .u64 0, .int .u64 0, .int .u64 0, .int .u64 0, .int .u64 0, .int .u64 0, .int .u64 0, .int .u64 0, .int .u64 0, .int .u64 0, .int .u64 0, .int .u64 0, .int .u64 0, .int .u64 0, .int .u64 0] 24 (0, 0)); rw [hwa]; clear hwa; have hzwa := Nat.le_of_eq hz0.symm; have oc := Aside0.mk oc0; have od := Aside0.mk od0; obtain ⟨occ, ocf, ocl⟩ := cells_of oc0; clear oc0 od0 hz0; have HB_ : Aside0 (Below w.heap.size w wa) := ⟨hb_⟩; clear HB hb_; have HB := HB_; clear HB_)
    | ((with_reducible refine gate_dst (N := 61) rfl ?_); have oq := Aside0.mk (blk_put oc.out 5 (.int .u64 v) HD.out); have oe := Aside0.mk (blk_far (p := ⟨w.heap.size, 5, none⟩) od.out (by show _ ≠ _; dsimp only; omega) (.int .u64 v)); subst hv; (try (refine gate_guard (by rfl) ?_; dsimp only)); refine wpList_load_row rfl 24 _ rfl _ (by rfl) _ (C17 d) _ _ oq.out Try.underlying24 rfl J24.out ?_; clear od; have od := oe)
    | ((with_reducible refine gate_store (t := 24) (p := 6) (v := .tmp 61) rfl ?_); refine wpList_store_all rfl 24 _ _ rfl rfl _ (C17 d) (by rfl) (by rfl) _ _ od.out SC.out J24.out OC.out ?_; rintro w1 ⟨hx_, hk_, hb_, hzz_⟩; have HB_ : Aside0 (Below w.heap.size w w1) := Aside0.mk (Below.trans (by repeat (first | (with_reducible first | exact HB.out | exact Below.refl _ _ | apply below_alloc | apply pw_below_drewN | apply below_drew | refine below_set ?_ (by omega)) | exact HB.out)) (Below.mono hb_ (by first | omega | (simp only [sz_alloc, sz_drew, sz_drewN]; omega)))); have hzw1 := hzz_; (try simp at hzw1); clear hzz_; (try clear od odc odf odl); have od := Aside0.mk hx_; obtain ⟨odc, odf, odl⟩ := cells_of od.out; clear HB hb_ hk_ hx_; have HB := HB_; clear HB_))
  refine bodyPost_ret (results_cell_row rfl _ _ (w.heap.size + 1) 24 (C17 d) (0, 0) _ rfl od.out Try.underlying24 rfl J24.out) rfl ⟨rfl, (by repeat (first | (with_reducible first | exact HB.out | exact Below.refl _ _ | apply below_alloc | apply pw_below_drewN | apply below_drew | refine below_set ?_ (by omega)) | exact HB.out))⟩
set_option maxHeartbeats 1600000 in
set_option maxRecDepth 100000 in
theorem mac_832 (c d : Nat → Int) (x v : Int) (w : World) (hd : upd c 6 v = d) (hv : x = v) :
    Calls Try.prog 19 #[.agg (C17 c), .int .i64 832, .int .u64 x] w fun e w' => e = .returned (.agg (C17 d)) ∧ Below w.heap.size w w' := by
  have HB := Aside0.mk (Below.refl w.heap.size w)
  have HD : Aside0 ((C17 c).setIfInBounds 6 (.int .u64 v) = C17 d) := ⟨by rw [← hd]; exact C17_set c v 6 (by decide)⟩
  clear hd
  have J24 : Aside0 ((Try.prog.info? 24).map (·.size) = some (C17 d).size) := ⟨C17_info _ 24 (by kernel_rfl)⟩
  have SC : Aside0 (17 = (C17 d).size) := ⟨rfl⟩
  have OC : Aside0 ((C17 d).all (·.oneCell') = true) := ⟨C17_one _⟩
  have hC6 := C17_at c 6 (by decide)
  go_enter Try.func19, Try.ntmps19
  go_wp2_with (first
    | (obtain ⟨wa, hwa, oc0, od0, hb_, hz0⟩ := letter2 w (.cells (C17 c) 24 (0, 0)) (.cells #[.int .u64 0, .int .u64 0, .int .u64 0, .int .u64 0, .int .u64 0, .int .u64 0, .int .u64 0, .int .u64 0, .int .u64 0, .int .u64 0, .int .u64 0, .int .u64 0, .int .u64 0, .int .u64 0, .int .u64 0, .int .u64 0, .int .u64 0] 24 (0, 0)); rw [hwa]; clear hwa; have hzwa := Nat.le_of_eq hz0.symm; have oc := Aside0.mk oc0; have od := Aside0.mk od0; obtain ⟨occ, ocf, ocl⟩ := cells_of oc0; clear oc0 od0 hz0; have HB_ : Aside0 (Below w.heap.size w wa) := ⟨hb_⟩; clear HB hb_; have HB := HB_; clear HB_)
    | ((with_reducible refine gate_dst (N := 61) rfl ?_); have oq := Aside0.mk (blk_put oc.out 6 (.int .u64 v) HD.out); have oe := Aside0.mk (blk_far (p := ⟨w.heap.size, 6, none⟩) od.out (by show _ ≠ _; dsimp only; omega) (.int .u64 v)); subst hv; (try (refine gate_guard (by rfl) ?_; dsimp only)); refine wpList_load_row rfl 24 _ rfl _ (by rfl) _ (C17 d) _ _ oq.out Try.underlying24 rfl J24.out ?_; clear od; have od := oe)
    | ((with_reducible refine gate_store (t := 24) (p := 6) (v := .tmp 61) rfl ?_); refine wpList_store_all rfl 24 _ _ rfl rfl _ (C17 d) (by rfl) (by rfl) _ _ od.out SC.out J24.out OC.out ?_; rintro w1 ⟨hx_, hk_, hb_, hzz_⟩; have HB_ : Aside0 (Below w.heap.size w w1) := Aside0.mk (Below.trans (by repeat (first | (with_reducible first | exact HB.out | exact Below.refl _ _ | apply below_alloc | apply pw_below_drewN | apply below_drew | refine below_set ?_ (by omega)) | exact HB.out)) (Below.mono hb_ (by first | omega | (simp only [sz_alloc, sz_drew, sz_drewN]; omega)))); have hzw1 := hzz_; (try simp at hzw1); clear hzz_; (try clear od odc odf odl); have od := Aside0.mk hx_; obtain ⟨odc, odf, odl⟩ := cells_of od.out; clear HB hb_ hk_ hx_; have HB := HB_; clear HB_))
  refine bodyPost_ret (results_cell_row rfl _ _ (w.heap.size + 1) 24 (C17 d) (0, 0) _ rfl od.out Try.underlying24 rfl J24.out) rfl ⟨rfl, (by repeat (first | (with_reducible first | exact HB.out | exact Below.refl _ _ | apply below_alloc | apply pw_below_drewN | apply below_drew | refine below_set ?_ (by omega)) | exact HB.out))⟩
set_option maxHeartbeats 1600000 in
set_option maxRecDepth 100000 in
theorem mac_833 (c d : Nat → Int) (x v : Int) (w : World) (hd : upd c 7 v = d) (hv : Go.bits .andNot .u64 x 1 = v) :
    Calls Try.prog 19 #[.agg (C17 c), .int .i64 833, .int .u64 x] w fun e w' => e = .returned (.agg (C17 d)) ∧ Below w.heap.size w w' := by
  have HB := Aside0.mk (Below.refl w.heap.size w)
  have HD : Aside0 ((C17 c).setIfInBounds 7 (.int .u64 v) = C17 d) := ⟨by rw [← hd]; exact C17_set c v 7 (by decide)⟩
  clear hd
  have J24 : Aside0 ((Try.prog.info? 24).map (·.size) = some (C17 d).size) := ⟨C17_info _ 24 (by kernel_rfl)⟩
  have SC : Aside0 (17 = (C17 d).size) := ⟨rfl⟩
  have OC : Aside0 ((C17 d).all (·.oneCell') = true) := ⟨C17_one _⟩
  have hC7 := C17_at c 7 (by decide)
  go_enter Try.func19, Try.ntmps19
  go_wp2_with (first
    | (obtain ⟨wa, hwa, oc0, od0, hb_, hz0⟩ := letter2 w (.cells (C17 c) 24 (0, 0)) (.cells #[.int .u64 0, .int .u64 0, .int .u64 0, .int .u64 0, .int .u64 0, .int .u64 0, .int .u64 0, .int .u64 0, .int .u64 0, .int .u64 0, .int .u64 0, .int .u64 0, .int .u64 0, .int .u64 0, .int .u64 0, .int .u64 0, .int .u64 0] 24 (0, 0)); rw [hwa]; clear hwa; have hzwa := Nat.le_of_eq hz0.symm; have oc := Aside0.mk oc0; have od := Aside0.mk od0; obtain ⟨occ, ocf, ocl⟩ := cells_of oc0; clear oc0 od0 hz0; have HB_ : Aside0 (Below w.heap.size w wa) := ⟨hb_⟩; clear HB hb_; have HB := HB_; clear HB_)
    | ((with_reducible refine gate_dst (N := 61) rfl ?_); have oq := Aside0.mk (blk_put oc.out 7 (.int .u64 v) HD.out); have oe := Aside0.mk (blk_far (p := ⟨w.heap.size, 7, none⟩) od.out (by show _ ≠ _; dsimp only; omega) (.int .u64 v)); subst hv; (try (refine gate_guard (by rfl) ?_; dsimp only)); refine wpList_load_row rfl 24 _ rfl _ (by rfl) _ (C17 d) _ _ oq.out Try.underlying24 rfl J24.out ?_; clear od; have od := oe)
    | ((with_reducible refine gate_store (t := 24) (p := 6) (v := .tmp 61) rfl ?_); refine wpList_store_all rfl 24 _ _ rfl rfl _ (C17 d) (by rfl) (by rfl) _ _ od.out SC.out J24.out OC.out ?_; rintro w1 ⟨hx_, hk_, hb_, hzz_⟩; have HB_ : Aside0 (Below w.heap.size w w1) := Aside0.mk (Below.trans (by repeat (first | (with_reducible first | exact HB.out | exact Below.refl _ _ | apply below_alloc | apply pw_below_drewN | apply below_drew | refine below_set ?_ (by omega)) | exact HB.out)) (Below.mono hb_ (by first | omega | (simp only [sz_alloc, sz_drew, sz_drewN]; omega)))); have hzw1 := hzz_; (try simp at hzw1); clear hzz_; (try clear od odc odf odl); have od := Aside0.mk hx_; obtain ⟨odc, odf, odl⟩ := cells_of od.out; clear HB hb_ hk_ hx_; have HB := HB_; clear HB_))
  refine bodyPost_ret (results_cell_row rfl _ _ (w.heap.size + 1) 24 (C17 d) (0, 0) _ rfl od.out Try.underlying24 rfl J24.out) rfl ⟨rfl, (by repeat (first | (with_reducible first | exact HB.out | exact Below.refl _ _ | apply below_alloc | apply pw_below_drewN | apply below_drew | refine below_set ?_ (by omega)) | exact HB.out))⟩
set_option maxHeartbeats 1600000 in
set_option maxRecDepth 100000 in
theorem mac_834 (c d : Nat → Int) (x v : Int) (w : World) (hd : upd c 8 v = d) (hv : x = v) :
    Calls Try.prog 19 #[.agg (C17 c), .int .i64 834, .int .u64 x] w fun e w' => e = .returned (.agg (C17 d)) ∧ Below w.heap.size w w' := by
  have HB := Aside0.mk (Below.refl w.heap.size w)
  have HD : Aside0 ((C17 c).setIfInBounds 8 (.int .u64 v) = C17 d) := ⟨by rw [← hd]; exact C17_set c v 8 (by decide)⟩
  clear hd
  have J24 : Aside0 ((Try.prog.info? 24).map (·.size) = some (C17 d).size) := ⟨C17_info _ 24 (by kernel_rfl)⟩
  have SC : Aside0 (17 = (C17 d).size) := ⟨rfl⟩
  have OC : Aside0 ((C17 d).all (·.oneCell') = true) := ⟨C17_one _⟩
  have hC8 := C17_at c 8 (by decide)
  go_enter Try.func19, Try.ntmps19
  go_wp2_with (first
    | (obtain ⟨wa, hwa, oc0, od0, hb_, hz0⟩ := letter2 w (.cells (C17 c) 24 (0, 0)) (.cells #[.int .u64 0, .int .u64 0, .int .u64 0, .int .u64 0, .int .u64 0, .int .u64 0, .int .u64 0, .int .u64 0, .int .u64 0, .int .u64 0, .int .u64 0, .int .u64 0, .int .u64 0, .int .u64 0, .int .u64 0, .int .u64 0, .int .u64 0] 24 (0, 0)); rw [hwa]; clear hwa; have hzwa := Nat.le_of_eq hz0.symm; have oc := Aside0.mk oc0; have od := Aside0.mk od0; obtain ⟨occ, ocf, ocl⟩ := cells_of oc0; clear oc0 od0 hz0; have HB_ : Aside0 (Below w.heap.size w wa) := ⟨hb_⟩; clear HB hb_; have HB := HB_; clear HB_)
    | ((with_reducible refine gate_dst (N := 61) rfl ?_); have oq := Aside0.mk (blk_put oc.out 8 (.int .u64 v) HD.out); have oe := Aside0.mk (blk_far (p := ⟨w.heap.size, 8, none⟩) od.out (by show _ ≠ _; dsimp only; omega) (.int .u64 v)); subst hv; (try (refine gate_guard (by rfl) ?_; dsimp only)); refine wpList_load_row rfl 24 _ rfl _ (by rfl) _ (C17 d) _ _ oq.out Try.underlying24 rfl J24.out ?_; clear od; have od := oe)
    | ((with_reducible refine gate_store (t := 24) (p := 6) (v := .tmp 61) rfl ?_); refine wpList_store_all rfl 24 _ _ rfl rfl _ (C17 d) (by rfl) (by rfl) _ _ od.out SC.out J24.out OC.out ?_; rintro w1 ⟨hx_, hk_, hb_, hzz_⟩; have HB_ : Aside0 (Below w.heap.size w w1) := Aside0.mk (Below.trans (by repeat (first | (with_reducible first | exact HB.out | exact Below.refl _ _ | apply below_alloc | apply pw_below_drewN | apply below_drew | refine below_set ?_ (by omega)) | exact HB.out)) (Below.mono hb_ (by first | omega | (simp only [sz_alloc, sz_drew, sz_drewN]; omega)))); have hzw1 := hzz_; (try simp at hzw1); clear hzz_; (try clear od odc odf odl); have od := Aside0.mk hx_; obtain ⟨odc, odf, odl⟩ := cells_of od.out; clear HB hb_ hk_ hx_; have HB := HB_; clear HB_))
  refine bodyPost_ret (results_cell_row rfl _ _ (w.heap.size + 1) 24 (C17 d) (0, 0) _ rfl od.out Try.underlying24 rfl J24.out) rfl ⟨rfl, (by repeat (first | (with_reducible first | exact HB.out | exact Below.refl _ _ | apply below_alloc | apply pw_below_drewN | apply below_drew | refine below_set ?_ (by omega)) | exact HB.out))⟩
set_option maxHeartbeats 1600000 in
set_option maxRecDepth 100000 in
theorem mac_835 (c d : Nat → Int) (x v : Int) (w : World) (hd : upd c 9 v = d) (hv : x = v) :
    Calls Try.prog 19 #[.agg (C17 c), .int .i64 835, .int .u64 x] w fun e w' => e = .returned (.agg (C17 d)) ∧ Below w.heap.size w w' := by
  have HB := Aside0.mk (Below.refl w.heap.size w)
  have HD : Aside0 ((C17 c).setIfInBounds 9 (.int .u64 v) = C17 d) := ⟨by rw [← hd]; exact C17_set c v 9 (by decide)⟩
  clear hd
  have J24 : Aside0 ((Try.prog.info? 24).map (·.size) = some (C17 d).size) := ⟨C17_info _ 24 (by kernel_rfl)⟩
  have SC : Aside0 (17 = (C17 d).size) := ⟨rfl⟩
  have OC : Aside0 ((C17 d).all (·.oneCell') = true) := ⟨C17_one _⟩
  have hC9 := C17_at c 9 (by decide)
  go_enter Try.func19, Try.ntmps19
  go_wp2_with (first
    | (obtain ⟨wa, hwa, oc0, od0, hb_, hz0⟩ := letter2 w (.cells (C17 c) 24 (0, 0)) (.cells #[.int .u64 0, .int .u64 0, .int .u64 0, .int .u64 0, .int .u64 0, .int .u64 0, .int .u64 0, .int .u64 0, .int .u64 0, .int .u64 0, .int .u64 0, .int .u64 0, .int .u64 0, .int .u64 0, .int .u64 0, .int .u64 0, .int .u64 0] 24 (0, 0)); rw [hwa]; clear hwa; have hzwa := Nat.le_of_eq hz0.symm; have oc := Aside0.mk oc0; have od := Aside0.mk od0; obtain ⟨occ, ocf, ocl⟩ := cells_of oc0; clear oc0 od0 hz0; have HB_ : Aside0 (Below w.heap.size w wa) := ⟨hb_⟩; clear HB hb_; have HB := HB_; clear HB_)
    | ((with_reducible refine gate_dst (N := 61) rfl ?_); have oq := Aside0.mk (blk_put oc.out 9 (.int .u64 v) HD.out); have oe := Aside0.mk (blk_far (p := ⟨w.heap.size, 9, none⟩) od.out (by show _ ≠ _; dsimp only; omega) (.int .u64 v)); subst hv; (try (refine gate_guard (by rfl) ?_; dsimp only)); refine wpList_load_row rfl 24 _ rfl _ (by rfl) _ (C17 d) _ _ oq.out Try.underlying24 rfl J24.out ?_; clear od; have od := oe)
    | ((with_reducible refine gate_store (t := 24) (p := 6) (v := .tmp 61) rfl ?_); refine wpList_store_all rfl 24 _ _ rfl rfl _ (C17 d) (by rfl) (by rfl) _ _ od.out SC.out J24.out OC.out ?_; rintro w1 ⟨hx_, hk_, hb_, hzz_⟩; have HB_ : Aside0 (Below w.heap.size w w1) := Aside0.mk (Below.trans (by repeat (first | (with_reducible first | exact HB.out | exact Below.refl _ _ | apply below_alloc | apply pw_below_drewN | apply below_drew | refine below_set ?_ (by omega)) | exact HB.out)) (Below.mono hb_ (by first | omega | (simp only [sz_alloc, sz_drew, sz_drewN]; omega)))); have hzw1 := hzz_; (try simp at hzw1); clear hzz_; (try clear od odc odf odl); have od := Aside0.mk hx_; obtain ⟨odc, odf, odl⟩ := cells_of od.out; clear HB hb_ hk_ hx_; have HB := HB_; clear HB_))
  refine bodyPost_ret (results_cell_row rfl _ _ (w.heap.size + 1) 24 (C17 d) (0, 0) _ rfl od.out Try.underlying24 rfl J24.out) rfl ⟨rfl, (by repeat (first | (with_reducible first | exact HB.out | exact Below.refl _ _ | apply below_alloc | apply pw_below_drewN | apply below_drew | refine below_set ?_ (by omega)) | exact HB.out))⟩
set_option maxHeartbeats 1600000 in
set_option maxRecDepth 100000 in
theorem mac_2816 (c d : Nat → Int) (x v : Int) (w : World) (hd : upd c 16 v = d) (hv : x = v) :
    Calls Try.prog 19 #[.agg (C17 c), .int .i64 2816, .int .u64 x] w fun e w' => e = .returned (.agg (C17 d)) ∧ Below w.heap.size w w' := by
  have HB := Aside0.mk (Below.refl w.heap.size w)
  have HD : Aside0 ((C17 c).setIfInBounds 16 (.int .u64 v) = C17 d) := ⟨by rw [← hd]; exact C17_set c v 16 (by decide)⟩
  clear hd
  have J24 : Aside0 ((Try.prog.info? 24).map (·.size) = some (C17 d).size) := ⟨C17_info _ 24 (by kernel_rfl)⟩
  have SC : Aside0 (17 = (C17 d).size) := ⟨rfl⟩
  have OC : Aside0 ((C17 d).all (·.oneCell') = true) := ⟨C17_one _⟩
  have hC16 := C17_at c 16 (by decide)
  go_enter Try.func19, Try.ntmps19
  go_wp2_with (first
    | (obtain ⟨wa, hwa, oc0, od0, hb_, hz0⟩ := letter2 w (.cells (C17 c) 24 (0, 0)) (.cells #[.int .u64 0, .int .u64 0, .int .u64 0, .int .u64 0, .int .u64 0, .int .u64 0, .int .u64 0, .int .u64 0, .int .u64 0, .int .u64 0, .int .u64 0, .int .u64 0, .int .u64 0, .int .u64 0, .int .u64 0, .int .u64 0, .int .u64 0] 24 (0, 0)); rw [hwa]; clear hwa; have hzwa := Nat.le_of_eq hz0.symm; have oc := Aside0.mk oc0; have od := Aside0.mk od0; obtain ⟨occ, ocf, ocl⟩ := cells_of oc0; clear oc0 od0 hz0; have HB_ : Aside0 (Below w.heap.size w wa) := ⟨hb_⟩; clear HB hb_; have HB := HB_; clear HB_)
    | ((with_reducible refine gate_dst (N := 61) rfl ?_); have oq := Aside0.mk (blk_put oc.out 16 (.int .u64 v) HD.out); have oe := Aside0.mk (blk_far (p := ⟨w.heap.size, 16, none⟩) od.out (by show _ ≠ _; dsimp only; omega) (.int .u64 v)); subst hv; (try (refine gate_guard (by rfl) ?_; dsimp only)); refine wpList_load_row rfl 24 _ rfl _ (by rfl) _ (C17 d) _ _ oq.out Try.underlying24 rfl J24.out ?_; clear od; have od := oe)
    | ((with_reducible refine gate_store (t := 24) (p := 6) (v := .tmp 61) rfl ?_); refine wpList_store_all rfl 24 _ _ rfl rfl _ (C17 d) (by rfl) (by rfl) _ _ od.out SC.out J24.out OC.out ?_; rintro w1 ⟨hx_, hk_, hb_, hzz_⟩; have HB_ : Aside0 (Below w.heap.size w w1) := Aside0.mk (Below.trans (by repeat (first | (with_reducible first | exact HB.out | exact Below.refl _ _ | apply below_alloc | apply pw_below_drewN | apply below_drew | refine below_set ?_ (by omega)) | exact HB.out)) (Below.mono hb_ (by first | omega | (simp only [sz_alloc, sz_drew, sz_drewN]; omega)))); have hzw1 := hzz_; (try simp at hzw1); clear hzz_; (try clear od odc odf odl); have od := Aside0.mk hx_; obtain ⟨odc, odf, odl⟩ := cells_of od.out; clear HB hb_ hk_ hx_; have HB := HB_; clear HB_))
  refine bodyPost_ret (results_cell_row rfl _ _ (w.heap.size + 1) 24 (C17 d) (0, 0) _ rfl od.out Try.underlying24 rfl J24.out) rfl ⟨rfl, (by repeat (first | (with_reducible first | exact HB.out | exact Below.refl _ _ | apply below_alloc | apply pw_below_drewN | apply below_drew | refine below_set ?_ (by omega)) | exact HB.out))⟩
end Go.Proofs.Ytncdhfigfbhohaa.Q
