import Derived.Test.YtgcpedenlbcdgaaHZ2
import Derived.Test.YtgcpedenlbcdgaaHQx2
import Derived.RegionTactic
import Derived.Deep.RegionHeld3
import Derived.Deep.RegionWith
import Derived.Deep.DrawnRows
import Derived.Deep.QuietTactic
import Derived.BigQuiet
/- decode.system. -/
namespace Go.Proofs.Ytgcpedenlbcdgaa.Q
open Go.RowKit Go.Proofs.YtgcpedenlbcdgaaW.PrintWords Go.Proofs.YtgcpedenlbcdgaaW.PrintLast Go.Proofs.YtgcpedenlbcdgaaW.PrintMore Go.Proofs.Ytgcpedenlbcdgaa.L
attribute [local go_sem] Instr.field part asAgg lt_step max2_int min2_int max_two min_two max_three min_three max_four min_four lt_0_1 lt_0_2 lt_1_2 lt_0_3 lt_1_3 lt_2_3 lt_0_4 lt_1_4 lt_2_4 lt_3_4 lt_0_5 lt_1_5 lt_2_5 lt_3_5 lt_4_5 lt_0_6 lt_1_6 lt_2_6 lt_3_6 lt_4_6 lt_5_6 lt_0_7 lt_1_7 lt_2_7 lt_3_7 lt_4_7 lt_5_7 lt_6_7 lt_0_8 lt_1_8 lt_2_8 lt_3_8 lt_4_8 lt_5_8 lt_6_8 lt_7_8
set_option linter.unusedVariables false
set_option linter.unusedSimpArgs false
attribute [local go_sem ↓] Go.wp_at_zero Go.wp_at_succ
section
variable (g : Nat) (x f rd r1 r2 : Int) (w : World)
set_option maxHeartbeats 1600000 in
set_option maxRecDepth 100000 in
theorem system_b (hg : w.heap[g]? = some (.cells #[.int .u32 x] 23 (0, 0))) (hx : u32B x) (hi : ¬ 0 ≤ idxZ x) (hf : (f == 0) = true) (hk : (fieldZ x 31 25 == 9) = true) :
    Calls Try.prog 35 #[.int .u32 x, .func (.func 52) #[] #[.pointer (some ⟨g, 0, none⟩)], .agg #[.int .i64 0, .int .i64 f, .bool false, .int .i64 rd, .int .i64 r1, .int .i64 r2, .int .u64 0]] w fun e w' => e = .returned (.tuple #[.agg #[.int .i64 11, .int .i64 5, .bool false, .int .i64 0, .int .i64 r1, .int .i64 r2, .int .u64 0], .bool (rd == 0)]) ∧ Below w.heap.size w w' := by
  have hgl := (cells_of hg).2.2
  have HG := Aside0.mk hg
  have HX := Aside0.mk hx
  have HB := Aside0.mk (Below.refl w.heap.size w)
  clear hg hx
  have IX : Aside0 (∀ p W, W.heap[p]? = some (.cells #[.int .u32 115, .int .u32 1048691, .int .u32 270532723, .int .u32 807403635, .int .u32 273678451] 59 (0, 0)) → Calls Try.prog 55 #[.slice (some ⟨p, 0, none⟩) 5 5, .int .u32 x] W fun e w' => e = .returned (.int .i64 (idxZ x)) ∧ Drawn0 W w') := ⟨fun p W hp => index_call p x W hp⟩
  go_enter Try.func35, Try.ntmps35
  go_upto_region 1 with fail
  obtain ⟨wa, hwa, oc0, od0, hb_, hz0⟩ := letter2 w (.cells #[.int .i64 0, .int .i64 f, .bool false, .int .i64 rd, .int .i64 r1, .int .i64 r2, .int .u64 0] 30 (0, 0)) (.cells #[.int .i64 0, .int .i64 0, .bool false, .int .i64 0, .int .i64 0, .int .i64 0, .int .u64 0] 30 (0, 0))
  rw [hwa]
  clear hwa
  have hzwa := Nat.le_of_eq hz0.symm
  clear hz0
  have HG_ := Aside0.mk (box_below hb_ HG.out)
  clear HG; have HG := HG_; clear HG_
  have oc := Aside0.mk oc0
  have od := Aside0.mk od0
  clear oc0 od0
  obtain ⟨occ, ocf, ocl⟩ := cells_of oc.out
  obtain ⟨odc, odf, odl⟩ := cells_of od.out
  have HB_ : Aside0 (Below w.heap.size w wa) := ⟨hb_⟩
  clear HB hb_; have HB := HB_; clear HB_
  go_wp2_with fail
  have HGl := (cells_of HG.out).2.2
  (go_at_call 44; (with_reducible refine (systems_runs _).mono ?_); rintro e_ w1 ⟨rfl, hb_⟩; have HB_ : Aside0 (Below w.heap.size w w1) := Aside0.mk (below_step (by repeat (first | (with_reducible first | exact HB.out | exact Below.refl _ _ | apply below_alloc | apply pw_below_drewN | apply below_drew | refine below_set ?_ (by omega)) | exact HB.out)) hb_); have hzw1 := hb_.size; (try simp at hzw1); have oc_ := Aside0.mk (box_below hb_ (by repeat (with_reducible first | exact oc.out | apply ext_drew | apply ext_drewN | apply ext_alloc | refine blk_far ?_ (by show _ ≠ _; dsimp only; omega) _))); have od_ := Aside0.mk (box_below hb_ (by repeat (with_reducible first | exact od.out | apply ext_drew | apply ext_drewN | apply ext_alloc | refine blk_far ?_ (by show _ ≠ _; dsimp only; omega) _))); have HG_ := Aside0.mk (box_below hb_ (by repeat (with_reducible first | exact HG.out | apply ext_drew | apply ext_drewN | apply ext_alloc | refine blk_far ?_ (by show _ ≠ _; dsimp only; omega) _))); (try clear oc occ ocf ocl); have oc := oc_; clear oc_; obtain ⟨occ, ocf, ocl⟩ := cells_of oc.out; (try clear od odc odf odl); have od := od_; clear od_; obtain ⟨odc, odf, odl⟩ := cells_of od.out; (try clear HG HGc HGf HGl); have HG := HG_; clear HG_; obtain ⟨HGc, HGf, HGl⟩ := cells_of HG.out; clear HB hb_; have HB := HB_; clear HB_)
  go_upto_region 3 with (first | (go_at_call 55; (with_reducible refine (IX.out _ _ (by repeat (with_reducible first | exact nb_1 _ _ | apply ext_drew | apply ext_drewN | apply ext_alloc | refine blk_far ?_ (by show _ ≠ _; dsimp only; omega) _))).mono ?_); rintro e_ w_ ⟨rfl, hd_⟩; obtain ⟨n_, rfl⟩ := hd_.out; clear hd_))
  obtain ⟨w2, hw2, hb_⟩ := letterD w1 (.cells #[.int .u32 115, .int .u32 1048691, .int .u32 270532723, .int .u32 807403635, .int .u32 273678451] 59 (0, 0)) n_
  rw [hw2]
  clear hw2
  have HG_ := Aside0.mk (box_below hb_ HG.out)
  have oc_ := Aside0.mk (box_below hb_ oc.out)
  have od_ := Aside0.mk (box_below hb_ od.out)
  have HB_ : Aside0 (Below w.heap.size w w2) := Aside0.mk (Below.trans HB.out (hb_.mono (by omega)))
  clear HG oc od HB occ ocf ocl odc odf odl HGc HGf HGl hb_ IX
  have HG := HG_; have oc := oc_; have od := od_; have HB := HB_
  clear HG_ oc_ od_ HB_
  obtain ⟨occ, ocf, ocl⟩ := cells_of oc.out
  obtain ⟨odc, odf, odl⟩ := cells_of od.out
  go_upto_region 7 with fail
  have hSz : (w2.drew).cell? ⟨w.heap.size, 3, none⟩ = some (.int .i64 rd) ∧ (w2.drew).cell? ⟨w.heap.size, 4, none⟩ = some (.int .i64 r1) ∧ (w2.drew).cell? ⟨w.heap.size, 5, none⟩ = some (.int .i64 r2) := ⟨(occ 3).trans rfl, (occ 4).trans rfl, (occ 5).trans rfl⟩
  refine start_ (n := 15) (S := fun w' => w'.cell? ⟨w.heap.size, 3, none⟩ = some (.int .i64 rd) ∧ w'.cell? ⟨w.heap.size, 4, none⟩ = some (.int .i64 r1) ∧ w'.cell? ⟨w.heap.size, 5, none⟩ = some (.int .i64 r2)) (ds := []) #[false, false, false, false, false, false, false, false, false, false, false, false, false, false, false] (by kernel_rfl) rfl rfl hSz (fun hHeld => ?_)
  refine pure_ (i := 0) (N := some 22) (v := ?_) (a' := ?_) #[true, false, false, false, false, false, false, false, false, false, false, false, false, false, false] rfl rfl (by kernel_rfl) (fun _ _ _ h => h) (Or.inl ⟨by rfl, ?_⟩) ?_ ?_
  rotate_left
  · intro w'
    go_simp
    with_reducible rfl
  rotate_left
  · simp only [Act.put, List.setIfInBounds_toArray, List.set_cons_zero, List.set_cons_succ, i64_w, i32_w]
    rfl
  refine pure_ (i := 2) (N := some 24) (v := ?_) (a' := ?_) #[true, false, true, false, false, false, false, false, false, false, false, false, false, false, false] rfl rfl (by kernel_rfl) (fun _ _ _ h => h) (Or.inl ⟨by rfl, ?_⟩) ?_ ?_
  rotate_left
  · intro w'
    go_simp
    with_reducible rfl
  rotate_left
  · simp only [Act.put, List.setIfInBounds_toArray, List.set_cons_zero, List.set_cons_succ, i64_w, i32_w]
    rfl
  refine pure_ (i := 5) (N := some 27) (v := ?_) (a' := ?_) #[true, false, true, false, false, true, false, false, false, false, false, false, false, false, false] rfl rfl (by kernel_rfl) (fun _ _ _ h => h) (Or.inl ⟨by rfl, ?_⟩) ?_ ?_
  rotate_left
  · intro w'
    go_simp
    with_reducible rfl
  rotate_left
  · simp only [Act.put, List.setIfInBounds_toArray, List.set_cons_zero, List.set_cons_succ, i64_w, i32_w]
    rfl
  refine take_ (i := 1) (N := some 23) (v := ?_) (a' := ?_) #[true, true, true, false, false, true, false, false, false, false, false, false, false, false, false] rfl rfl (by kernel_rfl) (fun _ _ _ h => h) (Or.inl ⟨by rfl, ?_⟩) hHeld ?_ ?_
  rotate_left
  · rintro w' ⟨s0, s1, s2⟩
    go_simp
    with_reducible rfl
  rotate_left
  · simp only [Act.put, List.setIfInBounds_toArray, List.set_cons_zero, List.set_cons_succ, i64_w, i32_w]
    rfl
  refine take_ (i := 3) (N := some 25) (v := ?_) (a' := ?_) #[true, true, true, true, false, true, false, false, false, false, false, false, false, false, false] rfl rfl (by kernel_rfl) (fun _ _ _ h => h) (Or.inl ⟨by rfl, ?_⟩) hHeld ?_ ?_
  rotate_left
  · rintro w' ⟨s0, s1, s2⟩
    go_simp
    with_reducible rfl
  rotate_left
  · simp only [Act.put, List.setIfInBounds_toArray, List.set_cons_zero, List.set_cons_succ, i64_w, i32_w]
    rfl
  refine pure_ (i := 4) (N := some 26) (v := ?_) (a' := ?_) #[true, true, true, true, true, true, false, false, false, false, false, false, false, false, false] rfl rfl (by kernel_rfl) (fun _ _ _ h => h) (Or.inl ⟨by rfl, ?_⟩) ?_ ?_
  rotate_left
  · intro w'
    go_simp
    with_reducible rfl
  rotate_left
  · simp only [Act.put, List.setIfInBounds_toArray, List.set_cons_zero, List.set_cons_succ, i64_w, i32_w]
    rfl
  refine one_ (i := 6) (N := some 28) #[true, true, true, true, true, true, true, false, false, false, false, false, false, false, false] rfl rfl (by kernel_rfl) (by decide) (fun K hK => ?_)
  refine call_ 52 #[.int .i64 31, .int .i64 25, .pointer (some ⟨g, 0, none⟩)] (by rfl) rfl (by go_simp) ?_
  with_reducible refine (fl_runs g x _ _ _ (by repeat (with_reducible first | exact HG.out | apply ext_drew | apply ext_drewN | apply ext_alloc | refine blk_far ?_ (by show _ ≠ _; dsimp only; omega) _)) HX.out (by omega) (by omega)).mono ?_
  rintro e w' ⟨rfl, hd_⟩
  obtain ⟨nd, rfl⟩ := hd_.out
  clear hd_
  refine ⟨_, rfl, ?_⟩
  refine hK.out _ _ hHeld (fun hHeld => ?_)
  clear hK K
  refine norm_ (a' := ?_) ?_ ?_
  rotate_left
  · show Act.put _ (some 28) _ = _
    simp only [Act.put, List.setIfInBounds_toArray, List.set_cons_zero, List.set_cons_succ, i64_w, i32_w]
    rfl
  refine pure_ (i := 7) (N := some 29) (v := ?_) (a' := ?_) #[true, true, true, true, true, true, true, true, false, false, false, false, false, false, false] rfl rfl (by kernel_rfl) (fun _ _ _ h => h) (Or.inl ⟨by rfl, ?_⟩) ?_ ?_
  rotate_left
  · intro w'
    go_simp
    with_reducible rfl
  rotate_left
  · simp only [Act.put, List.setIfInBounds_toArray, List.set_cons_zero, List.set_cons_succ, i64_w, i32_w]
    rfl
  refine pure_ (i := 8) (N := some 30) (v := ?_) (a' := ?_) #[true, true, true, true, true, true, true, true, true, false, false, false, false, false, false] rfl rfl (by kernel_rfl) (fun _ _ _ h => h) (Or.inl ⟨by rfl, ?_⟩) ?_ ?_
  rotate_left
  · intro w'
    go_simp
    with_reducible rfl
  rotate_left
  · simp only [Act.put, List.setIfInBounds_toArray, List.set_cons_zero, List.set_cons_succ, i64_w, i32_w]
    rfl
  refine pure_ (i := 9) (N := some 31) (v := ?_) (a' := ?_) #[true, true, true, true, true, true, true, true, true, true, false, false, false, false, false] rfl rfl (by kernel_rfl) (fun _ _ _ h => h) (Or.inl ⟨by rfl, ?_⟩) ?_ ?_
  rotate_left
  · intro w'
    go_simp
    with_reducible rfl
  rotate_left
  · simp only [Act.put, List.setIfInBounds_toArray, List.set_cons_zero, List.set_cons_succ, i64_w, i32_w]
    rfl
  refine take_ (i := 10) (N := some 32) (v := ?_) (a' := ?_) #[true, true, true, true, true, true, true, true, true, true, true, false, false, false, false] rfl rfl (by kernel_rfl) (fun _ _ _ h => h) (Or.inl ⟨by rfl, ?_⟩) hHeld ?_ ?_
  rotate_left
  · rintro w' ⟨s0, s1, s2⟩
    go_simp
    with_reducible rfl
  rotate_left
  · simp only [Act.put, List.setIfInBounds_toArray, List.set_cons_zero, List.set_cons_succ, i64_w, i32_w]
    rfl
  refine pure_ (i := 11) (N := some 33) (v := ?_) (a' := ?_) #[true, true, true, true, true, true, true, true, true, true, true, true, false, false, false] rfl rfl (by kernel_rfl) (fun _ _ _ h => h) (Or.inl ⟨by rfl, ?_⟩) ?_ ?_
  rotate_left
  · intro w'
    go_simp
    with_reducible rfl
  rotate_left
  · simp only [Act.put, List.setIfInBounds_toArray, List.set_cons_zero, List.set_cons_succ, i64_w, i32_w]
    rfl
  refine pure_ (i := 12) (N := some 34) (v := ?_) (a' := ?_) #[true, true, true, true, true, true, true, true, true, true, true, true, true, false, false] rfl rfl (by kernel_rfl) (fun _ _ _ h => h) (Or.inl ⟨by rfl, ?_⟩) ?_ ?_
  rotate_left
  · intro w'
    go_simp
    with_reducible rfl
  rotate_left
  · simp only [Act.put, List.setIfInBounds_toArray, List.set_cons_zero, List.set_cons_succ, i64_w, i32_w]
    rfl
  refine one_ (i := 13) (N := none) #[true, true, true, true, true, true, true, true, true, true, true, true, true, true, false] rfl rfl (by kernel_rfl) (by decide) (fun K hK => ?_)
  have hs0 := (odc 0).trans (show _ = some (.int .i64 0) from rfl)
  have hs1 := (odc 1).trans (show _ = some (.int .i64 0) from rfl)
  have hs2 := (odc 2).trans (show _ = some (.bool false) from rfl)
  have hs3 := (odc 3).trans (show _ = some (.int .i64 0) from rfl)
  have hs4 := (odc 4).trans (show _ = some (.int .i64 0) from rfl)
  have hs5 := (odc 5).trans (show _ = some (.int .i64 0) from rfl)
  have hs6 := (odc 6).trans (show _ = some (.int .u64 0) from rfl)
  refine skip_ (w1 := ?_) (by rfl) rfl ?_ ?_
  rotate_left
  · go_simp
    rfl
  refine hK.out _ _ ⟨(((cell_far (p := ⟨w.heap.size + 1, _, none⟩) (by show w.heap.size ≠ w.heap.size + 1; omega) _).trans ((cell_far (p := ⟨w.heap.size + 1, _, none⟩) (by show w.heap.size ≠ w.heap.size + 1; omega) _).trans ((cell_far (p := ⟨w.heap.size + 1, _, none⟩) (by show w.heap.size ≠ w.heap.size + 1; omega) _).trans ((cell_far (p := ⟨w.heap.size + 1, _, none⟩) (by show w.heap.size ≠ w.heap.size + 1; omega) _).trans ((cell_far (p := ⟨w.heap.size + 1, _, none⟩) (by show w.heap.size ≠ w.heap.size + 1; omega) _).trans ((cell_far (p := ⟨w.heap.size + 1, _, none⟩) (by show w.heap.size ≠ w.heap.size + 1; omega) _).trans ((cell_far (p := ⟨w.heap.size + 1, _, none⟩) (by show w.heap.size ≠ w.heap.size + 1; omega) _).trans (hHeld.1))))))))), (((cell_far (p := ⟨w.heap.size + 1, _, none⟩) (by show w.heap.size ≠ w.heap.size + 1; omega) _).trans ((cell_far (p := ⟨w.heap.size + 1, _, none⟩) (by show w.heap.size ≠ w.heap.size + 1; omega) _).trans ((cell_far (p := ⟨w.heap.size + 1, _, none⟩) (by show w.heap.size ≠ w.heap.size + 1; omega) _).trans ((cell_far (p := ⟨w.heap.size + 1, _, none⟩) (by show w.heap.size ≠ w.heap.size + 1; omega) _).trans ((cell_far (p := ⟨w.heap.size + 1, _, none⟩) (by show w.heap.size ≠ w.heap.size + 1; omega) _).trans ((cell_far (p := ⟨w.heap.size + 1, _, none⟩) (by show w.heap.size ≠ w.heap.size + 1; omega) _).trans ((cell_far (p := ⟨w.heap.size + 1, _, none⟩) (by show w.heap.size ≠ w.heap.size + 1; omega) _).trans (hHeld.2.1))))))))), (((cell_far (p := ⟨w.heap.size + 1, _, none⟩) (by show w.heap.size ≠ w.heap.size + 1; omega) _).trans ((cell_far (p := ⟨w.heap.size + 1, _, none⟩) (by show w.heap.size ≠ w.heap.size + 1; omega) _).trans ((cell_far (p := ⟨w.heap.size + 1, _, none⟩) (by show w.heap.size ≠ w.heap.size + 1; omega) _).trans ((cell_far (p := ⟨w.heap.size + 1, _, none⟩) (by show w.heap.size ≠ w.heap.size + 1; omega) _).trans ((cell_far (p := ⟨w.heap.size + 1, _, none⟩) (by show w.heap.size ≠ w.heap.size + 1; omega) _).trans ((cell_far (p := ⟨w.heap.size + 1, _, none⟩) (by show w.heap.size ≠ w.heap.size + 1; omega) _).trans ((cell_far (p := ⟨w.heap.size + 1, _, none⟩) (by show w.heap.size ≠ w.heap.size + 1; omega) _).trans (hHeld.2.2)))))))))⟩ (fun hHeld => ?_)
  clear hK K
  refine pure_ (i := 14) (N := some 7) (v := ?_) (a' := ?_) #[true, true, true, true, true, true, true, true, true, true, true, true, true, true, true] rfl rfl (by kernel_rfl) (fun _ _ _ h => h) (Or.inl ⟨by rfl, ?_⟩) ?_ ?_
  rotate_left
  · intro w'
    go_simp
    with_reducible rfl
  rotate_left
  · simp only [Act.put, List.setIfInBounds_toArray, List.set_cons_zero, List.set_cons_succ, i64_w, i32_w]
    rfl
  refine done_ (by kernel_rfl) ?_
  all_goals (try go_wp2)
  all_goals (refine bodyPost_ret (results_ct rfl _ _ (w.heap.size + 1) 30 #[.int .i64 11, .int .i64 5, .bool false, .int .i64 0, .int .i64 r1, .int .i64 r2, .int .u64 0] (0, 0) _ rfl ?hb_ Try.underlying30 rfl (by kernel_rfl)) rfl ⟨rfl, (by repeat (first | (with_reducible first | exact HB.out | exact Below.refl _ _ | apply below_alloc | apply pw_below_drewN | apply below_drew | refine below_set ?_ (by omega)) | exact HB.out))⟩; (case hb_ => ((repeat (with_reducible first | refine blk_drew ?_ | refine blk_drewN ?_ _)); first | exact blk_put (blk_put (blk_put (blk_put (blk_put (blk_put (blk_put (od.out) 0 (.int .i64 11) rfl) 1 (.int .i64 5) rfl) 2 (.bool false) rfl) 3 (.int .i64 0) rfl) 4 (.int .i64 r1) rfl) 5 (.int .i64 r2) rfl) 6 (.int .u64 0) rfl | exact blk_put (blk_put (blk_put (blk_put (blk_put (blk_put (blk_put (ext_drewN od.out _) 0 (.int .i64 11) rfl) 1 (.int .i64 5) rfl) 2 (.bool false) rfl) 3 (.int .i64 0) rfl) 4 (.int .i64 r1) rfl) 5 (.int .i64 r2) rfl) 6 (.int .u64 0) rfl)))
end
end Go.Proofs.Ytgcpedenlbcdgaa.Q
