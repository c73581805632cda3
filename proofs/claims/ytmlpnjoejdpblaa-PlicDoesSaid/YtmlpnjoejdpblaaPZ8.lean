import Derived.Test.YtmlpnjoejdpblaaPZ1
import Derived.Test.YtmlpnjoejdpblaaPZ7
import Derived.Deep.DeepCutAuto
import Derived.RegionTactic
import Derived.BigRegion
section
/- The document's Load, registers. -/
namespace Go.Proofs.Ytmlpnjoejdpblaa.Q
open Go.RowKit Go.Proofs.YtmlpnjoejdpblaaW.PrintWords Go.Proofs.YtmlpnjoejdpblaaW.PrintLast Go.Proofs.YtmlpnjoejdpblaaW.PrintMore Go.Proofs.Ytmlpnjoejdpblaa.L
attribute [local go_sem] Instr.field part asAgg lt_step max2_int min2_int max_two min_two max_three min_three max_four min_four lt_0_1 lt_0_2 lt_1_2 lt_0_3 lt_1_3 lt_2_3 lt_0_4 lt_1_4 lt_2_4 lt_3_4 lt_0_5 lt_1_5 lt_2_5 lt_3_5 lt_4_5 lt_0_6 lt_1_6 lt_2_6 lt_3_6 lt_4_6 lt_5_6 lt_0_7 lt_1_7 lt_2_7 lt_3_7 lt_4_7 lt_5_7 lt_6_7 lt_0_8 lt_1_8 lt_2_8 lt_3_8 lt_4_8 lt_5_8 lt_6_8 lt_7_8
set_option linter.unusedVariables false
set_option linter.unusedSimpArgs false
set_option maxHeartbeats 1600000 in
set_option maxRecDepth 100000 in
theorem rload_p1 (p : Pd) (v : Pv) (size : Int) (w : World) (ok : Nat → Prop) (hF : PF w ok p v) (ho : OKP p) (hk : ckP p = true) (hs : size = 4) :
    Calls Try.prog 13 #[.agg (PC p v), .int .u64 4, .int .i64 size] w fun e w' => ∃ v' : Pv, e = .returned (.tuple #[.int .u64 (IntKind.u64.wrap (rd p.q0 1)), .agg (PC p v'), .bool true]) ∧ PF w' (fun j => ok j ∨ w.heap.size ≤ j) p v' ∧ Below w.heap.size w w' := by
  subst hs
  have HK := Aside0.mk hk
  obtain ⟨hl0, hl3, hl4, _⟩ := check_len hk
  have hix : (1 : Int) < (p.q0.length : Int) := by omega
  have hixn : 1 < p.q0.length := by omega
  have HIX := Aside0.mk hixn
  obtain ⟨ab, ao, cc, e0⟩ := hF.p0.addr (by omega)
  have hw1 : IntKind.u64.wrap 1 = 1 := by decide
  have HE := Aside0.mk e0
  clear hk hl0 hl3 hl4 e0
  have HB := Aside0.mk (Below.refl w.heap.size w)
  have HF := Aside0.mk hF.bound
  have HO := Aside0.mk ho
  have hu := Try.underlying24
  clear hF ho
  go_enter Try.func13, Try.ntmps13
  go_upto_region 1 with fail
  obtain ⟨wa, hwa, on0, pn0, hb_, hz0⟩ := letter2 w (.cells (PC p v) 24 (0, 0)) (.cells PZ 24 (0, 0))
  unfold PZ at hwa
  rw [hwa]
  clear hwa
  have hzwa := Nat.le_of_eq hz0.symm
  clear hz0
  have on := Aside0.mk on0
  have pn := Aside0.mk pn0
  clear on0 pn0
  obtain ⟨onc, onf, onl⟩ := cells_of on.out
  obtain ⟨pnc, pnf, pnl⟩ := cells_of pn.out
  have HB_ : Aside0 (Below w.heap.size w wa) := ⟨hb_⟩
  have HF_ : Aside0 (PF wa (fun j => (ok j ∨ w.heap.size ≤ j) ∧ j ≠ w.heap.size ∧ j ≠ w.heap.size + 1) p v) := ⟨(HF.out.below hb_).mono (fun j hj => ⟨.inl hj.1, by have h_ := hj.2; omega, by have h_ := hj.2; omega⟩)⟩
  clear HB HF hb_; have HB := HB_; have HF := HF_; clear HB_ HF_
  go_wp2_with (first | ((with_reducible refine gate_dst (N := 9) rfl ?_); (try (refine gate_guard (by rfl) ?_; dsimp only)); refine wpList_load_row rfl 24 _ rfl _ (by rfl) _ (PC p v) _ _ (eG on) Try.underlying24 rfl infPC ?_))
  (go_at_call 18; (with_reducible refine (rcheck_c HF.out HO.out true HK.out).mono ?_); rintro e_ w1 ⟨rfl, hb_⟩; have HB_ : Aside0 (Below w.heap.size w w1) := Aside0.mk (below_step (bG HB) hb_); have hzw1 := hb_.size; (try simp at hzw1); have on_ := Aside0.mk (box_below hb_ (eG on)); have pn_ := Aside0.mk (box_below hb_ (eG pn)); (try clear on onc onf onl); have on := on_; clear on_; obtain ⟨onc, onf, onl⟩ := cells_of on.out; (try clear pn pnc pnf pnl); have pn := pn_; clear pn_; obtain ⟨pnc, pnf, pnl⟩ := cells_of pn.out; have HF_ := Aside0.mk (PF.below (by repeat (with_reducible first | exact HF.out | apply PF.drew | apply PF.drewN | apply PF.alloc)) hb_); clear HF; have HF := HF_; clear HF_; clear HB hb_; have HB := HB_; clear HB_)
  go_upto_region 6 with fail
  refine start_ (n := 11) (S := fun w' => w'.heap[w.heap.size]? = some (.cells (PC p v) 24 (0, 0)) ∧ w'.cell? ⟨w.heap.size, 0, none⟩ = some (.slice (some ⟨ab, ao, none⟩) p.q0.length cc) ∧ w'.cell? ⟨ab, ao + 1, none⟩ = some (.int .i64 (rd p.q0 1))) (ds := []) #[false, false, false, false, false, false, false, false, false, false, false] (by kernel_rfl) rfl rfl ⟨(eG on), ((onc 0).trans (show (PC p v)[0]? = some v.p0 from rfl)).trans (congrArg some HE.out), SL.at HF.out.p0 HE.out 1 HIX.out⟩ (fun hHeld => ?_)
  refine pure_ (i := 0) (N := some 21) (v := ?_) (a' := ?_) #[true, false, false, false, false, false, false, false, false, false, false] rfl rfl (by kernel_rfl) (fun _ _ _ h => h) (Or.inl ⟨by rfl, ?_⟩) ?_ ?_
  rotate_left
  · intro w'
    go_simp
    with_reducible rfl
  rotate_left
  · simp only [Act.put, List.setIfInBounds_toArray, List.set_cons_zero, List.set_cons_succ, i64_w, i32_w]
    rfl
  refine take_ (i := 1) (N := some 22) (v := ?_) (a' := ?_) #[true, true, false, false, false, false, false, false, false, false, false] rfl rfl (by kernel_rfl) (fun _ _ _ h => h) (Or.inl ⟨by rfl, ?_⟩) hHeld ?_ ?_
  rotate_left
  · rintro w' ⟨h1_, h2_, h3_⟩
    go_simp
    with_reducible rfl
  rotate_left
  · simp only [Act.put, List.setIfInBounds_toArray, List.set_cons_zero, List.set_cons_succ, i64_w, i32_w]
    rfl
  refine pure_ (i := 2) (N := some 23) (v := ?_) (a' := ?_) #[true, true, true, false, false, false, false, false, false, false, false] rfl rfl (by kernel_rfl) (fun _ _ _ h => h) (Or.inl ⟨by rfl, ?_⟩) ?_ ?_
  rotate_left
  · intro w'
    go_simp
    with_reducible rfl
  rotate_left
  · simp only [Act.put, List.setIfInBounds_toArray, List.set_cons_zero, List.set_cons_succ, i64_w, i32_w]
    rfl
  refine pure_ (i := 3) (N := some 24) (v := ?_) (a' := ?_) #[true, true, true, true, false, false, false, false, false, false, false] rfl rfl (by kernel_rfl) (fun _ _ _ h => h) (Or.inl ⟨by rfl, ?_⟩) ?_ ?_
  rotate_left
  · intro w'
    go_simp
    with_reducible rfl
  rotate_left
  · simp only [Act.put, List.setIfInBounds_toArray, List.set_cons_zero, List.set_cons_succ, i64_w, i32_w]
    rfl
  refine pure_ (i := 4) (N := some 25) (v := ?_) (a' := ?_) #[true, true, true, true, true, false, false, false, false, false, false] rfl rfl (by kernel_rfl) (fun _ _ _ h => h) (Or.inl ⟨by rfl, ?_⟩) ?_ ?_
  rotate_left
  · intro w'
    go_simp
    with_reducible rfl
  rotate_left
  · simp only [Act.put, List.setIfInBounds_toArray, List.set_cons_zero, List.set_cons_succ, i64_w, i32_w]
    rfl
  refine take_ (i := 5) (N := some 26) (v := ?_) (a' := ?_) #[true, true, true, true, true, true, false, false, false, false, false] rfl rfl (by kernel_rfl) (fun _ _ _ h => h) (Or.inl ⟨by rfl, ?_⟩) hHeld ?_ ?_
  rotate_left
  · rintro w' ⟨h1_, h2_, h3_⟩
    go_simp
    with_reducible rfl
  rotate_left
  · simp only [Act.put, List.setIfInBounds_toArray, List.set_cons_zero, List.set_cons_succ, i64_w, i32_w]
    rfl
  refine pure_ (i := 6) (N := some 27) (v := ?_) (a' := ?_) #[true, true, true, true, true, true, true, false, false, false, false] rfl rfl (by kernel_rfl) (fun _ _ _ h => h) (Or.inl ⟨by rfl, ?_⟩) ?_ ?_
  rotate_left
  · intro w'
    go_simp
    with_reducible rfl
  rotate_left
  · simp only [Act.put, List.setIfInBounds_toArray, List.set_cons_zero, List.set_cons_succ, i64_w, i32_w]
    rfl
  refine rowL_ (i := 7) (N := some 28) #[true, true, true, true, true, true, true, true, false, false, false] rfl rfl (by kernel_rfl) 24 _ rfl (w.heap.size) (PC p v) (fun _ _ _ h => h) (by rfl) (by rfl) _ _ _ (fun _ h => h.1) Try.underlying24 rfl infPC hHeld (a' := ?_) ?_ ?_
  rotate_left
  · simp only [Act.put, List.setIfInBounds_toArray, List.set_cons_zero, List.set_cons_succ, i64_w, i32_w]
    rfl
  refine pure_ (i := 8) (N := some 6) (v := ?_) (a' := ?_) #[true, true, true, true, true, true, true, true, true, false, false] rfl rfl (by kernel_rfl) (fun _ _ _ h => h) (Or.inl ⟨by rfl, ?_⟩) ?_ ?_
  rotate_left
  · intro w'
    go_simp
    with_reducible rfl
  rotate_left
  · simp only [Act.put, List.setIfInBounds_toArray, List.set_cons_zero, List.set_cons_succ, i64_w, i32_w]
    rfl
  refine rowS_ (i := 9) #[true, true, true, true, true, true, true, true, true, true, false] rfl rfl (by kernel_rfl) (by decide) 24 _ _ rfl (w.heap.size + 1) (PC p v) (by rfl) (by rfl) (by rfl) PZ 24 (eG pn) rfl infPC HF.out.one ?_
  (rintro w2 ⟨hx_, hk_, hb_, hzz_⟩; have HB_ : Aside0 (Below w.heap.size w w2) := Aside0.mk (Below.trans (bG HB) (Below.mono hb_ (by first | omega | (simp only [sz_alloc, sz_drew, sz_drewN]; omega)))); have hzw2 := hzz_; (try simp at hzw2); clear hzz_; have on_ := Aside0.mk (st_put on.out hk_ (fun h_ => (by repeat (with_reducible first | exact h_ | apply ext_drew | apply ext_drewN | apply ext_alloc | refine blk_far ?_ (by show _ ≠ _; dsimp only; omega) _))) (by omega)); clear on onc onf onl; have on := on_; clear on_; obtain ⟨onc, onf, onl⟩ := cells_of on.out; (first | (have HF_ := Aside0.mk (PF.step HF.out (fun j hj _ => hk_ j (hj.2.2)))) | (have HF_ := Aside0.mk (PF.step (PF.alloc HF.out _) (fun j hj _ => hk_ j (hj.2.2))))); clear HF; have HF := HF_; clear HF_; (try clear pn pnc pnf pnl); have pn := Aside0.mk hx_; obtain ⟨pnc, pnf, pnl⟩ := cells_of pn.out; clear HB hb_ hk_ hx_; have HB := HB_; clear HB_)
  refine ⟨⟨(eG on), ((onc 0).trans (show (PC p v)[0]? = some v.p0 from rfl)).trans (congrArg some HE.out), SL.at HF.out.p0 HE.out 1 HIX.out⟩, ?_⟩
  refine pure_ (i := 10) (N := some 8) (v := ?_) (a' := ?_) #[true, true, true, true, true, true, true, true, true, true, true] rfl rfl (by kernel_rfl) (fun _ _ _ h => h) (Or.inl ⟨by rfl, ?_⟩) ?_ ?_
  rotate_left
  · intro w'
    go_simp
    with_reducible rfl
  rotate_left
  · simp only [Act.put, List.setIfInBounds_toArray, List.set_cons_zero, List.set_cons_succ, i64_w, i32_w]
    rfl
  refine done_ (by kernel_rfl) ?_
  go_wp2
  refine bodyPost_ret (results_tct rfl _ _ (w.heap.size + 1) 24 (PC p v) (0, 0) _ rfl pn.out Try.underlying24 rfl infPC) rfl ⟨v, rfl, HF.out.mono (fun j hj => hj.1), (bG HB)⟩
set_option maxHeartbeats 1600000 in
set_option maxRecDepth 100000 in
theorem rload_p2 (p : Pd) (v : Pv) (size : Int) (w : World) (ok : Nat → Prop) (hF : PF w ok p v) (ho : OKP p) (hk : ckP p = true) (hs : size = 4) :
    Calls Try.prog 13 #[.agg (PC p v), .int .u64 8, .int .i64 size] w fun e w' => ∃ v' : Pv, e = .returned (.tuple #[.int .u64 (IntKind.u64.wrap (rd p.q0 2)), .agg (PC p v'), .bool true]) ∧ PF w' (fun j => ok j ∨ w.heap.size ≤ j) p v' ∧ Below w.heap.size w w' := by
  subst hs
  have HK := Aside0.mk hk
  obtain ⟨hl0, hl3, hl4, _⟩ := check_len hk
  have hix : (2 : Int) < (p.q0.length : Int) := by omega
  have hixn : 2 < p.q0.length := by omega
  have HIX := Aside0.mk hixn
  obtain ⟨ab, ao, cc, e0⟩ := hF.p0.addr (by omega)
  have hw2 : IntKind.u64.wrap 2 = 2 := by decide
  have HE := Aside0.mk e0
  clear hk hl0 hl3 hl4 e0
  have HB := Aside0.mk (Below.refl w.heap.size w)
  have HF := Aside0.mk hF.bound
  have HO := Aside0.mk ho
  have hu := Try.underlying24
  clear hF ho
  go_enter Try.func13, Try.ntmps13
  go_upto_region 1 with fail
  obtain ⟨wa, hwa, on0, pn0, hb_, hz0⟩ := letter2 w (.cells (PC p v) 24 (0, 0)) (.cells PZ 24 (0, 0))
  unfold PZ at hwa
  rw [hwa]
  clear hwa
  have hzwa := Nat.le_of_eq hz0.symm
  clear hz0
  have on := Aside0.mk on0
  have pn := Aside0.mk pn0
  clear on0 pn0
  obtain ⟨onc, onf, onl⟩ := cells_of on.out
  obtain ⟨pnc, pnf, pnl⟩ := cells_of pn.out
  have HB_ : Aside0 (Below w.heap.size w wa) := ⟨hb_⟩
  have HF_ : Aside0 (PF wa (fun j => (ok j ∨ w.heap.size ≤ j) ∧ j ≠ w.heap.size ∧ j ≠ w.heap.size + 1) p v) := ⟨(HF.out.below hb_).mono (fun j hj => ⟨.inl hj.1, by have h_ := hj.2; omega, by have h_ := hj.2; omega⟩)⟩
  clear HB HF hb_; have HB := HB_; have HF := HF_; clear HB_ HF_
  go_wp2_with (first | ((with_reducible refine gate_dst (N := 9) rfl ?_); (try (refine gate_guard (by rfl) ?_; dsimp only)); refine wpList_load_row rfl 24 _ rfl _ (by rfl) _ (PC p v) _ _ (eG on) Try.underlying24 rfl infPC ?_))
  (go_at_call 18; (with_reducible refine (rcheck_c HF.out HO.out true HK.out).mono ?_); rintro e_ w1 ⟨rfl, hb_⟩; have HB_ : Aside0 (Below w.heap.size w w1) := Aside0.mk (below_step (bG HB) hb_); have hzw1 := hb_.size; (try simp at hzw1); have on_ := Aside0.mk (box_below hb_ (eG on)); have pn_ := Aside0.mk (box_below hb_ (eG pn)); (try clear on onc onf onl); have on := on_; clear on_; obtain ⟨onc, onf, onl⟩ := cells_of on.out; (try clear pn pnc pnf pnl); have pn := pn_; clear pn_; obtain ⟨pnc, pnf, pnl⟩ := cells_of pn.out; have HF_ := Aside0.mk (PF.below (by repeat (with_reducible first | exact HF.out | apply PF.drew | apply PF.drewN | apply PF.alloc)) hb_); clear HF; have HF := HF_; clear HF_; clear HB hb_; have HB := HB_; clear HB_)
  go_upto_region 6 with fail
  refine start_ (n := 11) (S := fun w' => w'.heap[w.heap.size]? = some (.cells (PC p v) 24 (0, 0)) ∧ w'.cell? ⟨w.heap.size, 0, none⟩ = some (.slice (some ⟨ab, ao, none⟩) p.q0.length cc) ∧ w'.cell? ⟨ab, ao + 2, none⟩ = some (.int .i64 (rd p.q0 2))) (ds := []) #[false, false, false, false, false, false, false, false, false, false, false] (by kernel_rfl) rfl rfl ⟨(eG on), ((onc 0).trans (show (PC p v)[0]? = some v.p0 from rfl)).trans (congrArg some HE.out), SL.at HF.out.p0 HE.out 2 HIX.out⟩ (fun hHeld => ?_)
  refine pure_ (i := 0) (N := some 21) (v := ?_) (a' := ?_) #[true, false, false, false, false, false, false, false, false, false, false] rfl rfl (by kernel_rfl) (fun _ _ _ h => h) (Or.inl ⟨by rfl, ?_⟩) ?_ ?_
  rotate_left
  · intro w'
    go_simp
    with_reducible rfl
  rotate_left
  · simp only [Act.put, List.setIfInBounds_toArray, List.set_cons_zero, List.set_cons_succ, i64_w, i32_w]
    rfl
  refine take_ (i := 1) (N := some 22) (v := ?_) (a' := ?_) #[true, true, false, false, false, false, false, false, false, false, false] rfl rfl (by kernel_rfl) (fun _ _ _ h => h) (Or.inl ⟨by rfl, ?_⟩) hHeld ?_ ?_
  rotate_left
  · rintro w' ⟨h1_, h2_, h3_⟩
    go_simp
    with_reducible rfl
  rotate_left
  · simp only [Act.put, List.setIfInBounds_toArray, List.set_cons_zero, List.set_cons_succ, i64_w, i32_w]
    rfl
  refine pure_ (i := 2) (N := some 23) (v := ?_) (a' := ?_) #[true, true, true, false, false, false, false, false, false, false, false] rfl rfl (by kernel_rfl) (fun _ _ _ h => h) (Or.inl ⟨by rfl, ?_⟩) ?_ ?_
  rotate_left
  · intro w'
    go_simp
    with_reducible rfl
  rotate_left
  · simp only [Act.put, List.setIfInBounds_toArray, List.set_cons_zero, List.set_cons_succ, i64_w, i32_w]
    rfl
  refine pure_ (i := 3) (N := some 24) (v := ?_) (a' := ?_) #[true, true, true, true, false, false, false, false, false, false, false] rfl rfl (by kernel_rfl) (fun _ _ _ h => h) (Or.inl ⟨by rfl, ?_⟩) ?_ ?_
  rotate_left
  · intro w'
    go_simp
    with_reducible rfl
  rotate_left
  · simp only [Act.put, List.setIfInBounds_toArray, List.set_cons_zero, List.set_cons_succ, i64_w, i32_w]
    rfl
  refine pure_ (i := 4) (N := some 25) (v := ?_) (a' := ?_) #[true, true, true, true, true, false, false, false, false, false, false] rfl rfl (by kernel_rfl) (fun _ _ _ h => h) (Or.inl ⟨by rfl, ?_⟩) ?_ ?_
  rotate_left
  · intro w'
    go_simp
    with_reducible rfl
  rotate_left
  · simp only [Act.put, List.setIfInBounds_toArray, List.set_cons_zero, List.set_cons_succ, i64_w, i32_w]
    rfl
  refine take_ (i := 5) (N := some 26) (v := ?_) (a' := ?_) #[true, true, true, true, true, true, false, false, false, false, false] rfl rfl (by kernel_rfl) (fun _ _ _ h => h) (Or.inl ⟨by rfl, ?_⟩) hHeld ?_ ?_
  rotate_left
  · rintro w' ⟨h1_, h2_, h3_⟩
    go_simp
    with_reducible rfl
  rotate_left
  · simp only [Act.put, List.setIfInBounds_toArray, List.set_cons_zero, List.set_cons_succ, i64_w, i32_w]
    rfl
  refine pure_ (i := 6) (N := some 27) (v := ?_) (a' := ?_) #[true, true, true, true, true, true, true, false, false, false, false] rfl rfl (by kernel_rfl) (fun _ _ _ h => h) (Or.inl ⟨by rfl, ?_⟩) ?_ ?_
  rotate_left
  · intro w'
    go_simp
    with_reducible rfl
  rotate_left
  · simp only [Act.put, List.setIfInBounds_toArray, List.set_cons_zero, List.set_cons_succ, i64_w, i32_w]
    rfl
  refine rowL_ (i := 7) (N := some 28) #[true, true, true, true, true, true, true, true, false, false, false] rfl rfl (by kernel_rfl) 24 _ rfl (w.heap.size) (PC p v) (fun _ _ _ h => h) (by rfl) (by rfl) _ _ _ (fun _ h => h.1) Try.underlying24 rfl infPC hHeld (a' := ?_) ?_ ?_
  rotate_left
  · simp only [Act.put, List.setIfInBounds_toArray, List.set_cons_zero, List.set_cons_succ, i64_w, i32_w]
    rfl
  refine pure_ (i := 8) (N := some 6) (v := ?_) (a' := ?_) #[true, true, true, true, true, true, true, true, true, false, false] rfl rfl (by kernel_rfl) (fun _ _ _ h => h) (Or.inl ⟨by rfl, ?_⟩) ?_ ?_
  rotate_left
  · intro w'
    go_simp
    with_reducible rfl
  rotate_left
  · simp only [Act.put, List.setIfInBounds_toArray, List.set_cons_zero, List.set_cons_succ, i64_w, i32_w]
    rfl
  refine rowS_ (i := 9) #[true, true, true, true, true, true, true, true, true, true, false] rfl rfl (by kernel_rfl) (by decide) 24 _ _ rfl (w.heap.size + 1) (PC p v) (by rfl) (by rfl) (by rfl) PZ 24 (eG pn) rfl infPC HF.out.one ?_
  (rintro w2 ⟨hx_, hk_, hb_, hzz_⟩; have HB_ : Aside0 (Below w.heap.size w w2) := Aside0.mk (Below.trans (bG HB) (Below.mono hb_ (by first | omega | (simp only [sz_alloc, sz_drew, sz_drewN]; omega)))); have hzw2 := hzz_; (try simp at hzw2); clear hzz_; have on_ := Aside0.mk (st_put on.out hk_ (fun h_ => (by repeat (with_reducible first | exact h_ | apply ext_drew | apply ext_drewN | apply ext_alloc | refine blk_far ?_ (by show _ ≠ _; dsimp only; omega) _))) (by omega)); clear on onc onf onl; have on := on_; clear on_; obtain ⟨onc, onf, onl⟩ := cells_of on.out; (first | (have HF_ := Aside0.mk (PF.step HF.out (fun j hj _ => hk_ j (hj.2.2)))) | (have HF_ := Aside0.mk (PF.step (PF.alloc HF.out _) (fun j hj _ => hk_ j (hj.2.2))))); clear HF; have HF := HF_; clear HF_; (try clear pn pnc pnf pnl); have pn := Aside0.mk hx_; obtain ⟨pnc, pnf, pnl⟩ := cells_of pn.out; clear HB hb_ hk_ hx_; have HB := HB_; clear HB_)
  refine ⟨⟨(eG on), ((onc 0).trans (show (PC p v)[0]? = some v.p0 from rfl)).trans (congrArg some HE.out), SL.at HF.out.p0 HE.out 2 HIX.out⟩, ?_⟩
  refine pure_ (i := 10) (N := some 8) (v := ?_) (a' := ?_) #[true, true, true, true, true, true, true, true, true, true, true] rfl rfl (by kernel_rfl) (fun _ _ _ h => h) (Or.inl ⟨by rfl, ?_⟩) ?_ ?_
  rotate_left
  · intro w'
    go_simp
    with_reducible rfl
  rotate_left
  · simp only [Act.put, List.setIfInBounds_toArray, List.set_cons_zero, List.set_cons_succ, i64_w, i32_w]
    rfl
  refine done_ (by kernel_rfl) ?_
  go_wp2
  refine bodyPost_ret (results_tct rfl _ _ (w.heap.size + 1) 24 (PC p v) (0, 0) _ rfl pn.out Try.underlying24 rfl infPC) rfl ⟨v, rfl, HF.out.mono (fun j hj => hj.1), (bG HB)⟩
set_option maxHeartbeats 1600000 in
set_option maxRecDepth 100000 in
theorem rload_e0 (p : Pd) (v : Pv) (size : Int) (w : World) (ok : Nat → Prop) (hF : PF w ok p v) (ho : OKP p) (hk : ckP p = true) (hs : size = 4) :
    Calls Try.prog 13 #[.agg (PC p v), .int .u64 8192, .int .i64 size] w fun e w' => ∃ v' : Pv, e = .returned (.tuple #[.int .u64 (IntKind.u64.wrap (rd p.q3 0)), .agg (PC p v'), .bool true]) ∧ PF w' (fun j => ok j ∨ w.heap.size ≤ j) p v' ∧ Below w.heap.size w w' := by
  subst hs
  have HK := Aside0.mk hk
  obtain ⟨hl0, hl3, hl4, _⟩ := check_len hk
  have hix : (0 : Int) < (p.q3.length : Int) := by omega
  have hixn : 0 < p.q3.length := by omega
  have HIX := Aside0.mk hixn
  obtain ⟨ab, ao, cc, e0⟩ := hF.p3.addr (by omega)
  have hw0 : IntKind.u64.wrap 0 = 0 := by decide
  have HE := Aside0.mk e0
  clear hk hl0 hl3 hl4 e0
  have HB := Aside0.mk (Below.refl w.heap.size w)
  have HF := Aside0.mk hF.bound
  have HO := Aside0.mk ho
  have hu := Try.underlying24
  clear hF ho
  go_enter Try.func13, Try.ntmps13
  go_upto_region 1 with fail
  obtain ⟨wa, hwa, on0, pn0, hb_, hz0⟩ := letter2 w (.cells (PC p v) 24 (0, 0)) (.cells PZ 24 (0, 0))
  unfold PZ at hwa
  rw [hwa]
  clear hwa
  have hzwa := Nat.le_of_eq hz0.symm
  clear hz0
  have on := Aside0.mk on0
  have pn := Aside0.mk pn0
  clear on0 pn0
  obtain ⟨onc, onf, onl⟩ := cells_of on.out
  obtain ⟨pnc, pnf, pnl⟩ := cells_of pn.out
  have HB_ : Aside0 (Below w.heap.size w wa) := ⟨hb_⟩
  have HF_ : Aside0 (PF wa (fun j => (ok j ∨ w.heap.size ≤ j) ∧ j ≠ w.heap.size ∧ j ≠ w.heap.size + 1) p v) := ⟨(HF.out.below hb_).mono (fun j hj => ⟨.inl hj.1, by have h_ := hj.2; omega, by have h_ := hj.2; omega⟩)⟩
  clear HB HF hb_; have HB := HB_; have HF := HF_; clear HB_ HF_
  go_wp2_with (first | ((with_reducible refine gate_dst (N := 9) rfl ?_); (try (refine gate_guard (by rfl) ?_; dsimp only)); refine wpList_load_row rfl 24 _ rfl _ (by rfl) _ (PC p v) _ _ (eG on) Try.underlying24 rfl infPC ?_))
  (go_at_call 18; (with_reducible refine (rcheck_c HF.out HO.out true HK.out).mono ?_); rintro e_ w1 ⟨rfl, hb_⟩; have HB_ : Aside0 (Below w.heap.size w w1) := Aside0.mk (below_step (bG HB) hb_); have hzw1 := hb_.size; (try simp at hzw1); have on_ := Aside0.mk (box_below hb_ (eG on)); have pn_ := Aside0.mk (box_below hb_ (eG pn)); (try clear on onc onf onl); have on := on_; clear on_; obtain ⟨onc, onf, onl⟩ := cells_of on.out; (try clear pn pnc pnf pnl); have pn := pn_; clear pn_; obtain ⟨pnc, pnf, pnl⟩ := cells_of pn.out; have HF_ := Aside0.mk (PF.below (by repeat (with_reducible first | exact HF.out | apply PF.drew | apply PF.drewN | apply PF.alloc)) hb_); clear HF; have HF := HF_; clear HF_; clear HB hb_; have HB := HB_; clear HB_)
  go_upto_region 11 with fail
  refine start_ (n := 12) (S := fun w' => w'.heap[w.heap.size]? = some (.cells (PC p v) 24 (0, 0)) ∧ w'.cell? ⟨w.heap.size, 3, none⟩ = some (.slice (some ⟨ab, ao, none⟩) p.q3.length cc) ∧ w'.cell? ⟨ab, ao, none⟩ = some (.int .i64 (rd p.q3 0))) (ds := []) #[false, false, false, false, false, false, false, false, false, false, false, false] (by kernel_rfl) rfl rfl ⟨(eG on), ((onc 3).trans (show (PC p v)[3]? = some v.p3 from rfl)).trans (congrArg some HE.out), SL.at HF.out.p3 HE.out 0 HIX.out⟩ (fun hHeld => ?_)
  refine pure_ (i := 0) (N := some 38) (v := ?_) (a' := ?_) #[true, false, false, false, false, false, false, false, false, false, false, false] rfl rfl (by kernel_rfl) (fun _ _ _ h => h) (Or.inl ⟨by rfl, ?_⟩) ?_ ?_
  rotate_left
  · intro w'
    go_simp
    with_reducible rfl
  rotate_left
  · simp only [Act.put, List.setIfInBounds_toArray, List.set_cons_zero, List.set_cons_succ, i64_w, i32_w]
    rfl
  refine take_ (i := 1) (N := some 39) (v := ?_) (a' := ?_) #[true, true, false, false, false, false, false, false, false, false, false, false] rfl rfl (by kernel_rfl) (fun _ _ _ h => h) (Or.inl ⟨by rfl, ?_⟩) hHeld ?_ ?_
  rotate_left
  · rintro w' ⟨h1_, h2_, h3_⟩
    go_simp
    with_reducible rfl
  rotate_left
  · simp only [Act.put, List.setIfInBounds_toArray, List.set_cons_zero, List.set_cons_succ, i64_w, i32_w]
    rfl
  refine pure_ (i := 2) (N := some 40) (v := ?_) (a' := ?_) #[true, true, true, false, false, false, false, false, false, false, false, false] rfl rfl (by kernel_rfl) (fun _ _ _ h => h) (Or.inl ⟨by rfl, ?_⟩) ?_ ?_
  rotate_left
  · intro w'
    go_simp
    with_reducible rfl
  rotate_left
  · simp only [Act.put, List.setIfInBounds_toArray, List.set_cons_zero, List.set_cons_succ, i64_w, i32_w]
    rfl
  refine pure_ (i := 3) (N := some 41) (v := ?_) (a' := ?_) #[true, true, true, true, false, false, false, false, false, false, false, false] rfl rfl (by kernel_rfl) (fun _ _ _ h => h) (Or.inl ⟨by rfl, ?_⟩) ?_ ?_
  rotate_left
  · intro w'
    go_simp
    with_reducible rfl
  rotate_left
  · simp only [Act.put, List.setIfInBounds_toArray, List.set_cons_zero, List.set_cons_succ, i64_w, i32_w]
    rfl
  refine pure_ (i := 4) (N := some 42) (v := ?_) (a' := ?_) #[true, true, true, true, true, false, false, false, false, false, false, false] rfl rfl (by kernel_rfl) (fun _ _ _ h => h) (Or.inl ⟨by rfl, ?_⟩) ?_ ?_
  rotate_left
  · intro w'
    go_simp
    with_reducible rfl
  rotate_left
  · simp only [Act.put, List.setIfInBounds_toArray, List.set_cons_zero, List.set_cons_succ, i64_w, i32_w]
    rfl
  refine pure_ (i := 5) (N := some 43) (v := ?_) (a' := ?_) #[true, true, true, true, true, true, false, false, false, false, false, false] rfl rfl (by kernel_rfl) (fun _ _ _ h => h) (Or.inl ⟨by rfl, ?_⟩) ?_ ?_
  rotate_left
  · intro w'
    go_simp
    with_reducible rfl
  rotate_left
  · simp only [Act.put, List.setIfInBounds_toArray, List.set_cons_zero, List.set_cons_succ, i64_w, i32_w]
    rfl
  refine take_ (i := 6) (N := some 44) (v := ?_) (a' := ?_) #[true, true, true, true, true, true, true, false, false, false, false, false] rfl rfl (by kernel_rfl) (fun _ _ _ h => h) (Or.inl ⟨by rfl, ?_⟩) hHeld ?_ ?_
  rotate_left
  · rintro w' ⟨h1_, h2_, h3_⟩
    go_simp
    with_reducible rfl
  rotate_left
  · simp only [Act.put, List.setIfInBounds_toArray, List.set_cons_zero, List.set_cons_succ, i64_w, i32_w]
    rfl
  refine pure_ (i := 7) (N := some 45) (v := ?_) (a' := ?_) #[true, true, true, true, true, true, true, true, false, false, false, false] rfl rfl (by kernel_rfl) (fun _ _ _ h => h) (Or.inl ⟨by rfl, ?_⟩) ?_ ?_
  rotate_left
  · intro w'
    go_simp
    with_reducible rfl
  rotate_left
  · simp only [Act.put, List.setIfInBounds_toArray, List.set_cons_zero, List.set_cons_succ, i64_w, i32_w]
    rfl
  refine rowL_ (i := 8) (N := some 46) #[true, true, true, true, true, true, true, true, true, false, false, false] rfl rfl (by kernel_rfl) 24 _ rfl (w.heap.size) (PC p v) (fun _ _ _ h => h) (by rfl) (by rfl) _ _ _ (fun _ h => h.1) Try.underlying24 rfl infPC hHeld (a' := ?_) ?_ ?_
  rotate_left
  · simp only [Act.put, List.setIfInBounds_toArray, List.set_cons_zero, List.set_cons_succ, i64_w, i32_w]
    rfl
  refine pure_ (i := 9) (N := some 6) (v := ?_) (a' := ?_) #[true, true, true, true, true, true, true, true, true, true, false, false] rfl rfl (by kernel_rfl) (fun _ _ _ h => h) (Or.inl ⟨by rfl, ?_⟩) ?_ ?_
  rotate_left
  · intro w'
    go_simp
    with_reducible rfl
  rotate_left
  · simp only [Act.put, List.setIfInBounds_toArray, List.set_cons_zero, List.set_cons_succ, i64_w, i32_w]
    rfl
  refine rowS_ (i := 10) #[true, true, true, true, true, true, true, true, true, true, true, false] rfl rfl (by kernel_rfl) (by decide) 24 _ _ rfl (w.heap.size + 1) (PC p v) (by rfl) (by rfl) (by rfl) PZ 24 (eG pn) rfl infPC HF.out.one ?_
  (rintro w2 ⟨hx_, hk_, hb_, hzz_⟩; have HB_ : Aside0 (Below w.heap.size w w2) := Aside0.mk (Below.trans (bG HB) (Below.mono hb_ (by first | omega | (simp only [sz_alloc, sz_drew, sz_drewN]; omega)))); have hzw2 := hzz_; (try simp at hzw2); clear hzz_; have on_ := Aside0.mk (st_put on.out hk_ (fun h_ => (by repeat (with_reducible first | exact h_ | apply ext_drew | apply ext_drewN | apply ext_alloc | refine blk_far ?_ (by show _ ≠ _; dsimp only; omega) _))) (by omega)); clear on onc onf onl; have on := on_; clear on_; obtain ⟨onc, onf, onl⟩ := cells_of on.out; (first | (have HF_ := Aside0.mk (PF.step HF.out (fun j hj _ => hk_ j (hj.2.2)))) | (have HF_ := Aside0.mk (PF.step (PF.alloc HF.out _) (fun j hj _ => hk_ j (hj.2.2))))); clear HF; have HF := HF_; clear HF_; (try clear pn pnc pnf pnl); have pn := Aside0.mk hx_; obtain ⟨pnc, pnf, pnl⟩ := cells_of pn.out; clear HB hb_ hk_ hx_; have HB := HB_; clear HB_)
  refine ⟨⟨(eG on), ((onc 3).trans (show (PC p v)[3]? = some v.p3 from rfl)).trans (congrArg some HE.out), SL.at HF.out.p3 HE.out 0 HIX.out⟩, ?_⟩
  refine pure_ (i := 11) (N := some 8) (v := ?_) (a' := ?_) #[true, true, true, true, true, true, true, true, true, true, true, true] rfl rfl (by kernel_rfl) (fun _ _ _ h => h) (Or.inl ⟨by rfl, ?_⟩) ?_ ?_
  rotate_left
  · intro w'
    go_simp
    with_reducible rfl
  rotate_left
  · simp only [Act.put, List.setIfInBounds_toArray, List.set_cons_zero, List.set_cons_succ, i64_w, i32_w]
    rfl
  refine done_ (by kernel_rfl) ?_
  go_wp2
  refine bodyPost_ret (results_tct rfl _ _ (w.heap.size + 1) 24 (PC p v) (0, 0) _ rfl pn.out Try.underlying24 rfl infPC) rfl ⟨v, rfl, HF.out.mono (fun j hj => hj.1), (bG HB)⟩
set_option maxHeartbeats 1600000 in
set_option maxRecDepth 100000 in
theorem rload_e1 (p : Pd) (v : Pv) (size : Int) (w : World) (ok : Nat → Prop) (hF : PF w ok p v) (ho : OKP p) (hk : ckP p = true) (hs : size = 4) :
    Calls Try.prog 13 #[.agg (PC p v), .int .u64 8320, .int .i64 size] w fun e w' => ∃ v' : Pv, e = .returned (.tuple #[.int .u64 (IntKind.u64.wrap (rd p.q3 1)), .agg (PC p v'), .bool true]) ∧ PF w' (fun j => ok j ∨ w.heap.size ≤ j) p v' ∧ Below w.heap.size w w' := by
  subst hs
  have HK := Aside0.mk hk
  obtain ⟨hl0, hl3, hl4, _⟩ := check_len hk
  have hix : (1 : Int) < (p.q3.length : Int) := by omega
  have hixn : 1 < p.q3.length := by omega
  have HIX := Aside0.mk hixn
  obtain ⟨ab, ao, cc, e0⟩ := hF.p3.addr (by omega)
  have hw128 : IntKind.u64.wrap 128 = 128 := by decide
  have hw1 : IntKind.u64.wrap 1 = 1 := by decide
  have HE := Aside0.mk e0
  clear hk hl0 hl3 hl4 e0
  have HB := Aside0.mk (Below.refl w.heap.size w)
  have HF := Aside0.mk hF.bound
  have HO := Aside0.mk ho
  have hu := Try.underlying24
  clear hF ho
  go_enter Try.func13, Try.ntmps13
  go_upto_region 1 with fail
  obtain ⟨wa, hwa, on0, pn0, hb_, hz0⟩ := letter2 w (.cells (PC p v) 24 (0, 0)) (.cells PZ 24 (0, 0))
  unfold PZ at hwa
  rw [hwa]
  clear hwa
  have hzwa := Nat.le_of_eq hz0.symm
  clear hz0
  have on := Aside0.mk on0
  have pn := Aside0.mk pn0
  clear on0 pn0
  obtain ⟨onc, onf, onl⟩ := cells_of on.out
  obtain ⟨pnc, pnf, pnl⟩ := cells_of pn.out
  have HB_ : Aside0 (Below w.heap.size w wa) := ⟨hb_⟩
  have HF_ : Aside0 (PF wa (fun j => (ok j ∨ w.heap.size ≤ j) ∧ j ≠ w.heap.size ∧ j ≠ w.heap.size + 1) p v) := ⟨(HF.out.below hb_).mono (fun j hj => ⟨.inl hj.1, by have h_ := hj.2; omega, by have h_ := hj.2; omega⟩)⟩
  clear HB HF hb_; have HB := HB_; have HF := HF_; clear HB_ HF_
  go_wp2_with (first | ((with_reducible refine gate_dst (N := 9) rfl ?_); (try (refine gate_guard (by rfl) ?_; dsimp only)); refine wpList_load_row rfl 24 _ rfl _ (by rfl) _ (PC p v) _ _ (eG on) Try.underlying24 rfl infPC ?_))
  (go_at_call 18; (with_reducible refine (rcheck_c HF.out HO.out true HK.out).mono ?_); rintro e_ w1 ⟨rfl, hb_⟩; have HB_ : Aside0 (Below w.heap.size w w1) := Aside0.mk (below_step (bG HB) hb_); have hzw1 := hb_.size; (try simp at hzw1); have on_ := Aside0.mk (box_below hb_ (eG on)); have pn_ := Aside0.mk (box_below hb_ (eG pn)); (try clear on onc onf onl); have on := on_; clear on_; obtain ⟨onc, onf, onl⟩ := cells_of on.out; (try clear pn pnc pnf pnl); have pn := pn_; clear pn_; obtain ⟨pnc, pnf, pnl⟩ := cells_of pn.out; have HF_ := Aside0.mk (PF.below (by repeat (with_reducible first | exact HF.out | apply PF.drew | apply PF.drewN | apply PF.alloc)) hb_); clear HF; have HF := HF_; clear HF_; clear HB hb_; have HB := HB_; clear HB_)
  go_upto_region 11 with fail
  refine start_ (n := 12) (S := fun w' => w'.heap[w.heap.size]? = some (.cells (PC p v) 24 (0, 0)) ∧ w'.cell? ⟨w.heap.size, 3, none⟩ = some (.slice (some ⟨ab, ao, none⟩) p.q3.length cc) ∧ w'.cell? ⟨ab, ao + 1, none⟩ = some (.int .i64 (rd p.q3 1))) (ds := []) #[false, false, false, false, false, false, false, false, false, false, false, false] (by kernel_rfl) rfl rfl ⟨(eG on), ((onc 3).trans (show (PC p v)[3]? = some v.p3 from rfl)).trans (congrArg some HE.out), SL.at HF.out.p3 HE.out 1 HIX.out⟩ (fun hHeld => ?_)
  refine pure_ (i := 0) (N := some 38) (v := ?_) (a' := ?_) #[true, false, false, false, false, false, false, false, false, false, false, false] rfl rfl (by kernel_rfl) (fun _ _ _ h => h) (Or.inl ⟨by rfl, ?_⟩) ?_ ?_
  rotate_left
  · intro w'
    go_simp
    with_reducible rfl
  rotate_left
  · simp only [Act.put, List.setIfInBounds_toArray, List.set_cons_zero, List.set_cons_succ, i64_w, i32_w]
    rfl
  refine take_ (i := 1) (N := some 39) (v := ?_) (a' := ?_) #[true, true, false, false, false, false, false, false, false, false, false, false] rfl rfl (by kernel_rfl) (fun _ _ _ h => h) (Or.inl ⟨by rfl, ?_⟩) hHeld ?_ ?_
  rotate_left
  · rintro w' ⟨h1_, h2_, h3_⟩
    go_simp
    with_reducible rfl
  rotate_left
  · simp only [Act.put, List.setIfInBounds_toArray, List.set_cons_zero, List.set_cons_succ, i64_w, i32_w]
    rfl
  refine pure_ (i := 2) (N := some 40) (v := ?_) (a' := ?_) #[true, true, true, false, false, false, false, false, false, false, false, false] rfl rfl (by kernel_rfl) (fun _ _ _ h => h) (Or.inl ⟨by rfl, ?_⟩) ?_ ?_
  rotate_left
  · intro w'
    go_simp
    with_reducible rfl
  rotate_left
  · simp only [Act.put, List.setIfInBounds_toArray, List.set_cons_zero, List.set_cons_succ, i64_w, i32_w]
    rfl
  refine pure_ (i := 3) (N := some 41) (v := ?_) (a' := ?_) #[true, true, true, true, false, false, false, false, false, false, false, false] rfl rfl (by kernel_rfl) (fun _ _ _ h => h) (Or.inl ⟨by rfl, ?_⟩) ?_ ?_
  rotate_left
  · intro w'
    go_simp
    with_reducible rfl
  rotate_left
  · simp only [Act.put, List.setIfInBounds_toArray, List.set_cons_zero, List.set_cons_succ, i64_w, i32_w]
    rfl
  refine pure_ (i := 4) (N := some 42) (v := ?_) (a' := ?_) #[true, true, true, true, true, false, false, false, false, false, false, false] rfl rfl (by kernel_rfl) (fun _ _ _ h => h) (Or.inl ⟨by rfl, ?_⟩) ?_ ?_
  rotate_left
  · intro w'
    go_simp
    with_reducible rfl
  rotate_left
  · simp only [Act.put, List.setIfInBounds_toArray, List.set_cons_zero, List.set_cons_succ, i64_w, i32_w]
    rfl
  refine pure_ (i := 5) (N := some 43) (v := ?_) (a' := ?_) #[true, true, true, true, true, true, false, false, false, false, false, false] rfl rfl (by kernel_rfl) (fun _ _ _ h => h) (Or.inl ⟨by rfl, ?_⟩) ?_ ?_
  rotate_left
  · intro w'
    go_simp
    with_reducible rfl
  rotate_left
  · simp only [Act.put, List.setIfInBounds_toArray, List.set_cons_zero, List.set_cons_succ, i64_w, i32_w]
    rfl
  refine take_ (i := 6) (N := some 44) (v := ?_) (a' := ?_) #[true, true, true, true, true, true, true, false, false, false, false, false] rfl rfl (by kernel_rfl) (fun _ _ _ h => h) (Or.inl ⟨by rfl, ?_⟩) hHeld ?_ ?_
  rotate_left
  · rintro w' ⟨h1_, h2_, h3_⟩
    go_simp
    with_reducible rfl
  rotate_left
  · simp only [Act.put, List.setIfInBounds_toArray, List.set_cons_zero, List.set_cons_succ, i64_w, i32_w]
    rfl
  refine pure_ (i := 7) (N := some 45) (v := ?_) (a' := ?_) #[true, true, true, true, true, true, true, true, false, false, false, false] rfl rfl (by kernel_rfl) (fun _ _ _ h => h) (Or.inl ⟨by rfl, ?_⟩) ?_ ?_
  rotate_left
  · intro w'
    go_simp
    with_reducible rfl
  rotate_left
  · simp only [Act.put, List.setIfInBounds_toArray, List.set_cons_zero, List.set_cons_succ, i64_w, i32_w]
    rfl
  refine rowL_ (i := 8) (N := some 46) #[true, true, true, true, true, true, true, true, true, false, false, false] rfl rfl (by kernel_rfl) 24 _ rfl (w.heap.size) (PC p v) (fun _ _ _ h => h) (by rfl) (by rfl) _ _ _ (fun _ h => h.1) Try.underlying24 rfl infPC hHeld (a' := ?_) ?_ ?_
  rotate_left
  · simp only [Act.put, List.setIfInBounds_toArray, List.set_cons_zero, List.set_cons_succ, i64_w, i32_w]
    rfl
  refine pure_ (i := 9) (N := some 6) (v := ?_) (a' := ?_) #[true, true, true, true, true, true, true, true, true, true, false, false] rfl rfl (by kernel_rfl) (fun _ _ _ h => h) (Or.inl ⟨by rfl, ?_⟩) ?_ ?_
  rotate_left
  · intro w'
    go_simp
    with_reducible rfl
  rotate_left
  · simp only [Act.put, List.setIfInBounds_toArray, List.set_cons_zero, List.set_cons_succ, i64_w, i32_w]
    rfl
  refine rowS_ (i := 10) #[true, true, true, true, true, true, true, true, true, true, true, false] rfl rfl (by kernel_rfl) (by decide) 24 _ _ rfl (w.heap.size + 1) (PC p v) (by rfl) (by rfl) (by rfl) PZ 24 (eG pn) rfl infPC HF.out.one ?_
  (rintro w2 ⟨hx_, hk_, hb_, hzz_⟩; have HB_ : Aside0 (Below w.heap.size w w2) := Aside0.mk (Below.trans (bG HB) (Below.mono hb_ (by first | omega | (simp only [sz_alloc, sz_drew, sz_drewN]; omega)))); have hzw2 := hzz_; (try simp at hzw2); clear hzz_; have on_ := Aside0.mk (st_put on.out hk_ (fun h_ => (by repeat (with_reducible first | exact h_ | apply ext_drew | apply ext_drewN | apply ext_alloc | refine blk_far ?_ (by show _ ≠ _; dsimp only; omega) _))) (by omega)); clear on onc onf onl; have on := on_; clear on_; obtain ⟨onc, onf, onl⟩ := cells_of on.out; (first | (have HF_ := Aside0.mk (PF.step HF.out (fun j hj _ => hk_ j (hj.2.2)))) | (have HF_ := Aside0.mk (PF.step (PF.alloc HF.out _) (fun j hj _ => hk_ j (hj.2.2))))); clear HF; have HF := HF_; clear HF_; (try clear pn pnc pnf pnl); have pn := Aside0.mk hx_; obtain ⟨pnc, pnf, pnl⟩ := cells_of pn.out; clear HB hb_ hk_ hx_; have HB := HB_; clear HB_)
  refine ⟨⟨(eG on), ((onc 3).trans (show (PC p v)[3]? = some v.p3 from rfl)).trans (congrArg some HE.out), SL.at HF.out.p3 HE.out 1 HIX.out⟩, ?_⟩
  refine pure_ (i := 11) (N := some 8) (v := ?_) (a' := ?_) #[true, true, true, true, true, true, true, true, true, true, true, true] rfl rfl (by kernel_rfl) (fun _ _ _ h => h) (Or.inl ⟨by rfl, ?_⟩) ?_ ?_
  rotate_left
  · intro w'
    go_simp
    with_reducible rfl
  rotate_left
  · simp only [Act.put, List.setIfInBounds_toArray, List.set_cons_zero, List.set_cons_succ, i64_w, i32_w]
    rfl
  refine done_ (by kernel_rfl) ?_
  go_wp2
  refine bodyPost_ret (results_tct rfl _ _ (w.heap.size + 1) 24 (PC p v) (0, 0) _ rfl pn.out Try.underlying24 rfl infPC) rfl ⟨v, rfl, HF.out.mono (fun j hj => hj.1), (bG HB)⟩
set_option maxHeartbeats 1600000 in
set_option maxRecDepth 100000 in
theorem rload_t0 (p : Pd) (v : Pv) (size : Int) (w : World) (ok : Nat → Prop) (hF : PF w ok p v) (ho : OKP p) (hk : ckP p = true) (hs : size = 4) :
    Calls Try.prog 13 #[.agg (PC p v), .int .u64 2097152, .int .i64 size] w fun e w' => ∃ v' : Pv, e = .returned (.tuple #[.int .u64 (IntKind.u64.wrap (rd p.q4 0)), .agg (PC p v'), .bool true]) ∧ PF w' (fun j => ok j ∨ w.heap.size ≤ j) p v' ∧ Below w.heap.size w w' := by
  subst hs
  have HK := Aside0.mk hk
  obtain ⟨hl0, hl3, hl4, _⟩ := check_len hk
  have hix : (0 : Int) < (p.q4.length : Int) := by omega
  have hixn : 0 < p.q4.length := by omega
  have HIX := Aside0.mk hixn
  obtain ⟨ab, ao, cc, e0⟩ := hF.p4.addr (by omega)
  have hw512 : IntKind.u64.wrap 512 = 512 := by decide
  have hw0 : IntKind.u64.wrap 0 = 0 := by decide
  have HE := Aside0.mk e0
  clear hk hl0 hl3 hl4 e0
  have HB := Aside0.mk (Below.refl w.heap.size w)
  have HF := Aside0.mk hF.bound
  have HO := Aside0.mk ho
  have hu := Try.underlying24
  clear hF ho
  go_enter Try.func13, Try.ntmps13
  go_upto_region 1 with fail
  obtain ⟨wa, hwa, on0, pn0, hb_, hz0⟩ := letter2 w (.cells (PC p v) 24 (0, 0)) (.cells PZ 24 (0, 0))
  unfold PZ at hwa
  rw [hwa]
  clear hwa
  have hzwa := Nat.le_of_eq hz0.symm
  clear hz0
  have on := Aside0.mk on0
  have pn := Aside0.mk pn0
  clear on0 pn0
  obtain ⟨onc, onf, onl⟩ := cells_of on.out
  obtain ⟨pnc, pnf, pnl⟩ := cells_of pn.out
  have HB_ : Aside0 (Below w.heap.size w wa) := ⟨hb_⟩
  have HF_ : Aside0 (PF wa (fun j => (ok j ∨ w.heap.size ≤ j) ∧ j ≠ w.heap.size ∧ j ≠ w.heap.size + 1) p v) := ⟨(HF.out.below hb_).mono (fun j hj => ⟨.inl hj.1, by have h_ := hj.2; omega, by have h_ := hj.2; omega⟩)⟩
  clear HB HF hb_; have HB := HB_; have HF := HF_; clear HB_ HF_
  go_wp2_with (first | ((with_reducible refine gate_dst (N := 9) rfl ?_); (try (refine gate_guard (by rfl) ?_; dsimp only)); refine wpList_load_row rfl 24 _ rfl _ (by rfl) _ (PC p v) _ _ (eG on) Try.underlying24 rfl infPC ?_))
  (go_at_call 18; (with_reducible refine (rcheck_c HF.out HO.out true HK.out).mono ?_); rintro e_ w1 ⟨rfl, hb_⟩; have HB_ : Aside0 (Below w.heap.size w w1) := Aside0.mk (below_step (bG HB) hb_); have hzw1 := hb_.size; (try simp at hzw1); have on_ := Aside0.mk (box_below hb_ (eG on)); have pn_ := Aside0.mk (box_below hb_ (eG pn)); (try clear on onc onf onl); have on := on_; clear on_; obtain ⟨onc, onf, onl⟩ := cells_of on.out; (try clear pn pnc pnf pnl); have pn := pn_; clear pn_; obtain ⟨pnc, pnf, pnl⟩ := cells_of pn.out; have HF_ := Aside0.mk (PF.below (by repeat (with_reducible first | exact HF.out | apply PF.drew | apply PF.drewN | apply PF.alloc)) hb_); clear HF; have HF := HF_; clear HF_; clear HB hb_; have HB := HB_; clear HB_)
  go_upto_region 14 with fail
  refine start_ (n := 12) (S := fun w' => w'.heap[w.heap.size]? = some (.cells (PC p v) 24 (0, 0)) ∧ w'.cell? ⟨w.heap.size, 4, none⟩ = some (.slice (some ⟨ab, ao, none⟩) p.q4.length cc) ∧ w'.cell? ⟨ab, ao, none⟩ = some (.int .i64 (rd p.q4 0))) (ds := []) #[false, false, false, false, false, false, false, false, false, false, false, false] (by kernel_rfl) rfl rfl ⟨(eG on), ((onc 4).trans (show (PC p v)[4]? = some v.p4 from rfl)).trans (congrArg some HE.out), SL.at HF.out.p4 HE.out 0 HIX.out⟩ (fun hHeld => ?_)
  refine pure_ (i := 0) (N := some 50) (v := ?_) (a' := ?_) #[true, false, false, false, false, false, false, false, false, false, false, false] rfl rfl (by kernel_rfl) (fun _ _ _ h => h) (Or.inl ⟨by rfl, ?_⟩) ?_ ?_
  rotate_left
  · intro w'
    go_simp
    with_reducible rfl
  rotate_left
  · simp only [Act.put, List.setIfInBounds_toArray, List.set_cons_zero, List.set_cons_succ, i64_w, i32_w]
    rfl
  refine take_ (i := 1) (N := some 51) (v := ?_) (a' := ?_) #[true, true, false, false, false, false, false, false, false, false, false, false] rfl rfl (by kernel_rfl) (fun _ _ _ h => h) (Or.inl ⟨by rfl, ?_⟩) hHeld ?_ ?_
  rotate_left
  · rintro w' ⟨h1_, h2_, h3_⟩
    go_simp
    with_reducible rfl
  rotate_left
  · simp only [Act.put, List.setIfInBounds_toArray, List.set_cons_zero, List.set_cons_succ, i64_w, i32_w]
    rfl
  refine pure_ (i := 2) (N := some 52) (v := ?_) (a' := ?_) #[true, true, true, false, false, false, false, false, false, false, false, false] rfl rfl (by kernel_rfl) (fun _ _ _ h => h) (Or.inl ⟨by rfl, ?_⟩) ?_ ?_
  rotate_left
  · intro w'
    go_simp
    with_reducible rfl
  rotate_left
  · simp only [Act.put, List.setIfInBounds_toArray, List.set_cons_zero, List.set_cons_succ, i64_w, i32_w]
    rfl
  refine pure_ (i := 3) (N := some 53) (v := ?_) (a' := ?_) #[true, true, true, true, false, false, false, false, false, false, false, false] rfl rfl (by kernel_rfl) (fun _ _ _ h => h) (Or.inl ⟨by rfl, ?_⟩) ?_ ?_
  rotate_left
  · intro w'
    go_simp
    with_reducible rfl
  rotate_left
  · simp only [Act.put, List.setIfInBounds_toArray, List.set_cons_zero, List.set_cons_succ, i64_w, i32_w]
    rfl
  refine pure_ (i := 4) (N := some 54) (v := ?_) (a' := ?_) #[true, true, true, true, true, false, false, false, false, false, false, false] rfl rfl (by kernel_rfl) (fun _ _ _ h => h) (Or.inl ⟨by rfl, ?_⟩) ?_ ?_
  rotate_left
  · intro w'
    go_simp
    with_reducible rfl
  rotate_left
  · simp only [Act.put, List.setIfInBounds_toArray, List.set_cons_zero, List.set_cons_succ, i64_w, i32_w]
    rfl
  refine pure_ (i := 5) (N := some 55) (v := ?_) (a' := ?_) #[true, true, true, true, true, true, false, false, false, false, false, false] rfl rfl (by kernel_rfl) (fun _ _ _ h => h) (Or.inl ⟨by rfl, ?_⟩) ?_ ?_
  rotate_left
  · intro w'
    go_simp
    with_reducible rfl
  rotate_left
  · simp only [Act.put, List.setIfInBounds_toArray, List.set_cons_zero, List.set_cons_succ, i64_w, i32_w]
    rfl
  refine take_ (i := 6) (N := some 56) (v := ?_) (a' := ?_) #[true, true, true, true, true, true, true, false, false, false, false, false] rfl rfl (by kernel_rfl) (fun _ _ _ h => h) (Or.inl ⟨by rfl, ?_⟩) hHeld ?_ ?_
  rotate_left
  · rintro w' ⟨h1_, h2_, h3_⟩
    go_simp
    with_reducible rfl
  rotate_left
  · simp only [Act.put, List.setIfInBounds_toArray, List.set_cons_zero, List.set_cons_succ, i64_w, i32_w]
    rfl
  refine pure_ (i := 7) (N := some 57) (v := ?_) (a' := ?_) #[true, true, true, true, true, true, true, true, false, false, false, false] rfl rfl (by kernel_rfl) (fun _ _ _ h => h) (Or.inl ⟨by rfl, ?_⟩) ?_ ?_
  rotate_left
  · intro w'
    go_simp
    with_reducible rfl
  rotate_left
  · simp only [Act.put, List.setIfInBounds_toArray, List.set_cons_zero, List.set_cons_succ, i64_w, i32_w]
    rfl
  refine rowL_ (i := 8) (N := some 58) #[true, true, true, true, true, true, true, true, true, false, false, false] rfl rfl (by kernel_rfl) 24 _ rfl (w.heap.size) (PC p v) (fun _ _ _ h => h) (by rfl) (by rfl) _ _ _ (fun _ h => h.1) Try.underlying24 rfl infPC hHeld (a' := ?_) ?_ ?_
  rotate_left
  · simp only [Act.put, List.setIfInBounds_toArray, List.set_cons_zero, List.set_cons_succ, i64_w, i32_w]
    rfl
  refine pure_ (i := 9) (N := some 6) (v := ?_) (a' := ?_) #[true, true, true, true, true, true, true, true, true, true, false, false] rfl rfl (by kernel_rfl) (fun _ _ _ h => h) (Or.inl ⟨by rfl, ?_⟩) ?_ ?_
  rotate_left
  · intro w'
    go_simp
    with_reducible rfl
  rotate_left
  · simp only [Act.put, List.setIfInBounds_toArray, List.set_cons_zero, List.set_cons_succ, i64_w, i32_w]
    rfl
  refine rowS_ (i := 10) #[true, true, true, true, true, true, true, true, true, true, true, false] rfl rfl (by kernel_rfl) (by decide) 24 _ _ rfl (w.heap.size + 1) (PC p v) (by rfl) (by rfl) (by rfl) PZ 24 (eG pn) rfl infPC HF.out.one ?_
  (rintro w2 ⟨hx_, hk_, hb_, hzz_⟩; have HB_ : Aside0 (Below w.heap.size w w2) := Aside0.mk (Below.trans (bG HB) (Below.mono hb_ (by first | omega | (simp only [sz_alloc, sz_drew, sz_drewN]; omega)))); have hzw2 := hzz_; (try simp at hzw2); clear hzz_; have on_ := Aside0.mk (st_put on.out hk_ (fun h_ => (by repeat (with_reducible first | exact h_ | apply ext_drew | apply ext_drewN | apply ext_alloc | refine blk_far ?_ (by show _ ≠ _; dsimp only; omega) _))) (by omega)); clear on onc onf onl; have on := on_; clear on_; obtain ⟨onc, onf, onl⟩ := cells_of on.out; (first | (have HF_ := Aside0.mk (PF.step HF.out (fun j hj _ => hk_ j (hj.2.2)))) | (have HF_ := Aside0.mk (PF.step (PF.alloc HF.out _) (fun j hj _ => hk_ j (hj.2.2))))); clear HF; have HF := HF_; clear HF_; (try clear pn pnc pnf pnl); have pn := Aside0.mk hx_; obtain ⟨pnc, pnf, pnl⟩ := cells_of pn.out; clear HB hb_ hk_ hx_; have HB := HB_; clear HB_)
  refine ⟨⟨(eG on), ((onc 4).trans (show (PC p v)[4]? = some v.p4 from rfl)).trans (congrArg some HE.out), SL.at HF.out.p4 HE.out 0 HIX.out⟩, ?_⟩
  refine pure_ (i := 11) (N := some 8) (v := ?_) (a' := ?_) #[true, true, true, true, true, true, true, true, true, true, true, true] rfl rfl (by kernel_rfl) (fun _ _ _ h => h) (Or.inl ⟨by rfl, ?_⟩) ?_ ?_
  rotate_left
  · intro w'
    go_simp
    with_reducible rfl
  rotate_left
  · simp only [Act.put, List.setIfInBounds_toArray, List.set_cons_zero, List.set_cons_succ, i64_w, i32_w]
    rfl
  refine done_ (by kernel_rfl) ?_
  go_wp2
  refine bodyPost_ret (results_tct rfl _ _ (w.heap.size + 1) 24 (PC p v) (0, 0) _ rfl pn.out Try.underlying24 rfl infPC) rfl ⟨v, rfl, HF.out.mono (fun j hj => hj.1), (bG HB)⟩
set_option maxHeartbeats 1600000 in
set_option maxRecDepth 100000 in
theorem rload_t1 (p : Pd) (v : Pv) (size : Int) (w : World) (ok : Nat → Prop) (hF : PF w ok p v) (ho : OKP p) (hk : ckP p = true) (hs : size = 4) :
    Calls Try.prog 13 #[.agg (PC p v), .int .u64 2101248, .int .i64 size] w fun e w' => ∃ v' : Pv, e = .returned (.tuple #[.int .u64 (IntKind.u64.wrap (rd p.q4 1)), .agg (PC p v'), .bool true]) ∧ PF w' (fun j => ok j ∨ w.heap.size ≤ j) p v' ∧ Below w.heap.size w w' := by
  subst hs
  have HK := Aside0.mk hk
  obtain ⟨hl0, hl3, hl4, _⟩ := check_len hk
  have hix : (1 : Int) < (p.q4.length : Int) := by omega
  have hixn : 1 < p.q4.length := by omega
  have HIX := Aside0.mk hixn
  obtain ⟨ab, ao, cc, e0⟩ := hF.p4.addr (by omega)
  have hw513 : IntKind.u64.wrap 513 = 513 := by decide
  have hw1 : IntKind.u64.wrap 1 = 1 := by decide
  have HE := Aside0.mk e0
  clear hk hl0 hl3 hl4 e0
  have HB := Aside0.mk (Below.refl w.heap.size w)
  have HF := Aside0.mk hF.bound
  have HO := Aside0.mk ho
  have hu := Try.underlying24
  clear hF ho
  go_enter Try.func13, Try.ntmps13
  go_upto_region 1 with fail
  obtain ⟨wa, hwa, on0, pn0, hb_, hz0⟩ := letter2 w (.cells (PC p v) 24 (0, 0)) (.cells PZ 24 (0, 0))
  unfold PZ at hwa
  rw [hwa]
  clear hwa
  have hzwa := Nat.le_of_eq hz0.symm
  clear hz0
  have on := Aside0.mk on0
  have pn := Aside0.mk pn0
  clear on0 pn0
  obtain ⟨onc, onf, onl⟩ := cells_of on.out
  obtain ⟨pnc, pnf, pnl⟩ := cells_of pn.out
  have HB_ : Aside0 (Below w.heap.size w wa) := ⟨hb_⟩
  have HF_ : Aside0 (PF wa (fun j => (ok j ∨ w.heap.size ≤ j) ∧ j ≠ w.heap.size ∧ j ≠ w.heap.size + 1) p v) := ⟨(HF.out.below hb_).mono (fun j hj => ⟨.inl hj.1, by have h_ := hj.2; omega, by have h_ := hj.2; omega⟩)⟩
  clear HB HF hb_; have HB := HB_; have HF := HF_; clear HB_ HF_
  go_wp2_with (first | ((with_reducible refine gate_dst (N := 9) rfl ?_); (try (refine gate_guard (by rfl) ?_; dsimp only)); refine wpList_load_row rfl 24 _ rfl _ (by rfl) _ (PC p v) _ _ (eG on) Try.underlying24 rfl infPC ?_))
  (go_at_call 18; (with_reducible refine (rcheck_c HF.out HO.out true HK.out).mono ?_); rintro e_ w1 ⟨rfl, hb_⟩; have HB_ : Aside0 (Below w.heap.size w w1) := Aside0.mk (below_step (bG HB) hb_); have hzw1 := hb_.size; (try simp at hzw1); have on_ := Aside0.mk (box_below hb_ (eG on)); have pn_ := Aside0.mk (box_below hb_ (eG pn)); (try clear on onc onf onl); have on := on_; clear on_; obtain ⟨onc, onf, onl⟩ := cells_of on.out; (try clear pn pnc pnf pnl); have pn := pn_; clear pn_; obtain ⟨pnc, pnf, pnl⟩ := cells_of pn.out; have HF_ := Aside0.mk (PF.below (by repeat (with_reducible first | exact HF.out | apply PF.drew | apply PF.drewN | apply PF.alloc)) hb_); clear HF; have HF := HF_; clear HF_; clear HB hb_; have HB := HB_; clear HB_)
  go_upto_region 14 with fail
  refine start_ (n := 12) (S := fun w' => w'.heap[w.heap.size]? = some (.cells (PC p v) 24 (0, 0)) ∧ w'.cell? ⟨w.heap.size, 4, none⟩ = some (.slice (some ⟨ab, ao, none⟩) p.q4.length cc) ∧ w'.cell? ⟨ab, ao + 1, none⟩ = some (.int .i64 (rd p.q4 1))) (ds := []) #[false, false, false, false, false, false, false, false, false, false, false, false] (by kernel_rfl) rfl rfl ⟨(eG on), ((onc 4).trans (show (PC p v)[4]? = some v.p4 from rfl)).trans (congrArg some HE.out), SL.at HF.out.p4 HE.out 1 HIX.out⟩ (fun hHeld => ?_)
  refine pure_ (i := 0) (N := some 50) (v := ?_) (a' := ?_) #[true, false, false, false, false, false, false, false, false, false, false, false] rfl rfl (by kernel_rfl) (fun _ _ _ h => h) (Or.inl ⟨by rfl, ?_⟩) ?_ ?_
  rotate_left
  · intro w'
    go_simp
    with_reducible rfl
  rotate_left
  · simp only [Act.put, List.setIfInBounds_toArray, List.set_cons_zero, List.set_cons_succ, i64_w, i32_w]
    rfl
  refine take_ (i := 1) (N := some 51) (v := ?_) (a' := ?_) #[true, true, false, false, false, false, false, false, false, false, false, false] rfl rfl (by kernel_rfl) (fun _ _ _ h => h) (Or.inl ⟨by rfl, ?_⟩) hHeld ?_ ?_
  rotate_left
  · rintro w' ⟨h1_, h2_, h3_⟩
    go_simp
    with_reducible rfl
  rotate_left
  · simp only [Act.put, List.setIfInBounds_toArray, List.set_cons_zero, List.set_cons_succ, i64_w, i32_w]
    rfl
  refine pure_ (i := 2) (N := some 52) (v := ?_) (a' := ?_) #[true, true, true, false, false, false, false, false, false, false, false, false] rfl rfl (by kernel_rfl) (fun _ _ _ h => h) (Or.inl ⟨by rfl, ?_⟩) ?_ ?_
  rotate_left
  · intro w'
    go_simp
    with_reducible rfl
  rotate_left
  · simp only [Act.put, List.setIfInBounds_toArray, List.set_cons_zero, List.set_cons_succ, i64_w, i32_w]
    rfl
  refine pure_ (i := 3) (N := some 53) (v := ?_) (a' := ?_) #[true, true, true, true, false, false, false, false, false, false, false, false] rfl rfl (by kernel_rfl) (fun _ _ _ h => h) (Or.inl ⟨by rfl, ?_⟩) ?_ ?_
  rotate_left
  · intro w'
    go_simp
    with_reducible rfl
  rotate_left
  · simp only [Act.put, List.setIfInBounds_toArray, List.set_cons_zero, List.set_cons_succ, i64_w, i32_w]
    rfl
  refine pure_ (i := 4) (N := some 54) (v := ?_) (a' := ?_) #[true, true, true, true, true, false, false, false, false, false, false, false] rfl rfl (by kernel_rfl) (fun _ _ _ h => h) (Or.inl ⟨by rfl, ?_⟩) ?_ ?_
  rotate_left
  · intro w'
    go_simp
    with_reducible rfl
  rotate_left
  · simp only [Act.put, List.setIfInBounds_toArray, List.set_cons_zero, List.set_cons_succ, i64_w, i32_w]
    rfl
  refine pure_ (i := 5) (N := some 55) (v := ?_) (a' := ?_) #[true, true, true, true, true, true, false, false, false, false, false, false] rfl rfl (by kernel_rfl) (fun _ _ _ h => h) (Or.inl ⟨by rfl, ?_⟩) ?_ ?_
  rotate_left
  · intro w'
    go_simp
    with_reducible rfl
  rotate_left
  · simp only [Act.put, List.setIfInBounds_toArray, List.set_cons_zero, List.set_cons_succ, i64_w, i32_w]
    rfl
  refine take_ (i := 6) (N := some 56) (v := ?_) (a' := ?_) #[true, true, true, true, true, true, true, false, false, false, false, false] rfl rfl (by kernel_rfl) (fun _ _ _ h => h) (Or.inl ⟨by rfl, ?_⟩) hHeld ?_ ?_
  rotate_left
  · rintro w' ⟨h1_, h2_, h3_⟩
    go_simp
    with_reducible rfl
  rotate_left
  · simp only [Act.put, List.setIfInBounds_toArray, List.set_cons_zero, List.set_cons_succ, i64_w, i32_w]
    rfl
  refine pure_ (i := 7) (N := some 57) (v := ?_) (a' := ?_) #[true, true, true, true, true, true, true, true, false, false, false, false] rfl rfl (by kernel_rfl) (fun _ _ _ h => h) (Or.inl ⟨by rfl, ?_⟩) ?_ ?_
  rotate_left
  · intro w'
    go_simp
    with_reducible rfl
  rotate_left
  · simp only [Act.put, List.setIfInBounds_toArray, List.set_cons_zero, List.set_cons_succ, i64_w, i32_w]
    rfl
  refine rowL_ (i := 8) (N := some 58) #[true, true, true, true, true, true, true, true, true, false, false, false] rfl rfl (by kernel_rfl) 24 _ rfl (w.heap.size) (PC p v) (fun _ _ _ h => h) (by rfl) (by rfl) _ _ _ (fun _ h => h.1) Try.underlying24 rfl infPC hHeld (a' := ?_) ?_ ?_
  rotate_left
  · simp only [Act.put, List.setIfInBounds_toArray, List.set_cons_zero, List.set_cons_succ, i64_w, i32_w]
    rfl
  refine pure_ (i := 9) (N := some 6) (v := ?_) (a' := ?_) #[true, true, true, true, true, true, true, true, true, true, false, false] rfl rfl (by kernel_rfl) (fun _ _ _ h => h) (Or.inl ⟨by rfl, ?_⟩) ?_ ?_
  rotate_left
  · intro w'
    go_simp
    with_reducible rfl
  rotate_left
  · simp only [Act.put, List.setIfInBounds_toArray, List.set_cons_zero, List.set_cons_succ, i64_w, i32_w]
    rfl
  refine rowS_ (i := 10) #[true, true, true, true, true, true, true, true, true, true, true, false] rfl rfl (by kernel_rfl) (by decide) 24 _ _ rfl (w.heap.size + 1) (PC p v) (by rfl) (by rfl) (by rfl) PZ 24 (eG pn) rfl infPC HF.out.one ?_
  (rintro w2 ⟨hx_, hk_, hb_, hzz_⟩; have HB_ : Aside0 (Below w.heap.size w w2) := Aside0.mk (Below.trans (bG HB) (Below.mono hb_ (by first | omega | (simp only [sz_alloc, sz_drew, sz_drewN]; omega)))); have hzw2 := hzz_; (try simp at hzw2); clear hzz_; have on_ := Aside0.mk (st_put on.out hk_ (fun h_ => (by repeat (with_reducible first | exact h_ | apply ext_drew | apply ext_drewN | apply ext_alloc | refine blk_far ?_ (by show _ ≠ _; dsimp only; omega) _))) (by omega)); clear on onc onf onl; have on := on_; clear on_; obtain ⟨onc, onf, onl⟩ := cells_of on.out; (first | (have HF_ := Aside0.mk (PF.step HF.out (fun j hj _ => hk_ j (hj.2.2)))) | (have HF_ := Aside0.mk (PF.step (PF.alloc HF.out _) (fun j hj _ => hk_ j (hj.2.2))))); clear HF; have HF := HF_; clear HF_; (try clear pn pnc pnf pnl); have pn := Aside0.mk hx_; obtain ⟨pnc, pnf, pnl⟩ := cells_of pn.out; clear HB hb_ hk_ hx_; have HB := HB_; clear HB_)
  refine ⟨⟨(eG on), ((onc 4).trans (show (PC p v)[4]? = some v.p4 from rfl)).trans (congrArg some HE.out), SL.at HF.out.p4 HE.out 1 HIX.out⟩, ?_⟩
  refine pure_ (i := 11) (N := some 8) (v := ?_) (a' := ?_) #[true, true, true, true, true, true, true, true, true, true, true, true] rfl rfl (by kernel_rfl) (fun _ _ _ h => h) (Or.inl ⟨by rfl, ?_⟩) ?_ ?_
  rotate_left
  · intro w'
    go_simp
    with_reducible rfl
  rotate_left
  · simp only [Act.put, List.setIfInBounds_toArray, List.set_cons_zero, List.set_cons_succ, i64_w, i32_w]
    rfl
  refine done_ (by kernel_rfl) ?_
  go_wp2
  refine bodyPost_ret (results_tct rfl _ _ (w.heap.size + 1) 24 (PC p v) (0, 0) _ rfl pn.out Try.underlying24 rfl infPC) rfl ⟨v, rfl, HF.out.mono (fun j hj => hj.1), (bG HB)⟩
end Go.Proofs.Ytmlpnjoejdpblaa.Q
end
section
/- The document's Load, what is pending, claims. -/
namespace Go.Proofs.Ytmlpnjoejdpblaa.Q
open Go.RowKit Go.Proofs.YtmlpnjoejdpblaaW.PrintWords Go.Proofs.YtmlpnjoejdpblaaW.PrintLast Go.Proofs.YtmlpnjoejdpblaaW.PrintMore Go.Proofs.Ytmlpnjoejdpblaa.L
attribute [local go_sem] Instr.field part asAgg lt_step max2_int min2_int max_two min_two max_three min_three max_four min_four lt_0_1 lt_0_2 lt_1_2 lt_0_3 lt_1_3 lt_2_3 lt_0_4 lt_1_4 lt_2_4 lt_3_4 lt_0_5 lt_1_5 lt_2_5 lt_3_5 lt_4_5 lt_0_6 lt_1_6 lt_2_6 lt_3_6 lt_4_6 lt_5_6 lt_0_7 lt_1_7 lt_2_7 lt_3_7 lt_4_7 lt_5_7 lt_6_7 lt_0_8 lt_1_8 lt_2_8 lt_3_8 lt_4_8 lt_5_8 lt_6_8 lt_7_8
set_option linter.unusedVariables false
set_option linter.unusedSimpArgs false
set_option maxHeartbeats 1600000 in
set_option maxRecDepth 100000 in
theorem rload_pend (p : Pd) (v : Pv) (size : Int) (w : World) (ok : Nat → Prop) (hF : PF w ok p v) (ho : OKP p) (hk : ckP p = true) (hs : size = 4) :
    Calls Try.prog 13 #[.agg (PC p v), .int .u64 4096, .int .i64 size] w fun e w' => ∃ v' : Pv, e = .returned (.tuple #[.int .u64 (IntKind.u64.wrap p.x), .agg (PC p v'), .bool true]) ∧ PF w' (fun j => ok j ∨ w.heap.size ≤ j) p v' ∧ Below w.heap.size w w' := by
  subst hs
  have HK := Aside0.mk hk
  clear hk
  have HB := Aside0.mk (Below.refl w.heap.size w)
  have HF := Aside0.mk hF.bound
  have HO := Aside0.mk ho
  have hu := Try.underlying24
  clear hF ho
  go_enter Try.func13, Try.ntmps13
  go_upto_region 1 with fail
  obtain ⟨wa, hwa, on0, pn0, hb_, hz0⟩ := letter2 w (.cells (PC p v) 24 (0, 0)) (.cells PZ 24 (0, 0))
  unfold PZ at hwa
  rw [hwa]
  clear hwa
  have hzwa := Nat.le_of_eq hz0.symm
  clear hz0
  have on := Aside0.mk on0
  have pn := Aside0.mk pn0
  clear on0 pn0
  obtain ⟨onc, onf, onl⟩ := cells_of on.out
  obtain ⟨pnc, pnf, pnl⟩ := cells_of pn.out
  have HB_ : Aside0 (Below w.heap.size w wa) := ⟨hb_⟩
  have HF_ : Aside0 (PF wa (fun j => (ok j ∨ w.heap.size ≤ j) ∧ j ≠ w.heap.size ∧ j ≠ w.heap.size + 1) p v) := ⟨(HF.out.below hb_).mono (fun j hj => ⟨.inl hj.1, by have h_ := hj.2; omega, by have h_ := hj.2; omega⟩)⟩
  clear HB HF hb_; have HB := HB_; have HF := HF_; clear HB_ HF_
  go_wp2_with (first | ((with_reducible refine gate_dst (N := 9) rfl ?_); (try (refine gate_guard (by rfl) ?_; dsimp only)); refine wpList_load_row rfl 24 _ rfl _ (by rfl) _ (PC p v) _ _ (eG on) Try.underlying24 rfl infPC ?_))
  (go_at_call 18; (with_reducible refine (rcheck_c HF.out HO.out true HK.out).mono ?_); rintro e_ w1 ⟨rfl, hb_⟩; have HB_ : Aside0 (Below w.heap.size w w1) := Aside0.mk (below_step (bG HB) hb_); have hzw1 := hb_.size; (try simp at hzw1); have on_ := Aside0.mk (box_below hb_ (eG on)); have pn_ := Aside0.mk (box_below hb_ (eG pn)); (try clear on onc onf onl); have on := on_; clear on_; obtain ⟨onc, onf, onl⟩ := cells_of on.out; (try clear pn pnc pnf pnl); have pn := pn_; clear pn_; obtain ⟨pnc, pnf, pnl⟩ := cells_of pn.out; have HF_ := Aside0.mk (PF.below (by repeat (with_reducible first | exact HF.out | apply PF.drew | apply PF.drewN | apply PF.alloc)) hb_); clear HF; have HF := HF_; clear HF_; clear HB hb_; have HB := HB_; clear HB_)
  go_upto_region 8 with fail
  refine start_ (n := 7) (S := fun w' => w'.heap[w.heap.size]? = some (.cells (PC p v) 24 (0, 0)) ∧ w'.cell? ⟨w.heap.size, 1, none⟩ = some (.int .i64 p.x)) (ds := []) #[false, false, false, false, false, false, false] (by kernel_rfl) rfl rfl ⟨(eG on), onc 1⟩ (fun hHeld => ?_)
  refine pure_ (i := 0) (N := some 31) (v := ?_) (a' := ?_) #[true, false, false, false, false, false, false] rfl rfl (by kernel_rfl) (fun _ _ _ h => h) (Or.inl ⟨by rfl, ?_⟩) ?_ ?_
  rotate_left
  · intro w'
    go_simp
    with_reducible rfl
  rotate_left
  · simp only [Act.put, List.setIfInBounds_toArray, List.set_cons_zero, List.set_cons_succ, i64_w, i32_w]
    rfl
  refine take_ (i := 1) (N := some 32) (v := ?_) (a' := ?_) #[true, true, false, false, false, false, false] rfl rfl (by kernel_rfl) (fun _ _ _ h => h) (Or.inl ⟨by rfl, ?_⟩) hHeld ?_ ?_
  rotate_left
  · rintro w' ⟨h1_, h2_⟩
    go_simp
    with_reducible rfl
  rotate_left
  · simp only [Act.put, List.setIfInBounds_toArray, List.set_cons_zero, List.set_cons_succ, i64_w, i32_w]
    rfl
  refine pure_ (i := 2) (N := some 33) (v := ?_) (a' := ?_) #[true, true, true, false, false, false, false] rfl rfl (by kernel_rfl) (fun _ _ _ h => h) (Or.inl ⟨by rfl, ?_⟩) ?_ ?_
  rotate_left
  · intro w'
    go_simp
    with_reducible rfl
  rotate_left
  · simp only [Act.put, List.setIfInBounds_toArray, List.set_cons_zero, List.set_cons_succ, i64_w, i32_w]
    rfl
  refine rowL_ (i := 3) (N := some 34) #[true, true, true, true, false, false, false] rfl rfl (by kernel_rfl) 24 _ rfl (w.heap.size) (PC p v) (fun _ _ _ h => h) (by rfl) (by rfl) _ _ _ (fun _ h => h.1) Try.underlying24 rfl infPC hHeld (a' := ?_) ?_ ?_
  rotate_left
  · simp only [Act.put, List.setIfInBounds_toArray, List.set_cons_zero, List.set_cons_succ, i64_w, i32_w]
    rfl
  refine pure_ (i := 4) (N := some 6) (v := ?_) (a' := ?_) #[true, true, true, true, true, false, false] rfl rfl (by kernel_rfl) (fun _ _ _ h => h) (Or.inl ⟨by rfl, ?_⟩) ?_ ?_
  rotate_left
  · intro w'
    go_simp
    with_reducible rfl
  rotate_left
  · simp only [Act.put, List.setIfInBounds_toArray, List.set_cons_zero, List.set_cons_succ, i64_w, i32_w]
    rfl
  refine rowS_ (i := 5) #[true, true, true, true, true, true, false] rfl rfl (by kernel_rfl) (by decide) 24 _ _ rfl (w.heap.size + 1) (PC p v) (by rfl) (by rfl) (by rfl) PZ 24 (eG pn) rfl infPC HF.out.one ?_
  (rintro w2 ⟨hx_, hk_, hb_, hzz_⟩; have HB_ : Aside0 (Below w.heap.size w w2) := Aside0.mk (Below.trans (bG HB) (Below.mono hb_ (by first | omega | (simp only [sz_alloc, sz_drew, sz_drewN]; omega)))); have hzw2 := hzz_; (try simp at hzw2); clear hzz_; have on_ := Aside0.mk (st_put on.out hk_ (fun h_ => (by repeat (with_reducible first | exact h_ | apply ext_drew | apply ext_drewN | apply ext_alloc | refine blk_far ?_ (by show _ ≠ _; dsimp only; omega) _))) (by omega)); clear on onc onf onl; have on := on_; clear on_; obtain ⟨onc, onf, onl⟩ := cells_of on.out; (first | (have HF_ := Aside0.mk (PF.step HF.out (fun j hj _ => hk_ j (hj.2.2)))) | (have HF_ := Aside0.mk (PF.step (PF.alloc HF.out _) (fun j hj _ => hk_ j (hj.2.2))))); clear HF; have HF := HF_; clear HF_; (try clear pn pnc pnf pnl); have pn := Aside0.mk hx_; obtain ⟨pnc, pnf, pnl⟩ := cells_of pn.out; clear HB hb_ hk_ hx_; have HB := HB_; clear HB_)
  refine ⟨⟨(eG on), onc 1⟩, ?_⟩
  refine pure_ (i := 6) (N := some 8) (v := ?_) (a' := ?_) #[true, true, true, true, true, true, true] rfl rfl (by kernel_rfl) (fun _ _ _ h => h) (Or.inl ⟨by rfl, ?_⟩) ?_ ?_
  rotate_left
  · intro w'
    go_simp
    with_reducible rfl
  rotate_left
  · simp only [Act.put, List.setIfInBounds_toArray, List.set_cons_zero, List.set_cons_succ, i64_w, i32_w]
    rfl
  refine done_ (by kernel_rfl) ?_
  go_wp2
  refine bodyPost_ret (results_tct rfl _ _ (w.heap.size + 1) 24 (PC p v) (0, 0) _ rfl pn.out Try.underlying24 rfl infPC) rfl ⟨v, rfl, HF.out.mono (fun j hj => hj.1), (bG HB)⟩
set_option maxHeartbeats 1600000 in
set_option maxRecDepth 100000 in
theorem rload_c0 (p : Pd) (v : Pv) (size : Int) (w : World) (ok : Nat → Prop) (hF : PF w ok p v) (ho : OKP p) (hk : ckP p = true) (hs : size = 4) (r1 : Int) (p2 : Pd) (r7 : Bool) (h : drawbridgeref10_claim.f 4 p.q0 p.x p.y p.q3 p.q4 0 = some (r1, p2.q0, p2.x, p2.y, p2.q3, p2.q4, r7)) :
    Calls Try.prog 13 #[.agg (PC p v), .int .u64 2097156, .int .i64 size] w fun e w' => ∃ v' : Pv, e = .returned (.tuple #[.int .u64 r1, .agg (PC p2 v'), .bool r7]) ∧ PF w' (fun j => ok j ∨ w.heap.size ≤ j) p2 v' ∧ Below w.heap.size w w' := by
  subst hs
  have HK := Aside0.mk hk
  have HC := Aside0.mk h
  clear hk h
  have HB := Aside0.mk (Below.refl w.heap.size w)
  have HF := Aside0.mk hF.bound
  have HO := Aside0.mk ho
  have hu := Try.underlying24
  clear hF ho
  go_enter Try.func13, Try.ntmps13
  go_upto_region 1 with fail
  obtain ⟨wa, hwa, on0, pn0, hb_, hz0⟩ := letter2 w (.cells (PC p v) 24 (0, 0)) (.cells PZ 24 (0, 0))
  unfold PZ at hwa
  rw [hwa]
  clear hwa
  have hzwa := Nat.le_of_eq hz0.symm
  clear hz0
  have on := Aside0.mk on0
  have pn := Aside0.mk pn0
  clear on0 pn0
  obtain ⟨onc, onf, onl⟩ := cells_of on.out
  obtain ⟨pnc, pnf, pnl⟩ := cells_of pn.out
  have HB_ : Aside0 (Below w.heap.size w wa) := ⟨hb_⟩
  have HF_ : Aside0 (PF wa (fun j => (ok j ∨ w.heap.size ≤ j) ∧ j ≠ w.heap.size ∧ j ≠ w.heap.size + 1) p v) := ⟨(HF.out.below hb_).mono (fun j hj => ⟨.inl hj.1, by have h_ := hj.2; omega, by have h_ := hj.2; omega⟩)⟩
  clear HB HF hb_; have HB := HB_; have HF := HF_; clear HB_ HF_
  go_wp2_with (first | ((with_reducible refine gate_dst (N := 9) rfl ?_); (try (refine gate_guard (by rfl) ?_; dsimp only)); refine wpList_load_row rfl 24 _ rfl _ (by rfl) _ (PC p v) _ _ (eG on) Try.underlying24 rfl infPC ?_))
  (go_at_call 18; (with_reducible refine (rcheck_c HF.out HO.out true HK.out).mono ?_); rintro e_ w1 ⟨rfl, hb_⟩; have HB_ : Aside0 (Below w.heap.size w w1) := Aside0.mk (below_step (bG HB) hb_); have hzw1 := hb_.size; (try simp at hzw1); have on_ := Aside0.mk (box_below hb_ (eG on)); have pn_ := Aside0.mk (box_below hb_ (eG pn)); (try clear on onc onf onl); have on := on_; clear on_; obtain ⟨onc, onf, onl⟩ := cells_of on.out; (try clear pn pnc pnf pnl); have pn := pn_; clear pn_; obtain ⟨pnc, pnf, pnl⟩ := cells_of pn.out; have HF_ := Aside0.mk (PF.below (by repeat (with_reducible first | exact HF.out | apply PF.drew | apply PF.drewN | apply PF.alloc)) hb_); clear HF; have HF := HF_; clear HF_; clear HB hb_; have HB := HB_; clear HB_)
  go_wp2_with (first | ((with_reducible refine gate_dst (N := 62) rfl ?_); (try (refine gate_guard (by rfl) ?_; dsimp only)); refine wpList_load_row rfl 24 _ rfl _ (by rfl) _ (PC p v) _ _ (eG on) Try.underlying24 rfl infPC ?_))
  (go_at_call 30; (with_reducible refine (rclaim_c HF.out 0 r1 p2 r7 HC.out).mono ?_); rintro e_ w2 ⟨v1, rfl, HG, hb_⟩; have HB_ : Aside0 (Below w.heap.size w w2) := Aside0.mk (below_step (bG HB) hb_); have hzw2 := hb_.size; (try simp at hzw2); have on_ := Aside0.mk (box_below hb_ (eG on)); have pn_ := Aside0.mk (box_below hb_ (eG pn)); (try clear on onc onf onl); have on := on_; clear on_; obtain ⟨onc, onf, onl⟩ := cells_of on.out; (try clear pn pnc pnf pnl); have pn := pn_; clear pn_; obtain ⟨pnc, pnf, pnl⟩ := cells_of pn.out; clear HB hb_; have HB := HB_; clear HB_; have HG_ := Aside0.mk HG; clear HG; have HG := HG_; clear HG_; skip)
  have HG_ : Aside0 (PF w2 (fun j => (ok j ∨ w.heap.size ≤ j) ∧ j ≠ w.heap.size ∧ j ≠ w.heap.size + 1) p2 v1) := ⟨HG.out.mono (fun j hj => by
    rcases hj with hj | hj
    · exact hj
    · exact ⟨.inr (by omega), by omega, by omega⟩)⟩
  clear HG
  have HG := HG_
  clear HG_
  go_wp2_with (first | ((with_reducible refine gate_store (t := 24) (p := 7) (v := .tmp 69) rfl ?_); refine wpList_store_all rfl 24 _ _ rfl rfl _ (PC p2 v1) (by rfl) (by rfl) _ _ pn.out rfl infPC (HG.out.one) ?_; rintro w3 ⟨hx_, hk_, hb_, hzz_⟩; have HB_ : Aside0 (Below w.heap.size w w3) := Aside0.mk (Below.trans (bG HB) (Below.mono hb_ (by first | omega | (simp only [sz_alloc, sz_drew, sz_drewN]; omega)))); have hzw3 := hzz_; (try simp at hzw3); clear hzz_; have on_ := Aside0.mk (st_put on.out hk_ (fun h_ => (by repeat (with_reducible first | exact h_ | apply ext_drew | apply ext_drewN | apply ext_alloc | refine blk_far ?_ (by show _ ≠ _; dsimp only; omega) _))) (by omega)); clear on onc onf onl; have on := on_; clear on_; obtain ⟨onc, onf, onl⟩ := cells_of on.out; (first | (have HG_ := Aside0.mk (PF.step HG.out (fun j hj _ => hk_ j (hj.2.2)))) | (have HG_ := Aside0.mk (PF.step (PF.alloc HG.out _) (fun j hj _ => hk_ j (hj.2.2))))); clear HG; have HG := HG_; clear HG_; (try clear pn pnc pnf pnl); have pn := Aside0.mk hx_; obtain ⟨pnc, pnf, pnl⟩ := cells_of pn.out; clear HB hb_ hk_ hx_; have HB := HB_; clear HB_))
  refine bodyPost_ret (results_tct rfl _ _ (w.heap.size + 1) 24 (PC p2 v1) (0, 0) _ rfl pn.out Try.underlying24 rfl infPC) rfl ⟨v1, rfl, HG.out.mono (fun j hj => hj.1), (bG HB)⟩
set_option maxHeartbeats 1600000 in
set_option maxRecDepth 100000 in
theorem rload_c1 (p : Pd) (v : Pv) (size : Int) (w : World) (ok : Nat → Prop) (hF : PF w ok p v) (ho : OKP p) (hk : ckP p = true) (hs : size = 4) (r1 : Int) (p2 : Pd) (r7 : Bool) (h : drawbridgeref10_claim.f 4 p.q0 p.x p.y p.q3 p.q4 1 = some (r1, p2.q0, p2.x, p2.y, p2.q3, p2.q4, r7)) :
    Calls Try.prog 13 #[.agg (PC p v), .int .u64 2101252, .int .i64 size] w fun e w' => ∃ v' : Pv, e = .returned (.tuple #[.int .u64 r1, .agg (PC p2 v'), .bool r7]) ∧ PF w' (fun j => ok j ∨ w.heap.size ≤ j) p2 v' ∧ Below w.heap.size w w' := by
  subst hs
  have HK := Aside0.mk hk
  have HC := Aside0.mk h
  clear hk h
  have HB := Aside0.mk (Below.refl w.heap.size w)
  have HF := Aside0.mk hF.bound
  have HO := Aside0.mk ho
  have hu := Try.underlying24
  clear hF ho
  go_enter Try.func13, Try.ntmps13
  go_upto_region 1 with fail
  obtain ⟨wa, hwa, on0, pn0, hb_, hz0⟩ := letter2 w (.cells (PC p v) 24 (0, 0)) (.cells PZ 24 (0, 0))
  unfold PZ at hwa
  rw [hwa]
  clear hwa
  have hzwa := Nat.le_of_eq hz0.symm
  clear hz0
  have on := Aside0.mk on0
  have pn := Aside0.mk pn0
  clear on0 pn0
  obtain ⟨onc, onf, onl⟩ := cells_of on.out
  obtain ⟨pnc, pnf, pnl⟩ := cells_of pn.out
  have HB_ : Aside0 (Below w.heap.size w wa) := ⟨hb_⟩
  have HF_ : Aside0 (PF wa (fun j => (ok j ∨ w.heap.size ≤ j) ∧ j ≠ w.heap.size ∧ j ≠ w.heap.size + 1) p v) := ⟨(HF.out.below hb_).mono (fun j hj => ⟨.inl hj.1, by have h_ := hj.2; omega, by have h_ := hj.2; omega⟩)⟩
  clear HB HF hb_; have HB := HB_; have HF := HF_; clear HB_ HF_
  go_wp2_with (first | ((with_reducible refine gate_dst (N := 9) rfl ?_); (try (refine gate_guard (by rfl) ?_; dsimp only)); refine wpList_load_row rfl 24 _ rfl _ (by rfl) _ (PC p v) _ _ (eG on) Try.underlying24 rfl infPC ?_))
  (go_at_call 18; (with_reducible refine (rcheck_c HF.out HO.out true HK.out).mono ?_); rintro e_ w1 ⟨rfl, hb_⟩; have HB_ : Aside0 (Below w.heap.size w w1) := Aside0.mk (below_step (bG HB) hb_); have hzw1 := hb_.size; (try simp at hzw1); have on_ := Aside0.mk (box_below hb_ (eG on)); have pn_ := Aside0.mk (box_below hb_ (eG pn)); (try clear on onc onf onl); have on := on_; clear on_; obtain ⟨onc, onf, onl⟩ := cells_of on.out; (try clear pn pnc pnf pnl); have pn := pn_; clear pn_; obtain ⟨pnc, pnf, pnl⟩ := cells_of pn.out; have HF_ := Aside0.mk (PF.below (by repeat (with_reducible first | exact HF.out | apply PF.drew | apply PF.drewN | apply PF.alloc)) hb_); clear HF; have HF := HF_; clear HF_; clear HB hb_; have HB := HB_; clear HB_)
  go_wp2_with (first | ((with_reducible refine gate_dst (N := 62) rfl ?_); (try (refine gate_guard (by rfl) ?_; dsimp only)); refine wpList_load_row rfl 24 _ rfl _ (by rfl) _ (PC p v) _ _ (eG on) Try.underlying24 rfl infPC ?_))
  (go_at_call 30; (with_reducible refine (rclaim_c HF.out 1 r1 p2 r7 HC.out).mono ?_); rintro e_ w2 ⟨v1, rfl, HG, hb_⟩; have HB_ : Aside0 (Below w.heap.size w w2) := Aside0.mk (below_step (bG HB) hb_); have hzw2 := hb_.size; (try simp at hzw2); have on_ := Aside0.mk (box_below hb_ (eG on)); have pn_ := Aside0.mk (box_below hb_ (eG pn)); (try clear on onc onf onl); have on := on_; clear on_; obtain ⟨onc, onf, onl⟩ := cells_of on.out; (try clear pn pnc pnf pnl); have pn := pn_; clear pn_; obtain ⟨pnc, pnf, pnl⟩ := cells_of pn.out; clear HB hb_; have HB := HB_; clear HB_; have HG_ := Aside0.mk HG; clear HG; have HG := HG_; clear HG_; skip)
  have HG_ : Aside0 (PF w2 (fun j => (ok j ∨ w.heap.size ≤ j) ∧ j ≠ w.heap.size ∧ j ≠ w.heap.size + 1) p2 v1) := ⟨HG.out.mono (fun j hj => by
    rcases hj with hj | hj
    · exact hj
    · exact ⟨.inr (by omega), by omega, by omega⟩)⟩
  clear HG
  have HG := HG_
  clear HG_
  go_wp2_with (first | ((with_reducible refine gate_store (t := 24) (p := 7) (v := .tmp 69) rfl ?_); refine wpList_store_all rfl 24 _ _ rfl rfl _ (PC p2 v1) (by rfl) (by rfl) _ _ pn.out rfl infPC (HG.out.one) ?_; rintro w3 ⟨hx_, hk_, hb_, hzz_⟩; have HB_ : Aside0 (Below w.heap.size w w3) := Aside0.mk (Below.trans (bG HB) (Below.mono hb_ (by first | omega | (simp only [sz_alloc, sz_drew, sz_drewN]; omega)))); have hzw3 := hzz_; (try simp at hzw3); clear hzz_; have on_ := Aside0.mk (st_put on.out hk_ (fun h_ => (by repeat (with_reducible first | exact h_ | apply ext_drew | apply ext_drewN | apply ext_alloc | refine blk_far ?_ (by show _ ≠ _; dsimp only; omega) _))) (by omega)); clear on onc onf onl; have on := on_; clear on_; obtain ⟨onc, onf, onl⟩ := cells_of on.out; (first | (have HG_ := Aside0.mk (PF.step HG.out (fun j hj _ => hk_ j (hj.2.2)))) | (have HG_ := Aside0.mk (PF.step (PF.alloc HG.out _) (fun j hj _ => hk_ j (hj.2.2))))); clear HG; have HG := HG_; clear HG_; (try clear pn pnc pnf pnl); have pn := Aside0.mk hx_; obtain ⟨pnc, pnf, pnl⟩ := cells_of pn.out; clear HB hb_ hk_ hx_; have HB := HB_; clear HB_))
  refine bodyPost_ret (results_tct rfl _ _ (w.heap.size + 1) 24 (PC p2 v1) (0, 0) _ rfl pn.out Try.underlying24 rfl infPC) rfl ⟨v1, rfl, HG.out.mono (fun j hj => hj.1), (bG HB)⟩
end Go.Proofs.Ytmlpnjoejdpblaa.Q
end
