import Derived.Test.YtphcckhegfgbgaaPZ1
import Derived.Test.YtphcckhegfgbgaaPZ8
import Derived.Test.YtphcckhegfgbgaaPZ7
import Derived.Deep.DeepCutAuto
import Derived.RegionTactic
import Derived.BigRegion
/- Law BusKeeps: the walk. -/
namespace Go.Proofs.Ytphcckhegfgbgaa.Q
open Go.RowKit Go.Proofs.YtphcckhegfgbgaaW.PrintWords Go.Proofs.YtphcckhegfgbgaaW.PrintLast Go.Proofs.YtphcckhegfgbgaaW.PrintMore Go.Proofs.Ytphcckhegfgbgaa.L
attribute [local go_sem] Instr.field part asAgg lt_step max2_int min2_int max_two min_two max_three min_three max_four min_four lt_0_1 lt_0_2 lt_1_2 lt_0_3 lt_1_3 lt_2_3 lt_0_4 lt_1_4 lt_2_4 lt_3_4 lt_0_5 lt_1_5 lt_2_5 lt_3_5 lt_4_5 lt_0_6 lt_1_6 lt_2_6 lt_3_6 lt_4_6 lt_5_6 lt_0_7 lt_1_7 lt_2_7 lt_3_7 lt_4_7 lt_5_7 lt_6_7 lt_0_8 lt_1_8 lt_2_8 lt_3_8 lt_4_8 lt_5_8 lt_6_8 lt_7_8
set_option linter.unusedVariables false
set_option linter.unusedSimpArgs false
set_option maxHeartbeats 1600000 in
set_option maxRecDepth 100000 in
theorem keeps_1 (b : Bd) (v : Vs) (at_ x : Int) (l : List Int) (Y : Int) (w : World) (ok : Nat → Prop) (hF : BF w ok b v) (hsm : (decide (b.ram.length ≤ 70000) && decide (b.i.length ≤ 5000) && decide (b.o.length ≤ 5000)) = true) (hin : drawbridgeref07_Inside.f b.ram at_ 1 = some true) (h1 : inZ at_ 33554432 65536 = false) (h2 : inZ at_ 201326592 4194304 = false) (h3 : inZ at_ 268435456 8 = false) (h4 : inZ at_ 268439552 256 = false) (hw : ram_Write.f b.ram at_ 1 x = some (l, true)) (hr : ram_Read.f 8 l at_ 1 = some (Y, true)) (hy : (Y == x.tmod 256) = true) : KP b v at_ 1 x w := by
  have HSM := Aside0.mk hsm
  have HIN := Aside0.mk hin
  have HW := Aside0.mk hw
  have HR := Aside0.mk hr
  have H1 := Aside0.mk h1
  have H2 := Aside0.mk h2
  have H3 := Aside0.mk h3
  have H4 := Aside0.mk h4
  have HY := Aside0.mk hy
  clear hy
  clear hsm hin hw hr h1 h2 h3 h4
  unfold KP
  have HB := Aside0.mk (Below.refl w.heap.size w)
  have HF := Aside0.mk hF.bound
  have hu := Try.underlying36
  clear hF
  go_enter Try.func3, Try.ntmps3
  go_upto_region 1 with fail
  obtain ⟨wa, hwa, on0, hb_, hz0⟩ := letter1 w (.cells (BD b v) 36 (0, 0))
  rw [hwa]
  clear hwa
  have hzwa := Nat.le_of_eq hz0.symm
  clear hz0
  have on := Aside0.mk on0
  clear on0
  obtain ⟨onc, onf, onl⟩ := cells_of on.out
  have HB_ : Aside0 (Below w.heap.size w wa) := ⟨hb_⟩
  have HF_ : Aside0 (BF wa (fun j => j ≠ w.heap.size ∧ j < wa.heap.size) b v) := ⟨(HF.out.below hb_).mono (fun j hj => ⟨by have h_ := hj.2; omega, by have h_ := hj.2; omega⟩)⟩
  clear HB HF hb_; have HB := HB_; have HF := HF_; clear HB_ HF_
  go_wp2_with (first | ((with_reducible refine gate_dst (N := 15) rfl ?_); (try (refine gate_guard (by rfl) ?_; dsimp only)); refine wpList_load_row rfl 36 _ rfl _ (by rfl) _ (BD b v) _ _ (eG on) Try.underlying36 rfl infBoard ?_))
  (go_at_call 6; (with_reducible refine (small_c b v _ _ HF.out true HSM.out).mono ?_); rintro e_ w1 ⟨rfl, hb_⟩; have HB_ : Aside0 (Below w.heap.size w w1) := Aside0.mk (below_step (bG HB) hb_); have hzw1 := hb_.size; (try simp at hzw1); have on_ := Aside0.mk (box_below hb_ (eG on)); (try clear on onc onf onl); have on := on_; clear on_; obtain ⟨onc, onf, onl⟩ := cells_of on.out; have HF_ := Aside0.mk (BF.below (by repeat (with_reducible first | exact HF.out | apply BF.drew | apply BF.drewN | apply BF.alloc)) hb_); clear HF; have HF := HF_; clear HF_; clear HB hb_; have HB := HB_; clear HB_)
  go_wp2_with (first | ((with_reducible refine gate_dst (N := 20) rfl ?_); (try (refine gate_guard (by rfl) ?_; dsimp only)); refine wpList_load_part rfl 24 _ rfl _ 0 (by rfl) #[v.D] (BD b v) _ (eG on) rfl _ Try.underlying24 rfl infRam ?_))
  (go_at_call 7; (with_reducible refine (inside_c b v at_ 1 true _ _ HF.out HIN.out).mono ?_); rintro e_ w2 ⟨rfl, hb_⟩; have HB_ : Aside0 (Below w.heap.size w w2) := Aside0.mk (below_step (bG HB) hb_); have hzw2 := hb_.size; (try simp at hzw2); have on_ := Aside0.mk (box_below hb_ (eG on)); (try clear on onc onf onl); have on := on_; clear on_; obtain ⟨onc, onf, onl⟩ := cells_of on.out; have HF_ := Aside0.mk (BF.below (by repeat (with_reducible first | exact HF.out | apply BF.drew | apply BF.drewN | apply BF.alloc)) hb_); clear HF; have HF := HF_; clear HF_; clear HB hb_; have HB := HB_; clear HB_)
  go_wp2_with (first | ((with_reducible refine gate_dst (N := 28) rfl ?_); (try (refine gate_guard (by rfl) ?_; dsimp only)); refine wpList_load_row rfl 36 _ rfl _ (by rfl) _ (BD b v) _ _ (eG on) Try.underlying36 rfl infBoard ?_))
  (go_at_call 9; (with_reducible refine (bst_ram b v at_ 1 x l true _ _ HF.out H1.out H2.out H3.out H4.out HW.out).mono ?_); rintro e_ w3 ⟨v1, rfl, HF2, hb_⟩; have HB_ : Aside0 (Below w.heap.size w w3) := Aside0.mk (below_step (bG HB) hb_); have hzw3 := hb_.size; (try simp at hzw3); clear HB hb_; have HB := HB_; clear HB_; have HF2_ := Aside0.mk HF2; clear HF2; have HF2 := HF2_; clear HF2_; skip)
  have HG_ := Aside0.mk (HF2.out.bound.mono (ok' := fun j => True ∧ j < w3.heap.size) (fun j hj => ⟨trivial, hj.2⟩))
  (try clear HG)
  (try clear HF2)
  have HG := HG_
  clear HG_
  go_wp2_with (first | ((with_reducible refine gate_store (t := 36) (p := 9) (v := .tmp 33) rfl ?_); refine wpList_store_all rfl 36 _ _ rfl rfl _ (BD ({ b with ram := l } : Bd) v1) (by rfl) (by rfl) _ _ (nb_1 _ _) rfl infBoard (HG.out.one) ?_; rintro w4 ⟨hx_, hk_, hb_, hzz_⟩; have HB_ : Aside0 (Below w.heap.size w w4) := Aside0.mk (Below.trans (bG HB) (Below.mono hb_ (by first | omega | (simp only [sz_alloc, sz_drew, sz_drewN]; omega)))); have hzw4 := Nat.le_of_eq hzz_.symm; (try simp at hzw4); clear hzz_; (first | (have HG_ := Aside0.mk (BF.step HG.out (fun j hj _ => hk_ j ((by have h_ := hj.2; omega))))) | (have HG_ := Aside0.mk (BF.step (BF.alloc HG.out _) (fun j hj _ => hk_ j ((by have h_ := hj.2; omega)))))); clear HG; have HG := HG_; clear HG_; (try clear oc occ ocf ocl); have oc := Aside0.mk hx_; obtain ⟨occ, ocf, ocl⟩ := cells_of oc.out; clear HB hb_ hk_ hx_; have HB := HB_; clear HB_) | ((with_reducible refine gate_dst (N := 36) rfl ?_); (try (refine gate_guard (by rfl) ?_; dsimp only)); refine wpList_load_row rfl 36 _ rfl _ (by rfl) _ (BD ({ b with ram := l } : Bd) v1) _ _ (eG oc) Try.underlying36 rfl infBoard ?_))
  (go_at_call 10; (with_reducible refine (bld_ram ({ b with ram := l } : Bd) v1 8 at_ 1 Y true _ _ HG.out H1.out H2.out H3.out H4.out HR.out).mono ?_); rintro e_ w5 ⟨rfl, HF2, hb_⟩; have HB_ : Aside0 (Below w.heap.size w w5) := Aside0.mk (below_step (bG HB) hb_); have hzw5 := hb_.size; (try simp at hzw5); have oc_ := Aside0.mk (box_below hb_ (eG oc)); (try clear oc occ ocf ocl); have oc := oc_; clear oc_; obtain ⟨occ, ocf, ocl⟩ := cells_of oc.out; have HG_ := Aside0.mk (BF.below (by repeat (with_reducible first | exact HG.out | apply BF.drew | apply BF.drewN | apply BF.alloc)) hb_); clear HG; have HG := HG_; clear HG_; clear HB hb_; have HB := HB_; clear HB_; have HF2_ := Aside0.mk HF2; clear HF2; have HF2 := HF2_; clear HF2_; skip)
  have HH_ := Aside0.mk (HF2.out.bound.mono (ok' := fun j => True ∧ j < w5.heap.size) (fun j hj => ⟨trivial, hj.2⟩))
  (try clear HH)
  (try clear HF2)
  have HH := HH_
  clear HH_
  have hy := HY.out
  go_wp2_with (first | ((with_reducible refine gate_store (t := 36) (p := 12) (v := .tmp 41) rfl ?_); refine wpList_store_all rfl 36 _ _ rfl rfl _ (BD ({ b with ram := l } : Bd) v1) (by rfl) (by rfl) _ _ (nb_1 _ _) rfl infBoard (HH.out.one) ?_; rintro w6 ⟨hx_, hk_, hb_, hzz_⟩; have HB_ : Aside0 (Below w.heap.size w w6) := Aside0.mk (Below.trans (bG HB) (Below.mono hb_ (by first | omega | (simp only [sz_alloc, sz_drew, sz_drewN]; omega)))); have hzw6 := Nat.le_of_eq hzz_.symm; (try simp at hzw6); clear hzz_; have oc_ := Aside0.mk (st_put oc.out hk_ (fun h_ => (by repeat (with_reducible first | exact h_ | apply ext_drew | apply ext_drewN | apply ext_alloc | refine blk_far ?_ (by show _ ≠ _; dsimp only; omega) _))) (by omega)); clear oc occ ocf ocl; have oc := oc_; clear oc_; obtain ⟨occ, ocf, ocl⟩ := cells_of oc.out; (first | (have HG_ := Aside0.mk (BF.step HG.out (fun j hj _ => hk_ j ((by have h_ := hj.2; omega))))) | (have HG_ := Aside0.mk (BF.step (BF.alloc HG.out _) (fun j hj _ => hk_ j ((by have h_ := hj.2; omega)))))); clear HG; have HG := HG_; clear HG_; (first | (have HH_ := Aside0.mk (BF.step HH.out (fun j hj _ => hk_ j ((by have h_ := hj.2; omega))))) | (have HH_ := Aside0.mk (BF.step (BF.alloc HH.out _) (fun j hj _ => hk_ j ((by have h_ := hj.2; omega)))))); clear HH; have HH := HH_; clear HH_; (try clear od odc odf odl); have od := Aside0.mk hx_; obtain ⟨odc, odf, odl⟩ := cells_of od.out; clear HB hb_ hk_ hx_; have HB := HB_; clear HB_) | ((with_reducible refine gate_dst (N := 70) rfl ?_); (try (refine gate_guard (by rfl) ?_; dsimp only)); refine wpList_load_row rfl 36 _ rfl _ (by rfl) _ (BD ({ b with ram := l } : Bd) v1) _ _ (eG od) Try.underlying36 rfl infBoard ?_) | ((with_reducible refine gate_dst (N := 71) rfl ?_); (try (refine gate_guard (by rfl) ?_; dsimp only)); refine wpList_load_row rfl 36 _ rfl _ (by rfl) _ (BD ({ b with ram := l } : Bd) v1) _ _ (eG oc) Try.underlying36 rfl infBoard ?_))
  (go_at_call 11; (with_reducible refine (same13_c HH.out HG.out).mono ?_); rintro e_ w7 ⟨rfl, hb_⟩; have HB_ : Aside0 (Below w.heap.size w w7) := Aside0.mk (below_step (bG HB) hb_); have hzw7 := hb_.size; (try simp at hzw7); clear HB hb_; have HB := HB_; clear HB_)
  go_wp2_with fail
  (go_at_call 8; (with_reducible refine (heads_c _).mono ?_); rintro e_ wh ⟨rfl, hb_⟩; have HB_ : Aside0 (Below w.heap.size w wh) := Aside0.mk (below_step (bG HB) hb_); have hzwh := hb_.size; (try simp at hzwh); clear HB hb_; have HB := HB_; clear HB_)
  go_wp2
  go_ret
  exact ⟨rfl, HB.out⟩
set_option maxHeartbeats 1600000 in
set_option maxRecDepth 100000 in
theorem keeps_2 (b : Bd) (v : Vs) (at_ x : Int) (l : List Int) (Y : Int) (w : World) (ok : Nat → Prop) (hF : BF w ok b v) (hsm : (decide (b.ram.length ≤ 70000) && decide (b.i.length ≤ 5000) && decide (b.o.length ≤ 5000)) = true) (hin : drawbridgeref07_Inside.f b.ram at_ 2 = some true) (h1 : inZ at_ 33554432 65536 = false) (h2 : inZ at_ 201326592 4194304 = false) (h3 : inZ at_ 268435456 8 = false) (h4 : inZ at_ 268439552 256 = false) (hw : ram_Write.f b.ram at_ 2 x = some (l, true)) (hr : ram_Read.f 8 l at_ 2 = some (Y, true)) (hy : (Y == x.tmod 65536) = true) : KP b v at_ 2 x w := by
  have HSM := Aside0.mk hsm
  have HIN := Aside0.mk hin
  have HW := Aside0.mk hw
  have HR := Aside0.mk hr
  have H1 := Aside0.mk h1
  have H2 := Aside0.mk h2
  have H3 := Aside0.mk h3
  have H4 := Aside0.mk h4
  have HY := Aside0.mk hy
  clear hy
  clear hsm hin hw hr h1 h2 h3 h4
  unfold KP
  have HB := Aside0.mk (Below.refl w.heap.size w)
  have HF := Aside0.mk hF.bound
  have hu := Try.underlying36
  clear hF
  go_enter Try.func3, Try.ntmps3
  go_upto_region 1 with fail
  obtain ⟨wa, hwa, on0, hb_, hz0⟩ := letter1 w (.cells (BD b v) 36 (0, 0))
  rw [hwa]
  clear hwa
  have hzwa := Nat.le_of_eq hz0.symm
  clear hz0
  have on := Aside0.mk on0
  clear on0
  obtain ⟨onc, onf, onl⟩ := cells_of on.out
  have HB_ : Aside0 (Below w.heap.size w wa) := ⟨hb_⟩
  have HF_ : Aside0 (BF wa (fun j => j ≠ w.heap.size ∧ j < wa.heap.size) b v) := ⟨(HF.out.below hb_).mono (fun j hj => ⟨by have h_ := hj.2; omega, by have h_ := hj.2; omega⟩)⟩
  clear HB HF hb_; have HB := HB_; have HF := HF_; clear HB_ HF_
  go_wp2_with (first | ((with_reducible refine gate_dst (N := 15) rfl ?_); (try (refine gate_guard (by rfl) ?_; dsimp only)); refine wpList_load_row rfl 36 _ rfl _ (by rfl) _ (BD b v) _ _ (eG on) Try.underlying36 rfl infBoard ?_))
  (go_at_call 6; (with_reducible refine (small_c b v _ _ HF.out true HSM.out).mono ?_); rintro e_ w1 ⟨rfl, hb_⟩; have HB_ : Aside0 (Below w.heap.size w w1) := Aside0.mk (below_step (bG HB) hb_); have hzw1 := hb_.size; (try simp at hzw1); have on_ := Aside0.mk (box_below hb_ (eG on)); (try clear on onc onf onl); have on := on_; clear on_; obtain ⟨onc, onf, onl⟩ := cells_of on.out; have HF_ := Aside0.mk (BF.below (by repeat (with_reducible first | exact HF.out | apply BF.drew | apply BF.drewN | apply BF.alloc)) hb_); clear HF; have HF := HF_; clear HF_; clear HB hb_; have HB := HB_; clear HB_)
  go_wp2_with (first | ((with_reducible refine gate_dst (N := 20) rfl ?_); (try (refine gate_guard (by rfl) ?_; dsimp only)); refine wpList_load_part rfl 24 _ rfl _ 0 (by rfl) #[v.D] (BD b v) _ (eG on) rfl _ Try.underlying24 rfl infRam ?_))
  (go_at_call 7; (with_reducible refine (inside_c b v at_ 2 true _ _ HF.out HIN.out).mono ?_); rintro e_ w2 ⟨rfl, hb_⟩; have HB_ : Aside0 (Below w.heap.size w w2) := Aside0.mk (below_step (bG HB) hb_); have hzw2 := hb_.size; (try simp at hzw2); have on_ := Aside0.mk (box_below hb_ (eG on)); (try clear on onc onf onl); have on := on_; clear on_; obtain ⟨onc, onf, onl⟩ := cells_of on.out; have HF_ := Aside0.mk (BF.below (by repeat (with_reducible first | exact HF.out | apply BF.drew | apply BF.drewN | apply BF.alloc)) hb_); clear HF; have HF := HF_; clear HF_; clear HB hb_; have HB := HB_; clear HB_)
  go_wp2_with (first | ((with_reducible refine gate_dst (N := 28) rfl ?_); (try (refine gate_guard (by rfl) ?_; dsimp only)); refine wpList_load_row rfl 36 _ rfl _ (by rfl) _ (BD b v) _ _ (eG on) Try.underlying36 rfl infBoard ?_))
  (go_at_call 9; (with_reducible refine (bst_ram b v at_ 2 x l true _ _ HF.out H1.out H2.out H3.out H4.out HW.out).mono ?_); rintro e_ w3 ⟨v1, rfl, HF2, hb_⟩; have HB_ : Aside0 (Below w.heap.size w w3) := Aside0.mk (below_step (bG HB) hb_); have hzw3 := hb_.size; (try simp at hzw3); clear HB hb_; have HB := HB_; clear HB_; have HF2_ := Aside0.mk HF2; clear HF2; have HF2 := HF2_; clear HF2_; skip)
  have HG_ := Aside0.mk (HF2.out.bound.mono (ok' := fun j => True ∧ j < w3.heap.size) (fun j hj => ⟨trivial, hj.2⟩))
  (try clear HG)
  (try clear HF2)
  have HG := HG_
  clear HG_
  go_wp2_with (first | ((with_reducible refine gate_store (t := 36) (p := 9) (v := .tmp 33) rfl ?_); refine wpList_store_all rfl 36 _ _ rfl rfl _ (BD ({ b with ram := l } : Bd) v1) (by rfl) (by rfl) _ _ (nb_1 _ _) rfl infBoard (HG.out.one) ?_; rintro w4 ⟨hx_, hk_, hb_, hzz_⟩; have HB_ : Aside0 (Below w.heap.size w w4) := Aside0.mk (Below.trans (bG HB) (Below.mono hb_ (by first | omega | (simp only [sz_alloc, sz_drew, sz_drewN]; omega)))); have hzw4 := Nat.le_of_eq hzz_.symm; (try simp at hzw4); clear hzz_; (first | (have HG_ := Aside0.mk (BF.step HG.out (fun j hj _ => hk_ j ((by have h_ := hj.2; omega))))) | (have HG_ := Aside0.mk (BF.step (BF.alloc HG.out _) (fun j hj _ => hk_ j ((by have h_ := hj.2; omega)))))); clear HG; have HG := HG_; clear HG_; (try clear oc occ ocf ocl); have oc := Aside0.mk hx_; obtain ⟨occ, ocf, ocl⟩ := cells_of oc.out; clear HB hb_ hk_ hx_; have HB := HB_; clear HB_) | ((with_reducible refine gate_dst (N := 36) rfl ?_); (try (refine gate_guard (by rfl) ?_; dsimp only)); refine wpList_load_row rfl 36 _ rfl _ (by rfl) _ (BD ({ b with ram := l } : Bd) v1) _ _ (eG oc) Try.underlying36 rfl infBoard ?_))
  (go_at_call 10; (with_reducible refine (bld_ram ({ b with ram := l } : Bd) v1 8 at_ 2 Y true _ _ HG.out H1.out H2.out H3.out H4.out HR.out).mono ?_); rintro e_ w5 ⟨rfl, HF2, hb_⟩; have HB_ : Aside0 (Below w.heap.size w w5) := Aside0.mk (below_step (bG HB) hb_); have hzw5 := hb_.size; (try simp at hzw5); have oc_ := Aside0.mk (box_below hb_ (eG oc)); (try clear oc occ ocf ocl); have oc := oc_; clear oc_; obtain ⟨occ, ocf, ocl⟩ := cells_of oc.out; have HG_ := Aside0.mk (BF.below (by repeat (with_reducible first | exact HG.out | apply BF.drew | apply BF.drewN | apply BF.alloc)) hb_); clear HG; have HG := HG_; clear HG_; clear HB hb_; have HB := HB_; clear HB_; have HF2_ := Aside0.mk HF2; clear HF2; have HF2 := HF2_; clear HF2_; skip)
  have HH_ := Aside0.mk (HF2.out.bound.mono (ok' := fun j => True ∧ j < w5.heap.size) (fun j hj => ⟨trivial, hj.2⟩))
  (try clear HH)
  (try clear HF2)
  have HH := HH_
  clear HH_
  have hy := HY.out
  go_wp2_with (first | ((with_reducible refine gate_store (t := 36) (p := 12) (v := .tmp 41) rfl ?_); refine wpList_store_all rfl 36 _ _ rfl rfl _ (BD ({ b with ram := l } : Bd) v1) (by rfl) (by rfl) _ _ (nb_1 _ _) rfl infBoard (HH.out.one) ?_; rintro w6 ⟨hx_, hk_, hb_, hzz_⟩; have HB_ : Aside0 (Below w.heap.size w w6) := Aside0.mk (Below.trans (bG HB) (Below.mono hb_ (by first | omega | (simp only [sz_alloc, sz_drew, sz_drewN]; omega)))); have hzw6 := Nat.le_of_eq hzz_.symm; (try simp at hzw6); clear hzz_; have oc_ := Aside0.mk (st_put oc.out hk_ (fun h_ => (by repeat (with_reducible first | exact h_ | apply ext_drew | apply ext_drewN | apply ext_alloc | refine blk_far ?_ (by show _ ≠ _; dsimp only; omega) _))) (by omega)); clear oc occ ocf ocl; have oc := oc_; clear oc_; obtain ⟨occ, ocf, ocl⟩ := cells_of oc.out; (first | (have HG_ := Aside0.mk (BF.step HG.out (fun j hj _ => hk_ j ((by have h_ := hj.2; omega))))) | (have HG_ := Aside0.mk (BF.step (BF.alloc HG.out _) (fun j hj _ => hk_ j ((by have h_ := hj.2; omega)))))); clear HG; have HG := HG_; clear HG_; (first | (have HH_ := Aside0.mk (BF.step HH.out (fun j hj _ => hk_ j ((by have h_ := hj.2; omega))))) | (have HH_ := Aside0.mk (BF.step (BF.alloc HH.out _) (fun j hj _ => hk_ j ((by have h_ := hj.2; omega)))))); clear HH; have HH := HH_; clear HH_; (try clear od odc odf odl); have od := Aside0.mk hx_; obtain ⟨odc, odf, odl⟩ := cells_of od.out; clear HB hb_ hk_ hx_; have HB := HB_; clear HB_) | ((with_reducible refine gate_dst (N := 70) rfl ?_); (try (refine gate_guard (by rfl) ?_; dsimp only)); refine wpList_load_row rfl 36 _ rfl _ (by rfl) _ (BD ({ b with ram := l } : Bd) v1) _ _ (eG od) Try.underlying36 rfl infBoard ?_) | ((with_reducible refine gate_dst (N := 71) rfl ?_); (try (refine gate_guard (by rfl) ?_; dsimp only)); refine wpList_load_row rfl 36 _ rfl _ (by rfl) _ (BD ({ b with ram := l } : Bd) v1) _ _ (eG oc) Try.underlying36 rfl infBoard ?_))
  (go_at_call 11; (with_reducible refine (same13_c HH.out HG.out).mono ?_); rintro e_ w7 ⟨rfl, hb_⟩; have HB_ : Aside0 (Below w.heap.size w w7) := Aside0.mk (below_step (bG HB) hb_); have hzw7 := hb_.size; (try simp at hzw7); clear HB hb_; have HB := HB_; clear HB_)
  go_wp2_with fail
  (go_at_call 8; (with_reducible refine (heads_c _).mono ?_); rintro e_ wh ⟨rfl, hb_⟩; have HB_ : Aside0 (Below w.heap.size w wh) := Aside0.mk (below_step (bG HB) hb_); have hzwh := hb_.size; (try simp at hzwh); clear HB hb_; have HB := HB_; clear HB_)
  go_wp2
  go_ret
  exact ⟨rfl, HB.out⟩
set_option maxHeartbeats 1600000 in
set_option maxRecDepth 100000 in
theorem keeps_4 (b : Bd) (v : Vs) (at_ x : Int) (l : List Int) (Y : Int) (w : World) (ok : Nat → Prop) (hF : BF w ok b v) (hsm : (decide (b.ram.length ≤ 70000) && decide (b.i.length ≤ 5000) && decide (b.o.length ≤ 5000)) = true) (hin : drawbridgeref07_Inside.f b.ram at_ 4 = some true) (h1 : inZ at_ 33554432 65536 = false) (h2 : inZ at_ 201326592 4194304 = false) (h3 : inZ at_ 268435456 8 = false) (h4 : inZ at_ 268439552 256 = false) (hw : ram_Write.f b.ram at_ 4 x = some (l, true)) (hr : ram_Read.f 8 l at_ 4 = some (Y, true)) (hy : (Y == x.tmod 4294967296) = true) : KP b v at_ 4 x w := by
  have HSM := Aside0.mk hsm
  have HIN := Aside0.mk hin
  have HW := Aside0.mk hw
  have HR := Aside0.mk hr
  have H1 := Aside0.mk h1
  have H2 := Aside0.mk h2
  have H3 := Aside0.mk h3
  have H4 := Aside0.mk h4
  have HY := Aside0.mk hy
  clear hy
  clear hsm hin hw hr h1 h2 h3 h4
  unfold KP
  have HB := Aside0.mk (Below.refl w.heap.size w)
  have HF := Aside0.mk hF.bound
  have hu := Try.underlying36
  clear hF
  go_enter Try.func3, Try.ntmps3
  go_upto_region 1 with fail
  obtain ⟨wa, hwa, on0, hb_, hz0⟩ := letter1 w (.cells (BD b v) 36 (0, 0))
  rw [hwa]
  clear hwa
  have hzwa := Nat.le_of_eq hz0.symm
  clear hz0
  have on := Aside0.mk on0
  clear on0
  obtain ⟨onc, onf, onl⟩ := cells_of on.out
  have HB_ : Aside0 (Below w.heap.size w wa) := ⟨hb_⟩
  have HF_ : Aside0 (BF wa (fun j => j ≠ w.heap.size ∧ j < wa.heap.size) b v) := ⟨(HF.out.below hb_).mono (fun j hj => ⟨by have h_ := hj.2; omega, by have h_ := hj.2; omega⟩)⟩
  clear HB HF hb_; have HB := HB_; have HF := HF_; clear HB_ HF_
  go_wp2_with (first | ((with_reducible refine gate_dst (N := 15) rfl ?_); (try (refine gate_guard (by rfl) ?_; dsimp only)); refine wpList_load_row rfl 36 _ rfl _ (by rfl) _ (BD b v) _ _ (eG on) Try.underlying36 rfl infBoard ?_))
  (go_at_call 6; (with_reducible refine (small_c b v _ _ HF.out true HSM.out).mono ?_); rintro e_ w1 ⟨rfl, hb_⟩; have HB_ : Aside0 (Below w.heap.size w w1) := Aside0.mk (below_step (bG HB) hb_); have hzw1 := hb_.size; (try simp at hzw1); have on_ := Aside0.mk (box_below hb_ (eG on)); (try clear on onc onf onl); have on := on_; clear on_; obtain ⟨onc, onf, onl⟩ := cells_of on.out; have HF_ := Aside0.mk (BF.below (by repeat (with_reducible first | exact HF.out | apply BF.drew | apply BF.drewN | apply BF.alloc)) hb_); clear HF; have HF := HF_; clear HF_; clear HB hb_; have HB := HB_; clear HB_)
  go_wp2_with (first | ((with_reducible refine gate_dst (N := 20) rfl ?_); (try (refine gate_guard (by rfl) ?_; dsimp only)); refine wpList_load_part rfl 24 _ rfl _ 0 (by rfl) #[v.D] (BD b v) _ (eG on) rfl _ Try.underlying24 rfl infRam ?_))
  (go_at_call 7; (with_reducible refine (inside_c b v at_ 4 true _ _ HF.out HIN.out).mono ?_); rintro e_ w2 ⟨rfl, hb_⟩; have HB_ : Aside0 (Below w.heap.size w w2) := Aside0.mk (below_step (bG HB) hb_); have hzw2 := hb_.size; (try simp at hzw2); have on_ := Aside0.mk (box_below hb_ (eG on)); (try clear on onc onf onl); have on := on_; clear on_; obtain ⟨onc, onf, onl⟩ := cells_of on.out; have HF_ := Aside0.mk (BF.below (by repeat (with_reducible first | exact HF.out | apply BF.drew | apply BF.drewN | apply BF.alloc)) hb_); clear HF; have HF := HF_; clear HF_; clear HB hb_; have HB := HB_; clear HB_)
  go_wp2_with (first | ((with_reducible refine gate_dst (N := 28) rfl ?_); (try (refine gate_guard (by rfl) ?_; dsimp only)); refine wpList_load_row rfl 36 _ rfl _ (by rfl) _ (BD b v) _ _ (eG on) Try.underlying36 rfl infBoard ?_))
  (go_at_call 9; (with_reducible refine (bst_ram b v at_ 4 x l true _ _ HF.out H1.out H2.out H3.out H4.out HW.out).mono ?_); rintro e_ w3 ⟨v1, rfl, HF2, hb_⟩; have HB_ : Aside0 (Below w.heap.size w w3) := Aside0.mk (below_step (bG HB) hb_); have hzw3 := hb_.size; (try simp at hzw3); clear HB hb_; have HB := HB_; clear HB_; have HF2_ := Aside0.mk HF2; clear HF2; have HF2 := HF2_; clear HF2_; skip)
  have HG_ := Aside0.mk (HF2.out.bound.mono (ok' := fun j => True ∧ j < w3.heap.size) (fun j hj => ⟨trivial, hj.2⟩))
  (try clear HG)
  (try clear HF2)
  have HG := HG_
  clear HG_
  go_wp2_with (first | ((with_reducible refine gate_store (t := 36) (p := 9) (v := .tmp 33) rfl ?_); refine wpList_store_all rfl 36 _ _ rfl rfl _ (BD ({ b with ram := l } : Bd) v1) (by rfl) (by rfl) _ _ (nb_1 _ _) rfl infBoard (HG.out.one) ?_; rintro w4 ⟨hx_, hk_, hb_, hzz_⟩; have HB_ : Aside0 (Below w.heap.size w w4) := Aside0.mk (Below.trans (bG HB) (Below.mono hb_ (by first | omega | (simp only [sz_alloc, sz_drew, sz_drewN]; omega)))); have hzw4 := Nat.le_of_eq hzz_.symm; (try simp at hzw4); clear hzz_; (first | (have HG_ := Aside0.mk (BF.step HG.out (fun j hj _ => hk_ j ((by have h_ := hj.2; omega))))) | (have HG_ := Aside0.mk (BF.step (BF.alloc HG.out _) (fun j hj _ => hk_ j ((by have h_ := hj.2; omega)))))); clear HG; have HG := HG_; clear HG_; (try clear oc occ ocf ocl); have oc := Aside0.mk hx_; obtain ⟨occ, ocf, ocl⟩ := cells_of oc.out; clear HB hb_ hk_ hx_; have HB := HB_; clear HB_) | ((with_reducible refine gate_dst (N := 36) rfl ?_); (try (refine gate_guard (by rfl) ?_; dsimp only)); refine wpList_load_row rfl 36 _ rfl _ (by rfl) _ (BD ({ b with ram := l } : Bd) v1) _ _ (eG oc) Try.underlying36 rfl infBoard ?_))
  (go_at_call 10; (with_reducible refine (bld_ram ({ b with ram := l } : Bd) v1 8 at_ 4 Y true _ _ HG.out H1.out H2.out H3.out H4.out HR.out).mono ?_); rintro e_ w5 ⟨rfl, HF2, hb_⟩; have HB_ : Aside0 (Below w.heap.size w w5) := Aside0.mk (below_step (bG HB) hb_); have hzw5 := hb_.size; (try simp at hzw5); have oc_ := Aside0.mk (box_below hb_ (eG oc)); (try clear oc occ ocf ocl); have oc := oc_; clear oc_; obtain ⟨occ, ocf, ocl⟩ := cells_of oc.out; have HG_ := Aside0.mk (BF.below (by repeat (with_reducible first | exact HG.out | apply BF.drew | apply BF.drewN | apply BF.alloc)) hb_); clear HG; have HG := HG_; clear HG_; clear HB hb_; have HB := HB_; clear HB_; have HF2_ := Aside0.mk HF2; clear HF2; have HF2 := HF2_; clear HF2_; skip)
  have HH_ := Aside0.mk (HF2.out.bound.mono (ok' := fun j => True ∧ j < w5.heap.size) (fun j hj => ⟨trivial, hj.2⟩))
  (try clear HH)
  (try clear HF2)
  have HH := HH_
  clear HH_
  have hy := HY.out
  go_wp2_with (first | ((with_reducible refine gate_store (t := 36) (p := 12) (v := .tmp 41) rfl ?_); refine wpList_store_all rfl 36 _ _ rfl rfl _ (BD ({ b with ram := l } : Bd) v1) (by rfl) (by rfl) _ _ (nb_1 _ _) rfl infBoard (HH.out.one) ?_; rintro w6 ⟨hx_, hk_, hb_, hzz_⟩; have HB_ : Aside0 (Below w.heap.size w w6) := Aside0.mk (Below.trans (bG HB) (Below.mono hb_ (by first | omega | (simp only [sz_alloc, sz_drew, sz_drewN]; omega)))); have hzw6 := Nat.le_of_eq hzz_.symm; (try simp at hzw6); clear hzz_; have oc_ := Aside0.mk (st_put oc.out hk_ (fun h_ => (by repeat (with_reducible first | exact h_ | apply ext_drew | apply ext_drewN | apply ext_alloc | refine blk_far ?_ (by show _ ≠ _; dsimp only; omega) _))) (by omega)); clear oc occ ocf ocl; have oc := oc_; clear oc_; obtain ⟨occ, ocf, ocl⟩ := cells_of oc.out; (first | (have HG_ := Aside0.mk (BF.step HG.out (fun j hj _ => hk_ j ((by have h_ := hj.2; omega))))) | (have HG_ := Aside0.mk (BF.step (BF.alloc HG.out _) (fun j hj _ => hk_ j ((by have h_ := hj.2; omega)))))); clear HG; have HG := HG_; clear HG_; (first | (have HH_ := Aside0.mk (BF.step HH.out (fun j hj _ => hk_ j ((by have h_ := hj.2; omega))))) | (have HH_ := Aside0.mk (BF.step (BF.alloc HH.out _) (fun j hj _ => hk_ j ((by have h_ := hj.2; omega)))))); clear HH; have HH := HH_; clear HH_; (try clear od odc odf odl); have od := Aside0.mk hx_; obtain ⟨odc, odf, odl⟩ := cells_of od.out; clear HB hb_ hk_ hx_; have HB := HB_; clear HB_) | ((with_reducible refine gate_dst (N := 70) rfl ?_); (try (refine gate_guard (by rfl) ?_; dsimp only)); refine wpList_load_row rfl 36 _ rfl _ (by rfl) _ (BD ({ b with ram := l } : Bd) v1) _ _ (eG od) Try.underlying36 rfl infBoard ?_) | ((with_reducible refine gate_dst (N := 71) rfl ?_); (try (refine gate_guard (by rfl) ?_; dsimp only)); refine wpList_load_row rfl 36 _ rfl _ (by rfl) _ (BD ({ b with ram := l } : Bd) v1) _ _ (eG oc) Try.underlying36 rfl infBoard ?_))
  (go_at_call 11; (with_reducible refine (same13_c HH.out HG.out).mono ?_); rintro e_ w7 ⟨rfl, hb_⟩; have HB_ : Aside0 (Below w.heap.size w w7) := Aside0.mk (below_step (bG HB) hb_); have hzw7 := hb_.size; (try simp at hzw7); clear HB hb_; have HB := HB_; clear HB_)
  go_wp2_with fail
  (go_at_call 8; (with_reducible refine (heads_c _).mono ?_); rintro e_ wh ⟨rfl, hb_⟩; have HB_ : Aside0 (Below w.heap.size w wh) := Aside0.mk (below_step (bG HB) hb_); have hzwh := hb_.size; (try simp at hzwh); clear HB hb_; have HB := HB_; clear HB_)
  go_wp2
  go_ret
  exact ⟨rfl, HB.out⟩
set_option maxHeartbeats 1600000 in
set_option maxRecDepth 100000 in
theorem keeps_8 (b : Bd) (v : Vs) (at_ x : Int) (l : List Int) (Y : Int) (w : World) (ok : Nat → Prop) (hF : BF w ok b v) (hsm : (decide (b.ram.length ≤ 70000) && decide (b.i.length ≤ 5000) && decide (b.o.length ≤ 5000)) = true) (hin : drawbridgeref07_Inside.f b.ram at_ 8 = some true) (h1 : inZ at_ 33554432 65536 = false) (h2 : inZ at_ 201326592 4194304 = false) (h3 : inZ at_ 268435456 8 = false) (h4 : inZ at_ 268439552 256 = false) (hw : ram_Write.f b.ram at_ 8 x = some (l, true)) (hr : ram_Read.f 8 l at_ 8 = some (Y, true)) (hy : (Y == x) = true) : KP b v at_ 8 x w := by
  have HSM := Aside0.mk hsm
  have HIN := Aside0.mk hin
  have HW := Aside0.mk hw
  have HR := Aside0.mk hr
  have H1 := Aside0.mk h1
  have H2 := Aside0.mk h2
  have H3 := Aside0.mk h3
  have H4 := Aside0.mk h4
  have HY := Aside0.mk hy
  clear hy
  clear hsm hin hw hr h1 h2 h3 h4
  unfold KP
  have HB := Aside0.mk (Below.refl w.heap.size w)
  have HF := Aside0.mk hF.bound
  have hu := Try.underlying36
  clear hF
  go_enter Try.func3, Try.ntmps3
  go_upto_region 1 with fail
  obtain ⟨wa, hwa, on0, hb_, hz0⟩ := letter1 w (.cells (BD b v) 36 (0, 0))
  rw [hwa]
  clear hwa
  have hzwa := Nat.le_of_eq hz0.symm
  clear hz0
  have on := Aside0.mk on0
  clear on0
  obtain ⟨onc, onf, onl⟩ := cells_of on.out
  have HB_ : Aside0 (Below w.heap.size w wa) := ⟨hb_⟩
  have HF_ : Aside0 (BF wa (fun j => j ≠ w.heap.size ∧ j < wa.heap.size) b v) := ⟨(HF.out.below hb_).mono (fun j hj => ⟨by have h_ := hj.2; omega, by have h_ := hj.2; omega⟩)⟩
  clear HB HF hb_; have HB := HB_; have HF := HF_; clear HB_ HF_
  go_wp2_with (first | ((with_reducible refine gate_dst (N := 15) rfl ?_); (try (refine gate_guard (by rfl) ?_; dsimp only)); refine wpList_load_row rfl 36 _ rfl _ (by rfl) _ (BD b v) _ _ (eG on) Try.underlying36 rfl infBoard ?_))
  (go_at_call 6; (with_reducible refine (small_c b v _ _ HF.out true HSM.out).mono ?_); rintro e_ w1 ⟨rfl, hb_⟩; have HB_ : Aside0 (Below w.heap.size w w1) := Aside0.mk (below_step (bG HB) hb_); have hzw1 := hb_.size; (try simp at hzw1); have on_ := Aside0.mk (box_below hb_ (eG on)); (try clear on onc onf onl); have on := on_; clear on_; obtain ⟨onc, onf, onl⟩ := cells_of on.out; have HF_ := Aside0.mk (BF.below (by repeat (with_reducible first | exact HF.out | apply BF.drew | apply BF.drewN | apply BF.alloc)) hb_); clear HF; have HF := HF_; clear HF_; clear HB hb_; have HB := HB_; clear HB_)
  go_wp2_with (first | ((with_reducible refine gate_dst (N := 20) rfl ?_); (try (refine gate_guard (by rfl) ?_; dsimp only)); refine wpList_load_part rfl 24 _ rfl _ 0 (by rfl) #[v.D] (BD b v) _ (eG on) rfl _ Try.underlying24 rfl infRam ?_))
  (go_at_call 7; (with_reducible refine (inside_c b v at_ 8 true _ _ HF.out HIN.out).mono ?_); rintro e_ w2 ⟨rfl, hb_⟩; have HB_ : Aside0 (Below w.heap.size w w2) := Aside0.mk (below_step (bG HB) hb_); have hzw2 := hb_.size; (try simp at hzw2); have on_ := Aside0.mk (box_below hb_ (eG on)); (try clear on onc onf onl); have on := on_; clear on_; obtain ⟨onc, onf, onl⟩ := cells_of on.out; have HF_ := Aside0.mk (BF.below (by repeat (with_reducible first | exact HF.out | apply BF.drew | apply BF.drewN | apply BF.alloc)) hb_); clear HF; have HF := HF_; clear HF_; clear HB hb_; have HB := HB_; clear HB_)
  go_wp2_with (first | ((with_reducible refine gate_dst (N := 28) rfl ?_); (try (refine gate_guard (by rfl) ?_; dsimp only)); refine wpList_load_row rfl 36 _ rfl _ (by rfl) _ (BD b v) _ _ (eG on) Try.underlying36 rfl infBoard ?_))
  (go_at_call 9; (with_reducible refine (bst_ram b v at_ 8 x l true _ _ HF.out H1.out H2.out H3.out H4.out HW.out).mono ?_); rintro e_ w3 ⟨v1, rfl, HF2, hb_⟩; have HB_ : Aside0 (Below w.heap.size w w3) := Aside0.mk (below_step (bG HB) hb_); have hzw3 := hb_.size; (try simp at hzw3); clear HB hb_; have HB := HB_; clear HB_; have HF2_ := Aside0.mk HF2; clear HF2; have HF2 := HF2_; clear HF2_; skip)
  have HG_ := Aside0.mk (HF2.out.bound.mono (ok' := fun j => True ∧ j < w3.heap.size) (fun j hj => ⟨trivial, hj.2⟩))
  (try clear HG)
  (try clear HF2)
  have HG := HG_
  clear HG_
  go_wp2_with (first | ((with_reducible refine gate_store (t := 36) (p := 9) (v := .tmp 33) rfl ?_); refine wpList_store_all rfl 36 _ _ rfl rfl _ (BD ({ b with ram := l } : Bd) v1) (by rfl) (by rfl) _ _ (nb_1 _ _) rfl infBoard (HG.out.one) ?_; rintro w4 ⟨hx_, hk_, hb_, hzz_⟩; have HB_ : Aside0 (Below w.heap.size w w4) := Aside0.mk (Below.trans (bG HB) (Below.mono hb_ (by first | omega | (simp only [sz_alloc, sz_drew, sz_drewN]; omega)))); have hzw4 := Nat.le_of_eq hzz_.symm; (try simp at hzw4); clear hzz_; (first | (have HG_ := Aside0.mk (BF.step HG.out (fun j hj _ => hk_ j ((by have h_ := hj.2; omega))))) | (have HG_ := Aside0.mk (BF.step (BF.alloc HG.out _) (fun j hj _ => hk_ j ((by have h_ := hj.2; omega)))))); clear HG; have HG := HG_; clear HG_; (try clear oc occ ocf ocl); have oc := Aside0.mk hx_; obtain ⟨occ, ocf, ocl⟩ := cells_of oc.out; clear HB hb_ hk_ hx_; have HB := HB_; clear HB_) | ((with_reducible refine gate_dst (N := 36) rfl ?_); (try (refine gate_guard (by rfl) ?_; dsimp only)); refine wpList_load_row rfl 36 _ rfl _ (by rfl) _ (BD ({ b with ram := l } : Bd) v1) _ _ (eG oc) Try.underlying36 rfl infBoard ?_))
  (go_at_call 10; (with_reducible refine (bld_ram ({ b with ram := l } : Bd) v1 8 at_ 8 Y true _ _ HG.out H1.out H2.out H3.out H4.out HR.out).mono ?_); rintro e_ w5 ⟨rfl, HF2, hb_⟩; have HB_ : Aside0 (Below w.heap.size w w5) := Aside0.mk (below_step (bG HB) hb_); have hzw5 := hb_.size; (try simp at hzw5); have oc_ := Aside0.mk (box_below hb_ (eG oc)); (try clear oc occ ocf ocl); have oc := oc_; clear oc_; obtain ⟨occ, ocf, ocl⟩ := cells_of oc.out; have HG_ := Aside0.mk (BF.below (by repeat (with_reducible first | exact HG.out | apply BF.drew | apply BF.drewN | apply BF.alloc)) hb_); clear HG; have HG := HG_; clear HG_; clear HB hb_; have HB := HB_; clear HB_; have HF2_ := Aside0.mk HF2; clear HF2; have HF2 := HF2_; clear HF2_; skip)
  have HH_ := Aside0.mk (HF2.out.bound.mono (ok' := fun j => True ∧ j < w5.heap.size) (fun j hj => ⟨trivial, hj.2⟩))
  (try clear HH)
  (try clear HF2)
  have HH := HH_
  clear HH_
  have hy := HY.out
  go_wp2_with (first | ((with_reducible refine gate_store (t := 36) (p := 12) (v := .tmp 41) rfl ?_); refine wpList_store_all rfl 36 _ _ rfl rfl _ (BD ({ b with ram := l } : Bd) v1) (by rfl) (by rfl) _ _ (nb_1 _ _) rfl infBoard (HH.out.one) ?_; rintro w6 ⟨hx_, hk_, hb_, hzz_⟩; have HB_ : Aside0 (Below w.heap.size w w6) := Aside0.mk (Below.trans (bG HB) (Below.mono hb_ (by first | omega | (simp only [sz_alloc, sz_drew, sz_drewN]; omega)))); have hzw6 := Nat.le_of_eq hzz_.symm; (try simp at hzw6); clear hzz_; have oc_ := Aside0.mk (st_put oc.out hk_ (fun h_ => (by repeat (with_reducible first | exact h_ | apply ext_drew | apply ext_drewN | apply ext_alloc | refine blk_far ?_ (by show _ ≠ _; dsimp only; omega) _))) (by omega)); clear oc occ ocf ocl; have oc := oc_; clear oc_; obtain ⟨occ, ocf, ocl⟩ := cells_of oc.out; (first | (have HG_ := Aside0.mk (BF.step HG.out (fun j hj _ => hk_ j ((by have h_ := hj.2; omega))))) | (have HG_ := Aside0.mk (BF.step (BF.alloc HG.out _) (fun j hj _ => hk_ j ((by have h_ := hj.2; omega)))))); clear HG; have HG := HG_; clear HG_; (first | (have HH_ := Aside0.mk (BF.step HH.out (fun j hj _ => hk_ j ((by have h_ := hj.2; omega))))) | (have HH_ := Aside0.mk (BF.step (BF.alloc HH.out _) (fun j hj _ => hk_ j ((by have h_ := hj.2; omega)))))); clear HH; have HH := HH_; clear HH_; (try clear od odc odf odl); have od := Aside0.mk hx_; obtain ⟨odc, odf, odl⟩ := cells_of od.out; clear HB hb_ hk_ hx_; have HB := HB_; clear HB_) | ((with_reducible refine gate_dst (N := 70) rfl ?_); (try (refine gate_guard (by rfl) ?_; dsimp only)); refine wpList_load_row rfl 36 _ rfl _ (by rfl) _ (BD ({ b with ram := l } : Bd) v1) _ _ (eG od) Try.underlying36 rfl infBoard ?_) | ((with_reducible refine gate_dst (N := 71) rfl ?_); (try (refine gate_guard (by rfl) ?_; dsimp only)); refine wpList_load_row rfl 36 _ rfl _ (by rfl) _ (BD ({ b with ram := l } : Bd) v1) _ _ (eG oc) Try.underlying36 rfl infBoard ?_))
  (go_at_call 11; (with_reducible refine (same13_c HH.out HG.out).mono ?_); rintro e_ w7 ⟨rfl, hb_⟩; have HB_ : Aside0 (Below w.heap.size w w7) := Aside0.mk (below_step (bG HB) hb_); have hzw7 := hb_.size; (try simp at hzw7); clear HB hb_; have HB := HB_; clear HB_)
  go_wp2_with fail
  (go_at_call 8; (with_reducible refine (heads_c _).mono ?_); rintro e_ wh ⟨rfl, hb_⟩; have HB_ : Aside0 (Below w.heap.size w wh) := Aside0.mk (below_step (bG HB) hb_); have hzwh := hb_.size; (try simp at hzwh); clear HB hb_; have HB := HB_; clear HB_)
  go_wp2
  go_ret
  exact ⟨rfl, HB.out⟩
end Go.Proofs.Ytphcckhegfgbgaa.Q
