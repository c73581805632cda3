import Derived.Test.YtphcckhegfgbgaaPZ1
import Derived.Test.YtphcckhegfgbgaaPZ8
import Derived.Test.YtphcckhegfgbgaaPZ7
import Derived.Deep.DeepCutAuto
import Derived.RegionTactic
import Derived.BigRegion
import Derived.Test.YtphcckhegfgbgaaPXQx10
import Derived.Test.YtphcckhegfgbgaaPZ6
import Derived.Test.YtphcckhegfgbgaaPZ5
import Derived.Test.YtphcckhegfgbgaaPXLwKp1
section
/- Law BusKeeps: the walk. -/
namespace Go.Proofs.Ytphcckhegfgbgaa.Q
open Go.RowKit Go.Proofs.YtphcckhegfgbgaaW.PrintWords Go.Proofs.YtphcckhegfgbgaaW.PrintLast Go.Proofs.YtphcckhegfgbgaaW.PrintMore Go.Proofs.Ytphcckhegfgbgaa.L
attribute [local go_sem] Instr.field part asAgg lt_step max2_int min2_int max_two min_two max_three min_three max_four min_four lt_0_1 lt_0_2 lt_1_2 lt_0_3 lt_1_3 lt_2_3 lt_0_4 lt_1_4 lt_2_4 lt_3_4 lt_0_5 lt_1_5 lt_2_5 lt_3_5 lt_4_5 lt_0_6 lt_1_6 lt_2_6 lt_3_6 lt_4_6 lt_5_6 lt_0_7 lt_1_7 lt_2_7 lt_3_7 lt_4_7 lt_5_7 lt_6_7 lt_0_8 lt_1_8 lt_2_8 lt_3_8 lt_4_8 lt_5_8 lt_6_8 lt_7_8
set_option linter.unusedVariables false
set_option linter.unusedSimpArgs false
set_option maxHeartbeats 1600000 in
set_option maxRecDepth 100000 in
theorem keeps_0 (b : Bd) (v : Vs) (at_ x : Int) (l : List Int) (Y : Int) (w : World) (ok : Nat → Prop) (hF : BF w ok b v) (hsm : (decide (b.ram.length ≤ 70000) && decide (b.i.length ≤ 5000) && decide (b.o.length ≤ 5000)) = true) (hin : drawbridgeref07_Inside.f b.ram at_ 0 = some true) (h1 : inZ at_ 33554432 65536 = false) (h2 : inZ at_ 201326592 4194304 = false) (h3 : inZ at_ 268435456 8 = false) (h4 : inZ at_ 268439552 256 = false) (hw : ram_Write.f b.ram at_ 0 x = some (l, false)) (hr : ram_Read.f 8 l at_ 0 = some (Y, false)) : KP b v at_ 0 x w := by
  have HSM := Aside0.mk hsm
  have HIN := Aside0.mk hin
  have HW := Aside0.mk hw
  have HR := Aside0.mk hr
  have H1 := Aside0.mk h1
  have H2 := Aside0.mk h2
  have H3 := Aside0.mk h3
  have H4 := Aside0.mk h4
  clear hsm hin hw hr h1 h2 h3 h4
  unfold KP
  have HB := Aside0.mk (Below.refl w.heap.size w)
  have HF := Aside0.mk hF.bound
  have hu := Try.underlying36
  clear hF
  go_enter Try.func3, Try.ntmps3
  go_upto_region 1 with fail
  obtain ⟨wa, hwa, on0, hb_, hz0⟩ := letter1 w (.cells (BD b v) 36 (0, 0))
  rw [hwa]
  clear hwa
  have hzwa := Nat.le_of_eq hz0.symm
  clear hz0
  have on := Aside0.mk on0
  clear on0
  obtain ⟨onc, onf, onl⟩ := cells_of on.out
  have HB_ : Aside0 (Below w.heap.size w wa) := ⟨hb_⟩
  have HF_ : Aside0 (BF wa (fun j => j ≠ w.heap.size ∧ j < wa.heap.size) b v) := ⟨(HF.out.below hb_).mono (fun j hj => ⟨by have h_ := hj.2; omega, by have h_ := hj.2; omega⟩)⟩
  clear HB HF hb_; have HB := HB_; have HF := HF_; clear HB_ HF_
  go_wp2_with (first | ((with_reducible refine gate_dst (N := 15) rfl ?_); (try (refine gate_guard (by rfl) ?_; dsimp only)); refine wpList_load_row rfl 36 _ rfl _ (by rfl) _ (BD b v) _ _ (eG on) Try.underlying36 rfl infBoard ?_))
  (go_at_call 6; (with_reducible refine (small_c b v _ _ HF.out true HSM.out).mono ?_); rintro e_ w1 ⟨rfl, hb_⟩; have HB_ : Aside0 (Below w.heap.size w w1) := Aside0.mk (below_step (bG HB) hb_); have hzw1 := hb_.size; (try simp at hzw1); have on_ := Aside0.mk (box_below hb_ (eG on)); (try clear on onc onf onl); have on := on_; clear on_; obtain ⟨onc, onf, onl⟩ := cells_of on.out; have HF_ := Aside0.mk (BF.below (by repeat (with_reducible first | exact HF.out | apply BF.drew | apply BF.drewN | apply BF.alloc)) hb_); clear HF; have HF := HF_; clear HF_; clear HB hb_; have HB := HB_; clear HB_)
  go_wp2_with (first | ((with_reducible refine gate_dst (N := 20) rfl ?_); (try (refine gate_guard (by rfl) ?_; dsimp only)); refine wpList_load_part rfl 24 _ rfl _ 0 (by rfl) #[v.D] (BD b v) _ (eG on) rfl _ Try.underlying24 rfl infRam ?_))
  (go_at_call 7; (with_reducible refine (inside_c b v at_ 0 true _ _ HF.out HIN.out).mono ?_); rintro e_ w2 ⟨rfl, hb_⟩; have HB_ : Aside0 (Below w.heap.size w w2) := Aside0.mk (below_step (bG HB) hb_); have hzw2 := hb_.size; (try simp at hzw2); have on_ := Aside0.mk (box_below hb_ (eG on)); (try clear on onc onf onl); have on := on_; clear on_; obtain ⟨onc, onf, onl⟩ := cells_of on.out; have HF_ := Aside0.mk (BF.below (by repeat (with_reducible first | exact HF.out | apply BF.drew | apply BF.drewN | apply BF.alloc)) hb_); clear HF; have HF := HF_; clear HF_; clear HB hb_; have HB := HB_; clear HB_)
  go_wp2_with (first | ((with_reducible refine gate_dst (N := 28) rfl ?_); (try (refine gate_guard (by rfl) ?_; dsimp only)); refine wpList_load_row rfl 36 _ rfl _ (by rfl) _ (BD b v) _ _ (eG on) Try.underlying36 rfl infBoard ?_))
  (go_at_call 9; (with_reducible refine (bst_ram b v at_ 0 x l false _ _ HF.out H1.out H2.out H3.out H4.out HW.out).mono ?_); rintro e_ w3 ⟨v1, rfl, HF2, hb_⟩; have HB_ : Aside0 (Below w.heap.size w w3) := Aside0.mk (below_step (bG HB) hb_); have hzw3 := hb_.size; (try simp at hzw3); clear HB hb_; have HB := HB_; clear HB_; have HF2_ := Aside0.mk HF2; clear HF2; have HF2 := HF2_; clear HF2_; skip)
  have HG_ := Aside0.mk (HF2.out.bound.mono (ok' := fun j => True ∧ j < w3.heap.size) (fun j hj => ⟨trivial, hj.2⟩))
  (try clear HG)
  (try clear HF2)
  have HG := HG_
  clear HG_
  go_wp2_with (first | ((with_reducible refine gate_store (t := 36) (p := 9) (v := .tmp 33) rfl ?_); refine wpList_store_all rfl 36 _ _ rfl rfl _ (BD ({ b with ram := l } : Bd) v1) (by rfl) (by rfl) _ _ (nb_1 _ _) rfl infBoard (HG.out.one) ?_; rintro w4 ⟨hx_, hk_, hb_, hzz_⟩; have HB_ : Aside0 (Below w.heap.size w w4) := Aside0.mk (Below.trans (bG HB) (Below.mono hb_ (by first | omega | (simp only [sz_alloc, sz_drew, sz_drewN]; omega)))); have hzw4 := Nat.le_of_eq hzz_.symm; (try simp at hzw4); clear hzz_; (first | (have HG_ := Aside0.mk (BF.step HG.out (fun j hj _ => hk_ j ((by have h_ := hj.2; omega))))) | (have HG_ := Aside0.mk (BF.step (BF.alloc HG.out _) (fun j hj _ => hk_ j ((by have h_ := hj.2; omega)))))); clear HG; have HG := HG_; clear HG_; (try clear oc occ ocf ocl); have oc := Aside0.mk hx_; obtain ⟨occ, ocf, ocl⟩ := cells_of oc.out; clear HB hb_ hk_ hx_; have HB := HB_; clear HB_) | ((with_reducible refine gate_dst (N := 36) rfl ?_); (try (refine gate_guard (by rfl) ?_; dsimp only)); refine wpList_load_row rfl 36 _ rfl _ (by rfl) _ (BD ({ b with ram := l } : Bd) v1) _ _ (eG oc) Try.underlying36 rfl infBoard ?_))
  (go_at_call 10; (with_reducible refine (bld_ram ({ b with ram := l } : Bd) v1 8 at_ 0 Y false _ _ HG.out H1.out H2.out H3.out H4.out HR.out).mono ?_); rintro e_ w5 ⟨rfl, HF2, hb_⟩; have HB_ : Aside0 (Below w.heap.size w w5) := Aside0.mk (below_step (bG HB) hb_); have hzw5 := hb_.size; (try simp at hzw5); have oc_ := Aside0.mk (box_below hb_ (eG oc)); (try clear oc occ ocf ocl); have oc := oc_; clear oc_; obtain ⟨occ, ocf, ocl⟩ := cells_of oc.out; have HG_ := Aside0.mk (BF.below (by repeat (with_reducible first | exact HG.out | apply BF.drew | apply BF.drewN | apply BF.alloc)) hb_); clear HG; have HG := HG_; clear HG_; clear HB hb_; have HB := HB_; clear HB_; have HF2_ := Aside0.mk HF2; clear HF2; have HF2 := HF2_; clear HF2_; skip)
  have HH_ := Aside0.mk (HF2.out.bound.mono (ok' := fun j => True ∧ j < w5.heap.size) (fun j hj => ⟨trivial, hj.2⟩))
  (try clear HH)
  (try clear HF2)
  have HH := HH_
  clear HH_
  go_wp2_with (first | ((with_reducible refine gate_store (t := 36) (p := 12) (v := .tmp 41) rfl ?_); refine wpList_store_all rfl 36 _ _ rfl rfl _ (BD ({ b with ram := l } : Bd) v1) (by rfl) (by rfl) _ _ (nb_1 _ _) rfl infBoard (HH.out.one) ?_; rintro w6 ⟨hx_, hk_, hb_, hzz_⟩; have HB_ : Aside0 (Below w.heap.size w w6) := Aside0.mk (Below.trans (bG HB) (Below.mono hb_ (by first | omega | (simp only [sz_alloc, sz_drew, sz_drewN]; omega)))); have hzw6 := Nat.le_of_eq hzz_.symm; (try simp at hzw6); clear hzz_; have oc_ := Aside0.mk (st_put oc.out hk_ (fun h_ => (by repeat (with_reducible first | exact h_ | apply ext_drew | apply ext_drewN | apply ext_alloc | refine blk_far ?_ (by show _ ≠ _; dsimp only; omega) _))) (by omega)); clear oc occ ocf ocl; have oc := oc_; clear oc_; obtain ⟨occ, ocf, ocl⟩ := cells_of oc.out; (first | (have HG_ := Aside0.mk (BF.step HG.out (fun j hj _ => hk_ j ((by have h_ := hj.2; omega))))) | (have HG_ := Aside0.mk (BF.step (BF.alloc HG.out _) (fun j hj _ => hk_ j ((by have h_ := hj.2; omega)))))); clear HG; have HG := HG_; clear HG_; (first | (have HH_ := Aside0.mk (BF.step HH.out (fun j hj _ => hk_ j ((by have h_ := hj.2; omega))))) | (have HH_ := Aside0.mk (BF.step (BF.alloc HH.out _) (fun j hj _ => hk_ j ((by have h_ := hj.2; omega)))))); clear HH; have HH := HH_; clear HH_; (try clear od odc odf odl); have od := Aside0.mk hx_; obtain ⟨odc, odf, odl⟩ := cells_of od.out; clear HB hb_ hk_ hx_; have HB := HB_; clear HB_))
  (go_at_call 8; (with_reducible refine (heads_c _).mono ?_); rintro e_ wh ⟨rfl, hb_⟩; have HB_ : Aside0 (Below w.heap.size w wh) := Aside0.mk (below_step (bG HB) hb_); have hzwh := hb_.size; (try simp at hzwh); clear HB hb_; have HB := HB_; clear HB_)
  go_wp2
  go_ret
  exact ⟨rfl, HB.out⟩
set_option maxHeartbeats 1600000 in
set_option maxRecDepth 100000 in
theorem keeps_3 (b : Bd) (v : Vs) (at_ x : Int) (l : List Int) (Y : Int) (w : World) (ok : Nat → Prop) (hF : BF w ok b v) (hsm : (decide (b.ram.length ≤ 70000) && decide (b.i.length ≤ 5000) && decide (b.o.length ≤ 5000)) = true) (hin : drawbridgeref07_Inside.f b.ram at_ 3 = some true) (h1 : inZ at_ 33554432 65536 = false) (h2 : inZ at_ 201326592 4194304 = false) (h3 : inZ at_ 268435456 8 = false) (h4 : inZ at_ 268439552 256 = false) (hw : ram_Write.f b.ram at_ 3 x = some (l, false)) (hr : ram_Read.f 8 l at_ 3 = some (Y, false)) : KP b v at_ 3 x w := by
  have HSM := Aside0.mk hsm
  have HIN := Aside0.mk hin
  have HW := Aside0.mk hw
  have HR := Aside0.mk hr
  have H1 := Aside0.mk h1
  have H2 := Aside0.mk h2
  have H3 := Aside0.mk h3
  have H4 := Aside0.mk h4
  clear hsm hin hw hr h1 h2 h3 h4
  unfold KP
  have HB := Aside0.mk (Below.refl w.heap.size w)
  have HF := Aside0.mk hF.bound
  have hu := Try.underlying36
  clear hF
  go_enter Try.func3, Try.ntmps3
  go_upto_region 1 with fail
  obtain ⟨wa, hwa, on0, hb_, hz0⟩ := letter1 w (.cells (BD b v) 36 (0, 0))
  rw [hwa]
  clear hwa
  have hzwa := Nat.le_of_eq hz0.symm
  clear hz0
  have on := Aside0.mk on0
  clear on0
  obtain ⟨onc, onf, onl⟩ := cells_of on.out
  have HB_ : Aside0 (Below w.heap.size w wa) := ⟨hb_⟩
  have HF_ : Aside0 (BF wa (fun j => j ≠ w.heap.size ∧ j < wa.heap.size) b v) := ⟨(HF.out.below hb_).mono (fun j hj => ⟨by have h_ := hj.2; omega, by have h_ := hj.2; omega⟩)⟩
  clear HB HF hb_; have HB := HB_; have HF := HF_; clear HB_ HF_
  go_wp2_with (first | ((with_reducible refine gate_dst (N := 15) rfl ?_); (try (refine gate_guard (by rfl) ?_; dsimp only)); refine wpList_load_row rfl 36 _ rfl _ (by rfl) _ (BD b v) _ _ (eG on) Try.underlying36 rfl infBoard ?_))
  (go_at_call 6; (with_reducible refine (small_c b v _ _ HF.out true HSM.out).mono ?_); rintro e_ w1 ⟨rfl, hb_⟩; have HB_ : Aside0 (Below w.heap.size w w1) := Aside0.mk (below_step (bG HB) hb_); have hzw1 := hb_.size; (try simp at hzw1); have on_ := Aside0.mk (box_below hb_ (eG on)); (try clear on onc onf onl); have on := on_; clear on_; obtain ⟨onc, onf, onl⟩ := cells_of on.out; have HF_ := Aside0.mk (BF.below (by repeat (with_reducible first | exact HF.out | apply BF.drew | apply BF.drewN | apply BF.alloc)) hb_); clear HF; have HF := HF_; clear HF_; clear HB hb_; have HB := HB_; clear HB_)
  go_wp2_with (first | ((with_reducible refine gate_dst (N := 20) rfl ?_); (try (refine gate_guard (by rfl) ?_; dsimp only)); refine wpList_load_part rfl 24 _ rfl _ 0 (by rfl) #[v.D] (BD b v) _ (eG on) rfl _ Try.underlying24 rfl infRam ?_))
  (go_at_call 7; (with_reducible refine (inside_c b v at_ 3 true _ _ HF.out HIN.out).mono ?_); rintro e_ w2 ⟨rfl, hb_⟩; have HB_ : Aside0 (Below w.heap.size w w2) := Aside0.mk (below_step (bG HB) hb_); have hzw2 := hb_.size; (try simp at hzw2); have on_ := Aside0.mk (box_below hb_ (eG on)); (try clear on onc onf onl); have on := on_; clear on_; obtain ⟨onc, onf, onl⟩ := cells_of on.out; have HF_ := Aside0.mk (BF.below (by repeat (with_reducible first | exact HF.out | apply BF.drew | apply BF.drewN | apply BF.alloc)) hb_); clear HF; have HF := HF_; clear HF_; clear HB hb_; have HB := HB_; clear HB_)
  go_wp2_with (first | ((with_reducible refine gate_dst (N := 28) rfl ?_); (try (refine gate_guard (by rfl) ?_; dsimp only)); refine wpList_load_row rfl 36 _ rfl _ (by rfl) _ (BD b v) _ _ (eG on) Try.underlying36 rfl infBoard ?_))
  (go_at_call 9; (with_reducible refine (bst_ram b v at_ 3 x l false _ _ HF.out H1.out H2.out H3.out H4.out HW.out).mono ?_); rintro e_ w3 ⟨v1, rfl, HF2, hb_⟩; have HB_ : Aside0 (Below w.heap.size w w3) := Aside0.mk (below_step (bG HB) hb_); have hzw3 := hb_.size; (try simp at hzw3); clear HB hb_; have HB := HB_; clear HB_; have HF2_ := Aside0.mk HF2; clear HF2; have HF2 := HF2_; clear HF2_; skip)
  have HG_ := Aside0.mk (HF2.out.bound.mono (ok' := fun j => True ∧ j < w3.heap.size) (fun j hj => ⟨trivial, hj.2⟩))
  (try clear HG)
  (try clear HF2)
  have HG := HG_
  clear HG_
  go_wp2_with (first | ((with_reducible refine gate_store (t := 36) (p := 9) (v := .tmp 33) rfl ?_); refine wpList_store_all rfl 36 _ _ rfl rfl _ (BD ({ b with ram := l } : Bd) v1) (by rfl) (by rfl) _ _ (nb_1 _ _) rfl infBoard (HG.out.one) ?_; rintro w4 ⟨hx_, hk_, hb_, hzz_⟩; have HB_ : Aside0 (Below w.heap.size w w4) := Aside0.mk (Below.trans (bG HB) (Below.mono hb_ (by first | omega | (simp only [sz_alloc, sz_drew, sz_drewN]; omega)))); have hzw4 := Nat.le_of_eq hzz_.symm; (try simp at hzw4); clear hzz_; (first | (have HG_ := Aside0.mk (BF.step HG.out (fun j hj _ => hk_ j ((by have h_ := hj.2; omega))))) | (have HG_ := Aside0.mk (BF.step (BF.alloc HG.out _) (fun j hj _ => hk_ j ((by have h_ := hj.2; omega)))))); clear HG; have HG := HG_; clear HG_; (try clear oc occ ocf ocl); have oc := Aside0.mk hx_; obtain ⟨occ, ocf, ocl⟩ := cells_of oc.out; clear HB hb_ hk_ hx_; have HB := HB_; clear HB_) | ((with_reducible refine gate_dst (N := 36) rfl ?_); (try (refine gate_guard (by rfl) ?_; dsimp only)); refine wpList_load_row rfl 36 _ rfl _ (by rfl) _ (BD ({ b with ram := l } : Bd) v1) _ _ (eG oc) Try.underlying36 rfl infBoard ?_))
  (go_at_call 10; (with_reducible refine (bld_ram ({ b with ram := l } : Bd) v1 8 at_ 3 Y false _ _ HG.out H1.out H2.out H3.out H4.out HR.out).mono ?_); rintro e_ w5 ⟨rfl, HF2, hb_⟩; have HB_ : Aside0 (Below w.heap.size w w5) := Aside0.mk (below_step (bG HB) hb_); have hzw5 := hb_.size; (try simp at hzw5); have oc_ := Aside0.mk (box_below hb_ (eG oc)); (try clear oc occ ocf ocl); have oc := oc_; clear oc_; obtain ⟨occ, ocf, ocl⟩ := cells_of oc.out; have HG_ := Aside0.mk (BF.below (by repeat (with_reducible first | exact HG.out | apply BF.drew | apply BF.drewN | apply BF.alloc)) hb_); clear HG; have HG := HG_; clear HG_; clear HB hb_; have HB := HB_; clear HB_; have HF2_ := Aside0.mk HF2; clear HF2; have HF2 := HF2_; clear HF2_; skip)
  have HH_ := Aside0.mk (HF2.out.bound.mono (ok' := fun j => True ∧ j < w5.heap.size) (fun j hj => ⟨trivial, hj.2⟩))
  (try clear HH)
  (try clear HF2)
  have HH := HH_
  clear HH_
  go_wp2_with (first | ((with_reducible refine gate_store (t := 36) (p := 12) (v := .tmp 41) rfl ?_); refine wpList_store_all rfl 36 _ _ rfl rfl _ (BD ({ b with ram := l } : Bd) v1) (by rfl) (by rfl) _ _ (nb_1 _ _) rfl infBoard (HH.out.one) ?_; rintro w6 ⟨hx_, hk_, hb_, hzz_⟩; have HB_ : Aside0 (Below w.heap.size w w6) := Aside0.mk (Below.trans (bG HB) (Below.mono hb_ (by first | omega | (simp only [sz_alloc, sz_drew, sz_drewN]; omega)))); have hzw6 := Nat.le_of_eq hzz_.symm; (try simp at hzw6); clear hzz_; have oc_ := Aside0.mk (st_put oc.out hk_ (fun h_ => (by repeat (with_reducible first | exact h_ | apply ext_drew | apply ext_drewN | apply ext_alloc | refine blk_far ?_ (by show _ ≠ _; dsimp only; omega) _))) (by omega)); clear oc occ ocf ocl; have oc := oc_; clear oc_; obtain ⟨occ, ocf, ocl⟩ := cells_of oc.out; (first | (have HG_ := Aside0.mk (BF.step HG.out (fun j hj _ => hk_ j ((by have h_ := hj.2; omega))))) | (have HG_ := Aside0.mk (BF.step (BF.alloc HG.out _) (fun j hj _ => hk_ j ((by have h_ := hj.2; omega)))))); clear HG; have HG := HG_; clear HG_; (first | (have HH_ := Aside0.mk (BF.step HH.out (fun j hj _ => hk_ j ((by have h_ := hj.2; omega))))) | (have HH_ := Aside0.mk (BF.step (BF.alloc HH.out _) (fun j hj _ => hk_ j ((by have h_ := hj.2; omega)))))); clear HH; have HH := HH_; clear HH_; (try clear od odc odf odl); have od := Aside0.mk hx_; obtain ⟨odc, odf, odl⟩ := cells_of od.out; clear HB hb_ hk_ hx_; have HB := HB_; clear HB_))
  (go_at_call 8; (with_reducible refine (heads_c _).mono ?_); rintro e_ wh ⟨rfl, hb_⟩; have HB_ : Aside0 (Below w.heap.size w wh) := Aside0.mk (below_step (bG HB) hb_); have hzwh := hb_.size; (try simp at hzwh); clear HB hb_; have HB := HB_; clear HB_)
  go_wp2
  go_ret
  exact ⟨rfl, HB.out⟩
set_option maxHeartbeats 1600000 in
set_option maxRecDepth 100000 in
theorem keeps_5 (b : Bd) (v : Vs) (at_ x : Int) (l : List Int) (Y : Int) (w : World) (ok : Nat → Prop) (hF : BF w ok b v) (hsm : (decide (b.ram.length ≤ 70000) && decide (b.i.length ≤ 5000) && decide (b.o.length ≤ 5000)) = true) (hin : drawbridgeref07_Inside.f b.ram at_ 5 = some true) (h1 : inZ at_ 33554432 65536 = false) (h2 : inZ at_ 201326592 4194304 = false) (h3 : inZ at_ 268435456 8 = false) (h4 : inZ at_ 268439552 256 = false) (hw : ram_Write.f b.ram at_ 5 x = some (l, false)) (hr : ram_Read.f 8 l at_ 5 = some (Y, false)) : KP b v at_ 5 x w := by
  have HSM := Aside0.mk hsm
  have HIN := Aside0.mk hin
  have HW := Aside0.mk hw
  have HR := Aside0.mk hr
  have H1 := Aside0.mk h1
  have H2 := Aside0.mk h2
  have H3 := Aside0.mk h3
  have H4 := Aside0.mk h4
  clear hsm hin hw hr h1 h2 h3 h4
  unfold KP
  have HB := Aside0.mk (Below.refl w.heap.size w)
  have HF := Aside0.mk hF.bound
  have hu := Try.underlying36
  clear hF
  go_enter Try.func3, Try.ntmps3
  go_upto_region 1 with fail
  obtain ⟨wa, hwa, on0, hb_, hz0⟩ := letter1 w (.cells (BD b v) 36 (0, 0))
  rw [hwa]
  clear hwa
  have hzwa := Nat.le_of_eq hz0.symm
  clear hz0
  have on := Aside0.mk on0
  clear on0
  obtain ⟨onc, onf, onl⟩ := cells_of on.out
  have HB_ : Aside0 (Below w.heap.size w wa) := ⟨hb_⟩
  have HF_ : Aside0 (BF wa (fun j => j ≠ w.heap.size ∧ j < wa.heap.size) b v) := ⟨(HF.out.below hb_).mono (fun j hj => ⟨by have h_ := hj.2; omega, by have h_ := hj.2; omega⟩)⟩
  clear HB HF hb_; have HB := HB_; have HF := HF_; clear HB_ HF_
  go_wp2_with (first | ((with_reducible refine gate_dst (N := 15) rfl ?_); (try (refine gate_guard (by rfl) ?_; dsimp only)); refine wpList_load_row rfl 36 _ rfl _ (by rfl) _ (BD b v) _ _ (eG on) Try.underlying36 rfl infBoard ?_))
  (go_at_call 6; (with_reducible refine (small_c b v _ _ HF.out true HSM.out).mono ?_); rintro e_ w1 ⟨rfl, hb_⟩; have HB_ : Aside0 (Below w.heap.size w w1) := Aside0.mk (below_step (bG HB) hb_); have hzw1 := hb_.size; (try simp at hzw1); have on_ := Aside0.mk (box_below hb_ (eG on)); (try clear on onc onf onl); have on := on_; clear on_; obtain ⟨onc, onf, onl⟩ := cells_of on.out; have HF_ := Aside0.mk (BF.below (by repeat (with_reducible first | exact HF.out | apply BF.drew | apply BF.drewN | apply BF.alloc)) hb_); clear HF; have HF := HF_; clear HF_; clear HB hb_; have HB := HB_; clear HB_)
  go_wp2_with (first | ((with_reducible refine gate_dst (N := 20) rfl ?_); (try (refine gate_guard (by rfl) ?_; dsimp only)); refine wpList_load_part rfl 24 _ rfl _ 0 (by rfl) #[v.D] (BD b v) _ (eG on) rfl _ Try.underlying24 rfl infRam ?_))
  (go_at_call 7; (with_reducible refine (inside_c b v at_ 5 true _ _ HF.out HIN.out).mono ?_); rintro e_ w2 ⟨rfl, hb_⟩; have HB_ : Aside0 (Below w.heap.size w w2) := Aside0.mk (below_step (bG HB) hb_); have hzw2 := hb_.size; (try simp at hzw2); have on_ := Aside0.mk (box_below hb_ (eG on)); (try clear on onc onf onl); have on := on_; clear on_; obtain ⟨onc, onf, onl⟩ := cells_of on.out; have HF_ := Aside0.mk (BF.below (by repeat (with_reducible first | exact HF.out | apply BF.drew | apply BF.drewN | apply BF.alloc)) hb_); clear HF; have HF := HF_; clear HF_; clear HB hb_; have HB := HB_; clear HB_)
  go_wp2_with (first | ((with_reducible refine gate_dst (N := 28) rfl ?_); (try (refine gate_guard (by rfl) ?_; dsimp only)); refine wpList_load_row rfl 36 _ rfl _ (by rfl) _ (BD b v) _ _ (eG on) Try.underlying36 rfl infBoard ?_))
  (go_at_call 9; (with_reducible refine (bst_ram b v at_ 5 x l false _ _ HF.out H1.out H2.out H3.out H4.out HW.out).mono ?_); rintro e_ w3 ⟨v1, rfl, HF2, hb_⟩; have HB_ : Aside0 (Below w.heap.size w w3) := Aside0.mk (below_step (bG HB) hb_); have hzw3 := hb_.size; (try simp at hzw3); clear HB hb_; have HB := HB_; clear HB_; have HF2_ := Aside0.mk HF2; clear HF2; have HF2 := HF2_; clear HF2_; skip)
  have HG_ := Aside0.mk (HF2.out.bound.mono (ok' := fun j => True ∧ j < w3.heap.size) (fun j hj => ⟨trivial, hj.2⟩))
  (try clear HG)
  (try clear HF2)
  have HG := HG_
  clear HG_
  go_wp2_with (first | ((with_reducible refine gate_store (t := 36) (p := 9) (v := .tmp 33) rfl ?_); refine wpList_store_all rfl 36 _ _ rfl rfl _ (BD ({ b with ram := l } : Bd) v1) (by rfl) (by rfl) _ _ (nb_1 _ _) rfl infBoard (HG.out.one) ?_; rintro w4 ⟨hx_, hk_, hb_, hzz_⟩; have HB_ : Aside0 (Below w.heap.size w w4) := Aside0.mk (Below.trans (bG HB) (Below.mono hb_ (by first | omega | (simp only [sz_alloc, sz_drew, sz_drewN]; omega)))); have hzw4 := Nat.le_of_eq hzz_.symm; (try simp at hzw4); clear hzz_; (first | (have HG_ := Aside0.mk (BF.step HG.out (fun j hj _ => hk_ j ((by have h_ := hj.2; omega))))) | (have HG_ := Aside0.mk (BF.step (BF.alloc HG.out _) (fun j hj _ => hk_ j ((by have h_ := hj.2; omega)))))); clear HG; have HG := HG_; clear HG_; (try clear oc occ ocf ocl); have oc := Aside0.mk hx_; obtain ⟨occ, ocf, ocl⟩ := cells_of oc.out; clear HB hb_ hk_ hx_; have HB := HB_; clear HB_) | ((with_reducible refine gate_dst (N := 36) rfl ?_); (try (refine gate_guard (by rfl) ?_; dsimp only)); refine wpList_load_row rfl 36 _ rfl _ (by rfl) _ (BD ({ b with ram := l } : Bd) v1) _ _ (eG oc) Try.underlying36 rfl infBoard ?_))
  (go_at_call 10; (with_reducible refine (bld_ram ({ b with ram := l } : Bd) v1 8 at_ 5 Y false _ _ HG.out H1.out H2.out H3.out H4.out HR.out).mono ?_); rintro e_ w5 ⟨rfl, HF2, hb_⟩; have HB_ : Aside0 (Below w.heap.size w w5) := Aside0.mk (below_step (bG HB) hb_); have hzw5 := hb_.size; (try simp at hzw5); have oc_ := Aside0.mk (box_below hb_ (eG oc)); (try clear oc occ ocf ocl); have oc := oc_; clear oc_; obtain ⟨occ, ocf, ocl⟩ := cells_of oc.out; have HG_ := Aside0.mk (BF.below (by repeat (with_reducible first | exact HG.out | apply BF.drew | apply BF.drewN | apply BF.alloc)) hb_); clear HG; have HG := HG_; clear HG_; clear HB hb_; have HB := HB_; clear HB_; have HF2_ := Aside0.mk HF2; clear HF2; have HF2 := HF2_; clear HF2_; skip)
  have HH_ := Aside0.mk (HF2.out.bound.mono (ok' := fun j => True ∧ j < w5.heap.size) (fun j hj => ⟨trivial, hj.2⟩))
  (try clear HH)
  (try clear HF2)
  have HH := HH_
  clear HH_
  go_wp2_with (first | ((with_reducible refine gate_store (t := 36) (p := 12) (v := .tmp 41) rfl ?_); refine wpList_store_all rfl 36 _ _ rfl rfl _ (BD ({ b with ram := l } : Bd) v1) (by rfl) (by rfl) _ _ (nb_1 _ _) rfl infBoard (HH.out.one) ?_; rintro w6 ⟨hx_, hk_, hb_, hzz_⟩; have HB_ : Aside0 (Below w.heap.size w w6) := Aside0.mk (Below.trans (bG HB) (Below.mono hb_ (by first | omega | (simp only [sz_alloc, sz_drew, sz_drewN]; omega)))); have hzw6 := Nat.le_of_eq hzz_.symm; (try simp at hzw6); clear hzz_; have oc_ := Aside0.mk (st_put oc.out hk_ (fun h_ => (by repeat (with_reducible first | exact h_ | apply ext_drew | apply ext_drewN | apply ext_alloc | refine blk_far ?_ (by show _ ≠ _; dsimp only; omega) _))) (by omega)); clear oc occ ocf ocl; have oc := oc_; clear oc_; obtain ⟨occ, ocf, ocl⟩ := cells_of oc.out; (first | (have HG_ := Aside0.mk (BF.step HG.out (fun j hj _ => hk_ j ((by have h_ := hj.2; omega))))) | (have HG_ := Aside0.mk (BF.step (BF.alloc HG.out _) (fun j hj _ => hk_ j ((by have h_ := hj.2; omega)))))); clear HG; have HG := HG_; clear HG_; (first | (have HH_ := Aside0.mk (BF.step HH.out (fun j hj _ => hk_ j ((by have h_ := hj.2; omega))))) | (have HH_ := Aside0.mk (BF.step (BF.alloc HH.out _) (fun j hj _ => hk_ j ((by have h_ := hj.2; omega)))))); clear HH; have HH := HH_; clear HH_; (try clear od odc odf odl); have od := Aside0.mk hx_; obtain ⟨odc, odf, odl⟩ := cells_of od.out; clear HB hb_ hk_ hx_; have HB := HB_; clear HB_))
  (go_at_call 8; (with_reducible refine (heads_c _).mono ?_); rintro e_ wh ⟨rfl, hb_⟩; have HB_ : Aside0 (Below w.heap.size w wh) := Aside0.mk (below_step (bG HB) hb_); have hzwh := hb_.size; (try simp at hzwh); clear HB hb_; have HB := HB_; clear HB_)
  go_wp2
  go_ret
  exact ⟨rfl, HB.out⟩
set_option maxHeartbeats 1600000 in
set_option maxRecDepth 100000 in
theorem keeps_6 (b : Bd) (v : Vs) (at_ x : Int) (l : List Int) (Y : Int) (w : World) (ok : Nat → Prop) (hF : BF w ok b v) (hsm : (decide (b.ram.length ≤ 70000) && decide (b.i.length ≤ 5000) && decide (b.o.length ≤ 5000)) = true) (hin : drawbridgeref07_Inside.f b.ram at_ 6 = some true) (h1 : inZ at_ 33554432 65536 = false) (h2 : inZ at_ 201326592 4194304 = false) (h3 : inZ at_ 268435456 8 = false) (h4 : inZ at_ 268439552 256 = false) (hw : ram_Write.f b.ram at_ 6 x = some (l, false)) (hr : ram_Read.f 8 l at_ 6 = some (Y, false)) : KP b v at_ 6 x w := by
  have HSM := Aside0.mk hsm
  have HIN := Aside0.mk hin
  have HW := Aside0.mk hw
  have HR := Aside0.mk hr
  have H1 := Aside0.mk h1
  have H2 := Aside0.mk h2
  have H3 := Aside0.mk h3
  have H4 := Aside0.mk h4
  clear hsm hin hw hr h1 h2 h3 h4
  unfold KP
  have HB := Aside0.mk (Below.refl w.heap.size w)
  have HF := Aside0.mk hF.bound
  have hu := Try.underlying36
  clear hF
  go_enter Try.func3, Try.ntmps3
  go_upto_region 1 with fail
  obtain ⟨wa, hwa, on0, hb_, hz0⟩ := letter1 w (.cells (BD b v) 36 (0, 0))
  rw [hwa]
  clear hwa
  have hzwa := Nat.le_of_eq hz0.symm
  clear hz0
  have on := Aside0.mk on0
  clear on0
  obtain ⟨onc, onf, onl⟩ := cells_of on.out
  have HB_ : Aside0 (Below w.heap.size w wa) := ⟨hb_⟩
  have HF_ : Aside0 (BF wa (fun j => j ≠ w.heap.size ∧ j < wa.heap.size) b v) := ⟨(HF.out.below hb_).mono (fun j hj => ⟨by have h_ := hj.2; omega, by have h_ := hj.2; omega⟩)⟩
  clear HB HF hb_; have HB := HB_; have HF := HF_; clear HB_ HF_
  go_wp2_with (first | ((with_reducible refine gate_dst (N := 15) rfl ?_); (try (refine gate_guard (by rfl) ?_; dsimp only)); refine wpList_load_row rfl 36 _ rfl _ (by rfl) _ (BD b v) _ _ (eG on) Try.underlying36 rfl infBoard ?_))
  (go_at_call 6; (with_reducible refine (small_c b v _ _ HF.out true HSM.out).mono ?_); rintro e_ w1 ⟨rfl, hb_⟩; have HB_ : Aside0 (Below w.heap.size w w1) := Aside0.mk (below_step (bG HB) hb_); have hzw1 := hb_.size; (try simp at hzw1); have on_ := Aside0.mk (box_below hb_ (eG on)); (try clear on onc onf onl); have on := on_; clear on_; obtain ⟨onc, onf, onl⟩ := cells_of on.out; have HF_ := Aside0.mk (BF.below (by repeat (with_reducible first | exact HF.out | apply BF.drew | apply BF.drewN | apply BF.alloc)) hb_); clear HF; have HF := HF_; clear HF_; clear HB hb_; have HB := HB_; clear HB_)
  go_wp2_with (first | ((with_reducible refine gate_dst (N := 20) rfl ?_); (try (refine gate_guard (by rfl) ?_; dsimp only)); refine wpList_load_part rfl 24 _ rfl _ 0 (by rfl) #[v.D] (BD b v) _ (eG on) rfl _ Try.underlying24 rfl infRam ?_))
  (go_at_call 7; (with_reducible refine (inside_c b v at_ 6 true _ _ HF.out HIN.out).mono ?_); rintro e_ w2 ⟨rfl, hb_⟩; have HB_ : Aside0 (Below w.heap.size w w2) := Aside0.mk (below_step (bG HB) hb_); have hzw2 := hb_.size; (try simp at hzw2); have on_ := Aside0.mk (box_below hb_ (eG on)); (try clear on onc onf onl); have on := on_; clear on_; obtain ⟨onc, onf, onl⟩ := cells_of on.out; have HF_ := Aside0.mk (BF.below (by repeat (with_reducible first | exact HF.out | apply BF.drew | apply BF.drewN | apply BF.alloc)) hb_); clear HF; have HF := HF_; clear HF_; clear HB hb_; have HB := HB_; clear HB_)
  go_wp2_with (first | ((with_reducible refine gate_dst (N := 28) rfl ?_); (try (refine gate_guard (by rfl) ?_; dsimp only)); refine wpList_load_row rfl 36 _ rfl _ (by rfl) _ (BD b v) _ _ (eG on) Try.underlying36 rfl infBoard ?_))
  (go_at_call 9; (with_reducible refine (bst_ram b v at_ 6 x l false _ _ HF.out H1.out H2.out H3.out H4.out HW.out).mono ?_); rintro e_ w3 ⟨v1, rfl, HF2, hb_⟩; have HB_ : Aside0 (Below w.heap.size w w3) := Aside0.mk (below_step (bG HB) hb_); have hzw3 := hb_.size; (try simp at hzw3); clear HB hb_; have HB := HB_; clear HB_; have HF2_ := Aside0.mk HF2; clear HF2; have HF2 := HF2_; clear HF2_; skip)
  have HG_ := Aside0.mk (HF2.out.bound.mono (ok' := fun j => True ∧ j < w3.heap.size) (fun j hj => ⟨trivial, hj.2⟩))
  (try clear HG)
  (try clear HF2)
  have HG := HG_
  clear HG_
  go_wp2_with (first | ((with_reducible refine gate_store (t := 36) (p := 9) (v := .tmp 33) rfl ?_); refine wpList_store_all rfl 36 _ _ rfl rfl _ (BD ({ b with ram := l } : Bd) v1) (by rfl) (by rfl) _ _ (nb_1 _ _) rfl infBoard (HG.out.one) ?_; rintro w4 ⟨hx_, hk_, hb_, hzz_⟩; have HB_ : Aside0 (Below w.heap.size w w4) := Aside0.mk (Below.trans (bG HB) (Below.mono hb_ (by first | omega | (simp only [sz_alloc, sz_drew, sz_drewN]; omega)))); have hzw4 := Nat.le_of_eq hzz_.symm; (try simp at hzw4); clear hzz_; (first | (have HG_ := Aside0.mk (BF.step HG.out (fun j hj _ => hk_ j ((by have h_ := hj.2; omega))))) | (have HG_ := Aside0.mk (BF.step (BF.alloc HG.out _) (fun j hj _ => hk_ j ((by have h_ := hj.2; omega)))))); clear HG; have HG := HG_; clear HG_; (try clear oc occ ocf ocl); have oc := Aside0.mk hx_; obtain ⟨occ, ocf, ocl⟩ := cells_of oc.out; clear HB hb_ hk_ hx_; have HB := HB_; clear HB_) | ((with_reducible refine gate_dst (N := 36) rfl ?_); (try (refine gate_guard (by rfl) ?_; dsimp only)); refine wpList_load_row rfl 36 _ rfl _ (by rfl) _ (BD ({ b with ram := l } : Bd) v1) _ _ (eG oc) Try.underlying36 rfl infBoard ?_))
  (go_at_call 10; (with_reducible refine (bld_ram ({ b with ram := l } : Bd) v1 8 at_ 6 Y false _ _ HG.out H1.out H2.out H3.out H4.out HR.out).mono ?_); rintro e_ w5 ⟨rfl, HF2, hb_⟩; have HB_ : Aside0 (Below w.heap.size w w5) := Aside0.mk (below_step (bG HB) hb_); have hzw5 := hb_.size; (try simp at hzw5); have oc_ := Aside0.mk (box_below hb_ (eG oc)); (try clear oc occ ocf ocl); have oc := oc_; clear oc_; obtain ⟨occ, ocf, ocl⟩ := cells_of oc.out; have HG_ := Aside0.mk (BF.below (by repeat (with_reducible first | exact HG.out | apply BF.drew | apply BF.drewN | apply BF.alloc)) hb_); clear HG; have HG := HG_; clear HG_; clear HB hb_; have HB := HB_; clear HB_; have HF2_ := Aside0.mk HF2; clear HF2; have HF2 := HF2_; clear HF2_; skip)
  have HH_ := Aside0.mk (HF2.out.bound.mono (ok' := fun j => True ∧ j < w5.heap.size) (fun j hj => ⟨trivial, hj.2⟩))
  (try clear HH)
  (try clear HF2)
  have HH := HH_
  clear HH_
  go_wp2_with (first | ((with_reducible refine gate_store (t := 36) (p := 12) (v := .tmp 41) rfl ?_); refine wpList_store_all rfl 36 _ _ rfl rfl _ (BD ({ b with ram := l } : Bd) v1) (by rfl) (by rfl) _ _ (nb_1 _ _) rfl infBoard (HH.out.one) ?_; rintro w6 ⟨hx_, hk_, hb_, hzz_⟩; have HB_ : Aside0 (Below w.heap.size w w6) := Aside0.mk (Below.trans (bG HB) (Below.mono hb_ (by first | omega | (simp only [sz_alloc, sz_drew, sz_drewN]; omega)))); have hzw6 := Nat.le_of_eq hzz_.symm; (try simp at hzw6); clear hzz_; have oc_ := Aside0.mk (st_put oc.out hk_ (fun h_ => (by repeat (with_reducible first | exact h_ | apply ext_drew | apply ext_drewN | apply ext_alloc | refine blk_far ?_ (by show _ ≠ _; dsimp only; omega) _))) (by omega)); clear oc occ ocf ocl; have oc := oc_; clear oc_; obtain ⟨occ, ocf, ocl⟩ := cells_of oc.out; (first | (have HG_ := Aside0.mk (BF.step HG.out (fun j hj _ => hk_ j ((by have h_ := hj.2; omega))))) | (have HG_ := Aside0.mk (BF.step (BF.alloc HG.out _) (fun j hj _ => hk_ j ((by have h_ := hj.2; omega)))))); clear HG; have HG := HG_; clear HG_; (first | (have HH_ := Aside0.mk (BF.step HH.out (fun j hj _ => hk_ j ((by have h_ := hj.2; omega))))) | (have HH_ := Aside0.mk (BF.step (BF.alloc HH.out _) (fun j hj _ => hk_ j ((by have h_ := hj.2; omega)))))); clear HH; have HH := HH_; clear HH_; (try clear od odc odf odl); have od := Aside0.mk hx_; obtain ⟨odc, odf, odl⟩ := cells_of od.out; clear HB hb_ hk_ hx_; have HB := HB_; clear HB_))
  (go_at_call 8; (with_reducible refine (heads_c _).mono ?_); rintro e_ wh ⟨rfl, hb_⟩; have HB_ : Aside0 (Below w.heap.size w wh) := Aside0.mk (below_step (bG HB) hb_); have hzwh := hb_.size; (try simp at hzwh); clear HB hb_; have HB := HB_; clear HB_)
  go_wp2
  go_ret
  exact ⟨rfl, HB.out⟩
set_option maxHeartbeats 1600000 in
set_option maxRecDepth 100000 in
theorem keeps_7 (b : Bd) (v : Vs) (at_ x : Int) (l : List Int) (Y : Int) (w : World) (ok : Nat → Prop) (hF : BF w ok b v) (hsm : (decide (b.ram.length ≤ 70000) && decide (b.i.length ≤ 5000) && decide (b.o.length ≤ 5000)) = true) (hin : drawbridgeref07_Inside.f b.ram at_ 7 = some true) (h1 : inZ at_ 33554432 65536 = false) (h2 : inZ at_ 201326592 4194304 = false) (h3 : inZ at_ 268435456 8 = false) (h4 : inZ at_ 268439552 256 = false) (hw : ram_Write.f b.ram at_ 7 x = some (l, false)) (hr : ram_Read.f 8 l at_ 7 = some (Y, false)) : KP b v at_ 7 x w := by
  have HSM := Aside0.mk hsm
  have HIN := Aside0.mk hin
  have HW := Aside0.mk hw
  have HR := Aside0.mk hr
  have H1 := Aside0.mk h1
  have H2 := Aside0.mk h2
  have H3 := Aside0.mk h3
  have H4 := Aside0.mk h4
  clear hsm hin hw hr h1 h2 h3 h4
  unfold KP
  have HB := Aside0.mk (Below.refl w.heap.size w)
  have HF := Aside0.mk hF.bound
  have hu := Try.underlying36
  clear hF
  go_enter Try.func3, Try.ntmps3
  go_upto_region 1 with fail
  obtain ⟨wa, hwa, on0, hb_, hz0⟩ := letter1 w (.cells (BD b v) 36 (0, 0))
  rw [hwa]
  clear hwa
  have hzwa := Nat.le_of_eq hz0.symm
  clear hz0
  have on := Aside0.mk on0
  clear on0
  obtain ⟨onc, onf, onl⟩ := cells_of on.out
  have HB_ : Aside0 (Below w.heap.size w wa) := ⟨hb_⟩
  have HF_ : Aside0 (BF wa (fun j => j ≠ w.heap.size ∧ j < wa.heap.size) b v) := ⟨(HF.out.below hb_).mono (fun j hj => ⟨by have h_ := hj.2; omega, by have h_ := hj.2; omega⟩)⟩
  clear HB HF hb_; have HB := HB_; have HF := HF_; clear HB_ HF_
  go_wp2_with (first | ((with_reducible refine gate_dst (N := 15) rfl ?_); (try (refine gate_guard (by rfl) ?_; dsimp only)); refine wpList_load_row rfl 36 _ rfl _ (by rfl) _ (BD b v) _ _ (eG on) Try.underlying36 rfl infBoard ?_))
  (go_at_call 6; (with_reducible refine (small_c b v _ _ HF.out true HSM.out).mono ?_); rintro e_ w1 ⟨rfl, hb_⟩; have HB_ : Aside0 (Below w.heap.size w w1) := Aside0.mk (below_step (bG HB) hb_); have hzw1 := hb_.size; (try simp at hzw1); have on_ := Aside0.mk (box_below hb_ (eG on)); (try clear on onc onf onl); have on := on_; clear on_; obtain ⟨onc, onf, onl⟩ := cells_of on.out; have HF_ := Aside0.mk (BF.below (by repeat (with_reducible first | exact HF.out | apply BF.drew | apply BF.drewN | apply BF.alloc)) hb_); clear HF; have HF := HF_; clear HF_; clear HB hb_; have HB := HB_; clear HB_)
  go_wp2_with (first | ((with_reducible refine gate_dst (N := 20) rfl ?_); (try (refine gate_guard (by rfl) ?_; dsimp only)); refine wpList_load_part rfl 24 _ rfl _ 0 (by rfl) #[v.D] (BD b v) _ (eG on) rfl _ Try.underlying24 rfl infRam ?_))
  (go_at_call 7; (with_reducible refine (inside_c b v at_ 7 true _ _ HF.out HIN.out).mono ?_); rintro e_ w2 ⟨rfl, hb_⟩; have HB_ : Aside0 (Below w.heap.size w w2) := Aside0.mk (below_step (bG HB) hb_); have hzw2 := hb_.size; (try simp at hzw2); have on_ := Aside0.mk (box_below hb_ (eG on)); (try clear on onc onf onl); have on := on_; clear on_; obtain ⟨onc, onf, onl⟩ := cells_of on.out; have HF_ := Aside0.mk (BF.below (by repeat (with_reducible first | exact HF.out | apply BF.drew | apply BF.drewN | apply BF.alloc)) hb_); clear HF; have HF := HF_; clear HF_; clear HB hb_; have HB := HB_; clear HB_)
  go_wp2_with (first | ((with_reducible refine gate_dst (N := 28) rfl ?_); (try (refine gate_guard (by rfl) ?_; dsimp only)); refine wpList_load_row rfl 36 _ rfl _ (by rfl) _ (BD b v) _ _ (eG on) Try.underlying36 rfl infBoard ?_))
  (go_at_call 9; (with_reducible refine (bst_ram b v at_ 7 x l false _ _ HF.out H1.out H2.out H3.out H4.out HW.out).mono ?_); rintro e_ w3 ⟨v1, rfl, HF2, hb_⟩; have HB_ : Aside0 (Below w.heap.size w w3) := Aside0.mk (below_step (bG HB) hb_); have hzw3 := hb_.size; (try simp at hzw3); clear HB hb_; have HB := HB_; clear HB_; have HF2_ := Aside0.mk HF2; clear HF2; have HF2 := HF2_; clear HF2_; skip)
  have HG_ := Aside0.mk (HF2.out.bound.mono (ok' := fun j => True ∧ j < w3.heap.size) (fun j hj => ⟨trivial, hj.2⟩))
  (try clear HG)
  (try clear HF2)
  have HG := HG_
  clear HG_
  go_wp2_with (first | ((with_reducible refine gate_store (t := 36) (p := 9) (v := .tmp 33) rfl ?_); refine wpList_store_all rfl 36 _ _ rfl rfl _ (BD ({ b with ram := l } : Bd) v1) (by rfl) (by rfl) _ _ (nb_1 _ _) rfl infBoard (HG.out.one) ?_; rintro w4 ⟨hx_, hk_, hb_, hzz_⟩; have HB_ : Aside0 (Below w.heap.size w w4) := Aside0.mk (Below.trans (bG HB) (Below.mono hb_ (by first | omega | (simp only [sz_alloc, sz_drew, sz_drewN]; omega)))); have hzw4 := Nat.le_of_eq hzz_.symm; (try simp at hzw4); clear hzz_; (first | (have HG_ := Aside0.mk (BF.step HG.out (fun j hj _ => hk_ j ((by have h_ := hj.2; omega))))) | (have HG_ := Aside0.mk (BF.step (BF.alloc HG.out _) (fun j hj _ => hk_ j ((by have h_ := hj.2; omega)))))); clear HG; have HG := HG_; clear HG_; (try clear oc occ ocf ocl); have oc := Aside0.mk hx_; obtain ⟨occ, ocf, ocl⟩ := cells_of oc.out; clear HB hb_ hk_ hx_; have HB := HB_; clear HB_) | ((with_reducible refine gate_dst (N := 36) rfl ?_); (try (refine gate_guard (by rfl) ?_; dsimp only)); refine wpList_load_row rfl 36 _ rfl _ (by rfl) _ (BD ({ b with ram := l } : Bd) v1) _ _ (eG oc) Try.underlying36 rfl infBoard ?_))
  (go_at_call 10; (with_reducible refine (bld_ram ({ b with ram := l } : Bd) v1 8 at_ 7 Y false _ _ HG.out H1.out H2.out H3.out H4.out HR.out).mono ?_); rintro e_ w5 ⟨rfl, HF2, hb_⟩; have HB_ : Aside0 (Below w.heap.size w w5) := Aside0.mk (below_step (bG HB) hb_); have hzw5 := hb_.size; (try simp at hzw5); have oc_ := Aside0.mk (box_below hb_ (eG oc)); (try clear oc occ ocf ocl); have oc := oc_; clear oc_; obtain ⟨occ, ocf, ocl⟩ := cells_of oc.out; have HG_ := Aside0.mk (BF.below (by repeat (with_reducible first | exact HG.out | apply BF.drew | apply BF.drewN | apply BF.alloc)) hb_); clear HG; have HG := HG_; clear HG_; clear HB hb_; have HB := HB_; clear HB_; have HF2_ := Aside0.mk HF2; clear HF2; have HF2 := HF2_; clear HF2_; skip)
  have HH_ := Aside0.mk (HF2.out.bound.mono (ok' := fun j => True ∧ j < w5.heap.size) (fun j hj => ⟨trivial, hj.2⟩))
  (try clear HH)
  (try clear HF2)
  have HH := HH_
  clear HH_
  go_wp2_with (first | ((with_reducible refine gate_store (t := 36) (p := 12) (v := .tmp 41) rfl ?_); refine wpList_store_all rfl 36 _ _ rfl rfl _ (BD ({ b with ram := l } : Bd) v1) (by rfl) (by rfl) _ _ (nb_1 _ _) rfl infBoard (HH.out.one) ?_; rintro w6 ⟨hx_, hk_, hb_, hzz_⟩; have HB_ : Aside0 (Below w.heap.size w w6) := Aside0.mk (Below.trans (bG HB) (Below.mono hb_ (by first | omega | (simp only [sz_alloc, sz_drew, sz_drewN]; omega)))); have hzw6 := Nat.le_of_eq hzz_.symm; (try simp at hzw6); clear hzz_; have oc_ := Aside0.mk (st_put oc.out hk_ (fun h_ => (by repeat (with_reducible first | exact h_ | apply ext_drew | apply ext_drewN | apply ext_alloc | refine blk_far ?_ (by show _ ≠ _; dsimp only; omega) _))) (by omega)); clear oc occ ocf ocl; have oc := oc_; clear oc_; obtain ⟨occ, ocf, ocl⟩ := cells_of oc.out; (first | (have HG_ := Aside0.mk (BF.step HG.out (fun j hj _ => hk_ j ((by have h_ := hj.2; omega))))) | (have HG_ := Aside0.mk (BF.step (BF.alloc HG.out _) (fun j hj _ => hk_ j ((by have h_ := hj.2; omega)))))); clear HG; have HG := HG_; clear HG_; (first | (have HH_ := Aside0.mk (BF.step HH.out (fun j hj _ => hk_ j ((by have h_ := hj.2; omega))))) | (have HH_ := Aside0.mk (BF.step (BF.alloc HH.out _) (fun j hj _ => hk_ j ((by have h_ := hj.2; omega)))))); clear HH; have HH := HH_; clear HH_; (try clear od odc odf odl); have od := Aside0.mk hx_; obtain ⟨odc, odf, odl⟩ := cells_of od.out; clear HB hb_ hk_ hx_; have HB := HB_; clear HB_))
  (go_at_call 8; (with_reducible refine (heads_c _).mono ?_); rintro e_ wh ⟨rfl, hb_⟩; have HB_ : Aside0 (Below w.heap.size w wh) := Aside0.mk (below_step (bG HB) hb_); have hzwh := hb_.size; (try simp at hzwh); clear HB hb_; have HB := HB_; clear HB_)
  go_wp2
  go_ret
  exact ⟨rfl, HB.out⟩
set_option maxHeartbeats 1600000 in
set_option maxRecDepth 100000 in
theorem keeps_g (b : Bd) (v : Vs) (at_ size x : Int) (l : List Int) (Y : Int) (w : World) (ok : Nat → Prop) (hF : BF w ok b v) (hsm : (decide (b.ram.length ≤ 70000) && decide (b.i.length ≤ 5000) && decide (b.o.length ≤ 5000)) = true) (hs8 : decide (size < 8) = false) (hin : drawbridgeref07_Inside.f b.ram at_ size = some true) (h1 : inZ at_ 33554432 65536 = false) (h2 : inZ at_ 201326592 4194304 = false) (h3 : inZ at_ 268435456 8 = false) (h4 : inZ at_ 268439552 256 = false) (hw : ram_Write.f b.ram at_ size x = some (l, false)) (hr : ram_Read.f 8 l at_ size = some (Y, false)) : KP b v at_ size x w := by
  have HSM := Aside0.mk hsm
  have HIN := Aside0.mk hin
  have HW := Aside0.mk hw
  have HR := Aside0.mk hr
  have H1 := Aside0.mk h1
  have H2 := Aside0.mk h2
  have H3 := Aside0.mk h3
  have H4 := Aside0.mk h4
  clear hsm hin hw hr h1 h2 h3 h4
  unfold KP
  have HB := Aside0.mk (Below.refl w.heap.size w)
  have HF := Aside0.mk hF.bound
  have hu := Try.underlying36
  clear hF
  go_enter Try.func3, Try.ntmps3
  go_upto_region 1 with fail
  obtain ⟨wa, hwa, on0, hb_, hz0⟩ := letter1 w (.cells (BD b v) 36 (0, 0))
  rw [hwa]
  clear hwa
  have hzwa := Nat.le_of_eq hz0.symm
  clear hz0
  have on := Aside0.mk on0
  clear on0
  obtain ⟨onc, onf, onl⟩ := cells_of on.out
  have HB_ : Aside0 (Below w.heap.size w wa) := ⟨hb_⟩
  have HF_ : Aside0 (BF wa (fun j => j ≠ w.heap.size ∧ j < wa.heap.size) b v) := ⟨(HF.out.below hb_).mono (fun j hj => ⟨by have h_ := hj.2; omega, by have h_ := hj.2; omega⟩)⟩
  clear HB HF hb_; have HB := HB_; have HF := HF_; clear HB_ HF_
  go_wp2_with (first | ((with_reducible refine gate_dst (N := 15) rfl ?_); (try (refine gate_guard (by rfl) ?_; dsimp only)); refine wpList_load_row rfl 36 _ rfl _ (by rfl) _ (BD b v) _ _ (eG on) Try.underlying36 rfl infBoard ?_))
  (go_at_call 6; (with_reducible refine (small_c b v _ _ HF.out true HSM.out).mono ?_); rintro e_ w1 ⟨rfl, hb_⟩; have HB_ : Aside0 (Below w.heap.size w w1) := Aside0.mk (below_step (bG HB) hb_); have hzw1 := hb_.size; (try simp at hzw1); have on_ := Aside0.mk (box_below hb_ (eG on)); (try clear on onc onf onl); have on := on_; clear on_; obtain ⟨onc, onf, onl⟩ := cells_of on.out; have HF_ := Aside0.mk (BF.below (by repeat (with_reducible first | exact HF.out | apply BF.drew | apply BF.drewN | apply BF.alloc)) hb_); clear HF; have HF := HF_; clear HF_; clear HB hb_; have HB := HB_; clear HB_)
  go_wp2_with (first | ((with_reducible refine gate_dst (N := 20) rfl ?_); (try (refine gate_guard (by rfl) ?_; dsimp only)); refine wpList_load_part rfl 24 _ rfl _ 0 (by rfl) #[v.D] (BD b v) _ (eG on) rfl _ Try.underlying24 rfl infRam ?_))
  (go_at_call 7; (with_reducible refine (inside_c b v at_ size true _ _ HF.out HIN.out).mono ?_); rintro e_ w2 ⟨rfl, hb_⟩; have HB_ : Aside0 (Below w.heap.size w w2) := Aside0.mk (below_step (bG HB) hb_); have hzw2 := hb_.size; (try simp at hzw2); have on_ := Aside0.mk (box_below hb_ (eG on)); (try clear on onc onf onl); have on := on_; clear on_; obtain ⟨onc, onf, onl⟩ := cells_of on.out; have HF_ := Aside0.mk (BF.below (by repeat (with_reducible first | exact HF.out | apply BF.drew | apply BF.drewN | apply BF.alloc)) hb_); clear HF; have HF := HF_; clear HF_; clear HB hb_; have HB := HB_; clear HB_)
  go_wp2_with (first | ((with_reducible refine gate_dst (N := 28) rfl ?_); (try (refine gate_guard (by rfl) ?_; dsimp only)); refine wpList_load_row rfl 36 _ rfl _ (by rfl) _ (BD b v) _ _ (eG on) Try.underlying36 rfl infBoard ?_))
  (go_at_call 9; (with_reducible refine (bst_ram b v at_ size x l false _ _ HF.out H1.out H2.out H3.out H4.out HW.out).mono ?_); rintro e_ w3 ⟨v1, rfl, HF2, hb_⟩; have HB_ : Aside0 (Below w.heap.size w w3) := Aside0.mk (below_step (bG HB) hb_); have hzw3 := hb_.size; (try simp at hzw3); clear HB hb_; have HB := HB_; clear HB_; have HF2_ := Aside0.mk HF2; clear HF2; have HF2 := HF2_; clear HF2_; skip)
  have HG_ := Aside0.mk (HF2.out.bound.mono (ok' := fun j => True ∧ j < w3.heap.size) (fun j hj => ⟨trivial, hj.2⟩))
  (try clear HG)
  (try clear HF2)
  have HG := HG_
  clear HG_
  go_wp2_with (first | ((with_reducible refine gate_store (t := 36) (p := 9) (v := .tmp 33) rfl ?_); refine wpList_store_all rfl 36 _ _ rfl rfl _ (BD ({ b with ram := l } : Bd) v1) (by rfl) (by rfl) _ _ (nb_1 _ _) rfl infBoard (HG.out.one) ?_; rintro w4 ⟨hx_, hk_, hb_, hzz_⟩; have HB_ : Aside0 (Below w.heap.size w w4) := Aside0.mk (Below.trans (bG HB) (Below.mono hb_ (by first | omega | (simp only [sz_alloc, sz_drew, sz_drewN]; omega)))); have hzw4 := Nat.le_of_eq hzz_.symm; (try simp at hzw4); clear hzz_; (first | (have HG_ := Aside0.mk (BF.step HG.out (fun j hj _ => hk_ j ((by have h_ := hj.2; omega))))) | (have HG_ := Aside0.mk (BF.step (BF.alloc HG.out _) (fun j hj _ => hk_ j ((by have h_ := hj.2; omega)))))); clear HG; have HG := HG_; clear HG_; (try clear oc occ ocf ocl); have oc := Aside0.mk hx_; obtain ⟨occ, ocf, ocl⟩ := cells_of oc.out; clear HB hb_ hk_ hx_; have HB := HB_; clear HB_) | ((with_reducible refine gate_dst (N := 36) rfl ?_); (try (refine gate_guard (by rfl) ?_; dsimp only)); refine wpList_load_row rfl 36 _ rfl _ (by rfl) _ (BD ({ b with ram := l } : Bd) v1) _ _ (eG oc) Try.underlying36 rfl infBoard ?_))
  (go_at_call 10; (with_reducible refine (bld_ram ({ b with ram := l } : Bd) v1 8 at_ size Y false _ _ HG.out H1.out H2.out H3.out H4.out HR.out).mono ?_); rintro e_ w5 ⟨rfl, HF2, hb_⟩; have HB_ : Aside0 (Below w.heap.size w w5) := Aside0.mk (below_step (bG HB) hb_); have hzw5 := hb_.size; (try simp at hzw5); have oc_ := Aside0.mk (box_below hb_ (eG oc)); (try clear oc occ ocf ocl); have oc := oc_; clear oc_; obtain ⟨occ, ocf, ocl⟩ := cells_of oc.out; have HG_ := Aside0.mk (BF.below (by repeat (with_reducible first | exact HG.out | apply BF.drew | apply BF.drewN | apply BF.alloc)) hb_); clear HG; have HG := HG_; clear HG_; clear HB hb_; have HB := HB_; clear HB_; have HF2_ := Aside0.mk HF2; clear HF2; have HF2 := HF2_; clear HF2_; skip)
  have HH_ := Aside0.mk (HF2.out.bound.mono (ok' := fun j => True ∧ j < w5.heap.size) (fun j hj => ⟨trivial, hj.2⟩))
  (try clear HH)
  (try clear HF2)
  have HH := HH_
  clear HH_
  go_wp2_with (first | ((with_reducible refine gate_store (t := 36) (p := 12) (v := .tmp 41) rfl ?_); refine wpList_store_all rfl 36 _ _ rfl rfl _ (BD ({ b with ram := l } : Bd) v1) (by rfl) (by rfl) _ _ (nb_1 _ _) rfl infBoard (HH.out.one) ?_; rintro w6 ⟨hx_, hk_, hb_, hzz_⟩; have HB_ : Aside0 (Below w.heap.size w w6) := Aside0.mk (Below.trans (bG HB) (Below.mono hb_ (by first | omega | (simp only [sz_alloc, sz_drew, sz_drewN]; omega)))); have hzw6 := Nat.le_of_eq hzz_.symm; (try simp at hzw6); clear hzz_; have oc_ := Aside0.mk (st_put oc.out hk_ (fun h_ => (by repeat (with_reducible first | exact h_ | apply ext_drew | apply ext_drewN | apply ext_alloc | refine blk_far ?_ (by show _ ≠ _; dsimp only; omega) _))) (by omega)); clear oc occ ocf ocl; have oc := oc_; clear oc_; obtain ⟨occ, ocf, ocl⟩ := cells_of oc.out; (first | (have HG_ := Aside0.mk (BF.step HG.out (fun j hj _ => hk_ j ((by have h_ := hj.2; omega))))) | (have HG_ := Aside0.mk (BF.step (BF.alloc HG.out _) (fun j hj _ => hk_ j ((by have h_ := hj.2; omega)))))); clear HG; have HG := HG_; clear HG_; (first | (have HH_ := Aside0.mk (BF.step HH.out (fun j hj _ => hk_ j ((by have h_ := hj.2; omega))))) | (have HH_ := Aside0.mk (BF.step (BF.alloc HH.out _) (fun j hj _ => hk_ j ((by have h_ := hj.2; omega)))))); clear HH; have HH := HH_; clear HH_; (try clear od odc odf odl); have od := Aside0.mk hx_; obtain ⟨odc, odf, odl⟩ := cells_of od.out; clear HB hb_ hk_ hx_; have HB := HB_; clear HB_))
  (go_at_call 8; (with_reducible refine (heads_c _).mono ?_); rintro e_ wh ⟨rfl, hb_⟩; have HB_ : Aside0 (Below w.heap.size w wh) := Aside0.mk (below_step (bG HB) hb_); have hzwh := hb_.size; (try simp at hzwh); clear HB hb_; have HB := HB_; clear HB_)
  go_wp2
  go_ret
  exact ⟨rfl, HB.out⟩
end Go.Proofs.Ytphcckhegfgbgaa.Q
end
section
/- Read (layer 7). -/
set_option linter.unusedVariables false
namespace Go.Proofs.Ytphcckhegfgbgaa.Q
open Go.RowKit Go.Proofs.YtphcckhegfgbgaaW.PrintWords Go.Proofs.YtphcckhegfgbgaaW.PrintLast Go.Proofs.YtphcckhegfgbgaaW.PrintMore Go.Proofs.Ytphcckhegfgbgaa.L
section
variable (l : List Int) (a k : Int) (ha : u64B a) (hk : i64B k) (hl : (l.length : Int) ≤ 70000)
include ha hk hl
theorem read_is (hb : ∀ z ∈ l, byte z) (m : Nat) : ram_Read.f (m + 3) l a k = some (readZ l a k) := by
  have hby := cutL_byte l a k hb
  unfold ram_Read.f readZ
  rw [place_is l a k ha hk (by omega) m, Option.bind_some, align_is, Option.bind_some]
  obtain ⟨k0, k1⟩ := hk
  rcases placeZ_cases l.length a k with ⟨h1, h2, h3, e⟩ | ⟨_, e⟩
  · rw [e]
    have e1 : wrap64 (a - 2147483648 + k) = a - 2147483648 + k := w64 (by omega) (by omega)
    simp only [if_true, e1, true_and]
    cases knownZ k
    · simp
    · simp only [if_true]
      rw [if_pos (by omega), if_pos (by omega), if_pos (by omega)]
      have hg : bits_Get.f ((l.take (a - 2147483648 + k).toNat).drop (a - 2147483648).toNat) false = some (getB (cutL l a k) false) := by
        unfold bits_Get.f; exact if_pos hby
      rw [hg]; rfl
  · rw [e]; simp
end
end Go.Proofs.Ytphcckhegfgbgaa.Q
end
section
/- Layer 13, plain: what is written is read. -/
namespace Go.Proofs.Ytphcckhegfgbgaa.Q
open Go.RowKit Go.Proofs.YtphcckhegfgbgaaW.PrintWords Go.Proofs.YtphcckhegfgbgaaW.PrintLast Go.Proofs.YtphcckhegfgbgaaW.PrintMore Go.Proofs.Ytphcckhegfgbgaa.L
set_option linter.unusedVariables false
theorem getLE_putL (x : Int) (hx : 0 ≤ x) : ∀ n, getLE (putL x n) = x % 256 ^ n
  | 0 => by simp [putL, getLE]
  | n + 1 => by
    have es : putL x (n + 1) = putL x n ++ [x / 2 ^ (8 * n) % 256] := by
      unfold putL; rw [List.range_succ, List.map_append]; rfl
    rw [es, getLE_snoc, getLE_putL x hx n, putL_length, ← pow8]
    have hp : (0 : Int) < 256 ^ n := Int.pow_pos (by decide)
    obtain ⟨X, rfl⟩ := Int.eq_ofNat_of_zero_le hx
    have h := Nat.mod_mul (x := X) (a := 256 ^ n) (b := 256)
    have e : (256 : Int) ^ (n + 1) = ((256 ^ n * 256 : Nat) : Int) := by rw [Int.pow_succ]; simp
    have e2 : ((256 : Nat) : Int) ^ n = ((256 ^ n : Nat) : Int) := by simp
    rw [e, ← Int.natCast_emod, h]
    simp [Int.mul_comm]
theorem putB_len (x n : Int) (big : Bool) : (putB x n big).length = putN n := by
  unfold putB; cases big <;> simp [putL_length]
theorem get_put (x n : Int) (hx : 0 ≤ x) (big : Bool) : getB (putB x n big) big = x % 256 ^ putN n := by
  have h8 := putN_le n
  unfold getB
  rw [List.take_of_length_le (by rw [putB_len]; exact h8)]
  unfold putB
  cases big
  · exact getLE_putL x hx _
  · simp only [if_true, List.reverse_reverse]; exact getLE_putL x hx _
theorem cut_fill (l : List Int) (a : Int) (b : List Int) (h1 : 2147483648 ≤ a) (h3 : a - 2147483648 + (b.length : Int) ≤ l.length) : cutL (splice l (a - 2147483648).toNat b) a b.length = b := by
  unfold cutL splice
  obtain ⟨i, hi⟩ := Int.eq_ofNat_of_zero_le (show 0 ≤ a - 2147483648 by omega)
  rw [hi, Int.toNat_natCast, show ((i : Int) + (b.length : Int)).toNat = i + b.length by omega]
  have t : (l.take i).length = i := by rw [List.length_take]; omega
  rw [← List.append_assoc, List.take_append_of_le_length (by rw [List.length_append, t]; omega), List.take_of_length_le (by rw [List.length_append, t]; omega), List.drop_append_of_le_length (by rw [t]; omega), List.drop_of_length_le (by rw [t]; omega), List.nil_append]
theorem fill_byte (l b : List Int) (i : Nat) (hl : ∀ z ∈ l, byte z) (hb : ∀ z ∈ b, byte z) : ∀ z ∈ splice l i b, byte z := by
  intro z hz
  unfold splice at hz
  rcases List.mem_append.1 hz with h | h
  · exact hl z (List.mem_of_mem_take h)
  · rcases List.mem_append.1 h with h | h
    · exact hb z h
    · exact hl z (List.mem_of_mem_drop h)
theorem inside_is (l : List Int) (a k : Int) (ha : u64B a) (hk : i64B k) (hl : (l.length : Int) ≤ 70000) : drawbridgeref07_Inside.f l a k = some (placeZ l.length a k).2 := by
  obtain ⟨a0, a1⟩ := ha
  obtain ⟨k0, k1⟩ := hk
  unfold drawbridgeref07_Inside.f
  rcases placeZ_cases l.length a k with ⟨h1, h2, h3, e⟩ | ⟨h, e⟩
  · have w1 : IntKind.u64.wrap (a - 2147483648) = a - 2147483648 := by rw [IntKind.wrap_u64]; omega
    have w2 : IntKind.u64.wrap (l.length : Int) = l.length := by rw [IntKind.wrap_u64]; omega
    have w3 : IntKind.u64.wrap k = k := by rw [IntKind.wrap_u64]; omega
    have w4 : IntKind.u64.wrap ((l.length : Int) - (a - 2147483648)) = l.length - (a - 2147483648) := by rw [IntKind.wrap_u64]; omega
    rw [e, if_pos (by omega), if_pos (by omega), w1, w2, w3, w4, if_pos (by omega), decide_eq_true (by omega)]
  · rw [e]
    by_cases h2 : k ≥ 0
    · by_cases h1 : a ≥ 2147483648
      · have w1 : IntKind.u64.wrap (a - 2147483648) = a - 2147483648 := by rw [IntKind.wrap_u64]; omega
        have w2 : IntKind.u64.wrap (l.length : Int) = l.length := by rw [IntKind.wrap_u64]; omega
        have w3 : IntKind.u64.wrap k = k := by rw [IntKind.wrap_u64]; omega
        rw [if_pos h2, if_pos h1, w1, w2, w3]
        by_cases h3 : a - 2147483648 ≤ (l.length : Int)
        · have w4 : IntKind.u64.wrap ((l.length : Int) - (a - 2147483648)) = l.length - (a - 2147483648) := by rw [IntKind.wrap_u64]; omega
          rw [if_pos h3, w4, decide_eq_false (by omega)]
        · rw [if_neg h3]
      · rw [if_pos h2, if_neg h1]
    · rw [if_neg h2]
theorem keep_yes (l : List Int) (a s x : Int) (ha : u64B a) (hs : i64B s) (hl : (l.length : Int) ≤ 70000) (hb : ∀ z ∈ l, byte z) (hx : u64B x) (hp : (placeZ l.length a s).2 = true) (hk : knownZ s = true) :
    ram_Write.f l a s x = some (writeL l a s x, true) ∧ ram_Read.f 8 (writeL l a s x) a s = some (x % 256 ^ putN s, true) := by
  have hs2 : (s = 1 ∨ s = 2) ∨ s = 4 ∨ s = 8 := by
    unfold knownZ at hk
    simp only [Bool.or_eq_true, beq_iff_eq] at hk
    omega
  have hn : (putN s : Int) = s := by
    unfold putN
    split
    · omega
    · split <;> omega
  have hlen : (((putB x s false).length : Nat) : Int) = s := by rw [putB_len, hn]
  rcases placeZ_cases l.length a s with ⟨p1, p2, p3, e⟩ | ⟨_, e⟩
  case inr => rw [e] at hp; cases hp
  have hw : writeK l a s x = true := by unfold writeK; rw [hk, Bool.true_and, hlen]; exact hp
  have e0 : writeL l a s x = splice l (a - 2147483648).toNat (putB x s false) := by
    unfold writeL fillL
    rw [if_pos hk, hlen, e, if_pos rfl]
  have el : (writeL l a s x).length = l.length := writeL_length l a s x
  refine ⟨by unfold ram_Write.f; rw [if_pos ⟨ha, by omega⟩, hw], ?_⟩
  have hb2 : ∀ z ∈ writeL l a s x, byte z := by rw [e0]; exact fill_byte _ _ _ hb (putB_byte x s false)
  rw [read_is (writeL l a s x) a s ha hs (by rw [el]; exact hl) hb2 5]
  unfold readZ
  rw [el, e, if_pos ⟨rfl, hk⟩, e0]
  have hc := cut_fill l a (putB x s false) p1 (by rw [hlen]; exact p3)
  rw [hlen] at hc
  rw [hc, get_put x s hx.1 false]
theorem keep_no (l : List Int) (a s x : Int) (ha : u64B a) (hs : i64B s) (hl : (l.length : Int) ≤ 70000) (hb : ∀ z ∈ l, byte z) (hk : knownZ s = false) :
    ram_Write.f l a s x = some (l, false) ∧ ram_Read.f 8 l a s = some (0, false) := by
  constructor
  · unfold ram_Write.f writeL writeK
    rw [if_pos ⟨ha, by omega⟩, hk, Bool.false_and, if_neg (by decide)]
  · rw [read_is l a s ha hs hl hb 5]
    unfold readZ
    rw [hk, if_neg (by simp)]
end Go.Proofs.Ytphcckhegfgbgaa.Q
end
section
/- Law BusKeeps: the walk. -/
namespace Go.Proofs.Ytphcckhegfgbgaa.Q
open Go.RowKit Go.Proofs.YtphcckhegfgbgaaW.PrintWords Go.Proofs.YtphcckhegfgbgaaW.PrintLast Go.Proofs.YtphcckhegfgbgaaW.PrintMore Go.Proofs.Ytphcckhegfgbgaa.L
attribute [local go_sem] Instr.field part asAgg lt_step max2_int min2_int max_two min_two max_three min_three max_four min_four lt_0_1 lt_0_2 lt_1_2 lt_0_3 lt_1_3 lt_2_3 lt_0_4 lt_1_4 lt_2_4 lt_3_4 lt_0_5 lt_1_5 lt_2_5 lt_3_5 lt_4_5 lt_0_6 lt_1_6 lt_2_6 lt_3_6 lt_4_6 lt_5_6 lt_0_7 lt_1_7 lt_2_7 lt_3_7 lt_4_7 lt_5_7 lt_6_7 lt_0_8 lt_1_8 lt_2_8 lt_3_8 lt_4_8 lt_5_8 lt_6_8 lt_7_8
set_option linter.unusedVariables false
set_option linter.unusedSimpArgs false
def nums13 (a0 a1 a2 a3 a4 a5 a6 a7 a8 a9 a10 a11 a12 : Int) : Nat → Int
  | 0 => a0 | 1 => a1 | 2 => a2 | 3 => a3 | 4 => a4 | 5 => a5 | 6 => a6 | 7 => a7 | 8 => a8 | 9 => a9 | 10 => a10 | 11 => a11 | 12 => a12 | _ => 0
theorem inZ_no (at_ base size hi : Int) (hw : IntKind.u64.wrap (base + size) = hi) (h : 2147483648 ≤ at_) (hh : hi < 2147483648) : inZ at_ base size = false := by
  unfold inZ
  rw [hw, decide_eq_false (show ¬ at_ < hi by omega), Bool.and_false]
theorem keeps_runs (b : Bd) (v : Vs) (at_ size x : Int) (w : World) (ok : Nat → Prop) (hF : BF w ok b v) (ha : u64B at_) (hs : i64B size) (hx : u64B x) (hb : ∀ z ∈ b.ram, byte z) : KP b v at_ size x w := by
  cases hsm : (decide (b.ram.length ≤ 70000) && decide (b.i.length ≤ 5000) && decide (b.o.length ≤ 5000))
  · exact keeps_big b v at_ size x w ok hF hsm
  have hl : (b.ram.length : Int) ≤ 70000 := by
    have h := hsm
    simp only [Bool.and_eq_true, decide_eq_true_eq] at h
    omega
  have hin := inside_is b.ram at_ size ha hs hl
  cases hp : (placeZ b.ram.length at_ size).2
  · rw [hp] at hin; exact keeps_out b v at_ size x w ok hF hsm hin
  rw [hp] at hin
  have h0 : 2147483648 ≤ at_ ∧ 0 ≤ size := by
    rcases placeZ_cases b.ram.length at_ size with ⟨p1, p2, _, _⟩ | ⟨_, e⟩
    · exact ⟨p1, p2⟩
    · rw [e] at hp; cases hp
  have i1 := inZ_no at_ 33554432 65536 33619968 (by decide) h0.1 (by decide)
  have i2 := inZ_no at_ 201326592 4194304 205520896 (by decide) h0.1 (by decide)
  have i3 := inZ_no at_ 268435456 8 268435464 (by decide) h0.1 (by decide)
  have i4 := inZ_no at_ 268439552 256 268439808 (by decide) h0.1 (by decide)
  cases hk : knownZ size
  · obtain ⟨hw, hr⟩ := keep_no b.ram at_ size x ha hs hl hb hk
    by_cases h8 : size < 8
    · have h5 : size = 0 ∨ size = 3 ∨ size = 5 ∨ size = 6 ∨ size = 7 := by
        unfold knownZ at hk
        simp only [Bool.or_eq_false_iff, beq_eq_false_iff_ne] at hk
        omega
      rcases h5 with rfl | rfl | rfl | rfl | rfl
      · exact keeps_0 b v at_ x b.ram 0 w ok hF hsm hin i1 i2 i3 i4 hw hr
      · exact keeps_3 b v at_ x b.ram 0 w ok hF hsm hin i1 i2 i3 i4 hw hr
      · exact keeps_5 b v at_ x b.ram 0 w ok hF hsm hin i1 i2 i3 i4 hw hr
      · exact keeps_6 b v at_ x b.ram 0 w ok hF hsm hin i1 i2 i3 i4 hw hr
      · exact keeps_7 b v at_ x b.ram 0 w ok hF hsm hin i1 i2 i3 i4 hw hr
    · exact keeps_g b v at_ size x b.ram 0 w ok hF hsm (decide_eq_false h8) hin i1 i2 i3 i4 hw hr
  · obtain ⟨hw, hr⟩ := keep_yes b.ram at_ size x ha hs hl hb hx hp hk
    have h4 : size = 1 ∨ size = 2 ∨ size = 4 ∨ size = 8 := by
      unfold knownZ at hk
      simp only [Bool.or_eq_true, beq_iff_eq] at hk
      omega
    have hx0 := hx.1
    have hx1 := hx.2
    rcases h4 with rfl | rfl | rfl | rfl
    · exact keeps_1 b v at_ x _ _ w ok hF hsm hin i1 i2 i3 i4 hw hr (beq_iff_eq.2 (by rw [Int.tmod_eq_emod_of_nonneg hx0]; rfl))
    · exact keeps_2 b v at_ x _ _ w ok hF hsm hin i1 i2 i3 i4 hw hr (beq_iff_eq.2 (by rw [Int.tmod_eq_emod_of_nonneg hx0]; rfl))
    · exact keeps_4 b v at_ x _ _ w ok hF hsm hin i1 i2 i3 i4 hw hr (beq_iff_eq.2 (by rw [Int.tmod_eq_emod_of_nonneg hx0]; rfl))
    · exact keeps_8 b v at_ x _ _ w ok hF hsm hin i1 i2 i3 i4 hw hr (beq_iff_eq.2 (by show x % 18446744073709551616 = x; omega))
def drawbridgelaw13_BusKeeps.f (l0_0 : List Int) (a0_1 : Int) (a0_2 : Int) (a0_3 : Bool) (l0_4 : List Int) (a0_5 : Int) (a0_6 : Int) (l0_7 : List Int) (l0_8 : List Int) (l0_9 : List Int) (l0_10 : List Int) (a0_11 : Int) (a0_12 : Int) (a0_13 : Int) (a0_14 : Int) (a0_15 : Int) (a0_16 : Int) (a0_17 : Int) (a0_18 : Int) (a0_19 : Int) (a0_20 : Int) (a0_21 : Int) (a0_22 : Int) (a0_23 : Int) (a0_24 : Int) (a0_25 : Int) (l0_26 : List Int) (a1 : Int) (a2 : Int) (a3 : Int) : Option Bool := if u64B a1 ∧ (-9223372036854775808 ≤ a2 ∧ a2 ≤ 9223372036854775807) ∧ u64B a3 ∧ (∀ z ∈ l0_0, byte z) then some true else none
theorem drawbridgelaw13_BusKeeps.calls (A0_0 : Option Addr) (c0_0 : Nat) (l0_0 : List Int) (a0_1 : Int) (a0_2 : Int) (a0_3 : Bool) (A0_4 : Option Addr) (c0_4 : Nat) (l0_4 : List Int) (a0_5 : Int) (a0_6 : Int) (A0_7 : Option Addr) (c0_7 : Nat) (l0_7 : List Int) (A0_8 : Option Addr) (c0_8 : Nat) (l0_8 : List Int) (A0_9 : Option Addr) (c0_9 : Nat) (l0_9 : List Int) (A0_10 : Option Addr) (c0_10 : Nat) (l0_10 : List Int) (a0_11 : Int) (a0_12 : Int) (a0_13 : Int) (a0_14 : Int) (a0_15 : Int) (a0_16 : Int) (a0_17 : Int) (a0_18 : Int) (a0_19 : Int) (a0_20 : Int) (a0_21 : Int) (a0_22 : Int) (a0_23 : Int) (a0_24 : Int) (a0_25 : Int) (A0_26 : Option Addr) (c0_26 : Nat) (l0_26 : List Int) (a1 : Int) (a2 : Int) (a3 : Int) (r : Bool) (w : World) (hr0_0 : Kd.C (Kd.int .u8) w A0_0 l0_0.length l0_0) (hc0_0 : l0_0.length ≤ c0_0) (hr0_4 : Kd.C (Kd.int .i64) w A0_4 l0_4.length l0_4) (hc0_4 : l0_4.length ≤ c0_4) (hr0_7 : Kd.C (Kd.int .i64) w A0_7 l0_7.length l0_7) (hc0_7 : l0_7.length ≤ c0_7) (hr0_8 : Kd.C (Kd.int .i64) w A0_8 l0_8.length l0_8) (hc0_8 : l0_8.length ≤ c0_8) (hr0_9 : Kd.C (Kd.int .u8) w A0_9 l0_9.length l0_9) (hc0_9 : l0_9.length ≤ c0_9) (hr0_10 : Kd.C (Kd.int .u8) w A0_10 l0_10.length l0_10) (hc0_10 : l0_10.length ≤ c0_10) (hr0_26 : Kd.C (Kd.int .u8) w A0_26 l0_26.length l0_26) (hc0_26 : l0_26.length ≤ c0_26) (h : drawbridgelaw13_BusKeeps.f l0_0 a0_1 a0_2 a0_3 l0_4 a0_5 a0_6 l0_7 l0_8 l0_9 l0_10 a0_11 a0_12 a0_13 a0_14 a0_15 a0_16 a0_17 a0_18 a0_19 a0_20 a0_21 a0_22 a0_23 a0_24 a0_25 l0_26 a1 a2 a3 = some r) :
    Calls Try.prog 3 #[.agg #[.slice A0_0 l0_0.length c0_0, .int .u64 a0_1, .int .u64 a0_2, .bool a0_3, .slice A0_4 l0_4.length c0_4, .int .i64 a0_5, .int .i64 a0_6, .slice A0_7 l0_7.length c0_7, .slice A0_8 l0_8.length c0_8, .slice A0_9 l0_9.length c0_9, .slice A0_10 l0_10.length c0_10, .int .i64 a0_11, .int .i64 a0_12, .int .i64 a0_13, .int .i64 a0_14, .int .i64 a0_15, .int .u64 a0_16, .int .i64 a0_17, .int .i64 a0_18, .int .i64 a0_19, .int .u64 a0_20, .int .i64 a0_21, .int .i64 a0_22, .int .i64 a0_23, .int .i64 a0_24, .int .i64 a0_25, .slice A0_26 l0_26.length c0_26], .int .u64 a1, .int .i64 a2, .int .u64 a3] w fun e w' => e = .returned (.bool r) ∧ Below w.heap.size w w' := by
  have hF : BF w (fun j => j < w.heap.size) ⟨l0_0, a0_1, a0_2, a0_3, l0_4, a0_5, a0_6, l0_7, l0_8, l0_9, l0_10, a0_11, a0_12, nums13 a0_13 a0_14 a0_15 a0_16 a0_17 a0_18 a0_19 a0_20 a0_21 a0_22 a0_23 a0_24 a0_25, l0_26⟩ ⟨.slice A0_0 l0_0.length c0_0, .slice A0_4 l0_4.length c0_4, .slice A0_7 l0_7.length c0_7, .slice A0_8 l0_8.length c0_8, .slice A0_9 l0_9.length c0_9, .slice A0_10 l0_10.length c0_10, .slice A0_26 l0_26.length c0_26⟩ := ⟨SL.of_C hr0_0 hc0_0, SL.of_C hr0_4 hc0_4, SL.of_C hr0_7 hc0_7, SL.of_C hr0_8 hc0_8, SL.of_C hr0_9 hc0_9, SL.of_C hr0_10 hc0_10, SL.of_C hr0_26 hc0_26⟩
  unfold drawbridgelaw13_BusKeeps.f at h
  split at h
  case isFalse => cases h
  case isTrue hh =>
  injection h with h; subst h
  exact keeps_runs ⟨l0_0, a0_1, a0_2, a0_3, l0_4, a0_5, a0_6, l0_7, l0_8, l0_9, l0_10, a0_11, a0_12, nums13 a0_13 a0_14 a0_15 a0_16 a0_17 a0_18 a0_19 a0_20 a0_21 a0_22 a0_23 a0_24 a0_25, l0_26⟩ ⟨.slice A0_0 l0_0.length c0_0, .slice A0_4 l0_4.length c0_4, .slice A0_7 l0_7.length c0_7, .slice A0_8 l0_8.length c0_8, .slice A0_9 l0_9.length c0_9, .slice A0_10 l0_10.length c0_10, .slice A0_26 l0_26.length c0_26⟩ a1 a2 a3 w _ hF hh.1 hh.2.1 hh.2.2.1 hh.2.2.2
end Go.Proofs.Ytphcckhegfgbgaa.Q
end
section
namespace Go.Proofs.Ytphcckhegfgbgaa.Pure
open Go.RowKit Go.Proofs.Ytphcckhegfgbgaa.Q Go.Proofs.YtphcckhegfgbgaaW.PrintWords Go.Proofs.YtphcckhegfgbgaaW.PrintLast Go.Proofs.YtphcckhegfgbgaaW.PrintMore Go.Proofs.Ytphcckhegfgbgaa.L
/-- The pure statement of BusKeeps: numbers and lists alone. -/
def BusKeeps.Said : Prop := ∀ (l0_0 : List Int) (a0_1 : Int) (a0_2 : Int) (a0_3 : Bool) (l0_4 : List Int) (a0_5 : Int) (a0_6 : Int) (l0_7 : List Int) (l0_8 : List Int) (l0_9 : List Int) (l0_10 : List Int) (a0_11 : Int) (a0_12 : Int) (a0_13 : Int) (a0_14 : Int) (a0_15 : Int) (a0_16 : Int) (a0_17 : Int) (a0_18 : Int) (a0_19 : Int) (a0_20 : Int) (a0_21 : Int) (a0_22 : Int) (a0_23 : Int) (a0_24 : Int) (a0_25 : Int) (l0_26 : List Int) (a1 : Int) (a2 : Int) (a3 : Int), l0_0.length ≤ maxLen → (∀ z ∈ l0_0, (Lit.int .u8 z).wf = true) → (Lit.int .u64 a0_1).wf = true → (Lit.int .u64 a0_2).wf = true → l0_4.length ≤ maxLen → (∀ z ∈ l0_4, (Lit.int .i64 z).wf = true) → (Lit.int .i64 a0_5).wf = true → (Lit.int .i64 a0_6).wf = true → l0_7.length ≤ maxLen → (∀ z ∈ l0_7, (Lit.int .i64 z).wf = true) → l0_8.length ≤ maxLen → (∀ z ∈ l0_8, (Lit.int .i64 z).wf = true) → l0_9.length ≤ maxLen → (∀ z ∈ l0_9, (Lit.int .u8 z).wf = true) → l0_10.length ≤ maxLen → (∀ z ∈ l0_10, (Lit.int .u8 z).wf = true) → (Lit.int .i64 a0_11).wf = true → (Lit.int .i64 a0_12).wf = true → (Lit.int .i64 a0_13).wf = true → (Lit.int .i64 a0_14).wf = true → (Lit.int .i64 a0_15).wf = true → (Lit.int .u64 a0_16).wf = true → (Lit.int .i64 a0_17).wf = true → (Lit.int .i64 a0_18).wf = true → (Lit.int .i64 a0_19).wf = true → (Lit.int .u64 a0_20).wf = true → (Lit.int .i64 a0_21).wf = true → (Lit.int .i64 a0_22).wf = true → (Lit.int .i64 a0_23).wf = true → (Lit.int .i64 a0_24).wf = true → (Lit.int .i64 a0_25).wf = true → l0_26.length ≤ maxLen → (∀ z ∈ l0_26, (Lit.int .u8 z).wf = true) → (Lit.int .u64 a1).wf = true → (Lit.int .i64 a2).wf = true → (Lit.int .u64 a3).wf = true → drawbridgelaw13_BusKeeps.f l0_0 a0_1 a0_2 a0_3 l0_4 a0_5 a0_6 l0_7 l0_8 l0_9 l0_10 a0_11 a0_12 a0_13 a0_14 a0_15 a0_16 a0_17 a0_18 a0_19 a0_20 a0_21 a0_22 a0_23 a0_24 a0_25 l0_26 a1 a2 a3 = some true
end Go.Proofs.Ytphcckhegfgbgaa.Pure
end
section
/- BusKeeps, plain part. -/
namespace Go.Proofs.Ytphcckhegfgbgaa.Pure
open Go.RowKit Go.Proofs.Ytphcckhegfgbgaa.Q Go.Proofs.YtphcckhegfgbgaaW.PrintWords Go.Proofs.YtphcckhegfgbgaaW.PrintLast Go.Proofs.YtphcckhegfgbgaaW.PrintMore Go.Proofs.Ytphcckhegfgbgaa.L
set_option linter.unusedVariables false
theorem BusKeeps : BusKeeps.Said := by
  intro l0_0 a0_1 a0_2 a0_3 l0_4 a0_5 a0_6 l0_7 l0_8 l0_9 l0_10 a0_11 a0_12 a0_13 a0_14 a0_15 a0_16 a0_17 a0_18 a0_19 a0_20 a0_21 a0_22 a0_23 a0_24 a0_25 l0_26 a1 a2 a3 l0 e0 n1 n2 l4 e4 n5 n6 l7 e7 l8 e8 l9 e9 l10 e10 n11 n12 n13 n14 n15 n16 n17 n18 n19 n20 n21 n22 n23 n24 n25 l26 e26 x1 x2 x3
  exact if_pos ⟨u64_wf x1, i64_wf x2, u64_wf x3, fun z hz => byte_wf (e0 z hz)⟩
end Go.Proofs.Ytphcckhegfgbgaa.Pure
end
