import Derived.Test.YtphcckhegfgbgaaPZ1
import Derived.Test.YtphcckhegfgbgaaPZ8
import Derived.Deep.DeepCutAuto
import Derived.RegionTactic
import Derived.BigRegion
section
/- Law BusApart, ram: the walk. -/
namespace Go.Proofs.Ytphcckhegfgbgaa.Q
open Go.RowKit Go.Proofs.YtphcckhegfgbgaaW.PrintWords Go.Proofs.YtphcckhegfgbgaaW.PrintLast Go.Proofs.YtphcckhegfgbgaaW.PrintMore Go.Proofs.Ytphcckhegfgbgaa.L
attribute [local go_sem] Instr.field part asAgg lt_step max2_int min2_int max_two min_two max_three min_three max_four min_four lt_0_1 lt_0_2 lt_1_2 lt_0_3 lt_1_3 lt_2_3 lt_0_4 lt_1_4 lt_2_4 lt_3_4 lt_0_5 lt_1_5 lt_2_5 lt_3_5 lt_4_5 lt_0_6 lt_1_6 lt_2_6 lt_3_6 lt_4_6 lt_5_6 lt_0_7 lt_1_7 lt_2_7 lt_3_7 lt_4_7 lt_5_7 lt_6_7 lt_0_8 lt_1_8 lt_2_8 lt_3_8 lt_4_8 lt_5_8 lt_6_8 lt_7_8
set_option linter.unusedVariables false
set_option linter.unusedSimpArgs false
set_option maxHeartbeats 1600000 in
set_option maxRecDepth 100000 in
theorem apart_ram (b : Bd) (v : Vs) (at_ size x : Int) (l : List Int) (w : World) (ok : Nat → Prop) (hF : BF w ok b v) (hsm : (decide (b.ram.length ≤ 70000) && decide (b.i.length ≤ 5000) && decide (b.o.length ≤ 5000)) = true) (hst : ST b ({ b with ram := l } : Bd) v at_ size x true) (h1 : (decide (33554432 ≤ at_) && decide (at_ < 33619968)) = false) (h2 : (decide (201326592 ≤ at_) && decide (at_ < 205520896)) = false) (h3 : (decide (268435456 ≤ at_) && decide (at_ < 268435464)) = false) (h4 : (decide (268439552 ≤ at_) && decide (at_ < 268439808)) = false) (hlen : ((({ b with ram := l } : Bd).ram.length : Int) == (b.ram.length : Int)) = true) :
    Calls Try.prog 5 #[.agg (BD b v), .int .u64 at_, .int .i64 size, .int .u64 x] w fun e w' => e = .returned (.bool true) ∧ Below w.heap.size w w' := by
  have HSM := Aside0.mk hsm
  unfold ST at hst
  have HST := Aside0.mk hst
  have HLEN := Aside0.mk hlen
  clear hsm hst hlen
  have H1 := Aside0.mk h1
  clear h1
  have H2 := Aside0.mk h2
  clear h2
  have H3 := Aside0.mk h3
  clear h3
  have H4 := Aside0.mk h4
  clear h4
  have HB := Aside0.mk (Below.refl w.heap.size w)
  have HF := Aside0.mk hF.bound
  have hu := Try.underlying36
  clear hF
  go_enter Try.func5, Try.ntmps5
  go_upto_region 1 with fail
  obtain ⟨wa, hwa, on0, hb_, hz0⟩ := letter1 w (.cells (BD b v) 36 (0, 0))
  rw [hwa]
  clear hwa
  have hzwa := Nat.le_of_eq hz0.symm
  clear hz0
  have on := Aside0.mk on0
  clear on0
  obtain ⟨onc, onf, onl⟩ := cells_of on.out
  have HB_ : Aside0 (Below w.heap.size w wa) := ⟨hb_⟩
  have HF_ : Aside0 (BF wa (fun j => j ≠ w.heap.size ∧ j < wa.heap.size) b v) := ⟨(HF.out.below hb_).mono (fun j hj => ⟨by have h_ := hj.2; omega, by have h_ := hj.2; omega⟩)⟩
  clear HB HF hb_; have HB := HB_; have HF := HF_; clear HB_ HF_
  go_wp2_with (first | ((with_reducible refine gate_dst (N := 12) rfl ?_); (try (refine gate_guard (by rfl) ?_; dsimp only)); refine wpList_load_row rfl 36 _ rfl _ (by rfl) _ (BD b v) _ _ (eG on) Try.underlying36 rfl infBoard ?_))
  (go_at_call 6; (with_reducible refine (small_c b v _ _ HF.out true HSM.out).mono ?_); rintro e_ w1 ⟨rfl, hb_⟩; have HB_ : Aside0 (Below w.heap.size w w1) := Aside0.mk (below_step (bG HB) hb_); have hzw1 := hb_.size; (try simp at hzw1); have on_ := Aside0.mk (box_below hb_ (eG on)); (try clear on onc onf onl); have on := on_; clear on_; obtain ⟨onc, onf, onl⟩ := cells_of on.out; have HF_ := Aside0.mk (BF.below (by repeat (with_reducible first | exact HF.out | apply BF.drew | apply BF.drewN | apply BF.alloc)) hb_); clear HF; have HF := HF_; clear HF_; clear HB hb_; have HB := HB_; clear HB_)
  go_wp2_with (first | ((with_reducible refine gate_dst (N := 17) rfl ?_); (try (refine gate_guard (by rfl) ?_; dsimp only)); refine wpList_load_row rfl 36 _ rfl _ (by rfl) _ (BD b v) _ _ (eG on) Try.underlying36 rfl infBoard ?_))
  (go_at_call 9; (with_reducible refine (HST.out _ _ HF.out).mono ?_); rintro e_ w2 ⟨v1, rfl, HF2, hb_⟩; have HB_ : Aside0 (Below w.heap.size w w2) := Aside0.mk (below_step (bG HB) hb_); have hzw2 := hb_.size; (try simp at hzw2); have on_ := Aside0.mk (box_below hb_ (eG on)); (try clear on onc onf onl); have on := on_; clear on_; obtain ⟨onc, onf, onl⟩ := cells_of on.out; have HF_ := Aside0.mk (BF.below (by repeat (with_reducible first | exact HF.out | apply BF.drew | apply BF.drewN | apply BF.alloc)) hb_); clear HF; have HF := HF_; clear HF_; clear HB hb_; have HB := HB_; clear HB_; have HF2_ := Aside0.mk HF2; clear HF2; have HF2 := HF2_; clear HF2_; skip)
  have HG_ := Aside0.mk (HF2.out.bound.mono (ok' := fun j => True ∧ j < w2.heap.size) (fun j hj => ⟨trivial, hj.2⟩))
  (try clear HG)
  (try clear HF2)
  have HG := HG_
  clear HG_
  go_upto_region 8 with (first | ((with_reducible refine gate_store (t := 36) (p := 9) (v := .tmp 22) rfl ?_); refine wpList_store_all rfl 36 _ _ rfl rfl _ (BD ({ b with ram := l } : Bd) v1) (by rfl) (by rfl) _ _ (nb_1 _ _) rfl infBoard (HG.out.one) ?_; rintro w3 ⟨hx_, hk_, hb_, hzz_⟩; have HB_ : Aside0 (Below w.heap.size w w3) := Aside0.mk (Below.trans (bG HB) (Below.mono hb_ (by first | omega | (simp only [sz_alloc, sz_drew, sz_drewN]; omega)))); have hzw3 := Nat.le_of_eq hzz_.symm; (try simp at hzw3); clear hzz_; have on_ := Aside0.mk (st_put on.out hk_ (fun h_ => (by repeat (with_reducible first | exact h_ | apply ext_drew | apply ext_drewN | apply ext_alloc | refine blk_far ?_ (by show _ ≠ _; dsimp only; omega) _))) (by omega)); clear on onc onf onl; have on := on_; clear on_; obtain ⟨onc, onf, onl⟩ := cells_of on.out; (first | (have HG_ := Aside0.mk (BF.step HG.out (fun j hj _ => hk_ j ((by have h_ := hj.2; omega))))) | (have HG_ := Aside0.mk (BF.step (BF.alloc HG.out _) (fun j hj _ => hk_ j ((by have h_ := hj.2; omega)))))); clear HG; have HG := HG_; clear HG_; (first | (have HF_ := Aside0.mk (BF.step HF.out (fun j hj _ => hk_ j ((by have h_ := hj.2; omega))))) | (have HF_ := Aside0.mk (BF.step (BF.alloc HF.out _) (fun j hj _ => hk_ j ((by have h_ := hj.2; omega)))))); clear HF; have HF := HF_; clear HF_; (try clear oc occ ocf ocl); have oc := Aside0.mk hx_; obtain ⟨occ, ocf, ocl⟩ := cells_of oc.out; clear HB hb_ hk_ hx_; have HB := HB_; clear HB_) | ((with_reducible refine gate_dst (N := 32) rfl ?_); (try (refine gate_guard (by rfl) ?_; dsimp only)); refine wpList_load_row rfl 36 _ rfl _ (by rfl) _ (BD b v) _ _ (eG on) Try.underlying36 rfl infBoard ?_) | ((with_reducible refine gate_store (t := 36) (p := 11) (v := .tmp 32) rfl ?_); refine wpList_store_all rfl 36 _ _ rfl rfl _ (BD b v) (by rfl) (by rfl) _ _ (nb_1 _ _) rfl infBoard (HF.out.one) ?_; rintro w4 ⟨hx_, hk_, hb_, hzz_⟩; have HB_ : Aside0 (Below w.heap.size w w4) := Aside0.mk (Below.trans (bG HB) (Below.mono hb_ (by first | omega | (simp only [sz_alloc, sz_drew, sz_drewN]; omega)))); have hzw4 := Nat.le_of_eq hzz_.symm; (try simp at hzw4); clear hzz_; have on_ := Aside0.mk (st_put on.out hk_ (fun h_ => (by repeat (with_reducible first | exact h_ | apply ext_drew | apply ext_drewN | apply ext_alloc | refine blk_far ?_ (by show _ ≠ _; dsimp only; omega) _))) (by omega)); clear on onc onf onl; have on := on_; clear on_; obtain ⟨onc, onf, onl⟩ := cells_of on.out; have oc_ := Aside0.mk (st_put oc.out hk_ (fun h_ => (by repeat (with_reducible first | exact h_ | apply ext_drew | apply ext_drewN | apply ext_alloc | refine blk_far ?_ (by show _ ≠ _; dsimp only; omega) _))) (by omega)); clear oc occ ocf ocl; have oc := oc_; clear oc_; obtain ⟨occ, ocf, ocl⟩ := cells_of oc.out; (first | (have HG_ := Aside0.mk (BF.step HG.out (fun j hj _ => hk_ j ((by have h_ := hj.2; omega))))) | (have HG_ := Aside0.mk (BF.step (BF.alloc HG.out _) (fun j hj _ => hk_ j ((by have h_ := hj.2; omega)))))); clear HG; have HG := HG_; clear HG_; (first | (have HF_ := Aside0.mk (BF.step HF.out (fun j hj _ => hk_ j ((by have h_ := hj.2; omega))))) | (have HF_ := Aside0.mk (BF.step (BF.alloc HF.out _) (fun j hj _ => hk_ j ((by have h_ := hj.2; omega)))))); clear HF; have HF := HF_; clear HF_; (try clear od odc odf odl); have od := Aside0.mk hx_; obtain ⟨odc, odf, odl⟩ := cells_of od.out; clear HB hb_ hk_ hx_; have HB := HB_; clear HB_))
  go_cut [36] (fun v_ wx => v_ = .bool (decide (33554432 ≤ at_) && decide (at_ < 33619968)) ∧ w4 = wx)
  case first =>
    go_wp2_with fail
    all_goals go_meet
    all_goals refine ⟨congrArg Value.bool ?_, rfl⟩
    all_goals (simp [*] <;> (intros; omega))
  case rest =>
  obtain ⟨rfl, hw_⟩ := hcut
  subst hw_
  rw [H1.out]
  go_upto_region 10 with fail
  go_cut [46] (fun v_ wx => v_ = .bool (decide (201326592 ≤ at_) && decide (at_ < 205520896)) ∧ w4 = wx)
  case first =>
    go_wp2_with fail
    all_goals go_meet
    all_goals refine ⟨congrArg Value.bool ?_, rfl⟩
    all_goals (simp [*] <;> (intros; omega))
  case rest =>
  obtain ⟨rfl, hw_⟩ := hcut
  subst hw_
  rw [H2.out]
  go_upto_region 12 with fail
  go_cut [56] (fun v_ wx => v_ = .bool (decide (268435456 ≤ at_) && decide (at_ < 268435464)) ∧ w4 = wx)
  case first =>
    go_wp2_with fail
    all_goals go_meet
    all_goals refine ⟨congrArg Value.bool ?_, rfl⟩
    all_goals (simp [*] <;> (intros; omega))
  case rest =>
  obtain ⟨rfl, hw_⟩ := hcut
  subst hw_
  rw [H3.out]
  go_upto_region 14 with fail
  go_cut [66] (fun v_ wx => v_ = .bool (decide (268439552 ≤ at_) && decide (at_ < 268439808)) ∧ w4 = wx)
  case first =>
    go_wp2_with fail
    all_goals go_meet
    all_goals refine ⟨congrArg Value.bool ?_, rfl⟩
    all_goals (simp [*] <;> (intros; omega))
  case rest =>
  obtain ⟨rfl, hw_⟩ := hcut
  subst hw_
  rw [H4.out]
  have HD : Aside0 (BF w4 (fun j => True ∧ j < w2.heap.size) ({ b with ram := l } : Bd) ({ v with D := v1.D } : Vs)) := ⟨(show BF w4 (fun j => True ∧ j < w2.heap.size) ({ b with ram := l } : Bd) ({ v with D := v1.D } : Vs) from ⟨HG.out.D.mono (fun j hj => ⟨trivial, by have h_ := hj.2; omega⟩), HF.out.p0.mono (fun j hj => ⟨trivial, by have h_ := hj.2; omega⟩), HF.out.p3.mono (fun j hj => ⟨trivial, by have h_ := hj.2; omega⟩), HF.out.p4.mono (fun j hj => ⟨trivial, by have h_ := hj.2; omega⟩), HF.out.u0.mono (fun j hj => ⟨trivial, by have h_ := hj.2; omega⟩), HF.out.u1.mono (fun j hj => ⟨trivial, by have h_ := hj.2; omega⟩), HF.out.M.mono (fun j hj => ⟨trivial, by have h_ := hj.2; omega⟩)⟩)⟩
  obtain ⟨A2, c2, eD2, _, _⟩ := HG.out.D
  obtain ⟨A1, c1, eD1, _, _⟩ := HF.out.D
  have ED2 := Aside0.mk eD2
  have ED1 := Aside0.mk eD1
  clear eD1 eD2
  go_upto_region 16 with (first | ((with_reducible refine gate_dst (N := 34) rfl ?_); (try (refine gate_guard (by rfl) ?_; dsimp only)); refine wpList_load_part rfl 24 _ rfl _ 0 (by rfl) #[v1.D] (BD ({ b with ram := l } : Bd) v1) _ (eG oc) rfl _ Try.underlying24 rfl infRam ?_) | ((with_reducible refine gate_store (t := 24) (p := 35) (v := .tmp 34) rfl ?_); refine wpList_store_part rfl 24 _ _ rfl rfl _ 0 #[v1.D] (by rfl) (by rfl) (BD b v) (BD ({ b with ram := l } : Bd) ({ v with D := v1.D } : Vs)) _ (eG od) (Nat.le_of_ble_eq_true rfl) rfl infRam (by obtain ⟨_, _, e1_, _⟩ := HG.out.D; rw [e1_]; simp [Value.oneCell']) ?_; rintro w5 ⟨hx_, hk_, hb_, hzz_⟩; have HB_ : Aside0 (Below w.heap.size w w5) := Aside0.mk (Below.trans (bG HB) (Below.mono hb_ (by omega))); have hzw5 := Nat.le_of_eq hzz_.symm; (try simp at hzw5); clear hzz_; have on_ := Aside0.mk (st_put on.out hk_ (fun h_ => (by repeat (with_reducible first | exact h_ | apply ext_drew | apply ext_drewN | apply ext_alloc | refine blk_far ?_ (by show _ ≠ _; dsimp only; omega) _))) (by omega)); clear on; (try clear onc onf onl); have on := on_; clear on_; obtain ⟨onc, onf, onl⟩ := cells_of on.out; have oc_ := Aside0.mk (st_put oc.out hk_ (fun h_ => (by repeat (with_reducible first | exact h_ | apply ext_drew | apply ext_drewN | apply ext_alloc | refine blk_far ?_ (by show _ ≠ _; dsimp only; omega) _))) (by omega)); clear oc; (try clear occ ocf ocl); have oc := oc_; clear oc_; obtain ⟨occ, ocf, ocl⟩ := cells_of oc.out; (first | (have HG_ := Aside0.mk (BF.step HG.out (fun j hj _ => hk_ j ((by have h_ := hj.2; omega))))) | (have HG_ := Aside0.mk (BF.step (BF.alloc HG.out _) (fun j hj _ => hk_ j ((by have h_ := hj.2; omega)))))); clear HG; have HG := HG_; clear HG_; (first | (have HF_ := Aside0.mk (BF.step HF.out (fun j hj _ => hk_ j ((by have h_ := hj.2; omega))))) | (have HF_ := Aside0.mk (BF.step (BF.alloc HF.out _) (fun j hj _ => hk_ j ((by have h_ := hj.2; omega)))))); clear HF; have HF := HF_; clear HF_; (first | (have HD_ := Aside0.mk (BF.step HD.out (fun j hj _ => hk_ j ((by have h_ := hj.2; omega))))) | (have HD_ := Aside0.mk (BF.step (BF.alloc HD.out _) (fun j hj _ => hk_ j ((by have h_ := hj.2; omega)))))); clear HD; have HD := HD_; clear HD_; (try clear od odc odf odl); have od := Aside0.mk hx_; obtain ⟨odc, odf, odl⟩ := cells_of od.out; clear HB hb_ hk_ hx_; have HB := HB_; clear HB_))
  go_wp2_with (first | ((with_reducible refine gate_dst (N := 76) rfl ?_); (try (refine gate_guard (by rfl) ?_; dsimp only)); refine wpList_load_row rfl 36 _ rfl _ (by rfl) _ (BD ({ b with ram := l } : Bd) v1) _ _ (eG oc) Try.underlying36 rfl infBoard ?_) | ((with_reducible refine gate_dst (N := 77) rfl ?_); (try (refine gate_guard (by rfl) ?_; dsimp only)); refine wpList_load_row rfl 36 _ rfl _ (by rfl) _ (BD ({ b with ram := l } : Bd) ({ v with D := v1.D } : Vs)) _ _ (eG od) Try.underlying36 rfl infBoard ?_))
  (go_at_call 11; (with_reducible refine (same13_c HG.out HD.out).mono ?_); rintro e_ w6 ⟨rfl, hb_⟩; have HB_ : Aside0 (Below w.heap.size w w6) := Aside0.mk (below_step (bG HB) hb_); have hzw6 := hb_.size; (try simp at hzw6); have on_ := Aside0.mk (box_below hb_ (eG on)); have oc_ := Aside0.mk (box_below hb_ (eG oc)); (try clear on onc onf onl); have on := on_; clear on_; obtain ⟨onc, onf, onl⟩ := cells_of on.out; (try clear oc occ ocf ocl); have oc := oc_; clear oc_; obtain ⟨occ, ocf, ocl⟩ := cells_of oc.out; clear HB hb_; have HB := HB_; clear HB_)
  have hcc : w6.cell? ⟨w2.heap.size, 0, none⟩ = some (.slice A2 ({ b with ram := l } : Bd).ram.length c2) := ((occ 0).trans (show (BD ({ b with ram := l } : Bd) v1)[0]? = some v1.D from rfl)).trans (congrArg some ED2.out)
  have hnc : w6.cell? ⟨w.heap.size, 0, none⟩ = some (.slice A1 b.ram.length c1) := ((onc 0).trans (show (BD b v)[0]? = some v.D from rfl)).trans (congrArg some ED1.out)
  have hlen := HLEN.out
  clear occ onc
  have occ := trivial
  have onc := trivial
  go_wp2_with fail
  (go_at_call 8; (with_reducible refine (heads_c _).mono ?_); rintro e_ wh ⟨rfl, hb_⟩; have HB_ : Aside0 (Below w.heap.size w wh) := Aside0.mk (below_step (bG HB) hb_); have hzwh := hb_.size; (try simp at hzwh); clear HB hb_; have HB := HB_; clear HB_)
  go_wp2
  go_ret
  exact ⟨rfl, HB.out⟩
end Go.Proofs.Ytphcckhegfgbgaa.Q
end
section
/- Law BusApart, clint: the walk. -/
namespace Go.Proofs.Ytphcckhegfgbgaa.Q
open Go.RowKit Go.Proofs.YtphcckhegfgbgaaW.PrintWords Go.Proofs.YtphcckhegfgbgaaW.PrintLast Go.Proofs.YtphcckhegfgbgaaW.PrintMore Go.Proofs.Ytphcckhegfgbgaa.L
attribute [local go_sem] Instr.field part asAgg lt_step max2_int min2_int max_two min_two max_three min_three max_four min_four lt_0_1 lt_0_2 lt_1_2 lt_0_3 lt_1_3 lt_2_3 lt_0_4 lt_1_4 lt_2_4 lt_3_4 lt_0_5 lt_1_5 lt_2_5 lt_3_5 lt_4_5 lt_0_6 lt_1_6 lt_2_6 lt_3_6 lt_4_6 lt_5_6 lt_0_7 lt_1_7 lt_2_7 lt_3_7 lt_4_7 lt_5_7 lt_6_7 lt_0_8 lt_1_8 lt_2_8 lt_3_8 lt_4_8 lt_5_8 lt_6_8 lt_7_8
set_option linter.unusedVariables false
set_option linter.unusedSimpArgs false
set_option maxHeartbeats 1600000 in
set_option maxRecDepth 100000 in
theorem apart_clint (b : Bd) (v : Vs) (at_ size x : Int) (t' k' : Int) (s' : Bool) (w : World) (ok : Nat → Prop) (hF : BF w ok b v) (hsm : (decide (b.ram.length ≤ 70000) && decide (b.i.length ≤ 5000) && decide (b.o.length ≤ 5000)) = true) (hst : ST b ({ b with t := t', k := k', s := s' } : Bd) v at_ size x true) (h1 : (decide (33554432 ≤ at_) && decide (at_ < 33619968)) = true) (hlen : ((({ b with t := t', k := k', s := s' } : Bd).ram.length : Int) == (b.ram.length : Int)) = true) :
    Calls Try.prog 5 #[.agg (BD b v), .int .u64 at_, .int .i64 size, .int .u64 x] w fun e w' => e = .returned (.bool true) ∧ Below w.heap.size w w' := by
  have HSM := Aside0.mk hsm
  unfold ST at hst
  have HST := Aside0.mk hst
  have HLEN := Aside0.mk hlen
  clear hsm hst hlen
  have H1 := Aside0.mk h1
  clear h1
  have HB := Aside0.mk (Below.refl w.heap.size w)
  have HF := Aside0.mk hF.bound
  have hu := Try.underlying36
  clear hF
  go_enter Try.func5, Try.ntmps5
  go_upto_region 1 with fail
  obtain ⟨wa, hwa, on0, hb_, hz0⟩ := letter1 w (.cells (BD b v) 36 (0, 0))
  rw [hwa]
  clear hwa
  have hzwa := Nat.le_of_eq hz0.symm
  clear hz0
  have on := Aside0.mk on0
  clear on0
  obtain ⟨onc, onf, onl⟩ := cells_of on.out
  have HB_ : Aside0 (Below w.heap.size w wa) := ⟨hb_⟩
  have HF_ : Aside0 (BF wa (fun j => j ≠ w.heap.size ∧ j < wa.heap.size) b v) := ⟨(HF.out.below hb_).mono (fun j hj => ⟨by have h_ := hj.2; omega, by have h_ := hj.2; omega⟩)⟩
  clear HB HF hb_; have HB := HB_; have HF := HF_; clear HB_ HF_
  go_wp2_with (first | ((with_reducible refine gate_dst (N := 12) rfl ?_); (try (refine gate_guard (by rfl) ?_; dsimp only)); refine wpList_load_row rfl 36 _ rfl _ (by rfl) _ (BD b v) _ _ (eG on) Try.underlying36 rfl infBoard ?_))
  (go_at_call 6; (with_reducible refine (small_c b v _ _ HF.out true HSM.out).mono ?_); rintro e_ w1 ⟨rfl, hb_⟩; have HB_ : Aside0 (Below w.heap.size w w1) := Aside0.mk (below_step (bG HB) hb_); have hzw1 := hb_.size; (try simp at hzw1); have on_ := Aside0.mk (box_below hb_ (eG on)); (try clear on onc onf onl); have on := on_; clear on_; obtain ⟨onc, onf, onl⟩ := cells_of on.out; have HF_ := Aside0.mk (BF.below (by repeat (with_reducible first | exact HF.out | apply BF.drew | apply BF.drewN | apply BF.alloc)) hb_); clear HF; have HF := HF_; clear HF_; clear HB hb_; have HB := HB_; clear HB_)
  go_wp2_with (first | ((with_reducible refine gate_dst (N := 17) rfl ?_); (try (refine gate_guard (by rfl) ?_; dsimp only)); refine wpList_load_row rfl 36 _ rfl _ (by rfl) _ (BD b v) _ _ (eG on) Try.underlying36 rfl infBoard ?_))
  (go_at_call 9; (with_reducible refine (HST.out _ _ HF.out).mono ?_); rintro e_ w2 ⟨v1, rfl, HF2, hb_⟩; have HB_ : Aside0 (Below w.heap.size w w2) := Aside0.mk (below_step (bG HB) hb_); have hzw2 := hb_.size; (try simp at hzw2); have on_ := Aside0.mk (box_below hb_ (eG on)); (try clear on onc onf onl); have on := on_; clear on_; obtain ⟨onc, onf, onl⟩ := cells_of on.out; have HF_ := Aside0.mk (BF.below (by repeat (with_reducible first | exact HF.out | apply BF.drew | apply BF.drewN | apply BF.alloc)) hb_); clear HF; have HF := HF_; clear HF_; clear HB hb_; have HB := HB_; clear HB_; have HF2_ := Aside0.mk HF2; clear HF2; have HF2 := HF2_; clear HF2_; skip)
  have HG_ := Aside0.mk (HF2.out.bound.mono (ok' := fun j => True ∧ j < w2.heap.size) (fun j hj => ⟨trivial, hj.2⟩))
  (try clear HG)
  (try clear HF2)
  have HG := HG_
  clear HG_
  go_upto_region 8 with (first | ((with_reducible refine gate_store (t := 36) (p := 9) (v := .tmp 22) rfl ?_); refine wpList_store_all rfl 36 _ _ rfl rfl _ (BD ({ b with t := t', k := k', s := s' } : Bd) v1) (by rfl) (by rfl) _ _ (nb_1 _ _) rfl infBoard (HG.out.one) ?_; rintro w3 ⟨hx_, hk_, hb_, hzz_⟩; have HB_ : Aside0 (Below w.heap.size w w3) := Aside0.mk (Below.trans (bG HB) (Below.mono hb_ (by first | omega | (simp only [sz_alloc, sz_drew, sz_drewN]; omega)))); have hzw3 := Nat.le_of_eq hzz_.symm; (try simp at hzw3); clear hzz_; have on_ := Aside0.mk (st_put on.out hk_ (fun h_ => (by repeat (with_reducible first | exact h_ | apply ext_drew | apply ext_drewN | apply ext_alloc | refine blk_far ?_ (by show _ ≠ _; dsimp only; omega) _))) (by omega)); clear on onc onf onl; have on := on_; clear on_; obtain ⟨onc, onf, onl⟩ := cells_of on.out; (first | (have HG_ := Aside0.mk (BF.step HG.out (fun j hj _ => hk_ j ((by have h_ := hj.2; omega))))) | (have HG_ := Aside0.mk (BF.step (BF.alloc HG.out _) (fun j hj _ => hk_ j ((by have h_ := hj.2; omega)))))); clear HG; have HG := HG_; clear HG_; (first | (have HF_ := Aside0.mk (BF.step HF.out (fun j hj _ => hk_ j ((by have h_ := hj.2; omega))))) | (have HF_ := Aside0.mk (BF.step (BF.alloc HF.out _) (fun j hj _ => hk_ j ((by have h_ := hj.2; omega)))))); clear HF; have HF := HF_; clear HF_; (try clear oc occ ocf ocl); have oc := Aside0.mk hx_; obtain ⟨occ, ocf, ocl⟩ := cells_of oc.out; clear HB hb_ hk_ hx_; have HB := HB_; clear HB_) | ((with_reducible refine gate_dst (N := 32) rfl ?_); (try (refine gate_guard (by rfl) ?_; dsimp only)); refine wpList_load_row rfl 36 _ rfl _ (by rfl) _ (BD b v) _ _ (eG on) Try.underlying36 rfl infBoard ?_) | ((with_reducible refine gate_store (t := 36) (p := 11) (v := .tmp 32) rfl ?_); refine wpList_store_all rfl 36 _ _ rfl rfl _ (BD b v) (by rfl) (by rfl) _ _ (nb_1 _ _) rfl infBoard (HF.out.one) ?_; rintro w4 ⟨hx_, hk_, hb_, hzz_⟩; have HB_ : Aside0 (Below w.heap.size w w4) := Aside0.mk (Below.trans (bG HB) (Below.mono hb_ (by first | omega | (simp only [sz_alloc, sz_drew, sz_drewN]; omega)))); have hzw4 := Nat.le_of_eq hzz_.symm; (try simp at hzw4); clear hzz_; have on_ := Aside0.mk (st_put on.out hk_ (fun h_ => (by repeat (with_reducible first | exact h_ | apply ext_drew | apply ext_drewN | apply ext_alloc | refine blk_far ?_ (by show _ ≠ _; dsimp only; omega) _))) (by omega)); clear on onc onf onl; have on := on_; clear on_; obtain ⟨onc, onf, onl⟩ := cells_of on.out; have oc_ := Aside0.mk (st_put oc.out hk_ (fun h_ => (by repeat (with_reducible first | exact h_ | apply ext_drew | apply ext_drewN | apply ext_alloc | refine blk_far ?_ (by show _ ≠ _; dsimp only; omega) _))) (by omega)); clear oc occ ocf ocl; have oc := oc_; clear oc_; obtain ⟨occ, ocf, ocl⟩ := cells_of oc.out; (first | (have HG_ := Aside0.mk (BF.step HG.out (fun j hj _ => hk_ j ((by have h_ := hj.2; omega))))) | (have HG_ := Aside0.mk (BF.step (BF.alloc HG.out _) (fun j hj _ => hk_ j ((by have h_ := hj.2; omega)))))); clear HG; have HG := HG_; clear HG_; (first | (have HF_ := Aside0.mk (BF.step HF.out (fun j hj _ => hk_ j ((by have h_ := hj.2; omega))))) | (have HF_ := Aside0.mk (BF.step (BF.alloc HF.out _) (fun j hj _ => hk_ j ((by have h_ := hj.2; omega)))))); clear HF; have HF := HF_; clear HF_; (try clear od odc odf odl); have od := Aside0.mk hx_; obtain ⟨odc, odf, odl⟩ := cells_of od.out; clear HB hb_ hk_ hx_; have HB := HB_; clear HB_))
  go_cut [36] (fun v_ wx => v_ = .bool (decide (33554432 ≤ at_) && decide (at_ < 33619968)) ∧ w4 = wx)
  case first =>
    go_wp2_with fail
    all_goals go_meet
    all_goals refine ⟨congrArg Value.bool ?_, rfl⟩
    all_goals (simp [*] <;> (intros; omega))
  case rest =>
  obtain ⟨rfl, hw_⟩ := hcut
  subst hw_
  rw [H1.out]
  have HD : Aside0 (BF w4 (fun j => True ∧ j < w2.heap.size) ({ b with t := t', k := k', s := s' } : Bd) v) := ⟨(show BF w4 (fun j => True ∧ j < w2.heap.size) ({ b with t := t', k := k', s := s' } : Bd) v from ⟨HF.out.D.mono (fun j hj => ⟨trivial, by have h_ := hj.2; omega⟩), HF.out.p0.mono (fun j hj => ⟨trivial, by have h_ := hj.2; omega⟩), HF.out.p3.mono (fun j hj => ⟨trivial, by have h_ := hj.2; omega⟩), HF.out.p4.mono (fun j hj => ⟨trivial, by have h_ := hj.2; omega⟩), HF.out.u0.mono (fun j hj => ⟨trivial, by have h_ := hj.2; omega⟩), HF.out.u1.mono (fun j hj => ⟨trivial, by have h_ := hj.2; omega⟩), HF.out.M.mono (fun j hj => ⟨trivial, by have h_ := hj.2; omega⟩)⟩)⟩
  obtain ⟨A2, c2, eD2, _, _⟩ := HG.out.D
  obtain ⟨A1, c1, eD1, _, _⟩ := HF.out.D
  have ED2 := Aside0.mk eD2
  have ED1 := Aside0.mk eD1
  clear eD1 eD2
  go_upto_region 16 with (first | ((with_reducible refine gate_dst (N := 44) rfl ?_); (try (refine gate_guard (by rfl) ?_; dsimp only)); refine wpList_load_part rfl 27 _ rfl _ 1 (by rfl) (Bclint ({ b with t := t', k := k', s := s' } : Bd)) (BD ({ b with t := t', k := k', s := s' } : Bd) v1) _ (eG oc) rfl _ Try.underlying27 rfl infClint ?_) | ((with_reducible refine gate_store (t := 27) (p := 45) (v := .tmp 44) rfl ?_); refine wpList_store_part rfl 27 _ _ rfl rfl _ 1 (Bclint ({ b with t := t', k := k', s := s' } : Bd)) (by rfl) (by rfl) (BD b v) (BD ({ b with t := t', k := k', s := s' } : Bd) v) _ (eG od) (Nat.le_of_ble_eq_true rfl) rfl infClint (by simp [Bclint, Value.oneCell']) ?_; rintro w5 ⟨hx_, hk_, hb_, hzz_⟩; have HB_ : Aside0 (Below w.heap.size w w5) := Aside0.mk (Below.trans (bG HB) (Below.mono hb_ (by omega))); have hzw5 := Nat.le_of_eq hzz_.symm; (try simp at hzw5); clear hzz_; have on_ := Aside0.mk (st_put on.out hk_ (fun h_ => (by repeat (with_reducible first | exact h_ | apply ext_drew | apply ext_drewN | apply ext_alloc | refine blk_far ?_ (by show _ ≠ _; dsimp only; omega) _))) (by omega)); clear on; (try clear onc onf onl); have on := on_; clear on_; obtain ⟨onc, onf, onl⟩ := cells_of on.out; have oc_ := Aside0.mk (st_put oc.out hk_ (fun h_ => (by repeat (with_reducible first | exact h_ | apply ext_drew | apply ext_drewN | apply ext_alloc | refine blk_far ?_ (by show _ ≠ _; dsimp only; omega) _))) (by omega)); clear oc; (try clear occ ocf ocl); have oc := oc_; clear oc_; obtain ⟨occ, ocf, ocl⟩ := cells_of oc.out; (first | (have HG_ := Aside0.mk (BF.step HG.out (fun j hj _ => hk_ j ((by have h_ := hj.2; omega))))) | (have HG_ := Aside0.mk (BF.step (BF.alloc HG.out _) (fun j hj _ => hk_ j ((by have h_ := hj.2; omega)))))); clear HG; have HG := HG_; clear HG_; (first | (have HF_ := Aside0.mk (BF.step HF.out (fun j hj _ => hk_ j ((by have h_ := hj.2; omega))))) | (have HF_ := Aside0.mk (BF.step (BF.alloc HF.out _) (fun j hj _ => hk_ j ((by have h_ := hj.2; omega)))))); clear HF; have HF := HF_; clear HF_; (first | (have HD_ := Aside0.mk (BF.step HD.out (fun j hj _ => hk_ j ((by have h_ := hj.2; omega))))) | (have HD_ := Aside0.mk (BF.step (BF.alloc HD.out _) (fun j hj _ => hk_ j ((by have h_ := hj.2; omega)))))); clear HD; have HD := HD_; clear HD_; (try clear od odc odf odl); have od := Aside0.mk hx_; obtain ⟨odc, odf, odl⟩ := cells_of od.out; clear HB hb_ hk_ hx_; have HB := HB_; clear HB_))
  go_wp2_with (first | ((with_reducible refine gate_dst (N := 76) rfl ?_); (try (refine gate_guard (by rfl) ?_; dsimp only)); refine wpList_load_row rfl 36 _ rfl _ (by rfl) _ (BD ({ b with t := t', k := k', s := s' } : Bd) v1) _ _ (eG oc) Try.underlying36 rfl infBoard ?_) | ((with_reducible refine gate_dst (N := 77) rfl ?_); (try (refine gate_guard (by rfl) ?_; dsimp only)); refine wpList_load_row rfl 36 _ rfl _ (by rfl) _ (BD ({ b with t := t', k := k', s := s' } : Bd) v) _ _ (eG od) Try.underlying36 rfl infBoard ?_))
  (go_at_call 11; (with_reducible refine (same13_c HG.out HD.out).mono ?_); rintro e_ w6 ⟨rfl, hb_⟩; have HB_ : Aside0 (Below w.heap.size w w6) := Aside0.mk (below_step (bG HB) hb_); have hzw6 := hb_.size; (try simp at hzw6); have on_ := Aside0.mk (box_below hb_ (eG on)); have oc_ := Aside0.mk (box_below hb_ (eG oc)); (try clear on onc onf onl); have on := on_; clear on_; obtain ⟨onc, onf, onl⟩ := cells_of on.out; (try clear oc occ ocf ocl); have oc := oc_; clear oc_; obtain ⟨occ, ocf, ocl⟩ := cells_of oc.out; clear HB hb_; have HB := HB_; clear HB_)
  have hcc : w6.cell? ⟨w2.heap.size, 0, none⟩ = some (.slice A2 ({ b with t := t', k := k', s := s' } : Bd).ram.length c2) := ((occ 0).trans (show (BD ({ b with t := t', k := k', s := s' } : Bd) v1)[0]? = some v1.D from rfl)).trans (congrArg some ED2.out)
  have hnc : w6.cell? ⟨w.heap.size, 0, none⟩ = some (.slice A1 b.ram.length c1) := ((onc 0).trans (show (BD b v)[0]? = some v.D from rfl)).trans (congrArg some ED1.out)
  have hlen := HLEN.out
  clear occ onc
  have occ := trivial
  have onc := trivial
  go_wp2_with fail
  (go_at_call 8; (with_reducible refine (heads_c _).mono ?_); rintro e_ wh ⟨rfl, hb_⟩; have HB_ : Aside0 (Below w.heap.size w wh) := Aside0.mk (below_step (bG HB) hb_); have hzwh := hb_.size; (try simp at hzwh); clear HB hb_; have HB := HB_; clear HB_)
  go_wp2
  go_ret
  exact ⟨rfl, HB.out⟩
end Go.Proofs.Ytphcckhegfgbgaa.Q
end
section
/- Law BusApart, plic: the walk. -/
namespace Go.Proofs.Ytphcckhegfgbgaa.Q
open Go.RowKit Go.Proofs.YtphcckhegfgbgaaW.PrintWords Go.Proofs.YtphcckhegfgbgaaW.PrintLast Go.Proofs.YtphcckhegfgbgaaW.PrintMore Go.Proofs.Ytphcckhegfgbgaa.L
attribute [local go_sem] Instr.field part asAgg lt_step max2_int min2_int max_two min_two max_three min_three max_four min_four lt_0_1 lt_0_2 lt_1_2 lt_0_3 lt_1_3 lt_2_3 lt_0_4 lt_1_4 lt_2_4 lt_3_4 lt_0_5 lt_1_5 lt_2_5 lt_3_5 lt_4_5 lt_0_6 lt_1_6 lt_2_6 lt_3_6 lt_4_6 lt_5_6 lt_0_7 lt_1_7 lt_2_7 lt_3_7 lt_4_7 lt_5_7 lt_6_7 lt_0_8 lt_1_8 lt_2_8 lt_3_8 lt_4_8 lt_5_8 lt_6_8 lt_7_8
set_option linter.unusedVariables false
set_option linter.unusedSimpArgs false
set_option maxHeartbeats 1600000 in
set_option maxRecDepth 100000 in
theorem apart_plic (b : Bd) (v : Vs) (at_ size x : Int) (q0 : List Int) (a c : Int) (q3 q4 : List Int) (w : World) (ok : Nat → Prop) (hF : BF w ok b v) (hsm : (decide (b.ram.length ≤ 70000) && decide (b.i.length ≤ 5000) && decide (b.o.length ≤ 5000)) = true) (hst : ST b ({ b with q0 := q0, x := a, y := c, q3 := q3, q4 := q4 } : Bd) v at_ size x true) (h1 : (decide (33554432 ≤ at_) && decide (at_ < 33619968)) = false) (h2 : (decide (201326592 ≤ at_) && decide (at_ < 205520896)) = true) (hlen : ((({ b with q0 := q0, x := a, y := c, q3 := q3, q4 := q4 } : Bd).ram.length : Int) == (b.ram.length : Int)) = true) :
    Calls Try.prog 5 #[.agg (BD b v), .int .u64 at_, .int .i64 size, .int .u64 x] w fun e w' => e = .returned (.bool true) ∧ Below w.heap.size w w' := by
  have HSM := Aside0.mk hsm
  unfold ST at hst
  have HST := Aside0.mk hst
  have HLEN := Aside0.mk hlen
  clear hsm hst hlen
  have H1 := Aside0.mk h1
  clear h1
  have H2 := Aside0.mk h2
  clear h2
  have HB := Aside0.mk (Below.refl w.heap.size w)
  have HF := Aside0.mk hF.bound
  have hu := Try.underlying36
  clear hF
  go_enter Try.func5, Try.ntmps5
  go_upto_region 1 with fail
  obtain ⟨wa, hwa, on0, hb_, hz0⟩ := letter1 w (.cells (BD b v) 36 (0, 0))
  rw [hwa]
  clear hwa
  have hzwa := Nat.le_of_eq hz0.symm
  clear hz0
  have on := Aside0.mk on0
  clear on0
  obtain ⟨onc, onf, onl⟩ := cells_of on.out
  have HB_ : Aside0 (Below w.heap.size w wa) := ⟨hb_⟩
  have HF_ : Aside0 (BF wa (fun j => j ≠ w.heap.size ∧ j < wa.heap.size) b v) := ⟨(HF.out.below hb_).mono (fun j hj => ⟨by have h_ := hj.2; omega, by have h_ := hj.2; omega⟩)⟩
  clear HB HF hb_; have HB := HB_; have HF := HF_; clear HB_ HF_
  go_wp2_with (first | ((with_reducible refine gate_dst (N := 12) rfl ?_); (try (refine gate_guard (by rfl) ?_; dsimp only)); refine wpList_load_row rfl 36 _ rfl _ (by rfl) _ (BD b v) _ _ (eG on) Try.underlying36 rfl infBoard ?_))
  (go_at_call 6; (with_reducible refine (small_c b v _ _ HF.out true HSM.out).mono ?_); rintro e_ w1 ⟨rfl, hb_⟩; have HB_ : Aside0 (Below w.heap.size w w1) := Aside0.mk (below_step (bG HB) hb_); have hzw1 := hb_.size; (try simp at hzw1); have on_ := Aside0.mk (box_below hb_ (eG on)); (try clear on onc onf onl); have on := on_; clear on_; obtain ⟨onc, onf, onl⟩ := cells_of on.out; have HF_ := Aside0.mk (BF.below (by repeat (with_reducible first | exact HF.out | apply BF.drew | apply BF.drewN | apply BF.alloc)) hb_); clear HF; have HF := HF_; clear HF_; clear HB hb_; have HB := HB_; clear HB_)
  go_wp2_with (first | ((with_reducible refine gate_dst (N := 17) rfl ?_); (try (refine gate_guard (by rfl) ?_; dsimp only)); refine wpList_load_row rfl 36 _ rfl _ (by rfl) _ (BD b v) _ _ (eG on) Try.underlying36 rfl infBoard ?_))
  (go_at_call 9; (with_reducible refine (HST.out _ _ HF.out).mono ?_); rintro e_ w2 ⟨v1, rfl, HF2, hb_⟩; have HB_ : Aside0 (Below w.heap.size w w2) := Aside0.mk (below_step (bG HB) hb_); have hzw2 := hb_.size; (try simp at hzw2); have on_ := Aside0.mk (box_below hb_ (eG on)); (try clear on onc onf onl); have on := on_; clear on_; obtain ⟨onc, onf, onl⟩ := cells_of on.out; have HF_ := Aside0.mk (BF.below (by repeat (with_reducible first | exact HF.out | apply BF.drew | apply BF.drewN | apply BF.alloc)) hb_); clear HF; have HF := HF_; clear HF_; clear HB hb_; have HB := HB_; clear HB_; have HF2_ := Aside0.mk HF2; clear HF2; have HF2 := HF2_; clear HF2_; skip)
  have HG_ := Aside0.mk (HF2.out.bound.mono (ok' := fun j => True ∧ j < w2.heap.size) (fun j hj => ⟨trivial, hj.2⟩))
  (try clear HG)
  (try clear HF2)
  have HG := HG_
  clear HG_
  go_upto_region 8 with (first | ((with_reducible refine gate_store (t := 36) (p := 9) (v := .tmp 22) rfl ?_); refine wpList_store_all rfl 36 _ _ rfl rfl _ (BD ({ b with q0 := q0, x := a, y := c, q3 := q3, q4 := q4 } : Bd) v1) (by rfl) (by rfl) _ _ (nb_1 _ _) rfl infBoard (HG.out.one) ?_; rintro w3 ⟨hx_, hk_, hb_, hzz_⟩; have HB_ : Aside0 (Below w.heap.size w w3) := Aside0.mk (Below.trans (bG HB) (Below.mono hb_ (by first | omega | (simp only [sz_alloc, sz_drew, sz_drewN]; omega)))); have hzw3 := Nat.le_of_eq hzz_.symm; (try simp at hzw3); clear hzz_; have on_ := Aside0.mk (st_put on.out hk_ (fun h_ => (by repeat (with_reducible first | exact h_ | apply ext_drew | apply ext_drewN | apply ext_alloc | refine blk_far ?_ (by show _ ≠ _; dsimp only; omega) _))) (by omega)); clear on onc onf onl; have on := on_; clear on_; obtain ⟨onc, onf, onl⟩ := cells_of on.out; (first | (have HG_ := Aside0.mk (BF.step HG.out (fun j hj _ => hk_ j ((by have h_ := hj.2; omega))))) | (have HG_ := Aside0.mk (BF.step (BF.alloc HG.out _) (fun j hj _ => hk_ j ((by have h_ := hj.2; omega)))))); clear HG; have HG := HG_; clear HG_; (first | (have HF_ := Aside0.mk (BF.step HF.out (fun j hj _ => hk_ j ((by have h_ := hj.2; omega))))) | (have HF_ := Aside0.mk (BF.step (BF.alloc HF.out _) (fun j hj _ => hk_ j ((by have h_ := hj.2; omega)))))); clear HF; have HF := HF_; clear HF_; (try clear oc occ ocf ocl); have oc := Aside0.mk hx_; obtain ⟨occ, ocf, ocl⟩ := cells_of oc.out; clear HB hb_ hk_ hx_; have HB := HB_; clear HB_) | ((with_reducible refine gate_dst (N := 32) rfl ?_); (try (refine gate_guard (by rfl) ?_; dsimp only)); refine wpList_load_row rfl 36 _ rfl _ (by rfl) _ (BD b v) _ _ (eG on) Try.underlying36 rfl infBoard ?_) | ((with_reducible refine gate_store (t := 36) (p := 11) (v := .tmp 32) rfl ?_); refine wpList_store_all rfl 36 _ _ rfl rfl _ (BD b v) (by rfl) (by rfl) _ _ (nb_1 _ _) rfl infBoard (HF.out.one) ?_; rintro w4 ⟨hx_, hk_, hb_, hzz_⟩; have HB_ : Aside0 (Below w.heap.size w w4) := Aside0.mk (Below.trans (bG HB) (Below.mono hb_ (by first | omega | (simp only [sz_alloc, sz_drew, sz_drewN]; omega)))); have hzw4 := Nat.le_of_eq hzz_.symm; (try simp at hzw4); clear hzz_; have on_ := Aside0.mk (st_put on.out hk_ (fun h_ => (by repeat (with_reducible first | exact h_ | apply ext_drew | apply ext_drewN | apply ext_alloc | refine blk_far ?_ (by show _ ≠ _; dsimp only; omega) _))) (by omega)); clear on onc onf onl; have on := on_; clear on_; obtain ⟨onc, onf, onl⟩ := cells_of on.out; have oc_ := Aside0.mk (st_put oc.out hk_ (fun h_ => (by repeat (with_reducible first | exact h_ | apply ext_drew | apply ext_drewN | apply ext_alloc | refine blk_far ?_ (by show _ ≠ _; dsimp only; omega) _))) (by omega)); clear oc occ ocf ocl; have oc := oc_; clear oc_; obtain ⟨occ, ocf, ocl⟩ := cells_of oc.out; (first | (have HG_ := Aside0.mk (BF.step HG.out (fun j hj _ => hk_ j ((by have h_ := hj.2; omega))))) | (have HG_ := Aside0.mk (BF.step (BF.alloc HG.out _) (fun j hj _ => hk_ j ((by have h_ := hj.2; omega)))))); clear HG; have HG := HG_; clear HG_; (first | (have HF_ := Aside0.mk (BF.step HF.out (fun j hj _ => hk_ j ((by have h_ := hj.2; omega))))) | (have HF_ := Aside0.mk (BF.step (BF.alloc HF.out _) (fun j hj _ => hk_ j ((by have h_ := hj.2; omega)))))); clear HF; have HF := HF_; clear HF_; (try clear od odc odf odl); have od := Aside0.mk hx_; obtain ⟨odc, odf, odl⟩ := cells_of od.out; clear HB hb_ hk_ hx_; have HB := HB_; clear HB_))
  go_cut [36] (fun v_ wx => v_ = .bool (decide (33554432 ≤ at_) && decide (at_ < 33619968)) ∧ w4 = wx)
  case first =>
    go_wp2_with fail
    all_goals go_meet
    all_goals refine ⟨congrArg Value.bool ?_, rfl⟩
    all_goals (simp [*] <;> (intros; omega))
  case rest =>
  obtain ⟨rfl, hw_⟩ := hcut
  subst hw_
  rw [H1.out]
  go_upto_region 10 with fail
  go_cut [46] (fun v_ wx => v_ = .bool (decide (201326592 ≤ at_) && decide (at_ < 205520896)) ∧ w4 = wx)
  case first =>
    go_wp2_with fail
    all_goals go_meet
    all_goals refine ⟨congrArg Value.bool ?_, rfl⟩
    all_goals (simp [*] <;> (intros; omega))
  case rest =>
  obtain ⟨rfl, hw_⟩ := hcut
  subst hw_
  rw [H2.out]
  have HD : Aside0 (BF w4 (fun j => True ∧ j < w2.heap.size) ({ b with q0 := q0, x := a, y := c, q3 := q3, q4 := q4 } : Bd) ({ v with p0 := v1.p0, p3 := v1.p3, p4 := v1.p4 } : Vs)) := ⟨(show BF w4 (fun j => True ∧ j < w2.heap.size) ({ b with q0 := q0, x := a, y := c, q3 := q3, q4 := q4 } : Bd) ({ v with p0 := v1.p0, p3 := v1.p3, p4 := v1.p4 } : Vs) from ⟨HF.out.D.mono (fun j hj => ⟨trivial, by have h_ := hj.2; omega⟩), HG.out.p0.mono (fun j hj => ⟨trivial, by have h_ := hj.2; omega⟩), HG.out.p3.mono (fun j hj => ⟨trivial, by have h_ := hj.2; omega⟩), HG.out.p4.mono (fun j hj => ⟨trivial, by have h_ := hj.2; omega⟩), HF.out.u0.mono (fun j hj => ⟨trivial, by have h_ := hj.2; omega⟩), HF.out.u1.mono (fun j hj => ⟨trivial, by have h_ := hj.2; omega⟩), HF.out.M.mono (fun j hj => ⟨trivial, by have h_ := hj.2; omega⟩)⟩)⟩
  obtain ⟨A2, c2, eD2, _, _⟩ := HG.out.D
  obtain ⟨A1, c1, eD1, _, _⟩ := HF.out.D
  have ED2 := Aside0.mk eD2
  have ED1 := Aside0.mk eD1
  clear eD1 eD2
  go_upto_region 16 with (first | ((with_reducible refine gate_dst (N := 54) rfl ?_); (try (refine gate_guard (by rfl) ?_; dsimp only)); refine wpList_load_part rfl 30 _ rfl _ 4 (by rfl) (Bplic ({ b with q0 := q0, x := a, y := c, q3 := q3, q4 := q4 } : Bd) v1) (BD ({ b with q0 := q0, x := a, y := c, q3 := q3, q4 := q4 } : Bd) v1) _ (eG oc) rfl _ Try.underlying30 rfl infPlic ?_) | ((with_reducible refine gate_store (t := 30) (p := 55) (v := .tmp 54) rfl ?_); refine wpList_store_part rfl 30 _ _ rfl rfl _ 4 (Bplic ({ b with q0 := q0, x := a, y := c, q3 := q3, q4 := q4 } : Bd) v1) (by rfl) (by rfl) (BD b v) (BD ({ b with q0 := q0, x := a, y := c, q3 := q3, q4 := q4 } : Bd) ({ v with p0 := v1.p0, p3 := v1.p3, p4 := v1.p4 } : Vs)) _ (eG od) (Nat.le_of_ble_eq_true rfl) rfl infPlic (by obtain ⟨_, _, e1_, _⟩ := HG.out.p0; obtain ⟨_, _, e2_, _⟩ := HG.out.p3; obtain ⟨_, _, e3_, _⟩ := HG.out.p4; unfold Bplic; rw [e1_, e2_, e3_]; simp [Value.oneCell']) ?_; rintro w5 ⟨hx_, hk_, hb_, hzz_⟩; have HB_ : Aside0 (Below w.heap.size w w5) := Aside0.mk (Below.trans (bG HB) (Below.mono hb_ (by omega))); have hzw5 := Nat.le_of_eq hzz_.symm; (try simp at hzw5); clear hzz_; have on_ := Aside0.mk (st_put on.out hk_ (fun h_ => (by repeat (with_reducible first | exact h_ | apply ext_drew | apply ext_drewN | apply ext_alloc | refine blk_far ?_ (by show _ ≠ _; dsimp only; omega) _))) (by omega)); clear on; (try clear onc onf onl); have on := on_; clear on_; obtain ⟨onc, onf, onl⟩ := cells_of on.out; have oc_ := Aside0.mk (st_put oc.out hk_ (fun h_ => (by repeat (with_reducible first | exact h_ | apply ext_drew | apply ext_drewN | apply ext_alloc | refine blk_far ?_ (by show _ ≠ _; dsimp only; omega) _))) (by omega)); clear oc; (try clear occ ocf ocl); have oc := oc_; clear oc_; obtain ⟨occ, ocf, ocl⟩ := cells_of oc.out; (first | (have HG_ := Aside0.mk (BF.step HG.out (fun j hj _ => hk_ j ((by have h_ := hj.2; omega))))) | (have HG_ := Aside0.mk (BF.step (BF.alloc HG.out _) (fun j hj _ => hk_ j ((by have h_ := hj.2; omega)))))); clear HG; have HG := HG_; clear HG_; (first | (have HF_ := Aside0.mk (BF.step HF.out (fun j hj _ => hk_ j ((by have h_ := hj.2; omega))))) | (have HF_ := Aside0.mk (BF.step (BF.alloc HF.out _) (fun j hj _ => hk_ j ((by have h_ := hj.2; omega)))))); clear HF; have HF := HF_; clear HF_; (first | (have HD_ := Aside0.mk (BF.step HD.out (fun j hj _ => hk_ j ((by have h_ := hj.2; omega))))) | (have HD_ := Aside0.mk (BF.step (BF.alloc HD.out _) (fun j hj _ => hk_ j ((by have h_ := hj.2; omega)))))); clear HD; have HD := HD_; clear HD_; (try clear od odc odf odl); have od := Aside0.mk hx_; obtain ⟨odc, odf, odl⟩ := cells_of od.out; clear HB hb_ hk_ hx_; have HB := HB_; clear HB_))
  go_wp2_with (first | ((with_reducible refine gate_dst (N := 76) rfl ?_); (try (refine gate_guard (by rfl) ?_; dsimp only)); refine wpList_load_row rfl 36 _ rfl _ (by rfl) _ (BD ({ b with q0 := q0, x := a, y := c, q3 := q3, q4 := q4 } : Bd) v1) _ _ (eG oc) Try.underlying36 rfl infBoard ?_) | ((with_reducible refine gate_dst (N := 77) rfl ?_); (try (refine gate_guard (by rfl) ?_; dsimp only)); refine wpList_load_row rfl 36 _ rfl _ (by rfl) _ (BD ({ b with q0 := q0, x := a, y := c, q3 := q3, q4 := q4 } : Bd) ({ v with p0 := v1.p0, p3 := v1.p3, p4 := v1.p4 } : Vs)) _ _ (eG od) Try.underlying36 rfl infBoard ?_))
  (go_at_call 11; (with_reducible refine (same13_c HG.out HD.out).mono ?_); rintro e_ w6 ⟨rfl, hb_⟩; have HB_ : Aside0 (Below w.heap.size w w6) := Aside0.mk (below_step (bG HB) hb_); have hzw6 := hb_.size; (try simp at hzw6); have on_ := Aside0.mk (box_below hb_ (eG on)); have oc_ := Aside0.mk (box_below hb_ (eG oc)); (try clear on onc onf onl); have on := on_; clear on_; obtain ⟨onc, onf, onl⟩ := cells_of on.out; (try clear oc occ ocf ocl); have oc := oc_; clear oc_; obtain ⟨occ, ocf, ocl⟩ := cells_of oc.out; clear HB hb_; have HB := HB_; clear HB_)
  have hcc : w6.cell? ⟨w2.heap.size, 0, none⟩ = some (.slice A2 ({ b with q0 := q0, x := a, y := c, q3 := q3, q4 := q4 } : Bd).ram.length c2) := ((occ 0).trans (show (BD ({ b with q0 := q0, x := a, y := c, q3 := q3, q4 := q4 } : Bd) v1)[0]? = some v1.D from rfl)).trans (congrArg some ED2.out)
  have hnc : w6.cell? ⟨w.heap.size, 0, none⟩ = some (.slice A1 b.ram.length c1) := ((onc 0).trans (show (BD b v)[0]? = some v.D from rfl)).trans (congrArg some ED1.out)
  have hlen := HLEN.out
  clear occ onc
  have occ := trivial
  have onc := trivial
  go_wp2_with fail
  (go_at_call 8; (with_reducible refine (heads_c _).mono ?_); rintro e_ wh ⟨rfl, hb_⟩; have HB_ : Aside0 (Below w.heap.size w wh) := Aside0.mk (below_step (bG HB) hb_); have hzwh := hb_.size; (try simp at hzwh); clear HB hb_; have HB := HB_; clear HB_)
  go_wp2
  go_ret
  exact ⟨rfl, HB.out⟩
end Go.Proofs.Ytphcckhegfgbgaa.Q
end
section
/- Law BusApart, uart: the walk. -/
namespace Go.Proofs.Ytphcckhegfgbgaa.Q
open Go.RowKit Go.Proofs.YtphcckhegfgbgaaW.PrintWords Go.Proofs.YtphcckhegfgbgaaW.PrintLast Go.Proofs.YtphcckhegfgbgaaW.PrintMore Go.Proofs.Ytphcckhegfgbgaa.L
attribute [local go_sem] Instr.field part asAgg lt_step max2_int min2_int max_two min_two max_three min_three max_four min_four lt_0_1 lt_0_2 lt_1_2 lt_0_3 lt_1_3 lt_2_3 lt_0_4 lt_1_4 lt_2_4 lt_3_4 lt_0_5 lt_1_5 lt_2_5 lt_3_5 lt_4_5 lt_0_6 lt_1_6 lt_2_6 lt_3_6 lt_4_6 lt_5_6 lt_0_7 lt_1_7 lt_2_7 lt_3_7 lt_4_7 lt_5_7 lt_6_7 lt_0_8 lt_1_8 lt_2_8 lt_3_8 lt_4_8 lt_5_8 lt_6_8 lt_7_8
set_option linter.unusedVariables false
set_option linter.unusedSimpArgs false
set_option maxHeartbeats 1600000 in
set_option maxRecDepth 100000 in
theorem apart_uart (b : Bd) (v : Vs) (at_ size x : Int) (i o : List Int) (a c : Int) (w : World) (ok : Nat → Prop) (hF : BF w ok b v) (hsm : (decide (b.ram.length ≤ 70000) && decide (b.i.length ≤ 5000) && decide (b.o.length ≤ 5000)) = true) (hst : ST b ({ b with i := i, o := o, ie := a, lo := c } : Bd) v at_ size x true) (h1 : (decide (33554432 ≤ at_) && decide (at_ < 33619968)) = false) (h2 : (decide (201326592 ≤ at_) && decide (at_ < 205520896)) = false) (h3 : (decide (268435456 ≤ at_) && decide (at_ < 268435464)) = true) (hlen : ((({ b with i := i, o := o, ie := a, lo := c } : Bd).ram.length : Int) == (b.ram.length : Int)) = true) :
    Calls Try.prog 5 #[.agg (BD b v), .int .u64 at_, .int .i64 size, .int .u64 x] w fun e w' => e = .returned (.bool true) ∧ Below w.heap.size w w' := by
  have HSM := Aside0.mk hsm
  unfold ST at hst
  have HST := Aside0.mk hst
  have HLEN := Aside0.mk hlen
  clear hsm hst hlen
  have H1 := Aside0.mk h1
  clear h1
  have H2 := Aside0.mk h2
  clear h2
  have H3 := Aside0.mk h3
  clear h3
  have HB := Aside0.mk (Below.refl w.heap.size w)
  have HF := Aside0.mk hF.bound
  have hu := Try.underlying36
  clear hF
  go_enter Try.func5, Try.ntmps5
  go_upto_region 1 with fail
  obtain ⟨wa, hwa, on0, hb_, hz0⟩ := letter1 w (.cells (BD b v) 36 (0, 0))
  rw [hwa]
  clear hwa
  have hzwa := Nat.le_of_eq hz0.symm
  clear hz0
  have on := Aside0.mk on0
  clear on0
  obtain ⟨onc, onf, onl⟩ := cells_of on.out
  have HB_ : Aside0 (Below w.heap.size w wa) := ⟨hb_⟩
  have HF_ : Aside0 (BF wa (fun j => j ≠ w.heap.size ∧ j < wa.heap.size) b v) := ⟨(HF.out.below hb_).mono (fun j hj => ⟨by have h_ := hj.2; omega, by have h_ := hj.2; omega⟩)⟩
  clear HB HF hb_; have HB := HB_; have HF := HF_; clear HB_ HF_
  go_wp2_with (first | ((with_reducible refine gate_dst (N := 12) rfl ?_); (try (refine gate_guard (by rfl) ?_; dsimp only)); refine wpList_load_row rfl 36 _ rfl _ (by rfl) _ (BD b v) _ _ (eG on) Try.underlying36 rfl infBoard ?_))
  (go_at_call 6; (with_reducible refine (small_c b v _ _ HF.out true HSM.out).mono ?_); rintro e_ w1 ⟨rfl, hb_⟩; have HB_ : Aside0 (Below w.heap.size w w1) := Aside0.mk (below_step (bG HB) hb_); have hzw1 := hb_.size; (try simp at hzw1); have on_ := Aside0.mk (box_below hb_ (eG on)); (try clear on onc onf onl); have on := on_; clear on_; obtain ⟨onc, onf, onl⟩ := cells_of on.out; have HF_ := Aside0.mk (BF.below (by repeat (with_reducible first | exact HF.out | apply BF.drew | apply BF.drewN | apply BF.alloc)) hb_); clear HF; have HF := HF_; clear HF_; clear HB hb_; have HB := HB_; clear HB_)
  go_wp2_with (first | ((with_reducible refine gate_dst (N := 17) rfl ?_); (try (refine gate_guard (by rfl) ?_; dsimp only)); refine wpList_load_row rfl 36 _ rfl _ (by rfl) _ (BD b v) _ _ (eG on) Try.underlying36 rfl infBoard ?_))
  (go_at_call 9; (with_reducible refine (HST.out _ _ HF.out).mono ?_); rintro e_ w2 ⟨v1, rfl, HF2, hb_⟩; have HB_ : Aside0 (Below w.heap.size w w2) := Aside0.mk (below_step (bG HB) hb_); have hzw2 := hb_.size; (try simp at hzw2); have on_ := Aside0.mk (box_below hb_ (eG on)); (try clear on onc onf onl); have on := on_; clear on_; obtain ⟨onc, onf, onl⟩ := cells_of on.out; have HF_ := Aside0.mk (BF.below (by repeat (with_reducible first | exact HF.out | apply BF.drew | apply BF.drewN | apply BF.alloc)) hb_); clear HF; have HF := HF_; clear HF_; clear HB hb_; have HB := HB_; clear HB_; have HF2_ := Aside0.mk HF2; clear HF2; have HF2 := HF2_; clear HF2_; skip)
  have HG_ := Aside0.mk (HF2.out.bound.mono (ok' := fun j => True ∧ j < w2.heap.size) (fun j hj => ⟨trivial, hj.2⟩))
  (try clear HG)
  (try clear HF2)
  have HG := HG_
  clear HG_
  go_upto_region 8 with (first | ((with_reducible refine gate_store (t := 36) (p := 9) (v := .tmp 22) rfl ?_); refine wpList_store_all rfl 36 _ _ rfl rfl _ (BD ({ b with i := i, o := o, ie := a, lo := c } : Bd) v1) (by rfl) (by rfl) _ _ (nb_1 _ _) rfl infBoard (HG.out.one) ?_; rintro w3 ⟨hx_, hk_, hb_, hzz_⟩; have HB_ : Aside0 (Below w.heap.size w w3) := Aside0.mk (Below.trans (bG HB) (Below.mono hb_ (by first | omega | (simp only [sz_alloc, sz_drew, sz_drewN]; omega)))); have hzw3 := Nat.le_of_eq hzz_.symm; (try simp at hzw3); clear hzz_; have on_ := Aside0.mk (st_put on.out hk_ (fun h_ => (by repeat (with_reducible first | exact h_ | apply ext_drew | apply ext_drewN | apply ext_alloc | refine blk_far ?_ (by show _ ≠ _; dsimp only; omega) _))) (by omega)); clear on onc onf onl; have on := on_; clear on_; obtain ⟨onc, onf, onl⟩ := cells_of on.out; (first | (have HG_ := Aside0.mk (BF.step HG.out (fun j hj _ => hk_ j ((by have h_ := hj.2; omega))))) | (have HG_ := Aside0.mk (BF.step (BF.alloc HG.out _) (fun j hj _ => hk_ j ((by have h_ := hj.2; omega)))))); clear HG; have HG := HG_; clear HG_; (first | (have HF_ := Aside0.mk (BF.step HF.out (fun j hj _ => hk_ j ((by have h_ := hj.2; omega))))) | (have HF_ := Aside0.mk (BF.step (BF.alloc HF.out _) (fun j hj _ => hk_ j ((by have h_ := hj.2; omega)))))); clear HF; have HF := HF_; clear HF_; (try clear oc occ ocf ocl); have oc := Aside0.mk hx_; obtain ⟨occ, ocf, ocl⟩ := cells_of oc.out; clear HB hb_ hk_ hx_; have HB := HB_; clear HB_) | ((with_reducible refine gate_dst (N := 32) rfl ?_); (try (refine gate_guard (by rfl) ?_; dsimp only)); refine wpList_load_row rfl 36 _ rfl _ (by rfl) _ (BD b v) _ _ (eG on) Try.underlying36 rfl infBoard ?_) | ((with_reducible refine gate_store (t := 36) (p := 11) (v := .tmp 32) rfl ?_); refine wpList_store_all rfl 36 _ _ rfl rfl _ (BD b v) (by rfl) (by rfl) _ _ (nb_1 _ _) rfl infBoard (HF.out.one) ?_; rintro w4 ⟨hx_, hk_, hb_, hzz_⟩; have HB_ : Aside0 (Below w.heap.size w w4) := Aside0.mk (Below.trans (bG HB) (Below.mono hb_ (by first | omega | (simp only [sz_alloc, sz_drew, sz_drewN]; omega)))); have hzw4 := Nat.le_of_eq hzz_.symm; (try simp at hzw4); clear hzz_; have on_ := Aside0.mk (st_put on.out hk_ (fun h_ => (by repeat (with_reducible first | exact h_ | apply ext_drew | apply ext_drewN | apply ext_alloc | refine blk_far ?_ (by show _ ≠ _; dsimp only; omega) _))) (by omega)); clear on onc onf onl; have on := on_; clear on_; obtain ⟨onc, onf, onl⟩ := cells_of on.out; have oc_ := Aside0.mk (st_put oc.out hk_ (fun h_ => (by repeat (with_reducible first | exact h_ | apply ext_drew | apply ext_drewN | apply ext_alloc | refine blk_far ?_ (by show _ ≠ _; dsimp only; omega) _))) (by omega)); clear oc occ ocf ocl; have oc := oc_; clear oc_; obtain ⟨occ, ocf, ocl⟩ := cells_of oc.out; (first | (have HG_ := Aside0.mk (BF.step HG.out (fun j hj _ => hk_ j ((by have h_ := hj.2; omega))))) | (have HG_ := Aside0.mk (BF.step (BF.alloc HG.out _) (fun j hj _ => hk_ j ((by have h_ := hj.2; omega)))))); clear HG; have HG := HG_; clear HG_; (first | (have HF_ := Aside0.mk (BF.step HF.out (fun j hj _ => hk_ j ((by have h_ := hj.2; omega))))) | (have HF_ := Aside0.mk (BF.step (BF.alloc HF.out _) (fun j hj _ => hk_ j ((by have h_ := hj.2; omega)))))); clear HF; have HF := HF_; clear HF_; (try clear od odc odf odl); have od := Aside0.mk hx_; obtain ⟨odc, odf, odl⟩ := cells_of od.out; clear HB hb_ hk_ hx_; have HB := HB_; clear HB_))
  go_cut [36] (fun v_ wx => v_ = .bool (decide (33554432 ≤ at_) && decide (at_ < 33619968)) ∧ w4 = wx)
  case first =>
    go_wp2_with fail
    all_goals go_meet
    all_goals refine ⟨congrArg Value.bool ?_, rfl⟩
    all_goals (simp [*] <;> (intros; omega))
  case rest =>
  obtain ⟨rfl, hw_⟩ := hcut
  subst hw_
  rw [H1.out]
  go_upto_region 10 with fail
  go_cut [46] (fun v_ wx => v_ = .bool (decide (201326592 ≤ at_) && decide (at_ < 205520896)) ∧ w4 = wx)
  case first =>
    go_wp2_with fail
    all_goals go_meet
    all_goals refine ⟨congrArg Value.bool ?_, rfl⟩
    all_goals (simp [*] <;> (intros; omega))
  case rest =>
  obtain ⟨rfl, hw_⟩ := hcut
  subst hw_
  rw [H2.out]
  go_upto_region 12 with fail
  go_cut [56] (fun v_ wx => v_ = .bool (decide (268435456 ≤ at_) && decide (at_ < 268435464)) ∧ w4 = wx)
  case first =>
    go_wp2_with fail
    all_goals go_meet
    all_goals refine ⟨congrArg Value.bool ?_, rfl⟩
    all_goals (simp [*] <;> (intros; omega))
  case rest =>
  obtain ⟨rfl, hw_⟩ := hcut
  subst hw_
  rw [H3.out]
  have HD : Aside0 (BF w4 (fun j => True ∧ j < w2.heap.size) ({ b with i := i, o := o, ie := a, lo := c } : Bd) ({ v with u0 := v1.u0, u1 := v1.u1 } : Vs)) := ⟨(show BF w4 (fun j => True ∧ j < w2.heap.size) ({ b with i := i, o := o, ie := a, lo := c } : Bd) ({ v with u0 := v1.u0, u1 := v1.u1 } : Vs) from ⟨HF.out.D.mono (fun j hj => ⟨trivial, by have h_ := hj.2; omega⟩), HF.out.p0.mono (fun j hj => ⟨trivial, by have h_ := hj.2; omega⟩), HF.out.p3.mono (fun j hj => ⟨trivial, by have h_ := hj.2; omega⟩), HF.out.p4.mono (fun j hj => ⟨trivial, by have h_ := hj.2; omega⟩), HG.out.u0.mono (fun j hj => ⟨trivial, by have h_ := hj.2; omega⟩), HG.out.u1.mono (fun j hj => ⟨trivial, by have h_ := hj.2; omega⟩), HF.out.M.mono (fun j hj => ⟨trivial, by have h_ := hj.2; omega⟩)⟩)⟩
  obtain ⟨A2, c2, eD2, _, _⟩ := HG.out.D
  obtain ⟨A1, c1, eD1, _, _⟩ := HF.out.D
  have ED2 := Aside0.mk eD2
  have ED1 := Aside0.mk eD1
  clear eD1 eD2
  go_upto_region 16 with (first | ((with_reducible refine gate_dst (N := 64) rfl ?_); (try (refine gate_guard (by rfl) ?_; dsimp only)); refine wpList_load_part rfl 32 _ rfl _ 9 (by rfl) (Buart ({ b with i := i, o := o, ie := a, lo := c } : Bd) v1) (BD ({ b with i := i, o := o, ie := a, lo := c } : Bd) v1) _ (eG oc) rfl _ Try.underlying32 rfl infUart ?_) | ((with_reducible refine gate_store (t := 32) (p := 65) (v := .tmp 64) rfl ?_); refine wpList_store_part rfl 32 _ _ rfl rfl _ 9 (Buart ({ b with i := i, o := o, ie := a, lo := c } : Bd) v1) (by rfl) (by rfl) (BD b v) (BD ({ b with i := i, o := o, ie := a, lo := c } : Bd) ({ v with u0 := v1.u0, u1 := v1.u1 } : Vs)) _ (eG od) (Nat.le_of_ble_eq_true rfl) rfl infUart (by obtain ⟨_, _, e1_, _⟩ := HG.out.u0; obtain ⟨_, _, e2_, _⟩ := HG.out.u1; unfold Buart; rw [e1_, e2_]; simp [Value.oneCell']) ?_; rintro w5 ⟨hx_, hk_, hb_, hzz_⟩; have HB_ : Aside0 (Below w.heap.size w w5) := Aside0.mk (Below.trans (bG HB) (Below.mono hb_ (by omega))); have hzw5 := Nat.le_of_eq hzz_.symm; (try simp at hzw5); clear hzz_; have on_ := Aside0.mk (st_put on.out hk_ (fun h_ => (by repeat (with_reducible first | exact h_ | apply ext_drew | apply ext_drewN | apply ext_alloc | refine blk_far ?_ (by show _ ≠ _; dsimp only; omega) _))) (by omega)); clear on; (try clear onc onf onl); have on := on_; clear on_; obtain ⟨onc, onf, onl⟩ := cells_of on.out; have oc_ := Aside0.mk (st_put oc.out hk_ (fun h_ => (by repeat (with_reducible first | exact h_ | apply ext_drew | apply ext_drewN | apply ext_alloc | refine blk_far ?_ (by show _ ≠ _; dsimp only; omega) _))) (by omega)); clear oc; (try clear occ ocf ocl); have oc := oc_; clear oc_; obtain ⟨occ, ocf, ocl⟩ := cells_of oc.out; (first | (have HG_ := Aside0.mk (BF.step HG.out (fun j hj _ => hk_ j ((by have h_ := hj.2; omega))))) | (have HG_ := Aside0.mk (BF.step (BF.alloc HG.out _) (fun j hj _ => hk_ j ((by have h_ := hj.2; omega)))))); clear HG; have HG := HG_; clear HG_; (first | (have HF_ := Aside0.mk (BF.step HF.out (fun j hj _ => hk_ j ((by have h_ := hj.2; omega))))) | (have HF_ := Aside0.mk (BF.step (BF.alloc HF.out _) (fun j hj _ => hk_ j ((by have h_ := hj.2; omega)))))); clear HF; have HF := HF_; clear HF_; (first | (have HD_ := Aside0.mk (BF.step HD.out (fun j hj _ => hk_ j ((by have h_ := hj.2; omega))))) | (have HD_ := Aside0.mk (BF.step (BF.alloc HD.out _) (fun j hj _ => hk_ j ((by have h_ := hj.2; omega)))))); clear HD; have HD := HD_; clear HD_; (try clear od odc odf odl); have od := Aside0.mk hx_; obtain ⟨odc, odf, odl⟩ := cells_of od.out; clear HB hb_ hk_ hx_; have HB := HB_; clear HB_))
  go_wp2_with (first | ((with_reducible refine gate_dst (N := 76) rfl ?_); (try (refine gate_guard (by rfl) ?_; dsimp only)); refine wpList_load_row rfl 36 _ rfl _ (by rfl) _ (BD ({ b with i := i, o := o, ie := a, lo := c } : Bd) v1) _ _ (eG oc) Try.underlying36 rfl infBoard ?_) | ((with_reducible refine gate_dst (N := 77) rfl ?_); (try (refine gate_guard (by rfl) ?_; dsimp only)); refine wpList_load_row rfl 36 _ rfl _ (by rfl) _ (BD ({ b with i := i, o := o, ie := a, lo := c } : Bd) ({ v with u0 := v1.u0, u1 := v1.u1 } : Vs)) _ _ (eG od) Try.underlying36 rfl infBoard ?_))
  (go_at_call 11; (with_reducible refine (same13_c HG.out HD.out).mono ?_); rintro e_ w6 ⟨rfl, hb_⟩; have HB_ : Aside0 (Below w.heap.size w w6) := Aside0.mk (below_step (bG HB) hb_); have hzw6 := hb_.size; (try simp at hzw6); have on_ := Aside0.mk (box_below hb_ (eG on)); have oc_ := Aside0.mk (box_below hb_ (eG oc)); (try clear on onc onf onl); have on := on_; clear on_; obtain ⟨onc, onf, onl⟩ := cells_of on.out; (try clear oc occ ocf ocl); have oc := oc_; clear oc_; obtain ⟨occ, ocf, ocl⟩ := cells_of oc.out; clear HB hb_; have HB := HB_; clear HB_)
  have hcc : w6.cell? ⟨w2.heap.size, 0, none⟩ = some (.slice A2 ({ b with i := i, o := o, ie := a, lo := c } : Bd).ram.length c2) := ((occ 0).trans (show (BD ({ b with i := i, o := o, ie := a, lo := c } : Bd) v1)[0]? = some v1.D from rfl)).trans (congrArg some ED2.out)
  have hnc : w6.cell? ⟨w.heap.size, 0, none⟩ = some (.slice A1 b.ram.length c1) := ((onc 0).trans (show (BD b v)[0]? = some v.D from rfl)).trans (congrArg some ED1.out)
  have hlen := HLEN.out
  clear occ onc
  have occ := trivial
  have onc := trivial
  go_wp2_with fail
  (go_at_call 8; (with_reducible refine (heads_c _).mono ?_); rintro e_ wh ⟨rfl, hb_⟩; have HB_ : Aside0 (Below w.heap.size w wh) := Aside0.mk (below_step (bG HB) hb_); have hzwh := hb_.size; (try simp at hzwh); clear HB hb_; have HB := HB_; clear HB_)
  go_wp2
  go_ret
  exact ⟨rfl, HB.out⟩
end Go.Proofs.Ytphcckhegfgbgaa.Q
end
section
/- Law BusApart, nic: the walk. -/
namespace Go.Proofs.Ytphcckhegfgbgaa.Q
open Go.RowKit Go.Proofs.YtphcckhegfgbgaaW.PrintWords Go.Proofs.YtphcckhegfgbgaaW.PrintLast Go.Proofs.YtphcckhegfgbgaaW.PrintMore Go.Proofs.Ytphcckhegfgbgaa.L
attribute [local go_sem] Instr.field part asAgg lt_step max2_int min2_int max_two min_two max_three min_three max_four min_four lt_0_1 lt_0_2 lt_1_2 lt_0_3 lt_1_3 lt_2_3 lt_0_4 lt_1_4 lt_2_4 lt_3_4 lt_0_5 lt_1_5 lt_2_5 lt_3_5 lt_4_5 lt_0_6 lt_1_6 lt_2_6 lt_3_6 lt_4_6 lt_5_6 lt_0_7 lt_1_7 lt_2_7 lt_3_7 lt_4_7 lt_5_7 lt_6_7 lt_0_8 lt_1_8 lt_2_8 lt_3_8 lt_4_8 lt_5_8 lt_6_8 lt_7_8
set_option linter.unusedVariables false
set_option linter.unusedSimpArgs false
set_option maxHeartbeats 1600000 in
set_option maxRecDepth 100000 in
theorem apart_nic (b : Bd) (v : Vs) (at_ size x : Int) (c : Nat → Int) (w : World) (ok : Nat → Prop) (hF : BF w ok b v) (hsm : (decide (b.ram.length ≤ 70000) && decide (b.i.length ≤ 5000) && decide (b.o.length ≤ 5000)) = true) (hst : ST b ({ b with c := c } : Bd) v at_ size x true) (h1 : (decide (33554432 ≤ at_) && decide (at_ < 33619968)) = false) (h2 : (decide (201326592 ≤ at_) && decide (at_ < 205520896)) = false) (h3 : (decide (268435456 ≤ at_) && decide (at_ < 268435464)) = false) (h4 : (decide (268439552 ≤ at_) && decide (at_ < 268439808)) = true) (hlen : ((({ b with c := c } : Bd).ram.length : Int) == (b.ram.length : Int)) = true) :
    Calls Try.prog 5 #[.agg (BD b v), .int .u64 at_, .int .i64 size, .int .u64 x] w fun e w' => e = .returned (.bool true) ∧ Below w.heap.size w w' := by
  have HSM := Aside0.mk hsm
  unfold ST at hst
  have HST := Aside0.mk hst
  have HLEN := Aside0.mk hlen
  clear hsm hst hlen
  have H1 := Aside0.mk h1
  clear h1
  have H2 := Aside0.mk h2
  clear h2
  have H3 := Aside0.mk h3
  clear h3
  have H4 := Aside0.mk h4
  clear h4
  have HB := Aside0.mk (Below.refl w.heap.size w)
  have HF := Aside0.mk hF.bound
  have hu := Try.underlying36
  clear hF
  go_enter Try.func5, Try.ntmps5
  go_upto_region 1 with fail
  obtain ⟨wa, hwa, on0, hb_, hz0⟩ := letter1 w (.cells (BD b v) 36 (0, 0))
  rw [hwa]
  clear hwa
  have hzwa := Nat.le_of_eq hz0.symm
  clear hz0
  have on := Aside0.mk on0
  clear on0
  obtain ⟨onc, onf, onl⟩ := cells_of on.out
  have HB_ : Aside0 (Below w.heap.size w wa) := ⟨hb_⟩
  have HF_ : Aside0 (BF wa (fun j => j ≠ w.heap.size ∧ j < wa.heap.size) b v) := ⟨(HF.out.below hb_).mono (fun j hj => ⟨by have h_ := hj.2; omega, by have h_ := hj.2; omega⟩)⟩
  clear HB HF hb_; have HB := HB_; have HF := HF_; clear HB_ HF_
  go_wp2_with (first | ((with_reducible refine gate_dst (N := 12) rfl ?_); (try (refine gate_guard (by rfl) ?_; dsimp only)); refine wpList_load_row rfl 36 _ rfl _ (by rfl) _ (BD b v) _ _ (eG on) Try.underlying36 rfl infBoard ?_))
  (go_at_call 6; (with_reducible refine (small_c b v _ _ HF.out true HSM.out).mono ?_); rintro e_ w1 ⟨rfl, hb_⟩; have HB_ : Aside0 (Below w.heap.size w w1) := Aside0.mk (below_step (bG HB) hb_); have hzw1 := hb_.size; (try simp at hzw1); have on_ := Aside0.mk (box_below hb_ (eG on)); (try clear on onc onf onl); have on := on_; clear on_; obtain ⟨onc, onf, onl⟩ := cells_of on.out; have HF_ := Aside0.mk (BF.below (by repeat (with_reducible first | exact HF.out | apply BF.drew | apply BF.drewN | apply BF.alloc)) hb_); clear HF; have HF := HF_; clear HF_; clear HB hb_; have HB := HB_; clear HB_)
  go_wp2_with (first | ((with_reducible refine gate_dst (N := 17) rfl ?_); (try (refine gate_guard (by rfl) ?_; dsimp only)); refine wpList_load_row rfl 36 _ rfl _ (by rfl) _ (BD b v) _ _ (eG on) Try.underlying36 rfl infBoard ?_))
  (go_at_call 9; (with_reducible refine (HST.out _ _ HF.out).mono ?_); rintro e_ w2 ⟨v1, rfl, HF2, hb_⟩; have HB_ : Aside0 (Below w.heap.size w w2) := Aside0.mk (below_step (bG HB) hb_); have hzw2 := hb_.size; (try simp at hzw2); have on_ := Aside0.mk (box_below hb_ (eG on)); (try clear on onc onf onl); have on := on_; clear on_; obtain ⟨onc, onf, onl⟩ := cells_of on.out; have HF_ := Aside0.mk (BF.below (by repeat (with_reducible first | exact HF.out | apply BF.drew | apply BF.drewN | apply BF.alloc)) hb_); clear HF; have HF := HF_; clear HF_; clear HB hb_; have HB := HB_; clear HB_; have HF2_ := Aside0.mk HF2; clear HF2; have HF2 := HF2_; clear HF2_; skip)
  have HG_ := Aside0.mk (HF2.out.bound.mono (ok' := fun j => True ∧ j < w2.heap.size) (fun j hj => ⟨trivial, hj.2⟩))
  (try clear HG)
  (try clear HF2)
  have HG := HG_
  clear HG_
  go_upto_region 8 with (first | ((with_reducible refine gate_store (t := 36) (p := 9) (v := .tmp 22) rfl ?_); refine wpList_store_all rfl 36 _ _ rfl rfl _ (BD ({ b with c := c } : Bd) v1) (by rfl) (by rfl) _ _ (nb_1 _ _) rfl infBoard (HG.out.one) ?_; rintro w3 ⟨hx_, hk_, hb_, hzz_⟩; have HB_ : Aside0 (Below w.heap.size w w3) := Aside0.mk (Below.trans (bG HB) (Below.mono hb_ (by first | omega | (simp only [sz_alloc, sz_drew, sz_drewN]; omega)))); have hzw3 := Nat.le_of_eq hzz_.symm; (try simp at hzw3); clear hzz_; have on_ := Aside0.mk (st_put on.out hk_ (fun h_ => (by repeat (with_reducible first | exact h_ | apply ext_drew | apply ext_drewN | apply ext_alloc | refine blk_far ?_ (by show _ ≠ _; dsimp only; omega) _))) (by omega)); clear on onc onf onl; have on := on_; clear on_; obtain ⟨onc, onf, onl⟩ := cells_of on.out; (first | (have HG_ := Aside0.mk (BF.step HG.out (fun j hj _ => hk_ j ((by have h_ := hj.2; omega))))) | (have HG_ := Aside0.mk (BF.step (BF.alloc HG.out _) (fun j hj _ => hk_ j ((by have h_ := hj.2; omega)))))); clear HG; have HG := HG_; clear HG_; (first | (have HF_ := Aside0.mk (BF.step HF.out (fun j hj _ => hk_ j ((by have h_ := hj.2; omega))))) | (have HF_ := Aside0.mk (BF.step (BF.alloc HF.out _) (fun j hj _ => hk_ j ((by have h_ := hj.2; omega)))))); clear HF; have HF := HF_; clear HF_; (try clear oc occ ocf ocl); have oc := Aside0.mk hx_; obtain ⟨occ, ocf, ocl⟩ := cells_of oc.out; clear HB hb_ hk_ hx_; have HB := HB_; clear HB_) | ((with_reducible refine gate_dst (N := 32) rfl ?_); (try (refine gate_guard (by rfl) ?_; dsimp only)); refine wpList_load_row rfl 36 _ rfl _ (by rfl) _ (BD b v) _ _ (eG on) Try.underlying36 rfl infBoard ?_) | ((with_reducible refine gate_store (t := 36) (p := 11) (v := .tmp 32) rfl ?_); refine wpList_store_all rfl 36 _ _ rfl rfl _ (BD b v) (by rfl) (by rfl) _ _ (nb_1 _ _) rfl infBoard (HF.out.one) ?_; rintro w4 ⟨hx_, hk_, hb_, hzz_⟩; have HB_ : Aside0 (Below w.heap.size w w4) := Aside0.mk (Below.trans (bG HB) (Below.mono hb_ (by first | omega | (simp only [sz_alloc, sz_drew, sz_drewN]; omega)))); have hzw4 := Nat.le_of_eq hzz_.symm; (try simp at hzw4); clear hzz_; have on_ := Aside0.mk (st_put on.out hk_ (fun h_ => (by repeat (with_reducible first | exact h_ | apply ext_drew | apply ext_drewN | apply ext_alloc | refine blk_far ?_ (by show _ ≠ _; dsimp only; omega) _))) (by omega)); clear on onc onf onl; have on := on_; clear on_; obtain ⟨onc, onf, onl⟩ := cells_of on.out; have oc_ := Aside0.mk (st_put oc.out hk_ (fun h_ => (by repeat (with_reducible first | exact h_ | apply ext_drew | apply ext_drewN | apply ext_alloc | refine blk_far ?_ (by show _ ≠ _; dsimp only; omega) _))) (by omega)); clear oc occ ocf ocl; have oc := oc_; clear oc_; obtain ⟨occ, ocf, ocl⟩ := cells_of oc.out; (first | (have HG_ := Aside0.mk (BF.step HG.out (fun j hj _ => hk_ j ((by have h_ := hj.2; omega))))) | (have HG_ := Aside0.mk (BF.step (BF.alloc HG.out _) (fun j hj _ => hk_ j ((by have h_ := hj.2; omega)))))); clear HG; have HG := HG_; clear HG_; (first | (have HF_ := Aside0.mk (BF.step HF.out (fun j hj _ => hk_ j ((by have h_ := hj.2; omega))))) | (have HF_ := Aside0.mk (BF.step (BF.alloc HF.out _) (fun j hj _ => hk_ j ((by have h_ := hj.2; omega)))))); clear HF; have HF := HF_; clear HF_; (try clear od odc odf odl); have od := Aside0.mk hx_; obtain ⟨odc, odf, odl⟩ := cells_of od.out; clear HB hb_ hk_ hx_; have HB := HB_; clear HB_))
  go_cut [36] (fun v_ wx => v_ = .bool (decide (33554432 ≤ at_) && decide (at_ < 33619968)) ∧ w4 = wx)
  case first =>
    go_wp2_with fail
    all_goals go_meet
    all_goals refine ⟨congrArg Value.bool ?_, rfl⟩
    all_goals (simp [*] <;> (intros; omega))
  case rest =>
  obtain ⟨rfl, hw_⟩ := hcut
  subst hw_
  rw [H1.out]
  go_upto_region 10 with fail
  go_cut [46] (fun v_ wx => v_ = .bool (decide (201326592 ≤ at_) && decide (at_ < 205520896)) ∧ w4 = wx)
  case first =>
    go_wp2_with fail
    all_goals go_meet
    all_goals refine ⟨congrArg Value.bool ?_, rfl⟩
    all_goals (simp [*] <;> (intros; omega))
  case rest =>
  obtain ⟨rfl, hw_⟩ := hcut
  subst hw_
  rw [H2.out]
  go_upto_region 12 with fail
  go_cut [56] (fun v_ wx => v_ = .bool (decide (268435456 ≤ at_) && decide (at_ < 268435464)) ∧ w4 = wx)
  case first =>
    go_wp2_with fail
    all_goals go_meet
    all_goals refine ⟨congrArg Value.bool ?_, rfl⟩
    all_goals (simp [*] <;> (intros; omega))
  case rest =>
  obtain ⟨rfl, hw_⟩ := hcut
  subst hw_
  rw [H3.out]
  go_upto_region 14 with fail
  go_cut [66] (fun v_ wx => v_ = .bool (decide (268439552 ≤ at_) && decide (at_ < 268439808)) ∧ w4 = wx)
  case first =>
    go_wp2_with fail
    all_goals go_meet
    all_goals refine ⟨congrArg Value.bool ?_, rfl⟩
    all_goals (simp [*] <;> (intros; omega))
  case rest =>
  obtain ⟨rfl, hw_⟩ := hcut
  subst hw_
  rw [H4.out]
  have HD : Aside0 (BF w4 (fun j => True ∧ j < w2.heap.size) ({ b with c := c } : Bd) ({ v with M := v1.M } : Vs)) := ⟨(show BF w4 (fun j => True ∧ j < w2.heap.size) ({ b with c := c } : Bd) ({ v with M := v1.M } : Vs) from ⟨HF.out.D.mono (fun j hj => ⟨trivial, by have h_ := hj.2; omega⟩), HF.out.p0.mono (fun j hj => ⟨trivial, by have h_ := hj.2; omega⟩), HF.out.p3.mono (fun j hj => ⟨trivial, by have h_ := hj.2; omega⟩), HF.out.p4.mono (fun j hj => ⟨trivial, by have h_ := hj.2; omega⟩), HF.out.u0.mono (fun j hj => ⟨trivial, by have h_ := hj.2; omega⟩), HF.out.u1.mono (fun j hj => ⟨trivial, by have h_ := hj.2; omega⟩), HG.out.M.mono (fun j hj => ⟨trivial, by have h_ := hj.2; omega⟩)⟩)⟩
  obtain ⟨A2, c2, eD2, _, _⟩ := HG.out.D
  obtain ⟨A1, c1, eD1, _, _⟩ := HF.out.D
  have ED2 := Aside0.mk eD2
  have ED1 := Aside0.mk eD1
  clear eD1 eD2
  go_upto_region 16 with (first | ((with_reducible refine gate_dst (N := 74) rfl ?_); (try (refine gate_guard (by rfl) ?_; dsimp only)); refine wpList_load_part rfl 34 _ rfl _ 13 (by rfl) (C14 (({ b with c := c } : Bd)).c v1.M) (BD ({ b with c := c } : Bd) v1) _ (eG oc) rfl _ Try.underlying34 rfl infNic ?_) | ((with_reducible refine gate_store (t := 34) (p := 75) (v := .tmp 74) rfl ?_); refine wpList_store_part rfl 34 _ _ rfl rfl _ 13 (C14 (({ b with c := c } : Bd)).c v1.M) (by rfl) (by rfl) (BD b v) (BD ({ b with c := c } : Bd) ({ v with M := v1.M } : Vs)) _ (eG od) (Nat.le_of_ble_eq_true rfl) rfl infNic (by obtain ⟨_, _, e1_, _⟩ := HG.out.M; rw [e1_]; exact C14_one _ _ _ _) ?_; rintro w5 ⟨hx_, hk_, hb_, hzz_⟩; have HB_ : Aside0 (Below w.heap.size w w5) := Aside0.mk (Below.trans (bG HB) (Below.mono hb_ (by omega))); have hzw5 := Nat.le_of_eq hzz_.symm; (try simp at hzw5); clear hzz_; have on_ := Aside0.mk (st_put on.out hk_ (fun h_ => (by repeat (with_reducible first | exact h_ | apply ext_drew | apply ext_drewN | apply ext_alloc | refine blk_far ?_ (by show _ ≠ _; dsimp only; omega) _))) (by omega)); clear on; (try clear onc onf onl); have on := on_; clear on_; obtain ⟨onc, onf, onl⟩ := cells_of on.out; have oc_ := Aside0.mk (st_put oc.out hk_ (fun h_ => (by repeat (with_reducible first | exact h_ | apply ext_drew | apply ext_drewN | apply ext_alloc | refine blk_far ?_ (by show _ ≠ _; dsimp only; omega) _))) (by omega)); clear oc; (try clear occ ocf ocl); have oc := oc_; clear oc_; obtain ⟨occ, ocf, ocl⟩ := cells_of oc.out; (first | (have HG_ := Aside0.mk (BF.step HG.out (fun j hj _ => hk_ j ((by have h_ := hj.2; omega))))) | (have HG_ := Aside0.mk (BF.step (BF.alloc HG.out _) (fun j hj _ => hk_ j ((by have h_ := hj.2; omega)))))); clear HG; have HG := HG_; clear HG_; (first | (have HF_ := Aside0.mk (BF.step HF.out (fun j hj _ => hk_ j ((by have h_ := hj.2; omega))))) | (have HF_ := Aside0.mk (BF.step (BF.alloc HF.out _) (fun j hj _ => hk_ j ((by have h_ := hj.2; omega)))))); clear HF; have HF := HF_; clear HF_; (first | (have HD_ := Aside0.mk (BF.step HD.out (fun j hj _ => hk_ j ((by have h_ := hj.2; omega))))) | (have HD_ := Aside0.mk (BF.step (BF.alloc HD.out _) (fun j hj _ => hk_ j ((by have h_ := hj.2; omega)))))); clear HD; have HD := HD_; clear HD_; (try clear od odc odf odl); have od := Aside0.mk hx_; obtain ⟨odc, odf, odl⟩ := cells_of od.out; clear HB hb_ hk_ hx_; have HB := HB_; clear HB_))
  go_wp2_with (first | ((with_reducible refine gate_dst (N := 76) rfl ?_); (try (refine gate_guard (by rfl) ?_; dsimp only)); refine wpList_load_row rfl 36 _ rfl _ (by rfl) _ (BD ({ b with c := c } : Bd) v1) _ _ (eG oc) Try.underlying36 rfl infBoard ?_) | ((with_reducible refine gate_dst (N := 77) rfl ?_); (try (refine gate_guard (by rfl) ?_; dsimp only)); refine wpList_load_row rfl 36 _ rfl _ (by rfl) _ (BD ({ b with c := c } : Bd) ({ v with M := v1.M } : Vs)) _ _ (eG od) Try.underlying36 rfl infBoard ?_))
  (go_at_call 11; (with_reducible refine (same13_c HG.out HD.out).mono ?_); rintro e_ w6 ⟨rfl, hb_⟩; have HB_ : Aside0 (Below w.heap.size w w6) := Aside0.mk (below_step (bG HB) hb_); have hzw6 := hb_.size; (try simp at hzw6); have on_ := Aside0.mk (box_below hb_ (eG on)); have oc_ := Aside0.mk (box_below hb_ (eG oc)); (try clear on onc onf onl); have on := on_; clear on_; obtain ⟨onc, onf, onl⟩ := cells_of on.out; (try clear oc occ ocf ocl); have oc := oc_; clear oc_; obtain ⟨occ, ocf, ocl⟩ := cells_of oc.out; clear HB hb_; have HB := HB_; clear HB_)
  have hcc : w6.cell? ⟨w2.heap.size, 0, none⟩ = some (.slice A2 ({ b with c := c } : Bd).ram.length c2) := ((occ 0).trans (show (BD ({ b with c := c } : Bd) v1)[0]? = some v1.D from rfl)).trans (congrArg some ED2.out)
  have hnc : w6.cell? ⟨w.heap.size, 0, none⟩ = some (.slice A1 b.ram.length c1) := ((onc 0).trans (show (BD b v)[0]? = some v.D from rfl)).trans (congrArg some ED1.out)
  have hlen := HLEN.out
  clear occ onc
  have occ := trivial
  have onc := trivial
  go_wp2_with fail
  (go_at_call 8; (with_reducible refine (heads_c _).mono ?_); rintro e_ wh ⟨rfl, hb_⟩; have HB_ : Aside0 (Below w.heap.size w wh) := Aside0.mk (below_step (bG HB) hb_); have hzwh := hb_.size; (try simp at hzwh); clear HB hb_; have HB := HB_; clear HB_)
  go_wp2
  go_ret
  exact ⟨rfl, HB.out⟩
end Go.Proofs.Ytphcckhegfgbgaa.Q
end
