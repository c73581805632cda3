import Derived.Test.YtphcckhegfgbgaaPZ1
import Derived.Test.YtphcckhegfgbgaaPZ7
import Derived.Deep.DeepCutAuto
import Derived.RegionTactic
import Derived.BigRegion
import Derived.Test.YtphcckhegfgbgaaPZ9
import Derived.Test.YtphcckhegfgbgaaPZ6
section
/- bus.Store, clint. -/
namespace Go.Proofs.Ytphcckhegfgbgaa.Q
open Go.RowKit Go.Proofs.YtphcckhegfgbgaaW.PrintWords Go.Proofs.YtphcckhegfgbgaaW.PrintLast Go.Proofs.YtphcckhegfgbgaaW.PrintMore Go.Proofs.Ytphcckhegfgbgaa.L
attribute [local go_sem] Instr.field part asAgg lt_step max2_int min2_int max_two min_two max_three min_three max_four min_four lt_0_1 lt_0_2 lt_1_2 lt_0_3 lt_1_3 lt_2_3 lt_0_4 lt_1_4 lt_2_4 lt_3_4 lt_0_5 lt_1_5 lt_2_5 lt_3_5 lt_4_5 lt_0_6 lt_1_6 lt_2_6 lt_3_6 lt_4_6 lt_5_6 lt_0_7 lt_1_7 lt_2_7 lt_3_7 lt_4_7 lt_5_7 lt_6_7 lt_0_8 lt_1_8 lt_2_8 lt_3_8 lt_4_8 lt_5_8 lt_6_8 lt_7_8
set_option linter.unusedVariables false
set_option linter.unusedSimpArgs false
set_option maxHeartbeats 1600000 in
set_option maxRecDepth 100000 in
theorem bst_clint (b : Bd) (v : Vs) (at_ size x : Int) (t' k' : Int) (s' : Bool) (r : Bool) (w : World) (ok : Nat → Prop) (hF : BF w ok b v) (h1 : inZ at_ 33554432 65536 = true) (h : clint_Store.f b.t b.k b.s (IntKind.u64.wrap (at_ - 33554432)) size x = some (t', k', s', r)) :
    Calls Try.prog 9 #[.agg (BD b v), .int .u64 at_, .int .i64 size, .int .u64 x] w fun e w' => ∃ v' : Vs, e = .returned (.tuple #[.agg (BD ({ b with t := t', k := k', s := s' } : Bd) v'), .bool r]) ∧ BF w' (fun j => ok j ∨ w.heap.size ≤ j) ({ b with t := t', k := k', s := s' } : Bd) v' ∧ Below w.heap.size w w' := by
  have H1 := Aside0.mk h1
  have HH := Aside0.mk h
  clear h
  clear h1
  have HB := Aside0.mk (Below.refl w.heap.size w)
  have HF := Aside0.mk hF.bound
  have hu := Try.underlying36
  clear hF
  go_enter Try.func9, Try.ntmps9
  go_upto_region 1 with fail
  obtain ⟨wa, hwa, on0, pn0, hb_, hz0⟩ := letter2 w (.cells (BD b v) 36 (0, 0)) (.cells BDz 36 (0, 0))
  unfold BDz at hwa
  rw [hwa]
  clear hwa
  have hzwa := Nat.le_of_eq hz0.symm
  clear hz0
  have on := Aside0.mk on0
  have pn := Aside0.mk pn0
  clear on0 pn0
  obtain ⟨onc, onf, onl⟩ := cells_of on.out
  obtain ⟨pnc, pnf, pnl⟩ := cells_of pn.out
  have HB_ : Aside0 (Below w.heap.size w wa) := ⟨hb_⟩
  have HF_ : Aside0 (BF wa (fun j => (ok j ∨ w.heap.size ≤ j) ∧ j ≠ w.heap.size ∧ j ≠ w.heap.size + 1) b v) := ⟨(HF.out.below hb_).mono (fun j hj => ⟨.inl hj.1, by omega, by omega⟩)⟩
  clear HB HF hb_; have HB := HB_; have HF := HF_; clear HB_ HF_
  go_wp2_with fail
  (go_at_call 15; (with_reducible refine (within_is at_ _).mono ?_); rintro e_ w1 ⟨rfl, og, hb_⟩; have HB_ : Aside0 (Below w.heap.size w w1) := Aside0.mk (below_step (bG HB) hb_); have hzw1 := hb_.size; (try simp at hzw1); have on_ := Aside0.mk (box_below hb_ (eG on)); have pn_ := Aside0.mk (box_below hb_ (eG pn)); (try clear on onc onf onl); have on := on_; clear on_; obtain ⟨onc, onf, onl⟩ := cells_of on.out; (try clear pn pnc pnf pnl); have pn := pn_; clear pn_; obtain ⟨pnc, pnf, pnl⟩ := cells_of pn.out; have HF_ := Aside0.mk (BF.below (by repeat (with_reducible first | exact HF.out | apply BF.drew | apply BF.drewN | apply BF.alloc)) hb_); clear HF; have HF := HF_; clear HF_; clear HB hb_; have HB := HB_; clear HB_; have og_ := Aside0.mk og; clear og; have og := og_; clear og_; skip)
  go_wp2_with (first | (go_at_call 39; (with_reducible refine (in_c true at_ 33554432 65536 _ _ H1.out og.out).mono ?_); rintro e_ w_ ⟨rfl, rfl⟩) | ((with_reducible refine gate_dst (N := 28) rfl ?_); (try (refine gate_guard (by rfl) ?_; dsimp only)); refine wpList_load_part rfl 27 _ rfl _ 1 (by rfl) (Bclint b) (BD b v) _ (eG on) rfl _ Try.underlying27 rfl infClint ?_))
  (go_at_call 16; (with_reducible refine (clintSt_c b _ size x t' k' s' r _ HH.out).mono ?_); rintro e_ w2 ⟨rfl, hb_⟩; have HB_ : Aside0 (Below w.heap.size w w2) := Aside0.mk (below_step (bG HB) hb_); have hzw2 := hb_.size; (try simp at hzw2); have on_ := Aside0.mk (box_below hb_ (eG on)); have pn_ := Aside0.mk (box_below hb_ (eG pn)); (try clear on onc onf onl); have on := on_; clear on_; obtain ⟨onc, onf, onl⟩ := cells_of on.out; (try clear pn pnc pnf pnl); have pn := pn_; clear pn_; obtain ⟨pnc, pnf, pnl⟩ := cells_of pn.out; have HF_ := Aside0.mk (BF.below (by repeat (with_reducible first | exact HF.out | apply BF.drew | apply BF.drewN | apply BF.alloc)) hb_); clear HF; have HF := HF_; clear HF_; clear HB hb_; have HB := HB_; clear HB_)
  have HN : Aside0 (BF w2 (fun j => (ok j ∨ w.heap.size ≤ j) ∧ j ≠ w.heap.size ∧ j ≠ w.heap.size + 1) ({ b with t := t', k := k', s := s' } : Bd) v) := ⟨⟨HF.out.D, HF.out.p0, HF.out.p3, HF.out.p4, HF.out.u0, HF.out.u1, HF.out.M⟩⟩
  go_wp2_with (first | ((with_reducible refine gate_store (t := 27) (p := 36) (v := .tmp 34) rfl ?_); refine wpList_store_part rfl 27 _ _ rfl rfl _ 1 #[.int .u64 t', .int .u64 k', .bool s'] (by rfl) (by rfl) (BD b v) (BD ({ b with t := t', k := k', s := s' } : Bd) v) _ (eG on) (Nat.le_of_ble_eq_true rfl) rfl infClint (by simp [Value.oneCell']) ?_; rintro w3 ⟨hx_, hk_, hb_, hzz_⟩; have HB_ : Aside0 (Below w.heap.size w w3) := Aside0.mk (Below.trans (bG HB) (Below.mono hb_ (by omega))); have hzw3 := Nat.le_of_eq hzz_.symm; (try simp at hzw3); clear hzz_; have pn_ := Aside0.mk (st_put pn.out hk_ (fun h_ => (by repeat (with_reducible first | exact h_ | apply ext_drew | apply ext_drewN | apply ext_alloc | refine blk_far ?_ (by show _ ≠ _; dsimp only; omega) _))) (by omega)); clear pn; (try clear pnc pnf pnl); have pn := pn_; clear pn_; obtain ⟨pnc, pnf, pnl⟩ := cells_of pn.out; (first | (have HN_ := Aside0.mk (BF.step HN.out (fun j hj _ => hk_ j (hj.2.1)))) | (have HN_ := Aside0.mk (BF.step (BF.alloc HN.out _) (fun j hj _ => hk_ j (hj.2.1))))); clear HN; have HN := HN_; clear HN_; (try clear on onc onf onl); have on := Aside0.mk hx_; obtain ⟨onc, onf, onl⟩ := cells_of on.out; clear HB hb_ hk_ hx_; have HB := HB_; clear HB_) | ((with_reducible refine gate_dst (N := 79) rfl ?_); (try (refine gate_guard (by rfl) ?_; dsimp only)); refine wpList_load_row rfl 36 _ rfl _ (by rfl) _ (BD ({ b with t := t', k := k', s := s' } : Bd) v) _ _ (eG on) Try.underlying36 rfl infBoard ?_) | ((with_reducible refine gate_store (t := 36) (p := 8) (v := .tmp 79) rfl ?_); refine wpList_store_all rfl 36 _ _ rfl rfl _ (BD ({ b with t := t', k := k', s := s' } : Bd) v) (by rfl) (by rfl) _ _ pn.out rfl infBoard (HN.out.one) ?_; rintro w4 ⟨hx_, hk_, hb_, hzz_⟩; have HB_ : Aside0 (Below w.heap.size w w4) := Aside0.mk (Below.trans (bG HB) (Below.mono hb_ (by first | omega | (simp only [sz_alloc, sz_drew, sz_drewN]; omega)))); have hzw4 := hzz_; (try simp at hzw4); clear hzz_; have on_ := Aside0.mk (st_put on.out hk_ (fun h_ => (by repeat (with_reducible first | exact h_ | apply ext_drew | apply ext_drewN | apply ext_alloc | refine blk_far ?_ (by show _ ≠ _; dsimp only; omega) _))) (by omega)); clear on onc onf onl; have on := on_; clear on_; obtain ⟨onc, onf, onl⟩ := cells_of on.out; (first | (have HN_ := Aside0.mk (BF.step HN.out (fun j hj _ => hk_ j (hj.2.2)))) | (have HN_ := Aside0.mk (BF.step (BF.alloc HN.out _) (fun j hj _ => hk_ j (hj.2.2))))); clear HN; have HN := HN_; clear HN_; (try clear pn pnc pnf pnl); have pn := Aside0.mk hx_; obtain ⟨pnc, pnf, pnl⟩ := cells_of pn.out; clear HB hb_ hk_ hx_; have HB := HB_; clear HB_))
  refine bodyPost_ret (results_ct rfl _ _ (w.heap.size + 1) 36 (BD ({ b with t := t', k := k', s := s' } : Bd) v) (0, 0) _ rfl pn.out Try.underlying36 rfl infBoard) rfl ⟨v, rfl, HN.out.mono (fun j hj => hj.1), (bG HB)⟩
end Go.Proofs.Ytphcckhegfgbgaa.Q
end
section
/- bus.Store, plic. -/
namespace Go.Proofs.Ytphcckhegfgbgaa.Q
open Go.RowKit Go.Proofs.YtphcckhegfgbgaaW.PrintWords Go.Proofs.YtphcckhegfgbgaaW.PrintLast Go.Proofs.YtphcckhegfgbgaaW.PrintMore Go.Proofs.Ytphcckhegfgbgaa.L
attribute [local go_sem] Instr.field part asAgg lt_step max2_int min2_int max_two min_two max_three min_three max_four min_four lt_0_1 lt_0_2 lt_1_2 lt_0_3 lt_1_3 lt_2_3 lt_0_4 lt_1_4 lt_2_4 lt_3_4 lt_0_5 lt_1_5 lt_2_5 lt_3_5 lt_4_5 lt_0_6 lt_1_6 lt_2_6 lt_3_6 lt_4_6 lt_5_6 lt_0_7 lt_1_7 lt_2_7 lt_3_7 lt_4_7 lt_5_7 lt_6_7 lt_0_8 lt_1_8 lt_2_8 lt_3_8 lt_4_8 lt_5_8 lt_6_8 lt_7_8
set_option linter.unusedVariables false
set_option linter.unusedSimpArgs false
set_option maxHeartbeats 1600000 in
set_option maxRecDepth 100000 in
theorem bst_plic (b : Bd) (v : Vs) (at_ size x : Int) (q0 : List Int) (a c : Int) (q3 q4 : List Int) (r : Bool) (w : World) (ok : Nat → Prop) (hF : BF w ok b v) (h1 : inZ at_ 33554432 65536 = false) (h2 : inZ at_ 201326592 4194304 = true) (h : plic_Store.f b.q0 b.x b.y b.q3 b.q4 (IntKind.u64.wrap (at_ - 201326592)) size x = some (q0, a, c, q3, q4, r)) :
    Calls Try.prog 9 #[.agg (BD b v), .int .u64 at_, .int .i64 size, .int .u64 x] w fun e w' => ∃ v' : Vs, e = .returned (.tuple #[.agg (BD ({ b with q0 := q0, x := a, y := c, q3 := q3, q4 := q4 } : Bd) v'), .bool r]) ∧ BF w' (fun j => ok j ∨ w.heap.size ≤ j) ({ b with q0 := q0, x := a, y := c, q3 := q3, q4 := q4 } : Bd) v' ∧ Below w.heap.size w w' := by
  have H1 := Aside0.mk h1
  have H2 := Aside0.mk h2
  have HH := Aside0.mk h
  clear h
  clear h1 h2
  have HB := Aside0.mk (Below.refl w.heap.size w)
  have HF := Aside0.mk hF.bound
  have hu := Try.underlying36
  clear hF
  go_enter Try.func9, Try.ntmps9
  go_upto_region 1 with fail
  obtain ⟨wa, hwa, on0, pn0, hb_, hz0⟩ := letter2 w (.cells (BD b v) 36 (0, 0)) (.cells BDz 36 (0, 0))
  unfold BDz at hwa
  rw [hwa]
  clear hwa
  have hzwa := Nat.le_of_eq hz0.symm
  clear hz0
  have on := Aside0.mk on0
  have pn := Aside0.mk pn0
  clear on0 pn0
  obtain ⟨onc, onf, onl⟩ := cells_of on.out
  obtain ⟨pnc, pnf, pnl⟩ := cells_of pn.out
  have HB_ : Aside0 (Below w.heap.size w wa) := ⟨hb_⟩
  have HF_ : Aside0 (BF wa (fun j => (ok j ∨ w.heap.size ≤ j) ∧ j ≠ w.heap.size ∧ j ≠ w.heap.size + 1) b v) := ⟨(HF.out.below hb_).mono (fun j hj => ⟨.inl hj.1, by omega, by omega⟩)⟩
  clear HB HF hb_; have HB := HB_; have HF := HF_; clear HB_ HF_
  go_wp2_with fail
  (go_at_call 15; (with_reducible refine (within_is at_ _).mono ?_); rintro e_ w1 ⟨rfl, og, hb_⟩; have HB_ : Aside0 (Below w.heap.size w w1) := Aside0.mk (below_step (bG HB) hb_); have hzw1 := hb_.size; (try simp at hzw1); have on_ := Aside0.mk (box_below hb_ (eG on)); have pn_ := Aside0.mk (box_below hb_ (eG pn)); (try clear on onc onf onl); have on := on_; clear on_; obtain ⟨onc, onf, onl⟩ := cells_of on.out; (try clear pn pnc pnf pnl); have pn := pn_; clear pn_; obtain ⟨pnc, pnf, pnl⟩ := cells_of pn.out; have HF_ := Aside0.mk (BF.below (by repeat (with_reducible first | exact HF.out | apply BF.drew | apply BF.drewN | apply BF.alloc)) hb_); clear HF; have HF := HF_; clear HF_; clear HB hb_; have HB := HB_; clear HB_; have og_ := Aside0.mk og; clear og; have og := og_; clear og_; skip)
  go_wp2_with (first | (go_at_call 39; (with_reducible refine (in_c false at_ 33554432 65536 _ _ H1.out og.out).mono ?_); rintro e_ w_ ⟨rfl, rfl⟩) | (go_at_call 39; (with_reducible refine (in_c true at_ 201326592 4194304 _ _ H2.out og.out).mono ?_); rintro e_ w_ ⟨rfl, rfl⟩) | ((with_reducible refine gate_dst (N := 42) rfl ?_); (try (refine gate_guard (by rfl) ?_; dsimp only)); refine wpList_load_part rfl 30 _ rfl _ 4 (by rfl) (Bplic b v) (BD b v) _ (eG on) rfl _ Try.underlying30 rfl infPlic ?_))
  (go_at_call 17; (with_reducible refine (plicSt_c HF.out _ size x q0 a c q3 q4 r HH.out).mono ?_); rintro e_ w2 ⟨p0, p3, p4, rfl, sl_, hb_⟩; have HB_ : Aside0 (Below w.heap.size w w2) := Aside0.mk (below_step (bG HB) hb_); have hzw2 := hb_.size; (try simp at hzw2); have on_ := Aside0.mk (box_below hb_ (eG on)); have pn_ := Aside0.mk (box_below hb_ (eG pn)); (try clear on onc onf onl); have on := on_; clear on_; obtain ⟨onc, onf, onl⟩ := cells_of on.out; (try clear pn pnc pnf pnl); have pn := pn_; clear pn_; obtain ⟨pnc, pnf, pnl⟩ := cells_of pn.out; have HF_ := Aside0.mk (BF.below (by repeat (with_reducible first | exact HF.out | apply BF.drew | apply BF.drewN | apply BF.alloc)) hb_); clear HF; have HF := HF_; clear HF_; clear HB hb_; have HB := HB_; clear HB_; have sl__ := Aside0.mk sl_; clear sl_; have sl_ := sl__; clear sl__; skip)
  have hk9 : ∀ j, ((fun j => (ok j ∨ w.heap.size ≤ j) ∧ j ≠ w.heap.size ∧ j ≠ w.heap.size + 1) j ∨ w1.heap.size ≤ j) → (fun j => (ok j ∨ w.heap.size ≤ j) ∧ j ≠ w.heap.size ∧ j ≠ w.heap.size + 1) j := fun j hj => by
    rcases hj with hj | hj
    · exact hj
    · exact ⟨.inr (by omega), by omega, by omega⟩
  have HN : Aside0 (BF w2 (fun j => (ok j ∨ w.heap.size ≤ j) ∧ j ≠ w.heap.size ∧ j ≠ w.heap.size + 1) ({ b with q0 := q0, x := a, y := c, q3 := q3, q4 := q4 } : Bd) ({ v with p0 := p0, p3 := p3, p4 := p4 } : Vs)) := ⟨⟨HF.out.D, sl_.out.1.mono hk9, sl_.out.2.1.mono hk9, sl_.out.2.2.mono hk9, HF.out.u0, HF.out.u1, HF.out.M⟩⟩
  go_wp2_with (first | ((with_reducible refine gate_store (t := 30) (p := 50) (v := .tmp 48) rfl ?_); refine wpList_store_part rfl 30 _ _ rfl rfl _ 4 #[p0, .int .i64 a, .int .i64 c, p3, p4] (by rfl) (by rfl) (BD b v) (BD ({ b with q0 := q0, x := a, y := c, q3 := q3, q4 := q4 } : Bd) ({ v with p0 := p0, p3 := p3, p4 := p4 } : Vs)) _ (eG on) (Nat.le_of_ble_eq_true rfl) rfl infPlic (by obtain ⟨s1_, s2_, s3_⟩ := sl_.out; obtain ⟨_, _, e1_, _⟩ := s1_; obtain ⟨_, _, e2_, _⟩ := s2_; obtain ⟨_, _, e3_, _⟩ := s3_; rw [e1_, e2_, e3_]; simp [Value.oneCell']) ?_; rintro w3 ⟨hx_, hk_, hb_, hzz_⟩; have HB_ : Aside0 (Below w.heap.size w w3) := Aside0.mk (Below.trans (bG HB) (Below.mono hb_ (by omega))); have hzw3 := Nat.le_of_eq hzz_.symm; (try simp at hzw3); clear hzz_; have pn_ := Aside0.mk (st_put pn.out hk_ (fun h_ => (by repeat (with_reducible first | exact h_ | apply ext_drew | apply ext_drewN | apply ext_alloc | refine blk_far ?_ (by show _ ≠ _; dsimp only; omega) _))) (by omega)); clear pn; (try clear pnc pnf pnl); have pn := pn_; clear pn_; obtain ⟨pnc, pnf, pnl⟩ := cells_of pn.out; (first | (have HN_ := Aside0.mk (BF.step HN.out (fun j hj _ => hk_ j (hj.2.1)))) | (have HN_ := Aside0.mk (BF.step (BF.alloc HN.out _) (fun j hj _ => hk_ j (hj.2.1))))); clear HN; have HN := HN_; clear HN_; (try clear on onc onf onl); have on := Aside0.mk hx_; obtain ⟨onc, onf, onl⟩ := cells_of on.out; clear HB hb_ hk_ hx_; have HB := HB_; clear HB_) | ((with_reducible refine gate_dst (N := 79) rfl ?_); (try (refine gate_guard (by rfl) ?_; dsimp only)); refine wpList_load_row rfl 36 _ rfl _ (by rfl) _ (BD ({ b with q0 := q0, x := a, y := c, q3 := q3, q4 := q4 } : Bd) ({ v with p0 := p0, p3 := p3, p4 := p4 } : Vs)) _ _ (eG on) Try.underlying36 rfl infBoard ?_) | ((with_reducible refine gate_store (t := 36) (p := 8) (v := .tmp 79) rfl ?_); refine wpList_store_all rfl 36 _ _ rfl rfl _ (BD ({ b with q0 := q0, x := a, y := c, q3 := q3, q4 := q4 } : Bd) ({ v with p0 := p0, p3 := p3, p4 := p4 } : Vs)) (by rfl) (by rfl) _ _ pn.out rfl infBoard (HN.out.one) ?_; rintro w4 ⟨hx_, hk_, hb_, hzz_⟩; have HB_ : Aside0 (Below w.heap.size w w4) := Aside0.mk (Below.trans (bG HB) (Below.mono hb_ (by first | omega | (simp only [sz_alloc, sz_drew, sz_drewN]; omega)))); have hzw4 := hzz_; (try simp at hzw4); clear hzz_; have on_ := Aside0.mk (st_put on.out hk_ (fun h_ => (by repeat (with_reducible first | exact h_ | apply ext_drew | apply ext_drewN | apply ext_alloc | refine blk_far ?_ (by show _ ≠ _; dsimp only; omega) _))) (by omega)); clear on onc onf onl; have on := on_; clear on_; obtain ⟨onc, onf, onl⟩ := cells_of on.out; (first | (have HN_ := Aside0.mk (BF.step HN.out (fun j hj _ => hk_ j (hj.2.2)))) | (have HN_ := Aside0.mk (BF.step (BF.alloc HN.out _) (fun j hj _ => hk_ j (hj.2.2))))); clear HN; have HN := HN_; clear HN_; (try clear pn pnc pnf pnl); have pn := Aside0.mk hx_; obtain ⟨pnc, pnf, pnl⟩ := cells_of pn.out; clear HB hb_ hk_ hx_; have HB := HB_; clear HB_))
  refine bodyPost_ret (results_ct rfl _ _ (w.heap.size + 1) 36 (BD ({ b with q0 := q0, x := a, y := c, q3 := q3, q4 := q4 } : Bd) ({ v with p0 := p0, p3 := p3, p4 := p4 } : Vs)) (0, 0) _ rfl pn.out Try.underlying36 rfl infBoard) rfl ⟨({ v with p0 := p0, p3 := p3, p4 := p4 } : Vs), rfl, HN.out.mono (fun j hj => hj.1), (bG HB)⟩
end Go.Proofs.Ytphcckhegfgbgaa.Q
end
section
/- bus.Store, nic. -/
namespace Go.Proofs.Ytphcckhegfgbgaa.Q
open Go.RowKit Go.Proofs.YtphcckhegfgbgaaW.PrintWords Go.Proofs.YtphcckhegfgbgaaW.PrintLast Go.Proofs.YtphcckhegfgbgaaW.PrintMore Go.Proofs.Ytphcckhegfgbgaa.L
attribute [local go_sem] Instr.field part asAgg lt_step max2_int min2_int max_two min_two max_three min_three max_four min_four lt_0_1 lt_0_2 lt_1_2 lt_0_3 lt_1_3 lt_2_3 lt_0_4 lt_1_4 lt_2_4 lt_3_4 lt_0_5 lt_1_5 lt_2_5 lt_3_5 lt_4_5 lt_0_6 lt_1_6 lt_2_6 lt_3_6 lt_4_6 lt_5_6 lt_0_7 lt_1_7 lt_2_7 lt_3_7 lt_4_7 lt_5_7 lt_6_7 lt_0_8 lt_1_8 lt_2_8 lt_3_8 lt_4_8 lt_5_8 lt_6_8 lt_7_8
set_option linter.unusedVariables false
set_option linter.unusedSimpArgs false
set_option maxHeartbeats 1600000 in
set_option maxRecDepth 100000 in
theorem bst_nic (b : Bd) (v : Vs) (at_ size x : Int) (c : Nat → Int) (r : Bool) (w : World) (ok : Nat → Prop) (hF : BF w ok b v) (h1 : inZ at_ 33554432 65536 = false) (h2 : inZ at_ 201326592 4194304 = false) (h3 : inZ at_ 268435456 8 = false) (h4 : inZ at_ 268439552 256 = true) (hmb : ∀ z ∈ b.mac, byte z) (hr : (!refuseZ b.c b.mac.length (IntKind.u64.wrap (at_ - 268439552)) size) = r) (hc : storeZ b.c b.mac.length (IntKind.u64.wrap (at_ - 268439552)) size x = c) :
    Calls Try.prog 9 #[.agg (BD b v), .int .u64 at_, .int .i64 size, .int .u64 x] w fun e w' => ∃ v' : Vs, e = .returned (.tuple #[.agg (BD ({ b with c := c } : Bd) v'), .bool r]) ∧ BF w' (fun j => ok j ∨ w.heap.size ≤ j) ({ b with c := c } : Bd) v' ∧ Below w.heap.size w w' := by
  have H1 := Aside0.mk h1
  have H2 := Aside0.mk h2
  have H3 := Aside0.mk h3
  have H4 := Aside0.mk h4
  have HMB := Aside0.mk hmb
  have HR := Aside0.mk hr
  have HC := Aside0.mk hc
  have HO : Aside0 (0 ≤ IntKind.u64.wrap (at_ - 268439552) ∧ IntKind.u64.wrap (at_ - 268439552) < 18446744073709551616) := ⟨by rw [IntKind.wrap_u64]; omega⟩
  clear hmb hr hc
  clear h1 h2 h3 h4
  have HB := Aside0.mk (Below.refl w.heap.size w)
  have HF := Aside0.mk hF.bound
  have hu := Try.underlying36
  clear hF
  go_enter Try.func9, Try.ntmps9
  go_upto_region 1 with fail
  obtain ⟨wa, hwa, on0, pn0, hb_, hz0⟩ := letter2 w (.cells (BD b v) 36 (0, 0)) (.cells BDz 36 (0, 0))
  unfold BDz at hwa
  rw [hwa]
  clear hwa
  have hzwa := Nat.le_of_eq hz0.symm
  clear hz0
  have on := Aside0.mk on0
  have pn := Aside0.mk pn0
  clear on0 pn0
  obtain ⟨onc, onf, onl⟩ := cells_of on.out
  obtain ⟨pnc, pnf, pnl⟩ := cells_of pn.out
  have HB_ : Aside0 (Below w.heap.size w wa) := ⟨hb_⟩
  have HF_ : Aside0 (BF wa (fun j => (ok j ∨ w.heap.size ≤ j) ∧ j ≠ w.heap.size ∧ j ≠ w.heap.size + 1) b v) := ⟨(HF.out.below hb_).mono (fun j hj => ⟨.inl hj.1, by omega, by omega⟩)⟩
  clear HB HF hb_; have HB := HB_; have HF := HF_; clear HB_ HF_
  go_wp2_with fail
  (go_at_call 15; (with_reducible refine (within_is at_ _).mono ?_); rintro e_ w1 ⟨rfl, og, hb_⟩; have HB_ : Aside0 (Below w.heap.size w w1) := Aside0.mk (below_step (bG HB) hb_); have hzw1 := hb_.size; (try simp at hzw1); have on_ := Aside0.mk (box_below hb_ (eG on)); have pn_ := Aside0.mk (box_below hb_ (eG pn)); (try clear on onc onf onl); have on := on_; clear on_; obtain ⟨onc, onf, onl⟩ := cells_of on.out; (try clear pn pnc pnf pnl); have pn := pn_; clear pn_; obtain ⟨pnc, pnf, pnl⟩ := cells_of pn.out; have HF_ := Aside0.mk (BF.below (by repeat (with_reducible first | exact HF.out | apply BF.drew | apply BF.drewN | apply BF.alloc)) hb_); clear HF; have HF := HF_; clear HF_; clear HB hb_; have HB := HB_; clear HB_; have og_ := Aside0.mk og; clear og; have og := og_; clear og_; skip)
  go_wp2_with (first | (go_at_call 39; (with_reducible refine (in_c false at_ 33554432 65536 _ _ H1.out og.out).mono ?_); rintro e_ w_ ⟨rfl, rfl⟩) | (go_at_call 39; (with_reducible refine (in_c false at_ 201326592 4194304 _ _ H2.out og.out).mono ?_); rintro e_ w_ ⟨rfl, rfl⟩) | (go_at_call 39; (with_reducible refine (in_c false at_ 268435456 8 _ _ H3.out og.out).mono ?_); rintro e_ w_ ⟨rfl, rfl⟩) | (go_at_call 39; (with_reducible refine (in_c true at_ 268439552 256 _ _ H4.out og.out).mono ?_); rintro e_ w_ ⟨rfl, rfl⟩) | ((with_reducible refine gate_dst (N := 70) rfl ?_); (try (refine gate_guard (by rfl) ?_; dsimp only)); refine wpList_load_part rfl 34 _ rfl _ 13 (by rfl) (C14 b.c v.M) (BD b v) _ (eG on) rfl _ Try.underlying34 rfl infNic ?_))
  (go_at_call 19; (with_reducible refine (nicSt_c HF.out _ size x c r HMB.out HO.out.1 HO.out.2 HR.out HC.out).mono ?_); rintro e_ w2 ⟨rfl, hb_⟩; have HB_ : Aside0 (Below w.heap.size w w2) := Aside0.mk (below_step (bG HB) hb_); have hzw2 := hb_.size; (try simp at hzw2); have on_ := Aside0.mk (box_below hb_ (eG on)); have pn_ := Aside0.mk (box_below hb_ (eG pn)); (try clear on onc onf onl); have on := on_; clear on_; obtain ⟨onc, onf, onl⟩ := cells_of on.out; (try clear pn pnc pnf pnl); have pn := pn_; clear pn_; obtain ⟨pnc, pnf, pnl⟩ := cells_of pn.out; have HF_ := Aside0.mk (BF.below (by repeat (with_reducible first | exact HF.out | apply BF.drew | apply BF.drewN | apply BF.alloc)) hb_); clear HF; have HF := HF_; clear HF_; clear HB hb_; have HB := HB_; clear HB_)
  have HN : Aside0 (BF w2 (fun j => (ok j ∨ w.heap.size ≤ j) ∧ j ≠ w.heap.size ∧ j ≠ w.heap.size + 1) ({ b with c := c } : Bd) v) := ⟨⟨HF.out.D, HF.out.p0, HF.out.p3, HF.out.p4, HF.out.u0, HF.out.u1, HF.out.M⟩⟩
  go_wp2_with (first | ((with_reducible refine gate_store (t := 34) (p := 78) (v := .tmp 76) rfl ?_); refine wpList_store_part rfl 34 _ _ rfl rfl _ 13 (C14 c v.M) (by rfl) (by rfl) (BD b v) (BD ({ b with c := c } : Bd) v) _ (eG on) (Nat.le_of_ble_eq_true rfl) rfl infNic (by obtain ⟨_, _, e1_, _⟩ := HF.out.M; rw [e1_]; exact C14_one _ _ _ _) ?_; rintro w3 ⟨hx_, hk_, hb_, hzz_⟩; have HB_ : Aside0 (Below w.heap.size w w3) := Aside0.mk (Below.trans (bG HB) (Below.mono hb_ (by omega))); have hzw3 := Nat.le_of_eq hzz_.symm; (try simp at hzw3); clear hzz_; have pn_ := Aside0.mk (st_put pn.out hk_ (fun h_ => (by repeat (with_reducible first | exact h_ | apply ext_drew | apply ext_drewN | apply ext_alloc | refine blk_far ?_ (by show _ ≠ _; dsimp only; omega) _))) (by omega)); clear pn; (try clear pnc pnf pnl); have pn := pn_; clear pn_; obtain ⟨pnc, pnf, pnl⟩ := cells_of pn.out; (first | (have HN_ := Aside0.mk (BF.step HN.out (fun j hj _ => hk_ j (hj.2.1)))) | (have HN_ := Aside0.mk (BF.step (BF.alloc HN.out _) (fun j hj _ => hk_ j (hj.2.1))))); clear HN; have HN := HN_; clear HN_; (try clear on onc onf onl); have on := Aside0.mk hx_; obtain ⟨onc, onf, onl⟩ := cells_of on.out; clear HB hb_ hk_ hx_; have HB := HB_; clear HB_) | ((with_reducible refine gate_dst (N := 79) rfl ?_); (try (refine gate_guard (by rfl) ?_; dsimp only)); refine wpList_load_row rfl 36 _ rfl _ (by rfl) _ (BD ({ b with c := c } : Bd) v) _ _ (eG on) Try.underlying36 rfl infBoard ?_) | ((with_reducible refine gate_store (t := 36) (p := 8) (v := .tmp 79) rfl ?_); refine wpList_store_all rfl 36 _ _ rfl rfl _ (BD ({ b with c := c } : Bd) v) (by rfl) (by rfl) _ _ pn.out rfl infBoard (HN.out.one) ?_; rintro w4 ⟨hx_, hk_, hb_, hzz_⟩; have HB_ : Aside0 (Below w.heap.size w w4) := Aside0.mk (Below.trans (bG HB) (Below.mono hb_ (by first | omega | (simp only [sz_alloc, sz_drew, sz_drewN]; omega)))); have hzw4 := hzz_; (try simp at hzw4); clear hzz_; have on_ := Aside0.mk (st_put on.out hk_ (fun h_ => (by repeat (with_reducible first | exact h_ | apply ext_drew | apply ext_drewN | apply ext_alloc | refine blk_far ?_ (by show _ ≠ _; dsimp only; omega) _))) (by omega)); clear on onc onf onl; have on := on_; clear on_; obtain ⟨onc, onf, onl⟩ := cells_of on.out; (first | (have HN_ := Aside0.mk (BF.step HN.out (fun j hj _ => hk_ j (hj.2.2)))) | (have HN_ := Aside0.mk (BF.step (BF.alloc HN.out _) (fun j hj _ => hk_ j (hj.2.2))))); clear HN; have HN := HN_; clear HN_; (try clear pn pnc pnf pnl); have pn := Aside0.mk hx_; obtain ⟨pnc, pnf, pnl⟩ := cells_of pn.out; clear HB hb_ hk_ hx_; have HB := HB_; clear HB_))
  refine bodyPost_ret (results_ct rfl _ _ (w.heap.size + 1) 36 (BD ({ b with c := c } : Bd) v) (0, 0) _ rfl pn.out Try.underlying36 rfl infBoard) rfl ⟨v, rfl, HN.out.mono (fun j hj => hj.1), (bG HB)⟩
end Go.Proofs.Ytphcckhegfgbgaa.Q
end
section
/- Law BusApart: the walk. -/
namespace Go.Proofs.Ytphcckhegfgbgaa.Q
open Go.RowKit Go.Proofs.YtphcckhegfgbgaaW.PrintWords Go.Proofs.YtphcckhegfgbgaaW.PrintLast Go.Proofs.YtphcckhegfgbgaaW.PrintMore Go.Proofs.Ytphcckhegfgbgaa.L
attribute [local go_sem] Instr.field part asAgg lt_step max2_int min2_int max_two min_two max_three min_three max_four min_four lt_0_1 lt_0_2 lt_1_2 lt_0_3 lt_1_3 lt_2_3 lt_0_4 lt_1_4 lt_2_4 lt_3_4 lt_0_5 lt_1_5 lt_2_5 lt_3_5 lt_4_5 lt_0_6 lt_1_6 lt_2_6 lt_3_6 lt_4_6 lt_5_6 lt_0_7 lt_1_7 lt_2_7 lt_3_7 lt_4_7 lt_5_7 lt_6_7 lt_0_8 lt_1_8 lt_2_8 lt_3_8 lt_4_8 lt_5_8 lt_6_8 lt_7_8
set_option linter.unusedVariables false
set_option linter.unusedSimpArgs false
def nums13 (a0 a1 a2 a3 a4 a5 a6 a7 a8 a9 a10 a11 a12 : Int) : Nat → Int
  | 0 => a0 | 1 => a1 | 2 => a2 | 3 => a3 | 4 => a4 | 5 => a5 | 6 => a6 | 7 => a7 | 8 => a8 | 9 => a9 | 10 => a10 | 11 => a11 | 12 => a12 | _ => 0
/-- What a store into the plic may answer: done, or the controller as it was. -/
def NoP (b : Bd) (o : Option (List Int × Int × Int × List Int × List Int × Bool)) : Prop := ∃ t, o = some t ∧ (t.2.2.2.2.2 = false → ({ b with q0 := t.1, x := t.2.1, y := t.2.2.1, q3 := t.2.2.2.1, q4 := t.2.2.2.2.1 } : Bd) = b)
theorem NoP.ite {b : Bd} {c : Prop} [Decidable c] {o1 o2 : Option (List Int × Int × Int × List Int × List Int × Bool)} (h1 : NoP b o1) (h2 : NoP b o2) : NoP b (if c then o1 else o2) := by
  by_cases h : c
  · rw [if_pos h]; exact h1
  · rw [if_neg h]; exact h2
theorem NoP.yes (b : Bd) (q0 : List Int) (a c : Int) (q3 q4 : List Int) : NoP b (some (q0, a, c, q3, q4, true)) := ⟨_, rfl, fun h => by cases h⟩
theorem NoP.no (b : Bd) : NoP b (some (b.q0, b.x, b.y, b.q3, b.q4, false)) := ⟨_, rfl, fun _ => rfl⟩
theorem plic_st (b : Bd) (off size x : Int) : ∃ q0 a c q3 q4 r, plic_Store.f b.q0 b.x b.y b.q3 b.q4 off size x = some (q0, a, c, q3, q4, r) ∧ (r = false → ({ b with q0 := q0, x := a, y := c, q3 := q3, q4 := q4 } : Bd) = b) := by
  have h1 : NoP b (plic_Store.f b.q0 b.x b.y b.q3 b.q4 off size x) := by
    unfold plic_Store.f giveZ
    repeat' (first | refine NoP.ite ?_ ?_ | exact NoP.yes _ _ _ _ _ _ | exact NoP.no _)
  obtain ⟨⟨q0, a, c, q3, q4, r⟩, h, hno⟩ := h1
  exact ⟨q0, a, c, q3, q4, r, h, hno⟩
theorem uart_st (b : Bd) (off size x : Int) (hu : u64B off) : ∃ i o a c r, uart_Store.f b.i b.o b.ie b.lo off size x = some (i, o, a, c, r) ∧ (r = false → ({ b with i := i, o := o, ie := a, lo := c } : Bd) = b) := by
  have h1 : (uart_Store.f b.i b.o b.ie b.lo off size x).isSome = true := by
    unfold uart_Store.f
    rw [if_pos hu]
    (repeat' split) <;> rfl
  obtain ⟨⟨i, o, a, c, r⟩, h⟩ := Option.isSome_iff_exists.1 h1
  refine ⟨i, o, a, c, r, h, fun hr => ?_⟩
  subst hr
  unfold uart_Store.f at h
  rw [if_pos hu] at h
  (repeat' split at h) <;> (simp only [Option.some.injEq, Prod.mk.injEq] at h; obtain ⟨rfl, rfl, rfl, rfl, h⟩ := h; first | rfl | cases h)
theorem clint_st (b : Bd) (off size x : Int) (h1 : u64B b.t) (h2 : u64B b.k) (h3 : u64B x) : ∃ t k s r, clint_Store.f b.t b.k b.s off size x = some (t, k, s, r) ∧ (r = false → ({ b with t := t, k := k, s := s } : Bd) = b) := by
  obtain ⟨t, ht⟩ : ∃ t, clStore b.t b.k b.s off size x = t := ⟨_, rfl⟩
  obtain ⟨t, k, s, r⟩ := t
  refine ⟨t, k, s, r, by unfold clint_Store.f; rw [if_pos ⟨h1, h2, h3⟩, ht], fun hr => ?_⟩
  subst hr
  unfold clStore at ht
  (repeat' split at ht) <;> (simp only [Prod.mk.injEq] at ht; obtain ⟨rfl, rfl, rfl, ht⟩ := ht; first | rfl | cases ht)
theorem nic_st (b : Bd) (off size x : Int) (h : (!refuseZ b.c b.mac.length off size) = false) : ({ b with c := storeZ b.c b.mac.length off size x } : Bd) = b := by
  have hr : refuseZ b.c b.mac.length off size = true := by cases hr : refuseZ b.c b.mac.length off size; rw [hr] at h; cases h; rfl
  unfold storeZ
  rw [if_pos hr]
theorem ram_st (b : Bd) (at_ size x : Int) (h : writeK b.ram at_ size x = false) : ({ b with ram := writeL b.ram at_ size x } : Bd) = b := by
  have : writeL b.ram at_ size x = b.ram := by
    unfold writeK at h
    unfold writeL
    split
    · rename_i hk
      rw [hk, Bool.true_and] at h
      unfold fillL
      rw [h]
      rfl
    · rfl
  rw [this]
theorem inB (at_ base size hi : Int) (r : Bool) (hw : IntKind.u64.wrap (base + size) = hi) (h : inZ at_ base size = r) : (decide (base ≤ at_) && decide (at_ < hi)) = r := by
  subst hw
  exact h
theorem wrapB (z : Int) : u64B (IntKind.u64.wrap z) := by
  rw [IntKind.wrap_u64]
  unfold u64B
  omega
theorem apart_runs (b : Bd) (v : Vs) (at_ size x : Int) (w : World) (ok : Nat → Prop) (hF : BF w ok b v) (ht : u64B b.t) (hk : u64B b.k) (hx : u64B x) (ha : u64B at_) (hm : ∀ z ∈ b.mac, byte z) :
    Calls Try.prog 5 #[.agg (BD b v), .int .u64 at_, .int .i64 size, .int .u64 x] w fun e w' => e = .returned (.bool true) ∧ Below w.heap.size w w' := by
  cases hsm : (decide (b.ram.length ≤ 70000) && decide (b.i.length ≤ 5000) && decide (b.o.length ≤ 5000))
  · exact apart_big b v at_ size x w ok hF hsm
  have same : ∀ l : List Int, l.length = b.ram.length → ((l.length : Int) == (b.ram.length : Int)) = true := fun l h => by rw [h]; exact beq_self_eq_true _
  cases h1 : inZ at_ 33554432 65536
  case true =>
    obtain ⟨t', k', s', r, he, hno⟩ := clint_st b (IntKind.u64.wrap (at_ - 33554432)) size x ht hk hx
    have hst : ST b ({ b with t := t', k := k', s := s' } : Bd) v at_ size x r := fun w ok hF => bst_clint b v at_ size x t' k' s' r w ok hF h1 he
    cases r
    · rw [hno rfl] at hst; exact apart_no b v at_ size x w ok hF hsm hst
    · exact apart_clint b v at_ size x t' k' s' w ok hF hsm hst (inB _ _ _ _ _ (by decide) h1) (same b.ram rfl)
  cases h2 : inZ at_ 201326592 4194304
  case true =>
    obtain ⟨q0, a, c, q3, q4, r, he, hno⟩ := plic_st b (IntKind.u64.wrap (at_ - 201326592)) size x
    have hst : ST b ({ b with q0 := q0, x := a, y := c, q3 := q3, q4 := q4 } : Bd) v at_ size x r := fun w ok hF => bst_plic b v at_ size x q0 a c q3 q4 r w ok hF h1 h2 he
    cases r
    · rw [hno rfl] at hst; exact apart_no b v at_ size x w ok hF hsm hst
    · exact apart_plic b v at_ size x q0 a c q3 q4 w ok hF hsm hst (inB _ _ _ _ _ (by decide) h1) (inB _ _ _ _ _ (by decide) h2) (same b.ram rfl)
  cases h3 : inZ at_ 268435456 8
  case true =>
    obtain ⟨i, o, a, c, r, he, hno⟩ := uart_st b (IntKind.u64.wrap (at_ - 268435456)) size x (wrapB _)
    have hst : ST b ({ b with i := i, o := o, ie := a, lo := c } : Bd) v at_ size x r := fun w ok hF => bst_uart b v at_ size x i o a c r w ok hF h1 h2 h3 he
    cases r
    · rw [hno rfl] at hst; exact apart_no b v at_ size x w ok hF hsm hst
    · exact apart_uart b v at_ size x i o a c w ok hF hsm hst (inB _ _ _ _ _ (by decide) h1) (inB _ _ _ _ _ (by decide) h2) (inB _ _ _ _ _ (by decide) h3) (same b.ram rfl)
  cases h4 : inZ at_ 268439552 256
  case true =>
    have hst : ∀ r, (!refuseZ b.c b.mac.length (IntKind.u64.wrap (at_ - 268439552)) size) = r → ST b ({ b with c := storeZ b.c b.mac.length (IntKind.u64.wrap (at_ - 268439552)) size x } : Bd) v at_ size x r := fun r hr w ok hF => bst_nic b v at_ size x _ r w ok hF h1 h2 h3 h4 hm hr rfl
    cases hr : (!refuseZ b.c b.mac.length (IntKind.u64.wrap (at_ - 268439552)) size)
    · have := hst false hr
      rw [nic_st b _ size x hr] at this
      exact apart_no b v at_ size x w ok hF hsm this
    · exact apart_nic b v at_ size x _ w ok hF hsm (hst true hr) (inB _ _ _ _ _ (by decide) h1) (inB _ _ _ _ _ (by decide) h2) (inB _ _ _ _ _ (by decide) h3) (inB _ _ _ _ _ (by decide) h4) (same b.ram rfl)
  have hl : b.ram.length < 140737488355328 := by
    have h := hsm
    simp only [Bool.and_eq_true, decide_eq_true_eq] at h
    omega
  have he : ram_Write.f b.ram at_ size x = some (writeL b.ram at_ size x, writeK b.ram at_ size x) := by unfold ram_Write.f; exact if_pos ⟨ha, hl⟩
  have hst : ∀ r, writeK b.ram at_ size x = r → ST b ({ b with ram := writeL b.ram at_ size x } : Bd) v at_ size x r := fun r hr w ok hF => bst_ram b v at_ size x _ r w ok hF h1 h2 h3 h4 (by rw [he, hr])
  cases hr : writeK b.ram at_ size x
  · have := hst false hr
    rw [ram_st b at_ size x hr] at this
    exact apart_no b v at_ size x w ok hF hsm this
  · exact apart_ram b v at_ size x _ w ok hF hsm (hst true hr) (inB _ _ _ _ _ (by decide) h1) (inB _ _ _ _ _ (by decide) h2) (inB _ _ _ _ _ (by decide) h3) (inB _ _ _ _ _ (by decide) h4) (same _ (writeL_length _ _ _ _))
def drawbridgelaw13_BusApart.f (l0_0 : List Int) (a0_1 : Int) (a0_2 : Int) (a0_3 : Bool) (l0_4 : List Int) (a0_5 : Int) (a0_6 : Int) (l0_7 : List Int) (l0_8 : List Int) (l0_9 : List Int) (l0_10 : List Int) (a0_11 : Int) (a0_12 : Int) (a0_13 : Int) (a0_14 : Int) (a0_15 : Int) (a0_16 : Int) (a0_17 : Int) (a0_18 : Int) (a0_19 : Int) (a0_20 : Int) (a0_21 : Int) (a0_22 : Int) (a0_23 : Int) (a0_24 : Int) (a0_25 : Int) (l0_26 : List Int) (a1 : Int) (a2 : Int) (a3 : Int) : Option Bool := if u64B a0_1 ∧ u64B a0_2 ∧ u64B a3 ∧ u64B a1 ∧ (∀ z ∈ l0_26, byte z) then some true else none
theorem drawbridgelaw13_BusApart.calls (A0_0 : Option Addr) (c0_0 : Nat) (l0_0 : List Int) (a0_1 : Int) (a0_2 : Int) (a0_3 : Bool) (A0_4 : Option Addr) (c0_4 : Nat) (l0_4 : List Int) (a0_5 : Int) (a0_6 : Int) (A0_7 : Option Addr) (c0_7 : Nat) (l0_7 : List Int) (A0_8 : Option Addr) (c0_8 : Nat) (l0_8 : List Int) (A0_9 : Option Addr) (c0_9 : Nat) (l0_9 : List Int) (A0_10 : Option Addr) (c0_10 : Nat) (l0_10 : List Int) (a0_11 : Int) (a0_12 : Int) (a0_13 : Int) (a0_14 : Int) (a0_15 : Int) (a0_16 : Int) (a0_17 : Int) (a0_18 : Int) (a0_19 : Int) (a0_20 : Int) (a0_21 : Int) (a0_22 : Int) (a0_23 : Int) (a0_24 : Int) (a0_25 : Int) (A0_26 : Option Addr) (c0_26 : Nat) (l0_26 : List Int) (a1 : Int) (a2 : Int) (a3 : Int) (r : Bool) (w : World) (hr0_0 : Kd.C (Kd.int .u8) w A0_0 l0_0.length l0_0) (hc0_0 : l0_0.length ≤ c0_0) (hr0_4 : Kd.C (Kd.int .i64) w A0_4 l0_4.length l0_4) (hc0_4 : l0_4.length ≤ c0_4) (hr0_7 : Kd.C (Kd.int .i64) w A0_7 l0_7.length l0_7) (hc0_7 : l0_7.length ≤ c0_7) (hr0_8 : Kd.C (Kd.int .i64) w A0_8 l0_8.length l0_8) (hc0_8 : l0_8.length ≤ c0_8) (hr0_9 : Kd.C (Kd.int .u8) w A0_9 l0_9.length l0_9) (hc0_9 : l0_9.length ≤ c0_9) (hr0_10 : Kd.C (Kd.int .u8) w A0_10 l0_10.length l0_10) (hc0_10 : l0_10.length ≤ c0_10) (hr0_26 : Kd.C (Kd.int .u8) w A0_26 l0_26.length l0_26) (hc0_26 : l0_26.length ≤ c0_26) (h : drawbridgelaw13_BusApart.f l0_0 a0_1 a0_2 a0_3 l0_4 a0_5 a0_6 l0_7 l0_8 l0_9 l0_10 a0_11 a0_12 a0_13 a0_14 a0_15 a0_16 a0_17 a0_18 a0_19 a0_20 a0_21 a0_22 a0_23 a0_24 a0_25 l0_26 a1 a2 a3 = some r) :
    Calls Try.prog 5 #[.agg #[.slice A0_0 l0_0.length c0_0, .int .u64 a0_1, .int .u64 a0_2, .bool a0_3, .slice A0_4 l0_4.length c0_4, .int .i64 a0_5, .int .i64 a0_6, .slice A0_7 l0_7.length c0_7, .slice A0_8 l0_8.length c0_8, .slice A0_9 l0_9.length c0_9, .slice A0_10 l0_10.length c0_10, .int .i64 a0_11, .int .i64 a0_12, .int .i64 a0_13, .int .i64 a0_14, .int .i64 a0_15, .int .u64 a0_16, .int .i64 a0_17, .int .i64 a0_18, .int .i64 a0_19, .int .u64 a0_20, .int .i64 a0_21, .int .i64 a0_22, .int .i64 a0_23, .int .i64 a0_24, .int .i64 a0_25, .slice A0_26 l0_26.length c0_26], .int .u64 a1, .int .i64 a2, .int .u64 a3] w fun e w' => e = .returned (.bool r) ∧ Below w.heap.size w w' := by
  have hF : BF w (fun j => j < w.heap.size) ⟨l0_0, a0_1, a0_2, a0_3, l0_4, a0_5, a0_6, l0_7, l0_8, l0_9, l0_10, a0_11, a0_12, nums13 a0_13 a0_14 a0_15 a0_16 a0_17 a0_18 a0_19 a0_20 a0_21 a0_22 a0_23 a0_24 a0_25, l0_26⟩ ⟨.slice A0_0 l0_0.length c0_0, .slice A0_4 l0_4.length c0_4, .slice A0_7 l0_7.length c0_7, .slice A0_8 l0_8.length c0_8, .slice A0_9 l0_9.length c0_9, .slice A0_10 l0_10.length c0_10, .slice A0_26 l0_26.length c0_26⟩ := ⟨SL.of_C hr0_0 hc0_0, SL.of_C hr0_4 hc0_4, SL.of_C hr0_7 hc0_7, SL.of_C hr0_8 hc0_8, SL.of_C hr0_9 hc0_9, SL.of_C hr0_10 hc0_10, SL.of_C hr0_26 hc0_26⟩
  unfold drawbridgelaw13_BusApart.f at h
  split at h
  case isFalse => cases h
  case isTrue hh =>
  injection h with h; subst h
  exact apart_runs ⟨l0_0, a0_1, a0_2, a0_3, l0_4, a0_5, a0_6, l0_7, l0_8, l0_9, l0_10, a0_11, a0_12, nums13 a0_13 a0_14 a0_15 a0_16 a0_17 a0_18 a0_19 a0_20 a0_21 a0_22 a0_23 a0_24 a0_25, l0_26⟩ ⟨.slice A0_0 l0_0.length c0_0, .slice A0_4 l0_4.length c0_4, .slice A0_7 l0_7.length c0_7, .slice A0_8 l0_8.length c0_8, .slice A0_9 l0_9.length c0_9, .slice A0_10 l0_10.length c0_10, .slice A0_26 l0_26.length c0_26⟩ a1 a2 a3 w _ hF hh.1 hh.2.1 hh.2.2.1 hh.2.2.2.1 hh.2.2.2.2
end Go.Proofs.Ytphcckhegfgbgaa.Q
end
section
namespace Go.Proofs.Ytphcckhegfgbgaa.Pure
open Go.RowKit Go.Proofs.Ytphcckhegfgbgaa.Q Go.Proofs.YtphcckhegfgbgaaW.PrintWords Go.Proofs.YtphcckhegfgbgaaW.PrintLast Go.Proofs.YtphcckhegfgbgaaW.PrintMore Go.Proofs.Ytphcckhegfgbgaa.L
/-- The pure statement of BusApart: numbers and lists alone. -/
def BusApart.Said : Prop := ∀ (l0_0 : List Int) (a0_1 : Int) (a0_2 : Int) (a0_3 : Bool) (l0_4 : List Int) (a0_5 : Int) (a0_6 : Int) (l0_7 : List Int) (l0_8 : List Int) (l0_9 : List Int) (l0_10 : List Int) (a0_11 : Int) (a0_12 : Int) (a0_13 : Int) (a0_14 : Int) (a0_15 : Int) (a0_16 : Int) (a0_17 : Int) (a0_18 : Int) (a0_19 : Int) (a0_20 : Int) (a0_21 : Int) (a0_22 : Int) (a0_23 : Int) (a0_24 : Int) (a0_25 : Int) (l0_26 : List Int) (a1 : Int) (a2 : Int) (a3 : Int), l0_0.length ≤ maxLen → (∀ z ∈ l0_0, (Lit.int .u8 z).wf = true) → (Lit.int .u64 a0_1).wf = true → (Lit.int .u64 a0_2).wf = true → l0_4.length ≤ maxLen → (∀ z ∈ l0_4, (Lit.int .i64 z).wf = true) → (Lit.int .i64 a0_5).wf = true → (Lit.int .i64 a0_6).wf = true → l0_7.length ≤ maxLen → (∀ z ∈ l0_7, (Lit.int .i64 z).wf = true) → l0_8.length ≤ maxLen → (∀ z ∈ l0_8, (Lit.int .i64 z).wf = true) → l0_9.length ≤ maxLen → (∀ z ∈ l0_9, (Lit.int .u8 z).wf = true) → l0_10.length ≤ maxLen → (∀ z ∈ l0_10, (Lit.int .u8 z).wf = true) → (Lit.int .i64 a0_11).wf = true → (Lit.int .i64 a0_12).wf = true → (Lit.int .i64 a0_13).wf = true → (Lit.int .i64 a0_14).wf = true → (Lit.int .i64 a0_15).wf = true → (Lit.int .u64 a0_16).wf = true → (Lit.int .i64 a0_17).wf = true → (Lit.int .i64 a0_18).wf = true → (Lit.int .i64 a0_19).wf = true → (Lit.int .u64 a0_20).wf = true → (Lit.int .i64 a0_21).wf = true → (Lit.int .i64 a0_22).wf = true → (Lit.int .i64 a0_23).wf = true → (Lit.int .i64 a0_24).wf = true → (Lit.int .i64 a0_25).wf = true → l0_26.length ≤ maxLen → (∀ z ∈ l0_26, (Lit.int .u8 z).wf = true) → (Lit.int .u64 a1).wf = true → (Lit.int .i64 a2).wf = true → (Lit.int .u64 a3).wf = true → drawbridgelaw13_BusApart.f l0_0 a0_1 a0_2 a0_3 l0_4 a0_5 a0_6 l0_7 l0_8 l0_9 l0_10 a0_11 a0_12 a0_13 a0_14 a0_15 a0_16 a0_17 a0_18 a0_19 a0_20 a0_21 a0_22 a0_23 a0_24 a0_25 l0_26 a1 a2 a3 = some true
end Go.Proofs.Ytphcckhegfgbgaa.Pure
end
section
/- BusApart, plain part. -/
namespace Go.Proofs.Ytphcckhegfgbgaa.Pure
open Go.RowKit Go.Proofs.Ytphcckhegfgbgaa.Q Go.Proofs.YtphcckhegfgbgaaW.PrintWords Go.Proofs.YtphcckhegfgbgaaW.PrintLast Go.Proofs.YtphcckhegfgbgaaW.PrintMore Go.Proofs.Ytphcckhegfgbgaa.L
set_option linter.unusedVariables false
theorem BusApart : BusApart.Said := by
  intro l0_0 a0_1 a0_2 a0_3 l0_4 a0_5 a0_6 l0_7 l0_8 l0_9 l0_10 a0_11 a0_12 a0_13 a0_14 a0_15 a0_16 a0_17 a0_18 a0_19 a0_20 a0_21 a0_22 a0_23 a0_24 a0_25 l0_26 a1 a2 a3 l0 e0 n1 n2 l4 e4 n5 n6 l7 e7 l8 e8 l9 e9 l10 e10 n11 n12 n13 n14 n15 n16 n17 n18 n19 n20 n21 n22 n23 n24 n25 l26 e26 x1 x2 x3
  exact if_pos ⟨u64_wf n1, u64_wf n2, u64_wf x3, u64_wf x1, fun z hz => byte_wf (e26 z hz)⟩
end Go.Proofs.Ytphcckhegfgbgaa.Pure
end
