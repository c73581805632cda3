import Derived.Test.YtphcckhegfgbgaaPZ1
import Derived.Test.YtphcckhegfgbgaaPZ7
import Derived.Deep.DeepCutAuto
import Derived.RegionTactic
import Derived.BigRegion
import Derived.Test.YtphcckhegfgbgaaPXQx11
import Derived.Test.YtphcckhegfgbgaaPXQx10
section
/- bus.Store, uart. -/
namespace Go.Proofs.Ytphcckhegfgbgaa.Q
open Go.RowKit Go.Proofs.YtphcckhegfgbgaaW.PrintWords Go.Proofs.YtphcckhegfgbgaaW.PrintLast Go.Proofs.YtphcckhegfgbgaaW.PrintMore Go.Proofs.Ytphcckhegfgbgaa.L
attribute [local go_sem] Instr.field part asAgg lt_step max2_int min2_int max_two min_two max_three min_three max_four min_four lt_0_1 lt_0_2 lt_1_2 lt_0_3 lt_1_3 lt_2_3 lt_0_4 lt_1_4 lt_2_4 lt_3_4 lt_0_5 lt_1_5 lt_2_5 lt_3_5 lt_4_5 lt_0_6 lt_1_6 lt_2_6 lt_3_6 lt_4_6 lt_5_6 lt_0_7 lt_1_7 lt_2_7 lt_3_7 lt_4_7 lt_5_7 lt_6_7 lt_0_8 lt_1_8 lt_2_8 lt_3_8 lt_4_8 lt_5_8 lt_6_8 lt_7_8
set_option linter.unusedVariables false
set_option linter.unusedSimpArgs false
set_option maxHeartbeats 1600000 in
set_option maxRecDepth 100000 in
theorem bst_uart (b : Bd) (v : Vs) (at_ size x : Int) (i o : List Int) (a c : Int) (r : Bool) (w : World) (ok : Nat → Prop) (hF : BF w ok b v) (h1 : inZ at_ 33554432 65536 = false) (h2 : inZ at_ 201326592 4194304 = false) (h3 : inZ at_ 268435456 8 = true) (h : uart_Store.f b.i b.o b.ie b.lo (IntKind.u64.wrap (at_ - 268435456)) size x = some (i, o, a, c, r)) :
    Calls Try.prog 9 #[.agg (BD b v), .int .u64 at_, .int .i64 size, .int .u64 x] w fun e w' => ∃ v' : Vs, e = .returned (.tuple #[.agg (BD ({ b with i := i, o := o, ie := a, lo := c } : Bd) v'), .bool r]) ∧ BF w' (fun j => ok j ∨ w.heap.size ≤ j) ({ b with i := i, o := o, ie := a, lo := c } : Bd) v' ∧ Below w.heap.size w w' := by
  have H1 := Aside0.mk h1
  have H2 := Aside0.mk h2
  have H3 := Aside0.mk h3
  have HH := Aside0.mk h
  clear h
  clear h1 h2 h3
  have HB := Aside0.mk (Below.refl w.heap.size w)
  have HF := Aside0.mk hF.bound
  have hu := Try.underlying36
  clear hF
  go_enter Try.func9, Try.ntmps9
  go_upto_region 1 with fail
  obtain ⟨wa, hwa, on0, pn0, hb_, hz0⟩ := letter2 w (.cells (BD b v) 36 (0, 0)) (.cells BDz 36 (0, 0))
  unfold BDz at hwa
  rw [hwa]
  clear hwa
  have hzwa := Nat.le_of_eq hz0.symm
  clear hz0
  have on := Aside0.mk on0
  have pn := Aside0.mk pn0
  clear on0 pn0
  obtain ⟨onc, onf, onl⟩ := cells_of on.out
  obtain ⟨pnc, pnf, pnl⟩ := cells_of pn.out
  have HB_ : Aside0 (Below w.heap.size w wa) := ⟨hb_⟩
  have HF_ : Aside0 (BF wa (fun j => (ok j ∨ w.heap.size ≤ j) ∧ j ≠ w.heap.size ∧ j ≠ w.heap.size + 1) b v) := ⟨(HF.out.below hb_).mono (fun j hj => ⟨.inl hj.1, by omega, by omega⟩)⟩
  clear HB HF hb_; have HB := HB_; have HF := HF_; clear HB_ HF_
  go_wp2_with fail
  (go_at_call 15; (with_reducible refine (within_is at_ _).mono ?_); rintro e_ w1 ⟨rfl, og, hb_⟩; have HB_ : Aside0 (Below w.heap.size w w1) := Aside0.mk (below_step (bG HB) hb_); have hzw1 := hb_.size; (try simp at hzw1); have on_ := Aside0.mk (box_below hb_ (eG on)); have pn_ := Aside0.mk (box_below hb_ (eG pn)); (try clear on onc onf onl); have on := on_; clear on_; obtain ⟨onc, onf, onl⟩ := cells_of on.out; (try clear pn pnc pnf pnl); have pn := pn_; clear pn_; obtain ⟨pnc, pnf, pnl⟩ := cells_of pn.out; have HF_ := Aside0.mk (BF.below (by repeat (with_reducible first | exact HF.out | apply BF.drew | apply BF.drewN | apply BF.alloc)) hb_); clear HF; have HF := HF_; clear HF_; clear HB hb_; have HB := HB_; clear HB_; have og_ := Aside0.mk og; clear og; have og := og_; clear og_; skip)
  go_wp2_with (first | (go_at_call 39; (with_reducible refine (in_c false at_ 33554432 65536 _ _ H1.out og.out).mono ?_); rintro e_ w_ ⟨rfl, rfl⟩) | (go_at_call 39; (with_reducible refine (in_c false at_ 201326592 4194304 _ _ H2.out og.out).mono ?_); rintro e_ w_ ⟨rfl, rfl⟩) | (go_at_call 39; (with_reducible refine (in_c true at_ 268435456 8 _ _ H3.out og.out).mono ?_); rintro e_ w_ ⟨rfl, rfl⟩) | ((with_reducible refine gate_dst (N := 56) rfl ?_); (try (refine gate_guard (by rfl) ?_; dsimp only)); refine wpList_load_part rfl 32 _ rfl _ 9 (by rfl) (Buart b v) (BD b v) _ (eG on) rfl _ Try.underlying32 rfl infUart ?_))
  (go_at_call 18; (with_reducible refine (uartSt_c HF.out _ size x i o a c r HH.out).mono ?_); rintro e_ w2 ⟨u0, u1, rfl, sl_, hb_⟩; have HB_ : Aside0 (Below w.heap.size w w2) := Aside0.mk (below_step (bG HB) hb_); have hzw2 := hb_.size; (try simp at hzw2); have on_ := Aside0.mk (box_below hb_ (eG on)); have pn_ := Aside0.mk (box_below hb_ (eG pn)); (try clear on onc onf onl); have on := on_; clear on_; obtain ⟨onc, onf, onl⟩ := cells_of on.out; (try clear pn pnc pnf pnl); have pn := pn_; clear pn_; obtain ⟨pnc, pnf, pnl⟩ := cells_of pn.out; have HF_ := Aside0.mk (BF.below (by repeat (with_reducible first | exact HF.out | apply BF.drew | apply BF.drewN | apply BF.alloc)) hb_); clear HF; have HF := HF_; clear HF_; clear HB hb_; have HB := HB_; clear HB_; have sl__ := Aside0.mk sl_; clear sl_; have sl_ := sl__; clear sl__; skip)
  have hk9 : ∀ j, ((fun j => (ok j ∨ w.heap.size ≤ j) ∧ j ≠ w.heap.size ∧ j ≠ w.heap.size + 1) j ∨ w1.heap.size ≤ j) → (fun j => (ok j ∨ w.heap.size ≤ j) ∧ j ≠ w.heap.size ∧ j ≠ w.heap.size + 1) j := fun j hj => by
    rcases hj with hj | hj
    · exact hj
    · exact ⟨.inr (by omega), by omega, by omega⟩
  have HN : Aside0 (BF w2 (fun j => (ok j ∨ w.heap.size ≤ j) ∧ j ≠ w.heap.size ∧ j ≠ w.heap.size + 1) ({ b with i := i, o := o, ie := a, lo := c } : Bd) ({ v with u0 := u0, u1 := u1 } : Vs)) := ⟨⟨HF.out.D, HF.out.p0, HF.out.p3, HF.out.p4, sl_.out.1.mono hk9, sl_.out.2.mono hk9, HF.out.M⟩⟩
  go_wp2_with (first | ((with_reducible refine gate_store (t := 32) (p := 64) (v := .tmp 62) rfl ?_); refine wpList_store_part rfl 32 _ _ rfl rfl _ 9 #[u0, u1, .int .i64 a, .int .i64 c] (by rfl) (by rfl) (BD b v) (BD ({ b with i := i, o := o, ie := a, lo := c } : Bd) ({ v with u0 := u0, u1 := u1 } : Vs)) _ (eG on) (Nat.le_of_ble_eq_true rfl) rfl infUart (by obtain ⟨s1_, s2_⟩ := sl_.out; obtain ⟨_, _, e1_, _⟩ := s1_; obtain ⟨_, _, e2_, _⟩ := s2_; rw [e1_, e2_]; simp [Value.oneCell']) ?_; rintro w3 ⟨hx_, hk_, hb_, hzz_⟩; have HB_ : Aside0 (Below w.heap.size w w3) := Aside0.mk (Below.trans (bG HB) (Below.mono hb_ (by omega))); have hzw3 := Nat.le_of_eq hzz_.symm; (try simp at hzw3); clear hzz_; have pn_ := Aside0.mk (st_put pn.out hk_ (fun h_ => (by repeat (with_reducible first | exact h_ | apply ext_drew | apply ext_drewN | apply ext_alloc | refine blk_far ?_ (by show _ ≠ _; dsimp only; omega) _))) (by omega)); clear pn; (try clear pnc pnf pnl); have pn := pn_; clear pn_; obtain ⟨pnc, pnf, pnl⟩ := cells_of pn.out; (first | (have HN_ := Aside0.mk (BF.step HN.out (fun j hj _ => hk_ j (hj.2.1)))) | (have HN_ := Aside0.mk (BF.step (BF.alloc HN.out _) (fun j hj _ => hk_ j (hj.2.1))))); clear HN; have HN := HN_; clear HN_; (try clear on onc onf onl); have on := Aside0.mk hx_; obtain ⟨onc, onf, onl⟩ := cells_of on.out; clear HB hb_ hk_ hx_; have HB := HB_; clear HB_) | ((with_reducible refine gate_dst (N := 79) rfl ?_); (try (refine gate_guard (by rfl) ?_; dsimp only)); refine wpList_load_row rfl 36 _ rfl _ (by rfl) _ (BD ({ b with i := i, o := o, ie := a, lo := c } : Bd) ({ v with u0 := u0, u1 := u1 } : Vs)) _ _ (eG on) Try.underlying36 rfl infBoard ?_) | ((with_reducible refine gate_store (t := 36) (p := 8) (v := .tmp 79) rfl ?_); refine wpList_store_all rfl 36 _ _ rfl rfl _ (BD ({ b with i := i, o := o, ie := a, lo := c } : Bd) ({ v with u0 := u0, u1 := u1 } : Vs)) (by rfl) (by rfl) _ _ pn.out rfl infBoard (HN.out.one) ?_; rintro w4 ⟨hx_, hk_, hb_, hzz_⟩; have HB_ : Aside0 (Below w.heap.size w w4) := Aside0.mk (Below.trans (bG HB) (Below.mono hb_ (by first | omega | (simp only [sz_alloc, sz_drew, sz_drewN]; omega)))); have hzw4 := hzz_; (try simp at hzw4); clear hzz_; have on_ := Aside0.mk (st_put on.out hk_ (fun h_ => (by repeat (with_reducible first | exact h_ | apply ext_drew | apply ext_drewN | apply ext_alloc | refine blk_far ?_ (by show _ ≠ _; dsimp only; omega) _))) (by omega)); clear on onc onf onl; have on := on_; clear on_; obtain ⟨onc, onf, onl⟩ := cells_of on.out; (first | (have HN_ := Aside0.mk (BF.step HN.out (fun j hj _ => hk_ j (hj.2.2)))) | (have HN_ := Aside0.mk (BF.step (BF.alloc HN.out _) (fun j hj _ => hk_ j (hj.2.2))))); clear HN; have HN := HN_; clear HN_; (try clear pn pnc pnf pnl); have pn := Aside0.mk hx_; obtain ⟨pnc, pnf, pnl⟩ := cells_of pn.out; clear HB hb_ hk_ hx_; have HB := HB_; clear HB_))
  refine bodyPost_ret (results_ct rfl _ _ (w.heap.size + 1) 36 (BD ({ b with i := i, o := o, ie := a, lo := c } : Bd) ({ v with u0 := u0, u1 := u1 } : Vs)) (0, 0) _ rfl pn.out Try.underlying36 rfl infBoard) rfl ⟨({ v with u0 := u0, u1 := u1 } : Vs), rfl, HN.out.mono (fun j hj => hj.1), (bG HB)⟩
end Go.Proofs.Ytphcckhegfgbgaa.Q
end
section
/- bus.Store, bus.Load of memory. -/
namespace Go.Proofs.Ytphcckhegfgbgaa.Q
open Go.RowKit Go.Proofs.YtphcckhegfgbgaaW.PrintWords Go.Proofs.YtphcckhegfgbgaaW.PrintLast Go.Proofs.YtphcckhegfgbgaaW.PrintMore Go.Proofs.Ytphcckhegfgbgaa.L
attribute [local go_sem] Instr.field part asAgg lt_step max2_int min2_int max_two min_two max_three min_three max_four min_four lt_0_1 lt_0_2 lt_1_2 lt_0_3 lt_1_3 lt_2_3 lt_0_4 lt_1_4 lt_2_4 lt_3_4 lt_0_5 lt_1_5 lt_2_5 lt_3_5 lt_4_5 lt_0_6 lt_1_6 lt_2_6 lt_3_6 lt_4_6 lt_5_6 lt_0_7 lt_1_7 lt_2_7 lt_3_7 lt_4_7 lt_5_7 lt_6_7 lt_0_8 lt_1_8 lt_2_8 lt_3_8 lt_4_8 lt_5_8 lt_6_8 lt_7_8
set_option linter.unusedVariables false
set_option linter.unusedSimpArgs false
theorem results_tct {P : Program} {fn : Func} {u p x : Tmp} {ty : TypeId} (h : fn.results = #[.tmp u, .cell p ty, .tmp x]) (tmps : Array Value) (w : World) (g : Nat) (t : TypeId) (cs : Array Value) (fr : Nat × Nat) (d : TypeDesc)
    (hp : tmps.getD p undef = .pointer (some ⟨g, 0, none⟩)) (hg : w.heap[g]? = some (.cells cs t fr)) (hu : P.underlying ty = some d) (hd : (match d with | .struct _ | .array _ _ => true | _ => false) = true) (hi : (P.info? ty).map (·.size) = some cs.size) : (results fn tmps).run P w = .ok (.tuple #[tmps.getD u undef, .agg cs, tmps.getD x undef]) w := by
  have h1 : tmps[p]?.getD undef = .pointer (some ⟨g, 0, none⟩) := by simpa using hp
  simp [results, h, h1, asAddr, run_loadVar_row w g t ty cs fr d hg hu hd hi]
set_option maxHeartbeats 1600000 in
set_option maxRecDepth 100000 in
theorem bld_ram (b : Bd) (v : Vs) (kf : Nat) (at_ size x : Int) (r : Bool) (w : World) (ok : Nat → Prop) (hF : BF w ok b v) (h1 : inZ at_ 33554432 65536 = false) (h2 : inZ at_ 201326592 4194304 = false) (h3 : inZ at_ 268435456 8 = false) (h4 : inZ at_ 268439552 256 = false) (h : ram_Read.f kf b.ram at_ size = some (x, r)) :
    Calls Try.prog 10 #[.agg (BD b v), .int .u64 at_, .int .i64 size] w fun e w' => e = .returned (.tuple #[.int .u64 x, .agg (BD b v), .bool r]) ∧ BF w' (fun j => ok j ∨ w.heap.size ≤ j) b v ∧ Below w.heap.size w w' := by
  have H1 := Aside0.mk h1
  have H2 := Aside0.mk h2
  have H3 := Aside0.mk h3
  have H4 := Aside0.mk h4
  have HH := Aside0.mk h
  clear h h1 h2 h3 h4
  have HB := Aside0.mk (Below.refl w.heap.size w)
  have HF := Aside0.mk hF.bound
  have hu := Try.underlying36
  clear hF
  go_enter Try.func10, Try.ntmps10
  go_upto_region 1 with fail
  obtain ⟨wa, hwa, on0, pn0, hb_, hz0⟩ := letter2 w (.cells (BD b v) 36 (0, 0)) (.cells BDz 36 (0, 0))
  unfold BDz at hwa
  rw [hwa]
  clear hwa
  have hzwa := Nat.le_of_eq hz0.symm
  clear hz0
  have on := Aside0.mk on0
  have pn := Aside0.mk pn0
  clear on0 pn0
  obtain ⟨onc, onf, onl⟩ := cells_of on.out
  obtain ⟨pnc, pnf, pnl⟩ := cells_of pn.out
  have HB_ : Aside0 (Below w.heap.size w wa) := ⟨hb_⟩
  have HF_ : Aside0 (BF wa (fun j => (ok j ∨ w.heap.size ≤ j) ∧ j ≠ w.heap.size ∧ j ≠ w.heap.size + 1) b v) := ⟨(HF.out.below hb_).mono (fun j hj => ⟨.inl hj.1, by omega, by omega⟩)⟩
  clear HB HF hb_; have HB := HB_; have HF := HF_; clear HB_ HF_
  go_wp2_with fail
  (go_at_call 15; (with_reducible refine (within_is at_ _).mono ?_); rintro e_ w1 ⟨rfl, og, hb_⟩; have HB_ : Aside0 (Below w.heap.size w w1) := Aside0.mk (below_step (bG HB) hb_); have hzw1 := hb_.size; (try simp at hzw1); have on_ := Aside0.mk (box_below hb_ (eG on)); have pn_ := Aside0.mk (box_below hb_ (eG pn)); (try clear on onc onf onl); have on := on_; clear on_; obtain ⟨onc, onf, onl⟩ := cells_of on.out; (try clear pn pnc pnf pnl); have pn := pn_; clear pn_; obtain ⟨pnc, pnf, pnl⟩ := cells_of pn.out; have HF_ := Aside0.mk (BF.below (by repeat (with_reducible first | exact HF.out | apply BF.drew | apply BF.drewN | apply BF.alloc)) hb_); clear HF; have HF := HF_; clear HF_; clear HB hb_; have HB := HB_; clear HB_; have og_ := Aside0.mk og; clear og; have og := og_; clear og_; skip)
  go_wp2_with (first | (go_at_call 39; (with_reducible refine (in_c false at_ 33554432 65536 _ _ H1.out og.out).mono ?_); rintro e_ w_ ⟨rfl, rfl⟩) | (go_at_call 39; (with_reducible refine (in_c false at_ 201326592 4194304 _ _ H2.out og.out).mono ?_); rintro e_ w_ ⟨rfl, rfl⟩) | (go_at_call 39; (with_reducible refine (in_c false at_ 268435456 8 _ _ H3.out og.out).mono ?_); rintro e_ w_ ⟨rfl, rfl⟩) | (go_at_call 39; (with_reducible refine (in_c false at_ 268439552 256 _ _ H4.out og.out).mono ?_); rintro e_ w_ ⟨rfl, rfl⟩) | ((with_reducible refine gate_dst (N := 14) rfl ?_); (try (refine gate_guard (by rfl) ?_; dsimp only)); refine wpList_load_part rfl 24 _ rfl _ 0 (by rfl) #[v.D] (BD b v) _ (eG on) rfl _ Try.underlying24 rfl infRam ?_))
  (go_at_call 25; (with_reducible refine (ramRead_c HF.out kf at_ size x r HH.out).mono ?_); rintro e_ w2 ⟨rfl, hb_⟩; have HB_ : Aside0 (Below w.heap.size w w2) := Aside0.mk (below_step (bG HB) hb_); have hzw2 := hb_.size; (try simp at hzw2); have on_ := Aside0.mk (box_below hb_ (eG on)); have pn_ := Aside0.mk (box_below hb_ (eG pn)); (try clear on onc onf onl); have on := on_; clear on_; obtain ⟨onc, onf, onl⟩ := cells_of on.out; (try clear pn pnc pnf pnl); have pn := pn_; clear pn_; obtain ⟨pnc, pnf, pnl⟩ := cells_of pn.out; have HF_ := Aside0.mk (BF.below (by repeat (with_reducible first | exact HF.out | apply BF.drew | apply BF.drewN | apply BF.alloc)) hb_); clear HF; have HF := HF_; clear HF_; clear HB hb_; have HB := HB_; clear HB_)
  go_upto_region 11 with fail
  refine start_ (n := 6) (S := fun w' => w'.heap[w.heap.size]? = some (.cells (BD b v) 36 (0, 0))) (ds := []) #[false, false, false, false, false, false] (by kernel_rfl) rfl rfl (eG on) (fun hHeld => ?_)
  refine pure_ (i := 0) (N := some 72) (v := ?_) (a' := ?_) #[true, false, false, false, false, false] rfl rfl (by kernel_rfl) (fun _ _ _ h => h) (Or.inl ⟨by rfl, ?_⟩) ?_ ?_
  rotate_left
  · intro w'
    go_simp
    with_reducible rfl
  rotate_left
  · simp only [Act.put, List.setIfInBounds_toArray, List.set_cons_zero, List.set_cons_succ, i64_w, i32_w]
    rfl
  refine rowL_ (i := 1) (N := some 73) #[true, true, false, false, false, false] rfl rfl (by kernel_rfl) 36 _ rfl (w.heap.size) (BD b v) (fun _ _ _ h => h) (by rfl) (by rfl) _ _ _ (fun _ h => h) Try.underlying36 rfl infBoard hHeld (a' := ?_) ?_ ?_
  rotate_left
  · simp only [Act.put, List.setIfInBounds_toArray, List.set_cons_zero, List.set_cons_succ, i64_w, i32_w]
    rfl
  refine pure_ (i := 2) (N := some 74) (v := ?_) (a' := ?_) #[true, true, true, false, false, false] rfl rfl (by kernel_rfl) (fun _ _ _ h => h) (Or.inl ⟨by rfl, ?_⟩) ?_ ?_
  rotate_left
  · intro w'
    go_simp
    with_reducible rfl
  rotate_left
  · simp only [Act.put, List.setIfInBounds_toArray, List.set_cons_zero, List.set_cons_succ, i64_w, i32_w]
    rfl
  refine pure_ (i := 3) (N := some 6) (v := ?_) (a' := ?_) #[true, true, true, true, false, false] rfl rfl (by kernel_rfl) (fun _ _ _ h => h) (Or.inl ⟨by rfl, ?_⟩) ?_ ?_
  rotate_left
  · intro w'
    go_simp
    with_reducible rfl
  rotate_left
  · simp only [Act.put, List.setIfInBounds_toArray, List.set_cons_zero, List.set_cons_succ, i64_w, i32_w]
    rfl
  refine rowS_ (i := 4) #[true, true, true, true, true, false] rfl rfl (by kernel_rfl) (by decide) 36 _ _ rfl (w.heap.size + 1) (BD b v) (by rfl) (by rfl) (by rfl) (BDz) 36 (eG pn) rfl infBoard (HF.out.one) ?_
  (rintro wq1 ⟨hx_, hk_, hb_, hzz_⟩; have HB_ : Aside0 (Below w.heap.size w wq1) := Aside0.mk (Below.trans (bG HB) (Below.mono hb_ (by first | omega | (simp only [sz_alloc, sz_drew, sz_drewN]; omega)))); have hzwq1 := hzz_; (try simp at hzwq1); clear hzz_; have on_ := Aside0.mk (st_put on.out hk_ (fun h_ => (by repeat (with_reducible first | exact h_ | apply ext_drew | apply ext_drewN | apply ext_alloc | refine blk_far ?_ (by show _ ≠ _; dsimp only; omega) _))) (by omega)); clear on onc onf onl; have on := on_; clear on_; obtain ⟨onc, onf, onl⟩ := cells_of on.out; (first | (have HF_ := Aside0.mk (BF.step HF.out (fun j hj _ => hk_ j (hj.2.2)))) | (have HF_ := Aside0.mk (BF.step (BF.alloc HF.out _) (fun j hj _ => hk_ j (hj.2.2))))); clear HF; have HF := HF_; clear HF_; (try clear pn pnc pnf pnl); have pn := Aside0.mk hx_; obtain ⟨pnc, pnf, pnl⟩ := cells_of pn.out; clear HB hb_ hk_ hx_; have HB := HB_; clear HB_)
  refine ⟨(eG on), ?_⟩
  refine pure_ (i := 5) (N := some 8) (v := ?_) (a' := ?_) #[true, true, true, true, true, true] rfl rfl (by kernel_rfl) (fun _ _ _ h => h) (Or.inl ⟨by rfl, ?_⟩) ?_ ?_
  rotate_left
  · intro w'
    go_simp
    with_reducible rfl
  rotate_left
  · simp only [Act.put, List.setIfInBounds_toArray, List.set_cons_zero, List.set_cons_succ, i64_w, i32_w]
    rfl
  refine done_ (by kernel_rfl) ?_
  go_wp2
  refine bodyPost_ret (results_tct rfl _ _ (w.heap.size + 1) 36 (BD b v) (0, 0) _ rfl pn.out Try.underlying36 rfl infBoard) rfl ⟨rfl, HF.out.mono (fun j hj => hj.1), (bG HB)⟩
end Go.Proofs.Ytphcckhegfgbgaa.Q
end
section
/- bus.New. -/
namespace Go.Proofs.Ytphcckhegfgbgaa.Q
open Go.RowKit Go.Proofs.YtphcckhegfgbgaaW.PrintWords Go.Proofs.YtphcckhegfgbgaaW.PrintLast Go.Proofs.YtphcckhegfgbgaaW.PrintMore Go.Proofs.Ytphcckhegfgbgaa.L
attribute [local go_sem] Instr.field part asAgg lt_step max2_int min2_int max_two min_two max_three min_three max_four min_four lt_0_1 lt_0_2 lt_1_2 lt_0_3 lt_1_3 lt_2_3 lt_0_4 lt_1_4 lt_2_4 lt_3_4 lt_0_5 lt_1_5 lt_2_5 lt_3_5 lt_4_5 lt_0_6 lt_1_6 lt_2_6 lt_3_6 lt_4_6 lt_5_6 lt_0_7 lt_1_7 lt_2_7 lt_3_7 lt_4_7 lt_5_7 lt_6_7 lt_0_8 lt_1_8 lt_2_8 lt_3_8 lt_4_8 lt_5_8 lt_6_8 lt_7_8
set_option linter.unusedVariables false
set_option linter.unusedSimpArgs false
def bH0 (r : List Int) (o : List Int) (mac : List Int) : Bd := ⟨r, 0, 0, false, [0, 0, 0], 0, 0, [0, 0], [0, 0], [], o, 0, 0, new1, mac⟩
theorem r0_new : ram_New.f 0 = some ([], 2) := by kernel_rfl
theorem ramNew_c (n : Int) (l : List Int) (e : Int) (w : World) (h : ram_New.f n = some (l, e)) : Calls Try.prog 36 #[.int .i64 n] w fun r w' => ∃ D : Value, r = .returned (.tuple #[.agg #[D], .int .i64 e]) ∧ SL .u8 w' (fun j => w.heap.size ≤ j) D l ∧ Below w.heap.size w w' := by
  refine (ram_New.calls n l e w h).mono ?_
  rintro r w' ⟨D, he, hD, hb⟩
  exact ⟨D, he, SL.of_R hD, hb⟩
theorem nicNew_c (v : Value) (mac : List Int) (w : World) (ok : Nat → Prop) (hm : SL .u8 w ok v mac) (h6 : mac.length = 6) : Calls Try.prog 37 #[v] w fun r w' => ∃ M : Value, r = .returned (.tuple #[.agg (C14 new1 M), .int .i64 0]) ∧ SL .u8 w' (fun j => w.heap.size ≤ j) M mac ∧ Below w.heap.size w w' := by
  obtain ⟨A, c, e, hc, hF⟩ := hm
  rw [e]
  refine (New_yes A c mac w ok hF hc h6).mono ?_
  rintro r w' ⟨A', c', he, hc', hF', hb⟩
  exact ⟨_, he, ⟨A', c', rfl, hc', hF'⟩, hb⟩
theorem plicNew_c (w : World) : Calls Try.prog 38 #[] w fun r w' => ∃ p0 p3 p4 : Value, r = .returned (.agg #[p0, .int .i64 0, .int .i64 0, p3, p4]) ∧ (SL .i64 w' (fun j => w.heap.size ≤ j) p0 [0, 0, 0] ∧ SL .i64 w' (fun j => w.heap.size ≤ j) p3 [0, 0] ∧ SL .i64 w' (fun j => w.heap.size ≤ j) p4 [0, 0]) ∧ Below w.heap.size w w' := by
  refine (plic_New.calls [0, 0, 0] 0 0 [0, 0] [0, 0] w (by kernel_rfl)).mono ?_
  rintro r w' ⟨p0, p3, p4, he, h0, h3, h4, hb⟩
  exact ⟨p0, p3, p4, he, ⟨SL.of_R h0, SL.of_R h3, SL.of_R h4⟩, hb⟩
set_option maxHeartbeats 1600000 in
set_option maxRecDepth 100000 in
theorem bnew_no (v : Value) (w : World) : Calls Try.prog 13 #[.int .i64 0, v] w fun r w' => r = .returned (.tuple #[.agg BDz, .int .i64 2]) ∧ Below w.heap.size w w' := by
  have HB := Aside0.mk (Below.refl w.heap.size w)
  have hu := Try.underlying36
  have hub := Try.underlying24
  go_enter Try.func13, Try.ntmps13
  go_upto_region 1 with fail
  obtain ⟨wa, hwa, pn0, hb_, hz0⟩ := letter1 w (.cells BDz 36 (0, 0))
  unfold BDz at hwa
  rw [hwa]
  clear hwa
  have hzwa := Nat.le_of_eq hz0.symm
  clear hz0
  have pn := Aside0.mk pn0
  clear pn0
  obtain ⟨pnc, pnf, pnl⟩ := cells_of pn.out
  have HB_ : Aside0 (Below w.heap.size w wa) := ⟨hb_⟩
  clear HB hb_; have HB := HB_; clear HB_
  go_wp2_with fail
  (go_at_call 36; (with_reducible refine (ramNew_c 0 [] 2 _ r0_new).mono ?_); rintro e_ w1 ⟨D, rfl, sl_, hb_⟩; have HB_ : Aside0 (Below w.heap.size w w1) := Aside0.mk (below_step (bG HB) hb_); have hzw1 := hb_.size; (try simp at hzw1); have pn_ := Aside0.mk (box_below hb_ (eG pn)); (try clear pn pnc pnf pnl); have pn := pn_; clear pn_; obtain ⟨pnc, pnf, pnl⟩ := cells_of pn.out; clear HB hb_; have HB := HB_; clear HB_; have sl__ := Aside0.mk sl_; clear sl_; have sl_ := sl__; clear sl__; skip)
  obtain ⟨A_D, c_D, eD, hcD, hFD⟩ := sl_.out
  subst eD
  clear sl_
  have HFD := Aside0.mk hFD
  clear hFD
  go_wp2_with (first | ((with_reducible refine gate_store (t := 36) (p := 4) (v := .tmp 16) rfl ?_); refine wpList_store_all rfl 36 _ _ rfl rfl _ BDz (by rfl) (by rfl) _ _ (eG pn) rfl infBoard (by unfold BDz; simp [Value.oneCell']) ?_; rintro w2 ⟨hx_, hk_, hb_, hzz_⟩; have HB_ : Aside0 (Below w.heap.size w w2) := Aside0.mk (Below.trans (bG HB) (Below.mono hb_ (by first | omega | (simp only [sz_alloc, sz_drew, sz_drewN]; omega)))); have hzw2 := hzz_; (try simp at hzw2); clear hzz_; (try clear pn pnc pnf pnl); have pn := Aside0.mk hx_; obtain ⟨pnc, pnf, pnl⟩ := cells_of pn.out; clear HB hb_ hk_ hx_; have HB := HB_; clear HB_))
  refine bodyPost_ret (results_ct rfl _ _ w.heap.size 36 BDz (0, 0) _ rfl pn.out Try.underlying36 rfl infBoard) rfl ⟨rfl, (bG HB)⟩
set_option maxHeartbeats 1600000 in
set_option maxRecDepth 100000 in
theorem bnew_yes (v : Value) (mac : List Int) (w : World) (ok : Nat → Prop) (hm : SL .u8 w ok v mac) (h6 : mac.length = 6) (r0 : List Int) (hr0 : ram_New.f 4096 = some (r0, 0)) : Calls Try.prog 13 #[.int .i64 4096, v] w fun r w' => ∃ v' : Vs, r = .returned (.tuple #[.agg (BD (bH0 r0 [] mac) v'), .int .i64 0]) ∧ BF w' (fun j => w.heap.size ≤ j) (bH0 r0 [] mac) v' ∧ Below w.heap.size w w' := by
  have HB := Aside0.mk (Below.refl w.heap.size w)
  have HM := Aside0.mk hm
  have H6 := Aside0.mk h6
  have HR0 := Aside0.mk hr0
  have hu := Try.underlying36
  have hub := Try.underlying24
  have hun := Try.underlying34
  clear hm h6 hr0
  go_enter Try.func13, Try.ntmps13
  go_upto_region 1 with fail
  obtain ⟨wa, hwa, pn0, hb_, hz0⟩ := letter1 w (.cells BDz 36 (0, 0))
  unfold BDz at hwa
  rw [hwa]
  clear hwa
  have hzwa := Nat.le_of_eq hz0.symm
  clear hz0
  have pn := Aside0.mk pn0
  clear pn0
  obtain ⟨pnc, pnf, pnl⟩ := cells_of pn.out
  have HB_ : Aside0 (Below w.heap.size w wa) := ⟨hb_⟩
  have HM_ := Aside0.mk (HM.out.below hb_)
  clear HB HM hb_; have HB := HB_; have HM := HM_; clear HB_ HM_
  go_wp2_with fail
  (go_at_call 36; (with_reducible refine (ramNew_c 4096 r0 0 _ HR0.out).mono ?_); rintro e_ w1 ⟨D, rfl, sl_, hb_⟩; have HB_ : Aside0 (Below w.heap.size w w1) := Aside0.mk (below_step (bG HB) hb_); have hzw1 := hb_.size; (try simp at hzw1); have pn_ := Aside0.mk (box_below hb_ (eG pn)); (try clear pn pnc pnf pnl); have pn := pn_; clear pn_; obtain ⟨pnc, pnf, pnl⟩ := cells_of pn.out; have HM_ := Aside0.mk (SL.below (by repeat (with_reducible first | exact HM.out | apply SL.drew | apply SL.drewN | apply SL.alloc)) hb_); clear HM; have HM := HM_; clear HM_; clear HB hb_; have HB := HB_; clear HB_; have sl__ := Aside0.mk sl_; clear sl_; have sl_ := sl__; clear sl__; skip)
  obtain ⟨A_D, c_D, eD, hcD, hFD⟩ := sl_.out
  subst eD
  clear sl_
  have hD : SL .u8 w1 (fun j => w.heap.size + 1 ≤ j ∧ j < w1.heap.size) (.slice A_D r0.length c_D) r0 := ⟨A_D, c_D, rfl, hcD, Kd.F_mono (Kd.F_bound hFD) (fun j hj => ⟨by have := hj.1; omega, hj.2⟩)⟩
  have HD := Aside0.mk hD
  clear hD hFD hcD
  obtain ⟨RD, hRD⟩ : ∃ RD, r0.length = RD := ⟨_, rfl⟩
  rw [hRD] at HD
  rw [hRD]
  clear hRD
  go_upto_region 2 with fail
  obtain ⟨wb, hwb, or0, hb_, hz0⟩ := letter1 w1 (.cells #[.slice A_D RD c_D] 24 (0, 0))
  rw [hwb]
  clear hwb
  have hzwb := Nat.le_of_eq hz0.symm
  clear hz0
  have orr := Aside0.mk or0
  clear or0
  have HB_ : Aside0 (Below w.heap.size w wb) := ⟨below_step HB.out hb_⟩
  have HM_ := Aside0.mk (HM.out.below hb_)
  have HD_ := Aside0.mk (HD.out.below hb_)
  have pn_ := Aside0.mk (box_below hb_ pn.out)
  clear HB HM HD hb_ pn pnc pnf pnl; have HB := HB_; have HM := HM_; have HD := HD_; have pn := pn_; clear HB_ HM_ HD_ pn_
  obtain ⟨pnc, pnf, pnl⟩ := cells_of pn.out
  obtain ⟨orrc, orrf, orrl⟩ := cells_of orr.out
  go_wp2_with fail
  (go_at_call 37; (with_reducible refine (nicNew_c v mac _ ok HM.out H6.out).mono ?_); rintro e_ w2 ⟨M, rfl, sl_, hb_⟩; have HB_ : Aside0 (Below w.heap.size w w2) := Aside0.mk (below_step (bG HB) hb_); have hzw2 := hb_.size; (try simp at hzw2); have pn_ := Aside0.mk (box_below hb_ (eG pn)); have orr_ := Aside0.mk (box_below hb_ (eG orr)); (try clear pn pnc pnf pnl); have pn := pn_; clear pn_; obtain ⟨pnc, pnf, pnl⟩ := cells_of pn.out; (try clear orr orrc orrf orrl); have orr := orr_; clear orr_; obtain ⟨orrc, orrf, orrl⟩ := cells_of orr.out; have HD_ := Aside0.mk (SL.below (by repeat (with_reducible first | exact HD.out | apply SL.drew | apply SL.drewN | apply SL.alloc)) hb_); clear HD; have HD := HD_; clear HD_; clear HB hb_; have HB := HB_; clear HB_; have sl__ := Aside0.mk sl_; clear sl_; have sl_ := sl__; clear sl__; skip)
  obtain ⟨A_M, c_M, eM, hcM, hFM⟩ := sl_.out
  subst eM
  clear sl_ HM
  have HM : Aside0 (SL .u8 w2 (fun j => wb.heap.size ≤ j ∧ j < w2.heap.size) (.slice A_M mac.length c_M) mac) := ⟨⟨A_M, c_M, rfl, hcM, Kd.F_bound hFM⟩⟩
  clear hFM hcM
  go_upto_region 5 with (first | ((with_reducible refine gate_store (t := 34) (p := 8) (v := .tmp 21) rfl ?_); refine wpList_store_all rfl 34 _ _ rfl rfl _ #[.int .i64 0, .int .i64 0, .int .i64 0, .int .u64 0, .int .i64 1, .int .i64 0, .int .i64 0, .int .u64 0, .int .i64 1, .int .i64 0, .int .i64 0, .int .i64 0, .int .i64 0, .slice A_M mac.length c_M] (by rfl) (by rfl) _ _ (nb_1 _ _) rfl infNic (C14_one new1 _ _ _) ?_; rintro w3 ⟨hx_, hk_, hb_, hzz_⟩; have HB_ : Aside0 (Below w.heap.size w w3) := Aside0.mk (Below.trans (bG HB) (Below.mono hb_ (by first | omega | (simp only [sz_alloc, sz_drew, sz_drewN]; omega)))); have hzw3 := hzz_; (try simp at hzw3); clear hzz_; have pn_ := Aside0.mk (st_put pn.out hk_ (fun h_ => (by repeat (with_reducible first | exact h_ | apply ext_drew | apply ext_drewN | apply ext_alloc | refine blk_far ?_ (by show _ ≠ _; dsimp only; omega) _))) (by omega)); clear pn pnc pnf pnl; have pn := pn_; clear pn_; obtain ⟨pnc, pnf, pnl⟩ := cells_of pn.out; have orr_ := Aside0.mk (st_put orr.out hk_ (fun h_ => (by repeat (with_reducible first | exact h_ | apply ext_drew | apply ext_drewN | apply ext_alloc | refine blk_far ?_ (by show _ ≠ _; dsimp only; omega) _))) (by omega)); clear orr orrc orrf orrl; have orr := orr_; clear orr_; obtain ⟨orrc, orrf, orrl⟩ := cells_of orr.out; (first | (have HD_ := Aside0.mk (SL.step HD.out (fun j hj _ => hk_ j ((by have := hj.2; omega))))) | (have HD_ := Aside0.mk (SL.step (SL.alloc HD.out _) (fun j hj _ => hk_ j ((by have := hj.2; omega)))))); clear HD; have HD := HD_; clear HD_; (first | (have HM_ := Aside0.mk (SL.step HM.out (fun j hj _ => hk_ j ((by have := hj.2; omega))))) | (have HM_ := Aside0.mk (SL.step (SL.alloc HM.out _) (fun j hj _ => hk_ j ((by have := hj.2; omega)))))); clear HM; have HM := HM_; clear HM_; (try clear om omc omf oml); have om := Aside0.mk hx_; obtain ⟨omc, omf, oml⟩ := cells_of om.out; clear HB hb_ hk_ hx_; have HB := HB_; clear HB_))
  go_upto_region 7 with fail
  refine start_ (n := 6) (S := fun w' => w'.heap[w1.heap.size]? = some (.cells #[.slice A_D RD c_D] 24 (0, 0)) ∧ w'.heap[w2.heap.size]? = some (.cells #[.int .i64 0, .int .i64 0, .int .i64 0, .int .u64 0, .int .i64 1, .int .i64 0, .int .i64 0, .int .u64 0, .int .i64 1, .int .i64 0, .int .i64 0, .int .i64 0, .int .i64 0, .slice A_M mac.length c_M] 34 (0, 0))) (ds := []) #[false, false, false, false, false, false] (by kernel_rfl) rfl rfl ⟨(eG orr), (eG om)⟩ (fun hHeld => ?_)
  refine rowL_ (i := 0) (N := some 27) #[true, false, false, false, false, false] rfl rfl (by kernel_rfl) 24 _ rfl (w1.heap.size) (#[.slice A_D RD c_D]) (fun _ _ _ h => h) (by rfl) (by rfl) _ _ _ (fun _ h => h.1) Try.underlying24 rfl infRam hHeld (a' := ?_) ?_ ?_
  rotate_left
  · simp only [Act.put, List.setIfInBounds_toArray, List.set_cons_zero, List.set_cons_succ, i64_w, i32_w]
    rfl
  refine rowL_ (i := 2) (N := some 29) #[true, false, true, false, false, false] rfl rfl (by kernel_rfl) 34 _ rfl (w2.heap.size) (#[.int .i64 0, .int .i64 0, .int .i64 0, .int .u64 0, .int .i64 1, .int .i64 0, .int .i64 0, .int .u64 0, .int .i64 1, .int .i64 0, .int .i64 0, .int .i64 0, .int .i64 0, .slice A_M mac.length c_M]) (fun _ _ _ h => h) (by rfl) (by rfl) _ _ _ (fun _ h => h.2) Try.underlying34 rfl infNic hHeld (a' := ?_) ?_ ?_
  rotate_left
  · simp only [Act.put, List.setIfInBounds_toArray, List.set_cons_zero, List.set_cons_succ, i64_w, i32_w]
    rfl
  refine one_ (i := 1) (N := some 28) #[true, true, true, false, false, false] rfl rfl (by kernel_rfl) (by decide) (fun K hK => ?_)
  (refine goes_ Try.func38 (by kernel_rfl) rfl #[] (by rfl) rfl rfl (by (try simp only [List.map_toArray, List.map_cons, List.map_nil]); first | done | rfl) ?_; (with_reducible refine (plicNew_c _).mono ?_); rintro e_ w4 ⟨p0, p3, p4, rfl, sl_, hb_⟩; refine ⟨_, rfl, ?_⟩; have HB_ : Aside0 (Below w.heap.size w w4) := Aside0.mk (below_step (bG HB) hb_); have hzw4 := hb_.size; (try simp at hzw4); have pn_ := Aside0.mk (box_below hb_ (eG pn)); have orr_ := Aside0.mk (box_below hb_ (eG orr)); have om_ := Aside0.mk (box_below hb_ (eG om)); (try clear pn pnc pnf pnl); have pn := pn_; clear pn_; obtain ⟨pnc, pnf, pnl⟩ := cells_of pn.out; (try clear orr orrc orrf orrl); have orr := orr_; clear orr_; obtain ⟨orrc, orrf, orrl⟩ := cells_of orr.out; (try clear om omc omf oml); have om := om_; clear om_; obtain ⟨omc, omf, oml⟩ := cells_of om.out; have HD_ := Aside0.mk (SL.below (by repeat (with_reducible first | exact HD.out | apply SL.drew | apply SL.drewN | apply SL.alloc)) hb_); clear HD; have HD := HD_; clear HD_; have HM_ := Aside0.mk (SL.below (by repeat (with_reducible first | exact HM.out | apply SL.drew | apply SL.drewN | apply SL.alloc)) hb_); clear HM; have HM := HM_; clear HM_; clear HB hb_; have HB := HB_; clear HB_; have sl__ := Aside0.mk sl_; clear sl_; have sl_ := sl__; clear sl__; skip)
  have HN : Aside0 (BF w4 (fun j => w.heap.size + 1 ≤ j) (bH0 r0 [] mac) (⟨.slice A_D RD c_D, p0, p3, p4, .slice none 0 0, .slice none 0 0, .slice A_M mac.length c_M⟩ : Vs)) := ⟨⟨HD.out.mono (fun j hj => hj.1), sl_.out.1.mono (fun j hj => by have h_ : w3.heap.size ≤ j := hj; omega), sl_.out.2.1.mono (fun j hj => by have h_ : w3.heap.size ≤ j := hj; omega), sl_.out.2.2.mono (fun j hj => by have h_ : w3.heap.size ≤ j := hj; omega), SL.nil, SL.nil, HM.out.mono (fun j hj => by have := hj.1; omega)⟩⟩
  refine hK.out _ _ ⟨(eG orr), (eG om)⟩ (fun hHeld => ?_)
  clear hK K
  refine norm_ (a' := ?_) ?_ ?_
  rotate_left
  · simp only [Act.put, List.setIfInBounds_toArray, List.set_cons_zero, List.set_cons_succ, i64_w, i32_w]
    rfl
  refine pure_ (i := 3) (N := some 30) (v := ?_) (a' := ?_) #[true, true, true, true, false, false] rfl rfl (by kernel_rfl) (fun _ _ _ h => h) (Or.inl ⟨by rfl, ?_⟩) ?_ ?_
  rotate_left
  · intro w'
    go_simp
    with_reducible rfl
  rotate_left
  · simp only [Act.put, List.setIfInBounds_toArray, List.set_cons_zero, List.set_cons_succ, i64_w, i32_w]
    rfl
  refine rowS_ (i := 4) #[true, true, true, true, true, false] rfl rfl (by kernel_rfl) (by decide) 36 _ _ rfl (w.heap.size) (BD (bH0 r0 [] mac) (⟨.slice A_D RD c_D, p0, p3, p4, .slice none 0 0, .slice none 0 0, .slice A_M mac.length c_M⟩ : Vs)) (by rfl) (by rfl) (by rfl) BDz 36 (eG pn) rfl infBoard HN.out.one ?_
  (rintro w5 ⟨hx_, hk_, hb_, hzz_⟩; have HB_ : Aside0 (Below w.heap.size w w5) := Aside0.mk (Below.trans (bG HB) (Below.mono hb_ (by first | omega | (simp only [sz_alloc, sz_drew, sz_drewN]; omega)))); have hzw5 := hzz_; (try simp at hzw5); clear hzz_; have orr_ := Aside0.mk (st_put orr.out hk_ (fun h_ => (by repeat (with_reducible first | exact h_ | apply ext_drew | apply ext_drewN | apply ext_alloc | refine blk_far ?_ (by show _ ≠ _; dsimp only; omega) _))) (by omega)); clear orr orrc orrf orrl; have orr := orr_; clear orr_; obtain ⟨orrc, orrf, orrl⟩ := cells_of orr.out; have om_ := Aside0.mk (st_put om.out hk_ (fun h_ => (by repeat (with_reducible first | exact h_ | apply ext_drew | apply ext_drewN | apply ext_alloc | refine blk_far ?_ (by show _ ≠ _; dsimp only; omega) _))) (by omega)); clear om omc omf oml; have om := om_; clear om_; obtain ⟨omc, omf, oml⟩ := cells_of om.out; (first | (have HN_ := Aside0.mk (BF.step HN.out (fun j hj _ => hk_ j (by have h_ : w.heap.size + 1 ≤ j := hj; omega)))) | (have HN_ := Aside0.mk (BF.step (BF.alloc HN.out _) (fun j hj _ => hk_ j (by have h_ : w.heap.size + 1 ≤ j := hj; omega))))); clear HN; have HN := HN_; clear HN_; (try clear pn pnc pnf pnl); have pn := Aside0.mk hx_; obtain ⟨pnc, pnf, pnl⟩ := cells_of pn.out; clear HB hb_ hk_ hx_; have HB := HB_; clear HB_)
  refine ⟨⟨(eG orr), (eG om)⟩, ?_⟩
  refine pure_ (i := 5) (N := some 5) (v := ?_) (a' := ?_) #[true, true, true, true, true, true] rfl rfl (by kernel_rfl) (fun _ _ _ h => h) (Or.inl ⟨by rfl, ?_⟩) ?_ ?_
  rotate_left
  · intro w'
    go_simp
    with_reducible rfl
  rotate_left
  · simp only [Act.put, List.setIfInBounds_toArray, List.set_cons_zero, List.set_cons_succ, i64_w, i32_w]
    rfl
  refine done_ (by kernel_rfl) ?_
  go_wp2
  refine bodyPost_ret (results_ct rfl _ _ w.heap.size 36 (BD (bH0 r0 [] mac) (⟨.slice A_D RD c_D, p0, p3, p4, .slice none 0 0, .slice none 0 0, .slice A_M mac.length c_M⟩ : Vs)) (0, 0) _ rfl pn.out Try.underlying36 rfl infBoard) rfl ⟨(⟨.slice A_D RD c_D, p0, p3, p4, .slice none 0 0, .slice none 0 0, .slice A_M mac.length c_M⟩ : Vs), rfl, HN.out.mono (fun j hj => Nat.le_of_succ_le hj), (bG HB)⟩
end Go.Proofs.Ytphcckhegfgbgaa.Q
end
section
/- heads, their calls. -/
namespace Go.Proofs.Ytphcckhegfgbgaa.Q
open Go.RowKit Go.Proofs.YtphcckhegfgbgaaW.PrintWords Go.Proofs.YtphcckhegfgbgaaW.PrintLast Go.Proofs.YtphcckhegfgbgaaW.PrintMore Go.Proofs.Ytphcckhegfgbgaa.L
attribute [local go_sem] Instr.field part asAgg lt_step max2_int min2_int max_two min_two max_three min_three max_four min_four lt_0_1 lt_0_2 lt_1_2 lt_0_3 lt_1_3 lt_2_3 lt_0_4 lt_1_4 lt_2_4 lt_3_4 lt_0_5 lt_1_5 lt_2_5 lt_3_5 lt_4_5 lt_0_6 lt_1_6 lt_2_6 lt_3_6 lt_4_6 lt_5_6 lt_0_7 lt_1_7 lt_2_7 lt_3_7 lt_4_7 lt_5_7 lt_6_7 lt_0_8 lt_1_8 lt_2_8 lt_3_8 lt_4_8 lt_5_8 lt_6_8 lt_7_8
set_option linter.unusedVariables false
set_option linter.unusedSimpArgs false
def mH : List Int := [0, 0, 0, 0, 0, 0]
/-- The memory of the heads: made, written. -/
structure HR (r0 r2 : List Int) : Prop where
  new : ram_New.f 4096 = some (r0, 0)
  wr : ram_Write.f r0 2147483648 8 4660 = some (r2, true)
  no : ram_Write.f r2 268435464 1 0 = some (r2, false)
  rd : ram_Read.f 8 r2 2147483648 2 = some (4660, true)
theorem hr_is : ∃ r0 r2, HR r0 r2 := ⟨List.replicate 4096 0, writeL (List.replicate 4096 0) 2147483648 8 4660, by kernel_rfl, by kernel_rfl, by kernel_rfl, by kernel_rfl⟩
theorem fU : uart_Store.f [] [] 0 0 (IntKind.u64.wrap (268435456 - 268435456)) 1 65 = some ([], [65], 0, 0, true) := by kernel_rfl
section
variable {w : World} {ok : Nat → Prop} {v : Vs} {r0 r2 : List Int}
theorem storeH1 (hF : BF w ok (bH0 r0 [] mH) v) : Calls Try.prog 9 #[.agg (BD (bH0 r0 [] mH) v), .int .u64 268435456, .int .i64 1, .int .u64 65] w fun e w' => ∃ v' : Vs, e = .returned (.tuple #[.agg (BD (bH0 r0 [65] mH) v'), .bool true]) ∧ BF w' (fun j => ok j ∨ w.heap.size ≤ j) (bH0 r0 [65] mH) v' ∧ Below w.heap.size w w' :=
  bst_uart (bH0 r0 [] mH) v 268435456 1 65 [] [65] 0 0 true w ok hF (by kernel_rfl) (by kernel_rfl) (by kernel_rfl) fU
theorem storeH2 (h : HR r0 r2) (hF : BF w ok (bH0 r0 [65] mH) v) : Calls Try.prog 9 #[.agg (BD (bH0 r0 [65] mH) v), .int .u64 2147483648, .int .i64 8, .int .u64 4660] w fun e w' => ∃ v' : Vs, e = .returned (.tuple #[.agg (BD (bH0 r2 [65] mH) v'), .bool true]) ∧ BF w' (fun j => ok j ∨ w.heap.size ≤ j) (bH0 r2 [65] mH) v' ∧ Below w.heap.size w w' :=
  bst_ram (bH0 r0 [65] mH) v 2147483648 8 4660 r2 true w ok hF (by kernel_rfl) (by kernel_rfl) (by kernel_rfl) (by kernel_rfl) h.wr
theorem storeH3 (h : HR r0 r2) (hF : BF w ok (bH0 r2 [65] mH) v) : Calls Try.prog 9 #[.agg (BD (bH0 r2 [65] mH) v), .int .u64 268435464, .int .i64 1, .int .u64 0] w fun e w' => ∃ v' : Vs, e = .returned (.tuple #[.agg (BD (bH0 r2 [65] mH) v'), .bool false]) ∧ BF w' (fun j => ok j ∨ w.heap.size ≤ j) (bH0 r2 [65] mH) v' ∧ Below w.heap.size w w' :=
  bst_ram (bH0 r2 [65] mH) v 268435464 1 0 r2 false w ok hF (by kernel_rfl) (by kernel_rfl) (by kernel_rfl) (by kernel_rfl) h.no
theorem loadH (h : HR r0 r2) (hF : BF w ok (bH0 r2 [65] mH) v) : Calls Try.prog 10 #[.agg (BD (bH0 r2 [65] mH) v), .int .u64 2147483648, .int .i64 2] w fun e w' => e = .returned (.tuple #[.int .u64 4660, .agg (BD (bH0 r2 [65] mH) v), .bool true]) ∧ BF w' (fun j => ok j ∨ w.heap.size ≤ j) (bH0 r2 [65] mH) v ∧ Below w.heap.size w w' :=
  bld_ram (bH0 r2 [65] mH) v 8 2147483648 2 4660 true w ok hF (by kernel_rfl) (by kernel_rfl) (by kernel_rfl) (by kernel_rfl) h.rd
theorem linesH (hF : BF w ok (bH0 r2 [65] mH) v) : Calls Try.prog 12 #[.agg (BD (bH0 r2 [65] mH) v)] w fun e w' => ∃ v' : Vs, e = .returned (.tuple #[.agg (BD (bH0 r2 [65] mH) v'), .int .u64 128]) ∧ BF w' (fun j => ok j ∨ w.heap.size ≤ j) (bH0 r2 [65] mH) v' ∧ Below w.heap.size w w' :=
  blines (bH0 r2 [65] mH) v false false false true [0, 0, 0] 0 0 [0, 0] [0, 0] 0 0 w ok hF (by kernel_rfl) (by kernel_rfl) (by kernel_rfl) (by kernel_rfl) (by kernel_rfl) (by kernel_rfl)
end
theorem sl6 (w w' : World) (g : Nat) (h : w'.heap[g]? = some (.cells (Array.replicate 6 (.int .u8 0)) 5 (0, 0))) : SL .u8 w' (fun j => j < w'.heap.size) (.slice (some ⟨g, 0, none⟩) 6 6) mH := ⟨some ⟨g, 0, none⟩, 6, rfl, Nat.le_refl _, F_in (C_blk h rfl (by decide) rfl)⟩
theorem out1 (w : World) (ok : Nat → Prop) (v : Value) (c : Nat) (g : Nat) (hc : 1 ≤ c) (hv : SL .u8 w ok v [65]) (hg : w.heap[g]? = some (.cells #[.int .u8 65] 5 (0, 0))) : Calls Try.prog 14 #[v, .slice (some ⟨g, 0, none⟩) 1 c] w fun e w' => e = .returned (.bool true) ∧ Below w.heap.size w w' := by
  obtain ⟨A, c0, e, h0, hF⟩ := hv
  rw [e]
  refine (drawbridgeref01_Same.calls A c0 [65] (some ⟨g, 0, none⟩) c [65] true w (Kd.F_now hF) h0 (C_blk hg rfl (by decide) rfl) hc (by unfold drawbridgeref01_Same.f; rw [beq_self_eq_true])).mono ?_
  rintro e w' ⟨rfl, hd⟩
  obtain ⟨n, rfl⟩ := hd.out
  exact ⟨rfl, pw_below_drewN (Below.refl _ _) n⟩
end Go.Proofs.Ytphcckhegfgbgaa.Q
end
section
/- heads. -/
namespace Go.Proofs.Ytphcckhegfgbgaa.Q
open Go.RowKit Go.Proofs.YtphcckhegfgbgaaW.PrintWords Go.Proofs.YtphcckhegfgbgaaW.PrintLast Go.Proofs.YtphcckhegfgbgaaW.PrintMore Go.Proofs.Ytphcckhegfgbgaa.L
attribute [local go_sem] Instr.field part asAgg lt_step max2_int min2_int max_two min_two max_three min_three max_four min_four lt_0_1 lt_0_2 lt_1_2 lt_0_3 lt_1_3 lt_2_3 lt_0_4 lt_1_4 lt_2_4 lt_3_4 lt_0_5 lt_1_5 lt_2_5 lt_3_5 lt_4_5 lt_0_6 lt_1_6 lt_2_6 lt_3_6 lt_4_6 lt_5_6 lt_0_7 lt_1_7 lt_2_7 lt_3_7 lt_4_7 lt_5_7 lt_6_7 lt_0_8 lt_1_8 lt_2_8 lt_3_8 lt_4_8 lt_5_8 lt_6_8 lt_7_8
set_option linter.unusedVariables false
set_option linter.unusedSimpArgs false
set_option maxHeartbeats 1600000 in
set_option maxRecDepth 100000 in
theorem heads_runs (w : World) : Calls Try.prog 8 #[] w fun e w' => e = .returned (.bool true) ∧ Below w.heap.size w w' := by
  have HB := Aside0.mk (Below.refl w.heap.size w)
  have hu := Try.underlying36
  obtain ⟨r0, r2, hr⟩ := hr_is
  have HR := Aside0.mk hr
  clear hr
  have hmk : ∀ W : World, (Instr.makeSlice 22 (.int .i64 6) (.int .i64 6)).run Try.prog W = .ok (.slice (some ⟨W.heap.size, 0, none⟩) 6 6) (W.alloc (.cells (Array.replicate 6 (.int .u8 0)) 5 (0, 0))) := fun _ => by kernel_rfl
  go_enter Try.func8, Try.ntmps8
  go_wp2_with fail
  (go_at_call 13; (with_reducible refine (bnew_yes _ mH _ _ (sl6 w _ _ (nb_1 _ _)) rfl r0 HR.out.new).mono ?_); rintro e_ w1 ⟨v1, rfl, HF2, hb_⟩; have HB_ : Aside0 (Below w.heap.size w w1) := Aside0.mk (below_step (bG HB) hb_); have hzw1 := hb_.size; (try simp at hzw1); clear HB hb_; have HB := HB_; clear HB_; have HF2_ := Aside0.mk HF2; clear HF2; have HF2 := HF2_; clear HF2_; skip)
  have HF_ := Aside0.mk (HF2.out.bound.mono (ok' := fun j => True ∧ j < w1.heap.size) (fun j hj => ⟨trivial, hj.2⟩))
  (try clear HF)
  (try clear HF2)
  have HF := HF_
  clear HF_
  go_wp2_with (first | ((with_reducible refine gate_store (t := 36) (p := 1) (v := .tmp 17) rfl ?_); refine wpList_store_all rfl 36 _ _ rfl rfl _ (BD (bH0 r0 [] mH) v1) (by rfl) (by rfl) _ _ (nb_1 _ _) rfl infBoard (HF.out.one) ?_; rintro w2 ⟨hx_, hk_, hb_, hzz_⟩; have HB_ : Aside0 (Below w.heap.size w w2) := Aside0.mk (Below.trans (bG HB) (Below.mono hb_ (by first | omega | (simp only [sz_alloc, sz_drew, sz_drewN]; omega)))); have hzw2 := Nat.le_of_eq hzz_.symm; (try simp at hzw2); clear hzz_; (first | (have HF_ := Aside0.mk (BF.step HF.out (fun j hj _ => hk_ j ((by have h_ := hj.2; omega))))) | (have HF_ := Aside0.mk (BF.step (BF.alloc HF.out _) (fun j hj _ => hk_ j ((by have h_ := hj.2; omega)))))); clear HF; have HF := HF_; clear HF_; (try clear on onc onf onl); have on := Aside0.mk hx_; obtain ⟨onc, onf, onl⟩ := cells_of on.out; clear HB hb_ hk_ hx_; have HB := HB_; clear HB_))
  (go_at_call 13; (with_reducible refine (bnew_no _ _).mono ?_); rintro e_ w3 ⟨rfl, hb_⟩; have HB_ : Aside0 (Below w.heap.size w w3) := Aside0.mk (below_step (bG HB) hb_); have hzw3 := hb_.size; (try simp at hzw3); have on_ := Aside0.mk (box_below hb_ (eG on)); (try clear on onc onf onl); have on := on_; clear on_; obtain ⟨onc, onf, onl⟩ := cells_of on.out; have HF_ := Aside0.mk (BF.below (by repeat (with_reducible first | exact HF.out | apply BF.drew | apply BF.drewN | apply BF.alloc)) hb_); clear HF; have HF := HF_; clear HF_; clear HB hb_; have HB := HB_; clear HB_)
  go_wp2_with (first | ((with_reducible refine gate_store (t := 36) (p := 3) (v := .tmp 22) rfl ?_); refine wpList_store_all rfl 36 _ _ rfl rfl _ BDz (by rfl) (by rfl) _ _ (nb_1 _ _) rfl infBoard (by unfold BDz; simp [Value.oneCell']) ?_; rintro w4 ⟨hx_, hk_, hb_, hzz_⟩; have HB_ : Aside0 (Below w.heap.size w w4) := Aside0.mk (Below.trans (bG HB) (Below.mono hb_ (by first | omega | (simp only [sz_alloc, sz_drew, sz_drewN]; omega)))); have hzw4 := Nat.le_of_eq hzz_.symm; (try simp at hzw4); clear hzz_; have on_ := Aside0.mk (st_put on.out hk_ (fun h_ => (by repeat (with_reducible first | exact h_ | apply ext_drew | apply ext_drewN | apply ext_alloc | refine blk_far ?_ (by show _ ≠ _; dsimp only; omega) _))) (by omega)); clear on onc onf onl; have on := on_; clear on_; obtain ⟨onc, onf, onl⟩ := cells_of on.out; (first | (have HF_ := Aside0.mk (BF.step HF.out (fun j hj _ => hk_ j ((by have h_ := hj.2; omega))))) | (have HF_ := Aside0.mk (BF.step (BF.alloc HF.out _) (fun j hj _ => hk_ j ((by have h_ := hj.2; omega)))))); clear HF; have HF := HF_; clear HF_; (try clear ox oxc oxf oxl); have ox := Aside0.mk hx_; obtain ⟨oxc, oxf, oxl⟩ := cells_of ox.out; clear HB hb_ hk_ hx_; have HB := HB_; clear HB_) | ((with_reducible refine gate_dst (N := 25) rfl ?_); (try (refine gate_guard (by rfl) ?_; dsimp only)); refine wpList_load_row rfl 36 _ rfl _ (by rfl) _ (BD (bH0 r0 [] mH) v1) _ _ (eG on) Try.underlying36 rfl infBoard ?_))
  clear ox oxc oxf oxl
  (go_at_call 9; (with_reducible refine (storeH1 HF.out).mono ?_); rintro e_ w5 ⟨v2, rfl, HF2, hb_⟩; have HB_ : Aside0 (Below w.heap.size w w5) := Aside0.mk (below_step (bG HB) hb_); have hzw5 := hb_.size; (try simp at hzw5); have on_ := Aside0.mk (box_below hb_ (eG on)); (try clear on onc onf onl); have on := on_; clear on_; obtain ⟨onc, onf, onl⟩ := cells_of on.out; clear HB hb_; have HB := HB_; clear HB_; have HF2_ := Aside0.mk HF2; clear HF2; have HF2 := HF2_; clear HF2_; skip)
  have HF_ := Aside0.mk (HF2.out.bound.mono (ok' := fun j => j ≠ w1.heap.size ∧ j < w5.heap.size) (fun j hj => ⟨by have h_ := hj.1; (try dsimp only at h_); omega, hj.2⟩))
  (try clear HF)
  (try clear HF2)
  have HF := HF_
  clear HF_
  go_wp2_with (first | ((with_reducible refine gate_store (t := 36) (p := 1) (v := .tmp 27) rfl ?_); refine wpList_store_all rfl 36 _ _ rfl rfl _ (BD (bH0 r0 [65] mH) v2) (by rfl) (by rfl) _ _ on.out rfl infBoard (HF.out.one) ?_; rintro w6 ⟨hx_, hk_, hb_, hzz_⟩; have HB_ : Aside0 (Below w.heap.size w w6) := Aside0.mk (Below.trans (bG HB) (Below.mono hb_ (by first | omega | (simp only [sz_alloc, sz_drew, sz_drewN]; omega)))); have hzw6 := Nat.le_of_eq hzz_.symm; (try simp at hzw6); clear hzz_; (first | (have HF_ := Aside0.mk (BF.step HF.out (fun j hj _ => hk_ j (hj.1)))) | (have HF_ := Aside0.mk (BF.step (BF.alloc HF.out _) (fun j hj _ => hk_ j (hj.1))))); clear HF; have HF := HF_; clear HF_; (try clear on onc onf onl); have on := Aside0.mk hx_; obtain ⟨onc, onf, onl⟩ := cells_of on.out; clear HB hb_ hk_ hx_; have HB := HB_; clear HB_) | ((with_reducible refine gate_dst (N := 30) rfl ?_); (try (refine gate_guard (by rfl) ?_; dsimp only)); refine wpList_load_row rfl 36 _ rfl _ (by rfl) _ (BD (bH0 r0 [65] mH) v2) _ _ (eG on) Try.underlying36 rfl infBoard ?_))
  (go_at_call 9; (with_reducible refine (storeH2 HR.out HF.out).mono ?_); rintro e_ w7 ⟨v3, rfl, HF2, hb_⟩; have HB_ : Aside0 (Below w.heap.size w w7) := Aside0.mk (below_step (bG HB) hb_); have hzw7 := hb_.size; (try simp at hzw7); have on_ := Aside0.mk (box_below hb_ (eG on)); (try clear on onc onf onl); have on := on_; clear on_; obtain ⟨onc, onf, onl⟩ := cells_of on.out; clear HB hb_; have HB := HB_; clear HB_; have HF2_ := Aside0.mk HF2; clear HF2; have HF2 := HF2_; clear HF2_; skip)
  have HF_ := Aside0.mk (HF2.out.bound.mono (ok' := fun j => j ≠ w1.heap.size ∧ j < w7.heap.size) (fun j hj => ⟨by have h_ := hj.1; (try dsimp only at h_); omega, hj.2⟩))
  (try clear HF)
  (try clear HF2)
  have HF := HF_
  clear HF_
  go_wp2_with (first | ((with_reducible refine gate_store (t := 36) (p := 1) (v := .tmp 32) rfl ?_); refine wpList_store_all rfl 36 _ _ rfl rfl _ (BD (bH0 r2 [65] mH) v3) (by rfl) (by rfl) _ _ on.out rfl infBoard (HF.out.one) ?_; rintro w8 ⟨hx_, hk_, hb_, hzz_⟩; have HB_ : Aside0 (Below w.heap.size w w8) := Aside0.mk (Below.trans (bG HB) (Below.mono hb_ (by first | omega | (simp only [sz_alloc, sz_drew, sz_drewN]; omega)))); have hzw8 := Nat.le_of_eq hzz_.symm; (try simp at hzw8); clear hzz_; (first | (have HF_ := Aside0.mk (BF.step HF.out (fun j hj _ => hk_ j (hj.1)))) | (have HF_ := Aside0.mk (BF.step (BF.alloc HF.out _) (fun j hj _ => hk_ j (hj.1))))); clear HF; have HF := HF_; clear HF_; (try clear on onc onf onl); have on := Aside0.mk hx_; obtain ⟨onc, onf, onl⟩ := cells_of on.out; clear HB hb_ hk_ hx_; have HB := HB_; clear HB_) | ((with_reducible refine gate_dst (N := 35) rfl ?_); (try (refine gate_guard (by rfl) ?_; dsimp only)); refine wpList_load_row rfl 36 _ rfl _ (by rfl) _ (BD (bH0 r2 [65] mH) v3) _ _ (eG on) Try.underlying36 rfl infBoard ?_))
  (go_at_call 10; (with_reducible refine (loadH HR.out HF.out).mono ?_); rintro e_ w9 ⟨rfl, HF2, hb_⟩; have HB_ : Aside0 (Below w.heap.size w w9) := Aside0.mk (below_step (bG HB) hb_); have hzw9 := hb_.size; (try simp at hzw9); have on_ := Aside0.mk (box_below hb_ (eG on)); (try clear on onc onf onl); have on := on_; clear on_; obtain ⟨onc, onf, onl⟩ := cells_of on.out; clear HB hb_; have HB := HB_; clear HB_; have HF2_ := Aside0.mk HF2; clear HF2; have HF2 := HF2_; clear HF2_; skip)
  have HF_ := Aside0.mk (HF2.out.bound.mono (ok' := fun j => j ≠ w1.heap.size ∧ j < w9.heap.size) (fun j hj => ⟨by have h_ := hj.1; (try dsimp only at h_); omega, hj.2⟩))
  (try clear HF)
  (try clear HF2)
  have HF := HF_
  clear HF_
  go_wp2_with (first | ((with_reducible refine gate_store (t := 36) (p := 8) (v := .tmp 38) rfl ?_); refine wpList_store_all rfl 36 _ _ rfl rfl _ (BD (bH0 r2 [65] mH) v3) (by rfl) (by rfl) _ _ (nb_1 _ _) rfl infBoard (HF.out.one) ?_; rintro w10 ⟨hx_, hk_, hb_, hzz_⟩; have HB_ : Aside0 (Below w.heap.size w w10) := Aside0.mk (Below.trans (bG HB) (Below.mono hb_ (by first | omega | (simp only [sz_alloc, sz_drew, sz_drewN]; omega)))); have hzw10 := Nat.le_of_eq hzz_.symm; (try simp at hzw10); clear hzz_; have on_ := Aside0.mk (st_put on.out hk_ (fun h_ => (by repeat (with_reducible first | exact h_ | apply ext_drew | apply ext_drewN | apply ext_alloc | refine blk_far ?_ (by show _ ≠ _; dsimp only; omega) _))) (by omega)); clear on onc onf onl; have on := on_; clear on_; obtain ⟨onc, onf, onl⟩ := cells_of on.out; (first | (have HF_ := Aside0.mk (BF.step HF.out (fun j hj _ => hk_ j ((by have h_ := hj.2; omega))))) | (have HF_ := Aside0.mk (BF.step (BF.alloc HF.out _) (fun j hj _ => hk_ j ((by have h_ := hj.2; omega)))))); clear HF; have HF := HF_; clear HF_; (try clear oy oyc oyf oyl); have oy := Aside0.mk hx_; obtain ⟨oyc, oyf, oyl⟩ := cells_of oy.out; clear HB hb_ hk_ hx_; have HB := HB_; clear HB_) | ((with_reducible refine gate_dst (N := 41) rfl ?_); (try (refine gate_guard (by rfl) ?_; dsimp only)); refine wpList_load_row rfl 36 _ rfl _ (by rfl) _ (BD (bH0 r2 [65] mH) v3) _ _ (eG on) Try.underlying36 rfl infBoard ?_))
  clear oy oyc oyf oyl
  (go_at_call 9; (with_reducible refine (storeH3 HR.out HF.out).mono ?_); rintro e_ w11 ⟨v4, rfl, HG1, hb_⟩; have HB_ : Aside0 (Below w.heap.size w w11) := Aside0.mk (below_step (bG HB) hb_); have hzw11 := hb_.size; (try simp at hzw11); have on_ := Aside0.mk (box_below hb_ (eG on)); (try clear on onc onf onl); have on := on_; clear on_; obtain ⟨onc, onf, onl⟩ := cells_of on.out; have HF_ := Aside0.mk (BF.below (by repeat (with_reducible first | exact HF.out | apply BF.drew | apply BF.drewN | apply BF.alloc)) hb_); clear HF; have HF := HF_; clear HF_; clear HB hb_; have HB := HB_; clear HB_; have HG1_ := Aside0.mk HG1; clear HG1; have HG1 := HG1_; clear HG1_; skip)
  go_wp2_with (first | ((with_reducible refine gate_store (t := 36) (p := 10) (v := .tmp 43) rfl ?_); refine wpList_store_all rfl 36 _ _ rfl rfl _ (BD (bH0 r2 [65] mH) v4) (by rfl) (by rfl) _ _ (nb_1 _ _) rfl infBoard (HG1.out.one) ?_; rintro w12 ⟨hx_, hk_, hb_, hzz_⟩; have HB_ : Aside0 (Below w.heap.size w w12) := Aside0.mk (Below.trans (bG HB) (Below.mono hb_ (by first | omega | (simp only [sz_alloc, sz_drew, sz_drewN]; omega)))); have hzw12 := Nat.le_of_eq hzz_.symm; (try simp at hzw12); clear hzz_; have on_ := Aside0.mk (st_put on.out hk_ (fun h_ => (by repeat (with_reducible first | exact h_ | apply ext_drew | apply ext_drewN | apply ext_alloc | refine blk_far ?_ (by show _ ≠ _; dsimp only; omega) _))) (by omega)); clear on onc onf onl; have on := on_; clear on_; obtain ⟨onc, onf, onl⟩ := cells_of on.out; (first | (have HF_ := Aside0.mk (BF.step HF.out (fun j hj _ => hk_ j ((by have h_ := hj.2; omega))))) | (have HF_ := Aside0.mk (BF.step (BF.alloc HF.out _) (fun j hj _ => hk_ j ((by have h_ := hj.2; omega)))))); clear HF; have HF := HF_; clear HF_; (try clear oq oqc oqf oql); have oq := Aside0.mk hx_; obtain ⟨oqc, oqf, oql⟩ := cells_of oq.out; clear HB hb_ hk_ hx_; have HB := HB_; clear HB_) | ((with_reducible refine gate_dst (N := 46) rfl ?_); (try (refine gate_guard (by rfl) ?_; dsimp only)); refine wpList_load_row rfl 36 _ rfl _ (by rfl) _ (BD (bH0 r2 [65] mH) v3) _ _ (eG on) Try.underlying36 rfl infBoard ?_))
  clear oq oqc oqf oql HG1
  (go_at_call 12; (with_reducible refine (linesH HF.out).mono ?_); rintro e_ w13 ⟨v5, rfl, HF2, hb_⟩; have HB_ : Aside0 (Below w.heap.size w w13) := Aside0.mk (below_step (bG HB) hb_); have hzw13 := hb_.size; (try simp at hzw13); have on_ := Aside0.mk (box_below hb_ (eG on)); (try clear on onc onf onl); have on := on_; clear on_; obtain ⟨onc, onf, onl⟩ := cells_of on.out; have HF_ := Aside0.mk (BF.below (by repeat (with_reducible first | exact HF.out | apply BF.drew | apply BF.drewN | apply BF.alloc)) hb_); clear HF; have HF := HF_; clear HF_; clear HB hb_; have HB := HB_; clear HB_; have HF2_ := Aside0.mk HF2; clear HF2; have HF2 := HF2_; clear HF2_; skip)
  have HG_ := Aside0.mk (HF2.out.bound.mono (ok' := fun j => True ∧ j < w13.heap.size) (fun j hj => ⟨trivial, hj.2⟩))
  (try clear HG)
  (try clear HF2)
  have HG := HG_
  clear HG_
  go_upto_region 8 with (first | ((with_reducible refine gate_store (t := 36) (p := 12) (v := .tmp 48) rfl ?_); refine wpList_store_all rfl 36 _ _ rfl rfl _ (BD (bH0 r2 [65] mH) v5) (by rfl) (by rfl) _ _ (nb_1 _ _) rfl infBoard (HG.out.one) ?_; rintro w14 ⟨hx_, hk_, hb_, hzz_⟩; have HB_ : Aside0 (Below w.heap.size w w14) := Aside0.mk (Below.trans (bG HB) (Below.mono hb_ (by first | omega | (simp only [sz_alloc, sz_drew, sz_drewN]; omega)))); have hzw14 := Nat.le_of_eq hzz_.symm; (try simp at hzw14); clear hzz_; have on_ := Aside0.mk (st_put on.out hk_ (fun h_ => (by repeat (with_reducible first | exact h_ | apply ext_drew | apply ext_drewN | apply ext_alloc | refine blk_far ?_ (by show _ ≠ _; dsimp only; omega) _))) (by omega)); clear on onc onf onl; have on := on_; clear on_; obtain ⟨onc, onf, onl⟩ := cells_of on.out; (first | (have HF_ := Aside0.mk (BF.step HF.out (fun j hj _ => hk_ j ((by have h_ := hj.2; omega))))) | (have HF_ := Aside0.mk (BF.step (BF.alloc HF.out _) (fun j hj _ => hk_ j ((by have h_ := hj.2; omega)))))); clear HF; have HF := HF_; clear HF_; (first | (have HG_ := Aside0.mk (BF.step HG.out (fun j hj _ => hk_ j ((by have h_ := hj.2; omega))))) | (have HG_ := Aside0.mk (BF.step (BF.alloc HG.out _) (fun j hj _ => hk_ j ((by have h_ := hj.2; omega)))))); clear HG; have HG := HG_; clear HG_; (try clear oc occ ocf ocl); have oc := Aside0.mk hx_; obtain ⟨occ, ocf, ocl⟩ := cells_of oc.out; clear HB hb_ hk_ hx_; have HB := HB_; clear HB_))
  have hc10 : w14.cell? ⟨w1.heap.size, 10, none⟩ = some v3.u1 := (onc 10).trans rfl
  have SU := Aside0.mk HF.out.u1
  clear onc
  have onc := trivial
  go_wp2_with fail
  (go_at_call 14; (with_reducible refine (out1 _ _ _ _ _ (by decide) (SL.alloc SU.out _) (nb_1 _ _)).mono ?_); rintro e_ w15 ⟨rfl, hb_⟩; have HB_ : Aside0 (Below w.heap.size w w15) := Aside0.mk (below_step (bG HB) hb_); have hzw15 := hb_.size; (try simp at hzw15); have on_ := Aside0.mk (box_below hb_ (eG on)); have oc_ := Aside0.mk (box_below hb_ (eG oc)); (try clear on onc onf onl); have on := on_; clear on_; obtain ⟨onc, onf, onl⟩ := cells_of on.out; (try clear oc occ ocf ocl); have oc := oc_; clear oc_; obtain ⟨occ, ocf, ocl⟩ := cells_of oc.out; have HF_ := Aside0.mk (BF.below (by repeat (with_reducible first | exact HF.out | apply BF.drew | apply BF.drewN | apply BF.alloc)) hb_); clear HF; have HF := HF_; clear HF_; have HG_ := Aside0.mk (BF.below (by repeat (with_reducible first | exact HG.out | apply BF.drew | apply BF.drewN | apply BF.alloc)) hb_); clear HG; have HG := HG_; clear HG_; clear HB hb_; have HB := HB_; clear HB_)
  go_wp2_with (first | ((with_reducible refine gate_dst (N := 85) rfl ?_); (try (refine gate_guard (by rfl) ?_; dsimp only)); refine wpList_load_row rfl 36 _ rfl _ (by rfl) _ (BD (bH0 r2 [65] mH) v3) _ _ (eG on) Try.underlying36 rfl infBoard ?_) | ((with_reducible refine gate_dst (N := 86) rfl ?_); (try (refine gate_guard (by rfl) ?_; dsimp only)); refine wpList_load_row rfl 36 _ rfl _ (by rfl) _ (BD (bH0 r2 [65] mH) v5) _ _ (eG oc) Try.underlying36 rfl infBoard ?_))
  (go_at_call 11; (with_reducible refine (same13_c HF.out HG.out).mono ?_); rintro e_ w16 ⟨rfl, hb_⟩; have HB_ : Aside0 (Below w.heap.size w w16) := Aside0.mk (below_step (bG HB) hb_); have hzw16 := hb_.size; (try simp at hzw16); have on_ := Aside0.mk (box_below hb_ (eG on)); (try clear on onc onf onl); have on := on_; clear on_; obtain ⟨onc, onf, onl⟩ := cells_of on.out; clear HB hb_; have HB := HB_; clear HB_)
  go_wp2
  refine bodyPost_ret (v := .bool true) (by simp [results, Try.results8, go_sem] <;> first | assumption | omega | (symm; assumption)) rfl ?_
  exact ⟨rfl, (bG HB)⟩
end Go.Proofs.Ytphcckhegfgbgaa.Q
end
section
/- Law BusQuiet: the walk. -/
namespace Go.Proofs.Ytphcckhegfgbgaa.Q
open Go.RowKit Go.Proofs.YtphcckhegfgbgaaW.PrintWords Go.Proofs.YtphcckhegfgbgaaW.PrintLast Go.Proofs.YtphcckhegfgbgaaW.PrintMore Go.Proofs.Ytphcckhegfgbgaa.L
attribute [local go_sem] Instr.field part asAgg lt_step max2_int min2_int max_two min_two max_three min_three max_four min_four lt_0_1 lt_0_2 lt_1_2 lt_0_3 lt_1_3 lt_2_3 lt_0_4 lt_1_4 lt_2_4 lt_3_4 lt_0_5 lt_1_5 lt_2_5 lt_3_5 lt_4_5 lt_0_6 lt_1_6 lt_2_6 lt_3_6 lt_4_6 lt_5_6 lt_0_7 lt_1_7 lt_2_7 lt_3_7 lt_4_7 lt_5_7 lt_6_7 lt_0_8 lt_1_8 lt_2_8 lt_3_8 lt_4_8 lt_5_8 lt_6_8 lt_7_8
set_option linter.unusedVariables false
set_option linter.unusedSimpArgs false
theorem heads_c (w : World) : Calls Try.prog 8 #[] w fun e w' => e = .returned (.bool true) ∧ Below w.heap.size w w' := heads_runs w
set_option maxHeartbeats 1600000 in
set_option maxRecDepth 100000 in
theorem quiet_runs (b : Bd) (v : Vs) (w : World) (ok : Nat → Prop) (hF : BF w ok b v) : Calls Try.prog 4 #[.agg (BD b v)] w fun e w' => e = .returned (.bool true) ∧ Below w.heap.size w w' := by
  obtain ⟨sm, hsm⟩ : ∃ sm, (decide (b.ram.length ≤ 70000) && decide (b.i.length ≤ 5000) && decide (b.o.length ≤ 5000)) = sm := ⟨_, rfl⟩
  have HSM := Aside0.mk hsm
  clear hsm
  have HB := Aside0.mk (Below.refl w.heap.size w)
  have HF := Aside0.mk hF.bound
  have hu := Try.underlying36
  clear hF
  go_enter Try.func4, Try.ntmps4
  go_upto_region 1 with fail
  obtain ⟨wa, hwa, on0, hb_, hz0⟩ := letter1 w (.cells (BD b v) 36 (0, 0))
  rw [hwa]
  clear hwa
  have hzwa := Nat.le_of_eq hz0.symm
  clear hz0
  have on := Aside0.mk on0
  clear on0
  obtain ⟨onc, onf, onl⟩ := cells_of on.out
  have HB_ : Aside0 (Below w.heap.size w wa) := ⟨hb_⟩
  have HF_ : Aside0 (BF wa (fun j => j ≠ w.heap.size ∧ j < wa.heap.size) b v) := ⟨(HF.out.below hb_).mono (fun j hj => ⟨by have h_ := hj.2; omega, by have h_ := hj.2; omega⟩)⟩
  clear HB HF hb_; have HB := HB_; have HF := HF_; clear HB_ HF_
  go_wp2_with (first | ((with_reducible refine gate_dst (N := 7) rfl ?_); (try (refine gate_guard (by rfl) ?_; dsimp only)); refine wpList_load_row rfl 36 _ rfl _ (by rfl) _ (BD b v) _ _ (eG on) Try.underlying36 rfl infBoard ?_))
  (go_at_call 6; (with_reducible refine (small_c b v _ _ HF.out sm HSM.out).mono ?_); rintro e_ w1 ⟨rfl, hb_⟩; have HB_ : Aside0 (Below w.heap.size w w1) := Aside0.mk (below_step (bG HB) hb_); have hzw1 := hb_.size; (try simp at hzw1); have on_ := Aside0.mk (box_below hb_ (eG on)); (try clear on onc onf onl); have on := on_; clear on_; obtain ⟨onc, onf, onl⟩ := cells_of on.out; have HF_ := Aside0.mk (BF.below (by repeat (with_reducible first | exact HF.out | apply BF.drew | apply BF.drewN | apply BF.alloc)) hb_); clear HF; have HF := HF_; clear HF_; clear HB hb_; have HB := HB_; clear HB_)
  cases sm
  · go_wp2_with fail
    (go_at_call 8; (with_reducible refine (heads_c _).mono ?_); rintro e_ w2 ⟨rfl, hb_⟩; have HB_ : Aside0 (Below w.heap.size w w2) := Aside0.mk (below_step (bG HB) hb_); have hzw2 := hb_.size; (try simp at hzw2); clear HB hb_; have HB := HB_; clear HB_)
    go_wp2
    go_ret
    exact ⟨rfl, HB.out⟩
  · go_wp2_with (first | ((with_reducible refine gate_dst (N := 12) rfl ?_); (try (refine gate_guard (by rfl) ?_; dsimp only)); refine wpList_load_row rfl 36 _ rfl _ (by rfl) _ (BD b v) _ _ (eG on) Try.underlying36 rfl infBoard ?_))
    (go_at_call 12; (with_reducible refine (lines_c b v _ _ HF.out).mono ?_); rintro e_ w2 ⟨v1, rfl, HF2, hb_⟩; have HB_ : Aside0 (Below w.heap.size w w2) := Aside0.mk (below_step (bG HB) hb_); have hzw2 := hb_.size; (try simp at hzw2); have on_ := Aside0.mk (box_below hb_ (eG on)); (try clear on onc onf onl); have on := on_; clear on_; obtain ⟨onc, onf, onl⟩ := cells_of on.out; clear HB hb_; have HB := HB_; clear HB_; have HF2_ := Aside0.mk HF2; clear HF2; have HF2 := HF2_; clear HF2_; skip)
    have HG_ := Aside0.mk (HF2.out.bound.mono (ok' := fun j => True ∧ j < w2.heap.size) (fun j hj => ⟨trivial, hj.2⟩))
    (try clear HG)
    (try clear HF2)
    have HG := HG_
    clear HG_
    go_wp2_with (first | ((with_reducible refine gate_store (t := 36) (p := 3) (v := .tmp 14) rfl ?_); refine wpList_store_all rfl 36 _ _ rfl rfl _ (BD (linesB b) v1) (by rfl) (by rfl) _ _ (nb_1 _ _) rfl infBoard (HG.out.one) ?_; rintro w3 ⟨hx_, hk_, hb_, hzz_⟩; have HB_ : Aside0 (Below w.heap.size w w3) := Aside0.mk (Below.trans (bG HB) (Below.mono hb_ (by first | omega | (simp only [sz_alloc, sz_drew, sz_drewN]; omega)))); have hzw3 := Nat.le_of_eq hzz_.symm; (try simp at hzw3); clear hzz_; have on_ := Aside0.mk (st_put on.out hk_ (fun h_ => (by repeat (with_reducible first | exact h_ | apply ext_drew | apply ext_drewN | apply ext_alloc | refine blk_far ?_ (by show _ ≠ _; dsimp only; omega) _))) (by omega)); clear on onc onf onl; have on := on_; clear on_; obtain ⟨onc, onf, onl⟩ := cells_of on.out; (first | (have HG_ := Aside0.mk (BF.step HG.out (fun j hj _ => hk_ j ((by have h_ := hj.2; omega))))) | (have HG_ := Aside0.mk (BF.step (BF.alloc HG.out _) (fun j hj _ => hk_ j ((by have h_ := hj.2; omega)))))); clear HG; have HG := HG_; clear HG_; (try clear oc occ ocf ocl); have oc := Aside0.mk hx_; obtain ⟨occ, ocf, ocl⟩ := cells_of oc.out; clear HB hb_ hk_ hx_; have HB := HB_; clear HB_) | ((with_reducible refine gate_dst (N := 17) rfl ?_); (try (refine gate_guard (by rfl) ?_; dsimp only)); refine wpList_load_row rfl 36 _ rfl _ (by rfl) _ (BD (linesB b) v1) _ _ (eG oc) Try.underlying36 rfl infBoard ?_))
    (go_at_call 12; (with_reducible refine (lines_c (linesB b) v1 _ _ HG.out).mono ?_); rintro e_ w4 ⟨v2, rfl, HF2, hb_⟩; have HB_ : Aside0 (Below w.heap.size w w4) := Aside0.mk (below_step (bG HB) hb_); have hzw4 := hb_.size; (try simp at hzw4); have oc_ := Aside0.mk (box_below hb_ (eG oc)); (try clear oc occ ocf ocl); have oc := oc_; clear oc_; obtain ⟨occ, ocf, ocl⟩ := cells_of oc.out; have HG_ := Aside0.mk (BF.below (by repeat (with_reducible first | exact HG.out | apply BF.drew | apply BF.drewN | apply BF.alloc)) hb_); clear HG; have HG := HG_; clear HG_; clear HB hb_; have HB := HB_; clear HB_; have HF2_ := Aside0.mk HF2; clear HF2; have HF2 := HF2_; clear HF2_; skip)
    rw [lines_again, linesX_again]
    rw [lines_again] at HF2
    have HH_ := Aside0.mk (HF2.out.bound.mono (ok' := fun j => True ∧ j < w4.heap.size) (fun j hj => ⟨trivial, hj.2⟩))
    (try clear HH)
    (try clear HF2)
    have HH := HH_
    clear HH_
    obtain ⟨X, hX⟩ : ∃ X, linesX b = X := ⟨_, rfl⟩
    have hz0 : Go.bits .andNot .u64 X 2696 = 0 := by rw [← hX]; exact up_in _ _ _ _
    rw [hX]
    have hxx : (X == X) = true := beq_self_eq_true X
    have hzz : (Go.bits .andNot .u64 X 2696 == 0) = true := by rw [hz0]; rfl
    clear hX hz0
    go_wp2_with (first | ((with_reducible refine gate_store (t := 36) (p := 5) (v := .tmp 19) rfl ?_); refine wpList_store_all rfl 36 _ _ rfl rfl _ (BD (linesB b) v2) (by rfl) (by rfl) _ _ (nb_1 _ _) rfl infBoard (HH.out.one) ?_; rintro w5 ⟨hx_, hk_, hb_, hzz_⟩; have HB_ : Aside0 (Below w.heap.size w w5) := Aside0.mk (Below.trans (bG HB) (Below.mono hb_ (by first | omega | (simp only [sz_alloc, sz_drew, sz_drewN]; omega)))); have hzw5 := Nat.le_of_eq hzz_.symm; (try simp at hzw5); clear hzz_; have oc_ := Aside0.mk (st_put oc.out hk_ (fun h_ => (by repeat (with_reducible first | exact h_ | apply ext_drew | apply ext_drewN | apply ext_alloc | refine blk_far ?_ (by show _ ≠ _; dsimp only; omega) _))) (by omega)); clear oc occ ocf ocl; have oc := oc_; clear oc_; obtain ⟨occ, ocf, ocl⟩ := cells_of oc.out; (first | (have HG_ := Aside0.mk (BF.step HG.out (fun j hj _ => hk_ j ((by have h_ := hj.2; omega))))) | (have HG_ := Aside0.mk (BF.step (BF.alloc HG.out _) (fun j hj _ => hk_ j ((by have h_ := hj.2; omega)))))); clear HG; have HG := HG_; clear HG_; (first | (have HH_ := Aside0.mk (BF.step HH.out (fun j hj _ => hk_ j ((by have h_ := hj.2; omega))))) | (have HH_ := Aside0.mk (BF.step (BF.alloc HH.out _) (fun j hj _ => hk_ j ((by have h_ := hj.2; omega)))))); clear HH; have HH := HH_; clear HH_; (try clear od odc odf odl); have od := Aside0.mk hx_; obtain ⟨odc, odf, odl⟩ := cells_of od.out; clear HB hb_ hk_ hx_; have HB := HB_; clear HB_) | ((with_reducible refine gate_dst (N := 25) rfl ?_); (try (refine gate_guard (by rfl) ?_; dsimp only)); refine wpList_load_row rfl 36 _ rfl _ (by rfl) _ (BD (linesB b) v1) _ _ (eG oc) Try.underlying36 rfl infBoard ?_) | ((with_reducible refine gate_dst (N := 26) rfl ?_); (try (refine gate_guard (by rfl) ?_; dsimp only)); refine wpList_load_row rfl 36 _ rfl _ (by rfl) _ (BD (linesB b) v2) _ _ (eG od) Try.underlying36 rfl infBoard ?_))
    (go_at_call 11; (with_reducible refine (same13_c HG.out HH.out).mono ?_); rintro e_ w6 ⟨rfl, hb_⟩; have HB_ : Aside0 (Below w.heap.size w w6) := Aside0.mk (below_step (bG HB) hb_); have hzw6 := hb_.size; (try simp at hzw6); clear HB hb_; have HB := HB_; clear HB_)
    go_wp2_with fail
    (go_at_call 8; (with_reducible refine (heads_c _).mono ?_); rintro e_ w7 ⟨rfl, hb_⟩; have HB_ : Aside0 (Below w.heap.size w w7) := Aside0.mk (below_step (bG HB) hb_); have hzw7 := hb_.size; (try simp at hzw7); clear HB hb_; have HB := HB_; clear HB_)
    go_wp2
    go_ret
    exact ⟨rfl, HB.out⟩
def drawbridgelaw13_BusQuiet.f (l0_0 : List Int) (a0_1 : Int) (a0_2 : Int) (a0_3 : Bool) (l0_4 : List Int) (a0_5 : Int) (a0_6 : Int) (l0_7 : List Int) (l0_8 : List Int) (l0_9 : List Int) (l0_10 : List Int) (a0_11 : Int) (a0_12 : Int) (a0_13 : Int) (a0_14 : Int) (a0_15 : Int) (a0_16 : Int) (a0_17 : Int) (a0_18 : Int) (a0_19 : Int) (a0_20 : Int) (a0_21 : Int) (a0_22 : Int) (a0_23 : Int) (a0_24 : Int) (a0_25 : Int) (l0_26 : List Int) : Option Bool := some true
theorem drawbridgelaw13_BusQuiet.calls (A0_0 : Option Addr) (c0_0 : Nat) (l0_0 : List Int) (a0_1 : Int) (a0_2 : Int) (a0_3 : Bool) (A0_4 : Option Addr) (c0_4 : Nat) (l0_4 : List Int) (a0_5 : Int) (a0_6 : Int) (A0_7 : Option Addr) (c0_7 : Nat) (l0_7 : List Int) (A0_8 : Option Addr) (c0_8 : Nat) (l0_8 : List Int) (A0_9 : Option Addr) (c0_9 : Nat) (l0_9 : List Int) (A0_10 : Option Addr) (c0_10 : Nat) (l0_10 : List Int) (a0_11 : Int) (a0_12 : Int) (a0_13 : Int) (a0_14 : Int) (a0_15 : Int) (a0_16 : Int) (a0_17 : Int) (a0_18 : Int) (a0_19 : Int) (a0_20 : Int) (a0_21 : Int) (a0_22 : Int) (a0_23 : Int) (a0_24 : Int) (a0_25 : Int) (A0_26 : Option Addr) (c0_26 : Nat) (l0_26 : List Int) (r : Bool) (w : World) (hr0_0 : Kd.C (Kd.int .u8) w A0_0 l0_0.length l0_0) (hc0_0 : l0_0.length ≤ c0_0) (hr0_4 : Kd.C (Kd.int .i64) w A0_4 l0_4.length l0_4) (hc0_4 : l0_4.length ≤ c0_4) (hr0_7 : Kd.C (Kd.int .i64) w A0_7 l0_7.length l0_7) (hc0_7 : l0_7.length ≤ c0_7) (hr0_8 : Kd.C (Kd.int .i64) w A0_8 l0_8.length l0_8) (hc0_8 : l0_8.length ≤ c0_8) (hr0_9 : Kd.C (Kd.int .u8) w A0_9 l0_9.length l0_9) (hc0_9 : l0_9.length ≤ c0_9) (hr0_10 : Kd.C (Kd.int .u8) w A0_10 l0_10.length l0_10) (hc0_10 : l0_10.length ≤ c0_10) (hr0_26 : Kd.C (Kd.int .u8) w A0_26 l0_26.length l0_26) (hc0_26 : l0_26.length ≤ c0_26) (h : drawbridgelaw13_BusQuiet.f l0_0 a0_1 a0_2 a0_3 l0_4 a0_5 a0_6 l0_7 l0_8 l0_9 l0_10 a0_11 a0_12 a0_13 a0_14 a0_15 a0_16 a0_17 a0_18 a0_19 a0_20 a0_21 a0_22 a0_23 a0_24 a0_25 l0_26 = some r) :
    Calls Try.prog 4 #[.agg #[.slice A0_0 l0_0.length c0_0, .int .u64 a0_1, .int .u64 a0_2, .bool a0_3, .slice A0_4 l0_4.length c0_4, .int .i64 a0_5, .int .i64 a0_6, .slice A0_7 l0_7.length c0_7, .slice A0_8 l0_8.length c0_8, .slice A0_9 l0_9.length c0_9, .slice A0_10 l0_10.length c0_10, .int .i64 a0_11, .int .i64 a0_12, .int .i64 a0_13, .int .i64 a0_14, .int .i64 a0_15, .int .u64 a0_16, .int .i64 a0_17, .int .i64 a0_18, .int .i64 a0_19, .int .u64 a0_20, .int .i64 a0_21, .int .i64 a0_22, .int .i64 a0_23, .int .i64 a0_24, .int .i64 a0_25, .slice A0_26 l0_26.length c0_26]] w fun e w' => e = .returned (.bool r) ∧ Below w.heap.size w w' := by
  have hF : BF w (fun j => j < w.heap.size) ⟨l0_0, a0_1, a0_2, a0_3, l0_4, a0_5, a0_6, l0_7, l0_8, l0_9, l0_10, a0_11, a0_12, nums13 a0_13 a0_14 a0_15 a0_16 a0_17 a0_18 a0_19 a0_20 a0_21 a0_22 a0_23 a0_24 a0_25, l0_26⟩ ⟨.slice A0_0 l0_0.length c0_0, .slice A0_4 l0_4.length c0_4, .slice A0_7 l0_7.length c0_7, .slice A0_8 l0_8.length c0_8, .slice A0_9 l0_9.length c0_9, .slice A0_10 l0_10.length c0_10, .slice A0_26 l0_26.length c0_26⟩ := ⟨SL.of_C hr0_0 hc0_0, SL.of_C hr0_4 hc0_4, SL.of_C hr0_7 hc0_7, SL.of_C hr0_8 hc0_8, SL.of_C hr0_9 hc0_9, SL.of_C hr0_10 hc0_10, SL.of_C hr0_26 hc0_26⟩
  unfold drawbridgelaw13_BusQuiet.f at h
  injection h with h; subst h
  exact quiet_runs ⟨l0_0, a0_1, a0_2, a0_3, l0_4, a0_5, a0_6, l0_7, l0_8, l0_9, l0_10, a0_11, a0_12, nums13 a0_13 a0_14 a0_15 a0_16 a0_17 a0_18 a0_19 a0_20 a0_21 a0_22 a0_23 a0_24 a0_25, l0_26⟩ ⟨.slice A0_0 l0_0.length c0_0, .slice A0_4 l0_4.length c0_4, .slice A0_7 l0_7.length c0_7, .slice A0_8 l0_8.length c0_8, .slice A0_9 l0_9.length c0_9, .slice A0_10 l0_10.length c0_10, .slice A0_26 l0_26.length c0_26⟩ w _ hF
end Go.Proofs.Ytphcckhegfgbgaa.Q
end
section
namespace Go.Proofs.Ytphcckhegfgbgaa.Pure
open Go.RowKit Go.Proofs.Ytphcckhegfgbgaa.Q Go.Proofs.YtphcckhegfgbgaaW.PrintWords Go.Proofs.YtphcckhegfgbgaaW.PrintLast Go.Proofs.YtphcckhegfgbgaaW.PrintMore Go.Proofs.Ytphcckhegfgbgaa.L
/-- The pure statement of BusQuiet: numbers and lists alone. -/
def BusQuiet.Said : Prop := ∀ (l0_0 : List Int) (a0_1 : Int) (a0_2 : Int) (a0_3 : Bool) (l0_4 : List Int) (a0_5 : Int) (a0_6 : Int) (l0_7 : List Int) (l0_8 : List Int) (l0_9 : List Int) (l0_10 : List Int) (a0_11 : Int) (a0_12 : Int) (a0_13 : Int) (a0_14 : Int) (a0_15 : Int) (a0_16 : Int) (a0_17 : Int) (a0_18 : Int) (a0_19 : Int) (a0_20 : Int) (a0_21 : Int) (a0_22 : Int) (a0_23 : Int) (a0_24 : Int) (a0_25 : Int) (l0_26 : List Int), l0_0.length ≤ maxLen → (∀ z ∈ l0_0, (Lit.int .u8 z).wf = true) → (Lit.int .u64 a0_1).wf = true → (Lit.int .u64 a0_2).wf = true → l0_4.length ≤ maxLen → (∀ z ∈ l0_4, (Lit.int .i64 z).wf = true) → (Lit.int .i64 a0_5).wf = true → (Lit.int .i64 a0_6).wf = true → l0_7.length ≤ maxLen → (∀ z ∈ l0_7, (Lit.int .i64 z).wf = true) → l0_8.length ≤ maxLen → (∀ z ∈ l0_8, (Lit.int .i64 z).wf = true) → l0_9.length ≤ maxLen → (∀ z ∈ l0_9, (Lit.int .u8 z).wf = true) → l0_10.length ≤ maxLen → (∀ z ∈ l0_10, (Lit.int .u8 z).wf = true) → (Lit.int .i64 a0_11).wf = true → (Lit.int .i64 a0_12).wf = true → (Lit.int .i64 a0_13).wf = true → (Lit.int .i64 a0_14).wf = true → (Lit.int .i64 a0_15).wf = true → (Lit.int .u64 a0_16).wf = true → (Lit.int .i64 a0_17).wf = true → (Lit.int .i64 a0_18).wf = true → (Lit.int .i64 a0_19).wf = true → (Lit.int .u64 a0_20).wf = true → (Lit.int .i64 a0_21).wf = true → (Lit.int .i64 a0_22).wf = true → (Lit.int .i64 a0_23).wf = true → (Lit.int .i64 a0_24).wf = true → (Lit.int .i64 a0_25).wf = true → l0_26.length ≤ maxLen → (∀ z ∈ l0_26, (Lit.int .u8 z).wf = true) → drawbridgelaw13_BusQuiet.f l0_0 a0_1 a0_2 a0_3 l0_4 a0_5 a0_6 l0_7 l0_8 l0_9 l0_10 a0_11 a0_12 a0_13 a0_14 a0_15 a0_16 a0_17 a0_18 a0_19 a0_20 a0_21 a0_22 a0_23 a0_24 a0_25 l0_26 = some true
end Go.Proofs.Ytphcckhegfgbgaa.Pure
end
section
/- BusQuiet, plain part. -/
namespace Go.Proofs.Ytphcckhegfgbgaa.Pure
open Go.RowKit Go.Proofs.Ytphcckhegfgbgaa.Q Go.Proofs.YtphcckhegfgbgaaW.PrintWords Go.Proofs.YtphcckhegfgbgaaW.PrintLast Go.Proofs.YtphcckhegfgbgaaW.PrintMore Go.Proofs.Ytphcckhegfgbgaa.L
set_option linter.unusedVariables false
theorem BusQuiet : BusQuiet.Said := by
  unfold BusQuiet.Said
  intros
  rfl
end Go.Proofs.Ytphcckhegfgbgaa.Pure
end
