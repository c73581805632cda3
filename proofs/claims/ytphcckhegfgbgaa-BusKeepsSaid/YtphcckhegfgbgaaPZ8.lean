import Derived.Test.YtphcckhegfgbgaaPZ1
import Derived.Test.YtphcckhegfgbgaaPZ7
import Derived.Deep.DeepCutAuto
import Derived.RegionTactic
import Derived.BigRegion
import Derived.Test.YtphcckhegfgbgaaPXQx11
import Derived.Test.YtphcckhegfgbgaaPXQx10
import Derived.Test.YtphcckhegfgbgaaPZ6
section
/- bus.Lines. -/
namespace Go.Proofs.Ytphcckhegfgbgaa.Q
open Go.RowKit Go.Proofs.YtphcckhegfgbgaaW.PrintWords Go.Proofs.YtphcckhegfgbgaaW.PrintLast Go.Proofs.YtphcckhegfgbgaaW.PrintMore Go.Proofs.Ytphcckhegfgbgaa.L
attribute [local go_sem] Instr.field part asAgg lt_step max2_int min2_int max_two min_two max_three min_three max_four min_four lt_0_1 lt_0_2 lt_1_2 lt_0_3 lt_1_3 lt_2_3 lt_0_4 lt_1_4 lt_2_4 lt_3_4 lt_0_5 lt_1_5 lt_2_5 lt_3_5 lt_4_5 lt_0_6 lt_1_6 lt_2_6 lt_3_6 lt_4_6 lt_5_6 lt_0_7 lt_1_7 lt_2_7 lt_3_7 lt_4_7 lt_5_7 lt_6_7 lt_0_8 lt_1_8 lt_2_8 lt_3_8 lt_4_8 lt_5_8 lt_6_8 lt_7_8
set_option linter.unusedVariables false
set_option linter.unusedSimpArgs false
def src1 (e : Bool) : Int := if e then Go.bits .or .i64 0 2 else 0
def src2 (e1 e2 : Bool) : Int := if e2 then Go.bits .or .i64 (src1 e1) 4 else src1 e1
def upL (s t m0 m1 : Bool) : Int := raiseZ m1 512 (raiseZ m0 2048 (raiseZ t 128 (raiseZ s 8 0)))
set_option maxHeartbeats 1600000 in
set_option maxRecDepth 100000 in
theorem blines (b : Bd) (v : Vs) (e1 e2 s t : Bool) (q0 : List Int) (a c : Int) (q3 q4 : List Int) (n0 n1 : Int) (w : World) (ok : Nat → Prop) (hF : BF w ok b v) (h1 : uart_Line.f b.i b.o b.ie b.lo = some e1) (h2 : lineZ b.c b.mac.length = e2) (h3 : plic_Set.f b.q0 b.x b.y b.q3 b.q4 (src2 e1 e2) = some (q0, a, c, q3, q4)) (h4 : clint_Lines.f b.t b.k b.s = some (s, t)) (h5 : plic_Best.f 4 q0 a c q3 q4 0 = some n0) (h6 : plic_Best.f 4 q0 a c q3 q4 1 = some n1) :
    Calls Try.prog 12 #[.agg (BD b v)] w fun e w' => ∃ v' : Vs, e = .returned (.tuple #[.agg (BD { b with q0 := q0, x := a, y := c, q3 := q3, q4 := q4 } v'), .int .u64 (upL s t (decide (n0 > 0)) (decide (n1 > 0)))]) ∧ BF w' (fun j => ok j ∨ w.heap.size ≤ j) { b with q0 := q0, x := a, y := c, q3 := q3, q4 := q4 } v' ∧ Below w.heap.size w w' := by
  have H1 := Aside0.mk h1
  have H2 := Aside0.mk h2
  have H3 := Aside0.mk h3
  have H4 := Aside0.mk h4
  have H5 := Aside0.mk h5
  have H6 := Aside0.mk h6
  clear h1 h2 h3 h4 h5 h6
  have HB := Aside0.mk (Below.refl w.heap.size w)
  have HF := Aside0.mk hF.bound
  have hu := Try.underlying36
  clear hF
  go_enter Try.func12, Try.ntmps12
  go_upto_region 2 with fail
  obtain ⟨wa, hwa, on0, pn0, hb_, hz0⟩ := letter2 w (.cells (BD b v) 36 (0, 0)) (.cells BDz 36 (0, 0))
  unfold BDz at hwa
  rw [hwa]
  clear hwa
  have hzwa := Nat.le_of_eq hz0.symm
  clear hz0
  have on := Aside0.mk on0
  have pn := Aside0.mk pn0
  clear on0 pn0
  obtain ⟨onc, onf, onl⟩ := cells_of on.out
  obtain ⟨pnc, pnf, pnl⟩ := cells_of pn.out
  have HB_ : Aside0 (Below w.heap.size w wa) := ⟨hb_⟩
  have HF_ : Aside0 (BF wa (fun j => (ok j ∨ w.heap.size ≤ j) ∧ j ≠ w.heap.size ∧ j ≠ w.heap.size + 1) b v) := ⟨(HF.out.below hb_).mono (fun j hj => ⟨.inl hj.1, by omega, by omega⟩)⟩
  clear HB HF hb_; have HB := HB_; have HF := HF_; clear HB_ HF_
  go_upto_if 11 with (first | ((with_reducible refine gate_dst (N := 10) rfl ?_); (try (refine gate_guard (by rfl) ?_; dsimp only)); refine wpList_load_part rfl 32 _ rfl _ 9 (by rfl) (Buart b v) (BD b v) _ (eG on) rfl _ Try.underlying32 rfl infUart ?_) | (go_at_call 30; (with_reducible refine (uartLine_c HF.out e1 H1.out).mono ?_); rintro e_ w1 ⟨rfl, hb_⟩; have HB_ : Aside0 (Below w.heap.size w w1) := Aside0.mk (below_step (bG HB) hb_); have hzw1 := hb_.size; (try simp at hzw1); have on_ := Aside0.mk (box_below hb_ (eG on)); have pn_ := Aside0.mk (box_below hb_ (eG pn)); (try clear on onc onf onl); have on := on_; clear on_; obtain ⟨onc, onf, onl⟩ := cells_of on.out; (try clear pn pnc pnf pnl); have pn := pn_; clear pn_; obtain ⟨pnc, pnf, pnl⟩ := cells_of pn.out; have HF_ := Aside0.mk (BF.below (by repeat (with_reducible first | exact HF.out | apply BF.drew | apply BF.drewN | apply BF.alloc)) hb_); clear HF; have HF := HF_; clear HF_; clear HB hb_; have HB := HB_; clear HB_))
  go_cut [4] (fun v_ wx => v_ = .int .i64 (src1 e1) ∧ Aside0 (wx.heap[w.heap.size]? = some (.cells (BD b v) 36 (0, 0))) ∧ Aside0 (wx.heap[w.heap.size + 1]? = some (.cells BDz 36 (0, 0))) ∧ Aside0 (BF wx (fun j => (ok j ∨ w.heap.size ≤ j) ∧ j ≠ w.heap.size ∧ j ≠ w.heap.size + 1) b v) ∧ Aside0 (Below w.heap.size w wx) ∧ w.heap.size + 1 + 1 ≤ wx.heap.size)
  case first =>
    cases e1
    all_goals (go_wp2; (first | go_region | skip); (all_goals go_wp2))
    all_goals go_meet
    all_goals exact ⟨rfl, on, pn, HF, HB, by omega⟩
  case rest =>
  obtain ⟨rfl, on, pn, HF, HB, hzw1⟩ := hcut
  rename World => w1x
  obtain ⟨onc, onf, onl⟩ := cells_of on.out
  obtain ⟨pnc, pnf, pnl⟩ := cells_of pn.out
  go_upto_if 16 with (first | ((with_reducible refine gate_dst (N := 15) rfl ?_); (try (refine gate_guard (by rfl) ?_; dsimp only)); refine wpList_load_part rfl 34 _ rfl _ 13 (by rfl) (C14 b.c v.M) (BD b v) _ (eG on) rfl _ Try.underlying34 rfl infNic ?_) | (go_at_call 31; (with_reducible refine (nicLine_c HF.out e2 H2.out).mono ?_); rintro e_ w2 ⟨rfl, hb_⟩; have HB_ : Aside0 (Below w.heap.size w w2) := Aside0.mk (below_step (bG HB) hb_); have hzw2 := hb_.size; (try simp at hzw2); have on_ := Aside0.mk (box_below hb_ (eG on)); have pn_ := Aside0.mk (box_below hb_ (eG pn)); (try clear on onc onf onl); have on := on_; clear on_; obtain ⟨onc, onf, onl⟩ := cells_of on.out; (try clear pn pnc pnf pnl); have pn := pn_; clear pn_; obtain ⟨pnc, pnf, pnl⟩ := cells_of pn.out; have HF_ := Aside0.mk (BF.below (by repeat (with_reducible first | exact HF.out | apply BF.drew | apply BF.drewN | apply BF.alloc)) hb_); clear HF; have HF := HF_; clear HF_; clear HB hb_; have HB := HB_; clear HB_))
  go_cut [4] (fun v_ wx => v_ = .int .i64 (src2 e1 e2) ∧ Aside0 (wx.heap[w.heap.size]? = some (.cells (BD b v) 36 (0, 0))) ∧ Aside0 (wx.heap[w.heap.size + 1]? = some (.cells BDz 36 (0, 0))) ∧ Aside0 (BF wx (fun j => (ok j ∨ w.heap.size ≤ j) ∧ j ≠ w.heap.size ∧ j ≠ w.heap.size + 1) b v) ∧ Aside0 (Below w.heap.size w wx) ∧ w.heap.size + 1 + 1 ≤ wx.heap.size)
  case first =>
    cases e2
    all_goals (go_wp2; (first | go_region | skip); (all_goals go_wp2))
    all_goals go_meet
    all_goals exact ⟨rfl, on, pn, HF, HB, by omega⟩
  case rest =>
  obtain ⟨rfl, on, pn, HF, HB, hzw2⟩ := hcut
  rename World => w2x
  obtain ⟨onc, onf, onl⟩ := cells_of on.out
  obtain ⟨pnc, pnf, pnl⟩ := cells_of pn.out
  go_wp2_with (first | ((with_reducible refine gate_dst (N := 20) rfl ?_); (try (refine gate_guard (by rfl) ?_; dsimp only)); refine wpList_load_part rfl 30 _ rfl _ 4 (by rfl) (Bplic b v) (BD b v) _ (eG on) rfl _ Try.underlying30 rfl infPlic ?_))
  (go_at_call 32; (with_reducible refine (plicSet_c HF.out _ q0 a c q3 q4 H3.out).mono ?_); rintro e_ w3 ⟨p0, p3, p4, rfl, sl_, hb_⟩; have HB_ : Aside0 (Below w.heap.size w w3) := Aside0.mk (below_step (bG HB) hb_); have hzw3 := hb_.size; (try simp at hzw3); have on_ := Aside0.mk (box_below hb_ (eG on)); have pn_ := Aside0.mk (box_below hb_ (eG pn)); (try clear on onc onf onl); have on := on_; clear on_; obtain ⟨onc, onf, onl⟩ := cells_of on.out; (try clear pn pnc pnf pnl); have pn := pn_; clear pn_; obtain ⟨pnc, pnf, pnl⟩ := cells_of pn.out; have HF_ := Aside0.mk (BF.below (by repeat (with_reducible first | exact HF.out | apply BF.drew | apply BF.drewN | apply BF.alloc)) hb_); clear HF; have HF := HF_; clear HF_; clear HB hb_; have HB := HB_; clear HB_; have sl__ := Aside0.mk sl_; clear sl_; have sl_ := sl__; clear sl__; skip)
  have hk9 : ∀ j, ((fun j => (ok j ∨ w.heap.size ≤ j) ∧ j ≠ w.heap.size ∧ j ≠ w.heap.size + 1) j ∨ w2x.heap.size ≤ j) → (fun j => (ok j ∨ w.heap.size ≤ j) ∧ j ≠ w.heap.size ∧ j ≠ w.heap.size + 1) j := fun j hj => by
    rcases hj with hj | hj
    · exact hj
    · exact ⟨.inr (by omega), by omega, by omega⟩
  have HN : Aside0 (BF w3 (fun j => (ok j ∨ w.heap.size ≤ j) ∧ j ≠ w.heap.size ∧ j ≠ w.heap.size + 1) ({ b with q0 := q0, x := a, y := c, q3 := q3, q4 := q4 } : Bd) ({ v with p0 := p0, p3 := p3, p4 := p4 } : Vs)) := ⟨HF.out.D, sl_.out.1.mono hk9, sl_.out.2.1.mono hk9, sl_.out.2.2.mono hk9, HF.out.u0, HF.out.u1, HF.out.M⟩
  go_upto_region 7 with (first | ((with_reducible refine gate_store (t := 30) (p := 23) (v := .tmp 22) rfl ?_); refine wpList_store_part rfl 30 _ _ rfl rfl _ 4 #[p0, .int .i64 a, .int .i64 c, p3, p4] (by rfl) (by rfl) (BD b v) (BD ({ b with q0 := q0, x := a, y := c, q3 := q3, q4 := q4 } : Bd) ({ v with p0 := p0, p3 := p3, p4 := p4 } : Vs)) _ (eG on) (Nat.le_of_ble_eq_true rfl) rfl infPlic (by obtain ⟨s1_, s2_, s3_⟩ := sl_.out; obtain ⟨_, _, e1_, _⟩ := s1_; obtain ⟨_, _, e2_, _⟩ := s2_; obtain ⟨_, _, e3_, _⟩ := s3_; rw [e1_, e2_, e3_]; simp [Value.oneCell']) ?_; rintro w4 ⟨hx_, hk_, hb_, hzz_⟩; have HB_ : Aside0 (Below w.heap.size w w4) := Aside0.mk (Below.trans (bG HB) (Below.mono hb_ (by omega))); have hzw4 := Nat.le_of_eq hzz_.symm; (try simp at hzw4); clear hzz_; have pn_ := Aside0.mk (st_put pn.out hk_ (fun h_ => (by repeat (with_reducible first | exact h_ | apply ext_drew | apply ext_drewN | apply ext_alloc | refine blk_far ?_ (by show _ ≠ _; dsimp only; omega) _))) (by omega)); clear pn; (try clear pnc pnf pnl); have pn := pn_; clear pn_; obtain ⟨pnc, pnf, pnl⟩ := cells_of pn.out; (first | (have HN_ := Aside0.mk (BF.step HN.out (fun j hj _ => hk_ j (hj.2.1)))) | (have HN_ := Aside0.mk (BF.step (BF.alloc HN.out _) (fun j hj _ => hk_ j (hj.2.1))))); clear HN; have HN := HN_; clear HN_; (try clear on onc onf onl); have on := Aside0.mk hx_; obtain ⟨onc, onf, onl⟩ := cells_of on.out; clear HB hb_ hk_ hx_; have HB := HB_; clear HB_))
  clear HF sl_
  have HF := HN
  clear HN
  go_upto_region 8 with fail
  obtain ⟨wb, hwb, ou0, hb_, hz0⟩ := letter1 w4 (.cells #[.int .u64 0] 25 (0, 0))
  rw [hwb]
  clear hwb
  have hzwb := Nat.le_of_eq hz0.symm
  obtain ⟨g, hg⟩ : ∃ g, w4.heap.size = g := ⟨_, rfl⟩
  rw [hg] at ou0
  rw [hg]
  have ou := Aside0.mk ou0
  clear ou0 hz0
  have on_ := Aside0.mk (box_below hb_ on.out)
  have pn_ := Aside0.mk (box_below hb_ pn.out)
  have HF_ := Aside0.mk ((HF.out.bound.below hb_).mono (ok' := fun j => (fun j => (ok j ∨ w.heap.size ≤ j) ∧ j ≠ w.heap.size ∧ j ≠ w.heap.size + 1) j ∧ j ≠ g) (fun j hj => ⟨hj.1, by have := hj.2; omega⟩))
  have HB_ : Aside0 (Below w.heap.size w wb) := ⟨below_step HB.out hb_⟩
  have hgw : w.heap.size + 1 + 1 ≤ g := by omega
  clear HB HF hb_ on onc onf onl pn pnc pnf pnl
  have HB := HB_; have HF := HF_; have on := on_; have pn := pn_
  clear HB_ HF_ on_ pn_
  obtain ⟨onc, onf, onl⟩ := cells_of on.out
  obtain ⟨pnc, pnf, pnl⟩ := cells_of pn.out
  obtain ⟨ouc, ouf, oul⟩ := cells_of ou.out
  go_wp2_with (first | ((with_reducible refine gate_dst (N := 27) rfl ?_); (try (refine gate_guard (by rfl) ?_; dsimp only)); refine wpList_load_part rfl 27 _ rfl _ 1 (by rfl) (Bclint b) (BD ({ b with q0 := q0, x := a, y := c, q3 := q3, q4 := q4 } : Bd) ({ v with p0 := p0, p3 := p3, p4 := p4 } : Vs)) _ (eG on) rfl _ Try.underlying27 rfl infClint ?_))
  (go_at_call 34; (with_reducible refine (clintLines_c b s t _ H4.out).mono ?_); rintro e_ w5 ⟨rfl, hb_⟩; have HB_ : Aside0 (Below w.heap.size w w5) := Aside0.mk (below_step (bG HB) hb_); have hzw5 := hb_.size; (try simp at hzw5); have on_ := Aside0.mk (box_below hb_ (eG on)); have pn_ := Aside0.mk (box_below hb_ (eG pn)); have ou_ := Aside0.mk (box_below hb_ (eG ou)); (try clear on onc onf onl); have on := on_; clear on_; obtain ⟨onc, onf, onl⟩ := cells_of on.out; (try clear pn pnc pnf pnl); have pn := pn_; clear pn_; obtain ⟨pnc, pnf, pnl⟩ := cells_of pn.out; (try clear ou ouc ouf oul); have ou := ou_; clear ou_; obtain ⟨ouc, ouf, oul⟩ := cells_of ou.out; have HF_ := Aside0.mk (BF.below (by repeat (with_reducible first | exact HF.out | apply BF.drew | apply BF.drewN | apply BF.alloc)) hb_); clear HF; have HF := HF_; clear HF_; clear HB hb_; have HB := HB_; clear HB_)
  go_wp2_with fail
  (go_at_call 33; (with_reducible refine (raise_is s 8 0 g _ ou.out).mono ?_); rintro e_ w6 ⟨rfl, hx_, hk_, hb_, hzz_⟩; have HB_ : Aside0 (Below w.heap.size w w6) := Aside0.mk (Below.trans (bG HB) (Below.mono hb_ (by omega))); have hzw6 := hzz_; (try simp at hzw6); clear hzz_; have on_ := Aside0.mk (put_keep on.out hk_ (fun h_ => (by repeat (with_reducible first | exact h_ | apply ext_drew | apply ext_drewN | apply ext_alloc | refine blk_far ?_ (by show _ ≠ _; dsimp only; omega) _))) (by omega)); have pn_ := Aside0.mk (put_keep pn.out hk_ (fun h_ => (by repeat (with_reducible first | exact h_ | apply ext_drew | apply ext_drewN | apply ext_alloc | refine blk_far ?_ (by show _ ≠ _; dsimp only; omega) _))) (by omega)); have ou_ := Aside0.mk hx_; (try clear on onc onf onl); have on := on_; clear on_; obtain ⟨onc, onf, onl⟩ := cells_of on.out; (try clear pn pnc pnf pnl); have pn := pn_; clear pn_; obtain ⟨pnc, pnf, pnl⟩ := cells_of pn.out; (try clear ou ouc ouf oul); have ou := ou_; clear ou_; obtain ⟨ouc, ouf, oul⟩ := cells_of ou.out; (first | (have HF_ := Aside0.mk (BF.step HF.out (fun j hj _ => hk_ j (hj.2)))) | (have HF_ := Aside0.mk (BF.step (BF.alloc HF.out _) (fun j hj _ => hk_ j (hj.2))))); clear HF; have HF := HF_; clear HF_; clear HB hb_ hk_ hx_; have HB := HB_; clear HB_; skip)
  go_wp2_with fail
  (go_at_call 33; (with_reducible refine (raise_is t 128 _ g _ ou.out).mono ?_); rintro e_ w7 ⟨rfl, hx_, hk_, hb_, hzz_⟩; have HB_ : Aside0 (Below w.heap.size w w7) := Aside0.mk (Below.trans (bG HB) (Below.mono hb_ (by omega))); have hzw7 := hzz_; (try simp at hzw7); clear hzz_; have on_ := Aside0.mk (put_keep on.out hk_ (fun h_ => (by repeat (with_reducible first | exact h_ | apply ext_drew | apply ext_drewN | apply ext_alloc | refine blk_far ?_ (by show _ ≠ _; dsimp only; omega) _))) (by omega)); have pn_ := Aside0.mk (put_keep pn.out hk_ (fun h_ => (by repeat (with_reducible first | exact h_ | apply ext_drew | apply ext_drewN | apply ext_alloc | refine blk_far ?_ (by show _ ≠ _; dsimp only; omega) _))) (by omega)); have ou_ := Aside0.mk hx_; (try clear on onc onf onl); have on := on_; clear on_; obtain ⟨onc, onf, onl⟩ := cells_of on.out; (try clear pn pnc pnf pnl); have pn := pn_; clear pn_; obtain ⟨pnc, pnf, pnl⟩ := cells_of pn.out; (try clear ou ouc ouf oul); have ou := ou_; clear ou_; obtain ⟨ouc, ouf, oul⟩ := cells_of ou.out; (first | (have HF_ := Aside0.mk (BF.step HF.out (fun j hj _ => hk_ j (hj.2)))) | (have HF_ := Aside0.mk (BF.step (BF.alloc HF.out _) (fun j hj _ => hk_ j (hj.2))))); clear HF; have HF := HF_; clear HF_; clear HB hb_ hk_ hx_; have HB := HB_; clear HB_; skip)
  go_wp2_with (first | ((with_reducible refine gate_dst (N := 39) rfl ?_); (try (refine gate_guard (by rfl) ?_; dsimp only)); refine wpList_load_part rfl 30 _ rfl _ 4 (by rfl) (Bplic ({ b with q0 := q0, x := a, y := c, q3 := q3, q4 := q4 } : Bd) ({ v with p0 := p0, p3 := p3, p4 := p4 } : Vs)) (BD ({ b with q0 := q0, x := a, y := c, q3 := q3, q4 := q4 } : Bd) ({ v with p0 := p0, p3 := p3, p4 := p4 } : Vs)) _ (eG on) rfl _ Try.underlying30 rfl infPlic ?_))
  (go_at_call 35; (with_reducible refine (plicBest_c HF.out 0 n0 H5.out).mono ?_); rintro e_ w8 ⟨rfl, hb_⟩; have HB_ : Aside0 (Below w.heap.size w w8) := Aside0.mk (below_step (bG HB) hb_); have hzw8 := hb_.size; (try simp at hzw8); have on_ := Aside0.mk (box_below hb_ (eG on)); have pn_ := Aside0.mk (box_below hb_ (eG pn)); have ou_ := Aside0.mk (box_below hb_ (eG ou)); (try clear on onc onf onl); have on := on_; clear on_; obtain ⟨onc, onf, onl⟩ := cells_of on.out; (try clear pn pnc pnf pnl); have pn := pn_; clear pn_; obtain ⟨pnc, pnf, pnl⟩ := cells_of pn.out; (try clear ou ouc ouf oul); have ou := ou_; clear ou_; obtain ⟨ouc, ouf, oul⟩ := cells_of ou.out; have HF_ := Aside0.mk (BF.below (by repeat (with_reducible first | exact HF.out | apply BF.drew | apply BF.drewN | apply BF.alloc)) hb_); clear HF; have HF := HF_; clear HF_; clear HB hb_; have HB := HB_; clear HB_)
  go_wp2_with fail
  (go_at_call 33; (with_reducible refine (raise_is _ 2048 _ g _ ou.out).mono ?_); rintro e_ w9 ⟨rfl, hx_, hk_, hb_, hzz_⟩; have HB_ : Aside0 (Below w.heap.size w w9) := Aside0.mk (Below.trans (bG HB) (Below.mono hb_ (by omega))); have hzw9 := hzz_; (try simp at hzw9); clear hzz_; have on_ := Aside0.mk (put_keep on.out hk_ (fun h_ => (by repeat (with_reducible first | exact h_ | apply ext_drew | apply ext_drewN | apply ext_alloc | refine blk_far ?_ (by show _ ≠ _; dsimp only; omega) _))) (by omega)); have pn_ := Aside0.mk (put_keep pn.out hk_ (fun h_ => (by repeat (with_reducible first | exact h_ | apply ext_drew | apply ext_drewN | apply ext_alloc | refine blk_far ?_ (by show _ ≠ _; dsimp only; omega) _))) (by omega)); have ou_ := Aside0.mk hx_; (try clear on onc onf onl); have on := on_; clear on_; obtain ⟨onc, onf, onl⟩ := cells_of on.out; (try clear pn pnc pnf pnl); have pn := pn_; clear pn_; obtain ⟨pnc, pnf, pnl⟩ := cells_of pn.out; (try clear ou ouc ouf oul); have ou := ou_; clear ou_; obtain ⟨ouc, ouf, oul⟩ := cells_of ou.out; (first | (have HF_ := Aside0.mk (BF.step HF.out (fun j hj _ => hk_ j (hj.2)))) | (have HF_ := Aside0.mk (BF.step (BF.alloc HF.out _) (fun j hj _ => hk_ j (hj.2))))); clear HF; have HF := HF_; clear HF_; clear HB hb_ hk_ hx_; have HB := HB_; clear HB_; skip)
  go_wp2_with (first | ((with_reducible refine gate_dst (N := 45) rfl ?_); (try (refine gate_guard (by rfl) ?_; dsimp only)); refine wpList_load_part rfl 30 _ rfl _ 4 (by rfl) (Bplic ({ b with q0 := q0, x := a, y := c, q3 := q3, q4 := q4 } : Bd) ({ v with p0 := p0, p3 := p3, p4 := p4 } : Vs)) (BD ({ b with q0 := q0, x := a, y := c, q3 := q3, q4 := q4 } : Bd) ({ v with p0 := p0, p3 := p3, p4 := p4 } : Vs)) _ (eG on) rfl _ Try.underlying30 rfl infPlic ?_))
  (go_at_call 35; (with_reducible refine (plicBest_c HF.out 1 n1 H6.out).mono ?_); rintro e_ wc ⟨rfl, hb_⟩; have HB_ : Aside0 (Below w.heap.size w wc) := Aside0.mk (below_step (bG HB) hb_); have hzwc := hb_.size; (try simp at hzwc); have on_ := Aside0.mk (box_below hb_ (eG on)); have pn_ := Aside0.mk (box_below hb_ (eG pn)); have ou_ := Aside0.mk (box_below hb_ (eG ou)); (try clear on onc onf onl); have on := on_; clear on_; obtain ⟨onc, onf, onl⟩ := cells_of on.out; (try clear pn pnc pnf pnl); have pn := pn_; clear pn_; obtain ⟨pnc, pnf, pnl⟩ := cells_of pn.out; (try clear ou ouc ouf oul); have ou := ou_; clear ou_; obtain ⟨ouc, ouf, oul⟩ := cells_of ou.out; have HF_ := Aside0.mk (BF.below (by repeat (with_reducible first | exact HF.out | apply BF.drew | apply BF.drewN | apply BF.alloc)) hb_); clear HF; have HF := HF_; clear HF_; clear HB hb_; have HB := HB_; clear HB_)
  go_upto_region 14 with (first | (go_at_call 33; (with_reducible refine (raise_is _ 512 _ g _ ou.out).mono ?_); rintro e_ wd ⟨rfl, hx_, hk_, hb_, hzz_⟩; have HB_ : Aside0 (Below w.heap.size w wd) := Aside0.mk (Below.trans (bG HB) (Below.mono hb_ (by omega))); have hzwd := hzz_; (try simp at hzwd); clear hzz_; have on_ := Aside0.mk (put_keep on.out hk_ (fun h_ => (by repeat (with_reducible first | exact h_ | apply ext_drew | apply ext_drewN | apply ext_alloc | refine blk_far ?_ (by show _ ≠ _; dsimp only; omega) _))) (by omega)); have pn_ := Aside0.mk (put_keep pn.out hk_ (fun h_ => (by repeat (with_reducible first | exact h_ | apply ext_drew | apply ext_drewN | apply ext_alloc | refine blk_far ?_ (by show _ ≠ _; dsimp only; omega) _))) (by omega)); have ou_ := Aside0.mk hx_; (try clear on onc onf onl); have on := on_; clear on_; obtain ⟨onc, onf, onl⟩ := cells_of on.out; (try clear pn pnc pnf pnl); have pn := pn_; clear pn_; obtain ⟨pnc, pnf, pnl⟩ := cells_of pn.out; (try clear ou ouc ouf oul); have ou := ou_; clear ou_; obtain ⟨ouc, ouf, oul⟩ := cells_of ou.out; (first | (have HF_ := Aside0.mk (BF.step HF.out (fun j hj _ => hk_ j (hj.2)))) | (have HF_ := Aside0.mk (BF.step (BF.alloc HF.out _) (fun j hj _ => hk_ j (hj.2))))); clear HF; have HF := HF_; clear HF_; clear HB hb_ hk_ hx_; have HB := HB_; clear HB_; skip))
  refine start_ (n := 4) (S := fun w' => w'.heap[w.heap.size]? = some (.cells (BD ({ b with q0 := q0, x := a, y := c, q3 := q3, q4 := q4 } : Bd) ({ v with p0 := p0, p3 := p3, p4 := p4 } : Vs)) 36 (0, 0)) ∧ w'.cell? ⟨g, 0, none⟩ = some (.int .u64 (upL s t (decide (n0 > 0)) (decide (n1 > 0))))) (ds := []) #[false, false, false, false] (by kernel_rfl) rfl rfl ⟨(eG on), (ouc 0).trans rfl⟩ (fun hHeld => ?_)
  refine rowL_ (i := 0) (N := some 49) #[true, false, false, false] rfl rfl (by kernel_rfl) 36 _ rfl (w.heap.size) (BD ({ b with q0 := q0, x := a, y := c, q3 := q3, q4 := q4 } : Bd) ({ v with p0 := p0, p3 := p3, p4 := p4 } : Vs)) (fun _ _ _ h => h) (by rfl) (by rfl) _ _ _ (fun _ h => h.1) Try.underlying36 rfl infBoard hHeld (a' := ?_) ?_ ?_
  rotate_left
  · simp only [Act.put, List.setIfInBounds_toArray, List.set_cons_zero, List.set_cons_succ, i64_w, i32_w]
    rfl
  refine take_ (i := 1) (N := some 50) (v := ?_) (a' := ?_) #[true, true, false, false] rfl rfl (by kernel_rfl) (fun _ _ _ h => h) (Or.inl ⟨by rfl, ?_⟩) hHeld ?_ ?_
  rotate_left
  · rintro w' ⟨h1_, h2_⟩
    go_simp
    with_reducible rfl
  rotate_left
  · simp only [Act.put, List.setIfInBounds_toArray, List.set_cons_zero, List.set_cons_succ, i64_w, i32_w]
    rfl
  refine rowS_ (i := 2) #[true, true, true, false] rfl rfl (by kernel_rfl) (by decide) 36 _ _ rfl (w.heap.size + 1) (BD ({ b with q0 := q0, x := a, y := c, q3 := q3, q4 := q4 } : Bd) ({ v with p0 := p0, p3 := p3, p4 := p4 } : Vs)) (by rfl) (by rfl) (by rfl) BDz 36 (eG pn) rfl infBoard HF.out.one ?_
  (rintro we ⟨hx_, hk_, hb_, hzz_⟩; have HB_ : Aside0 (Below w.heap.size w we) := Aside0.mk (Below.trans (bG HB) (Below.mono hb_ (by first | omega | (simp only [sz_alloc, sz_drew, sz_drewN]; omega)))); have hzwe := hzz_; (try simp at hzwe); clear hzz_; have on_ := Aside0.mk (st_put on.out hk_ (fun h_ => (by repeat (with_reducible first | exact h_ | apply ext_drew | apply ext_drewN | apply ext_alloc | refine blk_far ?_ (by show _ ≠ _; dsimp only; omega) _))) (by omega)); clear on onc onf onl; have on := on_; clear on_; obtain ⟨onc, onf, onl⟩ := cells_of on.out; have ou_ := Aside0.mk (st_put ou.out hk_ (fun h_ => (by repeat (with_reducible first | exact h_ | apply ext_drew | apply ext_drewN | apply ext_alloc | refine blk_far ?_ (by show _ ≠ _; dsimp only; omega) _))) (by omega)); clear ou ouc ouf oul; have ou := ou_; clear ou_; obtain ⟨ouc, ouf, oul⟩ := cells_of ou.out; (first | (have HF_ := Aside0.mk (BF.step HF.out (fun j hj _ => hk_ j (hj.1.2.2)))) | (have HF_ := Aside0.mk (BF.step (BF.alloc HF.out _) (fun j hj _ => hk_ j (hj.1.2.2))))); clear HF; have HF := HF_; clear HF_; (try clear pn pnc pnf pnl); have pn := Aside0.mk hx_; obtain ⟨pnc, pnf, pnl⟩ := cells_of pn.out; clear HB hb_ hk_ hx_; have HB := HB_; clear HB_)
  refine ⟨⟨(eG on), (ouc 0).trans rfl⟩, ?_⟩
  refine pure_ (i := 3) (N := some 3) (v := ?_) (a' := ?_) #[true, true, true, true] rfl rfl (by kernel_rfl) (fun _ _ _ h => h) (Or.inl ⟨by rfl, ?_⟩) ?_ ?_
  rotate_left
  · intro w'
    go_simp
    with_reducible rfl
  rotate_left
  · simp only [Act.put, List.setIfInBounds_toArray, List.set_cons_zero, List.set_cons_succ, i64_w, i32_w]
    rfl
  refine done_ (by kernel_rfl) ?_
  go_wp2
  refine bodyPost_ret (results_ct rfl _ _ (w.heap.size + 1) 36 (BD ({ b with q0 := q0, x := a, y := c, q3 := q3, q4 := q4 } : Bd) ({ v with p0 := p0, p3 := p3, p4 := p4 } : Vs)) (0, 0) _ rfl pn.out Try.underlying36 rfl infBoard) rfl ⟨({ v with p0 := p0, p3 := p3, p4 := p4 } : Vs), rfl, HF.out.mono (fun j hj => hj.1.1), (bG HB)⟩
end Go.Proofs.Ytphcckhegfgbgaa.Q
end
section
/- bus.New. -/
namespace Go.Proofs.Ytphcckhegfgbgaa.Q
open Go.RowKit Go.Proofs.YtphcckhegfgbgaaW.PrintWords Go.Proofs.YtphcckhegfgbgaaW.PrintLast Go.Proofs.YtphcckhegfgbgaaW.PrintMore Go.Proofs.Ytphcckhegfgbgaa.L
attribute [local go_sem] Instr.field part asAgg lt_step max2_int min2_int max_two min_two max_three min_three max_four min_four lt_0_1 lt_0_2 lt_1_2 lt_0_3 lt_1_3 lt_2_3 lt_0_4 lt_1_4 lt_2_4 lt_3_4 lt_0_5 lt_1_5 lt_2_5 lt_3_5 lt_4_5 lt_0_6 lt_1_6 lt_2_6 lt_3_6 lt_4_6 lt_5_6 lt_0_7 lt_1_7 lt_2_7 lt_3_7 lt_4_7 lt_5_7 lt_6_7 lt_0_8 lt_1_8 lt_2_8 lt_3_8 lt_4_8 lt_5_8 lt_6_8 lt_7_8
set_option linter.unusedVariables false
set_option linter.unusedSimpArgs false
def bH0 (r : List Int) (o : List Int) (mac : List Int) : Bd := ⟨r, 0, 0, false, [0, 0, 0], 0, 0, [0, 0], [0, 0], [], o, 0, 0, new1, mac⟩
theorem r0_new : ram_New.f 0 = some ([], 2) := by kernel_rfl
theorem ramNew_c (n : Int) (l : List Int) (e : Int) (w : World) (h : ram_New.f n = some (l, e)) : Calls Try.prog 36 #[.int .i64 n] w fun r w' => ∃ D : Value, r = .returned (.tuple #[.agg #[D], .int .i64 e]) ∧ SL .u8 w' (fun j => w.heap.size ≤ j) D l ∧ Below w.heap.size w w' := by
  refine (ram_New.calls n l e w h).mono ?_
  rintro r w' ⟨D, he, hD, hb⟩
  exact ⟨D, he, SL.of_R hD, hb⟩
theorem nicNew_c (v : Value) (mac : List Int) (w : World) (ok : Nat → Prop) (hm : SL .u8 w ok v mac) (h6 : mac.length = 6) : Calls Try.prog 37 #[v] w fun r w' => ∃ M : Value, r = .returned (.tuple #[.agg (C14 new1 M), .int .i64 0]) ∧ SL .u8 w' (fun j => w.heap.size ≤ j) M mac ∧ Below w.heap.size w w' := by
  obtain ⟨A, c, e, hc, hF⟩ := hm
  rw [e]
  refine (New_yes A c mac w ok hF hc h6).mono ?_
  rintro r w' ⟨A', c', he, hc', hF', hb⟩
  exact ⟨_, he, ⟨A', c', rfl, hc', hF'⟩, hb⟩
theorem plicNew_c (w : World) : Calls Try.prog 38 #[] w fun r w' => ∃ p0 p3 p4 : Value, r = .returned (.agg #[p0, .int .i64 0, .int .i64 0, p3, p4]) ∧ (SL .i64 w' (fun j => w.heap.size ≤ j) p0 [0, 0, 0] ∧ SL .i64 w' (fun j => w.heap.size ≤ j) p3 [0, 0] ∧ SL .i64 w' (fun j => w.heap.size ≤ j) p4 [0, 0]) ∧ Below w.heap.size w w' := by
  refine (plic_New.calls [0, 0, 0] 0 0 [0, 0] [0, 0] w (by kernel_rfl)).mono ?_
  rintro r w' ⟨p0, p3, p4, he, h0, h3, h4, hb⟩
  exact ⟨p0, p3, p4, he, ⟨SL.of_R h0, SL.of_R h3, SL.of_R h4⟩, hb⟩
set_option maxHeartbeats 1600000 in
set_option maxRecDepth 100000 in
theorem bnew_no (v : Value) (w : World) : Calls Try.prog 13 #[.int .i64 0, v] w fun r w' => r = .returned (.tuple #[.agg BDz, .int .i64 2]) ∧ Below w.heap.size w w' := by
  have HB := Aside0.mk (Below.refl w.heap.size w)
  have hu := Try.underlying36
  have hub := Try.underlying24
  go_enter Try.func13, Try.ntmps13
  go_upto_region 1 with fail
  obtain ⟨wa, hwa, pn0, hb_, hz0⟩ := letter1 w (.cells BDz 36 (0, 0))
  unfold BDz at hwa
  rw [hwa]
  clear hwa
  have hzwa := Nat.le_of_eq hz0.symm
  clear hz0
  have pn := Aside0.mk pn0
  clear pn0
  obtain ⟨pnc, pnf, pnl⟩ := cells_of pn.out
  have HB_ : Aside0 (Below w.heap.size w wa) := ⟨hb_⟩
  clear HB hb_; have HB := HB_; clear HB_
  go_wp2_with fail
  (go_at_call 36; (with_reducible refine (ramNew_c 0 [] 2 _ r0_new).mono ?_); rintro e_ w1 ⟨D, rfl, sl_, hb_⟩; have HB_ : Aside0 (Below w.heap.size w w1) := Aside0.mk (below_step (bG HB) hb_); have hzw1 := hb_.size; (try simp at hzw1); have pn_ := Aside0.mk (box_below hb_ (eG pn)); (try clear pn pnc pnf pnl); have pn := pn_; clear pn_; obtain ⟨pnc, pnf, pnl⟩ := cells_of pn.out; clear HB hb_; have HB := HB_; clear HB_; have sl__ := Aside0.mk sl_; clear sl_; have sl_ := sl__; clear sl__; skip)
  obtain ⟨A_D, c_D, eD, hcD, hFD⟩ := sl_.out
  subst eD
  clear sl_
  have HFD := Aside0.mk hFD
  clear hFD
  go_wp2_with (first | ((with_reducible refine gate_store (t := 36) (p := 4) (v := .tmp 16) rfl ?_); refine wpList_store_all rfl 36 _ _ rfl rfl _ BDz (by rfl) (by rfl) _ _ (eG pn) rfl infBoard (by unfold BDz; simp [Value.oneCell']) ?_; rintro w2 ⟨hx_, hk_, hb_, hzz_⟩; have HB_ : Aside0 (Below w.heap.size w w2) := Aside0.mk (Below.trans (bG HB) (Below.mono hb_ (by first | omega | (simp only [sz_alloc, sz_drew, sz_drewN]; omega)))); have hzw2 := hzz_; (try simp at hzw2); clear hzz_; (try clear pn pnc pnf pnl); have pn := Aside0.mk hx_; obtain ⟨pnc, pnf, pnl⟩ := cells_of pn.out; clear HB hb_ hk_ hx_; have HB := HB_; clear HB_))
  refine bodyPost_ret (results_ct rfl _ _ w.heap.size 36 BDz (0, 0) _ rfl pn.out Try.underlying36 rfl infBoard) rfl ⟨rfl, (bG HB)⟩
set_option maxHeartbeats 1600000 in
set_option maxRecDepth 100000 in
theorem bnew_yes (v : Value) (mac : List Int) (w : World) (ok : Nat → Prop) (hm : SL .u8 w ok v mac) (h6 : mac.length = 6) (r0 : List Int) (hr0 : ram_New.f 4096 = some (r0, 0)) : Calls Try.prog 13 #[.int .i64 4096, v] w fun r w' => ∃ v' : Vs, r = .returned (.tuple #[.agg (BD (bH0 r0 [] mac) v'), .int .i64 0]) ∧ BF w' (fun j => w.heap.size ≤ j) (bH0 r0 [] mac) v' ∧ Below w.heap.size w w' := by
  have HB := Aside0.mk (Below.refl w.heap.size w)
  have HM := Aside0.mk hm
  have H6 := Aside0.mk h6
  have HR0 := Aside0.mk hr0
  have hu := Try.underlying36
  have hub := Try.underlying24
  have hun := Try.underlying34
  clear hm h6 hr0
  go_enter Try.func13, Try.ntmps13
  go_upto_region 1 with fail
  obtain ⟨wa, hwa, pn0, hb_, hz0⟩ := letter1 w (.cells BDz 36 (0, 0))
  unfold BDz at hwa
  rw [hwa]
  clear hwa
  have hzwa := Nat.le_of_eq hz0.symm
  clear hz0
  have pn := Aside0.mk pn0
  clear pn0
  obtain ⟨pnc, pnf, pnl⟩ := cells_of pn.out
  have HB_ : Aside0 (Below w.heap.size w wa) := ⟨hb_⟩
  have HM_ := Aside0.mk (HM.out.below hb_)
  clear HB HM hb_; have HB := HB_; have HM := HM_; clear HB_ HM_
  go_wp2_with fail
  (go_at_call 36; (with_reducible refine (ramNew_c 4096 r0 0 _ HR0.out).mono ?_); rintro e_ w1 ⟨D, rfl, sl_, hb_⟩; have HB_ : Aside0 (Below w.heap.size w w1) := Aside0.mk (below_step (bG HB) hb_); have hzw1 := hb_.size; (try simp at hzw1); have pn_ := Aside0.mk (box_below hb_ (eG pn)); (try clear pn pnc pnf pnl); have pn := pn_; clear pn_; obtain ⟨pnc, pnf, pnl⟩ := cells_of pn.out; have HM_ := Aside0.mk (SL.below (by repeat (with_reducible first | exact HM.out | apply SL.drew | apply SL.drewN | apply SL.alloc)) hb_); clear HM; have HM := HM_; clear HM_; clear HB hb_; have HB := HB_; clear HB_; have sl__ := Aside0.mk sl_; clear sl_; have sl_ := sl__; clear sl__; skip)
  obtain ⟨A_D, c_D, eD, hcD, hFD⟩ := sl_.out
  subst eD
  clear sl_
  have hD : SL .u8 w1 (fun j => w.heap.size + 1 ≤ j ∧ j < w1.heap.size) (.slice A_D r0.length c_D) r0 := ⟨A_D, c_D, rfl, hcD, Kd.F_mono (Kd.F_bound hFD) (fun j hj => ⟨by have := hj.1; omega, hj.2⟩)⟩
  have HD := Aside0.mk hD
  clear hD hFD hcD
  obtain ⟨RD, hRD⟩ : ∃ RD, r0.length = RD := ⟨_, rfl⟩
  rw [hRD] at HD
  rw [hRD]
  clear hRD
  go_upto_region 2 with fail
  obtain ⟨wb, hwb, or0, hb_, hz0⟩ := letter1 w1 (.cells #[.slice A_D RD c_D] 24 (0, 0))
  rw [hwb]
  clear hwb
  have hzwb := Nat.le_of_eq hz0.symm
  clear hz0
  have orr := Aside0.mk or0
  clear or0
  have HB_ : Aside0 (Below w.heap.size w wb) := ⟨below_step HB.out hb_⟩
  have HM_ := Aside0.mk (HM.out.below hb_)
  have HD_ := Aside0.mk (HD.out.below hb_)
  have pn_ := Aside0.mk (box_below hb_ pn.out)
  clear HB HM HD hb_ pn pnc pnf pnl; have HB := HB_; have HM := HM_; have HD := HD_; have pn := pn_; clear HB_ HM_ HD_ pn_
  obtain ⟨pnc, pnf, pnl⟩ := cells_of pn.out
  obtain ⟨orrc, orrf, orrl⟩ := cells_of orr.out
  go_wp2_with fail
  (go_at_call 37; (with_reducible refine (nicNew_c v mac _ ok HM.out H6.out).mono ?_); rintro e_ w2 ⟨M, rfl, sl_, hb_⟩; have HB_ : Aside0 (Below w.heap.size w w2) := Aside0.mk (below_step (bG HB) hb_); have hzw2 := hb_.size; (try simp at hzw2); have pn_ := Aside0.mk (box_below hb_ (eG pn)); have orr_ := Aside0.mk (box_below hb_ (eG orr)); (try clear pn pnc pnf pnl); have pn := pn_; clear pn_; obtain ⟨pnc, pnf, pnl⟩ := cells_of pn.out; (try clear orr orrc orrf orrl); have orr := orr_; clear orr_; obtain ⟨orrc, orrf, orrl⟩ := cells_of orr.out; have HD_ := Aside0.mk (SL.below (by repeat (with_reducible first | exact HD.out | apply SL.drew | apply SL.drewN | apply SL.alloc)) hb_); clear HD; have HD := HD_; clear HD_; clear HB hb_; have HB := HB_; clear HB_; have sl__ := Aside0.mk sl_; clear sl_; have sl_ := sl__; clear sl__; skip)
  obtain ⟨A_M, c_M, eM, hcM, hFM⟩ := sl_.out
  subst eM
  clear sl_ HM
  have HM : Aside0 (SL .u8 w2 (fun j => wb.heap.size ≤ j ∧ j < w2.heap.size) (.slice A_M mac.length c_M) mac) := ⟨⟨A_M, c_M, rfl, hcM, Kd.F_bound hFM⟩⟩
  clear hFM hcM
  go_upto_region 5 with (first | ((with_reducible refine gate_store (t := 34) (p := 8) (v := .tmp 21) rfl ?_); refine wpList_store_all rfl 34 _ _ rfl rfl _ #[.int .i64 0, .int .i64 0, .int .i64 0, .int .u64 0, .int .i64 1, .int .i64 0, .int .i64 0, .int .u64 0, .int .i64 1, .int .i64 0, .int .i64 0, .int .i64 0, .int .i64 0, .slice A_M mac.length c_M] (by rfl) (by rfl) _ _ (nb_1 _ _) rfl infNic (C14_one new1 _ _ _) ?_; rintro w3 ⟨hx_, hk_, hb_, hzz_⟩; have HB_ : Aside0 (Below w.heap.size w w3) := Aside0.mk (Below.trans (bG HB) (Below.mono hb_ (by first | omega | (simp only [sz_alloc, sz_drew, sz_drewN]; omega)))); have hzw3 := hzz_; (try simp at hzw3); clear hzz_; have pn_ := Aside0.mk (st_put pn.out hk_ (fun h_ => (by repeat (with_reducible first | exact h_ | apply ext_drew | apply ext_drewN | apply ext_alloc | refine blk_far ?_ (by show _ ≠ _; dsimp only; omega) _))) (by omega)); clear pn pnc pnf pnl; have pn := pn_; clear pn_; obtain ⟨pnc, pnf, pnl⟩ := cells_of pn.out; have orr_ := Aside0.mk (st_put orr.out hk_ (fun h_ => (by repeat (with_reducible first | exact h_ | apply ext_drew | apply ext_drewN | apply ext_alloc | refine blk_far ?_ (by show _ ≠ _; dsimp only; omega) _))) (by omega)); clear orr orrc orrf orrl; have orr := orr_; clear orr_; obtain ⟨orrc, orrf, orrl⟩ := cells_of orr.out; (first | (have HD_ := Aside0.mk (SL.step HD.out (fun j hj _ => hk_ j ((by have := hj.2; omega))))) | (have HD_ := Aside0.mk (SL.step (SL.alloc HD.out _) (fun j hj _ => hk_ j ((by have := hj.2; omega)))))); clear HD; have HD := HD_; clear HD_; (first | (have HM_ := Aside0.mk (SL.step HM.out (fun j hj _ => hk_ j ((by have := hj.2; omega))))) | (have HM_ := Aside0.mk (SL.step (SL.alloc HM.out _) (fun j hj _ => hk_ j ((by have := hj.2; omega)))))); clear HM; have HM := HM_; clear HM_; (try clear om omc omf oml); have om := Aside0.mk hx_; obtain ⟨omc, omf, oml⟩ := cells_of om.out; clear HB hb_ hk_ hx_; have HB := HB_; clear HB_))
  go_upto_region 7 with fail
  refine start_ (n := 6) (S := fun w' => w'.heap[w1.heap.size]? = some (.cells #[.slice A_D RD c_D] 24 (0, 0)) ∧ w'.heap[w2.heap.size]? = some (.cells #[.int .i64 0, .int .i64 0, .int .i64 0, .int .u64 0, .int .i64 1, .int .i64 0, .int .i64 0, .int .u64 0, .int .i64 1, .int .i64 0, .int .i64 0, .int .i64 0, .int .i64 0, .slice A_M mac.length c_M] 34 (0, 0))) (ds := []) #[false, false, false, false, false, false] (by kernel_rfl) rfl rfl ⟨(eG orr), (eG om)⟩ (fun hHeld => ?_)
  refine rowL_ (i := 0) (N := some 27) #[true, false, false, false, false, false] rfl rfl (by kernel_rfl) 24 _ rfl (w1.heap.size) (#[.slice A_D RD c_D]) (fun _ _ _ h => h) (by rfl) (by rfl) _ _ _ (fun _ h => h.1) Try.underlying24 rfl infRam hHeld (a' := ?_) ?_ ?_
  rotate_left
  · simp only [Act.put, List.setIfInBounds_toArray, List.set_cons_zero, List.set_cons_succ, i64_w, i32_w]
    rfl
  refine rowL_ (i := 2) (N := some 29) #[true, false, true, false, false, false] rfl rfl (by kernel_rfl) 34 _ rfl (w2.heap.size) (#[.int .i64 0, .int .i64 0, .int .i64 0, .int .u64 0, .int .i64 1, .int .i64 0, .int .i64 0, .int .u64 0, .int .i64 1, .int .i64 0, .int .i64 0, .int .i64 0, .int .i64 0, .slice A_M mac.length c_M]) (fun _ _ _ h => h) (by rfl) (by rfl) _ _ _ (fun _ h => h.2) Try.underlying34 rfl infNic hHeld (a' := ?_) ?_ ?_
  rotate_left
  · simp only [Act.put, List.setIfInBounds_toArray, List.set_cons_zero, List.set_cons_succ, i64_w, i32_w]
    rfl
  refine one_ (i := 1) (N := some 28) #[true, true, true, false, false, false] rfl rfl (by kernel_rfl) (by decide) (fun K hK => ?_)
  (refine goes_ Try.func38 (by kernel_rfl) rfl #[] (by rfl) rfl rfl (by (try simp only [List.map_toArray, List.map_cons, List.map_nil]); first | done | rfl) ?_; (with_reducible refine (plicNew_c _).mono ?_); rintro e_ w4 ⟨p0, p3, p4, rfl, sl_, hb_⟩; refine ⟨_, rfl, ?_⟩; have HB_ : Aside0 (Below w.heap.size w w4) := Aside0.mk (below_step (bG HB) hb_); have hzw4 := hb_.size; (try simp at hzw4); have pn_ := Aside0.mk (box_below hb_ (eG pn)); have orr_ := Aside0.mk (box_below hb_ (eG orr)); have om_ := Aside0.mk (box_below hb_ (eG om)); (try clear pn pnc pnf pnl); have pn := pn_; clear pn_; obtain ⟨pnc, pnf, pnl⟩ := cells_of pn.out; (try clear orr orrc orrf orrl); have orr := orr_; clear orr_; obtain ⟨orrc, orrf, orrl⟩ := cells_of orr.out; (try clear om omc omf oml); have om := om_; clear om_; obtain ⟨omc, omf, oml⟩ := cells_of om.out; have HD_ := Aside0.mk (SL.below (by repeat (with_reducible first | exact HD.out | apply SL.drew | apply SL.drewN | apply SL.alloc)) hb_); clear HD; have HD := HD_; clear HD_; have HM_ := Aside0.mk (SL.below (by repeat (with_reducible first | exact HM.out | apply SL.drew | apply SL.drewN | apply SL.alloc)) hb_); clear HM; have HM := HM_; clear HM_; clear HB hb_; have HB := HB_; clear HB_; have sl__ := Aside0.mk sl_; clear sl_; have sl_ := sl__; clear sl__; skip)
  have HN : Aside0 (BF w4 (fun j => w.heap.size + 1 ≤ j) (bH0 r0 [] mac) (⟨.slice A_D RD c_D, p0, p3, p4, .slice none 0 0, .slice none 0 0, .slice A_M mac.length c_M⟩ : Vs)) := ⟨⟨HD.out.mono (fun j hj => hj.1), sl_.out.1.mono (fun j hj => by have h_ : w3.heap.size ≤ j := hj; omega), sl_.out.2.1.mono (fun j hj => by have h_ : w3.heap.size ≤ j := hj; omega), sl_.out.2.2.mono (fun j hj => by have h_ : w3.heap.size ≤ j := hj; omega), SL.nil, SL.nil, HM.out.mono (fun j hj => by have := hj.1; omega)⟩⟩
  refine hK.out _ _ ⟨(eG orr), (eG om)⟩ (fun hHeld => ?_)
  clear hK K
  refine norm_ (a' := ?_) ?_ ?_
  rotate_left
  · simp only [Act.put, List.setIfInBounds_toArray, List.set_cons_zero, List.set_cons_succ, i64_w, i32_w]
    rfl
  refine pure_ (i := 3) (N := some 30) (v := ?_) (a' := ?_) #[true, true, true, true, false, false] rfl rfl (by kernel_rfl) (fun _ _ _ h => h) (Or.inl ⟨by rfl, ?_⟩) ?_ ?_
  rotate_left
  · intro w'
    go_simp
    with_reducible rfl
  rotate_left
  · simp only [Act.put, List.setIfInBounds_toArray, List.set_cons_zero, List.set_cons_succ, i64_w, i32_w]
    rfl
  refine rowS_ (i := 4) #[true, true, true, true, true, false] rfl rfl (by kernel_rfl) (by decide) 36 _ _ rfl (w.heap.size) (BD (bH0 r0 [] mac) (⟨.slice A_D RD c_D, p0, p3, p4, .slice none 0 0, .slice none 0 0, .slice A_M mac.length c_M⟩ : Vs)) (by rfl) (by rfl) (by rfl) BDz 36 (eG pn) rfl infBoard HN.out.one ?_
  (rintro w5 ⟨hx_, hk_, hb_, hzz_⟩; have HB_ : Aside0 (Below w.heap.size w w5) := Aside0.mk (Below.trans (bG HB) (Below.mono hb_ (by first | omega | (simp only [sz_alloc, sz_drew, sz_drewN]; omega)))); have hzw5 := hzz_; (try simp at hzw5); clear hzz_; have orr_ := Aside0.mk (st_put orr.out hk_ (fun h_ => (by repeat (with_reducible first | exact h_ | apply ext_drew | apply ext_drewN | apply ext_alloc | refine blk_far ?_ (by show _ ≠ _; dsimp only; omega) _))) (by omega)); clear orr orrc orrf orrl; have orr := orr_; clear orr_; obtain ⟨orrc, orrf, orrl⟩ := cells_of orr.out; have om_ := Aside0.mk (st_put om.out hk_ (fun h_ => (by repeat (with_reducible first | exact h_ | apply ext_drew | apply ext_drewN | apply ext_alloc | refine blk_far ?_ (by show _ ≠ _; dsimp only; omega) _))) (by omega)); clear om omc omf oml; have om := om_; clear om_; obtain ⟨omc, omf, oml⟩ := cells_of om.out; (first | (have HN_ := Aside0.mk (BF.step HN.out (fun j hj _ => hk_ j (by have h_ : w.heap.size + 1 ≤ j := hj; omega)))) | (have HN_ := Aside0.mk (BF.step (BF.alloc HN.out _) (fun j hj _ => hk_ j (by have h_ : w.heap.size + 1 ≤ j := hj; omega))))); clear HN; have HN := HN_; clear HN_; (try clear pn pnc pnf pnl); have pn := Aside0.mk hx_; obtain ⟨pnc, pnf, pnl⟩ := cells_of pn.out; clear HB hb_ hk_ hx_; have HB := HB_; clear HB_)
  refine ⟨⟨(eG orr), (eG om)⟩, ?_⟩
  refine pure_ (i := 5) (N := some 5) (v := ?_) (a' := ?_) #[true, true, true, true, true, true] rfl rfl (by kernel_rfl) (fun _ _ _ h => h) (Or.inl ⟨by rfl, ?_⟩) ?_ ?_
  rotate_left
  · intro w'
    go_simp
    with_reducible rfl
  rotate_left
  · simp only [Act.put, List.setIfInBounds_toArray, List.set_cons_zero, List.set_cons_succ, i64_w, i32_w]
    rfl
  refine done_ (by kernel_rfl) ?_
  go_wp2
  refine bodyPost_ret (results_ct rfl _ _ w.heap.size 36 (BD (bH0 r0 [] mac) (⟨.slice A_D RD c_D, p0, p3, p4, .slice none 0 0, .slice none 0 0, .slice A_M mac.length c_M⟩ : Vs)) (0, 0) _ rfl pn.out Try.underlying36 rfl infBoard) rfl ⟨(⟨.slice A_D RD c_D, p0, p3, p4, .slice none 0 0, .slice none 0 0, .slice A_M mac.length c_M⟩ : Vs), rfl, HN.out.mono (fun j hj => Nat.le_of_succ_le hj), (bG HB)⟩
end Go.Proofs.Ytphcckhegfgbgaa.Q
end
section
/- heads, their calls. -/
namespace Go.Proofs.Ytphcckhegfgbgaa.Q
open Go.RowKit Go.Proofs.YtphcckhegfgbgaaW.PrintWords Go.Proofs.YtphcckhegfgbgaaW.PrintLast Go.Proofs.YtphcckhegfgbgaaW.PrintMore Go.Proofs.Ytphcckhegfgbgaa.L
attribute [local go_sem] Instr.field part asAgg lt_step max2_int min2_int max_two min_two max_three min_three max_four min_four lt_0_1 lt_0_2 lt_1_2 lt_0_3 lt_1_3 lt_2_3 lt_0_4 lt_1_4 lt_2_4 lt_3_4 lt_0_5 lt_1_5 lt_2_5 lt_3_5 lt_4_5 lt_0_6 lt_1_6 lt_2_6 lt_3_6 lt_4_6 lt_5_6 lt_0_7 lt_1_7 lt_2_7 lt_3_7 lt_4_7 lt_5_7 lt_6_7 lt_0_8 lt_1_8 lt_2_8 lt_3_8 lt_4_8 lt_5_8 lt_6_8 lt_7_8
set_option linter.unusedVariables false
set_option linter.unusedSimpArgs false
def mH : List Int := [0, 0, 0, 0, 0, 0]
/-- The memory of the heads: made, written. -/
structure HR (r0 r2 : List Int) : Prop where
  new : ram_New.f 4096 = some (r0, 0)
  wr : ram_Write.f r0 2147483648 8 4660 = some (r2, true)
  no : ram_Write.f r2 268435464 1 0 = some (r2, false)
  rd : ram_Read.f 8 r2 2147483648 2 = some (4660, true)
theorem hr_is : ∃ r0 r2, HR r0 r2 := ⟨List.replicate 4096 0, writeL (List.replicate 4096 0) 2147483648 8 4660, by kernel_rfl, by kernel_rfl, by kernel_rfl, by kernel_rfl⟩
theorem fU : uart_Store.f [] [] 0 0 (IntKind.u64.wrap (268435456 - 268435456)) 1 65 = some ([], [65], 0, 0, true) := by kernel_rfl
section
variable {w : World} {ok : Nat → Prop} {v : Vs} {r0 r2 : List Int}
theorem storeH1 (hF : BF w ok (bH0 r0 [] mH) v) : Calls Try.prog 9 #[.agg (BD (bH0 r0 [] mH) v), .int .u64 268435456, .int .i64 1, .int .u64 65] w fun e w' => ∃ v' : Vs, e = .returned (.tuple #[.agg (BD (bH0 r0 [65] mH) v'), .bool true]) ∧ BF w' (fun j => ok j ∨ w.heap.size ≤ j) (bH0 r0 [65] mH) v' ∧ Below w.heap.size w w' :=
  bst_uart (bH0 r0 [] mH) v 268435456 1 65 [] [65] 0 0 true w ok hF (by kernel_rfl) (by kernel_rfl) (by kernel_rfl) fU
theorem storeH2 (h : HR r0 r2) (hF : BF w ok (bH0 r0 [65] mH) v) : Calls Try.prog 9 #[.agg (BD (bH0 r0 [65] mH) v), .int .u64 2147483648, .int .i64 8, .int .u64 4660] w fun e w' => ∃ v' : Vs, e = .returned (.tuple #[.agg (BD (bH0 r2 [65] mH) v'), .bool true]) ∧ BF w' (fun j => ok j ∨ w.heap.size ≤ j) (bH0 r2 [65] mH) v' ∧ Below w.heap.size w w' :=
  bst_ram (bH0 r0 [65] mH) v 2147483648 8 4660 r2 true w ok hF (by kernel_rfl) (by kernel_rfl) (by kernel_rfl) (by kernel_rfl) h.wr
theorem storeH3 (h : HR r0 r2) (hF : BF w ok (bH0 r2 [65] mH) v) : Calls Try.prog 9 #[.agg (BD (bH0 r2 [65] mH) v), .int .u64 268435464, .int .i64 1, .int .u64 0] w fun e w' => ∃ v' : Vs, e = .returned (.tuple #[.agg (BD (bH0 r2 [65] mH) v'), .bool false]) ∧ BF w' (fun j => ok j ∨ w.heap.size ≤ j) (bH0 r2 [65] mH) v' ∧ Below w.heap.size w w' :=
  bst_ram (bH0 r2 [65] mH) v 268435464 1 0 r2 false w ok hF (by kernel_rfl) (by kernel_rfl) (by kernel_rfl) (by kernel_rfl) h.no
theorem loadH (h : HR r0 r2) (hF : BF w ok (bH0 r2 [65] mH) v) : Calls Try.prog 10 #[.agg (BD (bH0 r2 [65] mH) v), .int .u64 2147483648, .int .i64 2] w fun e w' => e = .returned (.tuple #[.int .u64 4660, .agg (BD (bH0 r2 [65] mH) v), .bool true]) ∧ BF w' (fun j => ok j ∨ w.heap.size ≤ j) (bH0 r2 [65] mH) v ∧ Below w.heap.size w w' :=
  bld_ram (bH0 r2 [65] mH) v 8 2147483648 2 4660 true w ok hF (by kernel_rfl) (by kernel_rfl) (by kernel_rfl) (by kernel_rfl) h.rd
theorem linesH (hF : BF w ok (bH0 r2 [65] mH) v) : Calls Try.prog 12 #[.agg (BD (bH0 r2 [65] mH) v)] w fun e w' => ∃ v' : Vs, e = .returned (.tuple #[.agg (BD (bH0 r2 [65] mH) v'), .int .u64 128]) ∧ BF w' (fun j => ok j ∨ w.heap.size ≤ j) (bH0 r2 [65] mH) v' ∧ Below w.heap.size w w' :=
  blines (bH0 r2 [65] mH) v false false false true [0, 0, 0] 0 0 [0, 0] [0, 0] 0 0 w ok hF (by kernel_rfl) (by kernel_rfl) (by kernel_rfl) (by kernel_rfl) (by kernel_rfl) (by kernel_rfl)
end
theorem sl6 (w w' : World) (g : Nat) (h : w'.heap[g]? = some (.cells (Array.replicate 6 (.int .u8 0)) 5 (0, 0))) : SL .u8 w' (fun j => j < w'.heap.size) (.slice (some ⟨g, 0, none⟩) 6 6) mH := ⟨some ⟨g, 0, none⟩, 6, rfl, Nat.le_refl _, F_in (C_blk h rfl (by decide) rfl)⟩
theorem out1 (w : World) (ok : Nat → Prop) (v : Value) (c : Nat) (g : Nat) (hc : 1 ≤ c) (hv : SL .u8 w ok v [65]) (hg : w.heap[g]? = some (.cells #[.int .u8 65] 5 (0, 0))) : Calls Try.prog 14 #[v, .slice (some ⟨g, 0, none⟩) 1 c] w fun e w' => e = .returned (.bool true) ∧ Below w.heap.size w w' := by
  obtain ⟨A, c0, e, h0, hF⟩ := hv
  rw [e]
  refine (drawbridgeref01_Same.calls A c0 [65] (some ⟨g, 0, none⟩) c [65] true w (Kd.F_now hF) h0 (C_blk hg rfl (by decide) rfl) hc (by unfold drawbridgeref01_Same.f; rw [beq_self_eq_true])).mono ?_
  rintro e w' ⟨rfl, hd⟩
  obtain ⟨n, rfl⟩ := hd.out
  exact ⟨rfl, pw_below_drewN (Below.refl _ _) n⟩
end Go.Proofs.Ytphcckhegfgbgaa.Q
end
section
/- heads. -/
namespace Go.Proofs.Ytphcckhegfgbgaa.Q
open Go.RowKit Go.Proofs.YtphcckhegfgbgaaW.PrintWords Go.Proofs.YtphcckhegfgbgaaW.PrintLast Go.Proofs.YtphcckhegfgbgaaW.PrintMore Go.Proofs.Ytphcckhegfgbgaa.L
attribute [local go_sem] Instr.field part asAgg lt_step max2_int min2_int max_two min_two max_three min_three max_four min_four lt_0_1 lt_0_2 lt_1_2 lt_0_3 lt_1_3 lt_2_3 lt_0_4 lt_1_4 lt_2_4 lt_3_4 lt_0_5 lt_1_5 lt_2_5 lt_3_5 lt_4_5 lt_0_6 lt_1_6 lt_2_6 lt_3_6 lt_4_6 lt_5_6 lt_0_7 lt_1_7 lt_2_7 lt_3_7 lt_4_7 lt_5_7 lt_6_7 lt_0_8 lt_1_8 lt_2_8 lt_3_8 lt_4_8 lt_5_8 lt_6_8 lt_7_8
set_option linter.unusedVariables false
set_option linter.unusedSimpArgs false
set_option maxHeartbeats 1600000 in
set_option maxRecDepth 100000 in
theorem heads_runs (w : World) : Calls Try.prog 8 #[] w fun e w' => e = .returned (.bool true) ∧ Below w.heap.size w w' := by
  have HB := Aside0.mk (Below.refl w.heap.size w)
  have hu := Try.underlying36
  obtain ⟨r0, r2, hr⟩ := hr_is
  have HR := Aside0.mk hr
  clear hr
  have hmk : ∀ W : World, (Instr.makeSlice 22 (.int .i64 6) (.int .i64 6)).run Try.prog W = .ok (.slice (some ⟨W.heap.size, 0, none⟩) 6 6) (W.alloc (.cells (Array.replicate 6 (.int .u8 0)) 5 (0, 0))) := fun _ => by kernel_rfl
  go_enter Try.func8, Try.ntmps8
  go_wp2_with fail
  (go_at_call 13; (with_reducible refine (bnew_yes _ mH _ _ (sl6 w _ _ (nb_1 _ _)) rfl r0 HR.out.new).mono ?_); rintro e_ w1 ⟨v1, rfl, HF2, hb_⟩; have HB_ : Aside0 (Below w.heap.size w w1) := Aside0.mk (below_step (bG HB) hb_); have hzw1 := hb_.size; (try simp at hzw1); clear HB hb_; have HB := HB_; clear HB_; have HF2_ := Aside0.mk HF2; clear HF2; have HF2 := HF2_; clear HF2_; skip)
  have HF_ := Aside0.mk (HF2.out.bound.mono (ok' := fun j => True ∧ j < w1.heap.size) (fun j hj => ⟨trivial, hj.2⟩))
  (try clear HF)
  (try clear HF2)
  have HF := HF_
  clear HF_
  go_wp2_with (first | ((with_reducible refine gate_store (t := 36) (p := 1) (v := .tmp 17) rfl ?_); refine wpList_store_all rfl 36 _ _ rfl rfl _ (BD (bH0 r0 [] mH) v1) (by rfl) (by rfl) _ _ (nb_1 _ _) rfl infBoard (HF.out.one) ?_; rintro w2 ⟨hx_, hk_, hb_, hzz_⟩; have HB_ : Aside0 (Below w.heap.size w w2) := Aside0.mk (Below.trans (bG HB) (Below.mono hb_ (by first | omega | (simp only [sz_alloc, sz_drew, sz_drewN]; omega)))); have hzw2 := Nat.le_of_eq hzz_.symm; (try simp at hzw2); clear hzz_; (first | (have HF_ := Aside0.mk (BF.step HF.out (fun j hj _ => hk_ j ((by have h_ := hj.2; omega))))) | (have HF_ := Aside0.mk (BF.step (BF.alloc HF.out _) (fun j hj _ => hk_ j ((by have h_ := hj.2; omega)))))); clear HF; have HF := HF_; clear HF_; (try clear on onc onf onl); have on := Aside0.mk hx_; obtain ⟨onc, onf, onl⟩ := cells_of on.out; clear HB hb_ hk_ hx_; have HB := HB_; clear HB_))
  (go_at_call 13; (with_reducible refine (bnew_no _ _).mono ?_); rintro e_ w3 ⟨rfl, hb_⟩; have HB_ : Aside0 (Below w.heap.size w w3) := Aside0.mk (below_step (bG HB) hb_); have hzw3 := hb_.size; (try simp at hzw3); have on_ := Aside0.mk (box_below hb_ (eG on)); (try clear on onc onf onl); have on := on_; clear on_; obtain ⟨onc, onf, onl⟩ := cells_of on.out; have HF_ := Aside0.mk (BF.below (by repeat (with_reducible first | exact HF.out | apply BF.drew | apply BF.drewN | apply BF.alloc)) hb_); clear HF; have HF := HF_; clear HF_; clear HB hb_; have HB := HB_; clear HB_)
  go_wp2_with (first | ((with_reducible refine gate_store (t := 36) (p := 3) (v := .tmp 22) rfl ?_); refine wpList_store_all rfl 36 _ _ rfl rfl _ BDz (by rfl) (by rfl) _ _ (nb_1 _ _) rfl infBoard (by unfold BDz; simp [Value.oneCell']) ?_; rintro w4 ⟨hx_, hk_, hb_, hzz_⟩; have HB_ : Aside0 (Below w.heap.size w w4) := Aside0.mk (Below.trans (bG HB) (Below.mono hb_ (by first | omega | (simp only [sz_alloc, sz_drew, sz_drewN]; omega)))); have hzw4 := Nat.le_of_eq hzz_.symm; (try simp at hzw4); clear hzz_; have on_ := Aside0.mk (st_put on.out hk_ (fun h_ => (by repeat (with_reducible first | exact h_ | apply ext_drew | apply ext_drewN | apply ext_alloc | refine blk_far ?_ (by show _ ≠ _; dsimp only; omega) _))) (by omega)); clear on onc onf onl; have on := on_; clear on_; obtain ⟨onc, onf, onl⟩ := cells_of on.out; (first | (have HF_ := Aside0.mk (BF.step HF.out (fun j hj _ => hk_ j ((by have h_ := hj.2; omega))))) | (have HF_ := Aside0.mk (BF.step (BF.alloc HF.out _) (fun j hj _ => hk_ j ((by have h_ := hj.2; omega)))))); clear HF; have HF := HF_; clear HF_; (try clear ox oxc oxf oxl); have ox := Aside0.mk hx_; obtain ⟨oxc, oxf, oxl⟩ := cells_of ox.out; clear HB hb_ hk_ hx_; have HB := HB_; clear HB_) | ((with_reducible refine gate_dst (N := 25) rfl ?_); (try (refine gate_guard (by rfl) ?_; dsimp only)); refine wpList_load_row rfl 36 _ rfl _ (by rfl) _ (BD (bH0 r0 [] mH) v1) _ _ (eG on) Try.underlying36 rfl infBoard ?_))
  clear ox oxc oxf oxl
  (go_at_call 9; (with_reducible refine (storeH1 HF.out).mono ?_); rintro e_ w5 ⟨v2, rfl, HF2, hb_⟩; have HB_ : Aside0 (Below w.heap.size w w5) := Aside0.mk (below_step (bG HB) hb_); have hzw5 := hb_.size; (try simp at hzw5); have on_ := Aside0.mk (box_below hb_ (eG on)); (try clear on onc onf onl); have on := on_; clear on_; obtain ⟨onc, onf, onl⟩ := cells_of on.out; clear HB hb_; have HB := HB_; clear HB_; have HF2_ := Aside0.mk HF2; clear HF2; have HF2 := HF2_; clear HF2_; skip)
  have HF_ := Aside0.mk (HF2.out.bound.mono (ok' := fun j => j ≠ w1.heap.size ∧ j < w5.heap.size) (fun j hj => ⟨by have h_ := hj.1; (try dsimp only at h_); omega, hj.2⟩))
  (try clear HF)
  (try clear HF2)
  have HF := HF_
  clear HF_
  go_wp2_with (first | ((with_reducible refine gate_store (t := 36) (p := 1) (v := .tmp 27) rfl ?_); refine wpList_store_all rfl 36 _ _ rfl rfl _ (BD (bH0 r0 [65] mH) v2) (by rfl) (by rfl) _ _ on.out rfl infBoard (HF.out.one) ?_; rintro w6 ⟨hx_, hk_, hb_, hzz_⟩; have HB_ : Aside0 (Below w.heap.size w w6) := Aside0.mk (Below.trans (bG HB) (Below.mono hb_ (by first | omega | (simp only [sz_alloc, sz_drew, sz_drewN]; omega)))); have hzw6 := Nat.le_of_eq hzz_.symm; (try simp at hzw6); clear hzz_; (first | (have HF_ := Aside0.mk (BF.step HF.out (fun j hj _ => hk_ j (hj.1)))) | (have HF_ := Aside0.mk (BF.step (BF.alloc HF.out _) (fun j hj _ => hk_ j (hj.1))))); clear HF; have HF := HF_; clear HF_; (try clear on onc onf onl); have on := Aside0.mk hx_; obtain ⟨onc, onf, onl⟩ := cells_of on.out; clear HB hb_ hk_ hx_; have HB := HB_; clear HB_) | ((with_reducible refine gate_dst (N := 30) rfl ?_); (try (refine gate_guard (by rfl) ?_; dsimp only)); refine wpList_load_row rfl 36 _ rfl _ (by rfl) _ (BD (bH0 r0 [65] mH) v2) _ _ (eG on) Try.underlying36 rfl infBoard ?_))
  (go_at_call 9; (with_reducible refine (storeH2 HR.out HF.out).mono ?_); rintro e_ w7 ⟨v3, rfl, HF2, hb_⟩; have HB_ : Aside0 (Below w.heap.size w w7) := Aside0.mk (below_step (bG HB) hb_); have hzw7 := hb_.size; (try simp at hzw7); have on_ := Aside0.mk (box_below hb_ (eG on)); (try clear on onc onf onl); have on := on_; clear on_; obtain ⟨onc, onf, onl⟩ := cells_of on.out; clear HB hb_; have HB := HB_; clear HB_; have HF2_ := Aside0.mk HF2; clear HF2; have HF2 := HF2_; clear HF2_; skip)
  have HF_ := Aside0.mk (HF2.out.bound.mono (ok' := fun j => j ≠ w1.heap.size ∧ j < w7.heap.size) (fun j hj => ⟨by have h_ := hj.1; (try dsimp only at h_); omega, hj.2⟩))
  (try clear HF)
  (try clear HF2)
  have HF := HF_
  clear HF_
  go_wp2_with (first | ((with_reducible refine gate_store (t := 36) (p := 1) (v := .tmp 32) rfl ?_); refine wpList_store_all rfl 36 _ _ rfl rfl _ (BD (bH0 r2 [65] mH) v3) (by rfl) (by rfl) _ _ on.out rfl infBoard (HF.out.one) ?_; rintro w8 ⟨hx_, hk_, hb_, hzz_⟩; have HB_ : Aside0 (Below w.heap.size w w8) := Aside0.mk (Below.trans (bG HB) (Below.mono hb_ (by first | omega | (simp only [sz_alloc, sz_drew, sz_drewN]; omega)))); have hzw8 := Nat.le_of_eq hzz_.symm; (try simp at hzw8); clear hzz_; (first | (have HF_ := Aside0.mk (BF.step HF.out (fun j hj _ => hk_ j (hj.1)))) | (have HF_ := Aside0.mk (BF.step (BF.alloc HF.out _) (fun j hj _ => hk_ j (hj.1))))); clear HF; have HF := HF_; clear HF_; (try clear on onc onf onl); have on := Aside0.mk hx_; obtain ⟨onc, onf, onl⟩ := cells_of on.out; clear HB hb_ hk_ hx_; have HB := HB_; clear HB_) | ((with_reducible refine gate_dst (N := 35) rfl ?_); (try (refine gate_guard (by rfl) ?_; dsimp only)); refine wpList_load_row rfl 36 _ rfl _ (by rfl) _ (BD (bH0 r2 [65] mH) v3) _ _ (eG on) Try.underlying36 rfl infBoard ?_))
  (go_at_call 10; (with_reducible refine (loadH HR.out HF.out).mono ?_); rintro e_ w9 ⟨rfl, HF2, hb_⟩; have HB_ : Aside0 (Below w.heap.size w w9) := Aside0.mk (below_step (bG HB) hb_); have hzw9 := hb_.size; (try simp at hzw9); have on_ := Aside0.mk (box_below hb_ (eG on)); (try clear on onc onf onl); have on := on_; clear on_; obtain ⟨onc, onf, onl⟩ := cells_of on.out; clear HB hb_; have HB := HB_; clear HB_; have HF2_ := Aside0.mk HF2; clear HF2; have HF2 := HF2_; clear HF2_; skip)
  have HF_ := Aside0.mk (HF2.out.bound.mono (ok' := fun j => j ≠ w1.heap.size ∧ j < w9.heap.size) (fun j hj => ⟨by have h_ := hj.1; (try dsimp only at h_); omega, hj.2⟩))
  (try clear HF)
  (try clear HF2)
  have HF := HF_
  clear HF_
  go_wp2_with (first | ((with_reducible refine gate_store (t := 36) (p := 8) (v := .tmp 38) rfl ?_); refine wpList_store_all rfl 36 _ _ rfl rfl _ (BD (bH0 r2 [65] mH) v3) (by rfl) (by rfl) _ _ (nb_1 _ _) rfl infBoard (HF.out.one) ?_; rintro w10 ⟨hx_, hk_, hb_, hzz_⟩; have HB_ : Aside0 (Below w.heap.size w w10) := Aside0.mk (Below.trans (bG HB) (Below.mono hb_ (by first | omega | (simp only [sz_alloc, sz_drew, sz_drewN]; omega)))); have hzw10 := Nat.le_of_eq hzz_.symm; (try simp at hzw10); clear hzz_; have on_ := Aside0.mk (st_put on.out hk_ (fun h_ => (by repeat (with_reducible first | exact h_ | apply ext_drew | apply ext_drewN | apply ext_alloc | refine blk_far ?_ (by show _ ≠ _; dsimp only; omega) _))) (by omega)); clear on onc onf onl; have on := on_; clear on_; obtain ⟨onc, onf, onl⟩ := cells_of on.out; (first | (have HF_ := Aside0.mk (BF.step HF.out (fun j hj _ => hk_ j ((by have h_ := hj.2; omega))))) | (have HF_ := Aside0.mk (BF.step (BF.alloc HF.out _) (fun j hj _ => hk_ j ((by have h_ := hj.2; omega)))))); clear HF; have HF := HF_; clear HF_; (try clear oy oyc oyf oyl); have oy := Aside0.mk hx_; obtain ⟨oyc, oyf, oyl⟩ := cells_of oy.out; clear HB hb_ hk_ hx_; have HB := HB_; clear HB_) | ((with_reducible refine gate_dst (N := 41) rfl ?_); (try (refine gate_guard (by rfl) ?_; dsimp only)); refine wpList_load_row rfl 36 _ rfl _ (by rfl) _ (BD (bH0 r2 [65] mH) v3) _ _ (eG on) Try.underlying36 rfl infBoard ?_))
  clear oy oyc oyf oyl
  (go_at_call 9; (with_reducible refine (storeH3 HR.out HF.out).mono ?_); rintro e_ w11 ⟨v4, rfl, HG1, hb_⟩; have HB_ : Aside0 (Below w.heap.size w w11) := Aside0.mk (below_step (bG HB) hb_); have hzw11 := hb_.size; (try simp at hzw11); have on_ := Aside0.mk (box_below hb_ (eG on)); (try clear on onc onf onl); have on := on_; clear on_; obtain ⟨onc, onf, onl⟩ := cells_of on.out; have HF_ := Aside0.mk (BF.below (by repeat (with_reducible first | exact HF.out | apply BF.drew | apply BF.drewN | apply BF.alloc)) hb_); clear HF; have HF := HF_; clear HF_; clear HB hb_; have HB := HB_; clear HB_; have HG1_ := Aside0.mk HG1; clear HG1; have HG1 := HG1_; clear HG1_; skip)
  go_wp2_with (first | ((with_reducible refine gate_store (t := 36) (p := 10) (v := .tmp 43) rfl ?_); refine wpList_store_all rfl 36 _ _ rfl rfl _ (BD (bH0 r2 [65] mH) v4) (by rfl) (by rfl) _ _ (nb_1 _ _) rfl infBoard (HG1.out.one) ?_; rintro w12 ⟨hx_, hk_, hb_, hzz_⟩; have HB_ : Aside0 (Below w.heap.size w w12) := Aside0.mk (Below.trans (bG HB) (Below.mono hb_ (by first | omega | (simp only [sz_alloc, sz_drew, sz_drewN]; omega)))); have hzw12 := Nat.le_of_eq hzz_.symm; (try simp at hzw12); clear hzz_; have on_ := Aside0.mk (st_put on.out hk_ (fun h_ => (by repeat (with_reducible first | exact h_ | apply ext_drew | apply ext_drewN | apply ext_alloc | refine blk_far ?_ (by show _ ≠ _; dsimp only; omega) _))) (by omega)); clear on onc onf onl; have on := on_; clear on_; obtain ⟨onc, onf, onl⟩ := cells_of on.out; (first | (have HF_ := Aside0.mk (BF.step HF.out (fun j hj _ => hk_ j ((by have h_ := hj.2; omega))))) | (have HF_ := Aside0.mk (BF.step (BF.alloc HF.out _) (fun j hj _ => hk_ j ((by have h_ := hj.2; omega)))))); clear HF; have HF := HF_; clear HF_; (try clear oq oqc oqf oql); have oq := Aside0.mk hx_; obtain ⟨oqc, oqf, oql⟩ := cells_of oq.out; clear HB hb_ hk_ hx_; have HB := HB_; clear HB_) | ((with_reducible refine gate_dst (N := 46) rfl ?_); (try (refine gate_guard (by rfl) ?_; dsimp only)); refine wpList_load_row rfl 36 _ rfl _ (by rfl) _ (BD (bH0 r2 [65] mH) v3) _ _ (eG on) Try.underlying36 rfl infBoard ?_))
  clear oq oqc oqf oql HG1
  (go_at_call 12; (with_reducible refine (linesH HF.out).mono ?_); rintro e_ w13 ⟨v5, rfl, HF2, hb_⟩; have HB_ : Aside0 (Below w.heap.size w w13) := Aside0.mk (below_step (bG HB) hb_); have hzw13 := hb_.size; (try simp at hzw13); have on_ := Aside0.mk (box_below hb_ (eG on)); (try clear on onc onf onl); have on := on_; clear on_; obtain ⟨onc, onf, onl⟩ := cells_of on.out; have HF_ := Aside0.mk (BF.below (by repeat (with_reducible first | exact HF.out | apply BF.drew | apply BF.drewN | apply BF.alloc)) hb_); clear HF; have HF := HF_; clear HF_; clear HB hb_; have HB := HB_; clear HB_; have HF2_ := Aside0.mk HF2; clear HF2; have HF2 := HF2_; clear HF2_; skip)
  have HG_ := Aside0.mk (HF2.out.bound.mono (ok' := fun j => True ∧ j < w13.heap.size) (fun j hj => ⟨trivial, hj.2⟩))
  (try clear HG)
  (try clear HF2)
  have HG := HG_
  clear HG_
  go_upto_region 8 with (first | ((with_reducible refine gate_store (t := 36) (p := 12) (v := .tmp 48) rfl ?_); refine wpList_store_all rfl 36 _ _ rfl rfl _ (BD (bH0 r2 [65] mH) v5) (by rfl) (by rfl) _ _ (nb_1 _ _) rfl infBoard (HG.out.one) ?_; rintro w14 ⟨hx_, hk_, hb_, hzz_⟩; have HB_ : Aside0 (Below w.heap.size w w14) := Aside0.mk (Below.trans (bG HB) (Below.mono hb_ (by first | omega | (simp only [sz_alloc, sz_drew, sz_drewN]; omega)))); have hzw14 := Nat.le_of_eq hzz_.symm; (try simp at hzw14); clear hzz_; have on_ := Aside0.mk (st_put on.out hk_ (fun h_ => (by repeat (with_reducible first | exact h_ | apply ext_drew | apply ext_drewN | apply ext_alloc | refine blk_far ?_ (by show _ ≠ _; dsimp only; omega) _))) (by omega)); clear on onc onf onl; have on := on_; clear on_; obtain ⟨onc, onf, onl⟩ := cells_of on.out; (first | (have HF_ := Aside0.mk (BF.step HF.out (fun j hj _ => hk_ j ((by have h_ := hj.2; omega))))) | (have HF_ := Aside0.mk (BF.step (BF.alloc HF.out _) (fun j hj _ => hk_ j ((by have h_ := hj.2; omega)))))); clear HF; have HF := HF_; clear HF_; (first | (have HG_ := Aside0.mk (BF.step HG.out (fun j hj _ => hk_ j ((by have h_ := hj.2; omega))))) | (have HG_ := Aside0.mk (BF.step (BF.alloc HG.out _) (fun j hj _ => hk_ j ((by have h_ := hj.2; omega)))))); clear HG; have HG := HG_; clear HG_; (try clear oc occ ocf ocl); have oc := Aside0.mk hx_; obtain ⟨occ, ocf, ocl⟩ := cells_of oc.out; clear HB hb_ hk_ hx_; have HB := HB_; clear HB_))
  have hc10 : w14.cell? ⟨w1.heap.size, 10, none⟩ = some v3.u1 := (onc 10).trans rfl
  have SU := Aside0.mk HF.out.u1
  clear onc
  have onc := trivial
  go_wp2_with fail
  (go_at_call 14; (with_reducible refine (out1 _ _ _ _ _ (by decide) (SL.alloc SU.out _) (nb_1 _ _)).mono ?_); rintro e_ w15 ⟨rfl, hb_⟩; have HB_ : Aside0 (Below w.heap.size w w15) := Aside0.mk (below_step (bG HB) hb_); have hzw15 := hb_.size; (try simp at hzw15); have on_ := Aside0.mk (box_below hb_ (eG on)); have oc_ := Aside0.mk (box_below hb_ (eG oc)); (try clear on onc onf onl); have on := on_; clear on_; obtain ⟨onc, onf, onl⟩ := cells_of on.out; (try clear oc occ ocf ocl); have oc := oc_; clear oc_; obtain ⟨occ, ocf, ocl⟩ := cells_of oc.out; have HF_ := Aside0.mk (BF.below (by repeat (with_reducible first | exact HF.out | apply BF.drew | apply BF.drewN | apply BF.alloc)) hb_); clear HF; have HF := HF_; clear HF_; have HG_ := Aside0.mk (BF.below (by repeat (with_reducible first | exact HG.out | apply BF.drew | apply BF.drewN | apply BF.alloc)) hb_); clear HG; have HG := HG_; clear HG_; clear HB hb_; have HB := HB_; clear HB_)
  go_wp2_with (first | ((with_reducible refine gate_dst (N := 85) rfl ?_); (try (refine gate_guard (by rfl) ?_; dsimp only)); refine wpList_load_row rfl 36 _ rfl _ (by rfl) _ (BD (bH0 r2 [65] mH) v3) _ _ (eG on) Try.underlying36 rfl infBoard ?_) | ((with_reducible refine gate_dst (N := 86) rfl ?_); (try (refine gate_guard (by rfl) ?_; dsimp only)); refine wpList_load_row rfl 36 _ rfl _ (by rfl) _ (BD (bH0 r2 [65] mH) v5) _ _ (eG oc) Try.underlying36 rfl infBoard ?_))
  (go_at_call 11; (with_reducible refine (same13_c HF.out HG.out).mono ?_); rintro e_ w16 ⟨rfl, hb_⟩; have HB_ : Aside0 (Below w.heap.size w w16) := Aside0.mk (below_step (bG HB) hb_); have hzw16 := hb_.size; (try simp at hzw16); have on_ := Aside0.mk (box_below hb_ (eG on)); (try clear on onc onf onl); have on := on_; clear on_; obtain ⟨onc, onf, onl⟩ := cells_of on.out; clear HB hb_; have HB := HB_; clear HB_)
  go_wp2
  refine bodyPost_ret (v := .bool true) (by simp [results, Try.results8, go_sem] <;> first | assumption | omega | (symm; assumption)) rfl ?_
  exact ⟨rfl, (bG HB)⟩
end Go.Proofs.Ytphcckhegfgbgaa.Q
end
section
/- Law BusKeeps (heads alone): the walk. -/
namespace Go.Proofs.Ytphcckhegfgbgaa.Q
open Go.RowKit Go.Proofs.YtphcckhegfgbgaaW.PrintWords Go.Proofs.YtphcckhegfgbgaaW.PrintLast Go.Proofs.YtphcckhegfgbgaaW.PrintMore Go.Proofs.Ytphcckhegfgbgaa.L
attribute [local go_sem] Instr.field part asAgg lt_step max2_int min2_int max_two min_two max_three min_three max_four min_four lt_0_1 lt_0_2 lt_1_2 lt_0_3 lt_1_3 lt_2_3 lt_0_4 lt_1_4 lt_2_4 lt_3_4 lt_0_5 lt_1_5 lt_2_5 lt_3_5 lt_4_5 lt_0_6 lt_1_6 lt_2_6 lt_3_6 lt_4_6 lt_5_6 lt_0_7 lt_1_7 lt_2_7 lt_3_7 lt_4_7 lt_5_7 lt_6_7 lt_0_8 lt_1_8 lt_2_8 lt_3_8 lt_4_8 lt_5_8 lt_6_8 lt_7_8
set_option linter.unusedVariables false
set_option linter.unusedSimpArgs false
theorem heads_c (w : World) : Calls Try.prog 8 #[] w fun e w' => e = .returned (.bool true) ∧ Below w.heap.size w w' := heads_runs w
theorem inside_c (b : Bd) (v : Vs) (at_ size : Int) (r : Bool) (w : World) (ok : Nat → Prop) (hF : BF w ok b v) (h : drawbridgeref07_Inside.f b.ram at_ size = some r) : Calls Try.prog 7 #[.agg #[v.D], .int .u64 at_, .int .i64 size] w fun e w' => e = .returned (.bool r) ∧ Below w.heap.size w w' := by
  obtain ⟨A, c, e, hc, g⟩ := hF.D
  rw [e]
  exact drawbridgeref07_Inside.calls A c b.ram at_ size r w (Kd.F_now g) hc h
def KP (b : Bd) (v : Vs) (at_ size x : Int) (w : World) : Prop := Calls Try.prog 3 #[.agg (BD b v), .int .u64 at_, .int .i64 size, .int .u64 x] w fun e w' => e = .returned (.bool true) ∧ Below w.heap.size w w'
set_option maxHeartbeats 1600000 in
set_option maxRecDepth 100000 in
theorem keeps_big (b : Bd) (v : Vs) (at_ size x : Int) (w : World) (ok : Nat → Prop) (hF : BF w ok b v) (hsm : (decide (b.ram.length ≤ 70000) && decide (b.i.length ≤ 5000) && decide (b.o.length ≤ 5000)) = false) : KP b v at_ size x w := by
  have HSM := Aside0.mk hsm
  clear hsm
  unfold KP
  have HB := Aside0.mk (Below.refl w.heap.size w)
  have HF := Aside0.mk hF.bound
  have hu := Try.underlying36
  clear hF
  go_enter Try.func3, Try.ntmps3
  go_upto_region 1 with fail
  obtain ⟨wa, hwa, on0, hb_, hz0⟩ := letter1 w (.cells (BD b v) 36 (0, 0))
  rw [hwa]
  clear hwa
  have hzwa := Nat.le_of_eq hz0.symm
  clear hz0
  have on := Aside0.mk on0
  clear on0
  obtain ⟨onc, onf, onl⟩ := cells_of on.out
  have HB_ : Aside0 (Below w.heap.size w wa) := ⟨hb_⟩
  have HF_ : Aside0 (BF wa (fun j => j ≠ w.heap.size ∧ j < wa.heap.size) b v) := ⟨(HF.out.below hb_).mono (fun j hj => ⟨by have h_ := hj.2; omega, by have h_ := hj.2; omega⟩)⟩
  clear HB HF hb_; have HB := HB_; have HF := HF_; clear HB_ HF_
  go_wp2_with (first | ((with_reducible refine gate_dst (N := 15) rfl ?_); (try (refine gate_guard (by rfl) ?_; dsimp only)); refine wpList_load_row rfl 36 _ rfl _ (by rfl) _ (BD b v) _ _ (eG on) Try.underlying36 rfl infBoard ?_))
  (go_at_call 6; (with_reducible refine (small_c b v _ _ HF.out false HSM.out).mono ?_); rintro e_ w1 ⟨rfl, hb_⟩; have HB_ : Aside0 (Below w.heap.size w w1) := Aside0.mk (below_step (bG HB) hb_); have hzw1 := hb_.size; (try simp at hzw1); have on_ := Aside0.mk (box_below hb_ (eG on)); (try clear on onc onf onl); have on := on_; clear on_; obtain ⟨onc, onf, onl⟩ := cells_of on.out; have HF_ := Aside0.mk (BF.below (by repeat (with_reducible first | exact HF.out | apply BF.drew | apply BF.drewN | apply BF.alloc)) hb_); clear HF; have HF := HF_; clear HF_; clear HB hb_; have HB := HB_; clear HB_)
  go_wp2_with fail
  (go_at_call 8; (with_reducible refine (heads_c _).mono ?_); rintro e_ wh ⟨rfl, hb_⟩; have HB_ : Aside0 (Below w.heap.size w wh) := Aside0.mk (below_step (bG HB) hb_); have hzwh := hb_.size; (try simp at hzwh); clear HB hb_; have HB := HB_; clear HB_)
  go_wp2
  go_ret
  exact ⟨rfl, HB.out⟩
set_option maxHeartbeats 1600000 in
set_option maxRecDepth 100000 in
theorem keeps_out (b : Bd) (v : Vs) (at_ size x : Int) (w : World) (ok : Nat → Prop) (hF : BF w ok b v) (hsm : (decide (b.ram.length ≤ 70000) && decide (b.i.length ≤ 5000) && decide (b.o.length ≤ 5000)) = true) (hin : drawbridgeref07_Inside.f b.ram at_ size = some false) : KP b v at_ size x w := by
  have HSM := Aside0.mk hsm
  have HIN := Aside0.mk hin
  clear hsm hin
  unfold KP
  have HB := Aside0.mk (Below.refl w.heap.size w)
  have HF := Aside0.mk hF.bound
  have hu := Try.underlying36
  clear hF
  go_enter Try.func3, Try.ntmps3
  go_upto_region 1 with fail
  obtain ⟨wa, hwa, on0, hb_, hz0⟩ := letter1 w (.cells (BD b v) 36 (0, 0))
  rw [hwa]
  clear hwa
  have hzwa := Nat.le_of_eq hz0.symm
  clear hz0
  have on := Aside0.mk on0
  clear on0
  obtain ⟨onc, onf, onl⟩ := cells_of on.out
  have HB_ : Aside0 (Below w.heap.size w wa) := ⟨hb_⟩
  have HF_ : Aside0 (BF wa (fun j => j ≠ w.heap.size ∧ j < wa.heap.size) b v) := ⟨(HF.out.below hb_).mono (fun j hj => ⟨by have h_ := hj.2; omega, by have h_ := hj.2; omega⟩)⟩
  clear HB HF hb_; have HB := HB_; have HF := HF_; clear HB_ HF_
  go_wp2_with (first | ((with_reducible refine gate_dst (N := 15) rfl ?_); (try (refine gate_guard (by rfl) ?_; dsimp only)); refine wpList_load_row rfl 36 _ rfl _ (by rfl) _ (BD b v) _ _ (eG on) Try.underlying36 rfl infBoard ?_))
  (go_at_call 6; (with_reducible refine (small_c b v _ _ HF.out true HSM.out).mono ?_); rintro e_ w1 ⟨rfl, hb_⟩; have HB_ : Aside0 (Below w.heap.size w w1) := Aside0.mk (below_step (bG HB) hb_); have hzw1 := hb_.size; (try simp at hzw1); have on_ := Aside0.mk (box_below hb_ (eG on)); (try clear on onc onf onl); have on := on_; clear on_; obtain ⟨onc, onf, onl⟩ := cells_of on.out; have HF_ := Aside0.mk (BF.below (by repeat (with_reducible first | exact HF.out | apply BF.drew | apply BF.drewN | apply BF.alloc)) hb_); clear HF; have HF := HF_; clear HF_; clear HB hb_; have HB := HB_; clear HB_)
  go_wp2_with (first | ((with_reducible refine gate_dst (N := 20) rfl ?_); (try (refine gate_guard (by rfl) ?_; dsimp only)); refine wpList_load_part rfl 24 _ rfl _ 0 (by rfl) #[v.D] (BD b v) _ (eG on) rfl _ Try.underlying24 rfl infRam ?_))
  (go_at_call 7; (with_reducible refine (inside_c b v at_ size false _ _ HF.out HIN.out).mono ?_); rintro e_ w2 ⟨rfl, hb_⟩; have HB_ : Aside0 (Below w.heap.size w w2) := Aside0.mk (below_step (bG HB) hb_); have hzw2 := hb_.size; (try simp at hzw2); have on_ := Aside0.mk (box_below hb_ (eG on)); (try clear on onc onf onl); have on := on_; clear on_; obtain ⟨onc, onf, onl⟩ := cells_of on.out; have HF_ := Aside0.mk (BF.below (by repeat (with_reducible first | exact HF.out | apply BF.drew | apply BF.drewN | apply BF.alloc)) hb_); clear HF; have HF := HF_; clear HF_; clear HB hb_; have HB := HB_; clear HB_)
  go_wp2_with fail
  (go_at_call 8; (with_reducible refine (heads_c _).mono ?_); rintro e_ wh ⟨rfl, hb_⟩; have HB_ : Aside0 (Below w.heap.size w wh) := Aside0.mk (below_step (bG HB) hb_); have hzwh := hb_.size; (try simp at hzwh); clear HB hb_; have HB := HB_; clear HB_)
  go_wp2
  go_ret
  exact ⟨rfl, HB.out⟩
end Go.Proofs.Ytphcckhegfgbgaa.Q
end
