import Derived.Test.YtijdplpmcnhlbaaHZ1
import Derived.Test.YtijdplpmcnhlbaaHZ2
/- host.Hear. -/
namespace Go.Proofs.Ytijdplpmcnhlbaa.Q
open Go.RowKit Go.Proofs.YtijdplpmcnhlbaaW.PrintWords Go.Proofs.YtijdplpmcnhlbaaW.PrintLast Go.Proofs.YtijdplpmcnhlbaaW.PrintMore Go.Proofs.Ytijdplpmcnhlbaa.L
attribute [local go_sem] Instr.field part asAgg lt_step max2_int min2_int max_two min_two max_three min_three max_four min_four lt_0_1 lt_0_2 lt_1_2 lt_0_3 lt_1_3 lt_2_3 lt_0_4 lt_1_4 lt_2_4 lt_3_4 lt_0_5 lt_1_5 lt_2_5 lt_3_5 lt_4_5 lt_0_6 lt_1_6 lt_2_6 lt_3_6 lt_4_6 lt_5_6 lt_0_7 lt_1_7 lt_2_7 lt_3_7 lt_4_7 lt_5_7 lt_6_7 lt_0_8 lt_1_8 lt_2_8 lt_3_8 lt_4_8 lt_5_8 lt_6_8 lt_7_8
set_option linter.unusedVariables false
set_option linter.unusedSimpArgs false
section
variable (P0_ : Nat → Prop) (A0 : Option Addr) (c0 : Nat) (l0 : List S34) (id i : Int) (D : Value) (dl : Nat) (n : Int) (w : World)
set_option maxHeartbeats 1600000 in
set_option maxRecDepth 100000 in
theorem hear_no (AD : Option Addr) (cD : Nat) (kind : Int) (hl : l0.length * 40 < 140737488355328) (hs0 : Kd.V k34 34 w w.heap.size P0_ (.slice A0 l0.length c0) l0) (h : host_place.f l0 id = some i) (hi : i < 0) :
    Calls Try.prog 9 #[.slice A0 l0.length c0, .agg #[.int .i64 kind, .int .i64 id, .slice AD dl cD, .int .i64 n]] w fun e w' => e = .returned (.tuple #[.slice A0 l0.length c0, .bool false]) ∧ Below w.heap.size w w' := by
  have HB := Aside0.mk (Below.refl w.heap.size w)
  have HS := Aside0.mk hs0
  have HR := Aside0.mk (V_C hs0).2
  have HC := Aside0.mk (V_C hs0).1
  have HK := Aside0.mk h
  have hb : decide (i < 0) = true := decide_eq_true hi
  clear hs0 h hi
  go_enter Try.func9, Try.ntmps9
  go_wp2_with fail
  (go_at_call 22; (with_reducible refine (host_place.calls _ _ l0 id i _ (by first | exact HR.out | exact Kd.C_alloc HR.out _) HC.out HK.out).mono ?_); rintro e_ w1 ⟨rfl, hb_⟩; have HB_ : Aside0 (Below w.heap.size w w1) := Aside0.mk (below_step (bG HB) hb_); have hzw1 := hb_.size; (try simp at hzw1); have ot_ := Aside0.mk (box_below hb_ (by repeat (with_reducible first | exact nb_1 w _ | apply ext_drew | apply ext_drewN | apply ext_alloc | refine blk_far ?_ (by show _ ≠ _; dsimp only; omega) _))); (try clear ot otc otf otl); have ot := ot_; clear ot_; obtain ⟨otc, otf, otl⟩ := cells_of ot.out; clear HB hb_; have HB := HB_; clear HB_)
  go_wp2
  go_ret2
  exact ⟨rfl, (bG HB)⟩
set_option maxHeartbeats 1600000 in
set_option maxRecDepth 100000 in
theorem hear_data (AD : Option Addr) (cD : Nat) (o : Bool) (e_ : Bool) (d_ : Bool) (hl : l0.length * 40 < 140737488355328) (hs0 : Kd.V k34 34 w w.heap.size P0_ (.slice A0 l0.length c0) l0) (h : host_place.f l0 id = some i) (h0 : 0 ≤ i) (h1 : i < l0.length) (ho : ((rd_T34 l0 i).f1 == 2) = o) (he_ : (rd_T34 l0 i).f4 = e_) (hd_ : decide ((dl : Int) > 0) = d_) :
    Calls Try.prog 9 #[.slice A0 l0.length c0, .agg #[.int .i64 3, .int .i64 id, .slice AD dl cD, .int .i64 n]] w fun e w' => e = .returned (.tuple #[.slice A0 l0.length c0, .bool (o && (!e_ && d_))]) ∧ Below w.heap.size w w' := by
  have HB := Aside0.mk (Below.refl w.heap.size w)
  have HS := Aside0.mk hs0
  have HR := Aside0.mk (V_C hs0).2
  have HC := Aside0.mk (V_C hs0).1
  have HK := Aside0.mk h
  have hb : decide (i < 0) = false := decide_eq_false (by omega)
  clear hs0 h
  cases o <;> cases e_ <;> cases d_
  all_goals try (exfalso; revert hx; decide)
  all_goals
    go_enter Try.func9, Try.ntmps9
    go_wp2_with fail
    (go_at_call 22; (with_reducible refine (host_place.calls _ _ l0 id i _ (by first | exact HR.out | exact Kd.C_alloc HR.out _) HC.out HK.out).mono ?_); rintro e_ w1 ⟨rfl, hb_⟩; have HB_ : Aside0 (Below w.heap.size w w1) := Aside0.mk (below_step (bG HB) hb_); have hzw1 := hb_.size; (try simp at hzw1); have ot_ := Aside0.mk (box_below hb_ (by repeat (with_reducible first | exact nb_1 w _ | apply ext_drew | apply ext_drewN | apply ext_alloc | refine blk_far ?_ (by show _ ≠ _; dsimp only; omega) _))); (try clear ot otc otf otl); have ot := ot_; clear ot_; obtain ⟨otc, otf, otl⟩ := cells_of ot.out; clear HB hb_; have HB := HB_; clear HB_)
    obtain ⟨ad, rfl, hc0, hc1, hc2, hc3, hc4, hc5⟩ := at_T34 (Kd.C_below HR.out HB.out) i h0 h1
    go_wp2
    all_goals go_ret2
    all_goals first | exact ⟨rfl, (bG HB)⟩ | (exfalso; simp at hd_; omega)
set_option maxHeartbeats 1600000 in
set_option maxRecDepth 100000 in
theorem hear_took (AD : Option Addr) (cD : Nat) (o : Bool) (s_ : Bool) (n_ : Bool) (hl : l0.length * 40 < 140737488355328) (hs0 : Kd.V k34 34 w w.heap.size P0_ (.slice A0 l0.length c0) l0) (h : host_place.f l0 id = some i) (h0 : 0 ≤ i) (h1 : i < l0.length) (ho : ((rd_T34 l0 i).f1 == 2) = o) (hs_ : (rd_T34 l0 i).f5 = s_) (hn_ : decide (n ≥ 1) = n_) :
    Calls Try.prog 9 #[.slice A0 l0.length c0, .agg #[.int .i64 5, .int .i64 id, .slice AD dl cD, .int .i64 n]] w fun e w' => e = .returned (.tuple #[.slice A0 l0.length c0, .bool (o && (!s_ && n_))]) ∧ Below w.heap.size w w' := by
  have HB := Aside0.mk (Below.refl w.heap.size w)
  have HS := Aside0.mk hs0
  have HR := Aside0.mk (V_C hs0).2
  have HC := Aside0.mk (V_C hs0).1
  have HK := Aside0.mk h
  have hb : decide (i < 0) = false := decide_eq_false (by omega)
  clear hs0 h
  cases o <;> cases s_ <;> cases n_
  all_goals try (exfalso; revert hx; decide)
  all_goals
    go_enter Try.func9, Try.ntmps9
    go_wp2_with fail
    (go_at_call 22; (with_reducible refine (host_place.calls _ _ l0 id i _ (by first | exact HR.out | exact Kd.C_alloc HR.out _) HC.out HK.out).mono ?_); rintro e_ w1 ⟨rfl, hb_⟩; have HB_ : Aside0 (Below w.heap.size w w1) := Aside0.mk (below_step (bG HB) hb_); have hzw1 := hb_.size; (try simp at hzw1); have ot_ := Aside0.mk (box_below hb_ (by repeat (with_reducible first | exact nb_1 w _ | apply ext_drew | apply ext_drewN | apply ext_alloc | refine blk_far ?_ (by show _ ≠ _; dsimp only; omega) _))); (try clear ot otc otf otl); have ot := ot_; clear ot_; obtain ⟨otc, otf, otl⟩ := cells_of ot.out; clear HB hb_; have HB := HB_; clear HB_)
    obtain ⟨ad, rfl, hc0, hc1, hc2, hc3, hc4, hc5⟩ := at_T34 (Kd.C_below HR.out HB.out) i h0 h1
    go_wp2
    all_goals go_ret2
    all_goals first | exact ⟨rfl, (bG HB)⟩ | (exfalso; simp at hd_; omega)
set_option maxHeartbeats 1600000 in
set_option maxRecDepth 100000 in
theorem hear_eofx (AD : Option Addr) (cD : Nat) (o : Bool) (e_ : Bool) (hl : l0.length * 40 < 140737488355328) (hs0 : Kd.V k34 34 w w.heap.size P0_ (.slice A0 l0.length c0) l0) (h : host_place.f l0 id = some i) (h0 : 0 ≤ i) (h1 : i < l0.length) (hx : o = true → e_ = true) (ho : ((rd_T34 l0 i).f1 == 2) = o) (he_ : (rd_T34 l0 i).f4 = e_) :
    Calls Try.prog 9 #[.slice A0 l0.length c0, .agg #[.int .i64 4, .int .i64 id, .slice AD dl cD, .int .i64 n]] w fun e w' => e = .returned (.tuple #[.slice A0 l0.length c0, .bool false]) ∧ Below w.heap.size w w' := by
  have HB := Aside0.mk (Below.refl w.heap.size w)
  have HS := Aside0.mk hs0
  have HR := Aside0.mk (V_C hs0).2
  have HC := Aside0.mk (V_C hs0).1
  have HK := Aside0.mk h
  have hb : decide (i < 0) = false := decide_eq_false (by omega)
  clear hs0 h
  cases o <;> cases e_
  all_goals try (exfalso; revert hx; decide)
  all_goals
    go_enter Try.func9, Try.ntmps9
    go_wp2_with fail
    (go_at_call 22; (with_reducible refine (host_place.calls _ _ l0 id i _ (by first | exact HR.out | exact Kd.C_alloc HR.out _) HC.out HK.out).mono ?_); rintro e_ w1 ⟨rfl, hb_⟩; have HB_ : Aside0 (Below w.heap.size w w1) := Aside0.mk (below_step (bG HB) hb_); have hzw1 := hb_.size; (try simp at hzw1); have ot_ := Aside0.mk (box_below hb_ (by repeat (with_reducible first | exact nb_1 w _ | apply ext_drew | apply ext_drewN | apply ext_alloc | refine blk_far ?_ (by show _ ≠ _; dsimp only; omega) _))); (try clear ot otc otf otl); have ot := ot_; clear ot_; obtain ⟨otc, otf, otl⟩ := cells_of ot.out; clear HB hb_; have HB := HB_; clear HB_)
    obtain ⟨ad, rfl, hc0, hc1, hc2, hc3, hc4, hc5⟩ := at_T34 (Kd.C_below HR.out HB.out) i h0 h1
    go_wp2
    all_goals go_ret2
    all_goals first | exact ⟨rfl, (bG HB)⟩ | (exfalso; simp at hd_; omega)
set_option maxHeartbeats 1600000 in
set_option maxRecDepth 100000 in
theorem hear_openx (AD : Option Addr) (cD : Nat) (o : Bool) (hl : l0.length * 40 < 140737488355328) (hs0 : Kd.V k34 34 w w.heap.size P0_ (.slice A0 l0.length c0) l0) (h : host_place.f l0 id = some i) (h0 : 0 ≤ i) (h1 : i < l0.length) (hx : o = true) (ho : ((rd_T34 l0 i).f1 == 2) = o) :
    Calls Try.prog 9 #[.slice A0 l0.length c0, .agg #[.int .i64 1, .int .i64 id, .slice AD dl cD, .int .i64 n]] w fun e w' => e = .returned (.tuple #[.slice A0 l0.length c0, .bool false]) ∧ Below w.heap.size w w' := by
  have HB := Aside0.mk (Below.refl w.heap.size w)
  have HS := Aside0.mk hs0
  have HR := Aside0.mk (V_C hs0).2
  have HC := Aside0.mk (V_C hs0).1
  have HK := Aside0.mk h
  have hb : decide (i < 0) = false := decide_eq_false (by omega)
  clear hs0 h
  cases o
  all_goals try (exfalso; revert hx; decide)
  all_goals
    go_enter Try.func9, Try.ntmps9
    go_wp2_with fail
    (go_at_call 22; (with_reducible refine (host_place.calls _ _ l0 id i _ (by first | exact HR.out | exact Kd.C_alloc HR.out _) HC.out HK.out).mono ?_); rintro e_ w1 ⟨rfl, hb_⟩; have HB_ : Aside0 (Below w.heap.size w w1) := Aside0.mk (below_step (bG HB) hb_); have hzw1 := hb_.size; (try simp at hzw1); have ot_ := Aside0.mk (box_below hb_ (by repeat (with_reducible first | exact nb_1 w _ | apply ext_drew | apply ext_drewN | apply ext_alloc | refine blk_far ?_ (by show _ ≠ _; dsimp only; omega) _))); (try clear ot otc otf otl); have ot := ot_; clear ot_; obtain ⟨otc, otf, otl⟩ := cells_of ot.out; clear HB hb_; have HB := HB_; clear HB_)
    obtain ⟨ad, rfl, hc0, hc1, hc2, hc3, hc4, hc5⟩ := at_T34 (Kd.C_below HR.out HB.out) i h0 h1
    go_wp2
    all_goals go_ret2
    all_goals first | exact ⟨rfl, (bG HB)⟩ | (exfalso; simp at hd_; omega)
set_option maxHeartbeats 1600000 in
set_option maxRecDepth 100000 in
theorem hear_other (AD : Option Addr) (cD : Nat) (kind : Int) (o : Bool) (hl : l0.length * 40 < 140737488355328) (hs0 : Kd.V k34 34 w w.heap.size P0_ (.slice A0 l0.length c0) l0) (h : host_place.f l0 id = some i) (h0 : 0 ≤ i) (h1 : i < l0.length) (q1 : (kind == 1) = false) (q2 : (kind == 2) = false) (q3 : (kind == 3) = false) (q4 : (kind == 4) = false) (q5 : (kind == 5) = false) (ho : ((rd_T34 l0 i).f1 == 2) = o) :
    Calls Try.prog 9 #[.slice A0 l0.length c0, .agg #[.int .i64 kind, .int .i64 id, .slice AD dl cD, .int .i64 n]] w fun e w' => e = .returned (.tuple #[.slice A0 l0.length c0, .bool false]) ∧ Below w.heap.size w w' := by
  have HB := Aside0.mk (Below.refl w.heap.size w)
  have HS := Aside0.mk hs0
  have HR := Aside0.mk (V_C hs0).2
  have HC := Aside0.mk (V_C hs0).1
  have HK := Aside0.mk h
  have hb : decide (i < 0) = false := decide_eq_false (by omega)
  clear hs0 h
  cases o
  all_goals try (exfalso; revert hx; decide)
  all_goals
    go_enter Try.func9, Try.ntmps9
    go_wp2_with fail
    (go_at_call 22; (with_reducible refine (host_place.calls _ _ l0 id i _ (by first | exact HR.out | exact Kd.C_alloc HR.out _) HC.out HK.out).mono ?_); rintro e_ w1 ⟨rfl, hb_⟩; have HB_ : Aside0 (Below w.heap.size w w1) := Aside0.mk (below_step (bG HB) hb_); have hzw1 := hb_.size; (try simp at hzw1); have ot_ := Aside0.mk (box_below hb_ (by repeat (with_reducible first | exact nb_1 w _ | apply ext_drew | apply ext_drewN | apply ext_alloc | refine blk_far ?_ (by show _ ≠ _; dsimp only; omega) _))); (try clear ot otc otf otl); have ot := ot_; clear ot_; obtain ⟨otc, otf, otl⟩ := cells_of ot.out; clear HB hb_; have HB := HB_; clear HB_)
    obtain ⟨ad, rfl, hc0, hc1, hc2, hc3, hc4, hc5⟩ := at_T34 (Kd.C_below HR.out HB.out) i h0 h1
    go_wp2
    all_goals go_ret2
    all_goals first | exact ⟨rfl, (bG HB)⟩ | (exfalso; simp at hd_; omega)
set_option maxHeartbeats 1600000 in
set_option maxRecDepth 100000 in
theorem hear_open (AD : Option Addr) (cD : Nat) (hl : l0.length * 40 < 140737488355328) (hs0 : Kd.V k34 34 w w.heap.size P0_ (.slice A0 l0.length c0) l0) (h : host_place.f l0 id = some i) (h0 : 0 ≤ i) (h1 : i < l0.length) (ho : ((rd_T34 l0 i).f1 == 2) = false) :
    Calls Try.prog 9 #[.slice A0 l0.length c0, .agg #[.int .i64 1, .int .i64 id, .slice AD dl cD, .int .i64 n]] w fun e w' => ∃ v, e = .returned (.tuple #[v, .bool true]) ∧ Kd.R k34 34 w' w.heap.size (fun _ => True) v (setS l0 i 1) ∧ Below w.heap.size w w' := by
  have HB := Aside0.mk (Below.refl w.heap.size w)
  have HS := Aside0.mk hs0
  have HR := Aside0.mk (V_C hs0).2
  have HC := Aside0.mk (V_C hs0).1
  have HK := Aside0.mk h
  have hb : decide (i < 0) = false := decide_eq_false (by omega)
  clear hs0 h
  go_enter Try.func9, Try.ntmps9
  go_wp2_with fail
  (go_at_call 22; (with_reducible refine (host_place.calls _ _ l0 id i _ (by first | exact HR.out | exact Kd.C_alloc HR.out _) HC.out HK.out).mono ?_); rintro e_ w1 ⟨rfl, hb_⟩; have HB_ : Aside0 (Below w.heap.size w w1) := Aside0.mk (below_step (bG HB) hb_); have hzw1 := hb_.size; (try simp at hzw1); have ot_ := Aside0.mk (box_below hb_ (by repeat (with_reducible first | exact nb_1 w _ | apply ext_drew | apply ext_drewN | apply ext_alloc | refine blk_far ?_ (by show _ ≠ _; dsimp only; omega) _))); (try clear ot otc otf otl); have ot := ot_; clear ot_; obtain ⟨otc, otf, otl⟩ := cells_of ot.out; clear HB hb_; have HB := HB_; clear HB_)
  obtain ⟨ad, rfl, hc0, hc1, hc2, hc3, hc4, hc5⟩ := at_T34 (Kd.C_below HR.out HB.out) i h0 h1
  go_wp2_with fail
  go_at_call 23; refine Calls.mono (change_1 _ _ l0 i _ (Kd.C_below HR.out (bG HB)) HC.out hl h0 h1) ?_; rintro e w2 ⟨v0, rfl, hR, hb2⟩
  have HR2 := Aside0.mk (Kd.R_lower hR (show w.heap.size ≤ _ by (try simp only [sz_alloc, sz_drew, sz_drewN, sz_set]); omega))
  have HB2 : Aside0 (Below w.heap.size w w2) := Aside0.mk (below_step (bG HB) hb2)
  clear hR hb2
  go_wp2
  go_ret2
  exact ⟨_, rfl, HR2.out, HB2.out⟩
set_option maxHeartbeats 1600000 in
set_option maxRecDepth 100000 in
theorem hear_eof (AD : Option Addr) (cD : Nat) (hl : l0.length * 40 < 140737488355328) (hs0 : Kd.V k34 34 w w.heap.size P0_ (.slice A0 l0.length c0) l0) (h : host_place.f l0 id = some i) (h0 : 0 ≤ i) (h1 : i < l0.length) (ho : ((rd_T34 l0 i).f1 == 2) = true) (he : (rd_T34 l0 i).f4 = false) :
    Calls Try.prog 9 #[.slice A0 l0.length c0, .agg #[.int .i64 4, .int .i64 id, .slice AD dl cD, .int .i64 n]] w fun e w' => ∃ v, e = .returned (.tuple #[v, .bool true]) ∧ Kd.R k34 34 w' w.heap.size (fun _ => True) v (setS l0 i 4) ∧ Below w.heap.size w w' := by
  have HB := Aside0.mk (Below.refl w.heap.size w)
  have HS := Aside0.mk hs0
  have HR := Aside0.mk (V_C hs0).2
  have HC := Aside0.mk (V_C hs0).1
  have HK := Aside0.mk h
  have hb : decide (i < 0) = false := decide_eq_false (by omega)
  clear hs0 h
  go_enter Try.func9, Try.ntmps9
  go_wp2_with fail
  (go_at_call 22; (with_reducible refine (host_place.calls _ _ l0 id i _ (by first | exact HR.out | exact Kd.C_alloc HR.out _) HC.out HK.out).mono ?_); rintro e_ w1 ⟨rfl, hb_⟩; have HB_ : Aside0 (Below w.heap.size w w1) := Aside0.mk (below_step (bG HB) hb_); have hzw1 := hb_.size; (try simp at hzw1); have ot_ := Aside0.mk (box_below hb_ (by repeat (with_reducible first | exact nb_1 w _ | apply ext_drew | apply ext_drewN | apply ext_alloc | refine blk_far ?_ (by show _ ≠ _; dsimp only; omega) _))); (try clear ot otc otf otl); have ot := ot_; clear ot_; obtain ⟨otc, otf, otl⟩ := cells_of ot.out; clear HB hb_; have HB := HB_; clear HB_)
  obtain ⟨ad, rfl, hc0, hc1, hc2, hc3, hc4, hc5⟩ := at_T34 (Kd.C_below HR.out HB.out) i h0 h1
  go_wp2_with fail
  go_at_call 23; refine Calls.mono (change_4 _ _ l0 i _ (Kd.C_below HR.out (bG HB)) HC.out hl h0 h1) ?_; rintro e w2 ⟨v0, rfl, hR, hb2⟩
  have HR2 := Aside0.mk (Kd.R_lower hR (show w.heap.size ≤ _ by (try simp only [sz_alloc, sz_drew, sz_drewN, sz_set]); omega))
  have HB2 : Aside0 (Below w.heap.size w w2) := Aside0.mk (below_step (bG HB) hb2)
  clear hR hb2
  go_wp2
  go_ret2
  exact ⟨_, rfl, HR2.out, HB2.out⟩
set_option maxHeartbeats 1600000 in
set_option maxRecDepth 100000 in
theorem hear_reset (AD : Option Addr) (cD : Nat) (hl : l0.length * 40 < 140737488355328) (hs0 : Kd.V k34 34 w w.heap.size P0_ (.slice A0 l0.length c0) l0) (h : host_place.f l0 id = some i) (h0 : 0 ≤ i) (h1 : i < l0.length) (lr : List S34) (r : Bool) (hr : host_Close.f l0 id = some (lr, r)) :
    Calls Try.prog 9 #[.slice A0 l0.length c0, .agg #[.int .i64 2, .int .i64 id, .slice AD dl cD, .int .i64 n]] w fun e w' => ∃ v, e = .returned (.tuple #[v, .bool r]) ∧ Kd.V k34 34 w' w.heap.size (fun k_ => P0_ k_ ∨ w.heap.size ≤ k_) v lr ∧ Below w.heap.size w w' := by
  have HB := Aside0.mk (Below.refl w.heap.size w)
  have HS := Aside0.mk hs0
  have HR := Aside0.mk (V_C hs0).2
  have HC := Aside0.mk (V_C hs0).1
  have HK := Aside0.mk h
  have hb : decide (i < 0) = false := decide_eq_false (by omega)
  clear hs0 h
  have HCL := Aside0.mk hr
  go_enter Try.func9, Try.ntmps9
  go_wp2_with fail
  (go_at_call 22; (with_reducible refine (host_place.calls _ _ l0 id i _ (by first | exact HR.out | exact Kd.C_alloc HR.out _) HC.out HK.out).mono ?_); rintro e_ w1 ⟨rfl, hb_⟩; have HB_ : Aside0 (Below w.heap.size w w1) := Aside0.mk (below_step (bG HB) hb_); have hzw1 := hb_.size; (try simp at hzw1); have ot_ := Aside0.mk (box_below hb_ (by repeat (with_reducible first | exact nb_1 w _ | apply ext_drew | apply ext_drewN | apply ext_alloc | refine blk_far ?_ (by show _ ≠ _; dsimp only; omega) _))); (try clear ot otc otf otl); have ot := ot_; clear ot_; obtain ⟨otc, otf, otl⟩ := cells_of ot.out; clear HB hb_; have HB := HB_; clear HB_)
  obtain ⟨ad, rfl, hc0, hc1, hc2, hc3, hc4, hc5⟩ := at_T34 (Kd.C_below HR.out HB.out) i h0 h1
  go_wp2_with fail
  go_at_call 13; refine Calls.mono (host_Close_c P0_ _ c0 l0 id _ lr r (Kd.V_below HS.out (bG HB)) HCL.out) ?_; rintro e w2 ⟨v0, rfl, hR, hb2⟩
  have HR2 := Aside0.mk (Kd.V_mono (ok' := fun k_ => P0_ k_ ∨ w.heap.size ≤ k_) hR (fun k_ hk => hk.imp (fun h => h) (fun h => by have h2 : w.heap.size ≤ _ := HB.out.size; (try simp only [sz_alloc, sz_drew, sz_drewN, sz_set] at h); omega)))
  have HB2 : Aside0 (Below w.heap.size w w2) := Aside0.mk (below_step (bG HB) hb2)
  clear hR hb2
  go_wp2
  go_ret2
  exact ⟨_, rfl, HR2.out, HB2.out⟩
end
end Go.Proofs.Ytijdplpmcnhlbaa.Q
