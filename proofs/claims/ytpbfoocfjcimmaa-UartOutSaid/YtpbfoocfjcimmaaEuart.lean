/- uart.Load and uart.Store, as those who call them have it. -/
import Derived.Test.YtpbfoocfjcimmaaEclone
import Derived.Test.YtpbfoocfjcimmaaFs
import Derived.Test.YtpbfoocfjcimmaaWf
import Derived.Test.YtpbfoocfjcimmaaVf
import Derived.Test.YtpbfoocfjcimmaaCut3
import Derived.Test.YtpbfoocfjcimmaaQx1
namespace Go.Proofs.Ytpbfoocfjcimmaa.Q
open Go.RowKit Go.Proofs.YtpbfoocfjcimmaaW.PrintWords Go.Proofs.YtpbfoocfjcimmaaW.PrintLast Go.Proofs.YtpbfoocfjcimmaaW.PrintMore Go.Proofs.Ytpbfoocfjcimmaa.L
attribute [local go_sem] Instr.field part asAgg lt_step max2_int min2_int max_two min_two max_three min_three max_four min_four lt_0_1 lt_0_2 lt_1_2 lt_0_3 lt_1_3 lt_2_3 lt_0_4 lt_1_4 lt_2_4 lt_3_4 lt_0_5 lt_1_5 lt_2_5 lt_3_5 lt_4_5 lt_0_6 lt_1_6 lt_2_6 lt_3_6 lt_4_6 lt_5_6 lt_0_7 lt_1_7 lt_2_7 lt_3_7 lt_4_7 lt_5_7 lt_6_7 lt_0_8 lt_1_8 lt_2_8 lt_3_8 lt_4_8 lt_5_8 lt_6_8 lt_7_8
set_option linter.unusedVariables false
set_option linter.unusedSimpArgs false
def uart_Load.f (i o : List Int) (ie lost off size : Int) : Option (Int × List Int × List Int × Int × Int × Bool) :=
  if i.length < 140737488355328 ∧ u64B off then
    (if size = 1 ∧ off < 8 then
      (if off = 0 then (if 0 < i.length then some (IntKind.u64.wrap (i.getD 0 0), i.drop 1, o, ie, lost, true) else some (0, i, o, ie, lost, true))
       else if off = 1 then some (IntKind.u64.wrap ie, i, o, ie, lost, true)
       else if off = 5 then (if 0 < i.length then some (97, i, o, ie, lost, true) else some (96, i, o, ie, lost, true))
       else some (0, i, o, ie, lost, true))
     else some (0, i, o, ie, lost, false))
  else none
def LoadPost (P Q : Nat → Prop) (w : World) (r1 : Int) (r2 r3 : List Int) (r4 r5 : Int) (r6 : Bool) (e : Ending) (w' : World) : Prop :=
  ∃ A c A2 c2, e = .returned (.tuple #[.int .u64 r1, .agg #[.slice A r2.length c, .slice A2 r3.length c2, .int .i64 r4, .int .i64 r5], .bool r6]) ∧ r2.length ≤ c ∧ Kd.F (Kd.int .u8) w' (fun j => P j ∨ w.heap.size ≤ j) A r2.length r2 ∧ r3.length ≤ c2 ∧ Kd.F (Kd.int .u8) w' (fun j => Q j ∨ w.heap.size ≤ j) A2 r3.length r3 ∧ Below w.heap.size w w'
theorem reaches_yes {off size : Int} (h : size = 1 ∧ off < 8) : uart_reaches.f off size = some true := by
  unfold uart_reaches.f; rw [if_pos h.1, decide_eq_true h.2]
theorem reaches_no {off size : Int} (h : ¬ (size = 1 ∧ off < 8)) : uart_reaches.f off size = some false := by
  unfold uart_reaches.f
  by_cases h1 : size = 1
  · rw [if_pos h1, decide_eq_false (fun h2 => h ⟨h1, h2⟩)]
  · rw [if_neg h1]
section
variable (A0 : Option Addr) (c0 : Nat) (i : List Int) (A1 : Option Addr) (c1 : Nat) (o : List Int) (ie lost off size : Int) (w : World) (P Q : Nat → Prop)
set_option maxHeartbeats 1600000 in
set_option maxRecDepth 100000 in
theorem uart_Load.no (hF0 : Kd.F (Kd.int .u8) w P A0 i.length i) (hc0 : i.length ≤ c0) (hF1 : Kd.F (Kd.int .u8) w Q A1 o.length o) (hc1 : o.length ≤ c1) (hr : ¬ (size = 1 ∧ off < 8)) :
    Calls Try.prog 8 #[.agg #[.slice A0 i.length c0, .slice A1 o.length c1, .int .i64 ie, .int .i64 lost], .int .u64 off, .int .i64 size] w (LoadPost P Q w 0 i o ie lost false) := by
  have HB := Aside0.mk (Below.refl w.heap.size w)
  have HR0 := Aside0.mk hF0
  have HR1 := Aside0.mk hF1
  have HC0 := Aside0.mk hc0
  have HC1 := Aside0.mk hc1
  have HA := Aside0.mk (reaches_no hr)
  have hu := Try.underlying26
  clear hr hF0 hF1 hc0 hc1
  go_enter Try.func8, Try.ntmps8
  go_wp2_with fail
  (go_at_call 14; (with_reducible refine (dr (uart_reaches.calls _ _ false _ HA.out)).mono ?_); rintro e_ w1 ⟨rfl, hb_⟩; have HB_ : Aside0 (Below w.heap.size w w1) := Aside0.mk (below_step (by repeat (first | (with_reducible first | exact HB.out | exact Below.refl _ _ | apply below_alloc | apply pw_below_drewN | apply below_drew | refine below_set ?_ (by omega)) | exact HB.out)) hb_); have hzw1 := hb_.size; (try simp at hzw1); have oa_ := Aside0.mk (box_below hb_ (by repeat (with_reducible first | exact nb_1 w _ | apply ext_drew | apply ext_drewN | apply ext_alloc | refine blk_far ?_ (by show _ ≠ _; dsimp only; omega) _))); have ob_ := Aside0.mk (box_below hb_ (by repeat (with_reducible first | exact nb_2 w _ _ | apply ext_drew | apply ext_drewN | apply ext_alloc | refine blk_far ?_ (by show _ ≠ _; dsimp only; omega) _))); (try clear oa oac oaf oal); have oa := oa_; clear oa_; obtain ⟨oac, oaf, oal⟩ := cells_of oa.out; (try clear ob obc obf obl); have ob := ob_; clear ob_; obtain ⟨obc, obf, obl⟩ := cells_of ob.out; clear HB hb_; have HB := HB_; clear HB_)
  (go_wp2; (first | go_region | skip); (all_goals go_wp2))
  refine bodyPost_ret (v := .tuple #[.int .u64 0, .agg #[.slice A0 i.length c0, .slice A1 o.length c1, .int .i64 ie, .int .i64 lost], .bool false]) (by simp [results, Try.results8, go_sem, oac, obc] <;> first | assumption | omega | (symm; assumption)) rfl ?_
  exact ⟨A0, c0, A1, c1, rfl, HC0.out, F_w HR0.out (by repeat (first | (with_reducible first | exact HB.out | exact Below.refl _ _ | apply below_alloc | apply pw_below_drewN | apply below_drew | refine below_set ?_ (by omega)) | exact HB.out)) (fun _ h => .inl h), HC1.out, F_w HR1.out (by repeat (first | (with_reducible first | exact HB.out | exact Below.refl _ _ | apply below_alloc | apply pw_below_drewN | apply below_drew | refine below_set ?_ (by omega)) | exact HB.out)) (fun _ h => .inl h), (by repeat (first | (with_reducible first | exact HB.out | exact Below.refl _ _ | apply below_alloc | apply pw_below_drewN | apply below_drew | refine below_set ?_ (by omega)) | exact HB.out))⟩
set_option maxHeartbeats 1600000 in
set_option maxRecDepth 100000 in
theorem uart_Load.take (x0 : Int) (hx : i.getD 0 0 = x0) (d : List Int) (hd : i.drop 1 = d) (hi : 0 < i.length) (hl : i.length < 140737488355328) (hF0 : Kd.F (Kd.int .u8) w P A0 i.length i) (hc0 : i.length ≤ c0) (hF1 : Kd.F (Kd.int .u8) w Q A1 o.length o) (hc1 : o.length ≤ c1) (hr : size = 1 ∧ (0 : Int) < 8) :
    Calls Try.prog 8 #[.agg #[.slice A0 i.length c0, .slice A1 o.length c1, .int .i64 ie, .int .i64 lost], .int .u64 0, .int .i64 size] w (LoadPost P Q w (IntKind.u64.wrap x0) d o ie lost true) := by
  have HB := Aside0.mk (Below.refl w.heap.size w)
  have HR0 := Aside0.mk (Kd.F_bound hF0)
  have HR1 := Aside0.mk (Kd.F_bound hF1)
  have HC0 := Aside0.mk hc0
  have HC1 := Aside0.mk hc1
  have HA := Aside0.mk (reaches_yes hr)
  have hu := Try.underlying26
  have hs : (decide (0 < (i.length : Int))) = true := decide_eq_true (by omega)
  have HL := Aside0.mk hl
  have HI := Aside0.mk hi
  have HD := Aside0.mk hd
  have HX := Aside0.mk hx
  clear hd hx
  clear hr hF0 hF1 hc0 hc1 hl
  go_enter Try.func8, Try.ntmps8
  go_wp2_with fail
  (go_at_call 14; (with_reducible refine (dr (uart_reaches.calls _ _ true _ HA.out)).mono ?_); rintro e_ w1 ⟨rfl, hb_⟩; have HB_ : Aside0 (Below w.heap.size w w1) := Aside0.mk (below_step (by repeat (first | (with_reducible first | exact HB.out | exact Below.refl _ _ | apply below_alloc | apply pw_below_drewN | apply below_drew | refine below_set ?_ (by omega)) | exact HB.out)) hb_); have hzw1 := hb_.size; (try simp at hzw1); have oa_ := Aside0.mk (box_below hb_ (by repeat (with_reducible first | exact nb_1 w _ | apply ext_drew | apply ext_drewN | apply ext_alloc | refine blk_far ?_ (by show _ ≠ _; dsimp only; omega) _))); have ob_ := Aside0.mk (box_below hb_ (by repeat (with_reducible first | exact nb_2 w _ _ | apply ext_drew | apply ext_drewN | apply ext_alloc | refine blk_far ?_ (by show _ ≠ _; dsimp only; omega) _))); (try clear oa oac oaf oal); have oa := oa_; clear oa_; obtain ⟨oac, oaf, oal⟩ := cells_of oa.out; (try clear ob obc obf obl); have ob := ob_; clear ob_; obtain ⟨obc, obf, obl⟩ := cells_of ob.out; clear HB hb_; have HB := HB_; clear HB_)
  obtain ⟨ab, ao, ea, hcells⟩ := F_cell' HR0.out HI.out
  subst ea
  have hcell := cell_below (hcells 0 HI.out) HB.out
  rw [Nat.add_zero, HX.out] at hcell
  clear hcells
  obtain ⟨i0, hi0, _, hsz0, _⟩ := info_parts infoB
  have hm1 : (i.length : Int) ≤ 9223372036854775807 := by have := HL.out; omega
  have hm2 : (1 : Int) ≤ i.length := by have := HI.out; omega
  have hm3 : (i.length : Int) ≤ c0 := by have := HC0.out; omega
  obtain ⟨A', hA'⟩ : ∃ A', A' = (if i.length = 1 then (some (⟨ab, ao, none⟩ : Addr)) else (some (⟨ab, ao, none⟩ : Addr)).map (·.add (1 * 1))) := ⟨_, rfl⟩
  have hcut := cut3 (P := Try.prog) 24 5 Try.underlying24 hi0 1 hsz0 (some ⟨ab, ao, none⟩) i.length c0 1 i.length i.length (by have := HI.out; omega) (Nat.le_refl _) HC0.out
  have hFc := F_cut3 HR0.out 1 i.length i.length (by have := HI.out; omega) (Nat.le_refl _) (Nat.le_refl _)
  rw [← hA'] at hcut hFc
  have hdl : (i.drop 1).length = i.length - 1 := List.length_drop
  rw [List.take_length, ← hdl] at hFc
  rw [← hdl] at hcut
  have HFC := Aside0.mk (Kd.F_below hFc HB.out)
  have hd := HD.out
  rw [hd] at hcut HFC
  replace hcut : ∀ W, (Instr.slice 24 (.slice (some ⟨ab, ao, none⟩) i.length c0) (some (.int .i64 1)) (some (.int .i64 i.length)) (some (.int .i64 i.length))).run Try.prog W = .ok (.slice A' d.length d.length) W := hcut
  have HCL : Aside0 (slices_Clone_byte_byte.f d = some d) := ⟨by unfold slices_Clone_byte_byte.f; rw [if_pos]; rw [← hd]; have := HL.out; rw [List.length_drop]; omega⟩
  clear hA' hd hdl hFc hi0 hsz0
  go_wp2_with fail
  (go_at_call 13; (with_reducible refine (slices_Clone_byte_byte.calls A' _ d d _ (Kd.F_now HFC.out) (Nat.le_refl _) HCL.out).mono ?_); rintro e_ w2 ⟨v_q, rfl, hr_q, hb_⟩; have HB_ : Aside0 (Below w.heap.size w w2) := Aside0.mk (below_step (by repeat (first | (with_reducible first | exact HB.out | exact Below.refl _ _ | apply below_alloc | apply pw_below_drewN | apply below_drew | refine below_set ?_ (by omega)) | exact HB.out)) hb_); have hzw2 := hb_.size; (try simp at hzw2); have oa_ := Aside0.mk (box_below hb_ (by repeat (with_reducible first | exact oa.out | apply ext_drew | apply ext_drewN | apply ext_alloc | refine blk_far ?_ (by show _ ≠ _; dsimp only; omega) _))); have ob_ := Aside0.mk (box_below hb_ (by repeat (with_reducible first | exact ob.out | apply ext_drew | apply ext_drewN | apply ext_alloc | refine blk_far ?_ (by show _ ≠ _; dsimp only; omega) _))); (try clear oa oac oaf oal); have oa := oa_; clear oa_; obtain ⟨oac, oaf, oal⟩ := cells_of oa.out; (try clear ob obc obf obl); have ob := ob_; clear ob_; obtain ⟨obc, obf, obl⟩ := cells_of ob.out; clear HB hb_; have HB := HB_; clear HB_; obtain ⟨A_q, c_q, ev_, hc_q, hf_q⟩ := R_Fl hr_q; subst ev_; have qc := Aside0.mk hc_q; have q := Aside0.mk (Kd.F_bound hf_q); clear hc_q hf_q hr_q; skip)
  (go_wp2; (first | go_region | skip); (all_goals go_wp2))
  all_goals refine bodyPost_ret (v := .tuple #[.int .u64 (IntKind.u64.wrap x0), .agg #[.slice A_q d.length c_q, .slice A1 o.length c1, .int .i64 ie, .int .i64 lost], .bool true]) (by simp [results, Try.results8, go_sem, oac, obc] <;> first | assumption | omega | (symm; assumption)) rfl ?_
  all_goals exact ⟨A_q, c_q, A1, c1, rfl, qc.out, (by refine F_res (ok := ?_) ?_ ?_; rotate_left; (repeat (with_reducible first | exact q.out | apply Kd.F_drew | apply Kd.F_drewN | apply Kd.F_alloc | refine Kd.F_far ?_ ?_ _)); all_goals (intro j_ hj_; (try dsimp only at hj_); (try dsimp only); (try simp only [sz_alloc, sz_drew, sz_drewN, sz_set] at hj_); first | omega | exact .inl hj_.1 | exact .inl hj_ | exact .inr (by omega) | (rcases hj_ with hj_ | hj_; exact .inl hj_.1; exact .inr (by omega)) | (rcases hj_ with hj_ | hj_; exact .inl hj_; exact .inr (by omega)) | (rcases hj_.1 with hk_ | hk_; (first | exact .inl hk_.1 | exact .inl hk_); exact .inr (by omega)))), HC1.out, F_w HR1.out (by repeat (first | (with_reducible first | exact HB.out | exact Below.refl _ _ | apply below_alloc | apply pw_below_drewN | apply below_drew | refine below_set ?_ (by omega)) | exact HB.out)) (fun _ h => .inl h.1), (by repeat (first | (with_reducible first | exact HB.out | exact Below.refl _ _ | apply below_alloc | apply pw_below_drewN | apply below_drew | refine below_set ?_ (by omega)) | exact HB.out))⟩
set_option maxHeartbeats 1600000 in
set_option maxRecDepth 100000 in
theorem uart_Load.s0 (hi : i.length = 0) (hr : size = 1 ∧ (0 : Int) < 8) (hF0 : Kd.F (Kd.int .u8) w P A0 i.length i) (hc0 : i.length ≤ c0) (hF1 : Kd.F (Kd.int .u8) w Q A1 o.length o) (hc1 : o.length ≤ c1) :
    Calls Try.prog 8 #[.agg #[.slice A0 i.length c0, .slice A1 o.length c1, .int .i64 ie, .int .i64 lost], .int .u64 0, .int .i64 size] w (LoadPost P Q w 0 i o ie lost true) := by
  have HB := Aside0.mk (Below.refl w.heap.size w)
  have HR0 := Aside0.mk hF0
  have HR1 := Aside0.mk hF1
  have HC0 := Aside0.mk hc0
  have HC1 := Aside0.mk hc1
  have HA := Aside0.mk (reaches_yes hr)
  have hu := Try.underlying26
  have hs : (decide (0 < (i.length : Int))) = false := decide_eq_false (by omega)
  have hs2 : (decide (0 < i.length)) = false := decide_eq_false (by omega)
  clear hi
  clear hr hF0 hF1 hc0 hc1
  go_enter Try.func8, Try.ntmps8
  go_wp2_with fail
  (go_at_call 14; (with_reducible refine (dr (uart_reaches.calls _ _ true _ HA.out)).mono ?_); rintro e_ w1 ⟨rfl, hb_⟩; have HB_ : Aside0 (Below w.heap.size w w1) := Aside0.mk (below_step (by repeat (first | (with_reducible first | exact HB.out | exact Below.refl _ _ | apply below_alloc | apply pw_below_drewN | apply below_drew | refine below_set ?_ (by omega)) | exact HB.out)) hb_); have hzw1 := hb_.size; (try simp at hzw1); have oa_ := Aside0.mk (box_below hb_ (by repeat (with_reducible first | exact nb_1 w _ | apply ext_drew | apply ext_drewN | apply ext_alloc | refine blk_far ?_ (by show _ ≠ _; dsimp only; omega) _))); have ob_ := Aside0.mk (box_below hb_ (by repeat (with_reducible first | exact nb_2 w _ _ | apply ext_drew | apply ext_drewN | apply ext_alloc | refine blk_far ?_ (by show _ ≠ _; dsimp only; omega) _))); (try clear oa oac oaf oal); have oa := oa_; clear oa_; obtain ⟨oac, oaf, oal⟩ := cells_of oa.out; (try clear ob obc obf obl); have ob := ob_; clear ob_; obtain ⟨obc, obf, obl⟩ := cells_of ob.out; clear HB hb_; have HB := HB_; clear HB_)
  (go_wp2; (first | go_region | skip); (all_goals go_wp2))
  all_goals refine bodyPost_ret (v := .tuple #[.int .u64 0, .agg #[.slice A0 i.length c0, .slice A1 o.length c1, .int .i64 ie, .int .i64 lost], .bool true]) (by simp [results, Try.results8, go_sem, oac, obc] <;> first | assumption | omega | (symm; assumption)) rfl ?_
  all_goals exact ⟨A0, c0, A1, c1, rfl, HC0.out, F_w HR0.out (by repeat (first | (with_reducible first | exact HB.out | exact Below.refl _ _ | apply below_alloc | apply pw_below_drewN | apply below_drew | refine below_set ?_ (by omega)) | exact HB.out)) (fun _ h => .inl h), HC1.out, F_w HR1.out (by repeat (first | (with_reducible first | exact HB.out | exact Below.refl _ _ | apply below_alloc | apply pw_below_drewN | apply below_drew | refine below_set ?_ (by omega)) | exact HB.out)) (fun _ h => .inl h), (by repeat (first | (with_reducible first | exact HB.out | exact Below.refl _ _ | apply below_alloc | apply pw_below_drewN | apply below_drew | refine below_set ?_ (by omega)) | exact HB.out))⟩
set_option maxHeartbeats 1600000 in
set_option maxRecDepth 100000 in
theorem uart_Load.s1 (hr : size = 1 ∧ (1 : Int) < 8) (hF0 : Kd.F (Kd.int .u8) w P A0 i.length i) (hc0 : i.length ≤ c0) (hF1 : Kd.F (Kd.int .u8) w Q A1 o.length o) (hc1 : o.length ≤ c1) :
    Calls Try.prog 8 #[.agg #[.slice A0 i.length c0, .slice A1 o.length c1, .int .i64 ie, .int .i64 lost], .int .u64 1, .int .i64 size] w (LoadPost P Q w (IntKind.u64.wrap ie) i o ie lost true) := by
  have HB := Aside0.mk (Below.refl w.heap.size w)
  have HR0 := Aside0.mk hF0
  have HR1 := Aside0.mk hF1
  have HC0 := Aside0.mk hc0
  have HC1 := Aside0.mk hc1
  have HA := Aside0.mk (reaches_yes hr)
  have hu := Try.underlying26
  clear hr hF0 hF1 hc0 hc1
  go_enter Try.func8, Try.ntmps8
  go_wp2_with fail
  (go_at_call 14; (with_reducible refine (dr (uart_reaches.calls _ _ true _ HA.out)).mono ?_); rintro e_ w1 ⟨rfl, hb_⟩; have HB_ : Aside0 (Below w.heap.size w w1) := Aside0.mk (below_step (by repeat (first | (with_reducible first | exact HB.out | exact Below.refl _ _ | apply below_alloc | apply pw_below_drewN | apply below_drew | refine below_set ?_ (by omega)) | exact HB.out)) hb_); have hzw1 := hb_.size; (try simp at hzw1); have oa_ := Aside0.mk (box_below hb_ (by repeat (with_reducible first | exact nb_1 w _ | apply ext_drew | apply ext_drewN | apply ext_alloc | refine blk_far ?_ (by show _ ≠ _; dsimp only; omega) _))); have ob_ := Aside0.mk (box_below hb_ (by repeat (with_reducible first | exact nb_2 w _ _ | apply ext_drew | apply ext_drewN | apply ext_alloc | refine blk_far ?_ (by show _ ≠ _; dsimp only; omega) _))); (try clear oa oac oaf oal); have oa := oa_; clear oa_; obtain ⟨oac, oaf, oal⟩ := cells_of oa.out; (try clear ob obc obf obl); have ob := ob_; clear ob_; obtain ⟨obc, obf, obl⟩ := cells_of ob.out; clear HB hb_; have HB := HB_; clear HB_)
  (go_wp2; (first | go_region | skip); (all_goals go_wp2))
  all_goals refine bodyPost_ret (v := .tuple #[.int .u64 (IntKind.u64.wrap ie), .agg #[.slice A0 i.length c0, .slice A1 o.length c1, .int .i64 ie, .int .i64 lost], .bool true]) (by simp [results, Try.results8, go_sem, oac, obc] <;> first | assumption | omega | (symm; assumption)) rfl ?_
  all_goals exact ⟨A0, c0, A1, c1, rfl, HC0.out, F_w HR0.out (by repeat (first | (with_reducible first | exact HB.out | exact Below.refl _ _ | apply below_alloc | apply pw_below_drewN | apply below_drew | refine below_set ?_ (by omega)) | exact HB.out)) (fun _ h => .inl h), HC1.out, F_w HR1.out (by repeat (first | (with_reducible first | exact HB.out | exact Below.refl _ _ | apply below_alloc | apply pw_below_drewN | apply below_drew | refine below_set ?_ (by omega)) | exact HB.out)) (fun _ h => .inl h), (by repeat (first | (with_reducible first | exact HB.out | exact Below.refl _ _ | apply below_alloc | apply pw_below_drewN | apply below_drew | refine below_set ?_ (by omega)) | exact HB.out))⟩
set_option maxHeartbeats 1600000 in
set_option maxRecDepth 100000 in
theorem uart_Load.s5y (hi : 0 < i.length) (hr : size = 1 ∧ (5 : Int) < 8) (hF0 : Kd.F (Kd.int .u8) w P A0 i.length i) (hc0 : i.length ≤ c0) (hF1 : Kd.F (Kd.int .u8) w Q A1 o.length o) (hc1 : o.length ≤ c1) :
    Calls Try.prog 8 #[.agg #[.slice A0 i.length c0, .slice A1 o.length c1, .int .i64 ie, .int .i64 lost], .int .u64 5, .int .i64 size] w (LoadPost P Q w 97 i o ie lost true) := by
  have HB := Aside0.mk (Below.refl w.heap.size w)
  have HR0 := Aside0.mk hF0
  have HR1 := Aside0.mk hF1
  have HC0 := Aside0.mk hc0
  have HC1 := Aside0.mk hc1
  have HA := Aside0.mk (reaches_yes hr)
  have hu := Try.underlying26
  have hs : (decide (0 < (i.length : Int))) = true := decide_eq_true (by omega)
  have hs2 : (decide (0 < i.length)) = true := decide_eq_true (by omega)
  clear hi
  clear hr hF0 hF1 hc0 hc1
  go_enter Try.func8, Try.ntmps8
  go_wp2_with fail
  (go_at_call 14; (with_reducible refine (dr (uart_reaches.calls _ _ true _ HA.out)).mono ?_); rintro e_ w1 ⟨rfl, hb_⟩; have HB_ : Aside0 (Below w.heap.size w w1) := Aside0.mk (below_step (by repeat (first | (with_reducible first | exact HB.out | exact Below.refl _ _ | apply below_alloc | apply pw_below_drewN | apply below_drew | refine below_set ?_ (by omega)) | exact HB.out)) hb_); have hzw1 := hb_.size; (try simp at hzw1); have oa_ := Aside0.mk (box_below hb_ (by repeat (with_reducible first | exact nb_1 w _ | apply ext_drew | apply ext_drewN | apply ext_alloc | refine blk_far ?_ (by show _ ≠ _; dsimp only; omega) _))); have ob_ := Aside0.mk (box_below hb_ (by repeat (with_reducible first | exact nb_2 w _ _ | apply ext_drew | apply ext_drewN | apply ext_alloc | refine blk_far ?_ (by show _ ≠ _; dsimp only; omega) _))); (try clear oa oac oaf oal); have oa := oa_; clear oa_; obtain ⟨oac, oaf, oal⟩ := cells_of oa.out; (try clear ob obc obf obl); have ob := ob_; clear ob_; obtain ⟨obc, obf, obl⟩ := cells_of ob.out; clear HB hb_; have HB := HB_; clear HB_)
  (go_wp2; (first | go_region | skip); (all_goals go_wp2))
  all_goals refine bodyPost_ret (v := .tuple #[.int .u64 97, .agg #[.slice A0 i.length c0, .slice A1 o.length c1, .int .i64 ie, .int .i64 lost], .bool true]) (by simp [results, Try.results8, go_sem, oac, obc] <;> first | assumption | omega | (symm; assumption)) rfl ?_
  all_goals exact ⟨A0, c0, A1, c1, rfl, HC0.out, F_w HR0.out (by repeat (first | (with_reducible first | exact HB.out | exact Below.refl _ _ | apply below_alloc | apply pw_below_drewN | apply below_drew | refine below_set ?_ (by omega)) | exact HB.out)) (fun _ h => .inl h), HC1.out, F_w HR1.out (by repeat (first | (with_reducible first | exact HB.out | exact Below.refl _ _ | apply below_alloc | apply pw_below_drewN | apply below_drew | refine below_set ?_ (by omega)) | exact HB.out)) (fun _ h => .inl h), (by repeat (first | (with_reducible first | exact HB.out | exact Below.refl _ _ | apply below_alloc | apply pw_below_drewN | apply below_drew | refine below_set ?_ (by omega)) | exact HB.out))⟩
set_option maxHeartbeats 1600000 in
set_option maxRecDepth 100000 in
theorem uart_Load.s5n (hi : i.length = 0) (hr : size = 1 ∧ (5 : Int) < 8) (hF0 : Kd.F (Kd.int .u8) w P A0 i.length i) (hc0 : i.length ≤ c0) (hF1 : Kd.F (Kd.int .u8) w Q A1 o.length o) (hc1 : o.length ≤ c1) :
    Calls Try.prog 8 #[.agg #[.slice A0 i.length c0, .slice A1 o.length c1, .int .i64 ie, .int .i64 lost], .int .u64 5, .int .i64 size] w (LoadPost P Q w 96 i o ie lost true) := by
  have HB := Aside0.mk (Below.refl w.heap.size w)
  have HR0 := Aside0.mk hF0
  have HR1 := Aside0.mk hF1
  have HC0 := Aside0.mk hc0
  have HC1 := Aside0.mk hc1
  have HA := Aside0.mk (reaches_yes hr)
  have hu := Try.underlying26
  have hs : (decide (0 < (i.length : Int))) = false := decide_eq_false (by omega)
  have hs2 : (decide (0 < i.length)) = false := decide_eq_false (by omega)
  clear hi
  clear hr hF0 hF1 hc0 hc1
  go_enter Try.func8, Try.ntmps8
  go_wp2_with fail
  (go_at_call 14; (with_reducible refine (dr (uart_reaches.calls _ _ true _ HA.out)).mono ?_); rintro e_ w1 ⟨rfl, hb_⟩; have HB_ : Aside0 (Below w.heap.size w w1) := Aside0.mk (below_step (by repeat (first | (with_reducible first | exact HB.out | exact Below.refl _ _ | apply below_alloc | apply pw_below_drewN | apply below_drew | refine below_set ?_ (by omega)) | exact HB.out)) hb_); have hzw1 := hb_.size; (try simp at hzw1); have oa_ := Aside0.mk (box_below hb_ (by repeat (with_reducible first | exact nb_1 w _ | apply ext_drew | apply ext_drewN | apply ext_alloc | refine blk_far ?_ (by show _ ≠ _; dsimp only; omega) _))); have ob_ := Aside0.mk (box_below hb_ (by repeat (with_reducible first | exact nb_2 w _ _ | apply ext_drew | apply ext_drewN | apply ext_alloc | refine blk_far ?_ (by show _ ≠ _; dsimp only; omega) _))); (try clear oa oac oaf oal); have oa := oa_; clear oa_; obtain ⟨oac, oaf, oal⟩ := cells_of oa.out; (try clear ob obc obf obl); have ob := ob_; clear ob_; obtain ⟨obc, obf, obl⟩ := cells_of ob.out; clear HB hb_; have HB := HB_; clear HB_)
  (go_wp2; (first | go_region | skip); (all_goals go_wp2))
  all_goals refine bodyPost_ret (v := .tuple #[.int .u64 96, .agg #[.slice A0 i.length c0, .slice A1 o.length c1, .int .i64 ie, .int .i64 lost], .bool true]) (by simp [results, Try.results8, go_sem, oac, obc] <;> first | assumption | omega | (symm; assumption)) rfl ?_
  all_goals exact ⟨A0, c0, A1, c1, rfl, HC0.out, F_w HR0.out (by repeat (first | (with_reducible first | exact HB.out | exact Below.refl _ _ | apply below_alloc | apply pw_below_drewN | apply below_drew | refine below_set ?_ (by omega)) | exact HB.out)) (fun _ h => .inl h), HC1.out, F_w HR1.out (by repeat (first | (with_reducible first | exact HB.out | exact Below.refl _ _ | apply below_alloc | apply pw_below_drewN | apply below_drew | refine below_set ?_ (by omega)) | exact HB.out)) (fun _ h => .inl h), (by repeat (first | (with_reducible first | exact HB.out | exact Below.refl _ _ | apply below_alloc | apply pw_below_drewN | apply below_drew | refine below_set ?_ (by omega)) | exact HB.out))⟩
set_option maxHeartbeats 1600000 in
set_option maxRecDepth 100000 in
theorem uart_Load.so (h0 : (off == 0) = false) (h1 : (off == 1) = false) (h5 : (off == 5) = false) (hr : size = 1 ∧ off < 8) (hF0 : Kd.F (Kd.int .u8) w P A0 i.length i) (hc0 : i.length ≤ c0) (hF1 : Kd.F (Kd.int .u8) w Q A1 o.length o) (hc1 : o.length ≤ c1) :
    Calls Try.prog 8 #[.agg #[.slice A0 i.length c0, .slice A1 o.length c1, .int .i64 ie, .int .i64 lost], .int .u64 off, .int .i64 size] w (LoadPost P Q w 0 i o ie lost true) := by
  have HB := Aside0.mk (Below.refl w.heap.size w)
  have HR0 := Aside0.mk hF0
  have HR1 := Aside0.mk hF1
  have HC0 := Aside0.mk hc0
  have HC1 := Aside0.mk hc1
  have HA := Aside0.mk (reaches_yes hr)
  have hu := Try.underlying26
  clear hr hF0 hF1 hc0 hc1
  go_enter Try.func8, Try.ntmps8
  go_wp2_with fail
  (go_at_call 14; (with_reducible refine (dr (uart_reaches.calls _ _ true _ HA.out)).mono ?_); rintro e_ w1 ⟨rfl, hb_⟩; have HB_ : Aside0 (Below w.heap.size w w1) := Aside0.mk (below_step (by repeat (first | (with_reducible first | exact HB.out | exact Below.refl _ _ | apply below_alloc | apply pw_below_drewN | apply below_drew | refine below_set ?_ (by omega)) | exact HB.out)) hb_); have hzw1 := hb_.size; (try simp at hzw1); have oa_ := Aside0.mk (box_below hb_ (by repeat (with_reducible first | exact nb_1 w _ | apply ext_drew | apply ext_drewN | apply ext_alloc | refine blk_far ?_ (by show _ ≠ _; dsimp only; omega) _))); have ob_ := Aside0.mk (box_below hb_ (by repeat (with_reducible first | exact nb_2 w _ _ | apply ext_drew | apply ext_drewN | apply ext_alloc | refine blk_far ?_ (by show _ ≠ _; dsimp only; omega) _))); (try clear oa oac oaf oal); have oa := oa_; clear oa_; obtain ⟨oac, oaf, oal⟩ := cells_of oa.out; (try clear ob obc obf obl); have ob := ob_; clear ob_; obtain ⟨obc, obf, obl⟩ := cells_of ob.out; clear HB hb_; have HB := HB_; clear HB_)
  (go_wp2; (first | go_region | skip); (all_goals go_wp2))
  all_goals refine bodyPost_ret (v := .tuple #[.int .u64 0, .agg #[.slice A0 i.length c0, .slice A1 o.length c1, .int .i64 ie, .int .i64 lost], .bool true]) (by simp [results, Try.results8, go_sem, oac, obc] <;> first | assumption | omega | (symm; assumption)) rfl ?_
  all_goals exact ⟨A0, c0, A1, c1, rfl, HC0.out, F_w HR0.out (by repeat (first | (with_reducible first | exact HB.out | exact Below.refl _ _ | apply below_alloc | apply pw_below_drewN | apply below_drew | refine below_set ?_ (by omega)) | exact HB.out)) (fun _ h => .inl h), HC1.out, F_w HR1.out (by repeat (first | (with_reducible first | exact HB.out | exact Below.refl _ _ | apply below_alloc | apply pw_below_drewN | apply below_drew | refine below_set ?_ (by omega)) | exact HB.out)) (fun _ h => .inl h), (by repeat (first | (with_reducible first | exact HB.out | exact Below.refl _ _ | apply below_alloc | apply pw_below_drewN | apply below_drew | refine below_set ?_ (by omega)) | exact HB.out))⟩
end
end Go.Proofs.Ytpbfoocfjcimmaa.Q
