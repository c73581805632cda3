/- uart.Store, as those who call it have it. -/
import Derived.Test.YtpbfoocfjcimmaaEuart
import Derived.Test.YtpbfoocfjcimmaaApp
namespace Go.Proofs.Ytpbfoocfjcimmaa.Q
open Go.RowKit Go.Proofs.YtpbfoocfjcimmaaW.PrintWords Go.Proofs.YtpbfoocfjcimmaaW.PrintLast Go.Proofs.YtpbfoocfjcimmaaW.PrintMore Go.Proofs.Ytpbfoocfjcimmaa.L
attribute [local go_sem] Instr.field part asAgg lt_step max2_int min2_int max_two min_two max_three min_three max_four min_four lt_0_1 lt_0_2 lt_1_2 lt_0_3 lt_1_3 lt_2_3 lt_0_4 lt_1_4 lt_2_4 lt_3_4 lt_0_5 lt_1_5 lt_2_5 lt_3_5 lt_4_5 lt_0_6 lt_1_6 lt_2_6 lt_3_6 lt_4_6 lt_5_6 lt_0_7 lt_1_7 lt_2_7 lt_3_7 lt_4_7 lt_5_7 lt_6_7 lt_0_8 lt_1_8 lt_2_8 lt_3_8 lt_4_8 lt_5_8 lt_6_8 lt_7_8
set_option linter.unusedVariables false
set_option linter.unusedSimpArgs false
def uart_Store.f (i o : List Int) (ie lost off size x : Int) : Option (List Int × List Int × Int × Int × Bool) :=
  if u64B off then
    (if size = 1 ∧ off < 8 then
      (if off = 0 ∧ o.length < 4096 then some (i, o ++ [x % 256], ie, lost, true)
       else if off = 1 then some (i, o, wrap64 (Go.bits .and .u64 x 3), lost, true)
       else some (i, o, ie, lost, true))
     else some (i, o, ie, lost, false))
  else none
def StorePost (P Q : Nat → Prop) (w : World) (r1 r2 : List Int) (r3 r4 : Int) (r5 : Bool) (e : Ending) (w' : World) : Prop :=
  ∃ A c A2 c2, e = .returned (.tuple #[.agg #[.slice A r1.length c, .slice A2 r2.length c2, .int .i64 r3, .int .i64 r4], .bool r5]) ∧ r1.length ≤ c ∧ Kd.F (Kd.int .u8) w' (fun j => P j ∨ w.heap.size ≤ j) A r1.length r1 ∧ r2.length ≤ c2 ∧ Kd.F (Kd.int .u8) w' (fun j => Q j ∨ w.heap.size ≤ j) A2 r2.length r2 ∧ Below w.heap.size w w'
section
variable (A0 : Option Addr) (c0 : Nat) (i : List Int) (A1 : Option Addr) (c1 : Nat) (o : List Int) (ie lost off size x : Int) (w : World) (P Q : Nat → Prop)
set_option maxHeartbeats 1600000 in
set_option maxRecDepth 100000 in
theorem uart_Store.no (hF0 : Kd.F (Kd.int .u8) w P A0 i.length i) (hc0 : i.length ≤ c0) (hF1 : Kd.F (Kd.int .u8) w Q A1 o.length o) (hc1 : o.length ≤ c1) (hr : ¬ (size = 1 ∧ off < 8)) :
    Calls Try.prog 10 #[.agg #[.slice A0 i.length c0, .slice A1 o.length c1, .int .i64 ie, .int .i64 lost], .int .u64 off, .int .i64 size, .int .u64 x] w (StorePost P Q w i o ie lost false) := by
  have HB := Aside0.mk (Below.refl w.heap.size w)
  have HR0 := Aside0.mk hF0
  have HR1 := Aside0.mk hF1
  have HC0 := Aside0.mk hc0
  have HC1 := Aside0.mk hc1
  have HA := Aside0.mk (reaches_no hr)
  have hu := Try.underlying26
  clear hr hF0 hF1 hc0 hc1
  go_enter Try.func10, Try.ntmps10
  go_wp2_with fail
  (go_at_call 14; (with_reducible refine (dr (uart_reaches.calls _ _ false _ HA.out)).mono ?_); rintro e_ w1 ⟨rfl, hb_⟩; have HB_ : Aside0 (Below w.heap.size w w1) := Aside0.mk (below_step (by repeat (first | (with_reducible first | exact HB.out | exact Below.refl _ _ | apply below_alloc | apply pw_below_drewN | apply below_drew | refine below_set ?_ (by omega)) | exact HB.out)) hb_); have hzw1 := hb_.size; (try simp at hzw1); have oa_ := Aside0.mk (box_below hb_ (by repeat (with_reducible first | exact nb_1 w _ | apply ext_drew | apply ext_drewN | apply ext_alloc | refine blk_far ?_ (by show _ ≠ _; dsimp only; omega) _))); have ob_ := Aside0.mk (box_below hb_ (by repeat (with_reducible first | exact nb_2 w _ _ | apply ext_drew | apply ext_drewN | apply ext_alloc | refine blk_far ?_ (by show _ ≠ _; dsimp only; omega) _))); (try clear oa oac oaf oal); have oa := oa_; clear oa_; obtain ⟨oac, oaf, oal⟩ := cells_of oa.out; (try clear ob obc obf obl); have ob := ob_; clear ob_; obtain ⟨obc, obf, obl⟩ := cells_of ob.out; clear HB hb_; have HB := HB_; clear HB_)
  (go_wp2; (first | go_region | skip); (all_goals go_wp2))
  all_goals refine bodyPost_ret (v := .tuple #[.agg #[.slice A0 i.length c0, .slice A1 o.length c1, .int .i64 ie, .int .i64 lost], .bool false]) (by simp [results, Try.results10, go_sem, oac, obc] <;> first | assumption | omega | (symm; assumption)) rfl ?_
  all_goals exact ⟨A0, c0, A1, c1, rfl, HC0.out, F_w HR0.out (by repeat (first | (with_reducible first | exact HB.out | exact Below.refl _ _ | apply below_alloc | apply pw_below_drewN | apply below_drew | refine below_set ?_ (by omega)) | exact HB.out)) (fun _ h => .inl h), HC1.out, F_w HR1.out (by repeat (first | (with_reducible first | exact HB.out | exact Below.refl _ _ | apply below_alloc | apply pw_below_drewN | apply below_drew | refine below_set ?_ (by omega)) | exact HB.out)) (fun _ h => .inl h), (by repeat (first | (with_reducible first | exact HB.out | exact Below.refl _ _ | apply below_alloc | apply pw_below_drewN | apply below_drew | refine below_set ?_ (by omega)) | exact HB.out))⟩
set_option maxHeartbeats 1600000 in
set_option maxRecDepth 100000 in
theorem uart_Store.put (n : Nat) (hn : o.length = n) (hl : n < 4096) (hF0 : Kd.F (Kd.int .u8) w P A0 i.length i) (hc0 : i.length ≤ c0) (hF1 : Kd.F (Kd.int .u8) w Q A1 n o) (hc1 : n ≤ c1) (hr : size = 1 ∧ (0 : Int) < 8) :
    Calls Try.prog 10 #[.agg #[.slice A0 i.length c0, .slice A1 n c1, .int .i64 ie, .int .i64 lost], .int .u64 0, .int .i64 size, .int .u64 x] w (StorePost P Q w i (o ++ [x % 256]) ie lost true) := by
  have HB := Aside0.mk (Below.refl w.heap.size w)
  have HR0 := Aside0.mk (Kd.F_bound hF0)
  have HR1 := Aside0.mk (Kd.F_bound hF1)
  have HC0 := Aside0.mk hc0
  have HC1 := Aside0.mk hc1
  have HA := Aside0.mk (reaches_yes hr)
  have hu := Try.underlying26
  have hs : (decide ((n : Int) < 4096)) = true := decide_eq_true (by omega)
  have hs2 : (decide (n < 4096)) = true := decide_eq_true (by omega)
  have HL := Aside0.mk hl
  have HN := Aside0.mk hn
  clear hr hF0 hF1 hc0 hc1 hl hn
  go_enter Try.func10, Try.ntmps10
  go_wp2_with fail
  (go_at_call 14; (with_reducible refine (dr (uart_reaches.calls _ _ true _ HA.out)).mono ?_); rintro e_ w1 ⟨rfl, hb_⟩; have HB_ : Aside0 (Below w.heap.size w w1) := Aside0.mk (below_step (by repeat (first | (with_reducible first | exact HB.out | exact Below.refl _ _ | apply below_alloc | apply pw_below_drewN | apply below_drew | refine below_set ?_ (by omega)) | exact HB.out)) hb_); have hzw1 := hb_.size; (try simp at hzw1); have oa_ := Aside0.mk (box_below hb_ (by repeat (with_reducible first | exact nb_1 w _ | apply ext_drew | apply ext_drewN | apply ext_alloc | refine blk_far ?_ (by show _ ≠ _; dsimp only; omega) _))); have ob_ := Aside0.mk (box_below hb_ (by repeat (with_reducible first | exact nb_2 w _ _ | apply ext_drew | apply ext_drewN | apply ext_alloc | refine blk_far ?_ (by show _ ≠ _; dsimp only; omega) _))); (try clear oa oac oaf oal); have oa := oa_; clear oa_; obtain ⟨oac, oaf, oal⟩ := cells_of oa.out; (try clear ob obc obf obl); have ob := ob_; clear ob_; obtain ⟨obc, obf, obl⟩ := cells_of ob.out; clear HB hb_; have HB := HB_; clear HB_)
  obtain ⟨i0, hi0, hz0, hsz0, hby0⟩ := info_parts infoB
  have hcut := cut3_hm (P := Try.prog) 24 5 Try.underlying24 hi0 A1 n c1 n n (Nat.le_refl _) HC1.out
  have HI0 := Aside0.mk hi0
  have HZ0 := Aside0.mk hz0
  have HS0 := Aside0.mk hsz0
  have HY0 := Aside0.mk hby0
  clear hi0 hsz0 hz0 hby0
  have HR0_ := Aside0.mk (Kd.F_below HR0.out HB.out)
  clear HR0; have HR0 := HR0_; clear HR0_
  go_wp2_with (at_builtin; refine wpList_append_grows _ rfl (.tmp 32) (.tmp 35) 24 rfl 5 i0 (.int .u8 0) 1 1 Try.underlying24 HI0.out HZ0.out HS0.out HY0.out rfl (by decide) A1 n n (nums .u8 o) rfl (fun h => ⟨F_none HR1.out h, F_none HR1.out h⟩) ?q1 ?q2 ⟨w1.heap.size, 0, none⟩ 1 1 [.int .u8 (x % 256)] rfl rfl ?q3 ?q4 (by omega) ?q5 ?q6 ?_; (case q1 => exact (nums_length _ _).trans (HN.out.trans (Nat.mul_one _).symm)); (case q2 => exact F_cells (Kd.F_alloc (Kd.F_below HR1.out HB.out) _)); (case q3 => exact cell_one_new _ _ _); (case q4 => intro u hu; rw [List.mem_singleton.1 hu]; rfl); (case q5 => have := HL.out; unfold maxLen; omega); (case q6 => have := HL.out; omega); intro v' w2 hown hgrow; have hb_ := below_of_grown hgrow; have HB_ : Aside0 (Below w.heap.size w w2) := Aside0.mk (below_step (by repeat (first | (with_reducible first | exact HB.out | exact Below.refl _ _ | apply below_alloc | apply pw_below_drewN | apply below_drew | refine below_set ?_ (by omega)) | exact HB.out)) hb_); have hzw2 := hb_.size; (try simp at hzw2); have oa_ := Aside0.mk (box_below hb_ (by repeat (with_reducible first | exact oa.out | apply ext_drew | apply ext_drewN | apply ext_alloc | refine blk_far ?_ (by show _ ≠ _; dsimp only; omega) _))); have ob_ := Aside0.mk (box_below hb_ (by repeat (with_reducible first | exact ob.out | apply ext_drew | apply ext_drewN | apply ext_alloc | refine blk_far ?_ (by show _ ≠ _; dsimp only; omega) _))); have HR0_ := Aside0.mk (Kd.F_below (by (repeat (with_reducible first | exact HR0.out | apply Kd.F_drew | apply Kd.F_drewN | apply Kd.F_alloc | refine Kd.F_far ?_ ?_ _)); all_goals (intro j_ hj_; (try dsimp only at hj_); (try dsimp only); (try simp only [sz_alloc, sz_drew, sz_drewN, sz_set] at hj_); omega)) hb_); clear HR0; have HR0 := HR0_; clear HR0_; (try clear oa oac oaf oal); have oa := oa_; clear oa_; obtain ⟨oac, oaf, oal⟩ := cells_of oa.out; (try clear ob obc obf obl); have ob := ob_; clear ob_; obtain ⟨obc, obf, obl⟩ := cells_of ob.out; clear HB hb_; have HB := HB_; clear HB_; obtain ⟨A_q, c_q, ev_, hc_q, hf_q⟩ := own_F (k := .u8) (xs := o ++ [x % 256]) (by rw [nums_append]; exact hown); subst ev_; have qc := Aside0.mk hc_q; have q := Aside0.mk hf_q; clear hc_q hf_q hown hgrow)
  have hlen : (o ++ [x % 256]).length = n + 1 := by rw [List.length_append, HN.out]; rfl
  refine bodyPost_ret (v := .tuple #[.agg #[.slice A0 i.length c0, .slice A_q (n + 1) c_q, .int .i64 ie, .int .i64 lost], .bool true]) (by simp [results, Try.results10, go_sem, oac, obc] <;> first | assumption | omega | (symm; assumption)) rfl ?_
  exact ⟨A0, c0, A_q, c_q, by rw [hlen], HC0.out, (by refine F_res (ok := ?_) ?_ ?_; rotate_left; (repeat (with_reducible first | exact HR0.out | apply Kd.F_drew | apply Kd.F_drewN | apply Kd.F_alloc | refine Kd.F_far ?_ ?_ _)); all_goals (intro j_ hj_; (try dsimp only at hj_); (try dsimp only); (try simp only [sz_alloc, sz_drew, sz_drewN, sz_set] at hj_); first | omega | exact .inl hj_.1 | exact .inl hj_ | exact .inr (by omega) | (rcases hj_ with hj_ | hj_; exact .inl hj_.1; exact .inr (by omega)) | (rcases hj_ with hj_ | hj_; exact .inl hj_; exact .inr (by omega)) | (rcases hj_.1 with hk_ | hk_; (first | exact .inl hk_.1 | exact .inl hk_); exact .inr (by omega)))), by rw [hlen]; exact qc.out, by rw [hlen]; exact (by refine F_res (ok := ?_) ?_ ?_; rotate_left; (repeat (with_reducible first | exact q.out | apply Kd.F_drew | apply Kd.F_drewN | apply Kd.F_alloc | refine Kd.F_far ?_ ?_ _)); all_goals (intro j_ hj_; (try dsimp only at hj_); (try dsimp only); (try simp only [sz_alloc, sz_drew, sz_drewN, sz_set] at hj_); first | omega | exact .inl hj_.1 | exact .inl hj_ | exact .inr (by omega) | (rcases hj_ with hj_ | hj_; exact .inl hj_.1; exact .inr (by omega)) | (rcases hj_ with hj_ | hj_; exact .inl hj_; exact .inr (by omega)) | (rcases hj_.1 with hk_ | hk_; (first | exact .inl hk_.1 | exact .inl hk_); exact .inr (by omega)))), (by repeat (first | (with_reducible first | exact HB.out | exact Below.refl _ _ | apply below_alloc | apply pw_below_drewN | apply below_drew | refine below_set ?_ (by omega)) | exact HB.out))⟩
set_option maxHeartbeats 1600000 in
set_option maxRecDepth 100000 in
theorem uart_Store.s0 (hi : 4096 ≤ o.length) (hr : size = 1 ∧ (0 : Int) < 8) (hF0 : Kd.F (Kd.int .u8) w P A0 i.length i) (hc0 : i.length ≤ c0) (hF1 : Kd.F (Kd.int .u8) w Q A1 o.length o) (hc1 : o.length ≤ c1) :
    Calls Try.prog 10 #[.agg #[.slice A0 i.length c0, .slice A1 o.length c1, .int .i64 ie, .int .i64 lost], .int .u64 0, .int .i64 size, .int .u64 x] w (StorePost P Q w i o ie lost true) := by
  have HB := Aside0.mk (Below.refl w.heap.size w)
  have HR0 := Aside0.mk (Kd.F_bound hF0)
  have HR1 := Aside0.mk (Kd.F_bound hF1)
  have HC0 := Aside0.mk hc0
  have HC1 := Aside0.mk hc1
  have HA := Aside0.mk (reaches_yes hr)
  have hu := Try.underlying26
  have hs : (decide ((o.length : Int) < 4096)) = false := decide_eq_false (by omega)
  have hs2 : (decide (o.length < 4096)) = false := decide_eq_false (by omega)
  clear hi
  clear hr hF0 hF1 hc0 hc1
  go_enter Try.func10, Try.ntmps10
  go_wp2_with fail
  (go_at_call 14; (with_reducible refine (dr (uart_reaches.calls _ _ true _ HA.out)).mono ?_); rintro e_ w1 ⟨rfl, hb_⟩; have HB_ : Aside0 (Below w.heap.size w w1) := Aside0.mk (below_step (by repeat (first | (with_reducible first | exact HB.out | exact Below.refl _ _ | apply below_alloc | apply pw_below_drewN | apply below_drew | refine below_set ?_ (by omega)) | exact HB.out)) hb_); have hzw1 := hb_.size; (try simp at hzw1); have oa_ := Aside0.mk (box_below hb_ (by repeat (with_reducible first | exact nb_1 w _ | apply ext_drew | apply ext_drewN | apply ext_alloc | refine blk_far ?_ (by show _ ≠ _; dsimp only; omega) _))); have ob_ := Aside0.mk (box_below hb_ (by repeat (with_reducible first | exact nb_2 w _ _ | apply ext_drew | apply ext_drewN | apply ext_alloc | refine blk_far ?_ (by show _ ≠ _; dsimp only; omega) _))); (try clear oa oac oaf oal); have oa := oa_; clear oa_; obtain ⟨oac, oaf, oal⟩ := cells_of oa.out; (try clear ob obc obf obl); have ob := ob_; clear ob_; obtain ⟨obc, obf, obl⟩ := cells_of ob.out; clear HB hb_; have HB := HB_; clear HB_)
  (go_wp2; (first | go_region | skip); (all_goals go_wp2))
  all_goals refine bodyPost_ret (v := .tuple #[.agg #[.slice A0 i.length c0, .slice A1 o.length c1, .int .i64 ie, .int .i64 lost], .bool true]) (by simp [results, Try.results10, go_sem, oac, obc] <;> first | assumption | omega | (symm; assumption)) rfl ?_
  all_goals exact ⟨A0, c0, A1, c1, rfl, HC0.out, F_w HR0.out (by repeat (first | (with_reducible first | exact HB.out | exact Below.refl _ _ | apply below_alloc | apply pw_below_drewN | apply below_drew | refine below_set ?_ (by omega)) | exact HB.out)) (fun _ h => .inl h.1), HC1.out, F_w HR1.out (by repeat (first | (with_reducible first | exact HB.out | exact Below.refl _ _ | apply below_alloc | apply pw_below_drewN | apply below_drew | refine below_set ?_ (by omega)) | exact HB.out)) (fun _ h => .inl h.1), (by repeat (first | (with_reducible first | exact HB.out | exact Below.refl _ _ | apply below_alloc | apply pw_below_drewN | apply below_drew | refine below_set ?_ (by omega)) | exact HB.out))⟩
set_option maxHeartbeats 1600000 in
set_option maxRecDepth 100000 in
theorem uart_Store.s1 (hr : size = 1 ∧ (1 : Int) < 8) (hF0 : Kd.F (Kd.int .u8) w P A0 i.length i) (hc0 : i.length ≤ c0) (hF1 : Kd.F (Kd.int .u8) w Q A1 o.length o) (hc1 : o.length ≤ c1) :
    Calls Try.prog 10 #[.agg #[.slice A0 i.length c0, .slice A1 o.length c1, .int .i64 ie, .int .i64 lost], .int .u64 1, .int .i64 size, .int .u64 x] w (StorePost P Q w i o (wrap64 (Go.bits .and .u64 x 3)) lost true) := by
  have HB := Aside0.mk (Below.refl w.heap.size w)
  have HR0 := Aside0.mk (Kd.F_bound hF0)
  have HR1 := Aside0.mk (Kd.F_bound hF1)
  have HC0 := Aside0.mk hc0
  have HC1 := Aside0.mk hc1
  have HA := Aside0.mk (reaches_yes hr)
  have hu := Try.underlying26
  clear hr hF0 hF1 hc0 hc1
  go_enter Try.func10, Try.ntmps10
  go_wp2_with fail
  (go_at_call 14; (with_reducible refine (dr (uart_reaches.calls _ _ true _ HA.out)).mono ?_); rintro e_ w1 ⟨rfl, hb_⟩; have HB_ : Aside0 (Below w.heap.size w w1) := Aside0.mk (below_step (by repeat (first | (with_reducible first | exact HB.out | exact Below.refl _ _ | apply below_alloc | apply pw_below_drewN | apply below_drew | refine below_set ?_ (by omega)) | exact HB.out)) hb_); have hzw1 := hb_.size; (try simp at hzw1); have oa_ := Aside0.mk (box_below hb_ (by repeat (with_reducible first | exact nb_1 w _ | apply ext_drew | apply ext_drewN | apply ext_alloc | refine blk_far ?_ (by show _ ≠ _; dsimp only; omega) _))); have ob_ := Aside0.mk (box_below hb_ (by repeat (with_reducible first | exact nb_2 w _ _ | apply ext_drew | apply ext_drewN | apply ext_alloc | refine blk_far ?_ (by show _ ≠ _; dsimp only; omega) _))); (try clear oa oac oaf oal); have oa := oa_; clear oa_; obtain ⟨oac, oaf, oal⟩ := cells_of oa.out; (try clear ob obc obf obl); have ob := ob_; clear ob_; obtain ⟨obc, obf, obl⟩ := cells_of ob.out; clear HB hb_; have HB := HB_; clear HB_)
  (go_wp2; (first | go_region | skip); (all_goals go_wp2))
  all_goals refine bodyPost_ret (v := .tuple #[.agg #[.slice A0 i.length c0, .slice A1 o.length c1, .int .i64 (wrap64 (Go.bits .and .u64 x 3)), .int .i64 lost], .bool true]) (by simp [results, Try.results10, go_sem, oac, obc] <;> first | assumption | omega | (symm; assumption)) rfl ?_
  all_goals exact ⟨A0, c0, A1, c1, rfl, HC0.out, F_w HR0.out (by repeat (first | (with_reducible first | exact HB.out | exact Below.refl _ _ | apply below_alloc | apply pw_below_drewN | apply below_drew | refine below_set ?_ (by omega)) | exact HB.out)) (fun _ h => .inl h.1), HC1.out, F_w HR1.out (by repeat (first | (with_reducible first | exact HB.out | exact Below.refl _ _ | apply below_alloc | apply pw_below_drewN | apply below_drew | refine below_set ?_ (by omega)) | exact HB.out)) (fun _ h => .inl h.1), (by repeat (first | (with_reducible first | exact HB.out | exact Below.refl _ _ | apply below_alloc | apply pw_below_drewN | apply below_drew | refine below_set ?_ (by omega)) | exact HB.out))⟩
set_option maxHeartbeats 1600000 in
set_option maxRecDepth 100000 in
theorem uart_Store.so (h0 : (off == 0) = false) (h1 : (off == 1) = false) (hr : size = 1 ∧ off < 8) (hF0 : Kd.F (Kd.int .u8) w P A0 i.length i) (hc0 : i.length ≤ c0) (hF1 : Kd.F (Kd.int .u8) w Q A1 o.length o) (hc1 : o.length ≤ c1) :
    Calls Try.prog 10 #[.agg #[.slice A0 i.length c0, .slice A1 o.length c1, .int .i64 ie, .int .i64 lost], .int .u64 off, .int .i64 size, .int .u64 x] w (StorePost P Q w i o ie lost true) := by
  have HB := Aside0.mk (Below.refl w.heap.size w)
  have HR0 := Aside0.mk (Kd.F_bound hF0)
  have HR1 := Aside0.mk (Kd.F_bound hF1)
  have HC0 := Aside0.mk hc0
  have HC1 := Aside0.mk hc1
  have HA := Aside0.mk (reaches_yes hr)
  have hu := Try.underlying26
  clear hr hF0 hF1 hc0 hc1
  go_enter Try.func10, Try.ntmps10
  go_wp2_with fail
  (go_at_call 14; (with_reducible refine (dr (uart_reaches.calls _ _ true _ HA.out)).mono ?_); rintro e_ w1 ⟨rfl, hb_⟩; have HB_ : Aside0 (Below w.heap.size w w1) := Aside0.mk (below_step (by repeat (first | (with_reducible first | exact HB.out | exact Below.refl _ _ | apply below_alloc | apply pw_below_drewN | apply below_drew | refine below_set ?_ (by omega)) | exact HB.out)) hb_); have hzw1 := hb_.size; (try simp at hzw1); have oa_ := Aside0.mk (box_below hb_ (by repeat (with_reducible first | exact nb_1 w _ | apply ext_drew | apply ext_drewN | apply ext_alloc | refine blk_far ?_ (by show _ ≠ _; dsimp only; omega) _))); have ob_ := Aside0.mk (box_below hb_ (by repeat (with_reducible first | exact nb_2 w _ _ | apply ext_drew | apply ext_drewN | apply ext_alloc | refine blk_far ?_ (by show _ ≠ _; dsimp only; omega) _))); (try clear oa oac oaf oal); have oa := oa_; clear oa_; obtain ⟨oac, oaf, oal⟩ := cells_of oa.out; (try clear ob obc obf obl); have ob := ob_; clear ob_; obtain ⟨obc, obf, obl⟩ := cells_of ob.out; clear HB hb_; have HB := HB_; clear HB_)
  (go_wp2; (first | go_region | skip); (all_goals go_wp2))
  all_goals refine bodyPost_ret (v := .tuple #[.agg #[.slice A0 i.length c0, .slice A1 o.length c1, .int .i64 ie, .int .i64 lost], .bool true]) (by simp [results, Try.results10, go_sem, oac, obc] <;> first | assumption | omega | (symm; assumption)) rfl ?_
  all_goals exact ⟨A0, c0, A1, c1, rfl, HC0.out, F_w HR0.out (by repeat (first | (with_reducible first | exact HB.out | exact Below.refl _ _ | apply below_alloc | apply pw_below_drewN | apply below_drew | refine below_set ?_ (by omega)) | exact HB.out)) (fun _ h => .inl h.1), HC1.out, F_w HR1.out (by repeat (first | (with_reducible first | exact HB.out | exact Below.refl _ _ | apply below_alloc | apply pw_below_drewN | apply below_drew | refine below_set ?_ (by omega)) | exact HB.out)) (fun _ h => .inl h.1), (by repeat (first | (with_reducible first | exact HB.out | exact Below.refl _ _ | apply below_alloc | apply pw_below_drewN | apply below_drew | refine below_set ?_ (by omega)) | exact HB.out))⟩
end
theorem uart_Load.calls (P0_0_ : Nat → Prop) (A0_0 : Option Addr) (c0_0 : Nat) (l0_0 : List Int) (P0_1_ : Nat → Prop) (A0_1 : Option Addr) (c0_1 : Nat) (l0_1 : List Int) (a0_2 : Int) (a0_3 : Int) (a1 : Int) (a2 : Int) (r1 : Int) (r2 : List Int) (r3 : List Int) (r4 : Int) (r5 : Int) (r6 : Bool) (w : World) (hs0_0 : Kd.V (Kd.int .u8) 5 w w.heap.size (fun k_ => P0_0_ k_) (.slice A0_0 l0_0.length c0_0) l0_0) (hs0_1 : Kd.V (Kd.int .u8) 5 w w.heap.size (fun k_ => P0_1_ k_) (.slice A0_1 l0_1.length c0_1) l0_1) (h : uart_Load.f l0_0 l0_1 a0_2 a0_3 a1 a2 = some (r1, r2, r3, r4, r5, r6)) :
    Calls Try.prog 8 #[.agg #[.slice A0_0 l0_0.length c0_0, .slice A0_1 l0_1.length c0_1, .int .i64 a0_2, .int .i64 a0_3], .int .u64 a1, .int .i64 a2] w fun e w' => ∃ v1_ v2_ : Value, e = .returned (.tuple #[.int .u64 r1, .agg #[v1_, v2_, .int .i64 r4, .int .i64 r5], .bool r6]) ∧ Kd.V (Kd.int .u8) 5 w' w.heap.size (fun k_ => ((P0_0_ k_ ∨ P0_1_ k_) ∨ w.heap.size ≤ k_)) v1_ r2 ∧ Kd.V (Kd.int .u8) 5 w' w.heap.size (fun k_ => ((P0_0_ k_ ∨ P0_1_ k_) ∨ w.heap.size ≤ k_)) v2_ r3 ∧ Below w.heap.size w w' := by
  obtain ⟨_, hc0, hF0⟩ := V_F hs0_0
  obtain ⟨_, hc1, hF1⟩ := V_F hs0_1
  have key : Calls Try.prog 8 #[.agg #[.slice A0_0 l0_0.length c0_0, .slice A0_1 l0_1.length c0_1, .int .i64 a0_2, .int .i64 a0_3], .int .u64 a1, .int .i64 a2] w (LoadPost P0_0_ P0_1_ w r1 r2 r3 r4 r5 r6) := by
    unfold uart_Load.f at h
    split at h
    case isFalse => cases h
    case isTrue hh =>
    by_cases hr : a2 = 1 ∧ a1 < 8
    · rw [if_pos hr] at h
      by_cases h0 : a1 = 0
      · subst h0
        rw [if_pos rfl] at h
        by_cases hi : 0 < l0_0.length
        · rw [if_pos hi] at h
          injection h with h
          injection h with e1 h; injection h with e2 h; injection h with e3 h; injection h with e4 h; injection h with e5 e6
          subst e1; subst e2; subst e3; subst e4; subst e5; subst e6
          exact uart_Load.take _ _ _ _ _ _ _ _ _ _ _ _ _ rfl _ rfl hi hh.1 hF0 hc0 hF1 hc1 hr
        · rw [if_neg hi] at h
          injection h with h
          injection h with e1 h; injection h with e2 h; injection h with e3 h; injection h with e4 h; injection h with e5 e6
          subst e1; subst e2; subst e3; subst e4; subst e5; subst e6
          exact uart_Load.s0 _ _ _ _ _ _ _ _ _ _ _ _ (by omega) hr hF0 hc0 hF1 hc1
      · rw [if_neg h0] at h
        by_cases h1 : a1 = 1
        · subst h1
          rw [if_pos rfl] at h
          injection h with h
          injection h with e1 h; injection h with e2 h; injection h with e3 h; injection h with e4 h; injection h with e5 e6
          subst e1; subst e2; subst e3; subst e4; subst e5; subst e6
          exact uart_Load.s1 _ _ _ _ _ _ _ _ _ _ _ _ hr hF0 hc0 hF1 hc1
        · rw [if_neg h1] at h
          by_cases h5 : a1 = 5
          · subst h5
            rw [if_pos rfl] at h
            by_cases hi : 0 < l0_0.length
            · rw [if_pos hi] at h
              injection h with h
              injection h with e1 h; injection h with e2 h; injection h with e3 h; injection h with e4 h; injection h with e5 e6
              subst e1; subst e2; subst e3; subst e4; subst e5; subst e6
              exact uart_Load.s5y _ _ _ _ _ _ _ _ _ _ _ _ hi hr hF0 hc0 hF1 hc1
            · rw [if_neg hi] at h
              injection h with h
              injection h with e1 h; injection h with e2 h; injection h with e3 h; injection h with e4 h; injection h with e5 e6
              subst e1; subst e2; subst e3; subst e4; subst e5; subst e6
              exact uart_Load.s5n _ _ _ _ _ _ _ _ _ _ _ _ (by omega) hr hF0 hc0 hF1 hc1
          · rw [if_neg h5] at h
            injection h with h
            injection h with e1 h; injection h with e2 h; injection h with e3 h; injection h with e4 h; injection h with e5 e6
            subst e1; subst e2; subst e3; subst e4; subst e5; subst e6
            exact uart_Load.so _ _ _ _ _ _ _ _ _ _ _ _ _ (beq_eq_false_iff_ne.2 h0) (beq_eq_false_iff_ne.2 h1) (beq_eq_false_iff_ne.2 h5) hr hF0 hc0 hF1 hc1
    · rw [if_neg hr] at h
      injection h with h
      injection h with e1 h; injection h with e2 h; injection h with e3 h; injection h with e4 h; injection h with e5 e6
      subst e1; subst e2; subst e3; subst e4; subst e5; subst e6
      exact uart_Load.no _ _ _ _ _ _ _ _ _ _ _ _ _ hF0 hc0 hF1 hc1 hr
  refine key.mono ?_
  rintro e w' ⟨A, c, A2, c2, he, hc, hF, hc2, hF2, hB⟩
  exact ⟨_, _, he, ⟨A, c, rfl, hc, Kd.F_mono hF (fun j h => Or.elim h (fun h => .inl (.inl h)) .inr)⟩, ⟨A2, c2, rfl, hc2, Kd.F_mono hF2 (fun j h => Or.elim h (fun h => .inl (.inr h)) .inr)⟩, hB⟩
theorem uart_Store.calls (P0_0_ : Nat → Prop) (A0_0 : Option Addr) (c0_0 : Nat) (l0_0 : List Int) (P0_1_ : Nat → Prop) (A0_1 : Option Addr) (c0_1 : Nat) (l0_1 : List Int) (a0_2 : Int) (a0_3 : Int) (a1 : Int) (a2 : Int) (a3 : Int) (r1 : List Int) (r2 : List Int) (r3 : Int) (r4 : Int) (r5 : Bool) (w : World) (hs0_0 : Kd.V (Kd.int .u8) 5 w w.heap.size (fun k_ => P0_0_ k_) (.slice A0_0 l0_0.length c0_0) l0_0) (hs0_1 : Kd.V (Kd.int .u8) 5 w w.heap.size (fun k_ => P0_1_ k_) (.slice A0_1 l0_1.length c0_1) l0_1) (h : uart_Store.f l0_0 l0_1 a0_2 a0_3 a1 a2 a3 = some (r1, r2, r3, r4, r5)) :
    Calls Try.prog 10 #[.agg #[.slice A0_0 l0_0.length c0_0, .slice A0_1 l0_1.length c0_1, .int .i64 a0_2, .int .i64 a0_3], .int .u64 a1, .int .i64 a2, .int .u64 a3] w fun e w' => ∃ v0_ v1_ : Value, e = .returned (.tuple #[.agg #[v0_, v1_, .int .i64 r3, .int .i64 r4], .bool r5]) ∧ Kd.V (Kd.int .u8) 5 w' w.heap.size (fun k_ => ((P0_0_ k_ ∨ P0_1_ k_) ∨ w.heap.size ≤ k_)) v0_ r1 ∧ Kd.V (Kd.int .u8) 5 w' w.heap.size (fun k_ => ((P0_0_ k_ ∨ P0_1_ k_) ∨ w.heap.size ≤ k_)) v1_ r2 ∧ Below w.heap.size w w' := by
  obtain ⟨_, hc0, hF0⟩ := V_F hs0_0
  obtain ⟨_, hc1, hF1⟩ := V_F hs0_1
  have key : Calls Try.prog 10 #[.agg #[.slice A0_0 l0_0.length c0_0, .slice A0_1 l0_1.length c0_1, .int .i64 a0_2, .int .i64 a0_3], .int .u64 a1, .int .i64 a2, .int .u64 a3] w (StorePost P0_0_ P0_1_ w r1 r2 r3 r4 r5) := by
    unfold uart_Store.f at h
    split at h
    case isFalse => cases h
    case isTrue hh =>
    by_cases hr : a2 = 1 ∧ a1 < 8
    · rw [if_pos hr] at h
      by_cases h0 : a1 = 0
      · subst h0
        by_cases hi : l0_1.length < 4096
        · rw [if_pos ⟨rfl, hi⟩] at h
          injection h with h
          injection h with e1 h; injection h with e2 h; injection h with e3 h; injection h with e4 e5
          subst e1; subst e2; subst e3; subst e4; subst e5
          exact uart_Store.put _ _ _ _ _ _ _ _ _ _ _ _ _ _ rfl hi hF0 hc0 hF1 hc1 hr
        · rw [if_neg (fun h => hi h.2), if_neg (by decide)] at h
          injection h with h
          injection h with e1 h; injection h with e2 h; injection h with e3 h; injection h with e4 e5
          subst e1; subst e2; subst e3; subst e4; subst e5
          exact uart_Store.s0 _ _ _ _ _ _ _ _ _ _ _ _ _ (by omega) hr hF0 hc0 hF1 hc1
      · rw [if_neg (fun h => h0 h.1)] at h
        by_cases h1 : a1 = 1
        · subst h1
          rw [if_pos rfl] at h
          injection h with h
          injection h with e1 h; injection h with e2 h; injection h with e3 h; injection h with e4 e5
          subst e1; subst e2; subst e3; subst e4; subst e5
          exact uart_Store.s1 _ _ _ _ _ _ _ _ _ _ _ _ _ hr hF0 hc0 hF1 hc1
        · rw [if_neg h1] at h
          injection h with h
          injection h with e1 h; injection h with e2 h; injection h with e3 h; injection h with e4 e5
          subst e1; subst e2; subst e3; subst e4; subst e5
          exact uart_Store.so _ _ _ _ _ _ _ _ _ _ _ _ _ _ (beq_eq_false_iff_ne.2 h0) (beq_eq_false_iff_ne.2 h1) hr hF0 hc0 hF1 hc1
    · rw [if_neg hr] at h
      injection h with h
      injection h with e1 h; injection h with e2 h; injection h with e3 h; injection h with e4 e5
      subst e1; subst e2; subst e3; subst e4; subst e5
      exact uart_Store.no _ _ _ _ _ _ _ _ _ _ _ _ _ _ hF0 hc0 hF1 hc1 hr
  refine key.mono ?_
  rintro e w' ⟨A, c, A2, c2, he, hc, hF, hc2, hF2, hB⟩
  exact ⟨_, _, he, ⟨A, c, rfl, hc, Kd.F_mono hF (fun j h => Or.elim h (fun h => .inl (.inl h)) .inr)⟩, ⟨A2, c2, rfl, hc2, Kd.F_mono hF2 (fun j h => Or.elim h (fun h => .inl (.inr h)) .inr)⟩, hB⟩
end Go.Proofs.Ytpbfoocfjcimmaa.Q
