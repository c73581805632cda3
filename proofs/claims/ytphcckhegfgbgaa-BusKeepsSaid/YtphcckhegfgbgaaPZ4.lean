import Derived.Test.YtphcckhegfgbgaaPZ3
import Derived.Test.YtphcckhegfgbgaaPZ1
import Derived.ProofKit
import Derived.OpenShut
import Derived.Laws.CopyOwn
section
/- uart.Store, as those who call it have it. -/
namespace Go.Proofs.Ytphcckhegfgbgaa.Q
open Go.RowKit Go.Proofs.YtphcckhegfgbgaaW.PrintWords Go.Proofs.YtphcckhegfgbgaaW.PrintLast Go.Proofs.YtphcckhegfgbgaaW.PrintMore Go.Proofs.Ytphcckhegfgbgaa.L
attribute [local go_sem] Instr.field part asAgg lt_step max2_int min2_int max_two min_two max_three min_three max_four min_four lt_0_1 lt_0_2 lt_1_2 lt_0_3 lt_1_3 lt_2_3 lt_0_4 lt_1_4 lt_2_4 lt_3_4 lt_0_5 lt_1_5 lt_2_5 lt_3_5 lt_4_5 lt_0_6 lt_1_6 lt_2_6 lt_3_6 lt_4_6 lt_5_6 lt_0_7 lt_1_7 lt_2_7 lt_3_7 lt_4_7 lt_5_7 lt_6_7 lt_0_8 lt_1_8 lt_2_8 lt_3_8 lt_4_8 lt_5_8 lt_6_8 lt_7_8
set_option linter.unusedVariables false
set_option linter.unusedSimpArgs false
def uart_Store.f (i o : List Int) (ie lost off size x : Int) : Option (List Int × List Int × Int × Int × Bool) :=
  if u64B off then
    (if size = 1 ∧ off < 8 then
      (if off = 0 ∧ o.length < 4096 then some (i, o ++ [x % 256], ie, lost, true)
       else if off = 1 then some (i, o, wrap64 (Go.bits .and .u64 x 3), lost, true)
       else some (i, o, ie, lost, true))
     else some (i, o, ie, lost, false))
  else none
def StorePost (P Q : Nat → Prop) (w : World) (r1 r2 : List Int) (r3 r4 : Int) (r5 : Bool) (e : Ending) (w' : World) : Prop :=
  ∃ A c A2 c2, e = .returned (.tuple #[.agg #[.slice A r1.length c, .slice A2 r2.length c2, .int .i64 r3, .int .i64 r4], .bool r5]) ∧ r1.length ≤ c ∧ Kd.F (Kd.int .u8) w' (fun j => P j ∨ w.heap.size ≤ j) A r1.length r1 ∧ r2.length ≤ c2 ∧ Kd.F (Kd.int .u8) w' (fun j => Q j ∨ w.heap.size ≤ j) A2 r2.length r2 ∧ Below w.heap.size w w'
section
variable (A0 : Option Addr) (c0 : Nat) (i : List Int) (A1 : Option Addr) (c1 : Nat) (o : List Int) (ie lost off size x : Int) (w : World) (P Q : Nat → Prop)
set_option maxHeartbeats 1600000 in
set_option maxRecDepth 100000 in
theorem uart_Store.no (hF0 : Kd.F (Kd.int .u8) w P A0 i.length i) (hc0 : i.length ≤ c0) (hF1 : Kd.F (Kd.int .u8) w Q A1 o.length o) (hc1 : o.length ≤ c1) (hr : ¬ (size = 1 ∧ off < 8)) :
    Calls Try.prog 18 #[.agg #[.slice A0 i.length c0, .slice A1 o.length c1, .int .i64 ie, .int .i64 lost], .int .u64 off, .int .i64 size, .int .u64 x] w (StorePost P Q w i o ie lost false) := by
  have HB := Aside0.mk (Below.refl w.heap.size w)
  have HR0 := Aside0.mk hF0
  have HR1 := Aside0.mk hF1
  have HC0 := Aside0.mk hc0
  have HC1 := Aside0.mk hc1
  have HA := Aside0.mk (reaches_no hr)
  have hu := Try.underlying32
  clear hr hF0 hF1 hc0 hc1
  go_enter Try.func18, Try.ntmps18
  go_wp2_with fail
  (go_at_call 48; (with_reducible refine (dr (uart_reaches.calls _ _ false _ HA.out)).mono ?_); rintro e_ w1 ⟨rfl, hb_⟩; have HB_ : Aside0 (Below w.heap.size w w1) := Aside0.mk (below_step (by repeat (first | (with_reducible first | exact HB.out | exact Below.refl _ _ | apply below_alloc | apply pw_below_drewN | apply below_drew | refine below_set ?_ (by omega)) | exact HB.out)) hb_); have hzw1 := hb_.size; (try simp at hzw1); have oa_ := Aside0.mk (box_below hb_ (by repeat (with_reducible first | exact nb_1 w _ | apply ext_drew | apply ext_drewN | apply ext_alloc | refine blk_far ?_ (by show _ ≠ _; dsimp only; omega) _))); have ob_ := Aside0.mk (box_below hb_ (by repeat (with_reducible first | exact nb_2 w _ _ | apply ext_drew | apply ext_drewN | apply ext_alloc | refine blk_far ?_ (by show _ ≠ _; dsimp only; omega) _))); (try clear oa oac oaf oal); have oa := oa_; clear oa_; obtain ⟨oac, oaf, oal⟩ := cells_of oa.out; (try clear ob obc obf obl); have ob := ob_; clear ob_; obtain ⟨obc, obf, obl⟩ := cells_of ob.out; clear HB hb_; have HB := HB_; clear HB_)
  (go_wp2; (first | go_region | skip); (all_goals go_wp2))
  all_goals refine bodyPost_ret (v := .tuple #[.agg #[.slice A0 i.length c0, .slice A1 o.length c1, .int .i64 ie, .int .i64 lost], .bool false]) (by simp [results, Try.results18, go_sem, oac, obc] <;> first | assumption | omega | (symm; assumption)) rfl ?_
  all_goals exact ⟨A0, c0, A1, c1, rfl, HC0.out, F_w HR0.out (by repeat (first | (with_reducible first | exact HB.out | exact Below.refl _ _ | apply below_alloc | apply pw_below_drewN | apply below_drew | refine below_set ?_ (by omega)) | exact HB.out)) (fun _ h => .inl h), HC1.out, F_w HR1.out (by repeat (first | (with_reducible first | exact HB.out | exact Below.refl _ _ | apply below_alloc | apply pw_below_drewN | apply below_drew | refine below_set ?_ (by omega)) | exact HB.out)) (fun _ h => .inl h), (by repeat (first | (with_reducible first | exact HB.out | exact Below.refl _ _ | apply below_alloc | apply pw_below_drewN | apply below_drew | refine below_set ?_ (by omega)) | exact HB.out))⟩
set_option maxHeartbeats 1600000 in
set_option maxRecDepth 100000 in
theorem uart_Store.put (n : Nat) (hn : o.length = n) (hl : n < 4096) (hF0 : Kd.F (Kd.int .u8) w P A0 i.length i) (hc0 : i.length ≤ c0) (hF1 : Kd.F (Kd.int .u8) w Q A1 n o) (hc1 : n ≤ c1) (hr : size = 1 ∧ (0 : Int) < 8) :
    Calls Try.prog 18 #[.agg #[.slice A0 i.length c0, .slice A1 n c1, .int .i64 ie, .int .i64 lost], .int .u64 0, .int .i64 size, .int .u64 x] w (StorePost P Q w i (o ++ [x % 256]) ie lost true) := by
  have HB := Aside0.mk (Below.refl w.heap.size w)
  have HR0 := Aside0.mk (Kd.F_bound hF0)
  have HR1 := Aside0.mk (Kd.F_bound hF1)
  have HC0 := Aside0.mk hc0
  have HC1 := Aside0.mk hc1
  have HA := Aside0.mk (reaches_yes hr)
  have hu := Try.underlying32
  have hs : (decide ((n : Int) < 4096)) = true := decide_eq_true (by omega)
  have hs2 : (decide (n < 4096)) = true := decide_eq_true (by omega)
  have HL := Aside0.mk hl
  have HN := Aside0.mk hn
  clear hr hF0 hF1 hc0 hc1 hl hn
  go_enter Try.func18, Try.ntmps18
  go_wp2_with fail
  (go_at_call 48; (with_reducible refine (dr (uart_reaches.calls _ _ true _ HA.out)).mono ?_); rintro e_ w1 ⟨rfl, hb_⟩; have HB_ : Aside0 (Below w.heap.size w w1) := Aside0.mk (below_step (by repeat (first | (with_reducible first | exact HB.out | exact Below.refl _ _ | apply below_alloc | apply pw_below_drewN | apply below_drew | refine below_set ?_ (by omega)) | exact HB.out)) hb_); have hzw1 := hb_.size; (try simp at hzw1); have oa_ := Aside0.mk (box_below hb_ (by repeat (with_reducible first | exact nb_1 w _ | apply ext_drew | apply ext_drewN | apply ext_alloc | refine blk_far ?_ (by show _ ≠ _; dsimp only; omega) _))); have ob_ := Aside0.mk (box_below hb_ (by repeat (with_reducible first | exact nb_2 w _ _ | apply ext_drew | apply ext_drewN | apply ext_alloc | refine blk_far ?_ (by show _ ≠ _; dsimp only; omega) _))); (try clear oa oac oaf oal); have oa := oa_; clear oa_; obtain ⟨oac, oaf, oal⟩ := cells_of oa.out; (try clear ob obc obf obl); have ob := ob_; clear ob_; obtain ⟨obc, obf, obl⟩ := cells_of ob.out; clear HB hb_; have HB := HB_; clear HB_)
  obtain ⟨i0, hi0, hz0, hsz0, hby0⟩ := info_parts infoB
  have hcut := cut3_hm (P := Try.prog) 22 5 Try.underlying22 hi0 A1 n c1 n n (Nat.le_refl _) HC1.out
  have HI0 := Aside0.mk hi0
  have HZ0 := Aside0.mk hz0
  have HS0 := Aside0.mk hsz0
  have HY0 := Aside0.mk hby0
  clear hi0 hsz0 hz0 hby0
  have HR0_ := Aside0.mk (Kd.F_below HR0.out HB.out)
  clear HR0; have HR0 := HR0_; clear HR0_
  go_wp2_with (at_builtin; refine wpList_append_grows _ rfl (.tmp 32) (.tmp 35) 22 rfl 5 i0 (.int .u8 0) 1 1 Try.underlying22 HI0.out HZ0.out HS0.out HY0.out rfl (by decide) A1 n n (nums .u8 o) rfl (fun h => ⟨F_none HR1.out h, F_none HR1.out h⟩) ?q1 ?q2 ⟨w1.heap.size, 0, none⟩ 1 1 [.int .u8 (x % 256)] rfl rfl ?q3 ?q4 (by omega) ?q5 ?q6 ?_; (case q1 => exact (nums_length _ _).trans (HN.out.trans (Nat.mul_one _).symm)); (case q2 => exact F_cells (Kd.F_alloc (Kd.F_below HR1.out HB.out) _)); (case q3 => exact cell_one_new _ _ _); (case q4 => intro u hu; rw [List.mem_singleton.1 hu]; rfl); (case q5 => have := HL.out; unfold maxLen; omega); (case q6 => have := HL.out; omega); intro v' w2 hown hgrow; have hb_ := below_of_grown hgrow; have HB_ : Aside0 (Below w.heap.size w w2) := Aside0.mk (below_step (by repeat (first | (with_reducible first | exact HB.out | exact Below.refl _ _ | apply below_alloc | apply pw_below_drewN | apply below_drew | refine below_set ?_ (by omega)) | exact HB.out)) hb_); have hzw2 := hb_.size; (try simp at hzw2); have oa_ := Aside0.mk (box_below hb_ (by repeat (with_reducible first | exact oa.out | apply ext_drew | apply ext_drewN | apply ext_alloc | refine blk_far ?_ (by show _ ≠ _; dsimp only; omega) _))); have ob_ := Aside0.mk (box_below hb_ (by repeat (with_reducible first | exact ob.out | apply ext_drew | apply ext_drewN | apply ext_alloc | refine blk_far ?_ (by show _ ≠ _; dsimp only; omega) _))); have HR0_ := Aside0.mk (Kd.F_below (by (repeat (with_reducible first | exact HR0.out | apply Kd.F_drew | apply Kd.F_drewN | apply Kd.F_alloc | refine Kd.F_far ?_ ?_ _)); all_goals (intro j_ hj_; (try dsimp only at hj_); (try dsimp only); (try simp only [sz_alloc, sz_drew, sz_drewN, sz_set] at hj_); omega)) hb_); clear HR0; have HR0 := HR0_; clear HR0_; (try clear oa oac oaf oal); have oa := oa_; clear oa_; obtain ⟨oac, oaf, oal⟩ := cells_of oa.out; (try clear ob obc obf obl); have ob := ob_; clear ob_; obtain ⟨obc, obf, obl⟩ := cells_of ob.out; clear HB hb_; have HB := HB_; clear HB_; obtain ⟨A_q, c_q, ev_, hc_q, hf_q⟩ := own_F (k := .u8) (xs := o ++ [x % 256]) (by rw [nums_append]; exact hown); subst ev_; have qc := Aside0.mk hc_q; have q := Aside0.mk hf_q; clear hc_q hf_q hown hgrow)
  have hlen : (o ++ [x % 256]).length = n + 1 := by rw [List.length_append, HN.out]; rfl
  refine bodyPost_ret (v := .tuple #[.agg #[.slice A0 i.length c0, .slice A_q (n + 1) c_q, .int .i64 ie, .int .i64 lost], .bool true]) (by simp [results, Try.results18, go_sem, oac, obc] <;> first | assumption | omega | (symm; assumption)) rfl ?_
  exact ⟨A0, c0, A_q, c_q, by rw [hlen], HC0.out, (by refine F_res (ok := ?_) ?_ ?_; rotate_left; (repeat (with_reducible first | exact HR0.out | apply Kd.F_drew | apply Kd.F_drewN | apply Kd.F_alloc | refine Kd.F_far ?_ ?_ _)); all_goals (intro j_ hj_; (try dsimp only at hj_); (try dsimp only); (try simp only [sz_alloc, sz_drew, sz_drewN, sz_set] at hj_); first | omega | exact .inl hj_.1 | exact .inl hj_ | exact .inr (by omega) | (rcases hj_ with hj_ | hj_; exact .inl hj_.1; exact .inr (by omega)) | (rcases hj_ with hj_ | hj_; exact .inl hj_; exact .inr (by omega)) | (rcases hj_.1 with hk_ | hk_; (first | exact .inl hk_.1 | exact .inl hk_); exact .inr (by omega)))), by rw [hlen]; exact qc.out, by rw [hlen]; exact (by refine F_res (ok := ?_) ?_ ?_; rotate_left; (repeat (with_reducible first | exact q.out | apply Kd.F_drew | apply Kd.F_drewN | apply Kd.F_alloc | refine Kd.F_far ?_ ?_ _)); all_goals (intro j_ hj_; (try dsimp only at hj_); (try dsimp only); (try simp only [sz_alloc, sz_drew, sz_drewN, sz_set] at hj_); first | omega | exact .inl hj_.1 | exact .inl hj_ | exact .inr (by omega) | (rcases hj_ with hj_ | hj_; exact .inl hj_.1; exact .inr (by omega)) | (rcases hj_ with hj_ | hj_; exact .inl hj_; exact .inr (by omega)) | (rcases hj_.1 with hk_ | hk_; (first | exact .inl hk_.1 | exact .inl hk_); exact .inr (by omega)))), (by repeat (first | (with_reducible first | exact HB.out | exact Below.refl _ _ | apply below_alloc | apply pw_below_drewN | apply below_drew | refine below_set ?_ (by omega)) | exact HB.out))⟩
set_option maxHeartbeats 1600000 in
set_option maxRecDepth 100000 in
theorem uart_Store.s0 (hi : 4096 ≤ o.length) (hr : size = 1 ∧ (0 : Int) < 8) (hF0 : Kd.F (Kd.int .u8) w P A0 i.length i) (hc0 : i.length ≤ c0) (hF1 : Kd.F (Kd.int .u8) w Q A1 o.length o) (hc1 : o.length ≤ c1) :
    Calls Try.prog 18 #[.agg #[.slice A0 i.length c0, .slice A1 o.length c1, .int .i64 ie, .int .i64 lost], .int .u64 0, .int .i64 size, .int .u64 x] w (StorePost P Q w i o ie lost true) := by
  have HB := Aside0.mk (Below.refl w.heap.size w)
  have HR0 := Aside0.mk (Kd.F_bound hF0)
  have HR1 := Aside0.mk (Kd.F_bound hF1)
  have HC0 := Aside0.mk hc0
  have HC1 := Aside0.mk hc1
  have HA := Aside0.mk (reaches_yes hr)
  have hu := Try.underlying32
  have hs : (decide ((o.length : Int) < 4096)) = false := decide_eq_false (by omega)
  have hs2 : (decide (o.length < 4096)) = false := decide_eq_false (by omega)
  clear hi
  clear hr hF0 hF1 hc0 hc1
  go_enter Try.func18, Try.ntmps18
  go_wp2_with fail
  (go_at_call 48; (with_reducible refine (dr (uart_reaches.calls _ _ true _ HA.out)).mono ?_); rintro e_ w1 ⟨rfl, hb_⟩; have HB_ : Aside0 (Below w.heap.size w w1) := Aside0.mk (below_step (by repeat (first | (with_reducible first | exact HB.out | exact Below.refl _ _ | apply below_alloc | apply pw_below_drewN | apply below_drew | refine below_set ?_ (by omega)) | exact HB.out)) hb_); have hzw1 := hb_.size; (try simp at hzw1); have oa_ := Aside0.mk (box_below hb_ (by repeat (with_reducible first | exact nb_1 w _ | apply ext_drew | apply ext_drewN | apply ext_alloc | refine blk_far ?_ (by show _ ≠ _; dsimp only; omega) _))); have ob_ := Aside0.mk (box_below hb_ (by repeat (with_reducible first | exact nb_2 w _ _ | apply ext_drew | apply ext_drewN | apply ext_alloc | refine blk_far ?_ (by show _ ≠ _; dsimp only; omega) _))); (try clear oa oac oaf oal); have oa := oa_; clear oa_; obtain ⟨oac, oaf, oal⟩ := cells_of oa.out; (try clear ob obc obf obl); have ob := ob_; clear ob_; obtain ⟨obc, obf, obl⟩ := cells_of ob.out; clear HB hb_; have HB := HB_; clear HB_)
  (go_wp2; (first | go_region | skip); (all_goals go_wp2))
  all_goals refine bodyPost_ret (v := .tuple #[.agg #[.slice A0 i.length c0, .slice A1 o.length c1, .int .i64 ie, .int .i64 lost], .bool true]) (by simp [results, Try.results18, go_sem, oac, obc] <;> first | assumption | omega | (symm; assumption)) rfl ?_
  all_goals exact ⟨A0, c0, A1, c1, rfl, HC0.out, F_w HR0.out (by repeat (first | (with_reducible first | exact HB.out | exact Below.refl _ _ | apply below_alloc | apply pw_below_drewN | apply below_drew | refine below_set ?_ (by omega)) | exact HB.out)) (fun _ h => .inl h.1), HC1.out, F_w HR1.out (by repeat (first | (with_reducible first | exact HB.out | exact Below.refl _ _ | apply below_alloc | apply pw_below_drewN | apply below_drew | refine below_set ?_ (by omega)) | exact HB.out)) (fun _ h => .inl h.1), (by repeat (first | (with_reducible first | exact HB.out | exact Below.refl _ _ | apply below_alloc | apply pw_below_drewN | apply below_drew | refine below_set ?_ (by omega)) | exact HB.out))⟩
set_option maxHeartbeats 1600000 in
set_option maxRecDepth 100000 in
theorem uart_Store.s1 (hr : size = 1 ∧ (1 : Int) < 8) (hF0 : Kd.F (Kd.int .u8) w P A0 i.length i) (hc0 : i.length ≤ c0) (hF1 : Kd.F (Kd.int .u8) w Q A1 o.length o) (hc1 : o.length ≤ c1) :
    Calls Try.prog 18 #[.agg #[.slice A0 i.length c0, .slice A1 o.length c1, .int .i64 ie, .int .i64 lost], .int .u64 1, .int .i64 size, .int .u64 x] w (StorePost P Q w i o (wrap64 (Go.bits .and .u64 x 3)) lost true) := by
  have HB := Aside0.mk (Below.refl w.heap.size w)
  have HR0 := Aside0.mk (Kd.F_bound hF0)
  have HR1 := Aside0.mk (Kd.F_bound hF1)
  have HC0 := Aside0.mk hc0
  have HC1 := Aside0.mk hc1
  have HA := Aside0.mk (reaches_yes hr)
  have hu := Try.underlying32
  clear hr hF0 hF1 hc0 hc1
  go_enter Try.func18, Try.ntmps18
  go_wp2_with fail
  (go_at_call 48; (with_reducible refine (dr (uart_reaches.calls _ _ true _ HA.out)).mono ?_); rintro e_ w1 ⟨rfl, hb_⟩; have HB_ : Aside0 (Below w.heap.size w w1) := Aside0.mk (below_step (by repeat (first | (with_reducible first | exact HB.out | exact Below.refl _ _ | apply below_alloc | apply pw_below_drewN | apply below_drew | refine below_set ?_ (by omega)) | exact HB.out)) hb_); have hzw1 := hb_.size; (try simp at hzw1); have oa_ := Aside0.mk (box_below hb_ (by repeat (with_reducible first | exact nb_1 w _ | apply ext_drew | apply ext_drewN | apply ext_alloc | refine blk_far ?_ (by show _ ≠ _; dsimp only; omega) _))); have ob_ := Aside0.mk (box_below hb_ (by repeat (with_reducible first | exact nb_2 w _ _ | apply ext_drew | apply ext_drewN | apply ext_alloc | refine blk_far ?_ (by show _ ≠ _; dsimp only; omega) _))); (try clear oa oac oaf oal); have oa := oa_; clear oa_; obtain ⟨oac, oaf, oal⟩ := cells_of oa.out; (try clear ob obc obf obl); have ob := ob_; clear ob_; obtain ⟨obc, obf, obl⟩ := cells_of ob.out; clear HB hb_; have HB := HB_; clear HB_)
  (go_wp2; (first | go_region | skip); (all_goals go_wp2))
  all_goals refine bodyPost_ret (v := .tuple #[.agg #[.slice A0 i.length c0, .slice A1 o.length c1, .int .i64 (wrap64 (Go.bits .and .u64 x 3)), .int .i64 lost], .bool true]) (by simp [results, Try.results18, go_sem, oac, obc] <;> first | assumption | omega | (symm; assumption)) rfl ?_
  all_goals exact ⟨A0, c0, A1, c1, rfl, HC0.out, F_w HR0.out (by repeat (first | (with_reducible first | exact HB.out | exact Below.refl _ _ | apply below_alloc | apply pw_below_drewN | apply below_drew | refine below_set ?_ (by omega)) | exact HB.out)) (fun _ h => .inl h.1), HC1.out, F_w HR1.out (by repeat (first | (with_reducible first | exact HB.out | exact Below.refl _ _ | apply below_alloc | apply pw_below_drewN | apply below_drew | refine below_set ?_ (by omega)) | exact HB.out)) (fun _ h => .inl h.1), (by repeat (first | (with_reducible first | exact HB.out | exact Below.refl _ _ | apply below_alloc | apply pw_below_drewN | apply below_drew | refine below_set ?_ (by omega)) | exact HB.out))⟩
set_option maxHeartbeats 1600000 in
set_option maxRecDepth 100000 in
theorem uart_Store.so (h0 : (off == 0) = false) (h1 : (off == 1) = false) (hr : size = 1 ∧ off < 8) (hF0 : Kd.F (Kd.int .u8) w P A0 i.length i) (hc0 : i.length ≤ c0) (hF1 : Kd.F (Kd.int .u8) w Q A1 o.length o) (hc1 : o.length ≤ c1) :
    Calls Try.prog 18 #[.agg #[.slice A0 i.length c0, .slice A1 o.length c1, .int .i64 ie, .int .i64 lost], .int .u64 off, .int .i64 size, .int .u64 x] w (StorePost P Q w i o ie lost true) := by
  have HB := Aside0.mk (Below.refl w.heap.size w)
  have HR0 := Aside0.mk (Kd.F_bound hF0)
  have HR1 := Aside0.mk (Kd.F_bound hF1)
  have HC0 := Aside0.mk hc0
  have HC1 := Aside0.mk hc1
  have HA := Aside0.mk (reaches_yes hr)
  have hu := Try.underlying32
  clear hr hF0 hF1 hc0 hc1
  go_enter Try.func18, Try.ntmps18
  go_wp2_with fail
  (go_at_call 48; (with_reducible refine (dr (uart_reaches.calls _ _ true _ HA.out)).mono ?_); rintro e_ w1 ⟨rfl, hb_⟩; have HB_ : Aside0 (Below w.heap.size w w1) := Aside0.mk (below_step (by repeat (first | (with_reducible first | exact HB.out | exact Below.refl _ _ | apply below_alloc | apply pw_below_drewN | apply below_drew | refine below_set ?_ (by omega)) | exact HB.out)) hb_); have hzw1 := hb_.size; (try simp at hzw1); have oa_ := Aside0.mk (box_below hb_ (by repeat (with_reducible first | exact nb_1 w _ | apply ext_drew | apply ext_drewN | apply ext_alloc | refine blk_far ?_ (by show _ ≠ _; dsimp only; omega) _))); have ob_ := Aside0.mk (box_below hb_ (by repeat (with_reducible first | exact nb_2 w _ _ | apply ext_drew | apply ext_drewN | apply ext_alloc | refine blk_far ?_ (by show _ ≠ _; dsimp only; omega) _))); (try clear oa oac oaf oal); have oa := oa_; clear oa_; obtain ⟨oac, oaf, oal⟩ := cells_of oa.out; (try clear ob obc obf obl); have ob := ob_; clear ob_; obtain ⟨obc, obf, obl⟩ := cells_of ob.out; clear HB hb_; have HB := HB_; clear HB_)
  (go_wp2; (first | go_region | skip); (all_goals go_wp2))
  all_goals refine bodyPost_ret (v := .tuple #[.agg #[.slice A0 i.length c0, .slice A1 o.length c1, .int .i64 ie, .int .i64 lost], .bool true]) (by simp [results, Try.results18, go_sem, oac, obc] <;> first | assumption | omega | (symm; assumption)) rfl ?_
  all_goals exact ⟨A0, c0, A1, c1, rfl, HC0.out, F_w HR0.out (by repeat (first | (with_reducible first | exact HB.out | exact Below.refl _ _ | apply below_alloc | apply pw_below_drewN | apply below_drew | refine below_set ?_ (by omega)) | exact HB.out)) (fun _ h => .inl h.1), HC1.out, F_w HR1.out (by repeat (first | (with_reducible first | exact HB.out | exact Below.refl _ _ | apply below_alloc | apply pw_below_drewN | apply below_drew | refine below_set ?_ (by omega)) | exact HB.out)) (fun _ h => .inl h.1), (by repeat (first | (with_reducible first | exact HB.out | exact Below.refl _ _ | apply below_alloc | apply pw_below_drewN | apply below_drew | refine below_set ?_ (by omega)) | exact HB.out))⟩
end
theorem uart_Load.calls (P0_0_ : Nat → Prop) (A0_0 : Option Addr) (c0_0 : Nat) (l0_0 : List Int) (P0_1_ : Nat → Prop) (A0_1 : Option Addr) (c0_1 : Nat) (l0_1 : List Int) (a0_2 : Int) (a0_3 : Int) (a1 : Int) (a2 : Int) (r1 : Int) (r2 : List Int) (r3 : List Int) (r4 : Int) (r5 : Int) (r6 : Bool) (w : World) (hs0_0 : Kd.V (Kd.int .u8) 5 w w.heap.size (fun k_ => P0_0_ k_) (.slice A0_0 l0_0.length c0_0) l0_0) (hs0_1 : Kd.V (Kd.int .u8) 5 w w.heap.size (fun k_ => P0_1_ k_) (.slice A0_1 l0_1.length c0_1) l0_1) (h : uart_Load.f l0_0 l0_1 a0_2 a0_3 a1 a2 = some (r1, r2, r3, r4, r5, r6)) :
    Calls Try.prog 23 #[.agg #[.slice A0_0 l0_0.length c0_0, .slice A0_1 l0_1.length c0_1, .int .i64 a0_2, .int .i64 a0_3], .int .u64 a1, .int .i64 a2] w fun e w' => ∃ v1_ v2_ : Value, e = .returned (.tuple #[.int .u64 r1, .agg #[v1_, v2_, .int .i64 r4, .int .i64 r5], .bool r6]) ∧ Kd.V (Kd.int .u8) 5 w' w.heap.size (fun k_ => ((P0_0_ k_ ∨ P0_1_ k_) ∨ w.heap.size ≤ k_)) v1_ r2 ∧ Kd.V (Kd.int .u8) 5 w' w.heap.size (fun k_ => ((P0_0_ k_ ∨ P0_1_ k_) ∨ w.heap.size ≤ k_)) v2_ r3 ∧ Below w.heap.size w w' := by
  obtain ⟨_, hc0, hF0⟩ := V_F hs0_0
  obtain ⟨_, hc1, hF1⟩ := V_F hs0_1
  have key : Calls Try.prog 23 #[.agg #[.slice A0_0 l0_0.length c0_0, .slice A0_1 l0_1.length c0_1, .int .i64 a0_2, .int .i64 a0_3], .int .u64 a1, .int .i64 a2] w (LoadPost P0_0_ P0_1_ w r1 r2 r3 r4 r5 r6) := by
    unfold uart_Load.f at h
    split at h
    case isFalse => cases h
    case isTrue hh =>
    by_cases hr : a2 = 1 ∧ a1 < 8
    · rw [if_pos hr] at h
      by_cases h0 : a1 = 0
      · subst h0
        rw [if_pos rfl] at h
        by_cases hi : 0 < l0_0.length
        · rw [if_pos hi] at h
          injection h with h
          injection h with e1 h; injection h with e2 h; injection h with e3 h; injection h with e4 h; injection h with e5 e6
          subst e1; subst e2; subst e3; subst e4; subst e5; subst e6
          exact uart_Load.take _ _ _ _ _ _ _ _ _ _ _ _ _ rfl _ rfl hi hh.1 hF0 hc0 hF1 hc1 hr
        · rw [if_neg hi] at h
          injection h with h
          injection h with e1 h; injection h with e2 h; injection h with e3 h; injection h with e4 h; injection h with e5 e6
          subst e1; subst e2; subst e3; subst e4; subst e5; subst e6
          exact uart_Load.s0 _ _ _ _ _ _ _ _ _ _ _ _ (by omega) hr hF0 hc0 hF1 hc1
      · rw [if_neg h0] at h
        by_cases h1 : a1 = 1
        · subst h1
          rw [if_pos rfl] at h
          injection h with h
          injection h with e1 h; injection h with e2 h; injection h with e3 h; injection h with e4 h; injection h with e5 e6
          subst e1; subst e2; subst e3; subst e4; subst e5; subst e6
          exact uart_Load.s1 _ _ _ _ _ _ _ _ _ _ _ _ hr hF0 hc0 hF1 hc1
        · rw [if_neg h1] at h
          by_cases h5 : a1 = 5
          · subst h5
            rw [if_pos rfl] at h
            by_cases hi : 0 < l0_0.length
            · rw [if_pos hi] at h
              injection h with h
              injection h with e1 h; injection h with e2 h; injection h with e3 h; injection h with e4 h; injection h with e5 e6
              subst e1; subst e2; subst e3; subst e4; subst e5; subst e6
              exact uart_Load.s5y _ _ _ _ _ _ _ _ _ _ _ _ hi hr hF0 hc0 hF1 hc1
            · rw [if_neg hi] at h
              injection h with h
              injection h with e1 h; injection h with e2 h; injection h with e3 h; injection h with e4 h; injection h with e5 e6
              subst e1; subst e2; subst e3; subst e4; subst e5; subst e6
              exact uart_Load.s5n _ _ _ _ _ _ _ _ _ _ _ _ (by omega) hr hF0 hc0 hF1 hc1
          · rw [if_neg h5] at h
            injection h with h
            injection h with e1 h; injection h with e2 h; injection h with e3 h; injection h with e4 h; injection h with e5 e6
            subst e1; subst e2; subst e3; subst e4; subst e5; subst e6
            exact uart_Load.so _ _ _ _ _ _ _ _ _ _ _ _ _ (beq_eq_false_iff_ne.2 h0) (beq_eq_false_iff_ne.2 h1) (beq_eq_false_iff_ne.2 h5) hr hF0 hc0 hF1 hc1
    · rw [if_neg hr] at h
      injection h with h
      injection h with e1 h; injection h with e2 h; injection h with e3 h; injection h with e4 h; injection h with e5 e6
      subst e1; subst e2; subst e3; subst e4; subst e5; subst e6
      exact uart_Load.no _ _ _ _ _ _ _ _ _ _ _ _ _ hF0 hc0 hF1 hc1 hr
  refine key.mono ?_
  rintro e w' ⟨A, c, A2, c2, he, hc, hF, hc2, hF2, hB⟩
  exact ⟨_, _, he, ⟨A, c, rfl, hc, Kd.F_mono hF (fun j h => Or.elim h (fun h => .inl (.inl h)) .inr)⟩, ⟨A2, c2, rfl, hc2, Kd.F_mono hF2 (fun j h => Or.elim h (fun h => .inl (.inr h)) .inr)⟩, hB⟩
theorem uart_Store.calls (P0_0_ : Nat → Prop) (A0_0 : Option Addr) (c0_0 : Nat) (l0_0 : List Int) (P0_1_ : Nat → Prop) (A0_1 : Option Addr) (c0_1 : Nat) (l0_1 : List Int) (a0_2 : Int) (a0_3 : Int) (a1 : Int) (a2 : Int) (a3 : Int) (r1 : List Int) (r2 : List Int) (r3 : Int) (r4 : Int) (r5 : Bool) (w : World) (hs0_0 : Kd.V (Kd.int .u8) 5 w w.heap.size (fun k_ => P0_0_ k_) (.slice A0_0 l0_0.length c0_0) l0_0) (hs0_1 : Kd.V (Kd.int .u8) 5 w w.heap.size (fun k_ => P0_1_ k_) (.slice A0_1 l0_1.length c0_1) l0_1) (h : uart_Store.f l0_0 l0_1 a0_2 a0_3 a1 a2 a3 = some (r1, r2, r3, r4, r5)) :
    Calls Try.prog 18 #[.agg #[.slice A0_0 l0_0.length c0_0, .slice A0_1 l0_1.length c0_1, .int .i64 a0_2, .int .i64 a0_3], .int .u64 a1, .int .i64 a2, .int .u64 a3] w fun e w' => ∃ v0_ v1_ : Value, e = .returned (.tuple #[.agg #[v0_, v1_, .int .i64 r3, .int .i64 r4], .bool r5]) ∧ Kd.V (Kd.int .u8) 5 w' w.heap.size (fun k_ => ((P0_0_ k_ ∨ P0_1_ k_) ∨ w.heap.size ≤ k_)) v0_ r1 ∧ Kd.V (Kd.int .u8) 5 w' w.heap.size (fun k_ => ((P0_0_ k_ ∨ P0_1_ k_) ∨ w.heap.size ≤ k_)) v1_ r2 ∧ Below w.heap.size w w' := by
  obtain ⟨_, hc0, hF0⟩ := V_F hs0_0
  obtain ⟨_, hc1, hF1⟩ := V_F hs0_1
  have key : Calls Try.prog 18 #[.agg #[.slice A0_0 l0_0.length c0_0, .slice A0_1 l0_1.length c0_1, .int .i64 a0_2, .int .i64 a0_3], .int .u64 a1, .int .i64 a2, .int .u64 a3] w (StorePost P0_0_ P0_1_ w r1 r2 r3 r4 r5) := by
    unfold uart_Store.f at h
    split at h
    case isFalse => cases h
    case isTrue hh =>
    by_cases hr : a2 = 1 ∧ a1 < 8
    · rw [if_pos hr] at h
      by_cases h0 : a1 = 0
      · subst h0
        by_cases hi : l0_1.length < 4096
        · rw [if_pos ⟨rfl, hi⟩] at h
          injection h with h
          injection h with e1 h; injection h with e2 h; injection h with e3 h; injection h with e4 e5
          subst e1; subst e2; subst e3; subst e4; subst e5
          exact uart_Store.put _ _ _ _ _ _ _ _ _ _ _ _ _ _ rfl hi hF0 hc0 hF1 hc1 hr
        · rw [if_neg (fun h => hi h.2), if_neg (by decide)] at h
          injection h with h
          injection h with e1 h; injection h with e2 h; injection h with e3 h; injection h with e4 e5
          subst e1; subst e2; subst e3; subst e4; subst e5
          exact uart_Store.s0 _ _ _ _ _ _ _ _ _ _ _ _ _ (by omega) hr hF0 hc0 hF1 hc1
      · rw [if_neg (fun h => h0 h.1)] at h
        by_cases h1 : a1 = 1
        · subst h1
          rw [if_pos rfl] at h
          injection h with h
          injection h with e1 h; injection h with e2 h; injection h with e3 h; injection h with e4 e5
          subst e1; subst e2; subst e3; subst e4; subst e5
          exact uart_Store.s1 _ _ _ _ _ _ _ _ _ _ _ _ _ hr hF0 hc0 hF1 hc1
        · rw [if_neg h1] at h
          injection h with h
          injection h with e1 h; injection h with e2 h; injection h with e3 h; injection h with e4 e5
          subst e1; subst e2; subst e3; subst e4; subst e5
          exact uart_Store.so _ _ _ _ _ _ _ _ _ _ _ _ _ _ (beq_eq_false_iff_ne.2 h0) (beq_eq_false_iff_ne.2 h1) hr hF0 hc0 hF1 hc1
    · rw [if_neg hr] at h
      injection h with h
      injection h with e1 h; injection h with e2 h; injection h with e3 h; injection h with e4 e5
      subst e1; subst e2; subst e3; subst e4; subst e5
      exact uart_Store.no _ _ _ _ _ _ _ _ _ _ _ _ _ _ hF0 hc0 hF1 hc1 hr
  refine key.mono ?_
  rintro e w' ⟨A, c, A2, c2, he, hc, hF, hc2, hF2, hB⟩
  exact ⟨_, _, he, ⟨A, c, rfl, hc, Kd.F_mono hF (fun j h => Or.elim h (fun h => .inl (.inl h)) .inr)⟩, ⟨A2, c2, rfl, hc2, Kd.F_mono hF2 (fun j h => Or.elim h (fun h => .inl (.inr h)) .inr)⟩, hB⟩
end Go.Proofs.Ytphcckhegfgbgaa.Q
end
section
-- Ytphcckhegfgbgaa: written by a program for this claim (several laws of one seat at once)
namespace Go.Proofs.Ytphcckhegfgbgaa.Q
open Go.RowKit Go.Proofs.YtphcckhegfgbgaaW.PrintWords Go.Proofs.YtphcckhegfgbgaaW.PrintLast Go.Proofs.YtphcckhegfgbgaaW.PrintMore
attribute [local go_sem] max2_int min2_int max_two min_two max_three min_three max_four min_four   -- for this text's walks alone
set_option linter.unusedVariables false
set_option linter.unusedSimpArgs false

def ram_place.j0 : Nat → Int → Int → Bool → List Int → Option (Int × Bool)
  | 0, _, _, _, _ => none
  | k + 1, x1, x2, x14, x111000 => if x14 = true then (some (0, false)) else (if (IntKind.u64.wrap (x1 - 2147483648)) > (IntKind.u64.wrap ((x111000.length : Int))) then (some (0, false)) else (if x2 > (wrap64 ((x111000.length : Int) - (wrap64 (IntKind.u64.wrap (x1 - 2147483648))))) then (some (0, false)) else (some (wrap64 (IntKind.u64.wrap (x1 - 2147483648)), true))))
def ram_place.f (k : Nat) (l0_0 : List Int) (a1 : Int) (a2 : Int) : Option (Int × Bool) := if a1 < 2147483648 then (ram_place.j0 k a1 a2 true l0_0) else (ram_place.j0 k a1 a2 (decide (a2 < 0)) l0_0)
theorem ram_place.mono_l : ∀ k, (∀ y0 y1 y2 y3, LeO (ram_place.j0 k y0 y1 y2 y3) (ram_place.j0 (k + 1) y0 y1 y2 y3))
  | 0 => fun _ _ _ _ r h => by simp [ram_place.j0] at h
  | k + 1 => by
    have ih0 := ram_place.mono_l k
    · intro y0 y1 y2 y3
      unfold ram_place.j0
      repeat' first
      | (with_reducible exact ih0 _ _ _ _)
      | (with_reducible exact LeO.refl _)
      | (with_reducible exact LeO.none _)
      | (with_reducible refine LeO.ite ?_ ?_)
      | (with_reducible refine LeO.bind ?_ (fun _ => ?_))
      | exact ih0 _ _ _ _
      | exact LeO.none _
      | refine LeO.ite ?_ ?_
      | refine LeO.bind ?_ (fun _ => ?_)
theorem ram_place.mono : ∀ a0 a1 a2 k, LeO (ram_place.f k a0 a1 a2) (ram_place.f (k + 1) a0 a1 a2) := by
  intro a0 a1 a2 k
  have ih0 := ram_place.mono_l k
  unfold ram_place.f
  repeat' first
      | (with_reducible exact ih0 _ _ _ _)
      | (with_reducible exact LeO.refl _)
      | (with_reducible exact LeO.none _)
      | (with_reducible refine LeO.ite ?_ ?_)
      | (with_reducible refine LeO.bind ?_ (fun _ => ?_))
      | exact ih0 _ _ _ _
      | exact LeO.none _
      | refine LeO.ite ?_ ?_
      | refine LeO.bind ?_ (fun _ => ?_)
set_option maxHeartbeats 8000000 in
set_option maxRecDepth 100000 in
theorem ram_place.calls (k : Nat) (A0_0 : Option Addr) (c0_0 : Nat) (l0_0 : List Int) (a1 : Int) (a2 : Int) (r1 : Int) (r2 : Bool) (w : World) (hr0_0 : Kd.C (Kd.int .u8) w A0_0 l0_0.length l0_0) (hc0_0 : l0_0.length ≤ c0_0) (h : ram_place.f k l0_0 a1 a2 = some (r1, r2)) :
    Calls Try.prog 56 #[.agg #[.slice A0_0 l0_0.length c0_0], .int .u64 a1, .int .i64 a2] w fun e w' => e = .returned (.tuple #[.int .i64 r1, .bool r2]) ∧ Below w.heap.size w w' := by
  have hu24 := Try.underlying24
  have HR0_0 := Aside0.mk hr0_0
  have HC0_0 := Aside0.mk hc0_0
  clear hr0_0 hc0_0
  have HB := Aside0.mk (Below.refl w.heap.size w)
  have H : (if a1 < 2147483648 then (ram_place.j0 k a1 a2 true l0_0) else (ram_place.j0 k a1 a2 (decide (a2 < 0)) l0_0)) = some (r1, r2) := h
  clear h
  have HC4 := Aside0.mk H
  clear H
  go_enter Try.func56, Try.ntmps56
  go_upto_region 1 with (first | ((with_reducible refine gate_dst (N := 3) rfl ?_); (try (refine gate_guard (by rfl) ?_; dsimp only)); refine box_event ?hg (N := 3) ?hd (cs := #[.slice A0_0 l0_0.length c0_0]) (t := 24) ?hr ?_; (case hd => rfl); (case hg => rfl); (case hr => first | (go_simp; done) | (go_simp; rfl)); intro gb110 hg w5 hbox hb; have n0_ := Aside0.mk (below_step (by repeat (first | (with_reducible first | exact HB.out | apply below_alloc | apply pw_below_drewN | apply below_drew1) | exact HB.out)) hb); have n1_ := Aside0.mk (hbox); have n2_ := Aside0.mk ((by rw [hg]; exact (below_size (by repeat (first | (with_reducible first | exact HB.out | apply below_alloc | apply pw_below_drewN | apply below_drew1) | exact HB.out))) : w.heap.size ≤ gb110)); have n3_ := Aside0.mk ((by rw [hg]; exact (below_size (by repeat (first | (with_reducible first | exact HB.out | apply below_alloc | apply pw_below_drewN | apply below_drew1) | exact HB.out))) : w.heap.size ≤ gb110)); clear HB; have HB := n0_; have BK110 := n1_; have GW110 := n2_; have GE110 := n3_; clear n0_ n1_ n2_ n3_; clear hb hbox hg))
  (try simp only [Act.put, List.setIfInBounds_toArray, List.set_cons_zero, List.set_cons_succ])
  go_cut [14] (fun v14 wc => ∃ (kq : Nat) (x14_3 : Bool), v14 = .bool x14_3 ∧ Aside0 (ram_place.j0 kq a1 a2 x14_3 l0_0 = some (r1, r2)) ∧ Aside0 (kq ≤ k) ∧ Aside0 (wc.heap[gb110]? = some (.cells #[(.slice A0_0 l0_0.length c0_0)] 24 (0, 0))) ∧ Aside0 (Below w.heap.size w wc))
  case first =>
    have H := HC4.out
    clear HC4
    by_cases c6 : a1 < 2147483648
    · rw [if_pos c6] at H
      have c6b0 : decide (a1 < 2147483648) = true := decide_eq_true c6
      clear c6
      (first | rw [c6b0] | (simp only [i64_w, i32_w]; rw [c6b0]) | skip)
      have H' := Aside0.mk H
      clear H
      go_wp2
      go_meet
      case rel => exact ⟨_, (true), (by first | rfl | (simp; done) | (simp [*]; done)), H', ⟨by first | omega | exact Nat.le_refl _⟩, ⟨by (with_reducible repeat (first | refine blk_drewN ?_ _ | refine blk_drew ?_ | refine blk_alloc ?_ _)); exact BK110.out⟩, ⟨by repeat (first | (with_reducible first | exact HB.out | apply below_alloc | apply pw_below_drewN | apply below_drew1 | refine below_set ?_ GE110.out) | exact HB.out)⟩⟩
    · rw [if_neg c6] at H
      have c6b0 : decide (a1 < 2147483648) = false := decide_eq_false c6
      clear c6
      (first | rw [c6b0] | (simp only [i64_w, i32_w]; rw [c6b0]) | skip)
      have H' := Aside0.mk H
      clear H
      go_wp2
      go_meet
      case rel => exact ⟨_, (decide (a2 < 0)), (by first | rfl | (simp; done) | (simp [*]; done)), H', ⟨by first | omega | exact Nat.le_refl _⟩, ⟨by (with_reducible repeat (first | refine blk_drewN ?_ _ | refine blk_drew ?_ | refine blk_alloc ?_ _)); exact BK110.out⟩, ⟨by repeat (first | (with_reducible first | exact HB.out | apply below_alloc | apply pw_below_drewN | apply below_drew1 | refine below_set ?_ GE110.out) | exact HB.out)⟩⟩
  case rest =>
    clear HC4
    try clear p2
    try clear c5
    try clear c6
    try clear c6b0
    obtain ⟨kq, x14_3, rfl, HA, HJ3, BK110, HB⟩ := hcut
    cases kq with
    | zero => exact absurd HA.out (by simp [ram_place.j0])
    | succ kj3 =>
      have H := HA.out
      clear HA
      simp only [ram_place.j0] at H
      by_cases c7 : x14_3 = true
      · subst c7
        have H1 : (some (0, false)) = some (r1, r2) := by rw [if_pos rfl] at H; exact H
        clear H
        have H := H1
        clear H1
        simp only [Option.some.injEq, Prod.mk.injEq] at H
        obtain ⟨rfl, rfl⟩ := H
        go_wp2
        go_ret2
        exact ⟨by first | rfl | (simp [errW_none, errW_some] <;> rfl) | (simp [*, errW_none, errW_some] <;> rfl), by repeat (first | (with_reducible first | exact HB.out | apply below_alloc | apply pw_below_drewN | apply below_drew1 | refine below_set ?_ GE110.out) | exact HB.out)⟩
      · replace c7 := Bool.eq_false_iff.mpr c7
        subst c7
        have H1 : (if (IntKind.u64.wrap (a1 - 2147483648)) > (IntKind.u64.wrap ((l0_0.length : Int))) then (some (0, false)) else (if a2 > (wrap64 ((l0_0.length : Int) - (wrap64 (IntKind.u64.wrap (a1 - 2147483648))))) then (some (0, false)) else (some (wrap64 (IntKind.u64.wrap (a1 - 2147483648)), true)))) = some (r1, r2) := by rw [if_neg (show ¬ (false = true) by decide)] at H; exact H
        clear H
        have H := H1
        clear H1
        by_cases c8 : (IntKind.u64.wrap (a1 - 2147483648)) > (IntKind.u64.wrap ((l0_0.length : Int)))
        · rw [if_pos c8] at H
          have c8b0 : decide ((IntKind.u64.wrap ((l0_0.length : Int))) < (IntKind.u64.wrap (a1 - 2147483648))) = true := decide_eq_true c8
          clear c8
          simp only [Option.some.injEq, Prod.mk.injEq] at H
          obtain ⟨rfl, rfl⟩ := H
          have hcz9_0 : wc.cell? ⟨gb110, 0, none⟩ = some (.slice A0_0 l0_0.length c0_0) := (blk_cell BK110.out 0).trans rfl
          have hfz9_0 := blk_frozen BK110.out 0
          go_wp2
          go_ret2
          exact ⟨by first | rfl | (simp [errW_none, errW_some] <;> rfl) | (simp [*, errW_none, errW_some] <;> rfl), by repeat (first | (with_reducible first | exact HB.out | apply below_alloc | apply pw_below_drewN | apply below_drew1 | refine below_set ?_ GE110.out) | exact HB.out)⟩
        · rw [if_neg c8] at H
          have c8b0 : decide ((IntKind.u64.wrap ((l0_0.length : Int))) < (IntKind.u64.wrap (a1 - 2147483648))) = false := decide_eq_false c8
          clear c8
          by_cases c10 : a2 > (wrap64 ((l0_0.length : Int) - (wrap64 (IntKind.u64.wrap (a1 - 2147483648)))))
          · rw [if_pos c10] at H
            have c10b0 : decide ((wrap64 ((l0_0.length : Int) - (wrap64 (IntKind.u64.wrap (a1 - 2147483648))))) < a2) = true := decide_eq_true c10
            clear c10
            simp only [Option.some.injEq, Prod.mk.injEq] at H
            obtain ⟨rfl, rfl⟩ := H
            have hcz11_0 : wc.cell? ⟨gb110, 0, none⟩ = some (.slice A0_0 l0_0.length c0_0) := (blk_cell BK110.out 0).trans rfl
            have hfz11_0 := blk_frozen BK110.out 0
            go_wp2
            go_ret2
            exact ⟨by first | rfl | (simp [errW_none, errW_some] <;> rfl) | (simp [*, errW_none, errW_some] <;> rfl), by repeat (first | (with_reducible first | exact HB.out | apply below_alloc | apply pw_below_drewN | apply below_drew1 | refine below_set ?_ GE110.out) | exact HB.out)⟩
          · rw [if_neg c10] at H
            have c10b0 : decide ((wrap64 ((l0_0.length : Int) - (wrap64 (IntKind.u64.wrap (a1 - 2147483648))))) < a2) = false := decide_eq_false c10
            clear c10
            simp only [Option.some.injEq, Prod.mk.injEq] at H
            obtain ⟨rfl, rfl⟩ := H
            have hcz12_0 : wc.cell? ⟨gb110, 0, none⟩ = some (.slice A0_0 l0_0.length c0_0) := (blk_cell BK110.out 0).trans rfl
            have hfz12_0 := blk_frozen BK110.out 0
            go_wp2
            go_ret2
            exact ⟨by first | rfl | (simp [errW_none, errW_some] <;> rfl) | (simp [*, errW_none, errW_some] <;> rfl), by repeat (first | (with_reducible first | exact HB.out | apply below_alloc | apply pw_below_drewN | apply below_drew1 | refine below_set ?_ GE110.out) | exact HB.out)⟩

end Go.Proofs.Ytphcckhegfgbgaa.Q
end
section
/- The contract of ram.Fill, for one who reads what it answers. -/
namespace Go.Proofs.Ytphcckhegfgbgaa.Q
open Go.RowKit Go.Proofs.YtphcckhegfgbgaaW.PrintWords Go.Proofs.YtphcckhegfgbgaaW.PrintLast Go.Proofs.YtphcckhegfgbgaaW.PrintMore Go.Proofs.Ytphcckhegfgbgaa.L
attribute [local go_sem] Instr.field part asAgg lt_step max2_int min2_int max_two min_two max_three min_three max_four min_four lt_0_1 lt_0_2 lt_1_2 lt_0_3 lt_1_3 lt_2_3 lt_0_4 lt_1_4 lt_2_4 lt_3_4 lt_0_5 lt_1_5 lt_2_5 lt_3_5 lt_4_5 lt_0_6 lt_1_6 lt_2_6 lt_3_6 lt_4_6 lt_5_6 lt_0_7 lt_1_7 lt_2_7 lt_3_7 lt_4_7 lt_5_7 lt_6_7 lt_0_8 lt_1_8 lt_2_8 lt_3_8 lt_4_8 lt_5_8 lt_6_8 lt_7_8
set_option linter.unusedVariables false
set_option linter.unusedSimpArgs false
theorem infoS : (Try.prog.info? 5).map (·.size) = some 1 := by kernel_rfl
def placeZ (n at_ k : Int) : Int × Bool := if 2147483648 ≤ at_ ∧ 0 ≤ k ∧ at_ - 2147483648 + k ≤ n then (at_ - 2147483648, true) else (0, false)
theorem place_is (l : List Int) (at_ k : Int) (hat : u64B at_) (hk : -9223372036854775808 ≤ k ∧ k ≤ 9223372036854775807) (hl : (l.length : Int) ≤ 140737488355328) (m : Nat) : ram_place.f (m + 3) l at_ k = some (placeZ l.length at_ k) := by
  obtain ⟨a0, a1⟩ := hat
  obtain ⟨k0, k1⟩ := hk
  have w1 : IntKind.u64.wrap (l.length : Int) = l.length := by rw [IntKind.wrap_u64]; omega
  unfold ram_place.f placeZ
  by_cases h1 : at_ < 2147483648
  · rw [if_pos h1, if_neg (by omega)]
    simp [ram_place.j0]
  · have w2 : IntKind.u64.wrap (at_ - 2147483648) = at_ - 2147483648 := by rw [IntKind.wrap_u64]; omega
    rw [if_neg h1]
    by_cases h2 : k < 0
    · rw [decide_eq_true h2, if_neg (by omega)]
      simp [ram_place.j0]
    · rw [decide_eq_false h2]
      simp only [ram_place.j0, w1, w2]
      rw [if_neg (by decide)]
      by_cases h3 : at_ - 2147483648 > l.length
      · rw [if_pos h3, if_neg (by omega)]
      · have w3 : wrap64 (at_ - 2147483648) = at_ - 2147483648 := w64 (by omega) (by omega)
        have w4 : wrap64 (l.length - (at_ - 2147483648)) = l.length - (at_ - 2147483648) := w64 (by omega) (by omega)
        rw [if_neg h3, w3, w4]
        by_cases h4 : k > l.length - (at_ - 2147483648)
        · rw [if_pos h4, if_neg (by omega)]
        · rw [if_neg h4, if_pos (by omega)]
def fillL (l : List Int) (at_ : Int) (b : List Int) : List Int := if (placeZ l.length at_ b.length).2 = true then splice l (placeZ l.length at_ b.length).1.toNat b else l
theorem fillL_length (l : List Int) (at_ : Int) (b : List Int) : (fillL l at_ b).length = l.length := by
  unfold fillL placeZ
  by_cases h : 2147483648 ≤ at_ ∧ (0 : Int) ≤ b.length ∧ at_ - 2147483648 + b.length ≤ l.length
  · rw [if_pos h, if_pos rfl, length_splice]; omega
  · rw [if_neg h, if_neg (by simp)]
set_option maxHeartbeats 1600000 in
set_option maxRecDepth 100000 in
theorem ram_Fill.runs (A : Option Addr) (c : Nat) (l : List Int) (at_ : Int) (A2 : Option Addr) (c2 : Nat) (b : List Int) (w : World) (ok ok2 : Nat → Prop) (hrF : Kd.F (Kd.int .u8) w ok A l.length l) (hc : l.length ≤ c) (hrF2 : Kd.F (Kd.int .u8) w ok2 A2 b.length b) (hc2 : b.length ≤ c2)
    (hat : u64B at_) (hl : l.length < 140737488355328) (hb : b.length ≤ 9223372036854775807) :
    Calls Try.prog 50 #[.agg #[.slice A l.length c], .int .u64 at_, .slice A2 b.length c2] w fun e w' => ∃ A' c', e = .returned (.tuple #[.agg #[.slice A' (fillL l at_ b).length c'], .bool (placeZ l.length at_ b.length).2]) ∧ (fillL l at_ b).length ≤ c' ∧ Kd.F (Kd.int .u8) w' (fun j => ok j ∨ w.heap.size ≤ j) A' (fillL l at_ b).length (fillL l at_ b) ∧ Below w.heap.size w w' := by
  have hr := Kd.F_now hrF
  have hr2 := Kd.F_now hrF2
  have HRF := Aside0.mk hrF
  rw [fillL_length]
  clear hrF hrF2
  have hp := place_is l at_ b.length hat (by omega) (by omega) 0
  have HB := Aside0.mk (Below.refl w.heap.size w)
  have HR := Aside0.mk hr
  have HC := Aside0.mk hc
  have HR2 := Aside0.mk hr2
  have HC2 := Aside0.mk hc2
  have HL := Aside0.mk hl
  have hu := Try.underlying24
  by_cases hin : (placeZ l.length at_ b.length).2 = true
  · obtain ⟨i, hi, hfit⟩ : ∃ i : Nat, placeZ l.length at_ b.length = ((i : Int), true) ∧ i + b.length ≤ l.length := by
      unfold placeZ at hin ⊢
      split at hin
      · rename_i h
        rw [if_pos h]
        exact ⟨(at_ - 2147483648).toNat, by rw [Int.toNat_of_nonneg (by omega)], by omega⟩
      · exact absurd hin (by simp)
    have ef : fillL l at_ b = splice l i b := by unfold fillL; rw [hi, if_pos rfl, Int.toNat_natCast]
    rw [ef, hi]
    rw [hi] at hp
    have HP := Aside0.mk hp
    have HCL : Aside0 (slices_Clone_byte_byte.f l = some l) := ⟨by unfold slices_Clone_byte_byte.f; rw [if_pos hl]⟩
    have hib : (i : Int) ≤ (l.length : Int) := by omega
    clear hp hin ef hr hc hr2 hc2 hat hb
    go_enter Try.func50, Try.ntmps50
    go_wp2_with fail
    (go_at_call 56; (with_reducible refine (ram_place.calls 3 A c l at_ b.length i true _ (by repeat (first | exact HR.out | apply Kd.C_alloc)) HC.out HP.out).mono ?_); rintro e_ w1 ⟨rfl, hb_⟩; have HB_ : Aside0 (Below w.heap.size w w1) := Aside0.mk (below_step (by repeat (first | (with_reducible first | exact HB.out | exact Below.refl _ _ | apply below_alloc | apply pw_below_drewN | apply below_drew | refine below_set ?_ (by omega)) | exact HB.out)) hb_); have hzw1 := hb_.size; (try simp at hzw1); have oa_ := Aside0.mk (box_below hb_ (by repeat (with_reducible first | exact nb_1 w _ | apply ext_drew | apply ext_drewN | apply ext_alloc | refine blk_far ?_ (by show _ ≠ _; dsimp only; omega) _))); have ob_ := Aside0.mk (box_below hb_ (by repeat (with_reducible first | exact nb_2 w _ _ | apply ext_drew | apply ext_drewN | apply ext_alloc | refine blk_far ?_ (by show _ ≠ _; dsimp only; omega) _))); (try clear oa oac oaf oal); have oa := oa_; clear oa_; obtain ⟨oac, oaf, oal⟩ := cells_of oa.out; (try clear ob obc obf obl); have ob := ob_; clear ob_; obtain ⟨obc, obf, obl⟩ := cells_of ob.out; clear HB hb_; have HB := HB_; clear HB_)
    go_wp2_with fail
    (go_at_call 53; (with_reducible refine (slices_Clone_byte_byte.calls A c l l _ (Kd.C_below HR.out HB.out) HC.out HCL.out).mono ?_); rintro e_ w2 ⟨v, rfl, hv, hb_⟩)
    have hB2 : Below w.heap.size w w2 := bthen HB.out HB.out.size hb_
    have ob2 := box_below hb_ ob.out
    obtain ⟨obc2, obf2, obl2⟩ := cells_of ob2
    have HV := Aside0.mk hv
    have HB2 := Aside0.mk hB2
    have HK := Aside0.mk hb_
    have OB2 := Aside0.mk ob2
    have hw1_ := obl
    clear hv hB2 hb_ ob2 oa oac oaf oal ob obc obf obl
    obtain ⟨Ao, co, ev⟩ := Kd.R_slice HV.out
    subst ev
    obtain ⟨_, hco, hcr⟩ := Kd.R_reads' HV.out
    have hbk := R_block HV.out
    have hw1 : w.heap.size + 1 < w1.heap.size := hw1_
    by_cases hb0 : b.length = 0
    · have hs : splice l i b = l := by
        have : b = [] := List.eq_nil_of_length_eq_zero hb0
        subst this
        simp [splice]
      have HS := Aside0.mk hs
      clear hs
      have HCR := Aside0.mk hcr
      have HCO := Aside0.mk hco
      have HNE : Aside0 (∀ ad, Ao = some ad → 0 < l.length → ad.block ≠ w.heap.size + 1) := ⟨fun ad h1 h2 => by have := hbk ad h1 h2; omega⟩
      have HBK : Aside0 (∀ ad, Ao = some ad → 0 < l.length → w.heap.size ≤ ad.block) := ⟨fun ad h1 h2 => Nat.le_trans HB.out.size (hbk ad h1 h2)⟩
      clear hbk hcr hco
      have hcp : ∀ W dp dLen dCap, (Builtin.copy_ #[22, 22] 3 #[.slice dp dLen dCap, .slice A2 0 c2]).run Try.prog W = .ok (goInt 0) W := fun W dp dLen dCap =>
        run_copy_none W _ _ _ _ dp A2 dLen dCap 0 c2 Try.underlying22 infoS (Nat.zero_min _)
      clear hi hfit
      go_wp2
      all_goals refine bodyPost_ret (v := .tuple #[.agg #[.slice Ao l.length co], .bool true]) (by simp [results, Try.results50, go_sem, obc2, obf2] <;> first | assumption | omega | (symm; assumption)) rfl ?_
      all_goals exact ⟨Ao, co, rfl, HCO.out, F_of_C (by rw [HS.out]; exact C_set HCR.out HNE.out _ _) (fun ad h1 h2 => .inr (HBK.out ad h1 h2)), (by repeat (first | (with_reducible first | exact HB2.out | exact Below.refl _ _ | apply below_alloc | apply pw_below_drewN | apply below_drew | refine below_set ?_ (by omega)) | exact HB2.out))⟩
    · have hlp : 0 < l.length := by omega
      obtain ⟨g, cap, eg, hbg, hlg, cells, hcell⟩ := Kd.R_form HV.out hlp
      injection eg with e1 e2 e3
      subst e1 e3
      obtain ⟨ad2, ea2, hrd⟩ := (Kd.reads_of_C (d := (0 : Int)) (Kd.C_below HR2.out HB2.out)).2.2 (by omega)
      subst ea2
      have hcs : ∀ j : Nat, j < l.length → cells[j]? = some (.int .u8 (l.getD j 0)) := by
        intro j hj
        have h1 := (Kd.R_celln 0 HV.out (j : Int) (by omega) (by omega)).1
        rw [Int.toNat_natCast] at h1
        exact ((blk_cell hcell j).symm.trans h1)
      have hfc : l.length ≤ cells.size := by
        have := hcs (l.length - 1) (by omega)
        have := (Array.getElem?_eq_some_iff.1 this).1
        omega
      have hcp := run_copy_row (P := Try.prog) w2 22 22 3 5 g i (l.length - i) (co - i) ad2 b.length c2 cells 5 (b.map (fun x => .int .u8 x)) Try.underlying22 infoS hcell
        (by rw [List.length_map]; exact (Nat.min_eq_left (by omega)).symm)
        (by
          intro j v hv
          rw [List.getElem?_map] at hv
          obtain ⟨x, hx, rfl⟩ := Option.map_eq_some_iff.1 hv
          have hj := (List.getElem?_eq_some_iff.1 hx).1
          rw [hrd j hj, List.getD_eq_getElem?_getD, hx]; rfl)
        (by rw [List.length_map]; omega) (by intro v hv; obtain ⟨x, _, rfl⟩ := List.mem_map.1 hv; rfl)
      obtain ⟨w3, hw3⟩ : ∃ w3, w3 = w2.setRow g (cells.toList.take i ++ b.map (fun x => (.int .u8 x : Value)) ++ cells.toList.drop (i + (b.map (fun x => (.int .u8 x : Value))).length)).toArray := ⟨_, rfl⟩
      rw [← hw3, List.length_map] at hcp
      have hg3 : w3.heap[g]? = some (.cells (cells.toList.take i ++ b.map (fun x => (.int .u8 x : Value)) ++ cells.toList.drop (i + (b.map (fun x => (.int .u8 x : Value))).length)).toArray 5 (0, 0)) := by
        rw [hw3]; exact setRow_heap w2 g _ _ _ _ hcell
      have ho3 : w3.heap[w.heap.size + 1]? = some (.cells #[.slice none 0 0] 24 (0, 0)) := by
        rw [hw3, setRow_other w2 g _ _ (by omega)]; exact OB2.out
      have hB3 : Below w.heap.size w w3 := by rw [hw3]; exact below_setRow HB2.out (by omega) _
      obtain ⟨obc3, obf3, obl3⟩ := cells_of ho3
      have C3 : Kd.C (Kd.int .u8) w3 (some ⟨g, 0, none⟩) l.length (splice l i b) := by
        refine Kd.C_of_reads (d := (0 : Int)) ⟨by rw [length_splice _ _ _ (by omega)], by omega, fun _ => ⟨⟨g, 0, none⟩, rfl, fun j hj => ?_⟩⟩
        have e1 : (Addr.add ⟨g, 0, none⟩ j) = ⟨g, j, none⟩ := by unfold Addr.add; split <;> simp_all
        rw [e1, blk_cell hg3 j, List.length_map]
        rw [List.getElem?_toArray, List.getD_eq_getElem?_getD]
        unfold splice
        have t1 : (cells.toList.take i).length = i := by rw [List.length_take, Array.length_toList]; omega
        have t2 : (l.take i).length = i := by rw [List.length_take]; omega
        by_cases h1 : j < i
        · have hjl : j < l.length := by omega
          have := hcs j hjl
          rw [List.append_assoc, List.getElem?_append_left (by simp; omega), List.getElem?_append_left (by simp; omega), List.getElem?_take_of_lt h1, List.getElem?_take_of_lt h1, Array.getElem?_toList, this, List.getD_eq_getElem?_getD]
        · by_cases h2 : j < i + b.length
          · rw [List.append_assoc, List.getElem?_append_right (by rw [t1]; omega), List.getElem?_append_left (by rw [t1, List.length_map]; omega), List.getElem?_append_right (by rw [t2]; omega), List.getElem?_append_left (by rw [t2]; omega), t1, t2, List.getElem?_map,
              List.getElem?_eq_getElem (by omega)]
            rfl
          · have hjl : j < l.length := hj
            rw [List.append_assoc, List.getElem?_append_right (by rw [t1]; omega), List.getElem?_append_right (by rw [t1, List.length_map]; omega), List.getElem?_append_right (by rw [t2]; omega), List.getElem?_append_right (by rw [t2]; omega), t1, t2, List.length_map, List.getElem?_drop, List.getElem?_drop,
              show i + b.length + (j - i - b.length) = j by omega, Array.getElem?_toList, hcs j hjl, List.getD_eq_getElem?_getD]
      have hci : ¬ co = i := by omega
      have HCO := Aside0.mk hco
      have HNE : g ≠ w.heap.size + 1 := by omega
      have HGE : w.heap.size ≤ g := by have := HB.out.size; omega
      clear hcs hfc hg3 hcell hw3 hlg hrd hbk hcr hco hi hfit hlp hb0
      have HC3 := Aside0.mk C3
      have HB3 := Aside0.mk hB3
      clear C3 hB3
      go_wp2
      refine bodyPost_ret (v := .tuple #[.agg #[.slice (some ⟨g, 0, none⟩) l.length co], .bool true]) (by simp [results, Try.results50, go_sem, obc3, obf3] <;> first | assumption | omega | (symm; assumption)) rfl ?_
      exact ⟨_, co, rfl, HCO.out, F_of_C (C_set HC3.out (fun ad h _ => by injection h with h; rw [← h]; exact HNE) _ _) (fun ad h _ => by injection h with h; rw [← h]; exact .inr HGE), (by repeat (first | (with_reducible first | exact HB3.out | exact Below.refl _ _ | apply below_alloc | apply pw_below_drewN | apply below_drew | refine below_set ?_ (by omega)) | exact HB3.out))⟩
  · have e : placeZ l.length at_ b.length = (0, false) := by
      unfold placeZ at hin ⊢
      split at hin
      · exact absurd rfl hin
      · rename_i h; rw [if_neg h]
    have ef : fillL l at_ b = l := by unfold fillL; rw [if_neg hin]
    rw [ef, e]
    rw [e] at hp
    have HP := Aside0.mk hp
    clear hp hin e ef hr hc hr2 hc2 hat hl hb
    go_enter Try.func50, Try.ntmps50
    go_wp2_with fail
    (go_at_call 56; (with_reducible refine (ram_place.calls 3 A c l at_ b.length 0 false _ (by repeat (first | exact HR.out | apply Kd.C_alloc)) HC.out HP.out).mono ?_); rintro e_ w1 ⟨rfl, hb_⟩; have HB_ : Aside0 (Below w.heap.size w w1) := Aside0.mk (below_step (by repeat (first | (with_reducible first | exact HB.out | exact Below.refl _ _ | apply below_alloc | apply pw_below_drewN | apply below_drew | refine below_set ?_ (by omega)) | exact HB.out)) hb_); have hzw1 := hb_.size; (try simp at hzw1); have oa_ := Aside0.mk (box_below hb_ (by repeat (with_reducible first | exact nb_1 w _ | apply ext_drew | apply ext_drewN | apply ext_alloc | refine blk_far ?_ (by show _ ≠ _; dsimp only; omega) _))); have ob_ := Aside0.mk (box_below hb_ (by repeat (with_reducible first | exact nb_2 w _ _ | apply ext_drew | apply ext_drewN | apply ext_alloc | refine blk_far ?_ (by show _ ≠ _; dsimp only; omega) _))); (try clear oa oac oaf oal); have oa := oa_; clear oa_; obtain ⟨oac, oaf, oal⟩ := cells_of oa.out; (try clear ob obc obf obl); have ob := ob_; clear ob_; obtain ⟨obc, obf, obl⟩ := cells_of ob.out; clear HB hb_; have HB := HB_; clear HB_)
    go_wp2
    refine bodyPost_ret (v := .tuple #[.agg #[.slice A l.length c], .bool false]) (by simp [results, Try.results50, go_sem, oac, obc] <;> first | assumption | omega | (symm; assumption)) rfl ?_
    exact ⟨A, c, rfl, HC.out, F_w HRF.out (by repeat (first | (with_reducible first | exact HB.out | exact Below.refl _ _ | apply below_alloc | apply pw_below_drewN | apply below_drew | refine below_set ?_ (by omega)) | exact HB.out)) (fun _ h => .inl h), (by repeat (first | (with_reducible first | exact HB.out | exact Below.refl _ _ | apply below_alloc | apply pw_below_drewN | apply below_drew | refine below_set ?_ (by omega)) | exact HB.out))⟩
end Go.Proofs.Ytphcckhegfgbgaa.Q
end
section
-- Ytphcckhegfgbgaa: written by a program for this claim (several laws of one seat at once)
namespace Go.Proofs.Ytphcckhegfgbgaa.Q
open Go.RowKit Go.Proofs.YtphcckhegfgbgaaW.PrintWords Go.Proofs.YtphcckhegfgbgaaW.PrintLast Go.Proofs.YtphcckhegfgbgaaW.PrintMore
attribute [local go_sem] max2_int min2_int max_two min_two max_three min_three max_four min_four   -- for this text's walks alone
set_option linter.unusedVariables false
set_option linter.unusedSimpArgs false

def slices_Reverse_byte_byte.l0 : Nat → List Int → Int → Int → Option (List Int)
  | 0, _, _, _ => none
  | k + 1, x0, x2, x3 => if x2 < x3 then (if 0 ≤ x3 then (if x3 < (x0.length : Int) then (if 0 ≤ x2 then (if x2 < (x0.length : Int) then (slices_Reverse_byte_byte.l0 k ((x0.set (x2 : Int).toNat (rd x0 x3)).set (x3 : Int).toNat (rd x0 x2)) (wrap64 (x2 + 1)) (wrap64 (x3 - 1))) else (none)) else (none)) else (none)) else (none)) else (some x0)
def slices_Reverse_byte_byte.f (k : Nat) (l0 : List Int) : Option (List Int) := slices_Reverse_byte_byte.l0 k l0 0 (wrap64 ((l0.length : Int) - 1))
theorem slices_Reverse_byte_byte.mono_l : ∀ k, (∀ y0 y1 y2, LeO (slices_Reverse_byte_byte.l0 k y0 y1 y2) (slices_Reverse_byte_byte.l0 (k + 1) y0 y1 y2))
  | 0 => fun _ _ _ r h => by simp [slices_Reverse_byte_byte.l0] at h
  | k + 1 => by
    have ih0 := slices_Reverse_byte_byte.mono_l k
    · intro y0 y1 y2
      unfold slices_Reverse_byte_byte.l0
      repeat' first
      | (with_reducible exact ih0 _ _ _)
      | (with_reducible exact LeO.refl _)
      | (with_reducible exact LeO.none _)
      | (with_reducible refine LeO.ite ?_ ?_)
      | (with_reducible refine LeO.bind ?_ (fun _ => ?_))
      | exact ih0 _ _ _
      | exact LeO.none _
      | refine LeO.ite ?_ ?_
      | refine LeO.bind ?_ (fun _ => ?_)
theorem slices_Reverse_byte_byte.mono : ∀ a0 k, LeO (slices_Reverse_byte_byte.f k a0) (slices_Reverse_byte_byte.f (k + 1) a0) := by
  intro a0 k
  have ih0 := slices_Reverse_byte_byte.mono_l k
  unfold slices_Reverse_byte_byte.f
  repeat' first
      | (with_reducible exact ih0 _ _ _)
      | (with_reducible exact LeO.refl _)
      | (with_reducible exact LeO.none _)
      | (with_reducible refine LeO.ite ?_ ?_)
      | (with_reducible refine LeO.bind ?_ (fun _ => ?_))
      | exact ih0 _ _ _
      | exact LeO.none _
      | refine LeO.ite ?_ ?_
      | refine LeO.bind ?_ (fun _ => ?_)
def slices_Reverse_byte_byte.T3 : Bool × List (List Nat × List Nat) := (true, [([], []), ([], []), ([], []), ([], []), ([], []), ([], []), ([4, 5], [4, 5]), ([6], [6]), ([], []), ([], []), ([8, 9], [8, 9]), ([10], [10]), ([0, 1, 0, 1, 4, 5, 6, 7, 11], [0, 1]), ([12, 7, 0, 1, 4, 5, 6, 7, 11], [7, 12]), ([2, 3, 0, 1, 2, 3, 4, 5, 6, 7, 8, 9, 10, 11, 12, 13], [2, 3]), ([14, 11, 13, 0, 1, 2, 3, 4, 5, 6, 7, 8, 9, 10, 11, 12, 13], [11, 14])])
def slices_Reverse_byte_byte.B3 : List Nat := [0, 0, 0, 0, 0, 0, 48, 112, 0, 0, 768, 1792, 4083, 8179, 16383, 32767]
theorem slices_Reverse_byte_byte.tab3 : rtab .any (opsOf Try.f65 3) = slices_Reverse_byte_byte.T3 := by kernel_rfl
theorem slices_Reverse_byte_byte.bits3 : waitsOk slices_Reverse_byte_byte.T3.2 slices_Reverse_byte_byte.B3 = true := by kernel_rfl
set_option maxHeartbeats 8000000 in
set_option maxRecDepth 100000 in
theorem slices_Reverse_byte_byte.calls (k : Nat) (P0_ : Nat → Prop) (u9000_ : Value) (l0 : List Int) (r : List Int) (w0 w : World) (hB : Below w0.heap.size w0 w) (ho0 : Kd.R (Kd.int .u8) 5 w w0.heap.size P0_ u9000_ l0) (h : slices_Reverse_byte_byte.f k l0 = some r) :
    Calls Try.prog 65 #[u9000_] w fun e w' => e = .returned (.tuple #[]) ∧ Kd.R (Kd.int .u8) 5 w' w0.heap.size (fun k_ => (P0_ k_ ∨ w.heap.size ≤ k_)) u9000_ r ∧ Below w0.heap.size w0 w' ∧ Kept w w' (fun k_ => P0_ k_) := by
  have HO0 := Aside0.mk (show Kd.R (Kd.int .u8) 5 w w0.heap.size (fun k_ => (P0_ k_ ∨ w.heap.size ≤ k_)) u9000_ l0 from Kd.R_mono ho0 (fun k_ hk => (.inl hk)))
  have HK := Aside0.mk (Kept.refl w (fun k_ => P0_ k_))
  have HW0 := Aside0.mk hB.size
  have HB := Aside0.mk hB
  clear hB
  have H : (slices_Reverse_byte_byte.l0 k l0 0 (wrap64 ((l0.length : Int) - 1))) = some r := h
  clear h
  have H' := Aside0.mk H
  clear H
  obtain ⟨Ao2, co2, eo2⟩ := Kd.R_slice HO0.out
  subst eo2
  go_enter Try.func65, Try.ntmps65
  go_wp2
  go_loopg [2, 3] k (fun kq v2 v3 w' => ∃ (x0_1 : List Int) (x2_1 : Int) (x3_1 : Int), v2 = .int .i64 x2_1 ∧ v3 = .int .i64 x3_1 ∧ Aside0 (slices_Reverse_byte_byte.l0 kq x0_1 x2_1 x3_1 = some r) ∧ Aside0 (kq ≤ k) ∧ Aside0 (Kd.R (Kd.int .u8) 5 w' w0.heap.size (fun k_ => (P0_ k_ ∨ w.heap.size ≤ k_)) (.slice Ao2 l0.length co2) x0_1) ∧ Aside0 (Kept w w' (fun k_ => P0_ k_)) ∧ Aside0 (Below w0.heap.size w0 w'))
  case atStart => exact ⟨(l0), (0), (wrap64 ((l0.length : Int) - 1)), (by first | rfl | (simp; done) | (simp [*]; done)), (by first | rfl | (simp; done) | (simp [*]; done)), H', ⟨Nat.le_refl _⟩, ⟨by (with_reducible repeat (first | apply Kd.R_alloc | apply Kd.R_drewN | apply Kd.R_drew)); exact HO0.out⟩, ⟨by repeat (first | (with_reducible first | exact HK.out | apply Kept.alloc | apply Kept.drewN | apply Kept.drew) | exact HK.out)⟩, ⟨by repeat (first | (with_reducible first | exact HB.out | apply below_alloc | apply pw_below_drewN | apply below_drew1) | exact HB.out)⟩⟩
  case round =>
    clear H'
    try clear p2
    obtain ⟨x0_1, x2_1, x3_1, rfl, rfl, HA, HK1, HO_0, HK, HB⟩ := hrel
    have hl0_1 := (Kd.R_reads' HO_0.out).1
    rw [hl0_1] at HO_0
    (try simp only [hl0_1])
    cases gk with
    | zero => exact absurd HA.out (by simp [slices_Reverse_byte_byte.l0])
    | succ k1 =>
      have H := HA.out
      clear HA
      simp only [slices_Reverse_byte_byte.l0] at H
      by_cases c3 : x2_1 < x3_1
      · rw [if_pos c3] at H
        have c3b0 : decide (x2_1 < x3_1) = true := decide_eq_true c3
        clear c3
        by_cases c4 : 0 ≤ x3_1
        · rw [if_pos c4] at H
          have c4b0 : decide (0 ≤ x3_1) = true := decide_eq_true c4
          clear c4
          by_cases c5 : x3_1 < (x0_1.length : Int)
          · rw [if_pos c5] at H
            have c5b0 : decide (x3_1 < (x0_1.length : Int)) = true := decide_eq_true c5
            clear c5
            by_cases c6 : 0 ≤ x2_1
            · rw [if_pos c6] at H
              have c6b0 : decide (0 ≤ x2_1) = true := decide_eq_true c6
              clear c6
              by_cases c7 : x2_1 < (x0_1.length : Int)
              · rw [if_pos c7] at H
                have c7b0 : decide (x2_1 < (x0_1.length : Int)) = true := decide_eq_true c7
                clear c7
                obtain ⟨y113, hy113⟩ : ∃ y_ : List Int, y_ = (x0_1.set (x2_1 : Int).toNat (rd x0_1 x3_1)) := ⟨_, rfl⟩
                replace H : (slices_Reverse_byte_byte.l0 k1 (y113.set (x3_1 : Int).toNat (rd x0_1 x2_1)) (wrap64 (x2_1 + 1)) (wrap64 (x3_1 - 1))) = some r := by first | (rw [hy113]; with_reducible exact H) | (have H2_ := (Option.bind_some _ _).symm.trans H; rw [hy113]; with_reducible exact H2_) | (have H2_ := (Option.bind_some _ _).symm.trans H; with_reducible exact H2_) | with_reducible exact H | (rw [hy113]; exact H) | exact H
                have Ny113 := Aside0.mk hy113
                clear hy113
                obtain ⟨y114, hy114⟩ : ∃ y_ : List Int, y_ = (y113.set (x3_1 : Int).toNat (rd x0_1 x2_1)) := ⟨_, rfl⟩
                replace H : (slices_Reverse_byte_byte.l0 k1 y114 (wrap64 (x2_1 + 1)) (wrap64 (x3_1 - 1))) = some r := by first | (rw [hy114]; with_reducible exact H) | (have H2_ := (Option.bind_some _ _).symm.trans H; rw [hy114]; with_reducible exact H2_) | (have H2_ := (Option.bind_some _ _).symm.trans H; with_reducible exact H2_) | with_reducible exact H | (rw [hy114]; exact H) | exact H
                have Ny114 := Aside0.mk hy114
                clear hy114
                have H' := Aside0.mk H
                clear H
                try go_wp2
                have n0_ := Aside0.mk (Kd.R_drew HO_0.out)
                have n1_ := Aside0.mk (Kept.drew HK.out)
                have n2_ := Aside0.mk (below_drew1 HB.out)
                clear HO_0
                clear HK
                clear HB
                have HO_0 := n0_
                have HK := n1_
                have HB := n2_
                clear n0_ n1_ n2_
                have p111 : 0 ≤ (x3_1 : Int) := of_decide_eq_true (by first | (with_reducible assumption) | assumption)
                have q111 : x3_1 < (x0_1.length : Int) := of_decide_eq_true (by first | (with_reducible assumption) | assumption)
                obtain ⟨ad111, e111, hx111_0⟩ := Kd.at_int (Kd.R_reads' HO_0.out).2.2 x3_1 p111 q111
                cases e111
                replace p111 := eq_true p111
                replace q111 := eq_true q111
                have p112 : 0 ≤ (x2_1 : Int) := of_decide_eq_true (by first | (with_reducible assumption) | assumption)
                have q112 : x2_1 < (x0_1.length : Int) := of_decide_eq_true (by first | (with_reducible assumption) | assumption)
                obtain ⟨ad112, e112, hx112_0⟩ := Kd.at_int (Kd.R_reads' HO_0.out).2.2 x2_1 p112 q112
                obtain rfl : ad111 = ad112 := (by injection e112)
                replace p112 := eq_true p112
                replace q112 := eq_true q112
                have p8 : 0 ≤ (x2_1 : Int) := of_decide_eq_true (by first | (with_reducible assumption) | assumption)
                have q8 : (x2_1 : Int) < ((x0_1.length : Int) : Int) := of_decide_eq_true (by first | (with_reducible assumption) | assumption)
                obtain ⟨go8, co8, eo8, gb8, gl8, cl8, HG8⟩ := Kd.R_form HO_0.out (by omega)
                (first | cases eo8 | (injection eo8 with ea_ en_ ec_; (first | subst ea_ | (injection ea_ with ea_; subst ea_)); subst ec_; clear en_))
                have GB8 := Aside0.mk gb8
                have GG8 := Aside0.mk HG8
                clear gb8 gl8 HG8
                have HMgo8 := Aside0.mk (show (P0_ go8 ∨ w.heap.size ≤ go8) from (HO_0.out.1 _ rfl))
                (first | simp only [add_plain] at hx111_0 | skip)
                (first | simp only [add_plain] at hx112_0 | skip)
                obtain ⟨hx8_0, hf8_0⟩ := Kd.R_celln 0 HO_0.out (x2_1 : Int) p8 q8
                replace p8 := eq_true p8
                replace q8 := eq_true q8
                have HP11 := Kd.R_putn HO_0.out (x2_1 : Int) (rd x0_1 x3_1)
                rw [← Ny113.out] at HP11
                have HQ11 := Aside0.mk HP11
                clear HP11
                have p9 : 0 ≤ (x3_1 : Int) := of_decide_eq_true (by first | (with_reducible assumption) | assumption)
                have q9 : (x3_1 : Int) < ((x0_1.length : Int) : Int) := of_decide_eq_true (by first | (with_reducible assumption) | assumption)
                obtain ⟨hx9_0, hf9_0⟩ := Kd.R_celln 0 HQ11.out (x3_1 : Int) p9 q9
                replace p9 := eq_true p9
                replace q9 := eq_true q9
                have HP12 := Kd.R_putn HQ11.out (x3_1 : Int) (rd x0_1 x2_1)
                rw [← Ny114.out] at HP12
                have HQ12 := Aside0.mk HP12
                clear HP12
                refine start_ (n := 16) (S := fun w' => w'.cell? ⟨go8, (x3_1).toNat, none⟩ = some (.int .u8 (rd x0_1 x3_1)) ∧ w'.cell? ⟨go8, (x2_1).toNat, none⟩ = some (.int .u8 (rd x0_1 x2_1))) (ds := [13, 15]) #[false, false, false, false, false, false, false, false, false, false, false, false, false, false, false, false] (by kernel_rfl) rfl rfl ⟨hx111_0, hx112_0⟩ (fun hHeld => ?_); refine with_tabW slices_Reverse_byte_byte.tab3 slices_Reverse_byte_byte.bits3 (fun HT_ HW_ => ?_)
                generalize wr.drew = w10 at HO_0 HK HB GG8 HQ11 HQ12 hf8_0 hf9_0 hx111_0 hx112_0 hx8_0 hx9_0 hHeld ⊢
                refine pure_ (i := 0) (N := some 14) (v := ?_) (a' := ?_) #[true, false, false, false, false, false, false, false, false, false, false, false, false, false, false, false] rfl rfl (any_of HT_.out (by kernel_rfl)) (fun _ _ _ h => h) (Or.inl ⟨by rfl, ?_⟩) ?_ ?_
                rotate_left
                · intro w'
                  go_simp
                  with_reducible rfl
                rotate_left
                · simp only [Act.put, List.setIfInBounds_toArray, List.set_cons_zero, List.set_cons_succ, i64_w, i32_w]
                  rfl
                refine pure_ (i := 1) (N := some 15) (v := ?_) (a' := ?_) #[true, true, false, false, false, false, false, false, false, false, false, false, false, false, false, false] rfl rfl (any_of HT_.out (by kernel_rfl)) (fun _ _ _ h => h) (Or.inl ⟨by rfl, ?_⟩) ?_ ?_
                rotate_left
                · intro w'
                  go_simp
                  with_reducible rfl
                rotate_left
                · simp only [Act.put, List.setIfInBounds_toArray, List.set_cons_zero, List.set_cons_succ, i64_w, i32_w]
                  rfl
                refine pure_ (i := 2) (N := some 16) (v := ?_) (a' := ?_) #[true, true, true, false, false, false, false, false, false, false, false, false, false, false, false, false] rfl rfl (any_of HT_.out (by kernel_rfl)) (fun _ _ _ h => h) (Or.inl ⟨by rfl, ?_⟩) ?_ ?_
                rotate_left
                · intro w'
                  go_simp
                  with_reducible rfl
                rotate_left
                · simp only [Act.put, List.setIfInBounds_toArray, List.set_cons_zero, List.set_cons_succ, i64_w, i32_w]
                  rfl
                refine pure_ (i := 3) (N := some 17) (v := ?_) (a' := ?_) #[true, true, true, true, false, false, false, false, false, false, false, false, false, false, false, false] rfl rfl (any_of HT_.out (by kernel_rfl)) (fun _ _ _ h => h) (Or.inl ⟨by rfl, ?_⟩) ?_ ?_
                rotate_left
                · intro w'
                  go_simp
                  with_reducible rfl
                rotate_left
                · simp only [Act.put, List.setIfInBounds_toArray, List.set_cons_zero, List.set_cons_succ, i64_w, i32_w]
                  rfl
                refine pure_ (i := 4) (N := some 18) (v := ?_) (a' := ?_) #[true, true, true, true, true, false, false, false, false, false, false, false, false, false, false, false] rfl rfl (any_of HT_.out (by kernel_rfl)) (fun _ _ _ h => h) (Or.inl ⟨by rfl, ?_⟩) ?_ ?_
                rotate_left
                · intro w'
                  go_simp
                  with_reducible rfl
                rotate_left
                · simp only [Act.put, List.setIfInBounds_toArray, List.set_cons_zero, List.set_cons_succ, i64_w, i32_w]
                  rfl
                refine pure_ (i := 5) (N := some 19) (v := ?_) (a' := ?_) #[true, true, true, true, true, true, false, false, false, false, false, false, false, false, false, false] rfl rfl (any_of HT_.out (by kernel_rfl)) (fun _ _ _ h => h) (Or.inl ⟨by rfl, ?_⟩) ?_ ?_
                rotate_left
                · intro w'
                  go_simp
                  with_reducible rfl
                rotate_left
                · simp only [Act.put, List.setIfInBounds_toArray, List.set_cons_zero, List.set_cons_succ, i64_w, i32_w]
                  rfl
                refine pure_ (i := 6) (N := some 20) (v := ?_) (a' := ?_) #[true, true, true, true, true, true, true, false, false, false, false, false, false, false, false, false] rfl rfl (any_of HT_.out (by kernel_rfl)) (fun _ _ _ h => h) (Or.inl ⟨by rfl, ?_⟩) ?_ ?_
                rotate_left
                · intro w'
                  go_simp
                  with_reducible rfl
                rotate_left
                · simp only [Act.put, List.setIfInBounds_toArray, List.set_cons_zero, List.set_cons_succ, i64_w, i32_w]
                  rfl
                refine pure_ (i := 8) (N := some 22) (v := ?_) (a' := ?_) #[true, true, true, true, true, true, true, false, true, false, false, false, false, false, false, false] rfl rfl (any_of HT_.out (by kernel_rfl)) (fun _ _ _ h => h) (Or.inl ⟨by rfl, ?_⟩) ?_ ?_
                rotate_left
                · intro w'
                  go_simp
                  with_reducible rfl
                rotate_left
                · simp only [Act.put, List.setIfInBounds_toArray, List.set_cons_zero, List.set_cons_succ, i64_w, i32_w]
                  rfl
                refine pure_ (i := 9) (N := some 23) (v := ?_) (a' := ?_) #[true, true, true, true, true, true, true, false, true, true, false, false, false, false, false, false] rfl rfl (any_of HT_.out (by kernel_rfl)) (fun _ _ _ h => h) (Or.inl ⟨by rfl, ?_⟩) ?_ ?_
                rotate_left
                · intro w'
                  go_simp
                  with_reducible rfl
                rotate_left
                · simp only [Act.put, List.setIfInBounds_toArray, List.set_cons_zero, List.set_cons_succ, i64_w, i32_w]
                  rfl
                refine pure_ (i := 10) (N := some 24) (v := ?_) (a' := ?_) #[true, true, true, true, true, true, true, false, true, true, true, false, false, false, false, false] rfl rfl (any_of HT_.out (by kernel_rfl)) (fun _ _ _ h => h) (Or.inl ⟨by rfl, ?_⟩) ?_ ?_
                rotate_left
                · intro w'
                  go_simp
                  with_reducible rfl
                rotate_left
                · simp only [Act.put, List.setIfInBounds_toArray, List.set_cons_zero, List.set_cons_succ, i64_w, i32_w]
                  rfl
                refine take_ (i := 7) (N := some 21) (v := ?_) (a' := ?_) #[true, true, true, true, true, true, true, true, true, true, true, false, false, false, false, false] rfl rfl (take_ofW HT_.out HW_.out (by kernel_rfl)) (fun _ _ _ h => h) (Or.inl ⟨by rfl, ?_⟩) hHeld ?_ ?_
                rotate_left
                · rintro w' ⟨s0, s1⟩
                  go_simp
                  with_reducible rfl
                rotate_left
                · simp only [Act.put, List.setIfInBounds_toArray, List.set_cons_zero, List.set_cons_succ, i64_w, i32_w]
                  rfl
                refine take_ (i := 11) (N := some 25) (v := ?_) (a' := ?_) #[true, true, true, true, true, true, true, true, true, true, true, true, false, false, false, false] rfl rfl (take_ofW HT_.out HW_.out (by kernel_rfl)) (fun _ _ _ h => h) (Or.inl ⟨by rfl, ?_⟩) hHeld ?_ ?_
                rotate_left
                · rintro w' ⟨s0, s1⟩
                  go_simp
                  with_reducible rfl
                rotate_left
                · simp only [Act.put, List.setIfInBounds_toArray, List.set_cons_zero, List.set_cons_succ, i64_w, i32_w]
                  rfl
                refine pure_ (i := 12) (N := some 26) (v := ?_) (a' := ?_) #[true, true, true, true, true, true, true, true, true, true, true, true, true, false, false, false] rfl rfl (any_of HT_.out (by kernel_rfl)) (fun _ _ _ h => h) (Or.inl ⟨by rfl, ?_⟩) ?_ ?_
                rotate_left
                · intro w'
                  go_simp
                  with_reducible rfl
                rotate_left
                · simp only [Act.put, List.setIfInBounds_toArray, List.set_cons_zero, List.set_cons_succ, i64_w, i32_w]
                  rfl
                refine last_ (i := 13) (N := none) #[true, true, true, true, true, true, true, true, true, true, true, true, true, true, false, false] rfl rfl (one_of HT_.out (by kernel_rfl)) (by decide) (fun K hK => ?_)
                refine skip_ (w1 := ?_) (by rfl) rfl ?_ ?_
                rotate_left
                · go_simp
                  rfl
                refine hK.out _ _ ?_
                clear hK K
                refine pure_ (i := 14) (N := some 27) (v := ?_) (a' := ?_) #[true, true, true, true, true, true, true, true, true, true, true, true, true, true, true, false] rfl rfl (any_of HT_.out (by kernel_rfl)) (fun _ _ _ h => h) (Or.inl ⟨by rfl, ?_⟩) ?_ ?_
                rotate_left
                · intro w'
                  go_simp
                  with_reducible rfl
                rotate_left
                · simp only [Act.put, List.setIfInBounds_toArray, List.set_cons_zero, List.set_cons_succ, i64_w, i32_w]
                  rfl
                refine last_ (i := 15) (N := none) #[true, true, true, true, true, true, true, true, true, true, true, true, true, true, true, true] rfl rfl (one_of HT_.out (by kernel_rfl)) (by decide) (fun K hK => ?_)
                refine skip_ (w1 := ?_) (by rfl) rfl ?_ ?_
                rotate_left
                · go_simp
                  rfl
                refine hK.out _ _ ?_
                clear hK K
                refine done_ (done_of HT_.out (by kernel_rfl)) ?_
                try go_wp2
                (try simp only [← hl0_1])
                go_roundg k1
                case measure => have := HK1.out; omega
                case rel => exact ⟨(y114), (wrap64 (x2_1 + 1)), (wrap64 (x3_1 - 1)), (by first | rfl | (simp; done) | (simp [*]; done)), (by first | rfl | (simp; done) | (simp [*]; done)), H', ⟨by have := HK1.out; omega⟩, ⟨by (try simp only [hl0_1]); (with_reducible repeat (first | apply Kd.R_alloc | apply Kd.R_drewN | apply Kd.R_drew)); exact HQ12.out⟩, ⟨by repeat (first | (with_reducible first | exact HK.out | apply Kept.alloc | apply Kept.drewN | apply Kept.drew | refine Kept.setCell ?_ HMgo8.out _ | refine Kept.setCell ?_ HMgo8.out _) | exact HK.out)⟩, ⟨by repeat (first | (with_reducible first | exact HB.out | apply below_alloc | apply pw_below_drewN | apply below_drew1 | refine below_set ?_ GB8.out | refine below_set ?_ GB8.out) | exact HB.out)⟩⟩
              · rw [if_neg c7] at H
                exact absurd H (by simp)
            · rw [if_neg c6] at H
              exact absurd H (by simp)
          · rw [if_neg c5] at H
            exact absurd H (by simp)
        · rw [if_neg c4] at H
          exact absurd H (by simp)
      · rw [if_neg c3] at H
        have c3b0 : decide (x2_1 < x3_1) = false := decide_eq_false c3
        clear c3
        obtain rfl := Option.some.inj H
        go_wp2
        first | go_end0 | ((try simp only [Exit.inBlock, Exit.then]); refine bodyPost_ret (results_none rfl _ _ _) rfl ?_)
        exact ⟨by first | rfl | (simp [errW_none, errW_some] <;> rfl) | (simp [*, errW_none, errW_some] <;> rfl), (by first | exact (by (with_reducible repeat (first | apply Kd.R_alloc | apply Kd.R_drewN | apply Kd.R_drew)); exact HO_0.out) | (simp only [hl0_1]; exact (by (with_reducible repeat (first | apply Kd.R_alloc | apply Kd.R_drewN | apply Kd.R_drew)); exact HO_0.out))), by repeat (first | (with_reducible first | exact HB.out | apply below_alloc | apply pw_below_drewN | apply below_drew1) | exact HB.out), by repeat (first | (with_reducible first | exact HK.out | apply Kept.alloc | apply Kept.drewN | apply Kept.drew) | exact HK.out)⟩

end Go.Proofs.Ytphcckhegfgbgaa.Q
end
