import Derived.Test.YtdblpflepfcnjaaPZ1
import Derived.Test.YtdblpflepfcnjaaPXNg
import Derived.Test.YtdblpflepfcnjaaPZ2
import Derived.Test.YtdblpflepfcnjaaPZ3
import Derived.Deep.DeepCutAuto
section
/- The document's Send: its early ends. -/
namespace Go.Proofs.Ytdblpflepfcnjaa.Q
open Go.RowKit Go.Proofs.YtdblpflepfcnjaaW.PrintWords Go.Proofs.YtdblpflepfcnjaaW.PrintLast Go.Proofs.YtdblpflepfcnjaaW.PrintMore Go.Proofs.Ytdblpflepfcnjaa.L
attribute [local go_sem] Instr.field part asAgg lt_step max2_int min2_int max_two min_two max_three min_three max_four min_four lt_0_1 lt_0_2 lt_1_2 lt_0_3 lt_1_3 lt_2_3 lt_0_4 lt_1_4 lt_2_4 lt_3_4 lt_0_5 lt_1_5 lt_2_5 lt_3_5 lt_4_5 lt_0_6 lt_1_6 lt_2_6 lt_3_6 lt_4_6 lt_5_6 lt_0_7 lt_1_7 lt_2_7 lt_3_7 lt_4_7 lt_5_7 lt_6_7 lt_0_8 lt_1_8 lt_2_8 lt_3_8 lt_4_8 lt_5_8 lt_6_8 lt_7_8
set_option linter.unusedVariables false
set_option linter.unusedSimpArgs false
set_option maxHeartbeats 1600000 in
set_option maxRecDepth 100000 in
theorem rsend_x (A : Option Addr) (m cap : Nat) (R : Option Addr) (rc : Nat) (l : List Int) (c : Nat → Int) (w : World) (ok : Nat → Prop) (hr : Kd.F (Kd.int .u8) w ok R l.length l) (hc : l.length ≤ rc) (h3 : 0 ≤ c 3) (h7 : 0 ≤ c 7) (hk : okC c m = false) :
    Calls Try.prog 24 #[.agg (C14 c (.slice A m cap)), .agg #[.slice R l.length rc]] w (SendPost A m cap ok w c l [] false) := by
  have HB := Aside0.mk (Below.refl w.heap.size w)
  have HR := Aside0.mk (Kd.F_bound hr)
  have HC := Aside0.mk hc
  have hu := Try.underlying25
  have hu7 := Try.underlying27
  have HK := Aside0.mk hk
  have H3 := Aside0.mk h3
  have H7 := Aside0.mk h7
  clear h3 h7
  clear hr hc hk
  go_enter Try.func24, Try.ntmps24
  go_upto_region 1 with fail
  obtain ⟨wa, hwa, on0, or0, pn0, pr0, hb_, hz0⟩ := letter4 w (.cells (C14 c (.slice A m cap)) 25 (0, 0)) (.cells #[.slice R l.length rc] 27 (0, 0)) (.cells #[.int .i64 0, .int .i64 0, .int .i64 0, .int .u64 0, .int .i64 0, .int .i64 0, .int .i64 0, .int .u64 0, .int .i64 0, .int .i64 0, .int .i64 0, .int .i64 0, .int .i64 0, .slice none 0 0] 25 (0, 0)) (.cells #[.slice none 0 0] 27 (0, 0))
  rw [hwa]
  clear hwa
  have hzwa := Nat.le_of_eq hz0.symm
  clear hz0
  have on := Aside0.mk on0
  have orr := Aside0.mk or0
  have pn := Aside0.mk pn0
  have pr := Aside0.mk pr0
  clear on0 or0 pn0 pr0
  obtain ⟨onc, onf, onl⟩ := cells_of on.out
  obtain ⟨orrc, orrf, orrl⟩ := cells_of orr.out
  obtain ⟨pnc, pnf, pnl⟩ := cells_of pn.out
  obtain ⟨prc, prf, prl⟩ := cells_of pr.out
  have HB_ : Aside0 (Below w.heap.size w wa) := ⟨hb_⟩
  have HR_ := Aside0.mk (Kd.F_below HR.out hb_)
  clear HB HR hb_; have HB := HB_; have HR := HR_; clear HB_ HR_
  have hc0 : wa.cell? ⟨w.heap.size, 0, none⟩ = some (.int .i64 (c 0)) := (onc 0).trans rfl
  have hc5 : wa.cell? ⟨w.heap.size, 5, none⟩ = some (.int .i64 (c 5)) := (onc 5).trans rfl
  have hc6 : wa.cell? ⟨w.heap.size, 6, none⟩ = some (.int .i64 (c 6)) := (onc 6).trans rfl
  clear onc
  have onc := trivial
  go_wp2_with (first | ((with_reducible refine gate_dst (N := 14) rfl ?_); (try (refine gate_guard (by rfl) ?_; dsimp only)); refine wpList_load_row rfl 25 _ rfl _ (by rfl) _ (C14 c (.slice A m cap)) _ _ (eG on) Try.underlying25 rfl i25 ?_))
  (go_at_call 20; (with_reducible refine (rCheck_of false c A m cap _ H3.out H7.out HK.out).mono ?_); rintro e_ w1 ⟨rfl, hb_⟩; have HB_ : Aside0 (Below w.heap.size w w1) := Aside0.mk (below_step (bG HB) hb_); have hzw1 := hb_.size; (try simp at hzw1); have on_ := Aside0.mk (box_below hb_ (eG on)); have orr_ := Aside0.mk (box_below hb_ (eG orr)); have pn_ := Aside0.mk (box_below hb_ (eG pn)); have pr_ := Aside0.mk (box_below hb_ (eG pr)); have HR_ := Aside0.mk (Kd.F_below (fG HR) hb_); clear HR; have HR := HR_; clear HR_; (try clear on onc onf onl); have on := on_; clear on_; obtain ⟨onc, onf, onl⟩ := cells_of on.out; (try clear orr orrc orrf orrl); have orr := orr_; clear orr_; obtain ⟨orrc, orrf, orrl⟩ := cells_of orr.out; (try clear pn pnc pnf pnl); have pn := pn_; clear pn_; obtain ⟨pnc, pnf, pnl⟩ := cells_of pn.out; (try clear pr prc prf prl); have pr := pr_; clear pr_; obtain ⟨prc, prf, prl⟩ := cells_of pr.out; clear HB hb_; have HB := HB_; clear HB_)
  have hc0 : w1.cell? ⟨w.heap.size, 0, none⟩ = some (.int .i64 (c 0)) := (onc 0).trans rfl
  have hc5 : w1.cell? ⟨w.heap.size, 5, none⟩ = some (.int .i64 (c 5)) := (onc 5).trans rfl
  have hc6 : w1.cell? ⟨w.heap.size, 6, none⟩ = some (.int .i64 (c 6)) := (onc 6).trans rfl
  clear onc
  have onc := trivial
  go_wp2
  refine start_ (n := 6) (S := fun w' => w'.heap[w.heap.size]? = some (.cells (C14 c (.slice A m cap)) 25 (0, 0)) ∧ w'.heap[w.heap.size + 1]? = some (.cells (#[.slice R l.length rc]) 27 (0, 0))) (ds := []) #[false, false, false, false, false, false] (by kernel_rfl) rfl rfl ⟨(eG on), (eG orr)⟩ (fun hHeld => ?_)
  refine rowL_ (i := 0) (N := some 30) #[true, false, false, false, false, false] rfl rfl (by kernel_rfl) 25 _ rfl (w.heap.size) (C14 c (.slice A m cap)) (fun _ _ _ h => h) (by rfl) (by rfl) _ _ _ (fun _ h => h.1) Try.underlying25 rfl i25 hHeld (a' := ?_) ?_ ?_
  rotate_left
  · simp only [Act.put, List.setIfInBounds_toArray, List.set_cons_zero, List.set_cons_succ, i64_w, i32_w]
    rfl
  refine rowL_ (i := 1) (N := some 31) #[true, true, false, false, false, false] rfl rfl (by kernel_rfl) 27 _ rfl (w.heap.size + 1) (#[.slice R l.length rc]) (fun _ _ _ h => h) (by rfl) (by rfl) _ _ _ (fun _ h => h.2) Try.underlying27 rfl i27 hHeld (a' := ?_) ?_ ?_
  rotate_left
  · simp only [Act.put, List.setIfInBounds_toArray, List.set_cons_zero, List.set_cons_succ, i64_w, i32_w]
    rfl
  refine rowS_ (i := 2) #[true, true, true, false, false, false] rfl rfl (by kernel_rfl) (by decide) 25 _ _ rfl (w.heap.size + 1 + 1) (C14 c (.slice A m cap)) (by rfl) (by rfl) (by rfl) (#[.int .i64 0, .int .i64 0, .int .i64 0, .int .u64 0, .int .i64 0, .int .i64 0, .int .i64 0, .int .u64 0, .int .i64 0, .int .i64 0, .int .i64 0, .int .i64 0, .int .i64 0, .slice none 0 0]) 25 (eG pn) rfl i25 (C14_one _ _ _ _) ?_
  (rintro wq1 ⟨hx_, hk_, hb_, hzz_⟩; have HB_ : Aside0 (Below w.heap.size w wq1) := Aside0.mk (Below.trans (bG HB) (Below.mono hb_ (by first | omega | (simp only [sz_alloc, sz_drew, sz_drewN]; omega)))); have hzwq1 := hzz_; (try simp at hzwq1); clear hzz_; have on_ := Aside0.mk (st_put on.out hk_ (fun h_ => (by repeat (with_reducible first | exact h_ | apply ext_drew | apply ext_drewN | apply ext_alloc | refine blk_far ?_ (by show _ ≠ _; dsimp only; omega) _))) (by omega)); clear on onc onf onl; have on := on_; clear on_; obtain ⟨onc, onf, onl⟩ := cells_of on.out; have orr_ := Aside0.mk (st_put orr.out hk_ (fun h_ => (by repeat (with_reducible first | exact h_ | apply ext_drew | apply ext_drewN | apply ext_alloc | refine blk_far ?_ (by show _ ≠ _; dsimp only; omega) _))) (by omega)); clear orr orrc orrf orrl; have orr := orr_; clear orr_; obtain ⟨orrc, orrf, orrl⟩ := cells_of orr.out; have pr_ := Aside0.mk (st_put pr.out hk_ (fun h_ => (by repeat (with_reducible first | exact h_ | apply ext_drew | apply ext_drewN | apply ext_alloc | refine blk_far ?_ (by show _ ≠ _; dsimp only; omega) _))) (by omega)); clear pr prc prf prl; have pr := pr_; clear pr_; obtain ⟨prc, prf, prl⟩ := cells_of pr.out; have HR_ := Aside0.mk (Kd.F_step (fG HR) (fun j_ hj_ hl_ => hk_ j_ (by (try dsimp only at hj_); (try simp only [sz_alloc, sz_drew, sz_drewN, sz_set] at hj_); omega))); clear HR; have HR := HR_; clear HR_; (try clear pn pnc pnf pnl); have pn := Aside0.mk hx_; obtain ⟨pnc, pnf, pnl⟩ := cells_of pn.out; clear HB hb_ hk_ hx_; have HB := HB_; clear HB_)
  refine ⟨⟨(eG on), (eG orr)⟩, ?_⟩
  refine rowS_ (i := 3) #[true, true, true, true, false, false] rfl rfl (by kernel_rfl) (by decide) 27 _ _ rfl (w.heap.size + 1 + 1 + 1) (#[.slice R l.length rc]) (by rfl) (by rfl) (by rfl) (#[.slice none 0 0]) 27 (eG pr) rfl i27 (one27 _ _ _) ?_
  (rintro wq2 ⟨hx_, hk_, hb_, hzz_⟩; have HB_ : Aside0 (Below w.heap.size w wq2) := Aside0.mk (Below.trans (bG HB) (Below.mono hb_ (by first | omega | (simp only [sz_alloc, sz_drew, sz_drewN]; omega)))); have hzwq2 := hzz_; (try simp at hzwq2); clear hzz_; have on_ := Aside0.mk (st_put on.out hk_ (fun h_ => (by repeat (with_reducible first | exact h_ | apply ext_drew | apply ext_drewN | apply ext_alloc | refine blk_far ?_ (by show _ ≠ _; dsimp only; omega) _))) (by omega)); clear on onc onf onl; have on := on_; clear on_; obtain ⟨onc, onf, onl⟩ := cells_of on.out; have orr_ := Aside0.mk (st_put orr.out hk_ (fun h_ => (by repeat (with_reducible first | exact h_ | apply ext_drew | apply ext_drewN | apply ext_alloc | refine blk_far ?_ (by show _ ≠ _; dsimp only; omega) _))) (by omega)); clear orr orrc orrf orrl; have orr := orr_; clear orr_; obtain ⟨orrc, orrf, orrl⟩ := cells_of orr.out; have pn_ := Aside0.mk (st_put pn.out hk_ (fun h_ => (by repeat (with_reducible first | exact h_ | apply ext_drew | apply ext_drewN | apply ext_alloc | refine blk_far ?_ (by show _ ≠ _; dsimp only; omega) _))) (by omega)); clear pn pnc pnf pnl; have pn := pn_; clear pn_; obtain ⟨pnc, pnf, pnl⟩ := cells_of pn.out; have HR_ := Aside0.mk (Kd.F_step (fG HR) (fun j_ hj_ hl_ => hk_ j_ (by (try dsimp only at hj_); (try simp only [sz_alloc, sz_drew, sz_drewN, sz_set] at hj_); omega))); clear HR; have HR := HR_; clear HR_; (try clear pr prc prf prl); have pr := Aside0.mk hx_; obtain ⟨prc, prf, prl⟩ := cells_of pr.out; clear HB hb_ hk_ hx_; have HB := HB_; clear HB_)
  refine ⟨⟨(eG on), (eG orr)⟩, ?_⟩
  refine pure_ (i := 4) (N := some 6) (v := ?_) (a' := ?_) #[true, true, true, true, true, false] rfl rfl (by kernel_rfl) (fun _ _ _ h => h) (Or.inl ⟨by rfl, ?_⟩) ?_ ?_
  rotate_left
  · intro w'
    go_simp
    with_reducible rfl
  rotate_left
  · simp only [Act.put, List.setIfInBounds_toArray, List.set_cons_zero, List.set_cons_succ, i64_w, i32_w]
    rfl
  refine pure_ (i := 5) (N := some 7) (v := ?_) (a' := ?_) #[true, true, true, true, true, true] rfl rfl (by kernel_rfl) (fun _ _ _ h => h) (Or.inl ⟨by rfl, ?_⟩) ?_ ?_
  rotate_left
  · intro w'
    go_simp
    with_reducible rfl
  rotate_left
  · simp only [Act.put, List.setIfInBounds_toArray, List.set_cons_zero, List.set_cons_succ, i64_w, i32_w]
    rfl
  refine done_ (by kernel_rfl) ?_
  go_wp2
  refine bodyPost_ret (results_cctt rfl _ _ (w.heap.size + 1 + 1) (w.heap.size + 1 + 1 + 1) 25 27 (C14 c (.slice A m cap)) #[.slice R l.length rc] (0, 0) (0, 0) _ _ rfl rfl pn.out pr.out Try.underlying25 rfl i25 Try.underlying27 rfl i27) rfl ?_
  exact ⟨R, rc, none, 0, rfl, HC.out, (by refine F_res (ok := ?_) ?_ ?_; rotate_left; (repeat (with_reducible first | exact HR.out | apply Kd.F_drew | apply Kd.F_drewN | apply Kd.F_alloc | refine Kd.F_far ?_ ?_ _)); all_goals (intro j_ hj_; (try dsimp only at hj_); (try dsimp only); (try simp only [sz_alloc, sz_drew, sz_drewN, sz_set] at hj_); first | omega | exact .inl hj_.1 | exact .inl hj_ | exact .inr (by omega) | (rcases hj_ with hj_ | hj_; exact .inl hj_.1; exact .inr (by omega)) | (rcases hj_ with hj_ | hj_; exact .inl hj_; exact .inr (by omega)) | (rcases hj_.1 with hk_ | hk_; (first | exact .inl hk_.1 | exact .inl hk_); exact .inr (by omega)))), Nat.le_refl _, F_nil, (bG HB)⟩
set_option maxHeartbeats 1600000 in
set_option maxRecDepth 100000 in
theorem rsend_ctrl (A : Option Addr) (m cap : Nat) (R : Option Addr) (rc : Nat) (l : List Int) (c : Nat → Int) (w : World) (ok : Nat → Prop) (hr : Kd.F (Kd.int .u8) w ok R l.length l) (hc : l.length ≤ rc) (h3 : 0 ≤ c 3) (h7 : 0 ≤ c 7) (hk : okC c m = true) (hb0 : (Int.tmod (c 0) 2 == 0) = true) :
    Calls Try.prog 24 #[.agg (C14 c (.slice A m cap)), .agg #[.slice R l.length rc]] w (SendPost A m cap ok w c l [] false) := by
  have HB := Aside0.mk (Below.refl w.heap.size w)
  have HR := Aside0.mk (Kd.F_bound hr)
  have HC := Aside0.mk hc
  have hu := Try.underlying25
  have hu7 := Try.underlying27
  have HK := Aside0.mk hk
  have H3 := Aside0.mk h3
  have H7 := Aside0.mk h7
  clear h3 h7
  clear hr hc hk
  go_enter Try.func24, Try.ntmps24
  go_upto_region 1 with fail
  obtain ⟨wa, hwa, on0, or0, pn0, pr0, hb_, hz0⟩ := letter4 w (.cells (C14 c (.slice A m cap)) 25 (0, 0)) (.cells #[.slice R l.length rc] 27 (0, 0)) (.cells #[.int .i64 0, .int .i64 0, .int .i64 0, .int .u64 0, .int .i64 0, .int .i64 0, .int .i64 0, .int .u64 0, .int .i64 0, .int .i64 0, .int .i64 0, .int .i64 0, .int .i64 0, .slice none 0 0] 25 (0, 0)) (.cells #[.slice none 0 0] 27 (0, 0))
  rw [hwa]
  clear hwa
  have hzwa := Nat.le_of_eq hz0.symm
  clear hz0
  have on := Aside0.mk on0
  have orr := Aside0.mk or0
  have pn := Aside0.mk pn0
  have pr := Aside0.mk pr0
  clear on0 or0 pn0 pr0
  obtain ⟨onc, onf, onl⟩ := cells_of on.out
  obtain ⟨orrc, orrf, orrl⟩ := cells_of orr.out
  obtain ⟨pnc, pnf, pnl⟩ := cells_of pn.out
  obtain ⟨prc, prf, prl⟩ := cells_of pr.out
  have HB_ : Aside0 (Below w.heap.size w wa) := ⟨hb_⟩
  have HR_ := Aside0.mk (Kd.F_below HR.out hb_)
  clear HB HR hb_; have HB := HB_; have HR := HR_; clear HB_ HR_
  have hc0 : wa.cell? ⟨w.heap.size, 0, none⟩ = some (.int .i64 (c 0)) := (onc 0).trans rfl
  have hc5 : wa.cell? ⟨w.heap.size, 5, none⟩ = some (.int .i64 (c 5)) := (onc 5).trans rfl
  have hc6 : wa.cell? ⟨w.heap.size, 6, none⟩ = some (.int .i64 (c 6)) := (onc 6).trans rfl
  clear onc
  have onc := trivial
  go_wp2_with (first | ((with_reducible refine gate_dst (N := 14) rfl ?_); (try (refine gate_guard (by rfl) ?_; dsimp only)); refine wpList_load_row rfl 25 _ rfl _ (by rfl) _ (C14 c (.slice A m cap)) _ _ (eG on) Try.underlying25 rfl i25 ?_))
  (go_at_call 20; (with_reducible refine (rCheck_of true c A m cap _ H3.out H7.out HK.out).mono ?_); rintro e_ w1 ⟨rfl, hb_⟩; have HB_ : Aside0 (Below w.heap.size w w1) := Aside0.mk (below_step (bG HB) hb_); have hzw1 := hb_.size; (try simp at hzw1); have on_ := Aside0.mk (box_below hb_ (eG on)); have orr_ := Aside0.mk (box_below hb_ (eG orr)); have pn_ := Aside0.mk (box_below hb_ (eG pn)); have pr_ := Aside0.mk (box_below hb_ (eG pr)); have HR_ := Aside0.mk (Kd.F_below (fG HR) hb_); clear HR; have HR := HR_; clear HR_; (try clear on onc onf onl); have on := on_; clear on_; obtain ⟨onc, onf, onl⟩ := cells_of on.out; (try clear orr orrc orrf orrl); have orr := orr_; clear orr_; obtain ⟨orrc, orrf, orrl⟩ := cells_of orr.out; (try clear pn pnc pnf pnl); have pn := pn_; clear pn_; obtain ⟨pnc, pnf, pnl⟩ := cells_of pn.out; (try clear pr prc prf prl); have pr := pr_; clear pr_; obtain ⟨prc, prf, prl⟩ := cells_of pr.out; clear HB hb_; have HB := HB_; clear HB_)
  have hc0 : w1.cell? ⟨w.heap.size, 0, none⟩ = some (.int .i64 (c 0)) := (onc 0).trans rfl
  have hc5 : w1.cell? ⟨w.heap.size, 5, none⟩ = some (.int .i64 (c 5)) := (onc 5).trans rfl
  have hc6 : w1.cell? ⟨w.heap.size, 6, none⟩ = some (.int .i64 (c 6)) := (onc 6).trans rfl
  clear onc
  have onc := trivial
  go_wp2
  refine start_ (n := 6) (S := fun w' => w'.heap[w.heap.size]? = some (.cells (C14 c (.slice A m cap)) 25 (0, 0)) ∧ w'.heap[w.heap.size + 1]? = some (.cells (#[.slice R l.length rc]) 27 (0, 0))) (ds := []) #[false, false, false, false, false, false] (by kernel_rfl) rfl rfl ⟨(eG on), (eG orr)⟩ (fun hHeld => ?_)
  refine rowL_ (i := 0) (N := some 30) #[true, false, false, false, false, false] rfl rfl (by kernel_rfl) 25 _ rfl (w.heap.size) (C14 c (.slice A m cap)) (fun _ _ _ h => h) (by rfl) (by rfl) _ _ _ (fun _ h => h.1) Try.underlying25 rfl i25 hHeld (a' := ?_) ?_ ?_
  rotate_left
  · simp only [Act.put, List.setIfInBounds_toArray, List.set_cons_zero, List.set_cons_succ, i64_w, i32_w]
    rfl
  refine rowL_ (i := 1) (N := some 31) #[true, true, false, false, false, false] rfl rfl (by kernel_rfl) 27 _ rfl (w.heap.size + 1) (#[.slice R l.length rc]) (fun _ _ _ h => h) (by rfl) (by rfl) _ _ _ (fun _ h => h.2) Try.underlying27 rfl i27 hHeld (a' := ?_) ?_ ?_
  rotate_left
  · simp only [Act.put, List.setIfInBounds_toArray, List.set_cons_zero, List.set_cons_succ, i64_w, i32_w]
    rfl
  refine rowS_ (i := 2) #[true, true, true, false, false, false] rfl rfl (by kernel_rfl) (by decide) 25 _ _ rfl (w.heap.size + 1 + 1) (C14 c (.slice A m cap)) (by rfl) (by rfl) (by rfl) (#[.int .i64 0, .int .i64 0, .int .i64 0, .int .u64 0, .int .i64 0, .int .i64 0, .int .i64 0, .int .u64 0, .int .i64 0, .int .i64 0, .int .i64 0, .int .i64 0, .int .i64 0, .slice none 0 0]) 25 (eG pn) rfl i25 (C14_one _ _ _ _) ?_
  (rintro wq1 ⟨hx_, hk_, hb_, hzz_⟩; have HB_ : Aside0 (Below w.heap.size w wq1) := Aside0.mk (Below.trans (bG HB) (Below.mono hb_ (by first | omega | (simp only [sz_alloc, sz_drew, sz_drewN]; omega)))); have hzwq1 := hzz_; (try simp at hzwq1); clear hzz_; have on_ := Aside0.mk (st_put on.out hk_ (fun h_ => (by repeat (with_reducible first | exact h_ | apply ext_drew | apply ext_drewN | apply ext_alloc | refine blk_far ?_ (by show _ ≠ _; dsimp only; omega) _))) (by omega)); clear on onc onf onl; have on := on_; clear on_; obtain ⟨onc, onf, onl⟩ := cells_of on.out; have orr_ := Aside0.mk (st_put orr.out hk_ (fun h_ => (by repeat (with_reducible first | exact h_ | apply ext_drew | apply ext_drewN | apply ext_alloc | refine blk_far ?_ (by show _ ≠ _; dsimp only; omega) _))) (by omega)); clear orr orrc orrf orrl; have orr := orr_; clear orr_; obtain ⟨orrc, orrf, orrl⟩ := cells_of orr.out; have pr_ := Aside0.mk (st_put pr.out hk_ (fun h_ => (by repeat (with_reducible first | exact h_ | apply ext_drew | apply ext_drewN | apply ext_alloc | refine blk_far ?_ (by show _ ≠ _; dsimp only; omega) _))) (by omega)); clear pr prc prf prl; have pr := pr_; clear pr_; obtain ⟨prc, prf, prl⟩ := cells_of pr.out; have HR_ := Aside0.mk (Kd.F_step (fG HR) (fun j_ hj_ hl_ => hk_ j_ (by (try dsimp only at hj_); (try simp only [sz_alloc, sz_drew, sz_drewN, sz_set] at hj_); omega))); clear HR; have HR := HR_; clear HR_; (try clear pn pnc pnf pnl); have pn := Aside0.mk hx_; obtain ⟨pnc, pnf, pnl⟩ := cells_of pn.out; clear HB hb_ hk_ hx_; have HB := HB_; clear HB_)
  refine ⟨⟨(eG on), (eG orr)⟩, ?_⟩
  refine rowS_ (i := 3) #[true, true, true, true, false, false] rfl rfl (by kernel_rfl) (by decide) 27 _ _ rfl (w.heap.size + 1 + 1 + 1) (#[.slice R l.length rc]) (by rfl) (by rfl) (by rfl) (#[.slice none 0 0]) 27 (eG pr) rfl i27 (one27 _ _ _) ?_
  (rintro wq2 ⟨hx_, hk_, hb_, hzz_⟩; have HB_ : Aside0 (Below w.heap.size w wq2) := Aside0.mk (Below.trans (bG HB) (Below.mono hb_ (by first | omega | (simp only [sz_alloc, sz_drew, sz_drewN]; omega)))); have hzwq2 := hzz_; (try simp at hzwq2); clear hzz_; have on_ := Aside0.mk (st_put on.out hk_ (fun h_ => (by repeat (with_reducible first | exact h_ | apply ext_drew | apply ext_drewN | apply ext_alloc | refine blk_far ?_ (by show _ ≠ _; dsimp only; omega) _))) (by omega)); clear on onc onf onl; have on := on_; clear on_; obtain ⟨onc, onf, onl⟩ := cells_of on.out; have orr_ := Aside0.mk (st_put orr.out hk_ (fun h_ => (by repeat (with_reducible first | exact h_ | apply ext_drew | apply ext_drewN | apply ext_alloc | refine blk_far ?_ (by show _ ≠ _; dsimp only; omega) _))) (by omega)); clear orr orrc orrf orrl; have orr := orr_; clear orr_; obtain ⟨orrc, orrf, orrl⟩ := cells_of orr.out; have pn_ := Aside0.mk (st_put pn.out hk_ (fun h_ => (by repeat (with_reducible first | exact h_ | apply ext_drew | apply ext_drewN | apply ext_alloc | refine blk_far ?_ (by show _ ≠ _; dsimp only; omega) _))) (by omega)); clear pn pnc pnf pnl; have pn := pn_; clear pn_; obtain ⟨pnc, pnf, pnl⟩ := cells_of pn.out; have HR_ := Aside0.mk (Kd.F_step (fG HR) (fun j_ hj_ hl_ => hk_ j_ (by (try dsimp only at hj_); (try simp only [sz_alloc, sz_drew, sz_drewN, sz_set] at hj_); omega))); clear HR; have HR := HR_; clear HR_; (try clear pr prc prf prl); have pr := Aside0.mk hx_; obtain ⟨prc, prf, prl⟩ := cells_of pr.out; clear HB hb_ hk_ hx_; have HB := HB_; clear HB_)
  refine ⟨⟨(eG on), (eG orr)⟩, ?_⟩
  refine pure_ (i := 4) (N := some 6) (v := ?_) (a' := ?_) #[true, true, true, true, true, false] rfl rfl (by kernel_rfl) (fun _ _ _ h => h) (Or.inl ⟨by rfl, ?_⟩) ?_ ?_
  rotate_left
  · intro w'
    go_simp
    with_reducible rfl
  rotate_left
  · simp only [Act.put, List.setIfInBounds_toArray, List.set_cons_zero, List.set_cons_succ, i64_w, i32_w]
    rfl
  refine pure_ (i := 5) (N := some 7) (v := ?_) (a' := ?_) #[true, true, true, true, true, true] rfl rfl (by kernel_rfl) (fun _ _ _ h => h) (Or.inl ⟨by rfl, ?_⟩) ?_ ?_
  rotate_left
  · intro w'
    go_simp
    with_reducible rfl
  rotate_left
  · simp only [Act.put, List.setIfInBounds_toArray, List.set_cons_zero, List.set_cons_succ, i64_w, i32_w]
    rfl
  refine done_ (by kernel_rfl) ?_
  go_wp2
  refine bodyPost_ret (results_cctt rfl _ _ (w.heap.size + 1 + 1) (w.heap.size + 1 + 1 + 1) 25 27 (C14 c (.slice A m cap)) #[.slice R l.length rc] (0, 0) (0, 0) _ _ rfl rfl pn.out pr.out Try.underlying25 rfl i25 Try.underlying27 rfl i27) rfl ?_
  exact ⟨R, rc, none, 0, rfl, HC.out, (by refine F_res (ok := ?_) ?_ ?_; rotate_left; (repeat (with_reducible first | exact HR.out | apply Kd.F_drew | apply Kd.F_drewN | apply Kd.F_alloc | refine Kd.F_far ?_ ?_ _)); all_goals (intro j_ hj_; (try dsimp only at hj_); (try dsimp only); (try simp only [sz_alloc, sz_drew, sz_drewN, sz_set] at hj_); first | omega | exact .inl hj_.1 | exact .inl hj_ | exact .inr (by omega) | (rcases hj_ with hj_ | hj_; exact .inl hj_.1; exact .inr (by omega)) | (rcases hj_ with hj_ | hj_; exact .inl hj_; exact .inr (by omega)) | (rcases hj_.1 with hk_ | hk_; (first | exact .inl hk_.1 | exact .inl hk_); exact .inr (by omega)))), Nat.le_refl _, F_nil, (bG HB)⟩
set_option maxHeartbeats 1600000 in
set_option maxRecDepth 100000 in
theorem rsend_head (A : Option Addr) (m cap : Nat) (R : Option Addr) (rc : Nat) (l : List Int) (c : Nat → Int) (w : World) (ok : Nat → Prop) (hr : Kd.F (Kd.int .u8) w ok R l.length l) (hc : l.length ≤ rc) (h3 : 0 ≤ c 3) (h7 : 0 ≤ c 7) (hk : okC c m = true) (hb0 : (Int.tmod (c 0) 2 == 0) = false) (hb5 : (c 5 == c 6) = true) :
    Calls Try.prog 24 #[.agg (C14 c (.slice A m cap)), .agg #[.slice R l.length rc]] w (SendPost A m cap ok w c l [] false) := by
  have HB := Aside0.mk (Below.refl w.heap.size w)
  have HR := Aside0.mk (Kd.F_bound hr)
  have HC := Aside0.mk hc
  have hu := Try.underlying25
  have hu7 := Try.underlying27
  have HK := Aside0.mk hk
  have H3 := Aside0.mk h3
  have H7 := Aside0.mk h7
  clear h3 h7
  clear hr hc hk
  go_enter Try.func24, Try.ntmps24
  go_upto_region 1 with fail
  obtain ⟨wa, hwa, on0, or0, pn0, pr0, hb_, hz0⟩ := letter4 w (.cells (C14 c (.slice A m cap)) 25 (0, 0)) (.cells #[.slice R l.length rc] 27 (0, 0)) (.cells #[.int .i64 0, .int .i64 0, .int .i64 0, .int .u64 0, .int .i64 0, .int .i64 0, .int .i64 0, .int .u64 0, .int .i64 0, .int .i64 0, .int .i64 0, .int .i64 0, .int .i64 0, .slice none 0 0] 25 (0, 0)) (.cells #[.slice none 0 0] 27 (0, 0))
  rw [hwa]
  clear hwa
  have hzwa := Nat.le_of_eq hz0.symm
  clear hz0
  have on := Aside0.mk on0
  have orr := Aside0.mk or0
  have pn := Aside0.mk pn0
  have pr := Aside0.mk pr0
  clear on0 or0 pn0 pr0
  obtain ⟨onc, onf, onl⟩ := cells_of on.out
  obtain ⟨orrc, orrf, orrl⟩ := cells_of orr.out
  obtain ⟨pnc, pnf, pnl⟩ := cells_of pn.out
  obtain ⟨prc, prf, prl⟩ := cells_of pr.out
  have HB_ : Aside0 (Below w.heap.size w wa) := ⟨hb_⟩
  have HR_ := Aside0.mk (Kd.F_below HR.out hb_)
  clear HB HR hb_; have HB := HB_; have HR := HR_; clear HB_ HR_
  have hc0 : wa.cell? ⟨w.heap.size, 0, none⟩ = some (.int .i64 (c 0)) := (onc 0).trans rfl
  have hc5 : wa.cell? ⟨w.heap.size, 5, none⟩ = some (.int .i64 (c 5)) := (onc 5).trans rfl
  have hc6 : wa.cell? ⟨w.heap.size, 6, none⟩ = some (.int .i64 (c 6)) := (onc 6).trans rfl
  clear onc
  have onc := trivial
  go_wp2_with (first | ((with_reducible refine gate_dst (N := 14) rfl ?_); (try (refine gate_guard (by rfl) ?_; dsimp only)); refine wpList_load_row rfl 25 _ rfl _ (by rfl) _ (C14 c (.slice A m cap)) _ _ (eG on) Try.underlying25 rfl i25 ?_))
  (go_at_call 20; (with_reducible refine (rCheck_of true c A m cap _ H3.out H7.out HK.out).mono ?_); rintro e_ w1 ⟨rfl, hb_⟩; have HB_ : Aside0 (Below w.heap.size w w1) := Aside0.mk (below_step (bG HB) hb_); have hzw1 := hb_.size; (try simp at hzw1); have on_ := Aside0.mk (box_below hb_ (eG on)); have orr_ := Aside0.mk (box_below hb_ (eG orr)); have pn_ := Aside0.mk (box_below hb_ (eG pn)); have pr_ := Aside0.mk (box_below hb_ (eG pr)); have HR_ := Aside0.mk (Kd.F_below (fG HR) hb_); clear HR; have HR := HR_; clear HR_; (try clear on onc onf onl); have on := on_; clear on_; obtain ⟨onc, onf, onl⟩ := cells_of on.out; (try clear orr orrc orrf orrl); have orr := orr_; clear orr_; obtain ⟨orrc, orrf, orrl⟩ := cells_of orr.out; (try clear pn pnc pnf pnl); have pn := pn_; clear pn_; obtain ⟨pnc, pnf, pnl⟩ := cells_of pn.out; (try clear pr prc prf prl); have pr := pr_; clear pr_; obtain ⟨prc, prf, prl⟩ := cells_of pr.out; clear HB hb_; have HB := HB_; clear HB_)
  have hc0 : w1.cell? ⟨w.heap.size, 0, none⟩ = some (.int .i64 (c 0)) := (onc 0).trans rfl
  have hc5 : w1.cell? ⟨w.heap.size, 5, none⟩ = some (.int .i64 (c 5)) := (onc 5).trans rfl
  have hc6 : w1.cell? ⟨w.heap.size, 6, none⟩ = some (.int .i64 (c 6)) := (onc 6).trans rfl
  clear onc
  have onc := trivial
  go_wp2
  refine start_ (n := 6) (S := fun w' => w'.heap[w.heap.size]? = some (.cells (C14 c (.slice A m cap)) 25 (0, 0)) ∧ w'.heap[w.heap.size + 1]? = some (.cells (#[.slice R l.length rc]) 27 (0, 0))) (ds := []) #[false, false, false, false, false, false] (by kernel_rfl) rfl rfl ⟨(eG on), (eG orr)⟩ (fun hHeld => ?_)
  refine rowL_ (i := 0) (N := some 30) #[true, false, false, false, false, false] rfl rfl (by kernel_rfl) 25 _ rfl (w.heap.size) (C14 c (.slice A m cap)) (fun _ _ _ h => h) (by rfl) (by rfl) _ _ _ (fun _ h => h.1) Try.underlying25 rfl i25 hHeld (a' := ?_) ?_ ?_
  rotate_left
  · simp only [Act.put, List.setIfInBounds_toArray, List.set_cons_zero, List.set_cons_succ, i64_w, i32_w]
    rfl
  refine rowL_ (i := 1) (N := some 31) #[true, true, false, false, false, false] rfl rfl (by kernel_rfl) 27 _ rfl (w.heap.size + 1) (#[.slice R l.length rc]) (fun _ _ _ h => h) (by rfl) (by rfl) _ _ _ (fun _ h => h.2) Try.underlying27 rfl i27 hHeld (a' := ?_) ?_ ?_
  rotate_left
  · simp only [Act.put, List.setIfInBounds_toArray, List.set_cons_zero, List.set_cons_succ, i64_w, i32_w]
    rfl
  refine rowS_ (i := 2) #[true, true, true, false, false, false] rfl rfl (by kernel_rfl) (by decide) 25 _ _ rfl (w.heap.size + 1 + 1) (C14 c (.slice A m cap)) (by rfl) (by rfl) (by rfl) (#[.int .i64 0, .int .i64 0, .int .i64 0, .int .u64 0, .int .i64 0, .int .i64 0, .int .i64 0, .int .u64 0, .int .i64 0, .int .i64 0, .int .i64 0, .int .i64 0, .int .i64 0, .slice none 0 0]) 25 (eG pn) rfl i25 (C14_one _ _ _ _) ?_
  (rintro wq1 ⟨hx_, hk_, hb_, hzz_⟩; have HB_ : Aside0 (Below w.heap.size w wq1) := Aside0.mk (Below.trans (bG HB) (Below.mono hb_ (by first | omega | (simp only [sz_alloc, sz_drew, sz_drewN]; omega)))); have hzwq1 := hzz_; (try simp at hzwq1); clear hzz_; have on_ := Aside0.mk (st_put on.out hk_ (fun h_ => (by repeat (with_reducible first | exact h_ | apply ext_drew | apply ext_drewN | apply ext_alloc | refine blk_far ?_ (by show _ ≠ _; dsimp only; omega) _))) (by omega)); clear on onc onf onl; have on := on_; clear on_; obtain ⟨onc, onf, onl⟩ := cells_of on.out; have orr_ := Aside0.mk (st_put orr.out hk_ (fun h_ => (by repeat (with_reducible first | exact h_ | apply ext_drew | apply ext_drewN | apply ext_alloc | refine blk_far ?_ (by show _ ≠ _; dsimp only; omega) _))) (by omega)); clear orr orrc orrf orrl; have orr := orr_; clear orr_; obtain ⟨orrc, orrf, orrl⟩ := cells_of orr.out; have pr_ := Aside0.mk (st_put pr.out hk_ (fun h_ => (by repeat (with_reducible first | exact h_ | apply ext_drew | apply ext_drewN | apply ext_alloc | refine blk_far ?_ (by show _ ≠ _; dsimp only; omega) _))) (by omega)); clear pr prc prf prl; have pr := pr_; clear pr_; obtain ⟨prc, prf, prl⟩ := cells_of pr.out; have HR_ := Aside0.mk (Kd.F_step (fG HR) (fun j_ hj_ hl_ => hk_ j_ (by (try dsimp only at hj_); (try simp only [sz_alloc, sz_drew, sz_drewN, sz_set] at hj_); omega))); clear HR; have HR := HR_; clear HR_; (try clear pn pnc pnf pnl); have pn := Aside0.mk hx_; obtain ⟨pnc, pnf, pnl⟩ := cells_of pn.out; clear HB hb_ hk_ hx_; have HB := HB_; clear HB_)
  refine ⟨⟨(eG on), (eG orr)⟩, ?_⟩
  refine rowS_ (i := 3) #[true, true, true, true, false, false] rfl rfl (by kernel_rfl) (by decide) 27 _ _ rfl (w.heap.size + 1 + 1 + 1) (#[.slice R l.length rc]) (by rfl) (by rfl) (by rfl) (#[.slice none 0 0]) 27 (eG pr) rfl i27 (one27 _ _ _) ?_
  (rintro wq2 ⟨hx_, hk_, hb_, hzz_⟩; have HB_ : Aside0 (Below w.heap.size w wq2) := Aside0.mk (Below.trans (bG HB) (Below.mono hb_ (by first | omega | (simp only [sz_alloc, sz_drew, sz_drewN]; omega)))); have hzwq2 := hzz_; (try simp at hzwq2); clear hzz_; have on_ := Aside0.mk (st_put on.out hk_ (fun h_ => (by repeat (with_reducible first | exact h_ | apply ext_drew | apply ext_drewN | apply ext_alloc | refine blk_far ?_ (by show _ ≠ _; dsimp only; omega) _))) (by omega)); clear on onc onf onl; have on := on_; clear on_; obtain ⟨onc, onf, onl⟩ := cells_of on.out; have orr_ := Aside0.mk (st_put orr.out hk_ (fun h_ => (by repeat (with_reducible first | exact h_ | apply ext_drew | apply ext_drewN | apply ext_alloc | refine blk_far ?_ (by show _ ≠ _; dsimp only; omega) _))) (by omega)); clear orr orrc orrf orrl; have orr := orr_; clear orr_; obtain ⟨orrc, orrf, orrl⟩ := cells_of orr.out; have pn_ := Aside0.mk (st_put pn.out hk_ (fun h_ => (by repeat (with_reducible first | exact h_ | apply ext_drew | apply ext_drewN | apply ext_alloc | refine blk_far ?_ (by show _ ≠ _; dsimp only; omega) _))) (by omega)); clear pn pnc pnf pnl; have pn := pn_; clear pn_; obtain ⟨pnc, pnf, pnl⟩ := cells_of pn.out; have HR_ := Aside0.mk (Kd.F_step (fG HR) (fun j_ hj_ hl_ => hk_ j_ (by (try dsimp only at hj_); (try simp only [sz_alloc, sz_drew, sz_drewN, sz_set] at hj_); omega))); clear HR; have HR := HR_; clear HR_; (try clear pr prc prf prl); have pr := Aside0.mk hx_; obtain ⟨prc, prf, prl⟩ := cells_of pr.out; clear HB hb_ hk_ hx_; have HB := HB_; clear HB_)
  refine ⟨⟨(eG on), (eG orr)⟩, ?_⟩
  refine pure_ (i := 4) (N := some 6) (v := ?_) (a' := ?_) #[true, true, true, true, true, false] rfl rfl (by kernel_rfl) (fun _ _ _ h => h) (Or.inl ⟨by rfl, ?_⟩) ?_ ?_
  rotate_left
  · intro w'
    go_simp
    with_reducible rfl
  rotate_left
  · simp only [Act.put, List.setIfInBounds_toArray, List.set_cons_zero, List.set_cons_succ, i64_w, i32_w]
    rfl
  refine pure_ (i := 5) (N := some 7) (v := ?_) (a' := ?_) #[true, true, true, true, true, true] rfl rfl (by kernel_rfl) (fun _ _ _ h => h) (Or.inl ⟨by rfl, ?_⟩) ?_ ?_
  rotate_left
  · intro w'
    go_simp
    with_reducible rfl
  rotate_left
  · simp only [Act.put, List.setIfInBounds_toArray, List.set_cons_zero, List.set_cons_succ, i64_w, i32_w]
    rfl
  refine done_ (by kernel_rfl) ?_
  go_wp2
  refine bodyPost_ret (results_cctt rfl _ _ (w.heap.size + 1 + 1) (w.heap.size + 1 + 1 + 1) 25 27 (C14 c (.slice A m cap)) #[.slice R l.length rc] (0, 0) (0, 0) _ _ rfl rfl pn.out pr.out Try.underlying25 rfl i25 Try.underlying27 rfl i27) rfl ?_
  exact ⟨R, rc, none, 0, rfl, HC.out, (by refine F_res (ok := ?_) ?_ ?_; rotate_left; (repeat (with_reducible first | exact HR.out | apply Kd.F_drew | apply Kd.F_drewN | apply Kd.F_alloc | refine Kd.F_far ?_ ?_ _)); all_goals (intro j_ hj_; (try dsimp only at hj_); (try dsimp only); (try simp only [sz_alloc, sz_drew, sz_drewN, sz_set] at hj_); first | omega | exact .inl hj_.1 | exact .inl hj_ | exact .inr (by omega) | (rcases hj_ with hj_ | hj_; exact .inl hj_.1; exact .inr (by omega)) | (rcases hj_ with hj_ | hj_; exact .inl hj_; exact .inr (by omega)) | (rcases hj_.1 with hk_ | hk_; (first | exact .inl hk_.1 | exact .inl hk_); exact .inr (by omega)))), Nat.le_refl _, F_nil, (bG HB)⟩
end Go.Proofs.Ytdblpflepfcnjaa.Q
end
section
/- The document's Send: the descriptor is not memory. -/
namespace Go.Proofs.Ytdblpflepfcnjaa.Q
open Go.RowKit Go.Proofs.YtdblpflepfcnjaaW.PrintWords Go.Proofs.YtdblpflepfcnjaaW.PrintLast Go.Proofs.YtdblpflepfcnjaaW.PrintMore Go.Proofs.Ytdblpflepfcnjaa.L
attribute [local go_sem] Instr.field part asAgg lt_step max2_int min2_int max_two min_two max_three min_three max_four min_four lt_0_1 lt_0_2 lt_1_2 lt_0_3 lt_1_3 lt_2_3 lt_0_4 lt_1_4 lt_2_4 lt_3_4 lt_0_5 lt_1_5 lt_2_5 lt_3_5 lt_4_5 lt_0_6 lt_1_6 lt_2_6 lt_3_6 lt_4_6 lt_5_6 lt_0_7 lt_1_7 lt_2_7 lt_3_7 lt_4_7 lt_5_7 lt_6_7 lt_0_8 lt_1_8 lt_2_8 lt_3_8 lt_4_8 lt_5_8 lt_6_8 lt_7_8
set_option linter.unusedVariables false
set_option linter.unusedSimpArgs false
theorem i64B16 : i64B 16 := ⟨by decide, by decide⟩
theorem rbytes_any (A : Option Addr) (cap : Nat) (l : List Int) (a k : Int) (fr : List Int) (b : Bool) (w : World) (hr : Kd.C (Kd.int .u8) w A l.length l) (hc : l.length ≤ cap) (ha : u64B a) (hk : i64B k) (hl : (l.length : Int) ≤ 70000) (hp : bytesZ l a k = (fr, b)) :
    Calls Try.prog 37 #[.agg #[.slice A l.length cap], .int .u64 a, .int .i64 k] w fun e w' => ∃ v, e = .returned (.tuple #[v, .bool b]) ∧ Kd.R (Kd.int .u8) 5 w' w.heap.size (fun _ => True) v fr ∧ Below w.heap.size w w' := by
  have hb := refBytes_is l a k ha hk hl
  rw [hp] at hb
  exact drawbridgeref07_Bytes.calls A cap l a k fr b w hr hc hb
set_option maxHeartbeats 1600000 in
set_option maxRecDepth 100000 in
theorem rsend_nodesc (A : Option Addr) (m cap : Nat) (R : Option Addr) (rc : Nat) (l : List Int) (c : Nat → Int) (w : World) (ok : Nat → Prop) (hr : Kd.F (Kd.int .u8) w ok R l.length l) (hc : l.length ≤ rc) (at_ : Int) (hk : okC c m = true) (hb0 : (Int.tmod (c 0) 2 == 0) = false) (hb5 : (c 5 == c 6) = false) (hat : IntKind.u64.wrap (c 3 + IntKind.u64.wrap (16 * IntKind.u64.wrap (c 5))) = at_) (ha : u64B at_) (hl : (l.length : Int) ≤ 70000) (h3 : 0 ≤ c 3) (h7 : 0 ≤ c 7) (hp : bytesZ l at_ 16 = ([], false)) (hsub : wrap64 (c 0 - 1) = Go.bits .andNot .i64 (c 0) 1) :
    Calls Try.prog 24 #[.agg (C14 c (.slice A m cap)), .agg #[.slice R l.length rc]] w (SendPost A m cap ok w (failC (upd c 0 (Go.bits .andNot .i64 (c 0) 1))) l [] true) := by
  have HB := Aside0.mk (Below.refl w.heap.size w)
  have HR := Aside0.mk (Kd.F_bound hr)
  have HC := Aside0.mk hc
  have hu := Try.underlying25
  have hu7 := Try.underlying27
  have HK := Aside0.mk hk
  have HA := Aside0.mk ha
  have HL := Aside0.mk hl
  have H3 := Aside0.mk h3
  have H7 := Aside0.mk h7
  clear h3 h7
  have HP := Aside0.mk hp
  clear hp
  clear hr hc hk ha hl
  go_enter Try.func24, Try.ntmps24
  go_upto_region 1 with fail
  obtain ⟨wa, hwa, on0, or0, pn0, pr0, hb_, hz0⟩ := letter4 w (.cells (C14 c (.slice A m cap)) 25 (0, 0)) (.cells #[.slice R l.length rc] 27 (0, 0)) (.cells #[.int .i64 0, .int .i64 0, .int .i64 0, .int .u64 0, .int .i64 0, .int .i64 0, .int .i64 0, .int .u64 0, .int .i64 0, .int .i64 0, .int .i64 0, .int .i64 0, .int .i64 0, .slice none 0 0] 25 (0, 0)) (.cells #[.slice none 0 0] 27 (0, 0))
  rw [hwa]
  clear hwa
  have hzwa := Nat.le_of_eq hz0.symm
  clear hz0
  have on := Aside0.mk on0
  have orr := Aside0.mk or0
  have pn := Aside0.mk pn0
  have pr := Aside0.mk pr0
  clear on0 or0 pn0 pr0
  obtain ⟨onc, onf, onl⟩ := cells_of on.out
  obtain ⟨orrc, orrf, orrl⟩ := cells_of orr.out
  obtain ⟨pnc, pnf, pnl⟩ := cells_of pn.out
  obtain ⟨prc, prf, prl⟩ := cells_of pr.out
  have HB_ : Aside0 (Below w.heap.size w wa) := ⟨hb_⟩
  have HR_ := Aside0.mk (Kd.F_below HR.out hb_)
  clear HB HR hb_; have HB := HB_; have HR := HR_; clear HB_ HR_
  have hc0 : World.cell? wa ⟨w.heap.size, 0, none⟩ = some (.int .i64 (c 0)) := (onc 0).trans rfl
  have hc5 : World.cell? wa ⟨w.heap.size, 5, none⟩ = some (.int .i64 (c 5)) := (onc 5).trans rfl
  have hc6 : World.cell? wa ⟨w.heap.size, 6, none⟩ = some (.int .i64 (c 6)) := (onc 6).trans rfl
  clear onc
  have onc := trivial
  go_wp2_with (first | ((with_reducible refine gate_dst (N := 14) rfl ?_); (try (refine gate_guard (by rfl) ?_; dsimp only)); refine wpList_load_row rfl 25 _ rfl _ (by rfl) _ (C14 c (.slice A m cap)) _ _ (eG on) Try.underlying25 rfl i25 ?_))
  (go_at_call 20; (with_reducible refine (rCheck_of true c A m cap _ H3.out H7.out HK.out).mono ?_); rintro e_ w1 ⟨rfl, hb_⟩; have HB_ : Aside0 (Below w.heap.size w w1) := Aside0.mk (below_step (bG HB) hb_); have hzw1 := hb_.size; (try simp at hzw1); have on_ := Aside0.mk (box_below hb_ (eG on)); have orr_ := Aside0.mk (box_below hb_ (eG orr)); have pn_ := Aside0.mk (box_below hb_ (eG pn)); have pr_ := Aside0.mk (box_below hb_ (eG pr)); have HR_ := Aside0.mk (Kd.F_below (fG HR) hb_); clear HR; have HR := HR_; clear HR_; (try clear on onc onf onl); have on := on_; clear on_; obtain ⟨onc, onf, onl⟩ := cells_of on.out; (try clear orr orrc orrf orrl); have orr := orr_; clear orr_; obtain ⟨orrc, orrf, orrl⟩ := cells_of orr.out; (try clear pn pnc pnf pnl); have pn := pn_; clear pn_; obtain ⟨pnc, pnf, pnl⟩ := cells_of pn.out; (try clear pr prc prf prl); have pr := pr_; clear pr_; obtain ⟨prc, prf, prl⟩ := cells_of pr.out; clear HB hb_; have HB := HB_; clear HB_)
  clear hc0 hc5 hc6
  have hc0 : World.cell? w1 ⟨w.heap.size, 0, none⟩ = some (.int .i64 (c 0)) := (onc 0).trans rfl
  have hc3 : World.cell? w1 ⟨w.heap.size, 3, none⟩ = some (.int .u64 (c 3)) := (onc 3).trans rfl
  have hc5 : World.cell? w1 ⟨w.heap.size, 5, none⟩ = some (.int .i64 (c 5)) := (onc 5).trans rfl
  have hc6 : World.cell? w1 ⟨w.heap.size, 6, none⟩ = some (.int .i64 (c 6)) := (onc 6).trans rfl
  clear onc
  have onc := trivial
  go_wp2_with fail
  (go_at_call 37; (with_reducible refine (rbytes_any R rc l at_ 16 [] false _ (Kd.F_now HR.out) HC.out HA.out i64B16 HL.out HP.out).mono ?_); rintro e_ w2 ⟨v_q, rfl, hr_q, hb_⟩; have HB_ : Aside0 (Below w.heap.size w w2) := Aside0.mk (below_step (bG HB) hb_); have hzw2 := hb_.size; (try simp at hzw2); have on_ := Aside0.mk (box_below hb_ (eG on)); have orr_ := Aside0.mk (box_below hb_ (eG orr)); have pn_ := Aside0.mk (box_below hb_ (eG pn)); have pr_ := Aside0.mk (box_below hb_ (eG pr)); have HR_ := Aside0.mk (Kd.F_below (fG HR) hb_); clear HR; have HR := HR_; clear HR_; (try clear on onc onf onl); have on := on_; clear on_; obtain ⟨onc, onf, onl⟩ := cells_of on.out; (try clear orr orrc orrf orrl); have orr := orr_; clear orr_; obtain ⟨orrc, orrf, orrl⟩ := cells_of orr.out; (try clear pn pnc pnf pnl); have pn := pn_; clear pn_; obtain ⟨pnc, pnf, pnl⟩ := cells_of pn.out; (try clear pr prc prf prl); have pr := pr_; clear pr_; obtain ⟨prc, prf, prl⟩ := cells_of pr.out; clear HB hb_; have HB := HB_; clear HB_; obtain ⟨A_q, c_q, ev_, hc_q, hf_q⟩ := R_Fl hr_q; subst ev_; have qc := Aside0.mk hc_q; have q := Aside0.mk (Kd.F_bound hf_q); clear hc_q hf_q hr_q; skip)
  clear hc0 hc3 hc5 hc6
  have hc0 : World.cell? w2 ⟨w.heap.size, 0, none⟩ = some (.int .i64 (c 0)) := (onc 0).trans rfl
  clear onc
  have onc := trivial
  go_upto_region 7 with fail
  (have HR_ := Aside0.mk (Kd.F_far (p := ⟨w.heap.size, 0, none⟩) HR.out (fun j_ hj_ => by (try dsimp only at hj_); (try dsimp only); (try simp only [sz_alloc, sz_drew, sz_drewN, sz_set] at hj_); omega) (.int .i64 (Go.bits .andNot .i64 (c 0) 1))); clear HR; have HR := HR_; clear HR_; have orr_ := Aside0.mk (blk_far (p := ⟨w.heap.size, 0, none⟩) orr.out (by show _ ≠ _; dsimp only; omega) (.int .i64 (Go.bits .andNot .i64 (c 0) 1))); clear orr orrc orrf orrl; have orr := orr_; clear orr_; obtain ⟨orrc, orrf, orrl⟩ := cells_of orr.out; have pn_ := Aside0.mk (blk_far (p := ⟨w.heap.size, 0, none⟩) pn.out (by show _ ≠ _; dsimp only; omega) (.int .i64 (Go.bits .andNot .i64 (c 0) 1))); clear pn pnc pnf pnl; have pn := pn_; clear pn_; obtain ⟨pnc, pnf, pnl⟩ := cells_of pn.out; have pr_ := Aside0.mk (blk_far (p := ⟨w.heap.size, 0, none⟩) pr.out (by show _ ≠ _; dsimp only; omega) (.int .i64 (Go.bits .andNot .i64 (c 0) 1))); clear pr prc prf prl; have pr := pr_; clear pr_; obtain ⟨prc, prf, prl⟩ := cells_of pr.out; have on_ := Aside0.mk (blk_put on.out 0 (.int .i64 (Go.bits .andNot .i64 (c 0) 1)) (cs' := C14 (upd c 0 (Go.bits .andNot .i64 (c 0) 1)) (.slice A m cap)) rfl); clear on onc onf onl; have on := on_; clear on_; obtain ⟨onc, onf, onl⟩ := cells_of on.out)
  clear hc0
  refine start_ (n := 7) (S := fun w' => w'.heap[w.heap.size]? = some (.cells (C14 (upd c 0 (Go.bits .andNot .i64 (c 0) 1)) (.slice A m cap)) 25 (0, 0)) ∧ w'.heap[w.heap.size + 1]? = some (.cells (#[.slice R l.length rc]) 27 (0, 0))) (ds := []) #[false, false, false, false, false, false, false] (by kernel_rfl) rfl rfl ⟨(eG on), (eG orr)⟩ (fun hHeld => ?_)
  refine rowL_ (i := 0) (N := some 51) #[true, false, false, false, false, false, false] rfl rfl (by kernel_rfl) 25 _ rfl (w.heap.size) (C14 (upd c 0 (Go.bits .andNot .i64 (c 0) 1)) (.slice A m cap)) (fun _ _ _ h => h) (by rfl) (by rfl) _ _ _ (fun _ h => h.1) Try.underlying25 rfl i25 hHeld (a' := ?_) ?_ ?_
  rotate_left
  · simp only [Act.put, List.setIfInBounds_toArray, List.set_cons_zero, List.set_cons_succ, i64_w, i32_w]
    rfl
  refine rowL_ (i := 2) (N := some 53) #[true, false, true, false, false, false, false] rfl rfl (by kernel_rfl) 27 _ rfl (w.heap.size + 1) (#[.slice R l.length rc]) (fun _ _ _ h => h) (by rfl) (by rfl) _ _ _ (fun _ h => h.2) Try.underlying27 rfl i27 hHeld (a' := ?_) ?_ ?_
  rotate_left
  · simp only [Act.put, List.setIfInBounds_toArray, List.set_cons_zero, List.set_cons_succ, i64_w, i32_w]
    rfl
  refine one_ (i := 1) (N := some 52) #[true, true, true, false, false, false, false] rfl rfl (by kernel_rfl) (by decide) (fun K hK => ?_)
  (refine goes_ Try.func43 (by kernel_rfl) rfl #[.agg (C14 (upd c 0 (Go.bits .andNot .i64 (c 0) 1)) (.slice A m cap))] (by rfl) rfl rfl (by (try simp only [List.map_toArray, List.map_cons, List.map_nil]); first | done | rfl) ?_; (with_reducible refine (rwrong_is (upd c 0 (Go.bits .andNot .i64 (c 0) 1)) A m cap _).mono ?_); rintro e_ wq1 ⟨rfl, hb_⟩; refine ⟨_, rfl, ?_⟩; have HB_ : Aside0 (Below w.heap.size w wq1) := Aside0.mk (below_step (bG HB) hb_); have hzwq1 := hb_.size; (try simp at hzwq1); have on_ := Aside0.mk (box_below hb_ (eG on)); have orr_ := Aside0.mk (box_below hb_ (eG orr)); have pn_ := Aside0.mk (box_below hb_ (eG pn)); have pr_ := Aside0.mk (box_below hb_ (eG pr)); have HR_ := Aside0.mk (Kd.F_below (fG HR) hb_); clear HR; have HR := HR_; clear HR_; (try clear on onc onf onl); have on := on_; clear on_; obtain ⟨onc, onf, onl⟩ := cells_of on.out; (try clear orr orrc orrf orrl); have orr := orr_; clear orr_; obtain ⟨orrc, orrf, orrl⟩ := cells_of orr.out; (try clear pn pnc pnf pnl); have pn := pn_; clear pn_; obtain ⟨pnc, pnf, pnl⟩ := cells_of pn.out; (try clear pr prc prf prl); have pr := pr_; clear pr_; obtain ⟨prc, prf, prl⟩ := cells_of pr.out; clear HB hb_; have HB := HB_; clear HB_)
  refine hK.out _ _ ⟨(eG on), (eG orr)⟩ (fun hHeld => ?_)
  clear hK K
  refine norm_ (a' := ?_) ?_ ?_
  rotate_left
  · simp only [Act.put, List.setIfInBounds_toArray, List.set_cons_zero, List.set_cons_succ, i64_w, i32_w]
    rfl
  refine rowS_ (i := 3) #[true, true, true, true, false, false, false] rfl rfl (by kernel_rfl) (by decide) 25 _ _ rfl (w.heap.size + 1 + 1) (C14 (failC (upd c 0 (Go.bits .andNot .i64 (c 0) 1))) (.slice A m cap)) (by rfl) (by rfl) (by rfl) (#[.int .i64 0, .int .i64 0, .int .i64 0, .int .u64 0, .int .i64 0, .int .i64 0, .int .i64 0, .int .u64 0, .int .i64 0, .int .i64 0, .int .i64 0, .int .i64 0, .int .i64 0, .slice none 0 0]) 25 (eG pn) rfl i25 (C14_one _ _ _ _) ?_
  (rintro wq2 ⟨hx_, hk_, hb_, hzz_⟩; have HB_ : Aside0 (Below w.heap.size w wq2) := Aside0.mk (Below.trans (bG HB) (Below.mono hb_ (by first | omega | (simp only [sz_alloc, sz_drew, sz_drewN]; omega)))); have hzwq2 := hzz_; (try simp at hzwq2); clear hzz_; have on_ := Aside0.mk (st_put on.out hk_ (fun h_ => (by repeat (with_reducible first | exact h_ | apply ext_drew | apply ext_drewN | apply ext_alloc | refine blk_far ?_ (by show _ ≠ _; dsimp only; omega) _))) (by omega)); clear on onc onf onl; have on := on_; clear on_; obtain ⟨onc, onf, onl⟩ := cells_of on.out; have orr_ := Aside0.mk (st_put orr.out hk_ (fun h_ => (by repeat (with_reducible first | exact h_ | apply ext_drew | apply ext_drewN | apply ext_alloc | refine blk_far ?_ (by show _ ≠ _; dsimp only; omega) _))) (by omega)); clear orr orrc orrf orrl; have orr := orr_; clear orr_; obtain ⟨orrc, orrf, orrl⟩ := cells_of orr.out; have pr_ := Aside0.mk (st_put pr.out hk_ (fun h_ => (by repeat (with_reducible first | exact h_ | apply ext_drew | apply ext_drewN | apply ext_alloc | refine blk_far ?_ (by show _ ≠ _; dsimp only; omega) _))) (by omega)); clear pr prc prf prl; have pr := pr_; clear pr_; obtain ⟨prc, prf, prl⟩ := cells_of pr.out; have HR_ := Aside0.mk (Kd.F_step (fG HR) (fun j_ hj_ hl_ => hk_ j_ (by (try dsimp only at hj_); (try simp only [sz_alloc, sz_drew, sz_drewN, sz_set] at hj_); omega))); clear HR; have HR := HR_; clear HR_; (try clear pn pnc pnf pnl); have pn := Aside0.mk hx_; obtain ⟨pnc, pnf, pnl⟩ := cells_of pn.out; clear HB hb_ hk_ hx_; have HB := HB_; clear HB_)
  refine ⟨⟨(eG on), (eG orr)⟩, ?_⟩
  refine rowS_ (i := 4) #[true, true, true, true, true, false, false] rfl rfl (by kernel_rfl) (by decide) 27 _ _ rfl (w.heap.size + 1 + 1 + 1) (#[.slice R l.length rc]) (by rfl) (by rfl) (by rfl) (#[.slice none 0 0]) 27 (eG pr) rfl i27 (one27 _ _ _) ?_
  (rintro wq3 ⟨hx_, hk_, hb_, hzz_⟩; have HB_ : Aside0 (Below w.heap.size w wq3) := Aside0.mk (Below.trans (bG HB) (Below.mono hb_ (by first | omega | (simp only [sz_alloc, sz_drew, sz_drewN]; omega)))); have hzwq3 := hzz_; (try simp at hzwq3); clear hzz_; have on_ := Aside0.mk (st_put on.out hk_ (fun h_ => (by repeat (with_reducible first | exact h_ | apply ext_drew | apply ext_drewN | apply ext_alloc | refine blk_far ?_ (by show _ ≠ _; dsimp only; omega) _))) (by omega)); clear on onc onf onl; have on := on_; clear on_; obtain ⟨onc, onf, onl⟩ := cells_of on.out; have orr_ := Aside0.mk (st_put orr.out hk_ (fun h_ => (by repeat (with_reducible first | exact h_ | apply ext_drew | apply ext_drewN | apply ext_alloc | refine blk_far ?_ (by show _ ≠ _; dsimp only; omega) _))) (by omega)); clear orr orrc orrf orrl; have orr := orr_; clear orr_; obtain ⟨orrc, orrf, orrl⟩ := cells_of orr.out; have pn_ := Aside0.mk (st_put pn.out hk_ (fun h_ => (by repeat (with_reducible first | exact h_ | apply ext_drew | apply ext_drewN | apply ext_alloc | refine blk_far ?_ (by show _ ≠ _; dsimp only; omega) _))) (by omega)); clear pn pnc pnf pnl; have pn := pn_; clear pn_; obtain ⟨pnc, pnf, pnl⟩ := cells_of pn.out; have HR_ := Aside0.mk (Kd.F_step (fG HR) (fun j_ hj_ hl_ => hk_ j_ (by (try dsimp only at hj_); (try simp only [sz_alloc, sz_drew, sz_drewN, sz_set] at hj_); omega))); clear HR; have HR := HR_; clear HR_; (try clear pr prc prf prl); have pr := Aside0.mk hx_; obtain ⟨prc, prf, prl⟩ := cells_of pr.out; clear HB hb_ hk_ hx_; have HB := HB_; clear HB_)
  refine ⟨⟨(eG on), (eG orr)⟩, ?_⟩
  refine pure_ (i := 5) (N := some 6) (v := ?_) (a' := ?_) #[true, true, true, true, true, true, false] rfl rfl (by kernel_rfl) (fun _ _ _ h => h) (Or.inl ⟨by rfl, ?_⟩) ?_ ?_
  rotate_left
  · intro w'
    go_simp
    with_reducible rfl
  rotate_left
  · simp only [Act.put, List.setIfInBounds_toArray, List.set_cons_zero, List.set_cons_succ, i64_w, i32_w]
    rfl
  refine pure_ (i := 6) (N := some 7) (v := ?_) (a' := ?_) #[true, true, true, true, true, true, true] rfl rfl (by kernel_rfl) (fun _ _ _ h => h) (Or.inl ⟨by rfl, ?_⟩) ?_ ?_
  rotate_left
  · intro w'
    go_simp
    with_reducible rfl
  rotate_left
  · simp only [Act.put, List.setIfInBounds_toArray, List.set_cons_zero, List.set_cons_succ, i64_w, i32_w]
    rfl
  refine done_ (by kernel_rfl) ?_
  go_wp2
  refine bodyPost_ret (results_cctt rfl _ _ (w.heap.size + 1 + 1) (w.heap.size + 1 + 1 + 1) 25 27 (C14 (failC (upd c 0 (Go.bits .andNot .i64 (c 0) 1))) (.slice A m cap)) #[.slice R l.length rc] (0, 0) (0, 0) _ _ rfl rfl pn.out pr.out Try.underlying25 rfl i25 Try.underlying27 rfl i27) rfl ?_
  exact ⟨R, rc, none, 0, rfl, HC.out, (by refine F_res (ok := ?_) ?_ ?_; rotate_left; (repeat (with_reducible first | exact HR.out | apply Kd.F_drew | apply Kd.F_drewN | apply Kd.F_alloc | refine Kd.F_far ?_ ?_ _)); all_goals (intro j_ hj_; (try dsimp only at hj_); (try dsimp only); (try simp only [sz_alloc, sz_drew, sz_drewN, sz_set] at hj_); first | omega | exact .inl hj_.1 | exact .inl hj_ | exact .inr (by omega) | (rcases hj_ with hj_ | hj_; exact .inl hj_.1; exact .inr (by omega)) | (rcases hj_ with hj_ | hj_; exact .inl hj_; exact .inr (by omega)) | (rcases hj_.1 with hk_ | hk_; (first | exact .inl hk_.1 | exact .inl hk_); exact .inr (by omega)))), Nat.le_refl _, F_nil, (bG HB)⟩
end Go.Proofs.Ytdblpflepfcnjaa.Q
end
section
/- The document's done. -/
namespace Go.Proofs.Ytdblpflepfcnjaa.Q
open Go.RowKit Go.Proofs.YtdblpflepfcnjaaW.PrintWords Go.Proofs.YtdblpflepfcnjaaW.PrintLast Go.Proofs.YtdblpflepfcnjaaW.PrintMore Go.Proofs.Ytdblpflepfcnjaa.L
attribute [local go_sem] Instr.field part asAgg lt_step max2_int min2_int max_two min_two max_three min_three max_four min_four lt_0_1 lt_0_2 lt_1_2 lt_0_3 lt_1_3 lt_2_3 lt_0_4 lt_1_4 lt_2_4 lt_3_4 lt_0_5 lt_1_5 lt_2_5 lt_3_5 lt_4_5 lt_0_6 lt_1_6 lt_2_6 lt_3_6 lt_4_6 lt_5_6 lt_0_7 lt_1_7 lt_2_7 lt_3_7 lt_4_7 lt_5_7 lt_6_7 lt_0_8 lt_1_8 lt_2_8 lt_3_8 lt_4_8 lt_5_8 lt_6_8 lt_7_8
set_option linter.unusedVariables false
set_option linter.unusedSimpArgs false
theorem row_at2 {k : IntKind} {W : World} {ok : Nat → Prop} {ad : Addr} {n : Nat} {xs : List Int} {x : Int} (h : Kd.F (Kd.int k) W ok (some ad) n xs) (i : Nat) (hi : i < n) (hx : xs.getD i 0 = x) : W.cell? (ad.add i) = some (.int k x) := by
  obtain ⟨ad', e, hc⟩ := Kd.at_int (Kd.F_now h) (i : Int) (by omega) (by omega)
  injection e with e
  subst e
  unfold rd at hc
  rw [Int.toNat_natCast, hx] at hc
  exact hc
theorem rfill_n (P0_ : Nat → Prop) (R : Option Addr) (rc : Nat) (l : List Int) (a : Int) (A2 : Option Addr) (c2 : Nat) (b : List Int) (n : Nat) (hn : b.length = n) (r1 : List Int) (r2 : Bool) (w : World) (hs0_0 : Kd.V (Kd.int .u8) 5 w w.heap.size (fun k_ => P0_ k_) (.slice R l.length rc) l) (hr2 : Kd.C (Kd.int .u8) w A2 n b) (hc2 : n ≤ c2) (h : drawbridgeref07_Fill.f l a b = some (r1, r2)) :
    Calls Try.prog 31 #[.agg #[.slice R l.length rc], .int .u64 a, .slice A2 n c2] w fun e w' => ∃ v0_ : Value, e = .returned (.tuple #[.agg #[v0_], .bool r2]) ∧ Kd.V (Kd.int .u8) 5 w' w.heap.size (fun k_ => (P0_ k_ ∨ w.heap.size ≤ k_)) v0_ r1 ∧ Below w.heap.size w w' := by
  subst hn
  exact drawbridgeref07_Fill.calls P0_ R rc l a A2 c2 b r1 r2 w hs0_0 hr2 hc2 h
set_option maxHeartbeats 1600000 in
set_option maxRecDepth 100000 in
theorem rdone_is (a a10 f g st : Int) (r2 : Bool) (R : Option Addr) (rc : Nat) (l : List Int) (ad : Addr) (dc : Nat) (d : List Int) (w : World) (ok okd : Nat → Prop) (h10 : IntKind.u64.wrap (a + 10) = a10) (hfg : d.getD 10 0 = f) (hgg : d.getD 11 0 = g) (hdl : d.length = 16) (hr : Kd.F (Kd.int .u8) w ok R l.length l) (hc : l.length ≤ rc) (hd : Kd.F (Kd.int .u8) w okd (some ad) 16 d) (hdc : 16 ≤ dc) (hf : drawbridgeref07_Fill.f l a10 [Go.bits .andNot .u8 f 1, g, st, 0] = some (fillL l a10 [Go.bits .andNot .u8 f 1, g, st, 0], r2)) :
    Calls Try.prog 44 #[.agg #[.slice R l.length rc], .int .u64 a, .slice (some ad) 16 dc, .int .u8 st] w fun e w' => ∃ A' c', e = .returned (.agg #[.slice A' (fillL l a10 [Go.bits .andNot .u8 f 1, g, st, 0]).length c']) ∧ (fillL l a10 [Go.bits .andNot .u8 f 1, g, st, 0]).length ≤ c' ∧ Kd.F (Kd.int .u8) w' (fun j => ok j ∨ w.heap.size ≤ j) A' (fillL l a10 [Go.bits .andNot .u8 f 1, g, st, 0]).length (fillL l a10 [Go.bits .andNot .u8 f 1, g, st, 0]) ∧ Below w.heap.size w w' := by
  have HB := Aside0.mk (Below.refl w.heap.size w)
  have HR := Aside0.mk (Kd.F_bound hr)
  have HD := Aside0.mk (Kd.F_bound hd)
  have HC := Aside0.mk hc
  have HFILL := Aside0.mk hf
  have XF := Aside0.mk hfg
  have XG := Aside0.mk hgg
  have hu7 := Try.underlying27
  clear hr hc hd hf hfg hgg
  go_enter Try.func44, Try.ntmps44
  go_upto_region 1 with fail
  obtain ⟨wa, hwa, on0, or0, hb_, hz0⟩ := letter2 w (.cells #[.slice R l.length rc] 27 (0, 0)) (.cells #[.slice none 0 0] 27 (0, 0))
  rw [hwa]
  clear hwa
  have hzwa := Nat.le_of_eq hz0.symm
  clear hz0
  have orr := Aside0.mk on0
  have oz := Aside0.mk or0
  clear on0 or0
  obtain ⟨orrc, orrf, orrl⟩ := cells_of orr.out
  obtain ⟨ozc, ozf, ozl⟩ := cells_of oz.out
  have HB_ : Aside0 (Below w.heap.size w wa) := ⟨hb_⟩
  have HR_ := Aside0.mk (Kd.F_below HR.out hb_)
  have HD_ := Aside0.mk (Kd.F_below HD.out hb_)
  clear HB HR HD hb_
  have HB := HB_
  have HR := HR_
  have HD := HD_
  clear HB_ HR_ HD_
  go_cut [9] (fun p wx => ∃ (g9 : Nat) (A' : Option Addr) (c' : Nat), p = .pointer (some ⟨g9, 0, none⟩) ∧ Aside0 (wx.heap[g9]? = some (.cells #[.slice A' (fillL l a10 [Go.bits .andNot .u8 f 1, g, st, 0]).length c'] 27 (0, 0))) ∧ Aside0 (wx.heap[w.heap.size + 1]? = some (.cells #[.slice none 0 0] 27 (0, 0))) ∧ Aside0 (Kd.F (Kd.int .u8) wx (fun j => (ok j ∧ j < w.heap.size) ∨ (w.heap.size ≤ j ∧ j ≠ w.heap.size + 1)) A' (fillL l a10 [Go.bits .andNot .u8 f 1, g, st, 0]).length (fillL l a10 [Go.bits .andNot .u8 f 1, g, st, 0])) ∧ Aside0 ((fillL l a10 [Go.bits .andNot .u8 f 1, g, st, 0]).length ≤ c') ∧ Aside0 (Below w.heap.size w wx) ∧ w.heap.size + 1 < g9 ∧ w.heap.size ≤ g9)
  case first =>
    refine start_ (n := 19) (S := fun w' => w'.heap[w.heap.size]? = some (.cells #[.slice R l.length rc] 27 (0, 0)) ∧ w'.cell? (ad.add 10) = some (.int .u8 f) ∧ w'.cell? (ad.add 11) = some (.int .u8 g)) (ds := []) #[false, false, false, false, false, false, false, false, false, false, false, false, false, false, false, false, false, false, false] (by kernel_rfl) rfl rfl ⟨(eG orr), row_at2 (fG HD) 10 (by omega) XF.out, row_at2 (fG HD) 11 (by omega) XG.out⟩ (fun hHeld => ?_)
    refine rowL_ (i := 0) (N := some 12) #[true, false, false, false, false, false, false, false, false, false, false, false, false, false, false, false, false, false, false] rfl rfl (by kernel_rfl) 27 _ rfl (w.heap.size) (#[.slice R l.length rc]) (fun _ _ _ h => h) (by rfl) (by rfl) _ _ _ (fun _ h => h.1) Try.underlying27 rfl i27 hHeld (a' := ?_) ?_ ?_
    rotate_left
    · simp only [Act.put, List.setIfInBounds_toArray, List.set_cons_zero, List.set_cons_succ, i64_w, i32_w]
      rfl
    refine pure_ (i := 1) (N := some 13) (v := ?_) (a' := ?_) #[true, true, false, false, false, false, false, false, false, false, false, false, false, false, false, false, false, false, false] rfl rfl (by kernel_rfl) (fun _ _ _ h => h) (Or.inl ⟨by rfl, ?_⟩) ?_ ?_
    rotate_left
    · intro w'
      go_simp
      with_reducible rfl
    rotate_left
    · simp only [Act.put, List.setIfInBounds_toArray, List.set_cons_zero, List.set_cons_succ, i64_w, i32_w]
      rfl
    refine pure_ (i := 2) (N := some 14) (v := ?_) (a' := ?_) #[true, true, true, false, false, false, false, false, false, false, false, false, false, false, false, false, false, false, false] rfl rfl (by kernel_rfl) (fun _ _ _ h => h) (Or.inl ⟨by rfl, ?_⟩) ?_ ?_
    rotate_left
    · intro w'
      go_simp
      with_reducible rfl
    rotate_left
    · simp only [Act.put, List.setIfInBounds_toArray, List.set_cons_zero, List.set_cons_succ, i64_w, i32_w]
      rfl
    refine pure_ (i := 3) (N := some 15) (v := ?_) (a' := ?_) #[true, true, true, true, false, false, false, false, false, false, false, false, false, false, false, false, false, false, false] rfl rfl (by kernel_rfl) (fun _ _ _ h => h) (Or.inl ⟨by rfl, ?_⟩) ?_ ?_
    rotate_left
    · intro w'
      go_simp
      with_reducible rfl
    rotate_left
    · simp only [Act.put, List.setIfInBounds_toArray, List.set_cons_zero, List.set_cons_succ, i64_w, i32_w]
      rfl
    refine pure_ (i := 4) (N := some 16) (v := ?_) (a' := ?_) #[true, true, true, true, true, false, false, false, false, false, false, false, false, false, false, false, false, false, false] rfl rfl (by kernel_rfl) (fun _ _ _ h => h) (Or.inl ⟨by rfl, ?_⟩) ?_ ?_
    rotate_left
    · intro w'
      go_simp
      with_reducible rfl
    rotate_left
    · simp only [Act.put, List.setIfInBounds_toArray, List.set_cons_zero, List.set_cons_succ, i64_w, i32_w]
      rfl
    refine take_ (i := 5) (N := some 17) (v := ?_) (a' := ?_) #[true, true, true, true, true, true, false, false, false, false, false, false, false, false, false, false, false, false, false] rfl rfl (by kernel_rfl) (fun _ _ _ h => h) (Or.inl ⟨by rfl, ?_⟩) hHeld ?_ ?_
    rotate_left
    · rintro w' ⟨_, h_, _⟩
      replace h_ : w'.cell? ⟨ad.block, ad.off + 10, none⟩ = some (.int .u8 f) := h_
      go_simp
      with_reducible rfl
    rotate_left
    · simp only [Act.put, List.setIfInBounds_toArray, List.set_cons_zero, List.set_cons_succ, i64_w, i32_w]
      rfl
    refine pure_ (i := 6) (N := some 18) (v := ?_) (a' := ?_) #[true, true, true, true, true, true, true, false, false, false, false, false, false, false, false, false, false, false, false] rfl rfl (by kernel_rfl) (fun _ _ _ h => h) (Or.inl ⟨by rfl, ?_⟩) ?_ ?_
    rotate_left
    · intro w'
      go_simp
      with_reducible rfl
    rotate_left
    · simp only [Act.put, List.setIfInBounds_toArray, List.set_cons_zero, List.set_cons_succ, i64_w, i32_w]
      rfl
    refine pure_ (i := 7) (N := some 19) (v := ?_) (a' := ?_) #[true, true, true, true, true, true, true, true, false, false, false, false, false, false, false, false, false, false, false] rfl rfl (by kernel_rfl) (fun _ _ _ h => h) (Or.inl ⟨by rfl, ?_⟩) ?_ ?_
    rotate_left
    · intro w'
      go_simp
      with_reducible rfl
    rotate_left
    · simp only [Act.put, List.setIfInBounds_toArray, List.set_cons_zero, List.set_cons_succ, i64_w, i32_w]
      rfl
    refine pure_ (i := 8) (N := some 20) (v := ?_) (a' := ?_) #[true, true, true, true, true, true, true, true, true, false, false, false, false, false, false, false, false, false, false] rfl rfl (by kernel_rfl) (fun _ _ _ h => h) (Or.inl ⟨by rfl, ?_⟩) ?_ ?_
    rotate_left
    · intro w'
      go_simp
      with_reducible rfl
    rotate_left
    · simp only [Act.put, List.setIfInBounds_toArray, List.set_cons_zero, List.set_cons_succ, i64_w, i32_w]
      rfl
    refine take_ (i := 9) (N := some 21) (v := ?_) (a' := ?_) #[true, true, true, true, true, true, true, true, true, true, false, false, false, false, false, false, false, false, false] rfl rfl (by kernel_rfl) (fun _ _ _ h => h) (Or.inl ⟨by rfl, ?_⟩) hHeld ?_ ?_
    rotate_left
    · rintro w' ⟨_, _, h_⟩
      replace h_ : w'.cell? ⟨ad.block, ad.off + 11, none⟩ = some (.int .u8 g) := h_
      go_simp
      with_reducible rfl
    rotate_left
    · simp only [Act.put, List.setIfInBounds_toArray, List.set_cons_zero, List.set_cons_succ, i64_w, i32_w]
      rfl
    refine pure_ (i := 10) (N := some 22) (v := ?_) (a' := ?_) #[true, true, true, true, true, true, true, true, true, true, true, false, false, false, false, false, false, false, false] rfl rfl (by kernel_rfl) (fun _ _ _ h => h) (Or.inl ⟨by rfl, ?_⟩) ?_ ?_
    rotate_left
    · intro w'
      go_simp
      with_reducible rfl
    rotate_left
    · simp only [Act.put, List.setIfInBounds_toArray, List.set_cons_zero, List.set_cons_succ, i64_w, i32_w]
      rfl
    refine two_ (i := 11) (j := 16) (Ni := some 23) (Nj := some 9) #[true, true, true, true, true, true, true, true, true, true, true, true, false, false, false, false, false, false, false] #[true, true, true, true, true, true, true, true, true, true, true, false, false, false, false, false, true, false, false] rfl rfl rfl rfl (by kernel_rfl) (by decide) (by decide) (fun K hK => ?_) (fun K hK => ?_)
    · skip
      refine val_ (v := (.slice (some ⟨(World.heap (World.drew wa)).size, 0, none⟩) 4 4)) (w1 := World.alloc (World.drew wa) (.cells #[.int .u8 (Go.bits .andNot .u8 f 1), .int .u8 g, .int .u8 st, .int .u8 0] 5 (0, 0))) (by rfl) rfl ?_ ?_
      · first | kernel_rfl | (go_simp; done) | (go_simp; rfl)
      refine hK.out _ _ ⟨(eG orr), row_at2 (fG HD) 10 (by omega) XF.out, row_at2 (fG HD) 11 (by omega) XG.out⟩ (fun hHeld => ?_)
      clear hK K
      obtain ⟨w1, hw_, hx_, hb_, hz_⟩ := letter1 (World.drew wa) (.cells #[.int .u8 (Go.bits .andNot .u8 f 1), .int .u8 g, .int .u8 st, .int .u8 0] 5 (0, 0))
      rw [hw_] at hHeld ⊢
      clear hw_
      have hzw1 := Nat.le_of_eq hz_.symm
      (try simp only [sz_drew] at hx_ hzw1)
      clear hz_
      have orr_ := Aside0.mk (box_below hb_ (eG orr))
      (try clear orr orrc orrf orrl)
      have orr := orr_
      clear orr_
      obtain ⟨orrc, orrf, orrl⟩ := cells_of orr.out
      have oz_ := Aside0.mk (box_below hb_ (eG oz))
      (try clear oz ozc ozf ozl)
      have oz := oz_
      clear oz_
      obtain ⟨ozc, ozf, ozl⟩ := cells_of oz.out
      have HR_ := Aside0.mk (Kd.F_below (fG HR) hb_)
      clear HR
      have HR := HR_
      clear HR_
      have HD_ := Aside0.mk (Kd.F_below (fG HD) hb_)
      clear HD
      have HD := HD_
      clear HD_
      have oq := Aside0.mk hx_
      obtain ⟨oqc, oqf, oql⟩ := cells_of oq.out
      have HB_ : Aside0 (Below w.heap.size w w1) := Aside0.mk (below_step (bG HB) hb_)
      clear HB hb_ hx_
      have HB := HB_
      clear HB_
      refine norm_ (a' := ?_) ?_ ?_
      rotate_left
      · simp only [Act.put, List.setIfInBounds_toArray, List.set_cons_zero, List.set_cons_succ, i64_w, i32_w]
        rfl
      refine two_ (i := 12) (j := 16) (Ni := some 24) (Nj := some 9) #[true, true, true, true, true, true, true, true, true, true, true, true, true, false, false, false, false, false, false] #[true, true, true, true, true, true, true, true, true, true, true, true, false, false, false, false, true, false, false] rfl rfl rfl rfl (by kernel_rfl) (by decide) (by decide) (fun K hK => ?_) (fun K hK => ?_)
      · skip
        (refine goes_ Try.func31 (by kernel_rfl) rfl #[.agg #[.slice R l.length rc], .int .u64 a10, .slice (some ⟨wa.heap.size, 0, none⟩) 4 4] (by rfl) rfl rfl (by (try simp only [List.map_toArray, List.map_cons, List.map_nil]); first | done | rfl) ?_; (with_reducible refine (rfill_n _ R rc l a10 (some ⟨wa.heap.size, 0, none⟩) 4 [Go.bits .andNot .u8 f 1, g, st, 0] 4 rfl (fillL l a10 [Go.bits .andNot .u8 f 1, g, st, 0]) r2 _ (Kd.V_mk HC.out (fG HR)) (C_blk oq.out rfl (by simp) rfl) (by simp) HFILL.out).mono ?_); rintro e_ w2 ⟨v_s, rfl, ⟨A_s, c_s, rfl, hc_s, hr_s⟩, hb_⟩; refine ⟨_, rfl, ?_⟩; have HB_ : Aside0 (Below w.heap.size w w2) := Aside0.mk (below_step (bG HB) hb_); have hzw2 := hb_.size; (try simp at hzw2); have orr_ := Aside0.mk (box_below hb_ (eG orr)); have oz_ := Aside0.mk (box_below hb_ (eG oz)); have oq_ := Aside0.mk (box_below hb_ (eG oq)); have HD_ := Aside0.mk (Kd.F_below (fG HD) hb_); clear HD; have HD := HD_; clear HD_; (try clear orr orrc orrf orrl); have orr := orr_; clear orr_; obtain ⟨orrc, orrf, orrl⟩ := cells_of orr.out; (try clear oz ozc ozf ozl); have oz := oz_; clear oz_; obtain ⟨ozc, ozf, ozl⟩ := cells_of oz.out; (try clear oq oqc oqf oql); have oq := oq_; clear oq_; obtain ⟨oqc, oqf, oql⟩ := cells_of oq.out; clear HB hb_; have HB := HB_; clear HB_; have sc := Aside0.mk hc_s; have s := Aside0.mk (Kd.F_bound hr_s); clear hc_s hr_s; skip)
        refine hK.out _ _ ⟨(eG orr), row_at2 (fG HD) 10 (by omega) XF.out, row_at2 (fG HD) 11 (by omega) XG.out⟩ (fun hHeld => ?_)
        clear hK K
        refine norm_ (a' := ?_) ?_ ?_
        rotate_left
        · simp only [Act.put, List.setIfInBounds_toArray, List.set_cons_zero, List.set_cons_succ, i64_w, i32_w]
          rfl
        refine pure_ (i := 13) (N := some 11) (v := ?_) (a' := ?_) #[true, true, true, true, true, true, true, true, true, true, true, true, true, true, false, false, false, false, false] rfl rfl (by kernel_rfl) (fun _ _ _ h => h) (Or.inl ⟨by rfl, ?_⟩) ?_ ?_
        rotate_left
        · intro w'
          go_simp
          with_reducible rfl
        rotate_left
        · simp only [Act.put, List.setIfInBounds_toArray, List.set_cons_zero, List.set_cons_succ, i64_w, i32_w]
          rfl
        refine pure_ (i := 14) (N := some 25) (v := ?_) (a' := ?_) #[true, true, true, true, true, true, true, true, true, true, true, true, true, true, true, false, false, false, false] rfl rfl (by kernel_rfl) (fun _ _ _ h => h) (Or.inl ⟨by rfl, ?_⟩) ?_ ?_
        rotate_left
        · intro w'
          go_simp
          with_reducible rfl
        rotate_left
        · simp only [Act.put, List.setIfInBounds_toArray, List.set_cons_zero, List.set_cons_succ, i64_w, i32_w]
          rfl
        refine pure_ (i := 15) (N := some 26) (v := ?_) (a' := ?_) #[true, true, true, true, true, true, true, true, true, true, true, true, true, true, true, true, false, false, false] rfl rfl (by kernel_rfl) (fun _ _ _ h => h) (Or.inl ⟨by rfl, ?_⟩) ?_ ?_
        rotate_left
        · intro w'
          go_simp
          with_reducible rfl
        rotate_left
        · simp only [Act.put, List.setIfInBounds_toArray, List.set_cons_zero, List.set_cons_succ, i64_w, i32_w]
          rfl
        refine one_ (i := 16) (N := some 9) #[true, true, true, true, true, true, true, true, true, true, true, true, true, true, true, true, true, false, false] rfl rfl (by kernel_rfl) (by decide) (fun K hK => ?_)
        refine val_ (v := (.pointer (some ⟨(World.heap w2).size, 0, none⟩))) (w1 := World.alloc w2 (.cells #[.slice none 0 0] 27 (0, 0))) (by rfl) rfl ?_ ?_
        · first | kernel_rfl | (go_simp; done) | (go_simp; rfl)
        refine hK.out _ _ ⟨(eG orr), row_at2 (fG HD) 10 (by omega) XF.out, row_at2 (fG HD) 11 (by omega) XG.out⟩ (fun hHeld => ?_)
        clear hK K
        obtain ⟨w3, hw_, hx_, hb_, hz_⟩ := letter1 w2 (.cells #[.slice none 0 0] 27 (0, 0))
        rw [hw_] at hHeld ⊢
        clear hw_
        have hzw3 := Nat.le_of_eq hz_.symm
        (try simp only [sz_drew] at hx_ hzw3)
        clear hz_
        have orr_ := Aside0.mk (box_below hb_ (eG orr))
        (try clear orr orrc orrf orrl)
        have orr := orr_
        clear orr_
        obtain ⟨orrc, orrf, orrl⟩ := cells_of orr.out
        have oz_ := Aside0.mk (box_below hb_ (eG oz))
        (try clear oz ozc ozf ozl)
        have oz := oz_
        clear oz_
        obtain ⟨ozc, ozf, ozl⟩ := cells_of oz.out
        have HD_ := Aside0.mk (Kd.F_below (fG HD) hb_)
        clear HD
        have HD := HD_
        clear HD_
        have s_ := Aside0.mk (Kd.F_below (fG s) hb_)
        clear s
        have s := s_
        clear s_
        have o9 := Aside0.mk hx_
        obtain ⟨o9c, o9f, o9l⟩ := cells_of o9.out
        have HB_ : Aside0 (Below w.heap.size w w3) := Aside0.mk (below_step (bG HB) hb_)
        clear HB hb_ hx_
        have HB := HB_
        clear HB_
        refine norm_ (a' := ?_) ?_ ?_
        rotate_left
        · simp only [Act.put, List.setIfInBounds_toArray, List.set_cons_zero, List.set_cons_succ, i64_w, i32_w]
          rfl
        refine rowS_ (i := 17) #[true, true, true, true, true, true, true, true, true, true, true, true, true, true, true, true, true, true, false] rfl rfl (by kernel_rfl) (by decide) 27 _ _ rfl (w2.heap.size) (#[.slice A_s (fillL l a10 [Go.bits .andNot .u8 f 1, g, st, 0]).length c_s]) (by rfl) (by rfl) (by rfl) (#[.slice none 0 0]) 27 (eG o9) rfl i27 (one27 _ _ _) ?_
        (rintro wz ⟨hx_, hk_, hb_, hzz_⟩; have HB_ : Aside0 (Below w.heap.size w wz) := Aside0.mk (Below.trans (bG HB) (Below.mono hb_ (by first | omega | (simp only [sz_alloc, sz_drew, sz_drewN]; omega)))); have hzwz := hzz_; (try simp at hzwz); clear hzz_; have orr_ := Aside0.mk (st_put orr.out hk_ (fun h_ => (by repeat (with_reducible first | exact h_ | apply ext_drew | apply ext_drewN | apply ext_alloc | refine blk_far ?_ (by show _ ≠ _; dsimp only; omega) _))) (by omega)); clear orr orrc orrf orrl; have orr := orr_; clear orr_; obtain ⟨orrc, orrf, orrl⟩ := cells_of orr.out; have oz_ := Aside0.mk (st_put oz.out hk_ (fun h_ => (by repeat (with_reducible first | exact h_ | apply ext_drew | apply ext_drewN | apply ext_alloc | refine blk_far ?_ (by show _ ≠ _; dsimp only; omega) _))) (by omega)); clear oz ozc ozf ozl; have oz := oz_; clear oz_; obtain ⟨ozc, ozf, ozl⟩ := cells_of oz.out; have HD_ := Aside0.mk (Kd.F_step (fG HD) (fun j_ hj_ hl_ => hk_ j_ (by (try dsimp only at hj_); (try simp only [sz_alloc, sz_drew, sz_drewN, sz_set] at hj_); omega))); clear HD; have HD := HD_; clear HD_; have s_ := Aside0.mk (Kd.F_step (fG s) (fun j_ hj_ hl_ => hk_ j_ (by (try dsimp only at hj_); (try simp only [sz_alloc, sz_drew, sz_drewN, sz_set] at hj_); omega))); clear s; have s := s_; clear s_; (try clear o9 o9c o9f o9l); have o9 := Aside0.mk hx_; obtain ⟨o9c, o9f, o9l⟩ := cells_of o9.out; clear HB hb_ hk_ hx_; have HB := HB_; clear HB_)
        refine ⟨⟨(eG orr), row_at2 (fG HD) 10 (by omega) XF.out, row_at2 (fG HD) 11 (by omega) XG.out⟩, ?_⟩
        refine pure_ (i := 18) (N := some 10) (v := ?_) (a' := ?_) #[true, true, true, true, true, true, true, true, true, true, true, true, true, true, true, true, true, true, true] rfl rfl (by kernel_rfl) (fun _ _ _ h => h) (Or.inl ⟨by rfl, ?_⟩) ?_ ?_
        rotate_left
        · intro w'
          go_simp
          with_reducible rfl
        rotate_left
        · simp only [Act.put, List.setIfInBounds_toArray, List.set_cons_zero, List.set_cons_succ, i64_w, i32_w]
          rfl
        refine done_ (by kernel_rfl) ?_
        go_wp2_with fail
        go_meet
        exact ⟨w2.heap.size, A_s, c_s, rfl, ⟨o9.out⟩, ⟨oz.out⟩, ⟨(by refine F_res (ok := ?_) ?_ ?_; rotate_left; (repeat (with_reducible first | exact s.out | apply Kd.F_drew | apply Kd.F_drewN | apply Kd.F_alloc | refine Kd.F_far ?_ ?_ _)); all_goals (intro j_ hj_; (try dsimp only at hj_); (try dsimp only); (try simp only [sz_alloc, sz_drew, sz_drewN, sz_set] at hj_); first | omega | exact .inl hj_.1 | exact .inl hj_ | exact .inr (by omega) | (rcases hj_ with hj_ | hj_; exact .inl hj_.1; exact .inr (by omega)) | (rcases hj_ with hj_ | hj_; exact .inl hj_; exact .inr (by omega)) | (rcases hj_.1 with hk_ | hk_; (first | exact .inl hk_.1 | exact .inl hk_); exact .inr (by omega))))⟩, sc, HB, by omega, by omega⟩
      · skip
        refine val_ (v := (.pointer (some ⟨(World.heap w1).size, 0, none⟩))) (w1 := World.alloc w1 (.cells #[.slice none 0 0] 27 (0, 0))) (by rfl) rfl ?_ ?_
        · first | kernel_rfl | (go_simp; done) | (go_simp; rfl)
        refine hK.out _ _ ⟨(eG orr), row_at2 (fG HD) 10 (by omega) XF.out, row_at2 (fG HD) 11 (by omega) XG.out⟩ (fun hHeld => ?_)
        clear hK K
        obtain ⟨w2, hw_, hx_, hb_, hz_⟩ := letter1 w1 (.cells #[.slice none 0 0] 27 (0, 0))
        rw [hw_] at hHeld ⊢
        clear hw_
        have hzw2 := Nat.le_of_eq hz_.symm
        (try simp only [sz_drew] at hx_ hzw2)
        clear hz_
        have orr_ := Aside0.mk (box_below hb_ (eG orr))
        (try clear orr orrc orrf orrl)
        have orr := orr_
        clear orr_
        obtain ⟨orrc, orrf, orrl⟩ := cells_of orr.out
        have oz_ := Aside0.mk (box_below hb_ (eG oz))
        (try clear oz ozc ozf ozl)
        have oz := oz_
        clear oz_
        obtain ⟨ozc, ozf, ozl⟩ := cells_of oz.out
        have oq_ := Aside0.mk (box_below hb_ (eG oq))
        (try clear oq oqc oqf oql)
        have oq := oq_
        clear oq_
        obtain ⟨oqc, oqf, oql⟩ := cells_of oq.out
        have HR_ := Aside0.mk (Kd.F_below (fG HR) hb_)
        clear HR
        have HR := HR_
        clear HR_
        have HD_ := Aside0.mk (Kd.F_below (fG HD) hb_)
        clear HD
        have HD := HD_
        clear HD_
        have o9 := Aside0.mk hx_
        obtain ⟨o9c, o9f, o9l⟩ := cells_of o9.out
        have HB_ : Aside0 (Below w.heap.size w w2) := Aside0.mk (below_step (bG HB) hb_)
        clear HB hb_ hx_
        have HB := HB_
        clear HB_
        refine norm_ (a' := ?_) ?_ ?_
        rotate_left
        · simp only [Act.put, List.setIfInBounds_toArray, List.set_cons_zero, List.set_cons_succ, i64_w, i32_w]
          rfl
        refine one_ (i := 12) (N := some 24) #[true, true, true, true, true, true, true, true, true, true, true, true, true, false, false, false, true, false, false] rfl rfl (by kernel_rfl) (by decide) (fun K hK => ?_)
        (refine goes_ Try.func31 (by kernel_rfl) rfl #[.agg #[.slice R l.length rc], .int .u64 a10, .slice (some ⟨wa.heap.size, 0, none⟩) 4 4] (by rfl) rfl rfl (by (try simp only [List.map_toArray, List.map_cons, List.map_nil]); first | done | rfl) ?_; (with_reducible refine (rfill_n _ R rc l a10 (some ⟨wa.heap.size, 0, none⟩) 4 [Go.bits .andNot .u8 f 1, g, st, 0] 4 rfl (fillL l a10 [Go.bits .andNot .u8 f 1, g, st, 0]) r2 _ (Kd.V_mk HC.out (fG HR)) (C_blk oq.out rfl (by simp) rfl) (by simp) HFILL.out).mono ?_); rintro e_ w3 ⟨v_s, rfl, ⟨A_s, c_s, rfl, hc_s, hr_s⟩, hb_⟩; refine ⟨_, rfl, ?_⟩; have HB_ : Aside0 (Below w.heap.size w w3) := Aside0.mk (below_step (bG HB) hb_); have hzw3 := hb_.size; (try simp at hzw3); have orr_ := Aside0.mk (box_below hb_ (eG orr)); have oz_ := Aside0.mk (box_below hb_ (eG oz)); have oq_ := Aside0.mk (box_below hb_ (eG oq)); have o9_ := Aside0.mk (box_below hb_ (eG o9)); have HD_ := Aside0.mk (Kd.F_below (fG HD) hb_); clear HD; have HD := HD_; clear HD_; (try clear orr orrc orrf orrl); have orr := orr_; clear orr_; obtain ⟨orrc, orrf, orrl⟩ := cells_of orr.out; (try clear oz ozc ozf ozl); have oz := oz_; clear oz_; obtain ⟨ozc, ozf, ozl⟩ := cells_of oz.out; (try clear oq oqc oqf oql); have oq := oq_; clear oq_; obtain ⟨oqc, oqf, oql⟩ := cells_of oq.out; (try clear o9 o9c o9f o9l); have o9 := o9_; clear o9_; obtain ⟨o9c, o9f, o9l⟩ := cells_of o9.out; clear HB hb_; have HB := HB_; clear HB_; have sc := Aside0.mk hc_s; have s := Aside0.mk (Kd.F_bound hr_s); clear hc_s hr_s; skip)
        refine hK.out _ _ ⟨(eG orr), row_at2 (fG HD) 10 (by omega) XF.out, row_at2 (fG HD) 11 (by omega) XG.out⟩ (fun hHeld => ?_)
        clear hK K
        refine norm_ (a' := ?_) ?_ ?_
        rotate_left
        · simp only [Act.put, List.setIfInBounds_toArray, List.set_cons_zero, List.set_cons_succ, i64_w, i32_w]
          rfl
        refine pure_ (i := 13) (N := some 11) (v := ?_) (a' := ?_) #[true, true, true, true, true, true, true, true, true, true, true, true, true, true, false, false, true, false, false] rfl rfl (by kernel_rfl) (fun _ _ _ h => h) (Or.inl ⟨by rfl, ?_⟩) ?_ ?_
        rotate_left
        · intro w'
          go_simp
          with_reducible rfl
        rotate_left
        · simp only [Act.put, List.setIfInBounds_toArray, List.set_cons_zero, List.set_cons_succ, i64_w, i32_w]
          rfl
        refine pure_ (i := 14) (N := some 25) (v := ?_) (a' := ?_) #[true, true, true, true, true, true, true, true, true, true, true, true, true, true, true, false, true, false, false] rfl rfl (by kernel_rfl) (fun _ _ _ h => h) (Or.inl ⟨by rfl, ?_⟩) ?_ ?_
        rotate_left
        · intro w'
          go_simp
          with_reducible rfl
        rotate_left
        · simp only [Act.put, List.setIfInBounds_toArray, List.set_cons_zero, List.set_cons_succ, i64_w, i32_w]
          rfl
        refine pure_ (i := 15) (N := some 26) (v := ?_) (a' := ?_) #[true, true, true, true, true, true, true, true, true, true, true, true, true, true, true, true, true, false, false] rfl rfl (by kernel_rfl) (fun _ _ _ h => h) (Or.inl ⟨by rfl, ?_⟩) ?_ ?_
        rotate_left
        · intro w'
          go_simp
          with_reducible rfl
        rotate_left
        · simp only [Act.put, List.setIfInBounds_toArray, List.set_cons_zero, List.set_cons_succ, i64_w, i32_w]
          rfl
        refine rowS_ (i := 17) #[true, true, true, true, true, true, true, true, true, true, true, true, true, true, true, true, true, true, false] rfl rfl (by kernel_rfl) (by decide) 27 _ _ rfl (w1.heap.size) (#[.slice A_s (fillL l a10 [Go.bits .andNot .u8 f 1, g, st, 0]).length c_s]) (by rfl) (by rfl) (by rfl) (#[.slice none 0 0]) 27 (eG o9) rfl i27 (one27 _ _ _) ?_
        (rintro wz ⟨hx_, hk_, hb_, hzz_⟩; have HB_ : Aside0 (Below w.heap.size w wz) := Aside0.mk (Below.trans (bG HB) (Below.mono hb_ (by first | omega | (simp only [sz_alloc, sz_drew, sz_drewN]; omega)))); have hzwz := hzz_; (try simp at hzwz); clear hzz_; have orr_ := Aside0.mk (st_put orr.out hk_ (fun h_ => (by repeat (with_reducible first | exact h_ | apply ext_drew | apply ext_drewN | apply ext_alloc | refine blk_far ?_ (by show _ ≠ _; dsimp only; omega) _))) (by omega)); clear orr orrc orrf orrl; have orr := orr_; clear orr_; obtain ⟨orrc, orrf, orrl⟩ := cells_of orr.out; have oz_ := Aside0.mk (st_put oz.out hk_ (fun h_ => (by repeat (with_reducible first | exact h_ | apply ext_drew | apply ext_drewN | apply ext_alloc | refine blk_far ?_ (by show _ ≠ _; dsimp only; omega) _))) (by omega)); clear oz ozc ozf ozl; have oz := oz_; clear oz_; obtain ⟨ozc, ozf, ozl⟩ := cells_of oz.out; have HD_ := Aside0.mk (Kd.F_step (fG HD) (fun j_ hj_ hl_ => hk_ j_ (by (try dsimp only at hj_); (try simp only [sz_alloc, sz_drew, sz_drewN, sz_set] at hj_); omega))); clear HD; have HD := HD_; clear HD_; have s_ := Aside0.mk (Kd.F_step (fG s) (fun j_ hj_ hl_ => hk_ j_ (by (try dsimp only at hj_); (try simp only [sz_alloc, sz_drew, sz_drewN, sz_set] at hj_); omega))); clear s; have s := s_; clear s_; (try clear o9 o9c o9f o9l); have o9 := Aside0.mk hx_; obtain ⟨o9c, o9f, o9l⟩ := cells_of o9.out; clear HB hb_ hk_ hx_; have HB := HB_; clear HB_)
        refine ⟨⟨(eG orr), row_at2 (fG HD) 10 (by omega) XF.out, row_at2 (fG HD) 11 (by omega) XG.out⟩, ?_⟩
        refine pure_ (i := 18) (N := some 10) (v := ?_) (a' := ?_) #[true, true, true, true, true, true, true, true, true, true, true, true, true, true, true, true, true, true, true] rfl rfl (by kernel_rfl) (fun _ _ _ h => h) (Or.inl ⟨by rfl, ?_⟩) ?_ ?_
        rotate_left
        · intro w'
          go_simp
          with_reducible rfl
        rotate_left
        · simp only [Act.put, List.setIfInBounds_toArray, List.set_cons_zero, List.set_cons_succ, i64_w, i32_w]
          rfl
        refine done_ (by kernel_rfl) ?_
        go_wp2_with fail
        go_meet
        exact ⟨w1.heap.size, A_s, c_s, rfl, ⟨o9.out⟩, ⟨oz.out⟩, ⟨(by refine F_res (ok := ?_) ?_ ?_; rotate_left; (repeat (with_reducible first | exact s.out | apply Kd.F_drew | apply Kd.F_drewN | apply Kd.F_alloc | refine Kd.F_far ?_ ?_ _)); all_goals (intro j_ hj_; (try dsimp only at hj_); (try dsimp only); (try simp only [sz_alloc, sz_drew, sz_drewN, sz_set] at hj_); first | omega | exact .inl hj_.1 | exact .inl hj_ | exact .inr (by omega) | (rcases hj_ with hj_ | hj_; exact .inl hj_.1; exact .inr (by omega)) | (rcases hj_ with hj_ | hj_; exact .inl hj_; exact .inr (by omega)) | (rcases hj_.1 with hk_ | hk_; (first | exact .inl hk_.1 | exact .inl hk_); exact .inr (by omega))))⟩, sc, HB, by omega, by omega⟩
    · skip
      refine val_ (v := (.pointer (some ⟨(World.heap (World.drew wa)).size, 0, none⟩))) (w1 := World.alloc (World.drew wa) (.cells #[.slice none 0 0] 27 (0, 0))) (by rfl) rfl ?_ ?_
      · first | kernel_rfl | (go_simp; done) | (go_simp; rfl)
      refine hK.out _ _ ⟨(eG orr), row_at2 (fG HD) 10 (by omega) XF.out, row_at2 (fG HD) 11 (by omega) XG.out⟩ (fun hHeld => ?_)
      clear hK K
      obtain ⟨w1, hw_, hx_, hb_, hz_⟩ := letter1 (World.drew wa) (.cells #[.slice none 0 0] 27 (0, 0))
      rw [hw_] at hHeld ⊢
      clear hw_
      have hzw1 := Nat.le_of_eq hz_.symm
      (try simp only [sz_drew] at hx_ hzw1)
      clear hz_
      have orr_ := Aside0.mk (box_below hb_ (eG orr))
      (try clear orr orrc orrf orrl)
      have orr := orr_
      clear orr_
      obtain ⟨orrc, orrf, orrl⟩ := cells_of orr.out
      have oz_ := Aside0.mk (box_below hb_ (eG oz))
      (try clear oz ozc ozf ozl)
      have oz := oz_
      clear oz_
      obtain ⟨ozc, ozf, ozl⟩ := cells_of oz.out
      have HR_ := Aside0.mk (Kd.F_below (fG HR) hb_)
      clear HR
      have HR := HR_
      clear HR_
      have HD_ := Aside0.mk (Kd.F_below (fG HD) hb_)
      clear HD
      have HD := HD_
      clear HD_
      have o9 := Aside0.mk hx_
      obtain ⟨o9c, o9f, o9l⟩ := cells_of o9.out
      have HB_ : Aside0 (Below w.heap.size w w1) := Aside0.mk (below_step (bG HB) hb_)
      clear HB hb_ hx_
      have HB := HB_
      clear HB_
      refine norm_ (a' := ?_) ?_ ?_
      rotate_left
      · simp only [Act.put, List.setIfInBounds_toArray, List.set_cons_zero, List.set_cons_succ, i64_w, i32_w]
        rfl
      refine one_ (i := 11) (N := some 23) #[true, true, true, true, true, true, true, true, true, true, true, true, false, false, false, false, true, false, false] rfl rfl (by kernel_rfl) (by decide) (fun K hK => ?_)
      refine val_ (v := (.slice (some ⟨(World.heap w1).size, 0, none⟩) 4 4)) (w1 := World.alloc w1 (.cells #[.int .u8 (Go.bits .andNot .u8 f 1), .int .u8 g, .int .u8 st, .int .u8 0] 5 (0, 0))) (by rfl) rfl ?_ ?_
      · first | kernel_rfl | (go_simp; done) | (go_simp; rfl)
      refine hK.out _ _ ⟨(eG orr), row_at2 (fG HD) 10 (by omega) XF.out, row_at2 (fG HD) 11 (by omega) XG.out⟩ (fun hHeld => ?_)
      clear hK K
      obtain ⟨w2, hw_, hx_, hb_, hz_⟩ := letter1 w1 (.cells #[.int .u8 (Go.bits .andNot .u8 f 1), .int .u8 g, .int .u8 st, .int .u8 0] 5 (0, 0))
      rw [hw_] at hHeld ⊢
      clear hw_
      have hzw2 := Nat.le_of_eq hz_.symm
      (try simp only [sz_drew] at hx_ hzw2)
      clear hz_
      have orr_ := Aside0.mk (box_below hb_ (eG orr))
      (try clear orr orrc orrf orrl)
      have orr := orr_
      clear orr_
      obtain ⟨orrc, orrf, orrl⟩ := cells_of orr.out
      have oz_ := Aside0.mk (box_below hb_ (eG oz))
      (try clear oz ozc ozf ozl)
      have oz := oz_
      clear oz_
      obtain ⟨ozc, ozf, ozl⟩ := cells_of oz.out
      have o9_ := Aside0.mk (box_below hb_ (eG o9))
      (try clear o9 o9c o9f o9l)
      have o9 := o9_
      clear o9_
      obtain ⟨o9c, o9f, o9l⟩ := cells_of o9.out
      have HR_ := Aside0.mk (Kd.F_below (fG HR) hb_)
      clear HR
      have HR := HR_
      clear HR_
      have HD_ := Aside0.mk (Kd.F_below (fG HD) hb_)
      clear HD
      have HD := HD_
      clear HD_
      have oq := Aside0.mk hx_
      obtain ⟨oqc, oqf, oql⟩ := cells_of oq.out
      have HB_ : Aside0 (Below w.heap.size w w2) := Aside0.mk (below_step (bG HB) hb_)
      clear HB hb_ hx_
      have HB := HB_
      clear HB_
      refine norm_ (a' := ?_) ?_ ?_
      rotate_left
      · simp only [Act.put, List.setIfInBounds_toArray, List.set_cons_zero, List.set_cons_succ, i64_w, i32_w]
        rfl
      refine one_ (i := 12) (N := some 24) #[true, true, true, true, true, true, true, true, true, true, true, true, true, false, false, false, true, false, false] rfl rfl (by kernel_rfl) (by decide) (fun K hK => ?_)
      (refine goes_ Try.func31 (by kernel_rfl) rfl #[.agg #[.slice R l.length rc], .int .u64 a10, .slice (some ⟨w1.heap.size, 0, none⟩) 4 4] (by rfl) rfl rfl (by (try simp only [List.map_toArray, List.map_cons, List.map_nil]); first | done | rfl) ?_; (with_reducible refine (rfill_n _ R rc l a10 (some ⟨w1.heap.size, 0, none⟩) 4 [Go.bits .andNot .u8 f 1, g, st, 0] 4 rfl (fillL l a10 [Go.bits .andNot .u8 f 1, g, st, 0]) r2 _ (Kd.V_mk HC.out (fG HR)) (C_blk oq.out rfl (by simp) rfl) (by simp) HFILL.out).mono ?_); rintro e_ w3 ⟨v_s, rfl, ⟨A_s, c_s, rfl, hc_s, hr_s⟩, hb_⟩; refine ⟨_, rfl, ?_⟩; have HB_ : Aside0 (Below w.heap.size w w3) := Aside0.mk (below_step (bG HB) hb_); have hzw3 := hb_.size; (try simp at hzw3); have orr_ := Aside0.mk (box_below hb_ (eG orr)); have oz_ := Aside0.mk (box_below hb_ (eG oz)); have oq_ := Aside0.mk (box_below hb_ (eG oq)); have o9_ := Aside0.mk (box_below hb_ (eG o9)); have HD_ := Aside0.mk (Kd.F_below (fG HD) hb_); clear HD; have HD := HD_; clear HD_; (try clear orr orrc orrf orrl); have orr := orr_; clear orr_; obtain ⟨orrc, orrf, orrl⟩ := cells_of orr.out; (try clear oz ozc ozf ozl); have oz := oz_; clear oz_; obtain ⟨ozc, ozf, ozl⟩ := cells_of oz.out; (try clear oq oqc oqf oql); have oq := oq_; clear oq_; obtain ⟨oqc, oqf, oql⟩ := cells_of oq.out; (try clear o9 o9c o9f o9l); have o9 := o9_; clear o9_; obtain ⟨o9c, o9f, o9l⟩ := cells_of o9.out; clear HB hb_; have HB := HB_; clear HB_; have sc := Aside0.mk hc_s; have s := Aside0.mk (Kd.F_bound hr_s); clear hc_s hr_s; skip)
      refine hK.out _ _ ⟨(eG orr), row_at2 (fG HD) 10 (by omega) XF.out, row_at2 (fG HD) 11 (by omega) XG.out⟩ (fun hHeld => ?_)
      clear hK K
      refine norm_ (a' := ?_) ?_ ?_
      rotate_left
      · simp only [Act.put, List.setIfInBounds_toArray, List.set_cons_zero, List.set_cons_succ, i64_w, i32_w]
        rfl
      refine pure_ (i := 13) (N := some 11) (v := ?_) (a' := ?_) #[true, true, true, true, true, true, true, true, true, true, true, true, true, true, false, false, true, false, false] rfl rfl (by kernel_rfl) (fun _ _ _ h => h) (Or.inl ⟨by rfl, ?_⟩) ?_ ?_
      rotate_left
      · intro w'
        go_simp
        with_reducible rfl
      rotate_left
      · simp only [Act.put, List.setIfInBounds_toArray, List.set_cons_zero, List.set_cons_succ, i64_w, i32_w]
        rfl
      refine pure_ (i := 14) (N := some 25) (v := ?_) (a' := ?_) #[true, true, true, true, true, true, true, true, true, true, true, true, true, true, true, false, true, false, false] rfl rfl (by kernel_rfl) (fun _ _ _ h => h) (Or.inl ⟨by rfl, ?_⟩) ?_ ?_
      rotate_left
      · intro w'
        go_simp
        with_reducible rfl
      rotate_left
      · simp only [Act.put, List.setIfInBounds_toArray, List.set_cons_zero, List.set_cons_succ, i64_w, i32_w]
        rfl
      refine pure_ (i := 15) (N := some 26) (v := ?_) (a' := ?_) #[true, true, true, true, true, true, true, true, true, true, true, true, true, true, true, true, true, false, false] rfl rfl (by kernel_rfl) (fun _ _ _ h => h) (Or.inl ⟨by rfl, ?_⟩) ?_ ?_
      rotate_left
      · intro w'
        go_simp
        with_reducible rfl
      rotate_left
      · simp only [Act.put, List.setIfInBounds_toArray, List.set_cons_zero, List.set_cons_succ, i64_w, i32_w]
        rfl
      refine rowS_ (i := 17) #[true, true, true, true, true, true, true, true, true, true, true, true, true, true, true, true, true, true, false] rfl rfl (by kernel_rfl) (by decide) 27 _ _ rfl (wa.heap.size) (#[.slice A_s (fillL l a10 [Go.bits .andNot .u8 f 1, g, st, 0]).length c_s]) (by rfl) (by rfl) (by rfl) (#[.slice none 0 0]) 27 (eG o9) rfl i27 (one27 _ _ _) ?_
      (rintro wz ⟨hx_, hk_, hb_, hzz_⟩; have HB_ : Aside0 (Below w.heap.size w wz) := Aside0.mk (Below.trans (bG HB) (Below.mono hb_ (by first | omega | (simp only [sz_alloc, sz_drew, sz_drewN]; omega)))); have hzwz := hzz_; (try simp at hzwz); clear hzz_; have orr_ := Aside0.mk (st_put orr.out hk_ (fun h_ => (by repeat (with_reducible first | exact h_ | apply ext_drew | apply ext_drewN | apply ext_alloc | refine blk_far ?_ (by show _ ≠ _; dsimp only; omega) _))) (by omega)); clear orr orrc orrf orrl; have orr := orr_; clear orr_; obtain ⟨orrc, orrf, orrl⟩ := cells_of orr.out; have oz_ := Aside0.mk (st_put oz.out hk_ (fun h_ => (by repeat (with_reducible first | exact h_ | apply ext_drew | apply ext_drewN | apply ext_alloc | refine blk_far ?_ (by show _ ≠ _; dsimp only; omega) _))) (by omega)); clear oz ozc ozf ozl; have oz := oz_; clear oz_; obtain ⟨ozc, ozf, ozl⟩ := cells_of oz.out; have HD_ := Aside0.mk (Kd.F_step (fG HD) (fun j_ hj_ hl_ => hk_ j_ (by (try dsimp only at hj_); (try simp only [sz_alloc, sz_drew, sz_drewN, sz_set] at hj_); omega))); clear HD; have HD := HD_; clear HD_; have s_ := Aside0.mk (Kd.F_step (fG s) (fun j_ hj_ hl_ => hk_ j_ (by (try dsimp only at hj_); (try simp only [sz_alloc, sz_drew, sz_drewN, sz_set] at hj_); omega))); clear s; have s := s_; clear s_; (try clear o9 o9c o9f o9l); have o9 := Aside0.mk hx_; obtain ⟨o9c, o9f, o9l⟩ := cells_of o9.out; clear HB hb_ hk_ hx_; have HB := HB_; clear HB_)
      refine ⟨⟨(eG orr), row_at2 (fG HD) 10 (by omega) XF.out, row_at2 (fG HD) 11 (by omega) XG.out⟩, ?_⟩
      refine pure_ (i := 18) (N := some 10) (v := ?_) (a' := ?_) #[true, true, true, true, true, true, true, true, true, true, true, true, true, true, true, true, true, true, true] rfl rfl (by kernel_rfl) (fun _ _ _ h => h) (Or.inl ⟨by rfl, ?_⟩) ?_ ?_
      rotate_left
      · intro w'
        go_simp
        with_reducible rfl
      rotate_left
      · simp only [Act.put, List.setIfInBounds_toArray, List.set_cons_zero, List.set_cons_succ, i64_w, i32_w]
        rfl
      refine done_ (by kernel_rfl) ?_
      go_wp2_with fail
      go_meet
      exact ⟨wa.heap.size, A_s, c_s, rfl, ⟨o9.out⟩, ⟨oz.out⟩, ⟨(by refine F_res (ok := ?_) ?_ ?_; rotate_left; (repeat (with_reducible first | exact s.out | apply Kd.F_drew | apply Kd.F_drewN | apply Kd.F_alloc | refine Kd.F_far ?_ ?_ _)); all_goals (intro j_ hj_; (try dsimp only at hj_); (try dsimp only); (try simp only [sz_alloc, sz_drew, sz_drewN, sz_set] at hj_); first | omega | exact .inl hj_.1 | exact .inl hj_ | exact .inr (by omega) | (rcases hj_ with hj_ | hj_; exact .inl hj_.1; exact .inr (by omega)) | (rcases hj_ with hj_ | hj_; exact .inl hj_; exact .inr (by omega)) | (rcases hj_.1 with hk_ | hk_; (first | exact .inl hk_.1 | exact .inl hk_); exact .inr (by omega))))⟩, sc, HB, by omega, by omega⟩
  case rest =>
  clear orr oz HR HD HB
  obtain ⟨g9, A_s, c_s, rfl, o9, oz, s, sc, HB, hg9, hg8⟩ := hcut
  rename World => wc
  obtain ⟨o9c, o9f, o9l⟩ := cells_of o9.out
  obtain ⟨ozc, ozf, ozl⟩ := cells_of oz.out
  go_wp2
  refine bodyPost_ret (v := .agg #[.slice A_s (fillL l a10 [Go.bits .andNot .u8 f 1, g, st, 0]).length c_s]) (by simp [results, Try.results44, go_sem, ozc, ozf] <;> first | assumption | omega | (symm; assumption)) rfl ?_
  exact ⟨A_s, c_s, rfl, sc.out, (by refine F_res (ok := ?_) ?_ ?_; rotate_left; (repeat (with_reducible first | exact s.out | apply Kd.F_drew | apply Kd.F_drewN | apply Kd.F_alloc | refine Kd.F_far ?_ ?_ _)); all_goals (intro j_ hj_; (try dsimp only at hj_); (try dsimp only); (try simp only [sz_alloc, sz_drew, sz_drewN, sz_set] at hj_); first | omega | exact .inl hj_.1 | exact .inl hj_ | exact .inr (by omega) | (rcases hj_ with hj_ | hj_; exact .inl hj_.1; exact .inr (by omega)) | (rcases hj_ with hj_ | hj_; exact .inl hj_; exact .inr (by omega)) | (rcases hj_.1 with hk_ | hk_; (first | exact .inl hk_.1 | exact .inl hk_); exact .inr (by omega)))), (bG HB)⟩
end Go.Proofs.Ytdblpflepfcnjaa.Q
end
section
/- The document's Send: a descriptor that is not its own. -/
namespace Go.Proofs.Ytdblpflepfcnjaa.Q
open Go.RowKit Go.Proofs.YtdblpflepfcnjaaW.PrintWords Go.Proofs.YtdblpflepfcnjaaW.PrintLast Go.Proofs.YtdblpflepfcnjaaW.PrintMore Go.Proofs.Ytdblpflepfcnjaa.L
attribute [local go_sem] Instr.field part asAgg lt_step max2_int min2_int max_two min_two max_three min_three max_four min_four lt_0_1 lt_0_2 lt_1_2 lt_0_3 lt_1_3 lt_2_3 lt_0_4 lt_1_4 lt_2_4 lt_3_4 lt_0_5 lt_1_5 lt_2_5 lt_3_5 lt_4_5 lt_0_6 lt_1_6 lt_2_6 lt_3_6 lt_4_6 lt_5_6 lt_0_7 lt_1_7 lt_2_7 lt_3_7 lt_4_7 lt_5_7 lt_6_7 lt_0_8 lt_1_8 lt_2_8 lt_3_8 lt_4_8 lt_5_8 lt_6_8 lt_7_8
set_option linter.unusedVariables false
set_option linter.unusedSimpArgs false
theorem row_some2 {k : IntKind} {W : World} {ok : Nat → Prop} {A : Option Addr} {n : Nat} {xs : List Int} (h : Kd.F (Kd.int k) W ok A n xs) (i : Nat) (hi : i < n) : ∃ ad, A = some ad := by
  obtain ⟨ad', e, _⟩ := Kd.at_int (Kd.F_now h) (i : Int) (by omega) (by omega)
  exact ⟨ad', e⟩
set_option maxHeartbeats 1600000 in
set_option maxRecDepth 100000 in
theorem rsend_notown (A : Option Addr) (m cap : Nat) (R : Option Addr) (rc : Nat) (l : List Int) (c : Nat → Int) (w : World) (ok : Nat → Prop) (hr : Kd.F (Kd.int .u8) w ok R l.length l) (hc : l.length ≤ rc) (at_ : Int) (hk : okC c m = true) (hb0 : (Int.tmod (c 0) 2 == 0) = false) (hb5 : (c 5 == c 6) = false) (hat : IntKind.u64.wrap (c 3 + IntKind.u64.wrap (16 * IntKind.u64.wrap (c 5))) = at_) (ha : u64B at_) (hl : (l.length : Int) ≤ 70000) (h3 : 0 ≤ c 3) (h7 : 0 ≤ c 7) (d : List Int) (x : Int) (hp : bytesZ l at_ 16 = (d, true)) (hdl : d.length = 16) (hx : d.getD 10 0 = x) (ho : (Int.tmod x 2 == 0) = true) (ho' : (x % 2 == 0) = true) :
    Calls Try.prog 24 #[.agg (C14 c (.slice A m cap)), .agg #[.slice R l.length rc]] w (SendPost A m cap ok w c l [] false) := by
  have HB := Aside0.mk (Below.refl w.heap.size w)
  have HR := Aside0.mk (Kd.F_bound hr)
  have HC := Aside0.mk hc
  have hu := Try.underlying25
  have hu7 := Try.underlying27
  have HK := Aside0.mk hk
  have HA := Aside0.mk ha
  have HL := Aside0.mk hl
  have H3 := Aside0.mk h3
  have H7 := Aside0.mk h7
  clear h3 h7
  have HP := Aside0.mk hp
  have HX := Aside0.mk hx
  have HDL := Aside0.mk hdl
  clear hp hx hdl
  clear hr hc hk ha hl
  go_enter Try.func24, Try.ntmps24
  go_upto_region 1 with fail
  obtain ⟨wa, hwa, on0, or0, pn0, pr0, hb_, hz0⟩ := letter4 w (.cells (C14 c (.slice A m cap)) 25 (0, 0)) (.cells #[.slice R l.length rc] 27 (0, 0)) (.cells #[.int .i64 0, .int .i64 0, .int .i64 0, .int .u64 0, .int .i64 0, .int .i64 0, .int .i64 0, .int .u64 0, .int .i64 0, .int .i64 0, .int .i64 0, .int .i64 0, .int .i64 0, .slice none 0 0] 25 (0, 0)) (.cells #[.slice none 0 0] 27 (0, 0))
  rw [hwa]
  clear hwa
  have hzwa := Nat.le_of_eq hz0.symm
  clear hz0
  have on := Aside0.mk on0
  have orr := Aside0.mk or0
  have pn := Aside0.mk pn0
  have pr := Aside0.mk pr0
  clear on0 or0 pn0 pr0
  obtain ⟨onc, onf, onl⟩ := cells_of on.out
  obtain ⟨orrc, orrf, orrl⟩ := cells_of orr.out
  obtain ⟨pnc, pnf, pnl⟩ := cells_of pn.out
  obtain ⟨prc, prf, prl⟩ := cells_of pr.out
  have HB_ : Aside0 (Below w.heap.size w wa) := ⟨hb_⟩
  have HR_ := Aside0.mk (Kd.F_below HR.out hb_)
  clear HB HR hb_; have HB := HB_; have HR := HR_; clear HB_ HR_
  have hc0 : World.cell? wa ⟨w.heap.size, 0, none⟩ = some (.int .i64 (c 0)) := (onc 0).trans rfl
  have hc5 : World.cell? wa ⟨w.heap.size, 5, none⟩ = some (.int .i64 (c 5)) := (onc 5).trans rfl
  have hc6 : World.cell? wa ⟨w.heap.size, 6, none⟩ = some (.int .i64 (c 6)) := (onc 6).trans rfl
  clear onc
  have onc := trivial
  go_wp2_with (first | ((with_reducible refine gate_dst (N := 14) rfl ?_); (try (refine gate_guard (by rfl) ?_; dsimp only)); refine wpList_load_row rfl 25 _ rfl _ (by rfl) _ (C14 c (.slice A m cap)) _ _ (eG on) Try.underlying25 rfl i25 ?_))
  (go_at_call 20; (with_reducible refine (rCheck_of true c A m cap _ H3.out H7.out HK.out).mono ?_); rintro e_ w1 ⟨rfl, hb_⟩; have HB_ : Aside0 (Below w.heap.size w w1) := Aside0.mk (below_step (bG HB) hb_); have hzw1 := hb_.size; (try simp at hzw1); have on_ := Aside0.mk (box_below hb_ (eG on)); have orr_ := Aside0.mk (box_below hb_ (eG orr)); have pn_ := Aside0.mk (box_below hb_ (eG pn)); have pr_ := Aside0.mk (box_below hb_ (eG pr)); have HR_ := Aside0.mk (Kd.F_below (fG HR) hb_); clear HR; have HR := HR_; clear HR_; (try clear on onc onf onl); have on := on_; clear on_; obtain ⟨onc, onf, onl⟩ := cells_of on.out; (try clear orr orrc orrf orrl); have orr := orr_; clear orr_; obtain ⟨orrc, orrf, orrl⟩ := cells_of orr.out; (try clear pn pnc pnf pnl); have pn := pn_; clear pn_; obtain ⟨pnc, pnf, pnl⟩ := cells_of pn.out; (try clear pr prc prf prl); have pr := pr_; clear pr_; obtain ⟨prc, prf, prl⟩ := cells_of pr.out; clear HB hb_; have HB := HB_; clear HB_)
  clear hc0 hc5 hc6
  have hc0 : World.cell? w1 ⟨w.heap.size, 0, none⟩ = some (.int .i64 (c 0)) := (onc 0).trans rfl
  have hc3 : World.cell? w1 ⟨w.heap.size, 3, none⟩ = some (.int .u64 (c 3)) := (onc 3).trans rfl
  have hc5 : World.cell? w1 ⟨w.heap.size, 5, none⟩ = some (.int .i64 (c 5)) := (onc 5).trans rfl
  have hc6 : World.cell? w1 ⟨w.heap.size, 6, none⟩ = some (.int .i64 (c 6)) := (onc 6).trans rfl
  clear onc
  have onc := trivial
  go_wp2_with fail
  (go_at_call 37; (with_reducible refine (rbytes_any R rc l at_ 16 d true _ (Kd.F_now HR.out) HC.out HA.out i64B16 HL.out HP.out).mono ?_); rintro e_ w2 ⟨v_q, rfl, hr_q, hb_⟩; have HB_ : Aside0 (Below w.heap.size w w2) := Aside0.mk (below_step (bG HB) hb_); have hzw2 := hb_.size; (try simp at hzw2); have on_ := Aside0.mk (box_below hb_ (eG on)); have orr_ := Aside0.mk (box_below hb_ (eG orr)); have pn_ := Aside0.mk (box_below hb_ (eG pn)); have pr_ := Aside0.mk (box_below hb_ (eG pr)); have HR_ := Aside0.mk (Kd.F_below (fG HR) hb_); clear HR; have HR := HR_; clear HR_; (try clear on onc onf onl); have on := on_; clear on_; obtain ⟨onc, onf, onl⟩ := cells_of on.out; (try clear orr orrc orrf orrl); have orr := orr_; clear orr_; obtain ⟨orrc, orrf, orrl⟩ := cells_of orr.out; (try clear pn pnc pnf pnl); have pn := pn_; clear pn_; obtain ⟨pnc, pnf, pnl⟩ := cells_of pn.out; (try clear pr prc prf prl); have pr := pr_; clear pr_; obtain ⟨prc, prf, prl⟩ := cells_of pr.out; clear HB hb_; have HB := HB_; clear HB_; obtain ⟨A_q, c_q, ev_, hc_q, hf_q⟩ := R_Fl hr_q; subst ev_; have qc := Aside0.mk hc_q; have q := Aside0.mk (Kd.F_bound hf_q); clear hc_q hf_q hr_q; skip)
  clear hc0 hc3 hc5 hc6
  have hdl := HDL.out
  obtain ⟨ad, rfl⟩ := row_some2 q.out 10 (by omega)
  have hcell : w2.cell? ⟨ad.block, ad.off + 10, none⟩ = some (.int .u8 x) := row_at2 q.out 10 (by omega) HX.out
  rw [hdl]
  rw [hdl] at q qc
  clear hdl
  go_upto_region 9 with fail
  refine start_ (n := 6) (S := fun w' => w'.heap[w.heap.size]? = some (.cells (C14 c (.slice A m cap)) 25 (0, 0)) ∧ w'.heap[w.heap.size + 1]? = some (.cells (#[.slice R l.length rc]) 27 (0, 0))) (ds := []) #[false, false, false, false, false, false] (by kernel_rfl) rfl rfl ⟨(eG on), (eG orr)⟩ (fun hHeld => ?_)
  refine rowL_ (i := 0) (N := some 59) #[true, false, false, false, false, false] rfl rfl (by kernel_rfl) 25 _ rfl (w.heap.size) (C14 c (.slice A m cap)) (fun _ _ _ h => h) (by rfl) (by rfl) _ _ _ (fun _ h => h.1) Try.underlying25 rfl i25 hHeld (a' := ?_) ?_ ?_
  rotate_left
  · simp only [Act.put, List.setIfInBounds_toArray, List.set_cons_zero, List.set_cons_succ, i64_w, i32_w]
    rfl
  refine rowL_ (i := 1) (N := some 60) #[true, true, false, false, false, false] rfl rfl (by kernel_rfl) 27 _ rfl (w.heap.size + 1) (#[.slice R l.length rc]) (fun _ _ _ h => h) (by rfl) (by rfl) _ _ _ (fun _ h => h.2) Try.underlying27 rfl i27 hHeld (a' := ?_) ?_ ?_
  rotate_left
  · simp only [Act.put, List.setIfInBounds_toArray, List.set_cons_zero, List.set_cons_succ, i64_w, i32_w]
    rfl
  refine rowS_ (i := 2) #[true, true, true, false, false, false] rfl rfl (by kernel_rfl) (by decide) 25 _ _ rfl (w.heap.size + 1 + 1) (C14 c (.slice A m cap)) (by rfl) (by rfl) (by rfl) (#[.int .i64 0, .int .i64 0, .int .i64 0, .int .u64 0, .int .i64 0, .int .i64 0, .int .i64 0, .int .u64 0, .int .i64 0, .int .i64 0, .int .i64 0, .int .i64 0, .int .i64 0, .slice none 0 0]) 25 (eG pn) rfl i25 (C14_one _ _ _ _) ?_
  (rintro wq1 ⟨hx_, hk_, hb_, hzz_⟩; have HB_ : Aside0 (Below w.heap.size w wq1) := Aside0.mk (Below.trans (bG HB) (Below.mono hb_ (by first | omega | (simp only [sz_alloc, sz_drew, sz_drewN]; omega)))); have hzwq1 := hzz_; (try simp at hzwq1); clear hzz_; have on_ := Aside0.mk (st_put on.out hk_ (fun h_ => (by repeat (with_reducible first | exact h_ | apply ext_drew | apply ext_drewN | apply ext_alloc | refine blk_far ?_ (by show _ ≠ _; dsimp only; omega) _))) (by omega)); clear on onc onf onl; have on := on_; clear on_; obtain ⟨onc, onf, onl⟩ := cells_of on.out; have orr_ := Aside0.mk (st_put orr.out hk_ (fun h_ => (by repeat (with_reducible first | exact h_ | apply ext_drew | apply ext_drewN | apply ext_alloc | refine blk_far ?_ (by show _ ≠ _; dsimp only; omega) _))) (by omega)); clear orr orrc orrf orrl; have orr := orr_; clear orr_; obtain ⟨orrc, orrf, orrl⟩ := cells_of orr.out; have pr_ := Aside0.mk (st_put pr.out hk_ (fun h_ => (by repeat (with_reducible first | exact h_ | apply ext_drew | apply ext_drewN | apply ext_alloc | refine blk_far ?_ (by show _ ≠ _; dsimp only; omega) _))) (by omega)); clear pr prc prf prl; have pr := pr_; clear pr_; obtain ⟨prc, prf, prl⟩ := cells_of pr.out; have HR_ := Aside0.mk (Kd.F_step (fG HR) (fun j_ hj_ hl_ => hk_ j_ (by (try dsimp only at hj_); (try simp only [sz_alloc, sz_drew, sz_drewN, sz_set] at hj_); omega))); clear HR; have HR := HR_; clear HR_; (try clear pn pnc pnf pnl); have pn := Aside0.mk hx_; obtain ⟨pnc, pnf, pnl⟩ := cells_of pn.out; clear HB hb_ hk_ hx_; have HB := HB_; clear HB_)
  refine ⟨⟨(eG on), (eG orr)⟩, ?_⟩
  refine rowS_ (i := 3) #[true, true, true, true, false, false] rfl rfl (by kernel_rfl) (by decide) 27 _ _ rfl (w.heap.size + 1 + 1 + 1) (#[.slice R l.length rc]) (by rfl) (by rfl) (by rfl) (#[.slice none 0 0]) 27 (eG pr) rfl i27 (one27 _ _ _) ?_
  (rintro wq2 ⟨hx_, hk_, hb_, hzz_⟩; have HB_ : Aside0 (Below w.heap.size w wq2) := Aside0.mk (Below.trans (bG HB) (Below.mono hb_ (by first | omega | (simp only [sz_alloc, sz_drew, sz_drewN]; omega)))); have hzwq2 := hzz_; (try simp at hzwq2); clear hzz_; have on_ := Aside0.mk (st_put on.out hk_ (fun h_ => (by repeat (with_reducible first | exact h_ | apply ext_drew | apply ext_drewN | apply ext_alloc | refine blk_far ?_ (by show _ ≠ _; dsimp only; omega) _))) (by omega)); clear on onc onf onl; have on := on_; clear on_; obtain ⟨onc, onf, onl⟩ := cells_of on.out; have orr_ := Aside0.mk (st_put orr.out hk_ (fun h_ => (by repeat (with_reducible first | exact h_ | apply ext_drew | apply ext_drewN | apply ext_alloc | refine blk_far ?_ (by show _ ≠ _; dsimp only; omega) _))) (by omega)); clear orr orrc orrf orrl; have orr := orr_; clear orr_; obtain ⟨orrc, orrf, orrl⟩ := cells_of orr.out; have pn_ := Aside0.mk (st_put pn.out hk_ (fun h_ => (by repeat (with_reducible first | exact h_ | apply ext_drew | apply ext_drewN | apply ext_alloc | refine blk_far ?_ (by show _ ≠ _; dsimp only; omega) _))) (by omega)); clear pn pnc pnf pnl; have pn := pn_; clear pn_; obtain ⟨pnc, pnf, pnl⟩ := cells_of pn.out; have HR_ := Aside0.mk (Kd.F_step (fG HR) (fun j_ hj_ hl_ => hk_ j_ (by (try dsimp only at hj_); (try simp only [sz_alloc, sz_drew, sz_drewN, sz_set] at hj_); omega))); clear HR; have HR := HR_; clear HR_; (try clear pr prc prf prl); have pr := Aside0.mk hx_; obtain ⟨prc, prf, prl⟩ := cells_of pr.out; clear HB hb_ hk_ hx_; have HB := HB_; clear HB_)
  refine ⟨⟨(eG on), (eG orr)⟩, ?_⟩
  refine pure_ (i := 4) (N := some 6) (v := ?_) (a' := ?_) #[true, true, true, true, true, false] rfl rfl (by kernel_rfl) (fun _ _ _ h => h) (Or.inl ⟨by rfl, ?_⟩) ?_ ?_
  rotate_left
  · intro w'
    go_simp
    with_reducible rfl
  rotate_left
  · simp only [Act.put, List.setIfInBounds_toArray, List.set_cons_zero, List.set_cons_succ, i64_w, i32_w]
    rfl
  refine pure_ (i := 5) (N := some 7) (v := ?_) (a' := ?_) #[true, true, true, true, true, true] rfl rfl (by kernel_rfl) (fun _ _ _ h => h) (Or.inl ⟨by rfl, ?_⟩) ?_ ?_
  rotate_left
  · intro w'
    go_simp
    with_reducible rfl
  rotate_left
  · simp only [Act.put, List.setIfInBounds_toArray, List.set_cons_zero, List.set_cons_succ, i64_w, i32_w]
    rfl
  refine done_ (by kernel_rfl) ?_
  go_wp2
  refine bodyPost_ret (results_cctt rfl _ _ (w.heap.size + 1 + 1) (w.heap.size + 1 + 1 + 1) 25 27 (C14 (c) (.slice A m cap)) #[.slice R l.length rc] (0, 0) (0, 0) _ _ rfl rfl pn.out pr.out Try.underlying25 rfl i25 Try.underlying27 rfl i27) rfl ?_
  exact ⟨R, rc, none, 0, rfl, HC.out, (by refine F_res (ok := ?_) ?_ ?_; rotate_left; (repeat (with_reducible first | exact HR.out | apply Kd.F_drew | apply Kd.F_drewN | apply Kd.F_alloc | refine Kd.F_far ?_ ?_ _)); all_goals (intro j_ hj_; (try dsimp only at hj_); (try dsimp only); (try simp only [sz_alloc, sz_drew, sz_drewN, sz_set] at hj_); first | omega | exact .inl hj_.1 | exact .inl hj_ | exact .inr (by omega) | (rcases hj_ with hj_ | hj_; exact .inl hj_.1; exact .inr (by omega)) | (rcases hj_ with hj_ | hj_; exact .inl hj_; exact .inr (by omega)) | (rcases hj_.1 with hk_ | hk_; (first | exact .inl hk_.1 | exact .inl hk_); exact .inr (by omega)))), Nat.le_refl _, F_nil, (bG HB)⟩
end Go.Proofs.Ytdblpflepfcnjaa.Q
end
section
/- How long a controller sends: plain laws. -/
namespace Go.Proofs.Ytdblpflepfcnjaa.Q
open Go.RowKit Go.Proofs.YtdblpflepfcnjaaW.PrintWords Go.Proofs.YtdblpflepfcnjaaW.PrintLast Go.Proofs.YtdblpflepfcnjaaW.PrintMore Go.Proofs.Ytdblpflepfcnjaa.L
set_option linter.unusedVariables false
set_option linter.unusedSimpArgs false
theorem odd_all : ∀ n ∈ List.range 256, (Go.bits .and .u8 (n : Int) 1 == 1) = ((n : Int) % 2 == 1) := by decide +kernel
theorem odd_is (x : Int) (h : byte x) : (Go.bits .and .u8 x 1 == 1) = (x % 2 == 1) := by
  obtain ⟨n, rfl⟩ := Int.eq_ofNat_of_zero_le h.1
  exact odd_all n (List.mem_range.2 (by have := h.2; omega))
theorem getD_byte (d : List Int) (h : ∀ z ∈ d, byte z) (i : Nat) : byte (d.getD i 0) := by
  rw [List.getD_eq_getElem?_getD]
  cases e : d[i]? with
  | none => exact ⟨Int.le_refl 0, by decide⟩
  | some x => exact h x (List.mem_of_getElem? e)
theorem ctl_all : ∀ n ∈ List.range 8, (Go.bits .and .i64 (n : Int) 1 == 0) = ((n : Int) % 2 == 0) ∧ Go.bits .and .i64 (Go.bits .andNot .i64 (n : Int) 1) 1 = 0 := by decide +kernel
theorem ctl_is (x : Int) (h : 0 ≤ x ∧ x < 8) : (Go.bits .and .i64 x 1 == 0) = (x % 2 == 0) ∧ Go.bits .and .i64 (Go.bits .andNot .i64 x 1) 1 = 0 := by
  obtain ⟨n, rfl⟩ := Int.eq_ofNat_of_zero_le h.1
  exact ctl_all n (List.mem_range.2 (by omega))
end Go.Proofs.Ytdblpflepfcnjaa.Q
end
section
/- The law's own memory; the document's Same on equal controllers. -/
namespace Go.Proofs.Ytdblpflepfcnjaa.Q
open Go.RowKit Go.Proofs.YtdblpflepfcnjaaW.PrintWords Go.Proofs.YtdblpflepfcnjaaW.PrintLast Go.Proofs.YtdblpflepfcnjaaW.PrintMore Go.Proofs.Ytdblpflepfcnjaa.L
attribute [local go_sem] Instr.field part asAgg lt_step max2_int min2_int max_two min_two max_three min_three max_four min_four lt_0_1 lt_0_2 lt_1_2 lt_0_3 lt_1_3 lt_2_3 lt_0_4 lt_1_4 lt_2_4 lt_3_4 lt_0_5 lt_1_5 lt_2_5 lt_3_5 lt_4_5 lt_0_6 lt_1_6 lt_2_6 lt_3_6 lt_4_6 lt_5_6 lt_0_7 lt_1_7 lt_2_7 lt_3_7 lt_4_7 lt_5_7 lt_6_7 lt_0_8 lt_1_8 lt_2_8 lt_3_8 lt_4_8 lt_5_8 lt_6_8 lt_7_8
set_option linter.unusedVariables false
set_option linter.unusedSimpArgs false
set_option maxHeartbeats 1600000 in
set_option maxRecDepth 100000 in
theorem lawown_is (R : Option Addr) (rc : Nat) (l : List Int) (w : World) (ok : Nat → Prop) (hr : Kd.F (Kd.int .u8) w ok R l.length l) (hc : l.length ≤ rc) (hl : (l.length : Int) ≤ 70000) :
    Calls Try.prog 23 #[.agg #[.slice R l.length rc]] w fun e w' => ∃ A' c', e = .returned (.agg #[.slice A' l.length c']) ∧ l.length ≤ c' ∧ Kd.F (Kd.int .u8) w' (fun j => w.heap.size ≤ j) A' l.length l ∧ Below w.heap.size w w' := by
  have HB := Aside0.mk (Below.refl w.heap.size w)
  have HR := Aside0.mk (Kd.F_bound hr)
  have HC := Aside0.mk hc
  have HL := Aside0.mk hl
  have hu7 := Try.underlying27
  clear hr hc hl
  go_enter Try.func23, Try.ntmps23
  go_upto_region 1 with fail
  obtain ⟨wa, hwa, on0, or0, hb_, hz0⟩ := letter2 w (.cells #[.slice R l.length rc] 27 (0, 0)) (.cells #[.slice none 0 0] 27 (0, 0))
  rw [hwa]
  clear hwa
  have hzwa := Nat.le_of_eq hz0.symm
  clear hz0
  have orr := Aside0.mk on0
  have oz := Aside0.mk or0
  clear on0 or0
  obtain ⟨orrc, orrf, orrl⟩ := cells_of orr.out
  obtain ⟨ozc, ozf, ozl⟩ := cells_of oz.out
  have HB_ : Aside0 (Below w.heap.size w wa) := ⟨hb_⟩
  have HR_ := Aside0.mk (Kd.F_below HR.out hb_)
  clear HB HR hb_; have HB := HB_; have HR := HR_; clear HB_ HR_
  go_wp2_with (first | ((with_reducible refine gate_dst (N := 3) rfl ?_); refine Kd.R_lit (Kd.int .u8) _ 5 ?hg (N := 3) ?hd (xs := ([] : List Int)) (inner := []) (ok := fun _ => True) (okp := fun _ => True) ?hr ?hp (fun _ hk => hk) trivial (Below.refl _ _) (Nat.le_refl _) (by simp) ?_; (case hd => rfl); (case hg => rfl); (case hr => first | (go_simp; done) | (go_simp; rfl)); (case hp => exact (Reps.none _ _)); intro v1 w1 ho1 hb hg_ hnew_; clear hg_ hnew_; have HO1 := Aside0.mk ho1; have HB1 := Aside0.mk hb; have orr1 := Aside0.mk (box_below hb orr.out); obtain ⟨orr1c, orr1f, orr1l⟩ := cells_of orr1.out; clear ho1 hb) | ((with_reducible refine gate_builtin (b := .append) (xs := #[.tmp 3, .tmp 5]) rfl ?_); at_builtin; refine Kd.R_append_rows (Kd.int .u8) (w0 := wa) (World.heap wa).size rfl (.tmp 3) (.tmp 5) 23 5 (.int .u8 0) 1 rfl Try.underlying23 infoB rfl (by decide) (by omega) v1 [] l _ _ _ (fun _ => True) (fun _ => False) rfl rfl ?aO ?aR (fun _ _ h => h) (fun _ h => h.elim) ?aF ?aB ?aS ?aL ?_; (case aR => repeat (first | exact (Kd.C_below (Kd.F_now HR.out) HB1.out) | (with_reducible refine Kd.C_alloc ?_ _) | (with_reducible refine Kd.C_drewN ?_ _) | (with_reducible refine Kd.C_drew ?_))); (case aB => exact HB1.out); (case aF => exact (fun _ _ => trivial)); (case aO => exact HO1.out); (case aS => exact HB1.out.size); (case aL => have := HL.out; simp; omega); intro v2 w2 ho hb_ hg hat; rw [List.nil_append] at ho; have orr_ := Aside0.mk (box_below hb_ orr.out); clear orr orrc orrf orrl; have orr := orr_; clear orr_; obtain ⟨orrc, orrf, orrl⟩ := cells_of orr.out; have oz_ := Aside0.mk (box_below hb_ oz.out); clear oz ozc ozf ozl; have oz := oz_; clear oz_; obtain ⟨ozc, ozf, ozl⟩ := cells_of oz.out; have HR_ := Aside0.mk (Kd.F_below HR.out hb_); clear HR; have HR := HR_; clear HR_; have HB_ : Aside0 (Below w.heap.size w w2) := Aside0.mk (below_step HB.out hb_); have hzw2 := hb_.size; clear HB; have HB := HB_; clear HB_; obtain ⟨A_q, c_q, ev_, hc_q, hf_q⟩ := R_Fl ho; subst ev_; have q := Aside0.mk (Kd.F_bound hf_q); clear ho hf_q hg hat HO1 HB1))
  refine bodyPost_ret (v := .agg #[.slice A_q l.length c_q]) (by simp [results, Try.results23, go_sem, ozc, ozf] <;> first | assumption | omega | (symm; assumption)) rfl ?_
  exact ⟨A_q, c_q, rfl, hc_q, (by refine F_res (ok := ?_) (fG q) ?_; intro j_ hj_; (try simp only [sz_alloc, sz_drew, sz_drewN, sz_set] at hj_); omega), (bG HB)⟩
theorem Same07_t (n : Nat) (A0 : Option Addr) (c0 : Nat) (A1 : Option Addr) (c1 : Nat) (l : List Int) (w : World) (hn : l.length = n) (hr0 : Kd.C (Kd.int .u8) w A0 n l) (hc0 : n ≤ c0) (hr1 : Kd.C (Kd.int .u8) w A1 n l) (hc1 : n ≤ c1) :
    Calls Try.prog 25 #[.agg #[.slice A0 n c0], .agg #[.slice A1 n c1]] w fun e w' => e = .returned (.bool true) ∧ Below w.heap.size w w' := by
  subst hn
  exact drawbridgeref07_Same.calls A0 c0 l A1 c1 l true w hr0 hc0 hr1 hc1 (by unfold drawbridgeref07_Same.f; rw [beq_self_eq_true])
theorem Same01_t (n : Nat) (A0 : Option Addr) (c0 : Nat) (A1 : Option Addr) (c1 : Nat) (l : List Int) (w : World) (hn : l.length = n) (hr0 : Kd.C (Kd.int .u8) w A0 n l) (hc0 : n ≤ c0) (hr1 : Kd.C (Kd.int .u8) w A1 n l) (hc1 : n ≤ c1) :
    Calls Try.prog 26 #[.slice A0 n c0, .slice A1 n c1] w fun e w' => e = .returned (.bool true) ∧ Below w.heap.size w w' := by
  subst hn
  exact (drawbridgeref01_Same.calls A0 c0 l A1 c1 l true w hr0 hc0 hr1 hc1 (by unfold drawbridgeref01_Same.f; rw [beq_self_eq_true])).mono fun _ _ ⟨he, hd⟩ => ⟨he, hd.below⟩
set_option maxHeartbeats 1600000 in
set_option maxRecDepth 100000 in
theorem Same_is (c : Nat → Int) (A : Option Addr) (cap : Nat) (A2 : Option Addr) (cap2 : Nat) (mac : List Int) (w : World) (okm okm2 : Nat → Prop) (hm : Kd.F (Kd.int .u8) w okm A mac.length mac) (hmc : mac.length ≤ cap) (hm2 : Kd.F (Kd.int .u8) w okm2 A2 mac.length mac) (hmc2 : mac.length ≤ cap2) :
    Calls Try.prog 19 #[.agg (C14 c (.slice A mac.length cap)), .agg (C14 c (.slice A2 mac.length cap2))] w fun e w' => e = .returned (.bool true) ∧ Below w.heap.size w w' := by
  have HB := Aside0.mk (Below.refl w.heap.size w)
  have HM := Aside0.mk (Kd.F_bound hm)
  have HM2 := Aside0.mk (Kd.F_bound hm2)
  have hu := Try.underlying25
  go_enter Try.func19, Try.ntmps19
  go_upto_region 1 with fail
  obtain ⟨wa, hwa, on0, om0, hb_, hz0⟩ := letter2 w (.cells (C14 c (.slice A mac.length cap)) 25 (0, 0)) (.cells (C14 c (.slice A2 mac.length cap2)) 25 (0, 0))
  rw [hwa]
  clear hwa
  obtain ⟨onc, onf, onl⟩ := cells_of on0
  obtain ⟨omc, omf, oml⟩ := cells_of om0
  have hcv3 := Kd.C_string (P := Try.prog) (A := A) (c := cap) Try.underlying23 Try.underlying5 Try.underlying9 (Kd.F_now (Kd.F_below HM.out hb_))
  have hcv4 := Kd.C_string (P := Try.prog) (A := A2) (c := cap2) Try.underlying23 Try.underlying5 Try.underlying9 (Kd.F_now (Kd.F_below HM2.out hb_))
  have hc0 : World.cell? wa ⟨w.heap.size, 0, none⟩ = some (.int .i64 (c 0)) := (onc 0).trans rfl
  have hc1 : World.cell? wa ⟨w.heap.size, 1, none⟩ = some (.int .i64 (c 1)) := (onc 1).trans rfl
  have hc2 : World.cell? wa ⟨w.heap.size, 2, none⟩ = some (.int .i64 (c 2)) := (onc 2).trans rfl
  have hc3 : World.cell? wa ⟨w.heap.size, 3, none⟩ = some (.int .u64 (c 3)) := (onc 3).trans rfl
  have hc4 : World.cell? wa ⟨w.heap.size, 4, none⟩ = some (.int .i64 (c 4)) := (onc 4).trans rfl
  have hc5 : World.cell? wa ⟨w.heap.size, 5, none⟩ = some (.int .i64 (c 5)) := (onc 5).trans rfl
  have hc6 : World.cell? wa ⟨w.heap.size, 6, none⟩ = some (.int .i64 (c 6)) := (onc 6).trans rfl
  have hc7 : World.cell? wa ⟨w.heap.size, 7, none⟩ = some (.int .u64 (c 7)) := (onc 7).trans rfl
  have hc8 : World.cell? wa ⟨w.heap.size, 8, none⟩ = some (.int .i64 (c 8)) := (onc 8).trans rfl
  have hc9 : World.cell? wa ⟨w.heap.size, 9, none⟩ = some (.int .i64 (c 9)) := (onc 9).trans rfl
  have hc10 : World.cell? wa ⟨w.heap.size, 10, none⟩ = some (.int .i64 (c 10)) := (onc 10).trans rfl
  have hc11 : World.cell? wa ⟨w.heap.size, 11, none⟩ = some (.int .i64 (c 11)) := (onc 11).trans rfl
  have hc12 : World.cell? wa ⟨w.heap.size, 12, none⟩ = some (.int .i64 (c 12)) := (onc 12).trans rfl
  have hd0 : World.cell? wa ⟨w.heap.size + 1, 0, none⟩ = some (.int .i64 (c 0)) := (omc 0).trans rfl
  have hd1 : World.cell? wa ⟨w.heap.size + 1, 1, none⟩ = some (.int .i64 (c 1)) := (omc 1).trans rfl
  have hd2 : World.cell? wa ⟨w.heap.size + 1, 2, none⟩ = some (.int .i64 (c 2)) := (omc 2).trans rfl
  have hd3 : World.cell? wa ⟨w.heap.size + 1, 3, none⟩ = some (.int .u64 (c 3)) := (omc 3).trans rfl
  have hd4 : World.cell? wa ⟨w.heap.size + 1, 4, none⟩ = some (.int .i64 (c 4)) := (omc 4).trans rfl
  have hd5 : World.cell? wa ⟨w.heap.size + 1, 5, none⟩ = some (.int .i64 (c 5)) := (omc 5).trans rfl
  have hd6 : World.cell? wa ⟨w.heap.size + 1, 6, none⟩ = some (.int .i64 (c 6)) := (omc 6).trans rfl
  have hd7 : World.cell? wa ⟨w.heap.size + 1, 7, none⟩ = some (.int .u64 (c 7)) := (omc 7).trans rfl
  have hd8 : World.cell? wa ⟨w.heap.size + 1, 8, none⟩ = some (.int .i64 (c 8)) := (omc 8).trans rfl
  have hd9 : World.cell? wa ⟨w.heap.size + 1, 9, none⟩ = some (.int .i64 (c 9)) := (omc 9).trans rfl
  have hd10 : World.cell? wa ⟨w.heap.size + 1, 10, none⟩ = some (.int .i64 (c 10)) := (omc 10).trans rfl
  have hd11 : World.cell? wa ⟨w.heap.size + 1, 11, none⟩ = some (.int .i64 (c 11)) := (omc 11).trans rfl
  have hd12 : World.cell? wa ⟨w.heap.size + 1, 12, none⟩ = some (.int .i64 (c 12)) := (omc 12).trans rfl
  have hc13 := (onc 13).trans (C14_mac c (.slice A mac.length cap))
  have hd13 := (omc 13).trans (C14_mac c (.slice A2 mac.length cap2))
  clear onc omc on0 om0 hz0 HM HM2 hm hm2
  go_wp2
  go_ret
  exact ⟨by first | rfl | (simp; done), (by repeat (first | (with_reducible first | exact hb_ | exact Below.refl _ _ | apply below_alloc | apply pw_below_drewN | apply below_drew | refine below_set ?_ (by omega)) | exact hb_))⟩
end Go.Proofs.Ytdblpflepfcnjaa.Q
end
