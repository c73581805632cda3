import Derived.Test.YtdblpflepfcnjaaHZ1
import Derived.Test.YtdblpflepfcnjaaHZ4
import Derived.Test.YtdblpflepfcnjaaHZ3
import Derived.Test.YtdblpflepfcnjaaHNpd
import Derived.Test.YtdblpflepfcnjaaHZ2
/- NicDrains, walked: a controller sends no more frames in a row than its ring has. -/
namespace Go.Proofs.Ytdblpflepfcnjaa.Q
open Go.RowKit Go.Proofs.YtdblpflepfcnjaaW.PrintWords Go.Proofs.YtdblpflepfcnjaaW.PrintLast Go.Proofs.YtdblpflepfcnjaaW.PrintMore Go.Proofs.Ytdblpflepfcnjaa.L
attribute [local go_sem] Instr.field part asAgg lt_step max2_int min2_int max_two min_two max_three min_three max_four min_four lt_0_1 lt_0_2 lt_1_2 lt_0_3 lt_1_3 lt_2_3 lt_0_4 lt_1_4 lt_2_4 lt_3_4 lt_0_5 lt_1_5 lt_2_5 lt_3_5 lt_4_5 lt_0_6 lt_1_6 lt_2_6 lt_3_6 lt_4_6 lt_5_6 lt_0_7 lt_1_7 lt_2_7 lt_3_7 lt_4_7 lt_5_7 lt_6_7 lt_0_8 lt_1_8 lt_2_8 lt_3_8 lt_4_8 lt_5_8 lt_6_8 lt_7_8
set_option linter.unusedVariables false
set_option linter.unusedSimpArgs false
def drainV (w : World) (ga gb : Nat) (A : Option Addr) (cap : Nat) (mac : List Int) (c0 : Nat → Int) (L : Nat) (k : Nat) (c : Nat → Int) (R : Option Addr) (rc : Nat) (l : List Int) (wx : World) : Prop :=
  Below w.heap.size w wx ∧ w.heap.size + 1 + 1 ≤ wx.heap.size ∧ ga < wx.heap.size ∧ gb < wx.heap.size ∧
  wx.heap[w.heap.size]? = some (.cells (C14 c0 (.slice A mac.length cap)) 25 (0, 0)) ∧ wx.heap[ga]? = some (.cells (C14 c (.slice A mac.length cap)) 25 (0, 0)) ∧ wx.heap[gb]? = some (.cells #[.slice R l.length rc] 27 (0, 0)) ∧
  Kd.F (Kd.int .u8) wx (fun j => j ≠ ga ∧ j ≠ gb) R l.length l ∧ l.length ≤ rc ∧ Ok c mac.length ∧ c 4 = c0 4 ∧ k + remZ c ≤ c0 4 - 1 ∧ (∀ z ∈ l, byte z) ∧ l.length = L
theorem refRead_of (l : List Int) (a d : Int) (x : Bool) (ha : u64B a) (hl : (l.length : Int) ≤ 70000) (hb : ∀ z ∈ l, byte z) (h : readZ l a 1 = (d, x)) : drawbridgeref07_Read.f l a 1 = some (d, x) := by
  rw [← h]; exact refRead_is l a 1 ha ⟨by decide, by decide⟩ hl hb
set_option maxHeartbeats 1600000 in
set_option maxRecDepth 100000 in
theorem drains_q1 (A : Option Addr) (cap : Nat) (mac : List Int) (R : Option Addr) (rc : Nat) (l : List Int) (c : Nat → Int) (w : World) (okm ok : Nat → Prop) (hm : Kd.F (Kd.int .u8) w okm A mac.length mac) (hmc : mac.length ≤ cap) (hr : Kd.F (Kd.int .u8) w ok R l.length l) (hc : l.length ≤ rc) (hq : decide ((l.length : Int) > 20000) = true) :
    Calls Try.prog 3 #[.agg (C14 c (.slice A mac.length cap)), .agg #[.slice R l.length rc]] w fun e w' => e = .returned (.bool true) ∧ Below w.heap.size w w' := by
  have HB := Aside0.mk (Below.refl w.heap.size w)
  have HM := Aside0.mk (Kd.F_bound hm)
  have HR := Aside0.mk (Kd.F_bound hr)
  have HMC := Aside0.mk hmc
  have HC := Aside0.mk hc
  have hu := Try.underlying25
  have hu7 := Try.underlying27
  clear hm hmc hr hc
  go_enter Try.func3, Try.ntmps3
  go_upto_region 1 with fail
  obtain ⟨wa, hwa, on0, or0, hb_, hz0⟩ := letter2 w (.cells (C14 c (.slice A mac.length cap)) 25 (0, 0)) (.cells #[.slice R l.length rc] 27 (0, 0))
  rw [hwa]
  clear hwa
  have hzwa := Nat.le_of_eq hz0.symm
  clear hz0
  have on := Aside0.mk on0
  have orr := Aside0.mk or0
  clear on0 or0
  obtain ⟨onc, onf, onl⟩ := cells_of on.out
  obtain ⟨orrc, orrf, orrl⟩ := cells_of orr.out
  have HB_ : Aside0 (Below w.heap.size w wa) := ⟨hb_⟩
  have HM_ := Aside0.mk (Kd.F_below HM.out hb_)
  clear HM
  have HM := HM_
  clear HM_
  have HR_ := Aside0.mk (Kd.F_below HR.out hb_)
  clear HR
  have HR := HR_
  clear HR_
  clear HB hb_
  have HB := HB_
  clear HB_
  go_wp2_with fail
  (go_at_call 10; (with_reducible refine (heads_is _).mono ?_); rintro e_ w2 ⟨rfl, hb_⟩; have HB_ : Aside0 (Below w.heap.size w w2) := Aside0.mk (below_step (bG HB) hb_); have hzw2 := hb_.size; (try simp at hzw2); have on_ := Aside0.mk (box_below hb_ (eG on)); have orr_ := Aside0.mk (box_below hb_ (eG orr)); (try clear on onc onf onl); have on := on_; clear on_; obtain ⟨onc, onf, onl⟩ := cells_of on.out; (try clear orr orrc orrf orrl); have orr := orr_; clear orr_; obtain ⟨orrc, orrf, orrl⟩ := cells_of orr.out; clear HB hb_; have HB := HB_; clear HB_)
  go_wp2
  go_ret
  exact ⟨rfl, (bG HB)⟩
set_option maxHeartbeats 1600000 in
set_option maxRecDepth 100000 in
theorem drains_q2 (A : Option Addr) (cap : Nat) (mac : List Int) (R : Option Addr) (rc : Nat) (l : List Int) (c : Nat → Int) (w : World) (okm ok : Nat → Prop) (hm : Kd.F (Kd.int .u8) w okm A mac.length mac) (hmc : mac.length ≤ cap) (hr : Kd.F (Kd.int .u8) w ok R l.length l) (hc : l.length ≤ rc) (hq : decide ((l.length : Int) > 20000) = false) (hk : okC c mac.length = false) :
    Calls Try.prog 3 #[.agg (C14 c (.slice A mac.length cap)), .agg #[.slice R l.length rc]] w fun e w' => e = .returned (.bool true) ∧ Below w.heap.size w w' := by
  have HB := Aside0.mk (Below.refl w.heap.size w)
  have HM := Aside0.mk (Kd.F_bound hm)
  have HR := Aside0.mk (Kd.F_bound hr)
  have HMC := Aside0.mk hmc
  have HC := Aside0.mk hc
  have hu := Try.underlying25
  have hu7 := Try.underlying27
  have HK := Aside0.mk hk
  clear hk
  clear hm hmc hr hc
  go_enter Try.func3, Try.ntmps3
  go_upto_region 1 with fail
  obtain ⟨wa, hwa, on0, or0, hb_, hz0⟩ := letter2 w (.cells (C14 c (.slice A mac.length cap)) 25 (0, 0)) (.cells #[.slice R l.length rc] 27 (0, 0))
  rw [hwa]
  clear hwa
  have hzwa := Nat.le_of_eq hz0.symm
  clear hz0
  have on := Aside0.mk on0
  have orr := Aside0.mk or0
  clear on0 or0
  obtain ⟨onc, onf, onl⟩ := cells_of on.out
  obtain ⟨orrc, orrf, orrl⟩ := cells_of orr.out
  have HB_ : Aside0 (Below w.heap.size w wa) := ⟨hb_⟩
  have HM_ := Aside0.mk (Kd.F_below HM.out hb_)
  clear HM
  have HM := HM_
  clear HM_
  have HR_ := Aside0.mk (Kd.F_below HR.out hb_)
  clear HR
  have HR := HR_
  clear HR_
  clear HB hb_
  have HB := HB_
  clear HB_
  go_wp2_with (first | ((with_reducible refine gate_dst (N := 19) rfl ?_); (try (refine gate_guard (by rfl) ?_; dsimp only)); refine wpList_load_row rfl 25 _ rfl _ (by rfl) _ (C14 c (.slice A mac.length cap)) _ _ (eG on) Try.underlying25 rfl i25 ?_))
  (go_at_call 9; (with_reducible refine (Check_of false c A mac.length cap _ HK.out).mono ?_); rintro e_ w1 ⟨rfl, hb_⟩; have HB_ : Aside0 (Below w.heap.size w w1) := Aside0.mk (below_step (bG HB) hb_); have hzw1 := hb_.size; (try simp at hzw1); have on_ := Aside0.mk (box_below hb_ (eG on)); have orr_ := Aside0.mk (box_below hb_ (eG orr)); (try clear on onc onf onl); have on := on_; clear on_; obtain ⟨onc, onf, onl⟩ := cells_of on.out; (try clear orr orrc orrf orrl); have orr := orr_; clear orr_; obtain ⟨orrc, orrf, orrl⟩ := cells_of orr.out; clear HB hb_; have HB := HB_; clear HB_)
  go_wp2_with fail
  (go_at_call 10; (with_reducible refine (heads_is _).mono ?_); rintro e_ w2 ⟨rfl, hb_⟩; have HB_ : Aside0 (Below w.heap.size w w2) := Aside0.mk (below_step (bG HB) hb_); have hzw2 := hb_.size; (try simp at hzw2); have on_ := Aside0.mk (box_below hb_ (eG on)); have orr_ := Aside0.mk (box_below hb_ (eG orr)); (try clear on onc onf onl); have on := on_; clear on_; obtain ⟨onc, onf, onl⟩ := cells_of on.out; (try clear orr orrc orrf orrl); have orr := orr_; clear orr_; obtain ⟨orrc, orrf, orrl⟩ := cells_of orr.out; clear HB hb_; have HB := HB_; clear HB_)
  go_wp2
  go_ret
  exact ⟨rfl, (bG HB)⟩
set_option maxHeartbeats 1600000 in
set_option maxRecDepth 100000 in
theorem drains_is (A : Option Addr) (cap : Nat) (mac : List Int) (R : Option Addr) (rc : Nat) (l : List Int) (c : Nat → Int) (w : World) (okm ok : Nat → Prop) (hm : Kd.F (Kd.int .u8) w okm A mac.length mac) (hmc : mac.length ≤ cap) (hr : Kd.F (Kd.int .u8) w ok R l.length l) (hc : l.length ≤ rc) (hq : decide ((l.length : Int) > 20000) = false) (hk : okC c mac.length = true) (hby : ∀ z ∈ l, byte z) :
    Calls Try.prog 3 #[.agg (C14 c (.slice A mac.length cap)), .agg #[.slice R l.length rc]] w fun e w' => e = .returned (.bool true) ∧ Below w.heap.size w w' := by
  have HB := Aside0.mk (Below.refl w.heap.size w)
  have HM := Aside0.mk (Kd.F_bound hm)
  have HR := Aside0.mk (Kd.F_bound hr)
  have HMC := Aside0.mk hmc
  have HC := Aside0.mk hc
  have hu := Try.underlying25
  have hu7 := Try.underlying27
  have hl2 : (l.length : Int) ≤ 20000 := by have := of_decide_eq_false hq; omega
  have K := Aside0.mk ((okC_iff _ _).1 hk)
  have HBY := Aside0.mk hby
  have HK := Aside0.mk hk
  clear hk hby
  clear hm hmc hr hc
  go_enter Try.func3, Try.ntmps3
  go_upto_region 1 with fail
  obtain ⟨wa, hwa, on0, or0, hb_, hz0⟩ := letter2 w (.cells (C14 c (.slice A mac.length cap)) 25 (0, 0)) (.cells #[.slice R l.length rc] 27 (0, 0))
  rw [hwa]
  clear hwa
  have hzwa := Nat.le_of_eq hz0.symm
  clear hz0
  have on := Aside0.mk on0
  have orr := Aside0.mk or0
  clear on0 or0
  obtain ⟨onc, onf, onl⟩ := cells_of on.out
  obtain ⟨orrc, orrf, orrl⟩ := cells_of orr.out
  have HB_ : Aside0 (Below w.heap.size w wa) := ⟨hb_⟩
  have HM_ := Aside0.mk (Kd.F_below HM.out hb_)
  clear HM
  have HM := HM_
  clear HM_
  have HR_ := Aside0.mk (Kd.F_below HR.out hb_)
  clear HR
  have HR := HR_
  clear HR_
  clear HB hb_
  have HB := HB_
  clear HB_
  go_wp2_with (first | ((with_reducible refine gate_dst (N := 19) rfl ?_); (try (refine gate_guard (by rfl) ?_; dsimp only)); refine wpList_load_row rfl 25 _ rfl _ (by rfl) _ (C14 c (.slice A mac.length cap)) _ _ (eG on) Try.underlying25 rfl i25 ?_))
  (go_at_call 9; (with_reducible refine (Check_of true c A mac.length cap _ HK.out).mono ?_); rintro e_ w1 ⟨rfl, hb_⟩; have HB_ : Aside0 (Below w.heap.size w w1) := Aside0.mk (below_step (bG HB) hb_); have hzw1 := hb_.size; (try simp at hzw1); have on_ := Aside0.mk (box_below hb_ (eG on)); have orr_ := Aside0.mk (box_below hb_ (eG orr)); have HM_ := Aside0.mk (Kd.F_below (fG HM) hb_); clear HM; have HM := HM_; clear HM_; have HR_ := Aside0.mk (Kd.F_below (fG HR) hb_); clear HR; have HR := HR_; clear HR_; (try clear on onc onf onl); have on := on_; clear on_; obtain ⟨onc, onf, onl⟩ := cells_of on.out; (try clear orr orrc orrf orrl); have orr := orr_; clear orr_; obtain ⟨orrc, orrf, orrl⟩ := cells_of orr.out; clear HB hb_; have HB := HB_; clear HB_)
  clear HM HMC
  go_upto_region 3 with fail
  refine start_ (n := 6) (S := fun w' => w'.heap[w.heap.size]? = some (.cells (C14 c (.slice A mac.length cap)) 25 (0, 0)) ∧ w'.heap[w.heap.size + 1]? = some (.cells #[.slice R l.length rc] 27 (0, 0))) (ds := []) #[false, false, false, false, false, false] (by kernel_rfl) rfl rfl ⟨(eG on), (eG orr)⟩ (fun hHeld => ?_)
  refine rowL_ (i := 0) (N := some 24) #[true, false, false, false, false, false] rfl rfl (by kernel_rfl) 25 _ rfl (w.heap.size) (C14 c (.slice A mac.length cap)) (fun _ _ _ h => h) (by rfl) (by rfl) _ _ _ (fun _ h => h.1) Try.underlying25 rfl i25 hHeld (a' := ?_) ?_ ?_
  rotate_left
  · simp only [Act.put, List.setIfInBounds_toArray, List.set_cons_zero, List.set_cons_succ, i64_w, i32_w]
    rfl
  refine rowL_ (i := 1) (N := some 25) #[true, true, false, false, false, false] rfl rfl (by kernel_rfl) 27 _ rfl (w.heap.size + 1) (#[.slice R l.length rc]) (fun _ _ _ h => h) (by rfl) (by rfl) _ _ _ (fun _ h => h.2) Try.underlying27 rfl i27 hHeld (a' := ?_) ?_ ?_
  rotate_left
  · simp only [Act.put, List.setIfInBounds_toArray, List.set_cons_zero, List.set_cons_succ, i64_w, i32_w]
    rfl
  refine allocs_ (i := 2) (j := 3) (Ni := 5) (Nj := 6) #[true, true, true, false, false, false] #[true, true, false, true, false, false] #[true, true, true, true, false, false] (.cells #[.int .i64 0, .int .i64 0, .int .i64 0, .int .u64 0, .int .i64 0, .int .i64 0, .int .i64 0, .int .u64 0, .int .i64 0, .int .i64 0, .int .i64 0, .int .i64 0, .int .i64 0, .slice none 0 0] 25 (0, 0)) (.cells #[.slice none 0 0] 27 (0, 0)) rfl rfl rfl rfl (by kernel_rfl) (by kernel_rfl) (by kernel_rfl) (by decide) (by decide) (by decide) (fun _ => rfl) (fun _ => rfl) (fun e W => by kernel_rfl) (fun e W => by kernel_rfl) (fun w1 hb => ⟨box_below hb (eG on), box_below hb (eG orr)⟩) ?_
  intro ga gb w2 hga_ hgb_ hgne hla_ hlb_ hA_ hB_ hb_ hHd_
  have on_ := Aside0.mk (box_below hb_ (eG on))
  (try clear on onc onf onl)
  have on := on_
  clear on_
  obtain ⟨onc, onf, onl⟩ := cells_of on.out
  have orr_ := Aside0.mk (box_below hb_ (eG orr))
  (try clear orr orrc orrf orrl)
  have orr := orr_
  clear orr_
  obtain ⟨orrc, orrf, orrl⟩ := cells_of orr.out
  have HR_ := Aside0.mk (Kd.F_below (fG HR) hb_)
  clear HR
  have HR := HR_
  clear HR_
  have HB_ : Aside0 (Below w.heap.size w w2) := Aside0.mk (below_step (bG HB) hb_)
  clear HB
  have HB := HB_
  clear HB_
  have oa := Aside0.mk hA_
  have ob := Aside0.mk hB_
  obtain ⟨oac, oaf, oal⟩ := cells_of oa.out
  obtain ⟨obc, obf, obl⟩ := cells_of ob.out
  have hzw2 := hb_.size
  (try simp at hzw2)
  clear hA_ hB_ hb_ hHeld
  have hHeld := hHd_
  clear hHd_
  (try simp only [sz_alloc, sz_drew, sz_drewN] at hga_ hgb_)
  refine norm_ (a' := ?_) ?_ ?_
  rotate_left
  · simp only [Act.put, List.setIfInBounds_toArray, List.set_cons_zero, List.set_cons_succ, i64_w, i32_w]
    rfl
  refine rowS_ (i := 4) #[true, true, true, true, true, false] rfl rfl (by kernel_rfl) (by decide) 25 _ _ rfl (ga) (C14 c (.slice A mac.length cap)) (by rfl) (by rfl) (by rfl) (#[.int .i64 0, .int .i64 0, .int .i64 0, .int .u64 0, .int .i64 0, .int .i64 0, .int .i64 0, .int .u64 0, .int .i64 0, .int .i64 0, .int .i64 0, .int .i64 0, .int .i64 0, .slice none 0 0]) 25 (eG oa) rfl i25 (C14_one _ _ _ _) ?_
  (rintro w3 ⟨hx_, hk_, hb_, hzz_⟩; have HB_ : Aside0 (Below w.heap.size w w3) := Aside0.mk (Below.trans (bG HB) (Below.mono hb_ (by first | omega | (simp only [sz_alloc, sz_drew, sz_drewN]; omega)))); have hzw3 := hzz_; (try simp at hzw3); clear hzz_; have on_ := Aside0.mk (st_put on.out hk_ (fun h_ => (by repeat (with_reducible first | exact h_ | apply ext_drew | apply ext_drewN | apply ext_alloc | refine blk_far ?_ (by show _ ≠ _; dsimp only; omega) _))) (by omega)); clear on onc onf onl; have on := on_; clear on_; obtain ⟨onc, onf, onl⟩ := cells_of on.out; have orr_ := Aside0.mk (st_put orr.out hk_ (fun h_ => (by repeat (with_reducible first | exact h_ | apply ext_drew | apply ext_drewN | apply ext_alloc | refine blk_far ?_ (by show _ ≠ _; dsimp only; omega) _))) (by omega)); clear orr orrc orrf orrl; have orr := orr_; clear orr_; obtain ⟨orrc, orrf, orrl⟩ := cells_of orr.out; have ob_ := Aside0.mk (st_put ob.out hk_ (fun h_ => (by repeat (with_reducible first | exact h_ | apply ext_drew | apply ext_drewN | apply ext_alloc | refine blk_far ?_ (by show _ ≠ _; dsimp only; omega) _))) (by omega)); clear ob obc obf obl; have ob := ob_; clear ob_; obtain ⟨obc, obf, obl⟩ := cells_of ob.out; have HR_ := Aside0.mk (Kd.F_step (fG HR) (fun j_ hj_ hl_ => hk_ j_ (by (try dsimp only at hj_); (try simp only [sz_alloc, sz_drew, sz_drewN, sz_set] at hj_); omega))); clear HR; have HR := HR_; clear HR_; (try clear oa oac oaf oal); have oa := Aside0.mk hx_; obtain ⟨oac, oaf, oal⟩ := cells_of oa.out; clear HB hb_ hk_ hx_; have HB := HB_; clear HB_)
  refine ⟨⟨(eG on), (eG orr)⟩, ?_⟩
  refine rowS_ (i := 5) #[true, true, true, true, true, true] rfl rfl (by kernel_rfl) (by decide) 27 _ _ rfl (gb) (#[.slice R l.length rc]) (by rfl) (by rfl) (by rfl) (#[.slice none 0 0]) 27 (eG ob) rfl i27 (one27 _ _ _) ?_
  (rintro w4 ⟨hx_, hk_, hb_, hzz_⟩; have HB_ : Aside0 (Below w.heap.size w w4) := Aside0.mk (Below.trans (bG HB) (Below.mono hb_ (by first | omega | (simp only [sz_alloc, sz_drew, sz_drewN]; omega)))); have hzw4 := hzz_; (try simp at hzw4); clear hzz_; have on_ := Aside0.mk (st_put on.out hk_ (fun h_ => (by repeat (with_reducible first | exact h_ | apply ext_drew | apply ext_drewN | apply ext_alloc | refine blk_far ?_ (by show _ ≠ _; dsimp only; omega) _))) (by omega)); clear on onc onf onl; have on := on_; clear on_; obtain ⟨onc, onf, onl⟩ := cells_of on.out; have orr_ := Aside0.mk (st_put orr.out hk_ (fun h_ => (by repeat (with_reducible first | exact h_ | apply ext_drew | apply ext_drewN | apply ext_alloc | refine blk_far ?_ (by show _ ≠ _; dsimp only; omega) _))) (by omega)); clear orr orrc orrf orrl; have orr := orr_; clear orr_; obtain ⟨orrc, orrf, orrl⟩ := cells_of orr.out; have oa_ := Aside0.mk (st_put oa.out hk_ (fun h_ => (by repeat (with_reducible first | exact h_ | apply ext_drew | apply ext_drewN | apply ext_alloc | refine blk_far ?_ (by show _ ≠ _; dsimp only; omega) _))) (by omega)); clear oa oac oaf oal; have oa := oa_; clear oa_; obtain ⟨oac, oaf, oal⟩ := cells_of oa.out; have HR_ := Aside0.mk (Kd.F_step (fG HR) (fun j_ hj_ hl_ => hk_ j_ (by (try dsimp only at hj_); (try simp only [sz_alloc, sz_drew, sz_drewN, sz_set] at hj_); omega))); clear HR; have HR := HR_; clear HR_; (try clear ob obc obf obl); have ob := Aside0.mk hx_; obtain ⟨obc, obf, obl⟩ := cells_of ob.out; clear HB hb_ hk_ hx_; have HB := HB_; clear HB_)
  refine ⟨⟨(eG on), (eG orr)⟩, ?_⟩
  refine done_ (by kernel_rfl) ?_
  clear onc oac obc orrc
  have onc := trivial
  have oac := trivial
  have obc := trivial
  have orrc := trivial
  have hn4 := K.out.tn
  go_wp2_with fail
  go_loopw [7] (fun i wx => ∃ (k : Nat) (ck : Nat → Int) (Rk : Option Addr) (rck : Nat) (lk : List Int), i = .int .i64 k ∧ Aside0 (drainV w ga gb A cap mac c l.length k ck Rk rck lk wx)) (fun i _ => (c 4).toNat + 1 - (intOf i).toNat)
  case atStart =>
    refine ⟨0, c, R, rc, l, rfl, ⟨HB.out, by omega, by omega, by omega, on.out, oa.out, ob.out, Kd.F_mono HR.out (fun j hj => ?_), HC.out, K.out, rfl, by have := rem_in K.out; omega, HBY.out, rfl⟩⟩
    exact ⟨by omega, by omega⟩
  case round =>
    clear HB on orr oa ob HR HBY K HC
    obtain ⟨k, ck, Rk, rck, lk, rfl, ⟨hB_, hz_, hla, hlb, hn_, ha_, hb_, hR_, hC_, hK_, h4_, hk_, hy_, hL_⟩⟩ := hrel
    clear hHeld onf orrf onl orrl oaf oal obf obl hzw3 hzw4 onc oac obc orrc HK hq
    have HB : Aside0 (Below w.heap.size w wr) := ⟨hB_⟩
    have on := Aside0.mk hn_
    obtain ⟨onc, onf, onl⟩ := cells_of on.out
    have hc4 : wr.cell? ⟨w.heap.size, 4, none⟩ = some (.int .i64 (c 4)) := (onc 4).trans rfl
    clear onc
    have onc := trivial
    have oa := Aside0.mk ha_
    have ob := Aside0.mk hb_
    obtain ⟨oac, oaf, oal⟩ := cells_of oa.out
    obtain ⟨obc, obf, obl⟩ := cells_of ob.out
    have HR := Aside0.mk (Kd.F_bound hR_)
    have HC := Aside0.mk hC_
    have HK := Aside0.mk hK_
    have HY := Aside0.mk hy_
    have hr1 := (rem_in hK_).1
    have hle : decide ((k : Int) ≤ c 4) = true := decide_eq_true (by omega)
    have hkw : IntKind.i64.wrap ((k : Int) + 1) = (k : Int) + 1 := by rw [IntKind.wrap_i64]; omega
    have hl7 : (lk.length : Int) ≤ 70000 := by omega
    have hc35 : ck 3 = ck 3 := rfl
    obtain ⟨⟨c1, l1, f1, b1⟩, hS⟩ : ∃ S, sendZ ck mac.length lk = S := ⟨_, rfl⟩
    have HS := Aside0.mk hS
    have HFACT := Aside0.mk (show Ok c1 mac.length ∧ l1.length = lk.length ∧ (∀ z ∈ l1, byte z) ∧ (b1 = true → remZ c1 < remZ ck ∧ c1 4 = ck 4) from
      ⟨by have := hK_.send lk; rw [hS] at this; exact this, by have := send_len ck mac.length lk; rw [hS] at this; exact this, by have := send_byte ck mac.length lk hy_; rw [hS] at this; exact this, fun hb => by have := send_more hK_ lk (by rw [hS]; exact hb); rw [hS] at this; exact this⟩)
    have HSTOP := Aside0.mk (show b1 = false → ((ck 5 == ck 6) = true ∨ ((ck 5 == ck 6) = false ∧ ck 0 % 2 = 0)) ∨ ((ck 5 == ck 6) = false ∧ ck 0 % 2 = 1 ∧ ∃ d, readZ lk (IntKind.u64.wrap (atT ck + 10)) 1 = (d, true) ∧ d % 2 = 0 ∧ 0 ≤ d ∧ d < 256) from
      fun hb => send_stop hK_ lk hl7 hy_ (by rw [hS]; exact hb))
    have HLL := Aside0.mk hL_
    have H4 := Aside0.mk h4_
    have HKK := Aside0.mk hk_
    clear hB_ hn_ ha_ hb_ hR_ hC_ hK_ hy_ hS hL_ h4_ hk_
    clear oac
    have oac := trivial
    go_wp2_with (first | ((with_reducible refine gate_dst (N := 33) rfl ?_); (try (refine gate_guard (by rfl) ?_; dsimp only)); refine wpList_load_row rfl 25 _ rfl _ (by rfl) _ (C14 ck (.slice A mac.length cap)) _ _ (eG oa) Try.underlying25 rfl i25 ?_))
    (go_at_call 11; (with_reducible refine (Send_of (c1, l1, f1, b1) A mac.length cap Rk rck lk ck _ _ (fG HR) HC.out hl7 HY.out HS.out).mono ?_); rintro e_ w5 ⟨A_s, c_s, A_q, c_q, rfl, hc_s, hr_s, hc_q, hr_q, hb_⟩; have HB_ : Aside0 (Below w.heap.size w w5) := Aside0.mk (below_step (bG HB) hb_); have hzw5 := hb_.size; (try simp at hzw5); have on_ := Aside0.mk (box_below hb_ (eG on)); have oa_ := Aside0.mk (box_below hb_ (eG oa)); have ob_ := Aside0.mk (box_below hb_ (eG ob)); have HR_ := Aside0.mk (Kd.F_below (fG HR) hb_); clear HR; have HR := HR_; clear HR_; (try clear on onc onf onl); have on := on_; clear on_; obtain ⟨onc, onf, onl⟩ := cells_of on.out; (try clear oa oac oaf oal); have oa := oa_; clear oa_; obtain ⟨oac, oaf, oal⟩ := cells_of oa.out; (try clear ob obc obf obl); have ob := ob_; clear ob_; obtain ⟨obc, obf, obl⟩ := cells_of ob.out; clear HB hb_; have HB := HB_; clear HB_; have sc := Aside0.mk hc_s; have s := Aside0.mk (Kd.F_bound hr_s); clear hc_s hr_s; have qc := Aside0.mk hc_q; have q := Aside0.mk (Kd.F_bound hr_q); clear hc_q hr_q; skip)
    have od := Aside0.mk (nb_2 w5 (.cells #[.int .i64 0, .int .i64 0, .int .i64 0, .int .u64 0, .int .i64 0, .int .i64 0, .int .i64 0, .int .u64 0, .int .i64 0, .int .i64 0, .int .i64 0, .int .i64 0, .int .i64 0, .slice none 0 0] 25 (0, 0)) (.cells #[.slice none 0 0] 27 (0, 0)))
    obtain ⟨odc, odf, odl⟩ := cells_of od.out
    clear hc4
    go_upto_region 8 with (first | ((with_reducible refine gate_store (t := 25) (p := 8) (v := .tmp 36) rfl ?_); refine wpList_store_all rfl 25 _ _ rfl rfl _ (C14 c1 (.slice A mac.length cap)) (by rfl) (by rfl) _ _ (ext_alloc (nb_1 _ _) _) rfl i25 (C14_one _ _ _ _) ?_; rintro w6 ⟨hx_, hk_, hb_, hzz_⟩; have HB_ : Aside0 (Below w.heap.size w w6) := Aside0.mk (Below.trans (bG HB) (Below.mono hb_ (by first | omega | (simp only [sz_alloc, sz_drew, sz_drewN]; omega)))); have hzw6 := Nat.le_of_eq hzz_.symm; (try simp at hzw6); clear hzz_; have od_ := Aside0.mk (st_put od.out hk_ (fun h_ => (by repeat (with_reducible first | exact h_ | apply ext_drew | apply ext_drewN | apply ext_alloc | refine blk_far ?_ (by show _ ≠ _; dsimp only; omega) _))) (by omega)); clear od odc odf odl; have od := od_; clear od_; obtain ⟨odc, odf, odl⟩ := cells_of od.out; have on_ := Aside0.mk (st_put on.out hk_ (fun h_ => (by repeat (with_reducible first | exact h_ | apply ext_drew | apply ext_drewN | apply ext_alloc | refine blk_far ?_ (by show _ ≠ _; dsimp only; omega) _))) (by omega)); clear on onc onf onl; have on := on_; clear on_; obtain ⟨onc, onf, onl⟩ := cells_of on.out; have oa_ := Aside0.mk (st_put oa.out hk_ (fun h_ => (by repeat (with_reducible first | exact h_ | apply ext_drew | apply ext_drewN | apply ext_alloc | refine blk_far ?_ (by show _ ≠ _; dsimp only; omega) _))) (by omega)); clear oa oac oaf oal; have oa := oa_; clear oa_; obtain ⟨oac, oaf, oal⟩ := cells_of oa.out; have ob_ := Aside0.mk (st_put ob.out hk_ (fun h_ => (by repeat (with_reducible first | exact h_ | apply ext_drew | apply ext_drewN | apply ext_alloc | refine blk_far ?_ (by show _ ≠ _; dsimp only; omega) _))) (by omega)); clear ob obc obf obl; have ob := ob_; clear ob_; obtain ⟨obc, obf, obl⟩ := cells_of ob.out; have HR_ := Aside0.mk (Kd.F_step (fG HR) (fun j_ hj_ hl_ => hk_ j_ (by (try dsimp only at hj_); (try simp only [sz_alloc, sz_drew, sz_drewN, sz_set] at hj_); omega))); clear HR; have HR := HR_; clear HR_; have s_ := Aside0.mk (Kd.F_step (fG s) (fun j_ hj_ hl_ => hk_ j_ (by (try dsimp only at hj_); (try simp only [sz_alloc, sz_drew, sz_drewN, sz_set] at hj_); omega))); clear s; have s := s_; clear s_; (try clear oc occ ocf ocl); have oc := Aside0.mk hx_; obtain ⟨occ, ocf, ocl⟩ := cells_of oc.out; clear HB hb_ hk_ hx_; have HB := HB_; clear HB_))
    (have HR_ := Aside0.mk (Kd.F_far (p := ⟨w5.heap.size + 1, 0, none⟩) HR.out (fun j_ hj_ => by (try dsimp only at hj_); (try dsimp only); (try simp only [sz_alloc, sz_drew, sz_drewN, sz_set] at hj_); omega) (.slice A_s l1.length c_s)); clear HR; have HR := HR_; clear HR_; have s_ := Aside0.mk (Kd.F_far (p := ⟨w5.heap.size + 1, 0, none⟩) s.out (fun j_ hj_ => by (try dsimp only at hj_); (try dsimp only); (try simp only [sz_alloc, sz_drew, sz_drewN, sz_set] at hj_); omega) (.slice A_s l1.length c_s)); clear s; have s := s_; clear s_; have on_ := Aside0.mk (blk_far (p := ⟨w5.heap.size + 1, 0, none⟩) on.out (by show _ ≠ _; dsimp only; omega) (.slice A_s l1.length c_s)); clear on onc onf onl; have on := on_; clear on_; obtain ⟨onc, onf, onl⟩ := cells_of on.out; have oa_ := Aside0.mk (blk_far (p := ⟨w5.heap.size + 1, 0, none⟩) oa.out (by show _ ≠ _; dsimp only; omega) (.slice A_s l1.length c_s)); clear oa oac oaf oal; have oa := oa_; clear oa_; obtain ⟨oac, oaf, oal⟩ := cells_of oa.out; have ob_ := Aside0.mk (blk_far (p := ⟨w5.heap.size + 1, 0, none⟩) ob.out (by show _ ≠ _; dsimp only; omega) (.slice A_s l1.length c_s)); clear ob obc obf obl; have ob := ob_; clear ob_; obtain ⟨obc, obf, obl⟩ := cells_of ob.out; have oc_ := Aside0.mk (blk_far (p := ⟨w5.heap.size + 1, 0, none⟩) oc.out (by show _ ≠ _; dsimp only; omega) (.slice A_s l1.length c_s)); clear oc occ ocf ocl; have oc := oc_; clear oc_; obtain ⟨occ, ocf, ocl⟩ := cells_of oc.out; have od_ := Aside0.mk (blk_put od.out 0 (.slice A_s l1.length c_s) (cs' := #[.slice A_s l1.length c_s]) rfl); clear od odc odf odl; have od := od_; clear od_; obtain ⟨odc, odf, odl⟩ := cells_of od.out)
    cases b1
    case false =>
      have hst := HSTOP.out rfl
      clear HSTOP HFACT HS s sc q qc
      have hat : IntKind.u64.wrap (IntKind.u64.wrap (ck 3 + IntKind.u64.wrap (16 * IntKind.u64.wrap (ck 5))) + 10) = IntKind.u64.wrap (atT ck + 10) := rfl
      obtain ⟨aa, ha⟩ : ∃ aa, IntKind.u64.wrap (atT ck + 10) = aa := ⟨_, rfl⟩
      have hu : u64B aa := by rw [← ha, IntKind.wrap_u64]; exact ⟨by omega, by omega⟩
      rw [ha] at hat hst
      obtain ⟨⟨d, x⟩, hR⟩ : ∃ S, readZ lk aa 1 = S := ⟨_, rfl⟩
      have HR7 := Aside0.mk (refRead_of lk aa d x hu hl7 HY.out hR)
      have HU := Aside0.mk hu
      have hc3 : World.cell? (w6.setCell ⟨w5.heap.size + 1, 0, none⟩ (.slice A_s l1.length c_s)) ⟨ga, 3, none⟩ = some (.int .u64 (ck 3)) := (oac 3).trans rfl
      have hc5 : World.cell? (w6.setCell ⟨w5.heap.size + 1, 0, none⟩ (.slice A_s l1.length c_s)) ⟨ga, 5, none⟩ = some (.int .i64 (ck 5)) := (oac 5).trans rfl
      clear oac
      have oac := trivial
      clear ocf odf ocl odl oc od HU
      go_upto_region 9 with fail
      go_wp2_with fail
      (go_at_call 12; (with_reducible refine (drawbridgeref07_Read.calls _ _ _ _ _ _ _ _ (Kd.F_now (fG HR)) HC.out HR7.out).mono ?_); rintro e_ w7 ⟨rfl, hb_⟩; have HB_ : Aside0 (Below w.heap.size w w7) := Aside0.mk (below_step (bG HB) hb_); have hzw7 := hb_.size; (try simp at hzw7); have oa_ := Aside0.mk (box_below hb_ (eG oa)); have HR_ := Aside0.mk (Kd.F_below (fG HR) hb_); clear HR; have HR := HR_; clear HR_; (try clear oa oac oaf oal); have oa := oa_; clear oa_; obtain ⟨oac, oaf, oal⟩ := cells_of oa.out; clear HB hb_; have HB := HB_; clear HB_)
      have hc0 : World.cell? w7 ⟨ga, 0, none⟩ = some (.int .i64 (ck 0)) := (oac 0).trans rfl
      have hc5 : World.cell? w7 ⟨ga, 5, none⟩ = some (.int .i64 (ck 5)) := (oac 5).trans rfl
      have hc6 : World.cell? w7 ⟨ga, 6, none⟩ = some (.int .i64 (ck 6)) := (oac 6).trans rfl
      clear oac
      have oac := trivial
      rcases hst with (hst | ⟨hst, h0⟩) | ⟨hst, h0, d', hd', hd2, hd3, hd4⟩
      · go_wp2_with fail
        (go_at_call 10; (with_reducible refine (heads_is _).mono ?_); rintro e_ w8 ⟨rfl, hb_⟩; have HB_ : Aside0 (Below w.heap.size w w8) := Aside0.mk (below_step (bG HB) hb_); have hzw8 := hb_.size; (try simp at hzw8); clear HB hb_; have HB := HB_; clear HB_)
        go_wp2
        go_ret
        exact ⟨rfl, (bG HB)⟩
      · have h0' : (Int.tmod (ck 0) 2 == 0) = true := by rw [Int.tmod_eq_emod_of_nonneg HK.out.ctrl.1, h0]; rfl
        go_wp2_with fail
        (go_at_call 10; (with_reducible refine (heads_is _).mono ?_); rintro e_ w8 ⟨rfl, hb_⟩; have HB_ : Aside0 (Below w.heap.size w w8) := Aside0.mk (below_step (bG HB) hb_); have hzw8 := hb_.size; (try simp at hzw8); clear HB hb_; have HB := HB_; clear HB_)
        go_wp2
        go_ret
        exact ⟨rfl, (bG HB)⟩
      · have h0' : (Int.tmod (ck 0) 2 == 0) = false := by rw [Int.tmod_eq_emod_of_nonneg HK.out.ctrl.1, h0]; rfl
        rw [hd'] at hR
        obtain ⟨rfl, rfl⟩ := Prod.mk.inj hR
        have hd5 : (d' % 2 == 0) = true := by rw [hd2]; rfl
        have hd6 : (Int.tmod d' 2 == 0) = true := by rw [Int.tmod_eq_emod_of_nonneg hd3, hd2]; rfl
        go_wp2_with fail
        (go_at_call 10; (with_reducible refine (heads_is _).mono ?_); rintro e_ w8 ⟨rfl, hb_⟩; have HB_ : Aside0 (Below w.heap.size w w8) := Aside0.mk (below_step (bG HB) hb_); have hzw8 := hb_.size; (try simp at hzw8); clear HB hb_; have HB := HB_; clear HB_)
        go_wp2
        go_ret
        exact ⟨rfl, (bG HB)⟩
    case true =>
      clear HSTOP HS HR HC q qc
      go_upto_region 11 with fail
      refine start_ (n := 4) (S := fun w' => w'.heap[w5.heap.size]? = some (.cells (C14 c1 (.slice A mac.length cap)) 25 (0, 0)) ∧ w'.heap[w5.heap.size + 1]? = some (.cells (#[.slice A_s l1.length c_s]) 27 (0, 0))) (ds := []) #[false, false, false, false] (by kernel_rfl) rfl rfl ⟨(eG oc), (eG od)⟩ (fun hHeld => ?_)
      refine rowL_ (i := 0) (N := some 77) #[true, false, false, false] rfl rfl (by kernel_rfl) 25 _ rfl (w5.heap.size) (C14 c1 (.slice A mac.length cap)) (fun _ _ _ h => h) (by rfl) (by rfl) _ _ _ (fun _ h => h.1) Try.underlying25 rfl i25 hHeld (a' := ?_) ?_ ?_
      rotate_left
      · simp only [Act.put, List.setIfInBounds_toArray, List.set_cons_zero, List.set_cons_succ, i64_w, i32_w]
        rfl
      refine rowL_ (i := 1) (N := some 78) #[true, true, false, false] rfl rfl (by kernel_rfl) 27 _ rfl (w5.heap.size + 1) (#[.slice A_s l1.length c_s]) (fun _ _ _ h => h) (by rfl) (by rfl) _ _ _ (fun _ h => h.2) Try.underlying27 rfl i27 hHeld (a' := ?_) ?_ ?_
      rotate_left
      · simp only [Act.put, List.setIfInBounds_toArray, List.set_cons_zero, List.set_cons_succ, i64_w, i32_w]
        rfl
      refine rowS_ (i := 2) #[true, true, true, false] rfl rfl (by kernel_rfl) (by decide) 25 _ _ rfl (ga) (C14 c1 (.slice A mac.length cap)) (by rfl) (by rfl) (by rfl) (C14 ck (.slice A mac.length cap)) 25 (eG oa) rfl i25 (C14_one _ _ _ _) ?_
      (rintro wq1 ⟨hx_, hk_, hb_, hzz_⟩; have HB_ : Aside0 (Below w.heap.size w wq1) := Aside0.mk (Below.trans (bG HB) (Below.mono hb_ (by first | omega | (simp only [sz_alloc, sz_drew, sz_drewN]; omega)))); have hzwq1 := hzz_; (try simp at hzwq1); clear hzz_; have on_ := Aside0.mk (st_put on.out hk_ (fun h_ => (by repeat (with_reducible first | exact h_ | apply ext_drew | apply ext_drewN | apply ext_alloc | refine blk_far ?_ (by show _ ≠ _; dsimp only; omega) _))) (by omega)); clear on onc onf onl; have on := on_; clear on_; obtain ⟨onc, onf, onl⟩ := cells_of on.out; have ob_ := Aside0.mk (st_put ob.out hk_ (fun h_ => (by repeat (with_reducible first | exact h_ | apply ext_drew | apply ext_drewN | apply ext_alloc | refine blk_far ?_ (by show _ ≠ _; dsimp only; omega) _))) (by omega)); clear ob obc obf obl; have ob := ob_; clear ob_; obtain ⟨obc, obf, obl⟩ := cells_of ob.out; have oc_ := Aside0.mk (st_put oc.out hk_ (fun h_ => (by repeat (with_reducible first | exact h_ | apply ext_drew | apply ext_drewN | apply ext_alloc | refine blk_far ?_ (by show _ ≠ _; dsimp only; omega) _))) (by omega)); clear oc occ ocf ocl; have oc := oc_; clear oc_; obtain ⟨occ, ocf, ocl⟩ := cells_of oc.out; have od_ := Aside0.mk (st_put od.out hk_ (fun h_ => (by repeat (with_reducible first | exact h_ | apply ext_drew | apply ext_drewN | apply ext_alloc | refine blk_far ?_ (by show _ ≠ _; dsimp only; omega) _))) (by omega)); clear od odc odf odl; have od := od_; clear od_; obtain ⟨odc, odf, odl⟩ := cells_of od.out; have s_ := Aside0.mk (Kd.F_step (fG s) (fun j_ hj_ hl_ => hk_ j_ (by (try dsimp only at hj_); (try simp only [sz_alloc, sz_drew, sz_drewN, sz_set] at hj_); omega))); clear s; have s := s_; clear s_; (try clear oa oac oaf oal); have oa := Aside0.mk hx_; obtain ⟨oac, oaf, oal⟩ := cells_of oa.out; clear HB hb_ hk_ hx_; have HB := HB_; clear HB_)
      refine ⟨⟨(eG oc), (eG od)⟩, ?_⟩
      refine rowS_ (i := 3) #[true, true, true, true] rfl rfl (by kernel_rfl) (by decide) 27 _ _ rfl (gb) (#[.slice A_s l1.length c_s]) (by rfl) (by rfl) (by rfl) (#[.slice Rk lk.length rck]) 27 (eG ob) rfl i27 (one27 _ _ _) ?_
      (rintro wq2 ⟨hx_, hk_, hb_, hzz_⟩; have HB_ : Aside0 (Below w.heap.size w wq2) := Aside0.mk (Below.trans (bG HB) (Below.mono hb_ (by first | omega | (simp only [sz_alloc, sz_drew, sz_drewN]; omega)))); have hzwq2 := hzz_; (try simp at hzwq2); clear hzz_; have on_ := Aside0.mk (st_put on.out hk_ (fun h_ => (by repeat (with_reducible first | exact h_ | apply ext_drew | apply ext_drewN | apply ext_alloc | refine blk_far ?_ (by show _ ≠ _; dsimp only; omega) _))) (by omega)); clear on onc onf onl; have on := on_; clear on_; obtain ⟨onc, onf, onl⟩ := cells_of on.out; have oa_ := Aside0.mk (st_put oa.out hk_ (fun h_ => (by repeat (with_reducible first | exact h_ | apply ext_drew | apply ext_drewN | apply ext_alloc | refine blk_far ?_ (by show _ ≠ _; dsimp only; omega) _))) (by omega)); clear oa oac oaf oal; have oa := oa_; clear oa_; obtain ⟨oac, oaf, oal⟩ := cells_of oa.out; have oc_ := Aside0.mk (st_put oc.out hk_ (fun h_ => (by repeat (with_reducible first | exact h_ | apply ext_drew | apply ext_drewN | apply ext_alloc | refine blk_far ?_ (by show _ ≠ _; dsimp only; omega) _))) (by omega)); clear oc occ ocf ocl; have oc := oc_; clear oc_; obtain ⟨occ, ocf, ocl⟩ := cells_of oc.out; have od_ := Aside0.mk (st_put od.out hk_ (fun h_ => (by repeat (with_reducible first | exact h_ | apply ext_drew | apply ext_drewN | apply ext_alloc | refine blk_far ?_ (by show _ ≠ _; dsimp only; omega) _))) (by omega)); clear od odc odf odl; have od := od_; clear od_; obtain ⟨odc, odf, odl⟩ := cells_of od.out; have s_ := Aside0.mk (Kd.F_step (fG s) (fun j_ hj_ hl_ => hk_ j_ (by (try dsimp only at hj_); (try simp only [sz_alloc, sz_drew, sz_drewN, sz_set] at hj_); omega))); clear s; have s := s_; clear s_; (try clear ob obc obf obl); have ob := Aside0.mk hx_; obtain ⟨obc, obf, obl⟩ := cells_of ob.out; clear HB hb_ hk_ hx_; have HB := HB_; clear HB_)
      refine ⟨⟨(eG oc), (eG od)⟩, ?_⟩
      refine done_ (by kernel_rfl) ?_
      go_wp2
      have hk5 : (k : Int) ≤ c 4 := of_decide_eq_true hle
      obtain ⟨f1_, f2_, f3_, f4_⟩ := HFACT.out
      obtain ⟨f5_, f6_⟩ := f4_ rfl
      have h4_ := H4.out
      have hk_ := HKK.out
      go_roundw
      case measure => simp [intOf]; omega
      case rel => exact ⟨k + 1, c1, A_s, c_s, l1, by go_num, ⟨HB.out, by omega, by omega, by omega, on.out, oa.out, ob.out, Kd.F_mono s.out (fun j hj => by omega), sc.out, f1_, f6_.trans h4_, by omega, f3_, f2_.trans HLL.out⟩⟩
def drawbridgelaw12_NicDrains.f (a0_0 : Int) (a0_1 : Int) (a0_2 : Int) (a0_3 : Int) (a0_4 : Int) (a0_5 : Int) (a0_6 : Int) (a0_7 : Int) (a0_8 : Int) (a0_9 : Int) (a0_10 : Int) (a0_11 : Int) (a0_12 : Int) (l0_13 l1_0 : List Int) : Option Bool := if (∀ z ∈ l1_0, byte z) then some true else none
theorem drawbridgelaw12_NicDrains.calls (a0_0 : Int) (a0_1 : Int) (a0_2 : Int) (a0_3 : Int) (a0_4 : Int) (a0_5 : Int) (a0_6 : Int) (a0_7 : Int) (a0_8 : Int) (a0_9 : Int) (a0_10 : Int) (a0_11 : Int) (a0_12 : Int) (A0_13 : Option Addr) (c0_13 : Nat) (l0_13 : List Int) (A1_0 : Option Addr) (c1_0 : Nat) (l1_0 : List Int) (r : Bool) (w : World) (hr0_13 : Kd.C (Kd.int .u8) w A0_13 l0_13.length l0_13) (hc0_13 : l0_13.length ≤ c0_13) (hr1_0 : Kd.C (Kd.int .u8) w A1_0 l1_0.length l1_0) (hc1_0 : l1_0.length ≤ c1_0) (h : drawbridgelaw12_NicDrains.f a0_0 a0_1 a0_2 a0_3 a0_4 a0_5 a0_6 a0_7 a0_8 a0_9 a0_10 a0_11 a0_12 l0_13 l1_0 = some r) :
    Calls Try.prog 3 #[.agg #[.int .i64 a0_0, .int .i64 a0_1, .int .i64 a0_2, .int .u64 a0_3, .int .i64 a0_4, .int .i64 a0_5, .int .i64 a0_6, .int .u64 a0_7, .int .i64 a0_8, .int .i64 a0_9, .int .i64 a0_10, .int .i64 a0_11, .int .i64 a0_12, .slice A0_13 l0_13.length c0_13], .agg #[.slice A1_0 l1_0.length c1_0]] w fun e w' => e = .returned (.bool r) ∧ Below w.heap.size w w' := by
  unfold drawbridgelaw12_NicDrains.f at h
  split at h
  case isFalse => cases h
  case isTrue hh =>
  obtain rfl := Option.some.inj h
  cases hq : decide ((l1_0.length : Int) > 20000) with
  | true => exact drains_q1 A0_13 c0_13 l0_13 A1_0 c1_0 l1_0 (mk13 a0_0 a0_1 a0_2 a0_3 a0_4 a0_5 a0_6 a0_7 a0_8 a0_9 a0_10 a0_11 a0_12) w _ _ (F_in hr0_13) hc0_13 (F_in hr1_0) hc1_0 hq
  | false =>
    cases hk : okC (mk13 a0_0 a0_1 a0_2 a0_3 a0_4 a0_5 a0_6 a0_7 a0_8 a0_9 a0_10 a0_11 a0_12) l0_13.length with
    | false => exact drains_q2 A0_13 c0_13 l0_13 A1_0 c1_0 l1_0 (mk13 a0_0 a0_1 a0_2 a0_3 a0_4 a0_5 a0_6 a0_7 a0_8 a0_9 a0_10 a0_11 a0_12) w _ _ (F_in hr0_13) hc0_13 (F_in hr1_0) hc1_0 hq hk
    | true => exact drains_is A0_13 c0_13 l0_13 A1_0 c1_0 l1_0 (mk13 a0_0 a0_1 a0_2 a0_3 a0_4 a0_5 a0_6 a0_7 a0_8 a0_9 a0_10 a0_11 a0_12) w _ _ (F_in hr0_13) hc0_13 (F_in hr1_0) hc1_0 hq hk hh
end Go.Proofs.Ytdblpflepfcnjaa.Q
