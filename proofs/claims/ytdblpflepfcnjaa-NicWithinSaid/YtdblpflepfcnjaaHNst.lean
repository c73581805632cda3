import Derived.Test.YtdblpflepfcnjaaHZ1
import Derived.Test.YtdblpflepfcnjaaHZ3
/- nic.Store. -/
namespace Go.Proofs.Ytdblpflepfcnjaa.Q
open Go.RowKit Go.Proofs.YtdblpflepfcnjaaW.PrintWords Go.Proofs.YtdblpflepfcnjaaW.PrintLast Go.Proofs.YtdblpflepfcnjaaW.PrintMore Go.Proofs.Ytdblpflepfcnjaa.L
attribute [local go_sem] Instr.field part asAgg lt_step max2_int min2_int max_two min_two max_three min_three max_four min_four lt_0_1 lt_0_2 lt_1_2 lt_0_3 lt_1_3 lt_2_3 lt_0_4 lt_1_4 lt_2_4 lt_3_4 lt_0_5 lt_1_5 lt_2_5 lt_3_5 lt_4_5 lt_0_6 lt_1_6 lt_2_6 lt_3_6 lt_4_6 lt_5_6 lt_0_7 lt_1_7 lt_2_7 lt_3_7 lt_4_7 lt_5_7 lt_6_7 lt_0_8 lt_1_8 lt_2_8 lt_3_8 lt_4_8 lt_5_8 lt_6_8 lt_7_8
set_option linter.unusedVariables false
set_option linter.unusedSimpArgs false
def stZ (c : Nat → Int) (i y : Int) : Nat → Int :=
  if i = 0 then upd c 0 (Go.bits .and .i64 y 7) else if i = 1 then upd c 1 (Go.bits .andNot .i64 (c 1) y) else if i = 2 then upd c 2 (Go.bits .and .i64 y 15) else if i = 3 then upd c 3 y
  else if i = 4 then (if 1 ≤ y ∧ y ≤ 64 then upd (upd (upd c 4 y) 5 0) 6 0 else c) else if i = 6 then (if y < c 4 then upd c 6 y else c) else if i = 7 then upd c 7 y
  else if i = 8 then (if 1 ≤ y ∧ y ≤ 64 then upd (upd (upd c 8 y) 9 0) 10 0 else c) else if i = 10 then (if y < c 8 then upd c 10 y else c) else c
theorem st4n (c : Nat → Int) (y : Int) (h : ¬ (1 ≤ y ∧ y ≤ 64)) : stZ c 4 y = c := by simp [stZ, h]
theorem st8n (c : Nat → Int) (y : Int) (h : ¬ (1 ≤ y ∧ y ≤ 64)) : stZ c 8 y = c := by simp [stZ, h]
theorem st6n (c : Nat → Int) (y : Int) (h : ¬ y < c 4) : stZ c 6 y = c := by simp [stZ, h]
theorem st10n (c : Nat → Int) (y : Int) (h : ¬ y < c 8) : stZ c 10 y = c := by simp [stZ, h]
theorem st4p (c : Nat → Int) (y : Int) (h : 1 ≤ y ∧ y ≤ 64) : stZ c 4 y = upd (upd (upd c 4 y) 5 0) 6 0 := by simp [stZ, h]
theorem st8p (c : Nat → Int) (y : Int) (h : 1 ≤ y ∧ y ≤ 64) : stZ c 8 y = upd (upd (upd c 8 y) 9 0) 10 0 := by simp [stZ, h]
theorem st6p (c : Nat → Int) (y : Int) (h : y < c 4) : stZ c 6 y = upd c 6 y := by simp [stZ, h]
theorem st10p (c : Nat → Int) (y : Int) (h : y < c 8) : stZ c 10 y = upd c 10 y := by simp [stZ, h]
def storeZ (c : Nat → Int) (m : Nat) (off size x : Int) : Nat → Int := if refuseZ c m off size = true then c else stZ c (off / 4) (IntKind.u32.wrap x)
theorem refuse_off {c : Nat → Int} {m : Nat} {off size : Int} (h0 : 0 ≤ off) (h64 : off < 18446744073709551616) (h : refuseZ c m off size = false) : off = 0 ∨ off = 4 ∨ off = 8 ∨ off = 12 ∨ off = 16 ∨ off = 20 ∨ off = 24 ∨ off = 28 ∨ off = 32 ∨ off = 36 ∨ off = 40 ∨ off = 44 ∨ off = 48 ∨ off = 52 ∨ off = 56 := by
  unfold refuseZ at h
  simp only [Bool.or_eq_false_iff, decide_eq_false_iff_not] at h
  have h1 := h.1.2
  have h2 := h.2
  have h3 : Go.bits .and .u64 off 3 = off % 4 := by
    rw [u64_and off 3 h0 h64 (by decide) (by decide)]
    obtain ⟨n, rfl⟩ := Int.eq_ofNat_of_zero_le h0
    show ((n &&& 3 : Nat) : Int) = _
    rw [show (3 : Nat) = 2 ^ 2 - 1 from rfl, Nat.and_two_pow_sub_one_eq_mod]
    omega
  rw [h3] at h1
  omega
section
variable (A : Option Addr) (cap : Nat) (mac : List Int) (c : Nat → Int) (off size x : Int) (w : World) (okm : Nat → Prop) (hm : Kd.F (Kd.int .u8) w okm A mac.length mac) (hmc : mac.length ≤ cap) (hmb : ∀ z ∈ mac, byte z) (h0 : 0 ≤ off) (h64 : off < 18446744073709551616)
include hm hmc hmb h0 h64
set_option maxHeartbeats 1600000 in
set_option maxRecDepth 100000 in
theorem store_no (hb : refuseZ c mac.length off size = true) :
    Calls Try.prog 15 #[.agg (C14 c (.slice A mac.length cap)), .int .u64 off, .int .i64 size, .int .u64 x] w fun e w' => e = .returned (.tuple #[.agg (C14 c (.slice A mac.length cap)), .bool false]) ∧ Below w.heap.size w w' := by
  have HB := Aside0.mk (Below.refl w.heap.size w)
  have HM := Aside0.mk (Kd.F_bound hm)
  have HMC := Aside0.mk hmc
  have HMB := Aside0.mk hmb
  have HRB := Aside0.mk hb
  have hu := Try.underlying25
  clear hm hmc hmb hb
  go_enter Try.func15, Try.ntmps15
  go_upto_region 1 with fail
  obtain ⟨wa, hwa, on0, pn0, hb_, hz0⟩ := letter2 w (.cells (C14 c (.slice A mac.length cap)) 25 (0, 0)) (.cells #[.int .i64 0, .int .i64 0, .int .i64 0, .int .u64 0, .int .i64 0, .int .i64 0, .int .i64 0, .int .u64 0, .int .i64 0, .int .i64 0, .int .i64 0, .int .i64 0, .int .i64 0, .slice none 0 0] 25 (0, 0))
  rw [hwa]
  clear hwa
  have hzwa := Nat.le_of_eq hz0.symm
  clear hz0
  have on := Aside0.mk on0
  have pn := Aside0.mk pn0
  clear on0 pn0
  obtain ⟨onc, onf, onl⟩ := cells_of on.out
  obtain ⟨pnc, pnf, pnl⟩ := cells_of pn.out
  have HB_ : Aside0 (Below w.heap.size w wa) := ⟨hb_⟩
  have HM_ := Aside0.mk (Kd.F_below HM.out hb_)
  clear HB HM hb_; have HB := HB_; have HM := HM_; clear HB_ HM_
  go_wp2_with (first | ((with_reducible refine gate_dst (N := 18) rfl ?_); (try (refine gate_guard (by rfl) ?_; dsimp only)); refine wpList_load_row rfl 25 _ rfl _ (by rfl) _ (C14 c (.slice A mac.length cap)) _ _ (eG on) Try.underlying25 rfl i25 ?_))
  (go_at_call 13; (with_reducible refine (Load_is A cap mac c off size _ _ HM.out HMC.out HMB.out h0 h64 _ _ rfl HRB.out).mono ?_); rintro e_ w1 ⟨rfl, hb_⟩; have HB_ : Aside0 (Below w.heap.size w w1) := Aside0.mk (below_step (bG HB) hb_); have hzw1 := hb_.size; (try simp at hzw1); have on_ := Aside0.mk (box_below hb_ (eG on)); have pn_ := Aside0.mk (box_below hb_ (eG pn)); (try clear on onc onf onl); have on := on_; clear on_; obtain ⟨onc, onf, onl⟩ := cells_of on.out; (try clear pn pnc pnf pnl); have pn := pn_; clear pn_; obtain ⟨pnc, pnf, pnl⟩ := cells_of pn.out; clear HB hb_; have HB := HB_; clear HB_)
  go_wp2_with (first | ((with_reducible refine gate_dst (N := 26) rfl ?_); (try (refine gate_guard (by rfl) ?_; dsimp only)); refine wpList_load_row rfl 25 _ rfl _ (by rfl) _ (C14 c (.slice A mac.length cap)) _ _ (eG on) Try.underlying25 rfl i25 ?_) | ((with_reducible refine gate_store (t := 25) (p := 8) (v := .tmp 26) rfl ?_); refine wpList_store_all rfl 25 _ _ rfl rfl _ (C14 c (.slice A mac.length cap)) (by rfl) (by rfl) _ _ pn.out rfl i25 (C14_one _ _ _ _) ?_; rintro w2 ⟨hx_, hk_, hb_, hzz_⟩; have HB_ : Aside0 (Below w.heap.size w w2) := Aside0.mk (Below.trans (bG HB) (Below.mono hb_ (by first | omega | (simp only [sz_alloc, sz_drew, sz_drewN]; omega)))); have hzw2 := hzz_; (try simp at hzw2); clear hzz_; have on_ := Aside0.mk (st_put on.out hk_ (fun h_ => (by repeat (with_reducible first | exact h_ | apply ext_drew | apply ext_drewN | apply ext_alloc | refine blk_far ?_ (by show _ ≠ _; dsimp only; omega) _))) (by omega)); clear on onc onf onl; have on := on_; clear on_; obtain ⟨onc, onf, onl⟩ := cells_of on.out; (try clear pn pnc pnf pnl); have pn := Aside0.mk hx_; obtain ⟨pnc, pnf, pnl⟩ := cells_of pn.out; clear HB hb_ hk_ hx_; have HB := HB_; clear HB_))
  refine bodyPost_ret (results_ct rfl _ _ (w.heap.size + 1) 25 (C14 c (.slice A mac.length cap)) (0, 0) _ rfl pn.out Try.underlying25 rfl i25) rfl ⟨rfl, (bG HB)⟩
set_option maxHeartbeats 1600000 in
set_option maxRecDepth 100000 in
theorem store_yes (y : Int) (hy : IntKind.u32.wrap x = y) (hb : refuseZ c mac.length off size = false) :
    Calls Try.prog 15 #[.agg (C14 c (.slice A mac.length cap)), .int .u64 off, .int .i64 size, .int .u64 x] w fun e w' => e = .returned (.tuple #[.agg (C14 (stZ c (off / 4) y) (.slice A mac.length cap)), .bool true]) ∧ Below w.heap.size w w' := by
  have hy0 : 0 ≤ y := by rw [← hy, IntKind.wrap_u32]; omega
  have hy1 : y < 4294967296 := by rw [← hy, IntKind.wrap_u32]; omega
  have HOF := Aside0.mk (refuse_off h0 h64 hb)
  have HB := Aside0.mk (Below.refl w.heap.size w)
  have HM := Aside0.mk (Kd.F_bound hm)
  have HMC := Aside0.mk hmc
  have HMB := Aside0.mk hmb
  have HRB := Aside0.mk hb
  have hu := Try.underlying25
  clear hm hmc hmb hb
  go_enter Try.func15, Try.ntmps15
  go_upto_region 1 with fail
  obtain ⟨wa, hwa, on0, pn0, hb_, hz0⟩ := letter2 w (.cells (C14 c (.slice A mac.length cap)) 25 (0, 0)) (.cells #[.int .i64 0, .int .i64 0, .int .i64 0, .int .u64 0, .int .i64 0, .int .i64 0, .int .i64 0, .int .u64 0, .int .i64 0, .int .i64 0, .int .i64 0, .int .i64 0, .int .i64 0, .slice none 0 0] 25 (0, 0))
  rw [hwa]
  clear hwa
  have hzwa := Nat.le_of_eq hz0.symm
  clear hz0
  have on := Aside0.mk on0
  have pn := Aside0.mk pn0
  clear on0 pn0
  obtain ⟨onc, onf, onl⟩ := cells_of on.out
  obtain ⟨pnc, pnf, pnl⟩ := cells_of pn.out
  have HB_ : Aside0 (Below w.heap.size w wa) := ⟨hb_⟩
  have HM_ := Aside0.mk (Kd.F_below HM.out hb_)
  clear HB HM hb_; have HB := HB_; have HM := HM_; clear HB_ HM_
  go_wp2_with (first | ((with_reducible refine gate_dst (N := 18) rfl ?_); (try (refine gate_guard (by rfl) ?_; dsimp only)); refine wpList_load_row rfl 25 _ rfl _ (by rfl) _ (C14 c (.slice A mac.length cap)) _ _ (eG on) Try.underlying25 rfl i25 ?_))
  (go_at_call 13; (with_reducible refine (Load_is A cap mac c off size _ _ HM.out HMC.out HMB.out h0 h64 _ _ rfl HRB.out).mono ?_); rintro e_ w1 ⟨rfl, hb_⟩; have HB_ : Aside0 (Below w.heap.size w w1) := Aside0.mk (below_step (bG HB) hb_); have hzw1 := hb_.size; (try simp at hzw1); have on_ := Aside0.mk (box_below hb_ (eG on)); have pn_ := Aside0.mk (box_below hb_ (eG pn)); (try clear on onc onf onl); have on := on_; clear on_; obtain ⟨onc, onf, onl⟩ := cells_of on.out; (try clear pn pnc pnf pnl); have pn := pn_; clear pn_; obtain ⟨pnc, pnf, pnl⟩ := cells_of pn.out; clear HB hb_; have HB := HB_; clear HB_)
  go_upto_region 6 with fail
  go_cut [14] (fun v wx => v = .bool (decide (1 ≤ y) && decide (y ≤ 64)) ∧ w1 = wx)
  case first =>
    go_wp2_with fail
    all_goals go_meet
    all_goals refine ⟨congrArg Value.bool ?_, rfl⟩
    all_goals (simp [*] <;> omega)
  case rest =>
  obtain ⟨rfl, hw_⟩ := hcut
  subst hw_
  have hc0 : World.cell? w1 ⟨w.heap.size, 0, none⟩ = some (.int .i64 (c 0)) := (onc 0).trans rfl
  have hc1 : World.cell? w1 ⟨w.heap.size, 1, none⟩ = some (.int .i64 (c 1)) := (onc 1).trans rfl
  have hc2 : World.cell? w1 ⟨w.heap.size, 2, none⟩ = some (.int .i64 (c 2)) := (onc 2).trans rfl
  have hc3 : World.cell? w1 ⟨w.heap.size, 3, none⟩ = some (.int .u64 (c 3)) := (onc 3).trans rfl
  have hc4 : World.cell? w1 ⟨w.heap.size, 4, none⟩ = some (.int .i64 (c 4)) := (onc 4).trans rfl
  have hc5 : World.cell? w1 ⟨w.heap.size, 5, none⟩ = some (.int .i64 (c 5)) := (onc 5).trans rfl
  have hc6 : World.cell? w1 ⟨w.heap.size, 6, none⟩ = some (.int .i64 (c 6)) := (onc 6).trans rfl
  have hc7 : World.cell? w1 ⟨w.heap.size, 7, none⟩ = some (.int .u64 (c 7)) := (onc 7).trans rfl
  have hc8 : World.cell? w1 ⟨w.heap.size, 8, none⟩ = some (.int .i64 (c 8)) := (onc 8).trans rfl
  have hc9 : World.cell? w1 ⟨w.heap.size, 9, none⟩ = some (.int .i64 (c 9)) := (onc 9).trans rfl
  have hc10 : World.cell? w1 ⟨w.heap.size, 10, none⟩ = some (.int .i64 (c 10)) := (onc 10).trans rfl
  have hc11 : World.cell? w1 ⟨w.heap.size, 11, none⟩ = some (.int .i64 (c 11)) := (onc 11).trans rfl
  have hc12 : World.cell? w1 ⟨w.heap.size, 12, none⟩ = some (.int .i64 (c 12)) := (onc 12).trans rfl
  clear onc
  have onc := trivial
  go_upto_block 0 with fail
  go_cut [14] (fun _ wx => Aside0 (wx.heap[w.heap.size]? = some (.cells (C14 (stZ c (off / 4) y) (.slice A mac.length cap)) 25 (0, 0))) ∧ Aside0 (wx.heap[w.heap.size + 1]? = some (.cells #[.int .i64 0, .int .i64 0, .int .i64 0, .int .u64 0, .int .i64 0, .int .i64 0, .int .i64 0, .int .u64 0, .int .i64 0, .int .i64 0, .int .i64 0, .int .i64 0, .int .i64 0, .slice none 0 0] 25 (0, 0))) ∧ Aside0 (Below w.heap.size w wx))
  case first =>
    clear hy
    rcases HOF.out with rfl | rfl | rfl | rfl | rfl | rfl | rfl | rfl | rfl | rfl | rfl | rfl | rfl | rfl | rfl
    · go_wp2_with fail
      all_goals go_meet
      all_goals first | (exact ⟨⟨blk_put on.out 0 _ rfl⟩, ⟨(eG pn)⟩, ⟨(bG HB)⟩⟩)
    · go_wp2_with fail
      all_goals go_meet
      all_goals first | (exact ⟨⟨blk_put on.out 1 _ rfl⟩, ⟨(eG pn)⟩, ⟨(bG HB)⟩⟩)
    · go_wp2_with fail
      all_goals go_meet
      all_goals first | (exact ⟨⟨blk_put on.out 2 _ rfl⟩, ⟨(eG pn)⟩, ⟨(bG HB)⟩⟩)
    · go_wp2_with fail
      all_goals go_meet
      all_goals first | (exact ⟨⟨blk_put on.out 3 _ rfl⟩, ⟨(eG pn)⟩, ⟨(bG HB)⟩⟩)
    · go_wp2_with fail
      all_goals go_meet
      all_goals first | (rw [show stZ c (16 / 4) y = upd (upd (upd c 4 y) 5 0) 6 0 from st4p c y (by omega)]; exact ⟨⟨blk_put (cs' := C14 (upd (upd (upd c 4 y) 5 0) 6 0) (.slice A mac.length cap)) (blk_put (cs' := C14 (upd (upd c 4 y) 5 0) (.slice A mac.length cap)) (blk_put (cs' := C14 (upd c 4 y) (.slice A mac.length cap)) on.out 4 _ rfl) 5 _ rfl) 6 _ rfl⟩, ⟨(eG pn)⟩, ⟨(bG HB)⟩⟩) | (rw [show stZ c (16 / 4) y = c from st4n c y (by omega)]; exact ⟨on, pn, HB⟩)
    · go_wp2_with fail
      all_goals go_meet
      all_goals first | exact ⟨on, pn, HB⟩
    · go_wp2_with fail
      all_goals go_meet
      all_goals first | (rw [show stZ c (24 / 4) y = upd c 6 y from st6p c y (by omega)]; exact ⟨⟨blk_put on.out 6 _ rfl⟩, ⟨(eG pn)⟩, ⟨(bG HB)⟩⟩) | (rw [show stZ c (24 / 4) y = c from st6n c y (by omega)]; exact ⟨on, pn, HB⟩)
    · go_wp2_with fail
      all_goals go_meet
      all_goals first | (exact ⟨⟨blk_put on.out 7 _ rfl⟩, ⟨(eG pn)⟩, ⟨(bG HB)⟩⟩)
    · go_wp2_with fail
      all_goals go_meet
      all_goals first | (rw [show stZ c (32 / 4) y = upd (upd (upd c 8 y) 9 0) 10 0 from st8p c y (by omega)]; exact ⟨⟨blk_put (cs' := C14 (upd (upd (upd c 8 y) 9 0) 10 0) (.slice A mac.length cap)) (blk_put (cs' := C14 (upd (upd c 8 y) 9 0) (.slice A mac.length cap)) (blk_put (cs' := C14 (upd c 8 y) (.slice A mac.length cap)) on.out 8 _ rfl) 9 _ rfl) 10 _ rfl⟩, ⟨(eG pn)⟩, ⟨(bG HB)⟩⟩) | (rw [show stZ c (32 / 4) y = c from st8n c y (by omega)]; exact ⟨on, pn, HB⟩)
    · go_wp2_with fail
      all_goals go_meet
      all_goals first | exact ⟨on, pn, HB⟩
    · go_wp2_with fail
      all_goals go_meet
      all_goals first | (rw [show stZ c (40 / 4) y = upd c 10 y from st10p c y (by omega)]; exact ⟨⟨blk_put on.out 10 _ rfl⟩, ⟨(eG pn)⟩, ⟨(bG HB)⟩⟩) | (rw [show stZ c (40 / 4) y = c from st10n c y (by omega)]; exact ⟨on, pn, HB⟩)
    · go_wp2_with fail
      all_goals go_meet
      all_goals first | exact ⟨on, pn, HB⟩
    · go_wp2_with fail
      all_goals go_meet
      all_goals first | exact ⟨on, pn, HB⟩
    · go_wp2_with fail
      all_goals go_meet
      all_goals first | exact ⟨on, pn, HB⟩
    · go_wp2_with fail
      all_goals go_meet
      all_goals first | exact ⟨on, pn, HB⟩
  case rest =>
  obtain ⟨on, pn, HB⟩ := hcut
  rename World => w3
  obtain ⟨onc, onf, onl⟩ := cells_of on.out
  obtain ⟨pnc, pnf, pnl⟩ := cells_of pn.out
  go_wp2_with (first | ((with_reducible refine gate_dst (N := 112) rfl ?_); (try (refine gate_guard (by rfl) ?_; dsimp only)); refine wpList_load_row rfl 25 _ rfl _ (by rfl) _ (C14 (stZ c (off / 4) y) (.slice A mac.length cap)) _ _ (eG on) Try.underlying25 rfl i25 ?_) | ((with_reducible refine gate_store (t := 25) (p := 8) (v := .tmp 112) rfl ?_); refine wpList_store_all rfl 25 _ _ rfl rfl _ (C14 (stZ c (off / 4) y) (.slice A mac.length cap)) (by rfl) (by rfl) _ _ pn.out rfl i25 (C14_one _ _ _ _) ?_; rintro w4 ⟨hx_, hk_, hb_, hzz_⟩; have HB_ : Aside0 (Below w.heap.size w w4) := Aside0.mk (Below.trans (bG HB) (Below.mono hb_ (by first | omega | (simp only [sz_alloc, sz_drew, sz_drewN]; omega)))); have hzw4 := hzz_; (try simp at hzw4); clear hzz_; have on_ := Aside0.mk (st_put on.out hk_ (fun h_ => (by repeat (with_reducible first | exact h_ | apply ext_drew | apply ext_drewN | apply ext_alloc | refine blk_far ?_ (by show _ ≠ _; dsimp only; omega) _))) (by omega)); clear on onc onf onl; have on := on_; clear on_; obtain ⟨onc, onf, onl⟩ := cells_of on.out; (try clear pn pnc pnf pnl); have pn := Aside0.mk hx_; obtain ⟨pnc, pnf, pnl⟩ := cells_of pn.out; clear HB hb_ hk_ hx_; have HB := HB_; clear HB_))
  refine bodyPost_ret (results_ct rfl _ _ (w.heap.size + 1) 25 (C14 (stZ c (off / 4) y) (.slice A mac.length cap)) (0, 0) _ rfl pn.out Try.underlying25 rfl i25) rfl ⟨rfl, (bG HB)⟩
end
end Go.Proofs.Ytdblpflepfcnjaa.Q
