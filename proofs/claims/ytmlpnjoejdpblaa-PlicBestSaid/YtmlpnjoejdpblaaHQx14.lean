import Derived.Test.YtmlpnjoejdpblaaQx0
import Derived.Test.YtmlpnjoejdpblaaQx2
import Derived.Test.YtmlpnjoejdpblaaEchk
import Derived.Test.YtmlpnjoejdpblaaHZ1
-- Ytmlpnjoejdpblaa: written by a program for this claim (several laws of one seat at once)
namespace Go.Proofs.Ytmlpnjoejdpblaa.Q
open Go.RowKit Go.Proofs.YtmlpnjoejdpblaaW.PrintWords Go.Proofs.YtmlpnjoejdpblaaW.PrintLast Go.Proofs.YtmlpnjoejdpblaaW.PrintMore
attribute [local go_sem] max2_int min2_int max_two min_two max_three min_three max_four min_four   -- for this text's walks alone
set_option linter.unusedVariables false
set_option linter.unusedSimpArgs false

/-! ### drawbridgelaw10_PlicBest: function 6 -/
mutual
def drawbridgelaw10_PlicBest.j0 : Nat → Int → Bool → List Int → Int → Int → List Int → List Int → Option (Bool)
  | 0, _, _, _, _, _, _, _ => none
  | k + 1, x1, x18, x460000, x460001, x460002, x460003, x460004 => if x18 = true then ((plic_Best.f k x460000 x460001 x460002 x460003 x460004 x1).bind fun t461 => (if t461 = 0 then ((drawbridgelaw10_heads.f).bind fun t462 => (some t462)) else (some false))) else ((plic_Best.f k x460000 x460001 x460002 x460003 x460004 x1).bind fun t463 => (drawbridgelaw10_PlicBest.l0 k x1 t463 1 x460000 x460001 x460002 x460003 x460004))
def drawbridgelaw10_PlicBest.l0 : Nat → Int → Int → Int → List Int → Int → Int → List Int → List Int → Option (Bool)
  | 0, _, _, _, _, _, _, _, _ => none
  | k + 1, x1, x5, x6, x460000, x460001, x460002, x460003, x460004 => if x6 ≤ 2 then (if 0 ≤ x1 then (if x1 < (x460003.length : Int) then (if 0 ≤ (IntKind.u64.wrap (x6)) then (if (Go.bits .and .i64 (Go.bits .and .i64 x460001 (rd x460003 x1)) (shl .i64 1 (IntKind.u64.wrap (x6)))) = 0 then (if x5 = x6 then (some false) else (drawbridgelaw10_PlicBest.l0 k x1 x5 (wrap64 (x6 + 1)) x460000 x460001 x460002 x460003 x460004)) else (if 0 ≤ x6 then (if x6 < (x460000.length : Int) then (if x1 < (x460004.length : Int) then (if x5 = x6 then (if ((rd x460000 x6) > (rd x460004 x1)) then (if (rd x460000 x6) > (rd x460004 x1) then (if x5 = 0 then (some false) else (if 0 ≤ x5 then (if x5 < (x460000.length : Int) then (if (rd x460000 x5) < (rd x460000 x6) then (some false) else (if (rd x460000 x5) = (rd x460000 x6) then (if x5 > x6 then (some false) else (drawbridgelaw10_PlicBest.l0 k x1 x5 (wrap64 (x6 + 1)) x460000 x460001 x460002 x460003 x460004)) else (drawbridgelaw10_PlicBest.l0 k x1 x5 (wrap64 (x6 + 1)) x460000 x460001 x460002 x460003 x460004))) else (none)) else (none))) else (drawbridgelaw10_PlicBest.l0 k x1 x5 (wrap64 (x6 + 1)) x460000 x460001 x460002 x460003 x460004)) else (some false)) else (if (rd x460000 x6) > (rd x460004 x1) then (if x5 = 0 then (some false) else (if 0 ≤ x5 then (if x5 < (x460000.length : Int) then (if (rd x460000 x5) < (rd x460000 x6) then (some false) else (if (rd x460000 x5) = (rd x460000 x6) then (if x5 > x6 then (some false) else (drawbridgelaw10_PlicBest.l0 k x1 x5 (wrap64 (x6 + 1)) x460000 x460001 x460002 x460003 x460004)) else (drawbridgelaw10_PlicBest.l0 k x1 x5 (wrap64 (x6 + 1)) x460000 x460001 x460002 x460003 x460004))) else (none)) else (none))) else (drawbridgelaw10_PlicBest.l0 k x1 x5 (wrap64 (x6 + 1)) x460000 x460001 x460002 x460003 x460004))) else (none)) else (none)) else (none))) else (none)) else (none)) else (none)) else (if x5 ≥ 0 then (if x5 ≤ 2 then ((drawbridgelaw10_heads.f).bind fun t475 => (some t475)) else (some false)) else (some false))
end
def drawbridgelaw10_PlicBest.f (k : Nat) (l0_0 : List Int) (a0_1 : Int) (a0_2 : Int) (l0_3 : List Int) (l0_4 : List Int) (a1 : Int) : Option (Bool) := (plic_Check.f l0_0 a0_1 a0_2 l0_3 l0_4).bind fun t460 => (if t460 = true then (if a1 < 0 then (drawbridgelaw10_PlicBest.j0 k a1 true l0_0 a0_1 a0_2 l0_3 l0_4) else (drawbridgelaw10_PlicBest.j0 k a1 (decide (a1 > 1)) l0_0 a0_1 a0_2 l0_3 l0_4)) else (drawbridgelaw10_PlicBest.j0 k a1 true l0_0 a0_1 a0_2 l0_3 l0_4))
theorem drawbridgelaw10_PlicBest.mono_l : ∀ k, (∀ y0 y1 y2 y3 y4 y5 y6, LeO (drawbridgelaw10_PlicBest.j0 k y0 y1 y2 y3 y4 y5 y6) (drawbridgelaw10_PlicBest.j0 (k + 1) y0 y1 y2 y3 y4 y5 y6)) ∧ (∀ y0 y1 y2 y3 y4 y5 y6 y7, LeO (drawbridgelaw10_PlicBest.l0 k y0 y1 y2 y3 y4 y5 y6 y7) (drawbridgelaw10_PlicBest.l0 (k + 1) y0 y1 y2 y3 y4 y5 y6 y7))
  | 0 => ⟨fun _ _ _ _ _ _ _ r h => by simp [drawbridgelaw10_PlicBest.j0] at h, fun _ _ _ _ _ _ _ _ r h => by simp [drawbridgelaw10_PlicBest.l0] at h⟩
  | k + 1 => by
    obtain ⟨ih0, ih1⟩ := drawbridgelaw10_PlicBest.mono_l k
    refine ⟨?_, ?_⟩
    · intro y0 y1 y2 y3 y4 y5 y6
      unfold drawbridgelaw10_PlicBest.j0
      repeat' first
      | (with_reducible exact ih0 _ _ _ _ _ _ _)
      | (with_reducible exact ih1 _ _ _ _ _ _ _ _)
      | (with_reducible exact plic_Best.mono _ _ _ _ _ _ _)
      | (with_reducible exact LeO.refl _)
      | (with_reducible exact LeO.none _)
      | (with_reducible refine LeO.ite ?_ ?_)
      | (with_reducible refine LeO.bind ?_ (fun _ => ?_))
      | exact ih0 _ _ _ _ _ _ _
      | exact ih1 _ _ _ _ _ _ _ _
      | exact plic_Best.mono _ _ _ _ _ _ _
      | exact LeO.none _
      | refine LeO.ite ?_ ?_
      | refine LeO.bind ?_ (fun _ => ?_)
    · intro y0 y1 y2 y3 y4 y5 y6 y7
      unfold drawbridgelaw10_PlicBest.l0
      repeat' first
      | (with_reducible exact ih0 _ _ _ _ _ _ _)
      | (with_reducible exact ih1 _ _ _ _ _ _ _ _)
      | (with_reducible exact plic_Best.mono _ _ _ _ _ _ _)
      | (with_reducible exact LeO.refl _)
      | (with_reducible exact LeO.none _)
      | (with_reducible refine LeO.ite ?_ ?_)
      | (with_reducible refine LeO.bind ?_ (fun _ => ?_))
      | exact ih0 _ _ _ _ _ _ _
      | exact ih1 _ _ _ _ _ _ _ _
      | exact plic_Best.mono _ _ _ _ _ _ _
      | exact LeO.none _
      | refine LeO.ite ?_ ?_
      | refine LeO.bind ?_ (fun _ => ?_)
theorem drawbridgelaw10_PlicBest.mono : ∀ a0 a1 a2 a3 a4 a5 k, LeO (drawbridgelaw10_PlicBest.f k a0 a1 a2 a3 a4 a5) (drawbridgelaw10_PlicBest.f (k + 1) a0 a1 a2 a3 a4 a5) := by
  intro a0 a1 a2 a3 a4 a5 k
  obtain ⟨ih0, ih1⟩ := drawbridgelaw10_PlicBest.mono_l k
  unfold drawbridgelaw10_PlicBest.f
  repeat' first
      | (with_reducible exact ih0 _ _ _ _ _ _ _)
      | (with_reducible exact ih1 _ _ _ _ _ _ _ _)
      | (with_reducible exact plic_Best.mono _ _ _ _ _ _ _)
      | (with_reducible exact LeO.refl _)
      | (with_reducible exact LeO.none _)
      | (with_reducible refine LeO.ite ?_ ?_)
      | (with_reducible refine LeO.bind ?_ (fun _ => ?_))
      | exact ih0 _ _ _ _ _ _ _
      | exact ih1 _ _ _ _ _ _ _ _
      | exact plic_Best.mono _ _ _ _ _ _ _
      | exact LeO.none _
      | refine LeO.ite ?_ ?_
      | refine LeO.bind ?_ (fun _ => ?_)
set_option maxHeartbeats 8000000 in
set_option maxRecDepth 100000 in
theorem drawbridgelaw10_PlicBest.calls (k : Nat) (A0_0 : Option Addr) (c0_0 : Nat) (l0_0 : List Int) (a0_1 : Int) (a0_2 : Int) (A0_3 : Option Addr) (c0_3 : Nat) (l0_3 : List Int) (A0_4 : Option Addr) (c0_4 : Nat) (l0_4 : List Int) (a1 : Int) (r : Bool) (w : World) (hr0_0 : Kd.C (Kd.int .i64) w A0_0 l0_0.length l0_0) (hc0_0 : l0_0.length ≤ c0_0) (hr0_3 : Kd.C (Kd.int .i64) w A0_3 l0_3.length l0_3) (hc0_3 : l0_3.length ≤ c0_3) (hr0_4 : Kd.C (Kd.int .i64) w A0_4 l0_4.length l0_4) (hc0_4 : l0_4.length ≤ c0_4) (h : drawbridgelaw10_PlicBest.f k l0_0 a0_1 a0_2 l0_3 l0_4 a1 = some r) (hT_ : r = true) :
    Calls Try.prog 6 #[.agg #[.slice A0_0 l0_0.length c0_0, .int .i64 a0_1, .int .i64 a0_2, .slice A0_3 l0_3.length c0_3, .slice A0_4 l0_4.length c0_4], .int .i64 a1] w fun e w' => e = .returned (.bool r) ∧ Below w.heap.size w w' := by
  have hu24 := Try.underlying24
  have HR0_0 := Aside0.mk hr0_0
  have HC0_0 := Aside0.mk hc0_0
  clear hr0_0 hc0_0
  have HR0_3 := Aside0.mk hr0_3
  have HC0_3 := Aside0.mk hc0_3
  clear hr0_3 hc0_3
  have HR0_4 := Aside0.mk hr0_4
  have HC0_4 := Aside0.mk hc0_4
  clear hr0_4 hc0_4
  have HB := Aside0.mk (Below.refl w.heap.size w)
  have H : ((plic_Check.f l0_0 a0_1 a0_2 l0_3 l0_4).bind fun t460 => (if t460 = true then (if a1 < 0 then (drawbridgelaw10_PlicBest.j0 k a1 true l0_0 a0_1 a0_2 l0_3 l0_4) else (drawbridgelaw10_PlicBest.j0 k a1 (decide (a1 > 1)) l0_0 a0_1 a0_2 l0_3 l0_4)) else (drawbridgelaw10_PlicBest.j0 k a1 true l0_0 a0_1 a0_2 l0_3 l0_4))) = some r := h
  clear h
  have HC3 := Aside0.mk H
  clear H
  go_enter Try.func6, Try.ntmps6
  go_upto_region 1 with (first | ((with_reducible refine gate_dst (N := 2) rfl ?_); refine box_event ?hg (N := 2) ?hd (cs := #[.slice A0_0 l0_0.length c0_0, .int .i64 a0_1, .int .i64 a0_2, .slice A0_3 l0_3.length c0_3, .slice A0_4 l0_4.length c0_4]) (t := 24) ?hr ?_; (case hd => rfl); (case hg => rfl); (case hr => first | (go_simp; done) | (go_simp; rfl)); intro gb459 hg w4 hbox hb; have n0_ := Aside0.mk (below_step (by repeat (first | (with_reducible first | exact HB.out | apply below_alloc | apply pw_below_drewN | apply below_drew1) | exact HB.out)) hb); have n1_ := Aside0.mk (hbox); have n2_ := Aside0.mk ((by rw [hg]; exact (below_size (by repeat (first | (with_reducible first | exact HB.out | apply below_alloc | apply pw_below_drewN | apply below_drew1) | exact HB.out))) : w.heap.size ≤ gb459)); have n3_ := Aside0.mk ((by rw [hg]; exact (below_size (by repeat (first | (with_reducible first | exact HB.out | apply below_alloc | apply pw_below_drewN | apply below_drew1) | exact HB.out))) : w.heap.size ≤ gb459)); clear HB; have HB := n0_; have BK459 := n1_; have GW459 := n2_; have GE459 := n3_; clear n0_ n1_ n2_ n3_; clear hb hbox hg))
  repeat (go_quiet (first | ((with_reducible refine gate_dst (N := 2) rfl ?_); refine box_event ?hg (N := 2) ?hd (cs := #[.slice A0_0 l0_0.length c0_0, .int .i64 a0_1, .int .i64 a0_2, .slice A0_3 l0_3.length c0_3, .slice A0_4 l0_4.length c0_4]) (t := 24) ?hr ?_; (case hd => rfl); (case hg => rfl); (case hr => first | (go_simp; done) | (go_simp; rfl)); intro gb459 hg w4 hbox hb; have n0_ := Aside0.mk (below_step (by repeat (first | (with_reducible first | exact HB.out | apply below_alloc | apply pw_below_drewN | apply below_drew1) | exact HB.out)) hb); have n1_ := Aside0.mk (hbox); have n2_ := Aside0.mk ((by rw [hg]; exact (below_size (by repeat (first | (with_reducible first | exact HB.out | apply below_alloc | apply pw_below_drewN | apply below_drew1) | exact HB.out))) : w.heap.size ≤ gb459)); have n3_ := Aside0.mk ((by rw [hg]; exact (below_size (by repeat (first | (with_reducible first | exact HB.out | apply below_alloc | apply pw_below_drewN | apply below_drew1) | exact HB.out))) : w.heap.size ≤ gb459)); clear HB; have HB := n0_; have BK459 := n1_; have GW459 := n2_; have GE459 := n3_; clear n0_ n1_ n2_ n3_; clear hb hbox hg)); go_upto_region 1 with (first | ((with_reducible refine gate_dst (N := 2) rfl ?_); refine box_event ?hg (N := 2) ?hd (cs := #[.slice A0_0 l0_0.length c0_0, .int .i64 a0_1, .int .i64 a0_2, .slice A0_3 l0_3.length c0_3, .slice A0_4 l0_4.length c0_4]) (t := 24) ?hr ?_; (case hd => rfl); (case hg => rfl); (case hr => first | (go_simp; done) | (go_simp; rfl)); intro gb459 hg w4 hbox hb; have n0_ := Aside0.mk (below_step (by repeat (first | (with_reducible first | exact HB.out | apply below_alloc | apply pw_below_drewN | apply below_drew1) | exact HB.out)) hb); have n1_ := Aside0.mk (hbox); have n2_ := Aside0.mk ((by rw [hg]; exact (below_size (by repeat (first | (with_reducible first | exact HB.out | apply below_alloc | apply pw_below_drewN | apply below_drew1) | exact HB.out))) : w.heap.size ≤ gb459)); have n3_ := Aside0.mk ((by rw [hg]; exact (below_size (by repeat (first | (with_reducible first | exact HB.out | apply below_alloc | apply pw_below_drewN | apply below_drew1) | exact HB.out))) : w.heap.size ≤ gb459)); clear HB; have HB := n0_; have BK459 := n1_; have GW459 := n2_; have GE459 := n3_; clear n0_ n1_ n2_ n3_; clear hb hbox hg)))
  (try simp only [Act.put, List.setIfInBounds_toArray, List.set_cons_zero, List.set_cons_succ])
  go_cut [18] (fun v18 wc => ∃ (kq : Nat) (x18_2 : Bool), v18 = .bool x18_2 ∧ Aside0 (drawbridgelaw10_PlicBest.j0 kq a1 x18_2 l0_0 a0_1 a0_2 l0_3 l0_4 = some r) ∧ Aside0 (kq ≤ k) ∧ Aside0 (wc.heap[gb459]? = some (.cells #[(.slice A0_0 l0_0.length c0_0), .int .i64 a0_1, .int .i64 a0_2, (.slice A0_3 l0_3.length c0_3), (.slice A0_4 l0_4.length c0_4)] 24 (0, 0))) ∧ Aside0 (Below w.heap.size w wc))
  case first =>
    have H := HC3.out
    clear HC3
    replace H := Option.bind_eq_some_iff.mp H
    obtain ⟨t460, A50, H⟩ := H
    replace H : (if t460 = true then (if a1 < 0 then (drawbridgelaw10_PlicBest.j0 k a1 true l0_0 a0_1 a0_2 l0_3 l0_4) else (drawbridgelaw10_PlicBest.j0 k a1 (decide (a1 > 1)) l0_0 a0_1 a0_2 l0_3 l0_4)) else (drawbridgelaw10_PlicBest.j0 k a1 true l0_0 a0_1 a0_2 l0_3 l0_4)) = some r := H
    have A5 := Aside0.mk A50
    clear A50
    by_cases c6 : t460 = true
    · subst c6
      have H1 : (if a1 < 0 then (drawbridgelaw10_PlicBest.j0 k a1 true l0_0 a0_1 a0_2 l0_3 l0_4) else (drawbridgelaw10_PlicBest.j0 k a1 (decide (a1 > 1)) l0_0 a0_1 a0_2 l0_3 l0_4)) = some r := by rw [if_pos rfl] at H; exact H
      clear H
      have H := H1
      clear H1
      by_cases c7 : a1 < 0
      · rw [if_pos c7] at H
        have c7b0 : decide (a1 < 0) = true := decide_eq_true c7
        clear c7
        (first | rw [c7b0] | (simp only [i64_w, i32_w]; rw [c7b0]) | skip)
        have H' := Aside0.mk H
        clear H
        have hcz8_0 : w4.cell? ⟨gb459, 0, none⟩ = some (.slice A0_0 l0_0.length c0_0) := (blk_cell BK459.out 0).trans rfl
        have hcz8_1 : w4.cell? ⟨gb459, 1, none⟩ = some (.int .i64 a0_1) := (blk_cell BK459.out 1).trans rfl
        have hcz8_2 : w4.cell? ⟨gb459, 2, none⟩ = some (.int .i64 a0_2) := (blk_cell BK459.out 2).trans rfl
        have hcz8_3 : w4.cell? ⟨gb459, 3, none⟩ = some (.slice A0_3 l0_3.length c0_3) := (blk_cell BK459.out 3).trans rfl
        have hcz8_4 : w4.cell? ⟨gb459, 4, none⟩ = some (.slice A0_4 l0_4.length c0_4) := (blk_cell BK459.out 4).trans rfl
        have hfz8_0 := blk_frozen BK459.out 0
        have hfz8_1 := blk_frozen BK459.out 1
        have hfz8_2 := blk_frozen BK459.out 2
        have hfz8_3 := blk_frozen BK459.out 3
        have hfz8_4 := blk_frozen BK459.out 4
        go_wp2_with (first | (go_at_call 7; (with_reducible refine (plic_Check.calls _ _ l0_0 a0_1 a0_2 _ _ l0_3 _ _ l0_4 true _ ?side1 ?side2 ?side3 ?side4 ?side5 ?side6 A5.out).mono ?_); (case side1 => repeat (first | exact (Kd.C_below HR0_0.out HB.out) | (with_reducible refine Kd.C_alloc ?_ _) | (with_reducible refine Kd.C_drewN ?_ _) | (with_reducible refine Kd.C_drew ?_))); (case side2 => exact HC0_0.out); (case side3 => repeat (first | exact (Kd.C_below HR0_3.out HB.out) | (with_reducible refine Kd.C_alloc ?_ _) | (with_reducible refine Kd.C_drewN ?_ _) | (with_reducible refine Kd.C_drew ?_))); (case side4 => exact HC0_3.out); (case side5 => repeat (first | exact (Kd.C_below HR0_4.out HB.out) | (with_reducible refine Kd.C_alloc ?_ _) | (with_reducible refine Kd.C_drewN ?_ _) | (with_reducible refine Kd.C_drew ?_))); (case side6 => exact HC0_4.out); rintro e w9 ⟨rfl, hb⟩; have n0_ := Aside0.mk (blk_below (g := gb459) (o := .cells #[.slice A0_0 l0_0.length c0_0, .int .i64 a0_1, .int .i64 a0_2, .slice A0_3 l0_3.length c0_3, .slice A0_4 l0_4.length c0_4] 24 (0, 0)) (by (with_reducible repeat (first | refine blk_drewN ?_ _ | refine blk_drew ?_ | refine blk_alloc ?_ _)); exact BK459.out) hb); have n1_ := Aside0.mk (below_step (by repeat (first | (with_reducible first | exact HB.out | apply below_alloc | apply pw_below_drewN | apply below_drew1 | refine below_set ?_ GE459.out) | exact HB.out)) hb); clear BK459; clear HB; have BK459 := n0_; have HB := n1_; clear n0_ n1_; (try clear hb); (try clear hb2); (try clear hk); (try clear hi)))
        repeat (go_quiet (first | (go_at_call 7; (with_reducible refine (plic_Check.calls _ _ l0_0 a0_1 a0_2 _ _ l0_3 _ _ l0_4 true _ ?side1 ?side2 ?side3 ?side4 ?side5 ?side6 A5.out).mono ?_); (case side1 => repeat (first | exact (Kd.C_below HR0_0.out HB.out) | (with_reducible refine Kd.C_alloc ?_ _) | (with_reducible refine Kd.C_drewN ?_ _) | (with_reducible refine Kd.C_drew ?_))); (case side2 => exact HC0_0.out); (case side3 => repeat (first | exact (Kd.C_below HR0_3.out HB.out) | (with_reducible refine Kd.C_alloc ?_ _) | (with_reducible refine Kd.C_drewN ?_ _) | (with_reducible refine Kd.C_drew ?_))); (case side4 => exact HC0_3.out); (case side5 => repeat (first | exact (Kd.C_below HR0_4.out HB.out) | (with_reducible refine Kd.C_alloc ?_ _) | (with_reducible refine Kd.C_drewN ?_ _) | (with_reducible refine Kd.C_drew ?_))); (case side6 => exact HC0_4.out); rintro e w9 ⟨rfl, hb⟩; have n0_ := Aside0.mk (blk_below (g := gb459) (o := .cells #[.slice A0_0 l0_0.length c0_0, .int .i64 a0_1, .int .i64 a0_2, .slice A0_3 l0_3.length c0_3, .slice A0_4 l0_4.length c0_4] 24 (0, 0)) (by (with_reducible repeat (first | refine blk_drewN ?_ _ | refine blk_drew ?_ | refine blk_alloc ?_ _)); exact BK459.out) hb); have n1_ := Aside0.mk (below_step (by repeat (first | (with_reducible first | exact HB.out | apply below_alloc | apply pw_below_drewN | apply below_drew1 | refine below_set ?_ GE459.out) | exact HB.out)) hb); clear BK459; clear HB; have BK459 := n0_; have HB := n1_; clear n0_ n1_; (try clear hb); (try clear hb2); (try clear hk); (try clear hi))); try go_wp2_with (first | (go_at_call 7; (with_reducible refine (plic_Check.calls _ _ l0_0 a0_1 a0_2 _ _ l0_3 _ _ l0_4 true _ ?side1 ?side2 ?side3 ?side4 ?side5 ?side6 A5.out).mono ?_); (case side1 => repeat (first | exact (Kd.C_below HR0_0.out HB.out) | (with_reducible refine Kd.C_alloc ?_ _) | (with_reducible refine Kd.C_drewN ?_ _) | (with_reducible refine Kd.C_drew ?_))); (case side2 => exact HC0_0.out); (case side3 => repeat (first | exact (Kd.C_below HR0_3.out HB.out) | (with_reducible refine Kd.C_alloc ?_ _) | (with_reducible refine Kd.C_drewN ?_ _) | (with_reducible refine Kd.C_drew ?_))); (case side4 => exact HC0_3.out); (case side5 => repeat (first | exact (Kd.C_below HR0_4.out HB.out) | (with_reducible refine Kd.C_alloc ?_ _) | (with_reducible refine Kd.C_drewN ?_ _) | (with_reducible refine Kd.C_drew ?_))); (case side6 => exact HC0_4.out); rintro e w9 ⟨rfl, hb⟩; have n0_ := Aside0.mk (blk_below (g := gb459) (o := .cells #[.slice A0_0 l0_0.length c0_0, .int .i64 a0_1, .int .i64 a0_2, .slice A0_3 l0_3.length c0_3, .slice A0_4 l0_4.length c0_4] 24 (0, 0)) (by (with_reducible repeat (first | refine blk_drewN ?_ _ | refine blk_drew ?_ | refine blk_alloc ?_ _)); exact BK459.out) hb); have n1_ := Aside0.mk (below_step (by repeat (first | (with_reducible first | exact HB.out | apply below_alloc | apply pw_below_drewN | apply below_drew1 | refine below_set ?_ GE459.out) | exact HB.out)) hb); clear BK459; clear HB; have BK459 := n0_; have HB := n1_; clear n0_ n1_; (try clear hb); (try clear hb2); (try clear hk); (try clear hi))))
        go_meet
        case rel => exact ⟨_, (true), (by first | rfl | (simp; done) | (simp [*]; done)), H', ⟨by first | omega | exact Nat.le_refl _⟩, ⟨by (with_reducible repeat (first | refine blk_drewN ?_ _ | refine blk_drew ?_ | refine blk_alloc ?_ _)); exact BK459.out⟩, ⟨by repeat (first | (with_reducible first | exact HB.out | apply below_alloc | apply pw_below_drewN | apply below_drew1 | refine below_set ?_ GE459.out) | exact HB.out)⟩⟩
      · rw [if_neg c7] at H
        have c7b0 : decide (a1 < 0) = false := decide_eq_false c7
        clear c7
        (first | rw [c7b0] | (simp only [i64_w, i32_w]; rw [c7b0]) | skip)
        have H' := Aside0.mk H
        clear H
        have hcz10_0 : w4.cell? ⟨gb459, 0, none⟩ = some (.slice A0_0 l0_0.length c0_0) := (blk_cell BK459.out 0).trans rfl
        have hcz10_1 : w4.cell? ⟨gb459, 1, none⟩ = some (.int .i64 a0_1) := (blk_cell BK459.out 1).trans rfl
        have hcz10_2 : w4.cell? ⟨gb459, 2, none⟩ = some (.int .i64 a0_2) := (blk_cell BK459.out 2).trans rfl
        have hcz10_3 : w4.cell? ⟨gb459, 3, none⟩ = some (.slice A0_3 l0_3.length c0_3) := (blk_cell BK459.out 3).trans rfl
        have hcz10_4 : w4.cell? ⟨gb459, 4, none⟩ = some (.slice A0_4 l0_4.length c0_4) := (blk_cell BK459.out 4).trans rfl
        have hfz10_0 := blk_frozen BK459.out 0
        have hfz10_1 := blk_frozen BK459.out 1
        have hfz10_2 := blk_frozen BK459.out 2
        have hfz10_3 := blk_frozen BK459.out 3
        have hfz10_4 := blk_frozen BK459.out 4
        go_wp2_with (first | (go_at_call 7; (with_reducible refine (plic_Check.calls _ _ l0_0 a0_1 a0_2 _ _ l0_3 _ _ l0_4 true _ ?side1 ?side2 ?side3 ?side4 ?side5 ?side6 A5.out).mono ?_); (case side1 => repeat (first | exact (Kd.C_below HR0_0.out HB.out) | (with_reducible refine Kd.C_alloc ?_ _) | (with_reducible refine Kd.C_drewN ?_ _) | (with_reducible refine Kd.C_drew ?_))); (case side2 => exact HC0_0.out); (case side3 => repeat (first | exact (Kd.C_below HR0_3.out HB.out) | (with_reducible refine Kd.C_alloc ?_ _) | (with_reducible refine Kd.C_drewN ?_ _) | (with_reducible refine Kd.C_drew ?_))); (case side4 => exact HC0_3.out); (case side5 => repeat (first | exact (Kd.C_below HR0_4.out HB.out) | (with_reducible refine Kd.C_alloc ?_ _) | (with_reducible refine Kd.C_drewN ?_ _) | (with_reducible refine Kd.C_drew ?_))); (case side6 => exact HC0_4.out); rintro e w11 ⟨rfl, hb⟩; have n0_ := Aside0.mk (blk_below (g := gb459) (o := .cells #[.slice A0_0 l0_0.length c0_0, .int .i64 a0_1, .int .i64 a0_2, .slice A0_3 l0_3.length c0_3, .slice A0_4 l0_4.length c0_4] 24 (0, 0)) (by (with_reducible repeat (first | refine blk_drewN ?_ _ | refine blk_drew ?_ | refine blk_alloc ?_ _)); exact BK459.out) hb); have n1_ := Aside0.mk (below_step (by repeat (first | (with_reducible first | exact HB.out | apply below_alloc | apply pw_below_drewN | apply below_drew1 | refine below_set ?_ GE459.out) | exact HB.out)) hb); clear BK459; clear HB; have BK459 := n0_; have HB := n1_; clear n0_ n1_; (try clear hb); (try clear hb2); (try clear hk); (try clear hi)))
        repeat (go_quiet (first | (go_at_call 7; (with_reducible refine (plic_Check.calls _ _ l0_0 a0_1 a0_2 _ _ l0_3 _ _ l0_4 true _ ?side1 ?side2 ?side3 ?side4 ?side5 ?side6 A5.out).mono ?_); (case side1 => repeat (first | exact (Kd.C_below HR0_0.out HB.out) | (with_reducible refine Kd.C_alloc ?_ _) | (with_reducible refine Kd.C_drewN ?_ _) | (with_reducible refine Kd.C_drew ?_))); (case side2 => exact HC0_0.out); (case side3 => repeat (first | exact (Kd.C_below HR0_3.out HB.out) | (with_reducible refine Kd.C_alloc ?_ _) | (with_reducible refine Kd.C_drewN ?_ _) | (with_reducible refine Kd.C_drew ?_))); (case side4 => exact HC0_3.out); (case side5 => repeat (first | exact (Kd.C_below HR0_4.out HB.out) | (with_reducible refine Kd.C_alloc ?_ _) | (with_reducible refine Kd.C_drewN ?_ _) | (with_reducible refine Kd.C_drew ?_))); (case side6 => exact HC0_4.out); rintro e w11 ⟨rfl, hb⟩; have n0_ := Aside0.mk (blk_below (g := gb459) (o := .cells #[.slice A0_0 l0_0.length c0_0, .int .i64 a0_1, .int .i64 a0_2, .slice A0_3 l0_3.length c0_3, .slice A0_4 l0_4.length c0_4] 24 (0, 0)) (by (with_reducible repeat (first | refine blk_drewN ?_ _ | refine blk_drew ?_ | refine blk_alloc ?_ _)); exact BK459.out) hb); have n1_ := Aside0.mk (below_step (by repeat (first | (with_reducible first | exact HB.out | apply below_alloc | apply pw_below_drewN | apply below_drew1 | refine below_set ?_ GE459.out) | exact HB.out)) hb); clear BK459; clear HB; have BK459 := n0_; have HB := n1_; clear n0_ n1_; (try clear hb); (try clear hb2); (try clear hk); (try clear hi))); try go_wp2_with (first | (go_at_call 7; (with_reducible refine (plic_Check.calls _ _ l0_0 a0_1 a0_2 _ _ l0_3 _ _ l0_4 true _ ?side1 ?side2 ?side3 ?side4 ?side5 ?side6 A5.out).mono ?_); (case side1 => repeat (first | exact (Kd.C_below HR0_0.out HB.out) | (with_reducible refine Kd.C_alloc ?_ _) | (with_reducible refine Kd.C_drewN ?_ _) | (with_reducible refine Kd.C_drew ?_))); (case side2 => exact HC0_0.out); (case side3 => repeat (first | exact (Kd.C_below HR0_3.out HB.out) | (with_reducible refine Kd.C_alloc ?_ _) | (with_reducible refine Kd.C_drewN ?_ _) | (with_reducible refine Kd.C_drew ?_))); (case side4 => exact HC0_3.out); (case side5 => repeat (first | exact (Kd.C_below HR0_4.out HB.out) | (with_reducible refine Kd.C_alloc ?_ _) | (with_reducible refine Kd.C_drewN ?_ _) | (with_reducible refine Kd.C_drew ?_))); (case side6 => exact HC0_4.out); rintro e w11 ⟨rfl, hb⟩; have n0_ := Aside0.mk (blk_below (g := gb459) (o := .cells #[.slice A0_0 l0_0.length c0_0, .int .i64 a0_1, .int .i64 a0_2, .slice A0_3 l0_3.length c0_3, .slice A0_4 l0_4.length c0_4] 24 (0, 0)) (by (with_reducible repeat (first | refine blk_drewN ?_ _ | refine blk_drew ?_ | refine blk_alloc ?_ _)); exact BK459.out) hb); have n1_ := Aside0.mk (below_step (by repeat (first | (with_reducible first | exact HB.out | apply below_alloc | apply pw_below_drewN | apply below_drew1 | refine below_set ?_ GE459.out) | exact HB.out)) hb); clear BK459; clear HB; have BK459 := n0_; have HB := n1_; clear n0_ n1_; (try clear hb); (try clear hb2); (try clear hk); (try clear hi))))
        go_meet
        case rel => exact ⟨_, (decide (a1 > 1)), (by first | rfl | (simp; done) | (simp [*]; done)), H', ⟨by first | omega | exact Nat.le_refl _⟩, ⟨by (with_reducible repeat (first | refine blk_drewN ?_ _ | refine blk_drew ?_ | refine blk_alloc ?_ _)); exact BK459.out⟩, ⟨by repeat (first | (with_reducible first | exact HB.out | apply below_alloc | apply pw_below_drewN | apply below_drew1 | refine below_set ?_ GE459.out) | exact HB.out)⟩⟩
    · replace c6 := Bool.eq_false_iff.mpr c6
      subst c6
      have H1 : (drawbridgelaw10_PlicBest.j0 k a1 true l0_0 a0_1 a0_2 l0_3 l0_4) = some r := by rw [if_neg (show ¬ (false = true) by decide)] at H; exact H
      clear H
      have H := H1
      clear H1
      have H' := Aside0.mk H
      clear H
      have hcz12_0 : w4.cell? ⟨gb459, 0, none⟩ = some (.slice A0_0 l0_0.length c0_0) := (blk_cell BK459.out 0).trans rfl
      have hcz12_1 : w4.cell? ⟨gb459, 1, none⟩ = some (.int .i64 a0_1) := (blk_cell BK459.out 1).trans rfl
      have hcz12_2 : w4.cell? ⟨gb459, 2, none⟩ = some (.int .i64 a0_2) := (blk_cell BK459.out 2).trans rfl
      have hcz12_3 : w4.cell? ⟨gb459, 3, none⟩ = some (.slice A0_3 l0_3.length c0_3) := (blk_cell BK459.out 3).trans rfl
      have hcz12_4 : w4.cell? ⟨gb459, 4, none⟩ = some (.slice A0_4 l0_4.length c0_4) := (blk_cell BK459.out 4).trans rfl
      have hfz12_0 := blk_frozen BK459.out 0
      have hfz12_1 := blk_frozen BK459.out 1
      have hfz12_2 := blk_frozen BK459.out 2
      have hfz12_3 := blk_frozen BK459.out 3
      have hfz12_4 := blk_frozen BK459.out 4
      go_wp2_with (first | (go_at_call 7; (with_reducible refine (plic_Check.calls _ _ l0_0 a0_1 a0_2 _ _ l0_3 _ _ l0_4 false _ ?side1 ?side2 ?side3 ?side4 ?side5 ?side6 A5.out).mono ?_); (case side1 => repeat (first | exact (Kd.C_below HR0_0.out HB.out) | (with_reducible refine Kd.C_alloc ?_ _) | (with_reducible refine Kd.C_drewN ?_ _) | (with_reducible refine Kd.C_drew ?_))); (case side2 => exact HC0_0.out); (case side3 => repeat (first | exact (Kd.C_below HR0_3.out HB.out) | (with_reducible refine Kd.C_alloc ?_ _) | (with_reducible refine Kd.C_drewN ?_ _) | (with_reducible refine Kd.C_drew ?_))); (case side4 => exact HC0_3.out); (case side5 => repeat (first | exact (Kd.C_below HR0_4.out HB.out) | (with_reducible refine Kd.C_alloc ?_ _) | (with_reducible refine Kd.C_drewN ?_ _) | (with_reducible refine Kd.C_drew ?_))); (case side6 => exact HC0_4.out); rintro e w13 ⟨rfl, hb⟩; have n0_ := Aside0.mk (blk_below (g := gb459) (o := .cells #[.slice A0_0 l0_0.length c0_0, .int .i64 a0_1, .int .i64 a0_2, .slice A0_3 l0_3.length c0_3, .slice A0_4 l0_4.length c0_4] 24 (0, 0)) (by (with_reducible repeat (first | refine blk_drewN ?_ _ | refine blk_drew ?_ | refine blk_alloc ?_ _)); exact BK459.out) hb); have n1_ := Aside0.mk (below_step (by repeat (first | (with_reducible first | exact HB.out | apply below_alloc | apply pw_below_drewN | apply below_drew1 | refine below_set ?_ GE459.out) | exact HB.out)) hb); clear BK459; clear HB; have BK459 := n0_; have HB := n1_; clear n0_ n1_; (try clear hb); (try clear hb2); (try clear hk); (try clear hi)))
      repeat (go_quiet (first | (go_at_call 7; (with_reducible refine (plic_Check.calls _ _ l0_0 a0_1 a0_2 _ _ l0_3 _ _ l0_4 false _ ?side1 ?side2 ?side3 ?side4 ?side5 ?side6 A5.out).mono ?_); (case side1 => repeat (first | exact (Kd.C_below HR0_0.out HB.out) | (with_reducible refine Kd.C_alloc ?_ _) | (with_reducible refine Kd.C_drewN ?_ _) | (with_reducible refine Kd.C_drew ?_))); (case side2 => exact HC0_0.out); (case side3 => repeat (first | exact (Kd.C_below HR0_3.out HB.out) | (with_reducible refine Kd.C_alloc ?_ _) | (with_reducible refine Kd.C_drewN ?_ _) | (with_reducible refine Kd.C_drew ?_))); (case side4 => exact HC0_3.out); (case side5 => repeat (first | exact (Kd.C_below HR0_4.out HB.out) | (with_reducible refine Kd.C_alloc ?_ _) | (with_reducible refine Kd.C_drewN ?_ _) | (with_reducible refine Kd.C_drew ?_))); (case side6 => exact HC0_4.out); rintro e w13 ⟨rfl, hb⟩; have n0_ := Aside0.mk (blk_below (g := gb459) (o := .cells #[.slice A0_0 l0_0.length c0_0, .int .i64 a0_1, .int .i64 a0_2, .slice A0_3 l0_3.length c0_3, .slice A0_4 l0_4.length c0_4] 24 (0, 0)) (by (with_reducible repeat (first | refine blk_drewN ?_ _ | refine blk_drew ?_ | refine blk_alloc ?_ _)); exact BK459.out) hb); have n1_ := Aside0.mk (below_step (by repeat (first | (with_reducible first | exact HB.out | apply below_alloc | apply pw_below_drewN | apply below_drew1 | refine below_set ?_ GE459.out) | exact HB.out)) hb); clear BK459; clear HB; have BK459 := n0_; have HB := n1_; clear n0_ n1_; (try clear hb); (try clear hb2); (try clear hk); (try clear hi))); try go_wp2_with (first | (go_at_call 7; (with_reducible refine (plic_Check.calls _ _ l0_0 a0_1 a0_2 _ _ l0_3 _ _ l0_4 false _ ?side1 ?side2 ?side3 ?side4 ?side5 ?side6 A5.out).mono ?_); (case side1 => repeat (first | exact (Kd.C_below HR0_0.out HB.out) | (with_reducible refine Kd.C_alloc ?_ _) | (with_reducible refine Kd.C_drewN ?_ _) | (with_reducible refine Kd.C_drew ?_))); (case side2 => exact HC0_0.out); (case side3 => repeat (first | exact (Kd.C_below HR0_3.out HB.out) | (with_reducible refine Kd.C_alloc ?_ _) | (with_reducible refine Kd.C_drewN ?_ _) | (with_reducible refine Kd.C_drew ?_))); (case side4 => exact HC0_3.out); (case side5 => repeat (first | exact (Kd.C_below HR0_4.out HB.out) | (with_reducible refine Kd.C_alloc ?_ _) | (with_reducible refine Kd.C_drewN ?_ _) | (with_reducible refine Kd.C_drew ?_))); (case side6 => exact HC0_4.out); rintro e w13 ⟨rfl, hb⟩; have n0_ := Aside0.mk (blk_below (g := gb459) (o := .cells #[.slice A0_0 l0_0.length c0_0, .int .i64 a0_1, .int .i64 a0_2, .slice A0_3 l0_3.length c0_3, .slice A0_4 l0_4.length c0_4] 24 (0, 0)) (by (with_reducible repeat (first | refine blk_drewN ?_ _ | refine blk_drew ?_ | refine blk_alloc ?_ _)); exact BK459.out) hb); have n1_ := Aside0.mk (below_step (by repeat (first | (with_reducible first | exact HB.out | apply below_alloc | apply pw_below_drewN | apply below_drew1 | refine below_set ?_ GE459.out) | exact HB.out)) hb); clear BK459; clear HB; have BK459 := n0_; have HB := n1_; clear n0_ n1_; (try clear hb); (try clear hb2); (try clear hk); (try clear hi))))
      go_meet
      case rel => exact ⟨_, (true), (by first | rfl | (simp; done) | (simp [*]; done)), H', ⟨by first | omega | exact Nat.le_refl _⟩, ⟨by (with_reducible repeat (first | refine blk_drewN ?_ _ | refine blk_drew ?_ | refine blk_alloc ?_ _)); exact BK459.out⟩, ⟨by repeat (first | (with_reducible first | exact HB.out | apply below_alloc | apply pw_below_drewN | apply below_drew1 | refine below_set ?_ GE459.out) | exact HB.out)⟩⟩
  case rest =>
    clear HC3
    try clear p2
    try clear c6
    try clear c7
    try clear c7b0
    try clear hcz10_0
    try clear hcz10_1
    try clear hcz10_2
    try clear hcz10_3
    try clear hcz10_4
    try clear hcz12_0
    try clear hcz12_1
    try clear hcz12_2
    try clear hcz12_3
    try clear hcz12_4
    try clear hcz8_0
    try clear hcz8_1
    try clear hcz8_2
    try clear hcz8_3
    try clear hcz8_4
    try clear hfz10_0
    try clear hfz10_1
    try clear hfz10_2
    try clear hfz10_3
    try clear hfz10_4
    try clear hfz12_0
    try clear hfz12_1
    try clear hfz12_2
    try clear hfz12_3
    try clear hfz12_4
    try clear hfz8_0
    try clear hfz8_1
    try clear hfz8_2
    try clear hfz8_3
    try clear hfz8_4
    obtain ⟨kq, x18_2, rfl, HA, HJ2, BK459, HB⟩ := hcut
    cases kq with
    | zero => exact absurd HA.out (by simp [drawbridgelaw10_PlicBest.j0])
    | succ kj2 =>
      have H := HA.out
      clear HA
      simp only [drawbridgelaw10_PlicBest.j0] at H
      by_cases c14 : x18_2 = true
      · subst c14
        have H1 : ((plic_Best.f kj2 l0_0 a0_1 a0_2 l0_3 l0_4 a1).bind fun t461 => (if t461 = 0 then ((drawbridgelaw10_heads.f).bind fun t462 => (some t462)) else (some false))) = some r := by rw [if_pos rfl] at H; exact H
        clear H
        have H := H1
        clear H1
        replace H := Option.bind_eq_some_iff.mp H
        obtain ⟨t461, A150, H⟩ := H
        replace H : (if t461 = 0 then ((drawbridgelaw10_heads.f).bind fun t462 => (some t462)) else (some false)) = some r := H
        have A15 := Aside0.mk A150
        clear A150
        by_cases c16 : t461 = 0
        · rw [if_pos c16] at H
          have c16b0 : (t461 == 0) = true := beq_iff_eq.mpr c16
          have c16b1 : (t461 != 0) = false := bne_eq_false_iff_eq.mpr c16
          clear c16
          replace H := Option.bind_eq_some_iff.mp H
          obtain ⟨t462, A170, H⟩ := H
          replace H : (some t462) = some r := H
          have A17 := Aside0.mk A170
          clear A170
          clear hT_
          obtain rfl := Option.some.inj H
          have hcz18_0 : wc.cell? ⟨gb459, 0, none⟩ = some (.slice A0_0 l0_0.length c0_0) := (blk_cell BK459.out 0).trans rfl
          have hcz18_1 : wc.cell? ⟨gb459, 1, none⟩ = some (.int .i64 a0_1) := (blk_cell BK459.out 1).trans rfl
          have hcz18_2 : wc.cell? ⟨gb459, 2, none⟩ = some (.int .i64 a0_2) := (blk_cell BK459.out 2).trans rfl
          have hcz18_3 : wc.cell? ⟨gb459, 3, none⟩ = some (.slice A0_3 l0_3.length c0_3) := (blk_cell BK459.out 3).trans rfl
          have hcz18_4 : wc.cell? ⟨gb459, 4, none⟩ = some (.slice A0_4 l0_4.length c0_4) := (blk_cell BK459.out 4).trans rfl
          have hfz18_0 := blk_frozen BK459.out 0
          have hfz18_1 := blk_frozen BK459.out 1
          have hfz18_2 := blk_frozen BK459.out 2
          have hfz18_3 := blk_frozen BK459.out 3
          have hfz18_4 := blk_frozen BK459.out 4
          go_wp2_with (first | (go_at_call 16; (with_reducible refine (plic_Best.calls kj2 _ _ l0_0 a0_1 a0_2 _ _ l0_3 _ _ l0_4 a1 t461 _ ?side1 ?side2 ?side3 ?side4 ?side5 ?side6 A15.out).mono ?_); (case side1 => repeat (first | exact (Kd.C_below HR0_0.out HB.out) | (with_reducible refine Kd.C_alloc ?_ _) | (with_reducible refine Kd.C_drewN ?_ _) | (with_reducible refine Kd.C_drew ?_))); (case side2 => exact HC0_0.out); (case side3 => repeat (first | exact (Kd.C_below HR0_3.out HB.out) | (with_reducible refine Kd.C_alloc ?_ _) | (with_reducible refine Kd.C_drewN ?_ _) | (with_reducible refine Kd.C_drew ?_))); (case side4 => exact HC0_3.out); (case side5 => repeat (first | exact (Kd.C_below HR0_4.out HB.out) | (with_reducible refine Kd.C_alloc ?_ _) | (with_reducible refine Kd.C_drewN ?_ _) | (with_reducible refine Kd.C_drew ?_))); (case side6 => exact HC0_4.out); rintro e w19 ⟨rfl, hb⟩; have n0_ := Aside0.mk (blk_below (g := gb459) (o := .cells #[.slice A0_0 l0_0.length c0_0, .int .i64 a0_1, .int .i64 a0_2, .slice A0_3 l0_3.length c0_3, .slice A0_4 l0_4.length c0_4] 24 (0, 0)) (by (with_reducible repeat (first | refine blk_drewN ?_ _ | refine blk_drew ?_ | refine blk_alloc ?_ _)); exact BK459.out) hb); have n1_ := Aside0.mk (below_step (by repeat (first | (with_reducible first | exact HB.out | apply below_alloc | apply pw_below_drewN | apply below_drew1 | refine below_set ?_ GE459.out) | exact HB.out)) hb); clear BK459; clear HB; have BK459 := n0_; have HB := n1_; clear n0_ n1_; (try clear hb); (try clear hb2); (try clear hk); (try clear hi)) | (go_at_call 10; (with_reducible refine (drawbridgelaw10_heads.calls  t462 _ A17.out).mono ?_); rintro e w20 ⟨rfl, hb⟩; have n0_ := Aside0.mk (blk_below (g := gb459) (o := .cells #[.slice A0_0 l0_0.length c0_0, .int .i64 a0_1, .int .i64 a0_2, .slice A0_3 l0_3.length c0_3, .slice A0_4 l0_4.length c0_4] 24 (0, 0)) (by (with_reducible repeat (first | refine blk_drewN ?_ _ | refine blk_drew ?_ | refine blk_alloc ?_ _)); exact BK459.out) hb); have n1_ := Aside0.mk (below_step (by repeat (first | (with_reducible first | exact HB.out | apply below_alloc | apply pw_below_drewN | apply below_drew1 | refine below_set ?_ GE459.out) | exact HB.out)) hb); clear BK459; clear HB; have BK459 := n0_; have HB := n1_; clear n0_ n1_; (try clear hb); (try clear hb2); (try clear hk); (try clear hi)))
          repeat (go_quiet (first | (go_at_call 16; (with_reducible refine (plic_Best.calls kj2 _ _ l0_0 a0_1 a0_2 _ _ l0_3 _ _ l0_4 a1 t461 _ ?side1 ?side2 ?side3 ?side4 ?side5 ?side6 A15.out).mono ?_); (case side1 => repeat (first | exact (Kd.C_below HR0_0.out HB.out) | (with_reducible refine Kd.C_alloc ?_ _) | (with_reducible refine Kd.C_drewN ?_ _) | (with_reducible refine Kd.C_drew ?_))); (case side2 => exact HC0_0.out); (case side3 => repeat (first | exact (Kd.C_below HR0_3.out HB.out) | (with_reducible refine Kd.C_alloc ?_ _) | (with_reducible refine Kd.C_drewN ?_ _) | (with_reducible refine Kd.C_drew ?_))); (case side4 => exact HC0_3.out); (case side5 => repeat (first | exact (Kd.C_below HR0_4.out HB.out) | (with_reducible refine Kd.C_alloc ?_ _) | (with_reducible refine Kd.C_drewN ?_ _) | (with_reducible refine Kd.C_drew ?_))); (case side6 => exact HC0_4.out); rintro e w19 ⟨rfl, hb⟩; have n0_ := Aside0.mk (blk_below (g := gb459) (o := .cells #[.slice A0_0 l0_0.length c0_0, .int .i64 a0_1, .int .i64 a0_2, .slice A0_3 l0_3.length c0_3, .slice A0_4 l0_4.length c0_4] 24 (0, 0)) (by (with_reducible repeat (first | refine blk_drewN ?_ _ | refine blk_drew ?_ | refine blk_alloc ?_ _)); exact BK459.out) hb); have n1_ := Aside0.mk (below_step (by repeat (first | (with_reducible first | exact HB.out | apply below_alloc | apply pw_below_drewN | apply below_drew1 | refine below_set ?_ GE459.out) | exact HB.out)) hb); clear BK459; clear HB; have BK459 := n0_; have HB := n1_; clear n0_ n1_; (try clear hb); (try clear hb2); (try clear hk); (try clear hi)) | (go_at_call 10; (with_reducible refine (drawbridgelaw10_heads.calls  t462 _ A17.out).mono ?_); rintro e w20 ⟨rfl, hb⟩; have n0_ := Aside0.mk (blk_below (g := gb459) (o := .cells #[.slice A0_0 l0_0.length c0_0, .int .i64 a0_1, .int .i64 a0_2, .slice A0_3 l0_3.length c0_3, .slice A0_4 l0_4.length c0_4] 24 (0, 0)) (by (with_reducible repeat (first | refine blk_drewN ?_ _ | refine blk_drew ?_ | refine blk_alloc ?_ _)); exact BK459.out) hb); have n1_ := Aside0.mk (below_step (by repeat (first | (with_reducible first | exact HB.out | apply below_alloc | apply pw_below_drewN | apply below_drew1 | refine below_set ?_ GE459.out) | exact HB.out)) hb); clear BK459; clear HB; have BK459 := n0_; have HB := n1_; clear n0_ n1_; (try clear hb); (try clear hb2); (try clear hk); (try clear hi))); try go_wp2_with (first | (go_at_call 16; (with_reducible refine (plic_Best.calls kj2 _ _ l0_0 a0_1 a0_2 _ _ l0_3 _ _ l0_4 a1 t461 _ ?side1 ?side2 ?side3 ?side4 ?side5 ?side6 A15.out).mono ?_); (case side1 => repeat (first | exact (Kd.C_below HR0_0.out HB.out) | (with_reducible refine Kd.C_alloc ?_ _) | (with_reducible refine Kd.C_drewN ?_ _) | (with_reducible refine Kd.C_drew ?_))); (case side2 => exact HC0_0.out); (case side3 => repeat (first | exact (Kd.C_below HR0_3.out HB.out) | (with_reducible refine Kd.C_alloc ?_ _) | (with_reducible refine Kd.C_drewN ?_ _) | (with_reducible refine Kd.C_drew ?_))); (case side4 => exact HC0_3.out); (case side5 => repeat (first | exact (Kd.C_below HR0_4.out HB.out) | (with_reducible refine Kd.C_alloc ?_ _) | (with_reducible refine Kd.C_drewN ?_ _) | (with_reducible refine Kd.C_drew ?_))); (case side6 => exact HC0_4.out); rintro e w19 ⟨rfl, hb⟩; have n0_ := Aside0.mk (blk_below (g := gb459) (o := .cells #[.slice A0_0 l0_0.length c0_0, .int .i64 a0_1, .int .i64 a0_2, .slice A0_3 l0_3.length c0_3, .slice A0_4 l0_4.length c0_4] 24 (0, 0)) (by (with_reducible repeat (first | refine blk_drewN ?_ _ | refine blk_drew ?_ | refine blk_alloc ?_ _)); exact BK459.out) hb); have n1_ := Aside0.mk (below_step (by repeat (first | (with_reducible first | exact HB.out | apply below_alloc | apply pw_below_drewN | apply below_drew1 | refine below_set ?_ GE459.out) | exact HB.out)) hb); clear BK459; clear HB; have BK459 := n0_; have HB := n1_; clear n0_ n1_; (try clear hb); (try clear hb2); (try clear hk); (try clear hi)) | (go_at_call 10; (with_reducible refine (drawbridgelaw10_heads.calls  t462 _ A17.out).mono ?_); rintro e w20 ⟨rfl, hb⟩; have n0_ := Aside0.mk (blk_below (g := gb459) (o := .cells #[.slice A0_0 l0_0.length c0_0, .int .i64 a0_1, .int .i64 a0_2, .slice A0_3 l0_3.length c0_3, .slice A0_4 l0_4.length c0_4] 24 (0, 0)) (by (with_reducible repeat (first | refine blk_drewN ?_ _ | refine blk_drew ?_ | refine blk_alloc ?_ _)); exact BK459.out) hb); have n1_ := Aside0.mk (below_step (by repeat (first | (with_reducible first | exact HB.out | apply below_alloc | apply pw_below_drewN | apply below_drew1 | refine below_set ?_ GE459.out) | exact HB.out)) hb); clear BK459; clear HB; have BK459 := n0_; have HB := n1_; clear n0_ n1_; (try clear hb); (try clear hb2); (try clear hk); (try clear hi))))
          go_ret
          exact ⟨by first | rfl | (simp [errW_none, errW_some] <;> rfl) | (simp [*, errW_none, errW_some] <;> rfl), by repeat (first | (with_reducible first | exact HB.out | apply below_alloc | apply pw_below_drewN | apply below_drew1 | refine below_set ?_ GE459.out) | exact HB.out)⟩
        · rw [if_neg c16] at H
          have c16b0 : (t461 == 0) = false := beq_eq_false_iff_ne.mpr c16
          have c16b1 : (t461 != 0) = true := bne_iff_ne.mpr c16
          exact absurd ((Option.some.inj (show (some false) = some r from H)).trans hT_) (by decide)
      · replace c14 := Bool.eq_false_iff.mpr c14
        subst c14
        have H1 : ((plic_Best.f kj2 l0_0 a0_1 a0_2 l0_3 l0_4 a1).bind fun t463 => (drawbridgelaw10_PlicBest.l0 kj2 a1 t463 1 l0_0 a0_1 a0_2 l0_3 l0_4)) = some r := by rw [if_neg (show ¬ (false = true) by decide)] at H; exact H
        clear H
        have H := H1
        clear H1
        replace H := Option.bind_eq_some_iff.mp H
        obtain ⟨t463, A230, H⟩ := H
        replace H : (drawbridgelaw10_PlicBest.l0 kj2 a1 t463 1 l0_0 a0_1 a0_2 l0_3 l0_4) = some r := H
        have A23 := Aside0.mk A230
        clear A230
        have H' := Aside0.mk H
        clear H
        have hcz24_0 : wc.cell? ⟨gb459, 0, none⟩ = some (.slice A0_0 l0_0.length c0_0) := (blk_cell BK459.out 0).trans rfl
        have hcz24_1 : wc.cell? ⟨gb459, 1, none⟩ = some (.int .i64 a0_1) := (blk_cell BK459.out 1).trans rfl
        have hcz24_2 : wc.cell? ⟨gb459, 2, none⟩ = some (.int .i64 a0_2) := (blk_cell BK459.out 2).trans rfl
        have hcz24_3 : wc.cell? ⟨gb459, 3, none⟩ = some (.slice A0_3 l0_3.length c0_3) := (blk_cell BK459.out 3).trans rfl
        have hcz24_4 : wc.cell? ⟨gb459, 4, none⟩ = some (.slice A0_4 l0_4.length c0_4) := (blk_cell BK459.out 4).trans rfl
        have hfz24_0 := blk_frozen BK459.out 0
        have hfz24_1 := blk_frozen BK459.out 1
        have hfz24_2 := blk_frozen BK459.out 2
        have hfz24_3 := blk_frozen BK459.out 3
        have hfz24_4 := blk_frozen BK459.out 4
        go_wp2_with (first | (go_at_call 16; (with_reducible refine (plic_Best.calls kj2 _ _ l0_0 a0_1 a0_2 _ _ l0_3 _ _ l0_4 a1 t463 _ ?side1 ?side2 ?side3 ?side4 ?side5 ?side6 A23.out).mono ?_); (case side1 => repeat (first | exact (Kd.C_below HR0_0.out HB.out) | (with_reducible refine Kd.C_alloc ?_ _) | (with_reducible refine Kd.C_drewN ?_ _) | (with_reducible refine Kd.C_drew ?_))); (case side2 => exact HC0_0.out); (case side3 => repeat (first | exact (Kd.C_below HR0_3.out HB.out) | (with_reducible refine Kd.C_alloc ?_ _) | (with_reducible refine Kd.C_drewN ?_ _) | (with_reducible refine Kd.C_drew ?_))); (case side4 => exact HC0_3.out); (case side5 => repeat (first | exact (Kd.C_below HR0_4.out HB.out) | (with_reducible refine Kd.C_alloc ?_ _) | (with_reducible refine Kd.C_drewN ?_ _) | (with_reducible refine Kd.C_drew ?_))); (case side6 => exact HC0_4.out); rintro e w25 ⟨rfl, hb⟩; have n0_ := Aside0.mk (blk_below (g := gb459) (o := .cells #[.slice A0_0 l0_0.length c0_0, .int .i64 a0_1, .int .i64 a0_2, .slice A0_3 l0_3.length c0_3, .slice A0_4 l0_4.length c0_4] 24 (0, 0)) (by (with_reducible repeat (first | refine blk_drewN ?_ _ | refine blk_drew ?_ | refine blk_alloc ?_ _)); exact BK459.out) hb); have n1_ := Aside0.mk (below_step (by repeat (first | (with_reducible first | exact HB.out | apply below_alloc | apply pw_below_drewN | apply below_drew1 | refine below_set ?_ GE459.out) | exact HB.out)) hb); clear BK459; clear HB; have BK459 := n0_; have HB := n1_; clear n0_ n1_; (try clear hb); (try clear hb2); (try clear hk); (try clear hi)))
        repeat (go_quiet (first | (go_at_call 16; (with_reducible refine (plic_Best.calls kj2 _ _ l0_0 a0_1 a0_2 _ _ l0_3 _ _ l0_4 a1 t463 _ ?side1 ?side2 ?side3 ?side4 ?side5 ?side6 A23.out).mono ?_); (case side1 => repeat (first | exact (Kd.C_below HR0_0.out HB.out) | (with_reducible refine Kd.C_alloc ?_ _) | (with_reducible refine Kd.C_drewN ?_ _) | (with_reducible refine Kd.C_drew ?_))); (case side2 => exact HC0_0.out); (case side3 => repeat (first | exact (Kd.C_below HR0_3.out HB.out) | (with_reducible refine Kd.C_alloc ?_ _) | (with_reducible refine Kd.C_drewN ?_ _) | (with_reducible refine Kd.C_drew ?_))); (case side4 => exact HC0_3.out); (case side5 => repeat (first | exact (Kd.C_below HR0_4.out HB.out) | (with_reducible refine Kd.C_alloc ?_ _) | (with_reducible refine Kd.C_drewN ?_ _) | (with_reducible refine Kd.C_drew ?_))); (case side6 => exact HC0_4.out); rintro e w25 ⟨rfl, hb⟩; have n0_ := Aside0.mk (blk_below (g := gb459) (o := .cells #[.slice A0_0 l0_0.length c0_0, .int .i64 a0_1, .int .i64 a0_2, .slice A0_3 l0_3.length c0_3, .slice A0_4 l0_4.length c0_4] 24 (0, 0)) (by (with_reducible repeat (first | refine blk_drewN ?_ _ | refine blk_drew ?_ | refine blk_alloc ?_ _)); exact BK459.out) hb); have n1_ := Aside0.mk (below_step (by repeat (first | (with_reducible first | exact HB.out | apply below_alloc | apply pw_below_drewN | apply below_drew1 | refine below_set ?_ GE459.out) | exact HB.out)) hb); clear BK459; clear HB; have BK459 := n0_; have HB := n1_; clear n0_ n1_; (try clear hb); (try clear hb2); (try clear hk); (try clear hi))); try go_wp2_with (first | (go_at_call 16; (with_reducible refine (plic_Best.calls kj2 _ _ l0_0 a0_1 a0_2 _ _ l0_3 _ _ l0_4 a1 t463 _ ?side1 ?side2 ?side3 ?side4 ?side5 ?side6 A23.out).mono ?_); (case side1 => repeat (first | exact (Kd.C_below HR0_0.out HB.out) | (with_reducible refine Kd.C_alloc ?_ _) | (with_reducible refine Kd.C_drewN ?_ _) | (with_reducible refine Kd.C_drew ?_))); (case side2 => exact HC0_0.out); (case side3 => repeat (first | exact (Kd.C_below HR0_3.out HB.out) | (with_reducible refine Kd.C_alloc ?_ _) | (with_reducible refine Kd.C_drewN ?_ _) | (with_reducible refine Kd.C_drew ?_))); (case side4 => exact HC0_3.out); (case side5 => repeat (first | exact (Kd.C_below HR0_4.out HB.out) | (with_reducible refine Kd.C_alloc ?_ _) | (with_reducible refine Kd.C_drewN ?_ _) | (with_reducible refine Kd.C_drew ?_))); (case side6 => exact HC0_4.out); rintro e w25 ⟨rfl, hb⟩; have n0_ := Aside0.mk (blk_below (g := gb459) (o := .cells #[.slice A0_0 l0_0.length c0_0, .int .i64 a0_1, .int .i64 a0_2, .slice A0_3 l0_3.length c0_3, .slice A0_4 l0_4.length c0_4] 24 (0, 0)) (by (with_reducible repeat (first | refine blk_drewN ?_ _ | refine blk_drew ?_ | refine blk_alloc ?_ _)); exact BK459.out) hb); have n1_ := Aside0.mk (below_step (by repeat (first | (with_reducible first | exact HB.out | apply below_alloc | apply pw_below_drewN | apply below_drew1 | refine below_set ?_ GE459.out) | exact HB.out)) hb); clear BK459; clear HB; have BK459 := n0_; have HB := n1_; clear n0_ n1_; (try clear hb); (try clear hb2); (try clear hk); (try clear hi))))
        go_loopg [6] kj2 (fun kq v6 w' => ∃ (x6_2 : Int), v6 = .int .i64 x6_2 ∧ Aside0 (drawbridgelaw10_PlicBest.l0 kq a1 t463 x6_2 l0_0 a0_1 a0_2 l0_3 l0_4 = some r) ∧ Aside0 (kq ≤ kj2) ∧ Aside0 (w'.heap[gb459]? = some (.cells #[(.slice A0_0 l0_0.length c0_0), .int .i64 a0_1, .int .i64 a0_2, (.slice A0_3 l0_3.length c0_3), (.slice A0_4 l0_4.length c0_4)] 24 (0, 0))) ∧ Aside0 (Below w.heap.size w w'))
        case atStart => exact ⟨(1), (by first | rfl | (simp; done) | (simp [*]; done)), H', ⟨Nat.le_refl _⟩, ⟨by (with_reducible repeat (first | refine blk_drewN ?_ _ | refine blk_drew ?_ | refine blk_alloc ?_ _)); exact BK459.out⟩, ⟨by repeat (first | (with_reducible first | exact HB.out | apply below_alloc | apply pw_below_drewN | apply below_drew1 | refine below_set ?_ GE459.out) | exact HB.out)⟩⟩
        case round =>
          clear H'
          try clear c1
          try clear p2
          try clear c6
          try clear c7
          try clear c7b0
          try clear c14
          try clear c16
          try clear c16b0
          try clear c16b1
          try clear hcz10_0
          try clear hcz10_1
          try clear hcz10_2
          try clear hcz10_3
          try clear hcz10_4
          try clear hcz12_0
          try clear hcz12_1
          try clear hcz12_2
          try clear hcz12_3
          try clear hcz12_4
          try clear hcz18_0
          try clear hcz18_1
          try clear hcz18_2
          try clear hcz18_3
          try clear hcz18_4
          try clear hcz21_0
          try clear hcz21_1
          try clear hcz21_2
          try clear hcz21_3
          try clear hcz21_4
          try clear hcz24_0
          try clear hcz24_1
          try clear hcz24_2
          try clear hcz24_3
          try clear hcz24_4
          try clear hcz8_0
          try clear hcz8_1
          try clear hcz8_2
          try clear hcz8_3
          try clear hcz8_4
          try clear hfz10_0
          try clear hfz10_1
          try clear hfz10_2
          try clear hfz10_3
          try clear hfz10_4
          try clear hfz12_0
          try clear hfz12_1
          try clear hfz12_2
          try clear hfz12_3
          try clear hfz12_4
          try clear hfz18_0
          try clear hfz18_1
          try clear hfz18_2
          try clear hfz18_3
          try clear hfz18_4
          try clear hfz21_0
          try clear hfz21_1
          try clear hfz21_2
          try clear hfz21_3
          try clear hfz21_4
          try clear hfz24_0
          try clear hfz24_1
          try clear hfz24_2
          try clear hfz24_3
          try clear hfz24_4
          try clear hfz8_0
          try clear hfz8_1
          try clear hfz8_2
          try clear hfz8_3
          try clear hfz8_4
          try clear p2
          obtain ⟨x6_2, rfl, HA, HK2, BK459, HB⟩ := hrel
          cases gk with
          | zero => exact absurd HA.out (by simp [drawbridgelaw10_PlicBest.l0])
          | succ k2 =>
            have H := HA.out
            clear HA
            simp only [drawbridgelaw10_PlicBest.l0] at H
            by_cases c26 : x6_2 ≤ 2
            · rw [if_pos c26] at H
              have c26b0 : decide (x6_2 ≤ 2) = true := decide_eq_true c26
              clear c26
              by_cases c27 : 0 ≤ a1
              · rw [if_pos c27] at H
                have c27b0 : decide (0 ≤ a1) = true := decide_eq_true c27
                clear c27
                by_cases c28 : a1 < (l0_3.length : Int)
                · rw [if_pos c28] at H
                  have c28b0 : decide (a1 < (l0_3.length : Int)) = true := decide_eq_true c28
                  clear c28
                  obtain ⟨ji29, hji29⟩ : ∃ j_ : Int, (IntKind.u64.wrap (x6_2)) = j_ := ⟨_, rfl⟩
                  replace H : (if 0 ≤ (ji29) then (if (Go.bits .and .i64 (Go.bits .and .i64 a0_1 (rd l0_3 a1)) (shl .i64 1 (ji29))) = 0 then (if t463 = x6_2 then (some false) else (drawbridgelaw10_PlicBest.l0 k2 a1 t463 (wrap64 (x6_2 + 1)) l0_0 a0_1 a0_2 l0_3 l0_4)) else (if 0 ≤ x6_2 then (if x6_2 < (l0_0.length : Int) then (if a1 < (l0_4.length : Int) then (if t463 = x6_2 then (if ((rd l0_0 x6_2) > (rd l0_4 a1)) then (if (rd l0_0 x6_2) > (rd l0_4 a1) then (if t463 = 0 then (some false) else (if 0 ≤ t463 then (if t463 < (l0_0.length : Int) then (if (rd l0_0 t463) < (rd l0_0 x6_2) then (some false) else (if (rd l0_0 t463) = (rd l0_0 x6_2) then (if t463 > x6_2 then (some false) else (drawbridgelaw10_PlicBest.l0 k2 a1 t463 (wrap64 (x6_2 + 1)) l0_0 a0_1 a0_2 l0_3 l0_4)) else (drawbridgelaw10_PlicBest.l0 k2 a1 t463 (wrap64 (x6_2 + 1)) l0_0 a0_1 a0_2 l0_3 l0_4))) else (none)) else (none))) else (drawbridgelaw10_PlicBest.l0 k2 a1 t463 (wrap64 (x6_2 + 1)) l0_0 a0_1 a0_2 l0_3 l0_4)) else (some false)) else (if (rd l0_0 x6_2) > (rd l0_4 a1) then (if t463 = 0 then (some false) else (if 0 ≤ t463 then (if t463 < (l0_0.length : Int) then (if (rd l0_0 t463) < (rd l0_0 x6_2) then (some false) else (if (rd l0_0 t463) = (rd l0_0 x6_2) then (if t463 > x6_2 then (some false) else (drawbridgelaw10_PlicBest.l0 k2 a1 t463 (wrap64 (x6_2 + 1)) l0_0 a0_1 a0_2 l0_3 l0_4)) else (drawbridgelaw10_PlicBest.l0 k2 a1 t463 (wrap64 (x6_2 + 1)) l0_0 a0_1 a0_2 l0_3 l0_4))) else (none)) else (none))) else (drawbridgelaw10_PlicBest.l0 k2 a1 t463 (wrap64 (x6_2 + 1)) l0_0 a0_1 a0_2 l0_3 l0_4))) else (none)) else (none)) else (none))) else (none)) = some r := by first | (rw [hji29] at H; exact H) | (simp only [hji29] at H ⊢; exact H)
                  by_cases c30 : 0 ≤ (ji29)
                  · rw [if_pos c30] at H
                    have c30b0 := eq_true c30
                    have c30b1 : decide (0 ≤ (ji29)) = true := decide_eq_true c30
                    clear c30
                    obtain ⟨ji31, hji31⟩ : ∃ j_ : Int, (shl .i64 1 (ji29)) = j_ := ⟨_, rfl⟩
                    replace H : (if (Go.bits .and .i64 (Go.bits .and .i64 a0_1 (rd l0_3 a1)) (ji31)) = 0 then (if t463 = x6_2 then (some false) else (drawbridgelaw10_PlicBest.l0 k2 a1 t463 (wrap64 (x6_2 + 1)) l0_0 a0_1 a0_2 l0_3 l0_4)) else (if 0 ≤ x6_2 then (if x6_2 < (l0_0.length : Int) then (if a1 < (l0_4.length : Int) then (if t463 = x6_2 then (if ((rd l0_0 x6_2) > (rd l0_4 a1)) then (if (rd l0_0 x6_2) > (rd l0_4 a1) then (if t463 = 0 then (some false) else (if 0 ≤ t463 then (if t463 < (l0_0.length : Int) then (if (rd l0_0 t463) < (rd l0_0 x6_2) then (some false) else (if (rd l0_0 t463) = (rd l0_0 x6_2) then (if t463 > x6_2 then (some false) else (drawbridgelaw10_PlicBest.l0 k2 a1 t463 (wrap64 (x6_2 + 1)) l0_0 a0_1 a0_2 l0_3 l0_4)) else (drawbridgelaw10_PlicBest.l0 k2 a1 t463 (wrap64 (x6_2 + 1)) l0_0 a0_1 a0_2 l0_3 l0_4))) else (none)) else (none))) else (drawbridgelaw10_PlicBest.l0 k2 a1 t463 (wrap64 (x6_2 + 1)) l0_0 a0_1 a0_2 l0_3 l0_4)) else (some false)) else (if (rd l0_0 x6_2) > (rd l0_4 a1) then (if t463 = 0 then (some false) else (if 0 ≤ t463 then (if t463 < (l0_0.length : Int) then (if (rd l0_0 t463) < (rd l0_0 x6_2) then (some false) else (if (rd l0_0 t463) = (rd l0_0 x6_2) then (if t463 > x6_2 then (some false) else (drawbridgelaw10_PlicBest.l0 k2 a1 t463 (wrap64 (x6_2 + 1)) l0_0 a0_1 a0_2 l0_3 l0_4)) else (drawbridgelaw10_PlicBest.l0 k2 a1 t463 (wrap64 (x6_2 + 1)) l0_0 a0_1 a0_2 l0_3 l0_4))) else (none)) else (none))) else (drawbridgelaw10_PlicBest.l0 k2 a1 t463 (wrap64 (x6_2 + 1)) l0_0 a0_1 a0_2 l0_3 l0_4))) else (none)) else (none)) else (none))) = some r := by first | (rw [hji31] at H; exact H) | (simp only [hji31] at H ⊢; exact H)
                    have hji31_ : (IntKind.i64.wrap (1 * 2 ^ min (ji29).toNat 64)) = ji31 := hji31
                    have hji31z : (ji29) ≤ 64 → (IntKind.i64.wrap (1 * 2 ^ (ji29).toNat)) = ji31 := shl_small hji31
                    have hji31u : (IntKind.i64.wrap (2 ^ min (ji29).toNat 64)) = ji31 := by have h_ := hji31_; rw [Int.one_mul] at h_; exact h_
                    have hji31v : (ji29) ≤ 64 → (IntKind.i64.wrap (2 ^ (ji29).toNat)) = ji31 := fun hle_ => by have h_ := hji31z hle_; rw [Int.one_mul] at h_; exact h_
                    have hji31y : (wrap64 (1 * 2 ^ min (ji29).toNat 64)) = ji31 := (i64_w _).symm.trans hji31_
                    have hji31x : (ji29) ≤ 64 → (wrap64 (1 * 2 ^ (ji29).toNat)) = ji31 := fun h_ => (i64_w _).symm.trans (hji31z h_)
                    by_cases c32 : (Go.bits .and .i64 (Go.bits .and .i64 a0_1 (rd l0_3 a1)) (ji31)) = 0
                    · rw [if_pos c32] at H
                      have c32b0 : ((Go.bits .and .i64 (Go.bits .and .i64 a0_1 (rd l0_3 a1)) (ji31)) == 0) = true := beq_iff_eq.mpr c32
                      have c32b1 : ((Go.bits .and .i64 (Go.bits .and .i64 a0_1 (rd l0_3 a1)) (ji31)) != 0) = false := bne_eq_false_iff_eq.mpr c32
                      clear c32
                      by_cases c33 : t463 = x6_2
                      · rw [if_pos c33] at H
                        have c33b0 : (t463 == x6_2) = true := beq_iff_eq.mpr c33
                        have c33b1 : (t463 != x6_2) = false := bne_eq_false_iff_eq.mpr c33
                        clear c33
                        clear hT_
                        obtain rfl := Option.some.inj H
                        have hcz34_0 : wr.cell? ⟨gb459, 0, none⟩ = some (.slice A0_0 l0_0.length c0_0) := (blk_cell BK459.out 0).trans rfl
                        have hcz34_1 : wr.cell? ⟨gb459, 1, none⟩ = some (.int .i64 a0_1) := (blk_cell BK459.out 1).trans rfl
                        have hcz34_2 : wr.cell? ⟨gb459, 2, none⟩ = some (.int .i64 a0_2) := (blk_cell BK459.out 2).trans rfl
                        have hcz34_3 : wr.cell? ⟨gb459, 3, none⟩ = some (.slice A0_3 l0_3.length c0_3) := (blk_cell BK459.out 3).trans rfl
                        have hcz34_4 : wr.cell? ⟨gb459, 4, none⟩ = some (.slice A0_4 l0_4.length c0_4) := (blk_cell BK459.out 4).trans rfl
                        have hfz34_0 := blk_frozen BK459.out 0
                        have hfz34_1 := blk_frozen BK459.out 1
                        have hfz34_2 := blk_frozen BK459.out 2
                        have hfz34_3 := blk_frozen BK459.out 3
                        have hfz34_4 := blk_frozen BK459.out 4
                        have p464 : 0 ≤ (a1 : Int) := of_decide_eq_true (by first | (with_reducible assumption) | assumption)
                        have q464 : a1 < (l0_3.length : Int) := of_decide_eq_true (by first | (with_reducible assumption) | assumption)
                        obtain ⟨ad464, e464, hx464_0⟩ := Kd.at_int HR0_3.out a1 p464 q464
                        cases e464
                        replace hx464_0 := (HB.out.cell (World.block_lt_of_cell? w _ hx464_0)).trans hx464_0
                        replace p464 := eq_true p464
                        replace q464 := eq_true q464
                        go_wp2
                        repeat (go_quiet (fail); try go_wp2)
                        go_ret
                        exact ⟨by first | rfl | (simp [errW_none, errW_some] <;> rfl) | (simp only [← hji29, ← hji31]; first | rfl | (simp [errW_none, errW_some] <;> rfl)) | (simp [*, errW_none, errW_some] <;> rfl), by repeat (first | (with_reducible first | exact HB.out | apply below_alloc | apply pw_below_drewN | apply below_drew1 | refine below_set ?_ GE459.out) | exact HB.out)⟩
                      · rw [if_neg c33] at H
                        have c33b0 : (t463 == x6_2) = false := beq_eq_false_iff_ne.mpr c33
                        have c33b1 : (t463 != x6_2) = true := bne_iff_ne.mpr c33
                        have H' := Aside0.mk H
                        clear H
                        have hcz35_0 : wr.cell? ⟨gb459, 0, none⟩ = some (.slice A0_0 l0_0.length c0_0) := (blk_cell BK459.out 0).trans rfl
                        have hcz35_1 : wr.cell? ⟨gb459, 1, none⟩ = some (.int .i64 a0_1) := (blk_cell BK459.out 1).trans rfl
                        have hcz35_2 : wr.cell? ⟨gb459, 2, none⟩ = some (.int .i64 a0_2) := (blk_cell BK459.out 2).trans rfl
                        have hcz35_3 : wr.cell? ⟨gb459, 3, none⟩ = some (.slice A0_3 l0_3.length c0_3) := (blk_cell BK459.out 3).trans rfl
                        have hcz35_4 : wr.cell? ⟨gb459, 4, none⟩ = some (.slice A0_4 l0_4.length c0_4) := (blk_cell BK459.out 4).trans rfl
                        have hfz35_0 := blk_frozen BK459.out 0
                        have hfz35_1 := blk_frozen BK459.out 1
                        have hfz35_2 := blk_frozen BK459.out 2
                        have hfz35_3 := blk_frozen BK459.out 3
                        have hfz35_4 := blk_frozen BK459.out 4
                        have p464 : 0 ≤ (a1 : Int) := of_decide_eq_true (by first | (with_reducible assumption) | assumption)
                        have q464 : a1 < (l0_3.length : Int) := of_decide_eq_true (by first | (with_reducible assumption) | assumption)
                        obtain ⟨ad464, e464, hx464_0⟩ := Kd.at_int HR0_3.out a1 p464 q464
                        cases e464
                        replace hx464_0 := (HB.out.cell (World.block_lt_of_cell? w _ hx464_0)).trans hx464_0
                        replace p464 := eq_true p464
                        replace q464 := eq_true q464
                        go_wp2
                        repeat (go_quiet (fail); try go_wp2)
                        go_roundg k2
                        case measure => have := HJ2.out; have := HK2.out; omega
                        case rel => exact ⟨(wrap64 (x6_2 + 1)), (by first | rfl | (simp; done) | (simp [*]; done)), H', ⟨by have := HJ2.out; have := HK2.out; omega⟩, ⟨by (with_reducible repeat (first | refine blk_drewN ?_ _ | refine blk_drew ?_ | refine blk_alloc ?_ _)); exact BK459.out⟩, ⟨by repeat (first | (with_reducible first | exact HB.out | apply below_alloc | apply pw_below_drewN | apply below_drew1 | refine below_set ?_ GE459.out) | exact HB.out)⟩⟩
                    · rw [if_neg c32] at H
                      have c32b0 : ((Go.bits .and .i64 (Go.bits .and .i64 a0_1 (rd l0_3 a1)) (ji31)) == 0) = false := beq_eq_false_iff_ne.mpr c32
                      have c32b1 : ((Go.bits .and .i64 (Go.bits .and .i64 a0_1 (rd l0_3 a1)) (ji31)) != 0) = true := bne_iff_ne.mpr c32
                      by_cases c36 : 0 ≤ x6_2
                      · rw [if_pos c36] at H
                        have c36b0 : decide (0 ≤ x6_2) = true := decide_eq_true c36
                        clear c36
                        by_cases c37 : x6_2 < (l0_0.length : Int)
                        · rw [if_pos c37] at H
                          have c37b0 : decide (x6_2 < (l0_0.length : Int)) = true := decide_eq_true c37
                          clear c37
                          by_cases c38 : a1 < (l0_4.length : Int)
                          · rw [if_pos c38] at H
                            have c38b0 : decide (a1 < (l0_4.length : Int)) = true := decide_eq_true c38
                            clear c38
                            by_cases c39 : t463 = x6_2
                            · rw [if_pos c39] at H
                              have c39b0 : (t463 == x6_2) = true := beq_iff_eq.mpr c39
                              have c39b1 : (t463 != x6_2) = false := bne_eq_false_iff_eq.mpr c39
                              clear c39
                              by_cases c40 : ((rd l0_0 x6_2) > (rd l0_4 a1))
                              · rw [if_pos c40] at H
                                have c40b0 : decide ((rd l0_4 a1) < (rd l0_0 x6_2)) = true := decide_eq_true c40
                                clear c40
                                by_cases c41 : (rd l0_0 x6_2) > (rd l0_4 a1)
                                · rw [if_pos c41] at H
                                  have c41b0 : decide ((rd l0_4 a1) < (rd l0_0 x6_2)) = true := decide_eq_true c41
                                  clear c41
                                  by_cases c42 : t463 = 0
                                  · rw [if_pos c42] at H
                                    have c42b0 : (t463 == 0) = true := beq_iff_eq.mpr c42
                                    have c42b1 : (t463 != 0) = false := bne_eq_false_iff_eq.mpr c42
                                    clear c42
                                    clear hT_
                                    obtain rfl := Option.some.inj H
                                    have hcz43_0 : wr.cell? ⟨gb459, 0, none⟩ = some (.slice A0_0 l0_0.length c0_0) := (blk_cell BK459.out 0).trans rfl
                                    have hcz43_1 : wr.cell? ⟨gb459, 1, none⟩ = some (.int .i64 a0_1) := (blk_cell BK459.out 1).trans rfl
                                    have hcz43_2 : wr.cell? ⟨gb459, 2, none⟩ = some (.int .i64 a0_2) := (blk_cell BK459.out 2).trans rfl
                                    have hcz43_3 : wr.cell? ⟨gb459, 3, none⟩ = some (.slice A0_3 l0_3.length c0_3) := (blk_cell BK459.out 3).trans rfl
                                    have hcz43_4 : wr.cell? ⟨gb459, 4, none⟩ = some (.slice A0_4 l0_4.length c0_4) := (blk_cell BK459.out 4).trans rfl
                                    have hfz43_0 := blk_frozen BK459.out 0
                                    have hfz43_1 := blk_frozen BK459.out 1
                                    have hfz43_2 := blk_frozen BK459.out 2
                                    have hfz43_3 := blk_frozen BK459.out 3
                                    have hfz43_4 := blk_frozen BK459.out 4
                                    have p464 : 0 ≤ (a1 : Int) := of_decide_eq_true (by first | (with_reducible assumption) | assumption)
                                    have q464 : a1 < (l0_3.length : Int) := of_decide_eq_true (by first | (with_reducible assumption) | assumption)
                                    obtain ⟨ad464, e464, hx464_0⟩ := Kd.at_int HR0_3.out a1 p464 q464
                                    cases e464
                                    replace hx464_0 := (HB.out.cell (World.block_lt_of_cell? w _ hx464_0)).trans hx464_0
                                    replace p464 := eq_true p464
                                    replace q464 := eq_true q464
                                    have p465 : 0 ≤ (x6_2 : Int) := of_decide_eq_true (by first | (with_reducible assumption) | assumption)
                                    have q465 : x6_2 < (l0_0.length : Int) := of_decide_eq_true (by first | (with_reducible assumption) | assumption)
                                    obtain ⟨ad465, e465, hx465_0⟩ := Kd.at_int HR0_0.out x6_2 p465 q465
                                    cases e465
                                    replace hx465_0 := (HB.out.cell (World.block_lt_of_cell? w _ hx465_0)).trans hx465_0
                                    replace p465 := eq_true p465
                                    replace q465 := eq_true q465
                                    have p466 : 0 ≤ (a1 : Int) := of_decide_eq_true (by first | (with_reducible assumption) | assumption)
                                    have q466 : a1 < (l0_4.length : Int) := of_decide_eq_true (by first | (with_reducible assumption) | assumption)
                                    obtain ⟨ad466, e466, hx466_0⟩ := Kd.at_int HR0_4.out a1 p466 q466
                                    cases e466
                                    replace hx466_0 := (HB.out.cell (World.block_lt_of_cell? w _ hx466_0)).trans hx466_0
                                    replace p466 := eq_true p466
                                    replace q466 := eq_true q466
                                    go_wp2
                                    repeat (go_quiet (fail); try go_wp2)
                                    go_ret
                                    exact ⟨by first | rfl | (simp [errW_none, errW_some] <;> rfl) | (simp only [← hji29, ← hji31]; first | rfl | (simp [errW_none, errW_some] <;> rfl)) | (simp [*, errW_none, errW_some] <;> rfl), by repeat (first | (with_reducible first | exact HB.out | apply below_alloc | apply pw_below_drewN | apply below_drew1 | refine below_set ?_ GE459.out) | exact HB.out)⟩
                                  · rw [if_neg c42] at H
                                    have c42b0 : (t463 == 0) = false := beq_eq_false_iff_ne.mpr c42
                                    have c42b1 : (t463 != 0) = true := bne_iff_ne.mpr c42
                                    by_cases c44 : 0 ≤ t463
                                    · rw [if_pos c44] at H
                                      have c44b0 : decide (0 ≤ t463) = true := decide_eq_true c44
                                      clear c44
                                      by_cases c45 : t463 < (l0_0.length : Int)
                                      · rw [if_pos c45] at H
                                        have c45b0 : decide (t463 < (l0_0.length : Int)) = true := decide_eq_true c45
                                        clear c45
                                        by_cases c46 : (rd l0_0 t463) < (rd l0_0 x6_2)
                                        · rw [if_pos c46] at H
                                          have c46b0 : decide ((rd l0_0 t463) < (rd l0_0 x6_2)) = true := decide_eq_true c46
                                          clear c46
                                          clear hT_
                                          obtain rfl := Option.some.inj H
                                          have hcz47_0 : wr.cell? ⟨gb459, 0, none⟩ = some (.slice A0_0 l0_0.length c0_0) := (blk_cell BK459.out 0).trans rfl
                                          have hcz47_1 : wr.cell? ⟨gb459, 1, none⟩ = some (.int .i64 a0_1) := (blk_cell BK459.out 1).trans rfl
                                          have hcz47_2 : wr.cell? ⟨gb459, 2, none⟩ = some (.int .i64 a0_2) := (blk_cell BK459.out 2).trans rfl
                                          have hcz47_3 : wr.cell? ⟨gb459, 3, none⟩ = some (.slice A0_3 l0_3.length c0_3) := (blk_cell BK459.out 3).trans rfl
                                          have hcz47_4 : wr.cell? ⟨gb459, 4, none⟩ = some (.slice A0_4 l0_4.length c0_4) := (blk_cell BK459.out 4).trans rfl
                                          have hfz47_0 := blk_frozen BK459.out 0
                                          have hfz47_1 := blk_frozen BK459.out 1
                                          have hfz47_2 := blk_frozen BK459.out 2
                                          have hfz47_3 := blk_frozen BK459.out 3
                                          have hfz47_4 := blk_frozen BK459.out 4
                                          have p464 : 0 ≤ (a1 : Int) := of_decide_eq_true (by first | (with_reducible assumption) | assumption)
                                          have q464 : a1 < (l0_3.length : Int) := of_decide_eq_true (by first | (with_reducible assumption) | assumption)
                                          obtain ⟨ad464, e464, hx464_0⟩ := Kd.at_int HR0_3.out a1 p464 q464
                                          cases e464
                                          replace hx464_0 := (HB.out.cell (World.block_lt_of_cell? w _ hx464_0)).trans hx464_0
                                          replace p464 := eq_true p464
                                          replace q464 := eq_true q464
                                          have p465 : 0 ≤ (x6_2 : Int) := of_decide_eq_true (by first | (with_reducible assumption) | assumption)
                                          have q465 : x6_2 < (l0_0.length : Int) := of_decide_eq_true (by first | (with_reducible assumption) | assumption)
                                          obtain ⟨ad465, e465, hx465_0⟩ := Kd.at_int HR0_0.out x6_2 p465 q465
                                          cases e465
                                          replace hx465_0 := (HB.out.cell (World.block_lt_of_cell? w _ hx465_0)).trans hx465_0
                                          replace p465 := eq_true p465
                                          replace q465 := eq_true q465
                                          have p466 : 0 ≤ (a1 : Int) := of_decide_eq_true (by first | (with_reducible assumption) | assumption)
                                          have q466 : a1 < (l0_4.length : Int) := of_decide_eq_true (by first | (with_reducible assumption) | assumption)
                                          obtain ⟨ad466, e466, hx466_0⟩ := Kd.at_int HR0_4.out a1 p466 q466
                                          cases e466
                                          replace hx466_0 := (HB.out.cell (World.block_lt_of_cell? w _ hx466_0)).trans hx466_0
                                          replace p466 := eq_true p466
                                          replace q466 := eq_true q466
                                          have p467 : 0 ≤ (t463 : Int) := of_decide_eq_true (by first | (with_reducible assumption) | assumption)
                                          have q467 : t463 < (l0_0.length : Int) := of_decide_eq_true (by first | (with_reducible assumption) | assumption)
                                          obtain ⟨ad467, e467, hx467_0⟩ := Kd.at_int HR0_0.out t463 p467 q467
                                          obtain rfl : ad465 = ad467 := (by injection e467)
                                          replace hx467_0 := (HB.out.cell (World.block_lt_of_cell? w _ hx467_0)).trans hx467_0
                                          replace p467 := eq_true p467
                                          replace q467 := eq_true q467
                                          have p468 : 0 ≤ (x6_2 : Int) := of_decide_eq_true (by first | (with_reducible assumption) | assumption)
                                          have q468 : x6_2 < (l0_0.length : Int) := of_decide_eq_true (by first | (with_reducible assumption) | assumption)
                                          obtain ⟨ad468, e468, hx468_0⟩ := Kd.at_int HR0_0.out x6_2 p468 q468
                                          obtain rfl : ad465 = ad468 := (by injection e468)
                                          replace hx468_0 := (HB.out.cell (World.block_lt_of_cell? w _ hx468_0)).trans hx468_0
                                          replace p468 := eq_true p468
                                          replace q468 := eq_true q468
                                          go_wp2
                                          repeat (go_quiet (fail); try go_wp2)
                                          go_ret
                                          exact ⟨by first | rfl | (simp [errW_none, errW_some] <;> rfl) | (simp only [← hji29, ← hji31]; first | rfl | (simp [errW_none, errW_some] <;> rfl)) | (simp [*, errW_none, errW_some] <;> rfl), by repeat (first | (with_reducible first | exact HB.out | apply below_alloc | apply pw_below_drewN | apply below_drew1 | refine below_set ?_ GE459.out) | exact HB.out)⟩
                                        · rw [if_neg c46] at H
                                          have c46b0 : decide ((rd l0_0 t463) < (rd l0_0 x6_2)) = false := decide_eq_false c46
                                          clear c46
                                          by_cases c48 : (rd l0_0 t463) = (rd l0_0 x6_2)
                                          · rw [if_pos c48] at H
                                            have c48b0 : ((rd l0_0 t463) == (rd l0_0 x6_2)) = true := beq_iff_eq.mpr c48
                                            have c48b1 : ((rd l0_0 t463) != (rd l0_0 x6_2)) = false := bne_eq_false_iff_eq.mpr c48
                                            clear c48
                                            by_cases c49 : t463 > x6_2
                                            · rw [if_pos c49] at H
                                              have c49b0 : decide (x6_2 < t463) = true := decide_eq_true c49
                                              clear c49
                                              clear hT_
                                              obtain rfl := Option.some.inj H
                                              have hcz50_0 : wr.cell? ⟨gb459, 0, none⟩ = some (.slice A0_0 l0_0.length c0_0) := (blk_cell BK459.out 0).trans rfl
                                              have hcz50_1 : wr.cell? ⟨gb459, 1, none⟩ = some (.int .i64 a0_1) := (blk_cell BK459.out 1).trans rfl
                                              have hcz50_2 : wr.cell? ⟨gb459, 2, none⟩ = some (.int .i64 a0_2) := (blk_cell BK459.out 2).trans rfl
                                              have hcz50_3 : wr.cell? ⟨gb459, 3, none⟩ = some (.slice A0_3 l0_3.length c0_3) := (blk_cell BK459.out 3).trans rfl
                                              have hcz50_4 : wr.cell? ⟨gb459, 4, none⟩ = some (.slice A0_4 l0_4.length c0_4) := (blk_cell BK459.out 4).trans rfl
                                              have hfz50_0 := blk_frozen BK459.out 0
                                              have hfz50_1 := blk_frozen BK459.out 1
                                              have hfz50_2 := blk_frozen BK459.out 2
                                              have hfz50_3 := blk_frozen BK459.out 3
                                              have hfz50_4 := blk_frozen BK459.out 4
                                              have p464 : 0 ≤ (a1 : Int) := of_decide_eq_true (by first | (with_reducible assumption) | assumption)
                                              have q464 : a1 < (l0_3.length : Int) := of_decide_eq_true (by first | (with_reducible assumption) | assumption)
                                              obtain ⟨ad464, e464, hx464_0⟩ := Kd.at_int HR0_3.out a1 p464 q464
                                              cases e464
                                              replace hx464_0 := (HB.out.cell (World.block_lt_of_cell? w _ hx464_0)).trans hx464_0
                                              replace p464 := eq_true p464
                                              replace q464 := eq_true q464
                                              have p465 : 0 ≤ (x6_2 : Int) := of_decide_eq_true (by first | (with_reducible assumption) | assumption)
                                              have q465 : x6_2 < (l0_0.length : Int) := of_decide_eq_true (by first | (with_reducible assumption) | assumption)
                                              obtain ⟨ad465, e465, hx465_0⟩ := Kd.at_int HR0_0.out x6_2 p465 q465
                                              cases e465
                                              replace hx465_0 := (HB.out.cell (World.block_lt_of_cell? w _ hx465_0)).trans hx465_0
                                              replace p465 := eq_true p465
                                              replace q465 := eq_true q465
                                              have p466 : 0 ≤ (a1 : Int) := of_decide_eq_true (by first | (with_reducible assumption) | assumption)
                                              have q466 : a1 < (l0_4.length : Int) := of_decide_eq_true (by first | (with_reducible assumption) | assumption)
                                              obtain ⟨ad466, e466, hx466_0⟩ := Kd.at_int HR0_4.out a1 p466 q466
                                              cases e466
                                              replace hx466_0 := (HB.out.cell (World.block_lt_of_cell? w _ hx466_0)).trans hx466_0
                                              replace p466 := eq_true p466
                                              replace q466 := eq_true q466
                                              have p467 : 0 ≤ (t463 : Int) := of_decide_eq_true (by first | (with_reducible assumption) | assumption)
                                              have q467 : t463 < (l0_0.length : Int) := of_decide_eq_true (by first | (with_reducible assumption) | assumption)
                                              obtain ⟨ad467, e467, hx467_0⟩ := Kd.at_int HR0_0.out t463 p467 q467
                                              obtain rfl : ad465 = ad467 := (by injection e467)
                                              replace hx467_0 := (HB.out.cell (World.block_lt_of_cell? w _ hx467_0)).trans hx467_0
                                              replace p467 := eq_true p467
                                              replace q467 := eq_true q467
                                              have p468 : 0 ≤ (x6_2 : Int) := of_decide_eq_true (by first | (with_reducible assumption) | assumption)
                                              have q468 : x6_2 < (l0_0.length : Int) := of_decide_eq_true (by first | (with_reducible assumption) | assumption)
                                              obtain ⟨ad468, e468, hx468_0⟩ := Kd.at_int HR0_0.out x6_2 p468 q468
                                              obtain rfl : ad465 = ad468 := (by injection e468)
                                              replace hx468_0 := (HB.out.cell (World.block_lt_of_cell? w _ hx468_0)).trans hx468_0
                                              replace p468 := eq_true p468
                                              replace q468 := eq_true q468
                                              have p469 : 0 ≤ (t463 : Int) := of_decide_eq_true (by first | (with_reducible assumption) | assumption)
                                              have q469 : t463 < (l0_0.length : Int) := of_decide_eq_true (by first | (with_reducible assumption) | assumption)
                                              obtain ⟨ad469, e469, hx469_0⟩ := Kd.at_int HR0_0.out t463 p469 q469
                                              obtain rfl : ad465 = ad469 := (by injection e469)
                                              replace hx469_0 := (HB.out.cell (World.block_lt_of_cell? w _ hx469_0)).trans hx469_0
                                              replace p469 := eq_true p469
                                              replace q469 := eq_true q469
                                              have p470 : 0 ≤ (x6_2 : Int) := of_decide_eq_true (by first | (with_reducible assumption) | assumption)
                                              have q470 : x6_2 < (l0_0.length : Int) := of_decide_eq_true (by first | (with_reducible assumption) | assumption)
                                              obtain ⟨ad470, e470, hx470_0⟩ := Kd.at_int HR0_0.out x6_2 p470 q470
                                              obtain rfl : ad465 = ad470 := (by injection e470)
                                              replace hx470_0 := (HB.out.cell (World.block_lt_of_cell? w _ hx470_0)).trans hx470_0
                                              replace p470 := eq_true p470
                                              replace q470 := eq_true q470
                                              go_wp2
                                              repeat (go_quiet (fail); try go_wp2)
                                              go_ret
                                              exact ⟨by first | rfl | (simp [errW_none, errW_some] <;> rfl) | (simp only [← hji29, ← hji31]; first | rfl | (simp [errW_none, errW_some] <;> rfl)) | (simp [*, errW_none, errW_some] <;> rfl), by repeat (first | (with_reducible first | exact HB.out | apply below_alloc | apply pw_below_drewN | apply below_drew1 | refine below_set ?_ GE459.out) | exact HB.out)⟩
                                            · rw [if_neg c49] at H
                                              have c49b0 : decide (x6_2 < t463) = false := decide_eq_false c49
                                              clear c49
                                              have H' := Aside0.mk H
                                              clear H
                                              have hcz51_0 : wr.cell? ⟨gb459, 0, none⟩ = some (.slice A0_0 l0_0.length c0_0) := (blk_cell BK459.out 0).trans rfl
                                              have hcz51_1 : wr.cell? ⟨gb459, 1, none⟩ = some (.int .i64 a0_1) := (blk_cell BK459.out 1).trans rfl
                                              have hcz51_2 : wr.cell? ⟨gb459, 2, none⟩ = some (.int .i64 a0_2) := (blk_cell BK459.out 2).trans rfl
                                              have hcz51_3 : wr.cell? ⟨gb459, 3, none⟩ = some (.slice A0_3 l0_3.length c0_3) := (blk_cell BK459.out 3).trans rfl
                                              have hcz51_4 : wr.cell? ⟨gb459, 4, none⟩ = some (.slice A0_4 l0_4.length c0_4) := (blk_cell BK459.out 4).trans rfl
                                              have hfz51_0 := blk_frozen BK459.out 0
                                              have hfz51_1 := blk_frozen BK459.out 1
                                              have hfz51_2 := blk_frozen BK459.out 2
                                              have hfz51_3 := blk_frozen BK459.out 3
                                              have hfz51_4 := blk_frozen BK459.out 4
                                              have p464 : 0 ≤ (a1 : Int) := of_decide_eq_true (by first | (with_reducible assumption) | assumption)
                                              have q464 : a1 < (l0_3.length : Int) := of_decide_eq_true (by first | (with_reducible assumption) | assumption)
                                              obtain ⟨ad464, e464, hx464_0⟩ := Kd.at_int HR0_3.out a1 p464 q464
                                              cases e464
                                              replace hx464_0 := (HB.out.cell (World.block_lt_of_cell? w _ hx464_0)).trans hx464_0
                                              replace p464 := eq_true p464
                                              replace q464 := eq_true q464
                                              have p465 : 0 ≤ (x6_2 : Int) := of_decide_eq_true (by first | (with_reducible assumption) | assumption)
                                              have q465 : x6_2 < (l0_0.length : Int) := of_decide_eq_true (by first | (with_reducible assumption) | assumption)
                                              obtain ⟨ad465, e465, hx465_0⟩ := Kd.at_int HR0_0.out x6_2 p465 q465
                                              cases e465
                                              replace hx465_0 := (HB.out.cell (World.block_lt_of_cell? w _ hx465_0)).trans hx465_0
                                              replace p465 := eq_true p465
                                              replace q465 := eq_true q465
                                              have p466 : 0 ≤ (a1 : Int) := of_decide_eq_true (by first | (with_reducible assumption) | assumption)
                                              have q466 : a1 < (l0_4.length : Int) := of_decide_eq_true (by first | (with_reducible assumption) | assumption)
                                              obtain ⟨ad466, e466, hx466_0⟩ := Kd.at_int HR0_4.out a1 p466 q466
                                              cases e466
                                              replace hx466_0 := (HB.out.cell (World.block_lt_of_cell? w _ hx466_0)).trans hx466_0
                                              replace p466 := eq_true p466
                                              replace q466 := eq_true q466
                                              have p467 : 0 ≤ (t463 : Int) := of_decide_eq_true (by first | (with_reducible assumption) | assumption)
                                              have q467 : t463 < (l0_0.length : Int) := of_decide_eq_true (by first | (with_reducible assumption) | assumption)
                                              obtain ⟨ad467, e467, hx467_0⟩ := Kd.at_int HR0_0.out t463 p467 q467
                                              obtain rfl : ad465 = ad467 := (by injection e467)
                                              replace hx467_0 := (HB.out.cell (World.block_lt_of_cell? w _ hx467_0)).trans hx467_0
                                              replace p467 := eq_true p467
                                              replace q467 := eq_true q467
                                              have p468 : 0 ≤ (x6_2 : Int) := of_decide_eq_true (by first | (with_reducible assumption) | assumption)
                                              have q468 : x6_2 < (l0_0.length : Int) := of_decide_eq_true (by first | (with_reducible assumption) | assumption)
                                              obtain ⟨ad468, e468, hx468_0⟩ := Kd.at_int HR0_0.out x6_2 p468 q468
                                              obtain rfl : ad465 = ad468 := (by injection e468)
                                              replace hx468_0 := (HB.out.cell (World.block_lt_of_cell? w _ hx468_0)).trans hx468_0
                                              replace p468 := eq_true p468
                                              replace q468 := eq_true q468
                                              have p469 : 0 ≤ (t463 : Int) := of_decide_eq_true (by first | (with_reducible assumption) | assumption)
                                              have q469 : t463 < (l0_0.length : Int) := of_decide_eq_true (by first | (with_reducible assumption) | assumption)
                                              obtain ⟨ad469, e469, hx469_0⟩ := Kd.at_int HR0_0.out t463 p469 q469
                                              obtain rfl : ad465 = ad469 := (by injection e469)
                                              replace hx469_0 := (HB.out.cell (World.block_lt_of_cell? w _ hx469_0)).trans hx469_0
                                              replace p469 := eq_true p469
                                              replace q469 := eq_true q469
                                              have p470 : 0 ≤ (x6_2 : Int) := of_decide_eq_true (by first | (with_reducible assumption) | assumption)
                                              have q470 : x6_2 < (l0_0.length : Int) := of_decide_eq_true (by first | (with_reducible assumption) | assumption)
                                              obtain ⟨ad470, e470, hx470_0⟩ := Kd.at_int HR0_0.out x6_2 p470 q470
                                              obtain rfl : ad465 = ad470 := (by injection e470)
                                              replace hx470_0 := (HB.out.cell (World.block_lt_of_cell? w _ hx470_0)).trans hx470_0
                                              replace p470 := eq_true p470
                                              replace q470 := eq_true q470
                                              go_wp2
                                              repeat (go_quiet (fail); try go_wp2)
                                              go_roundg k2
                                              case measure => have := HJ2.out; have := HK2.out; omega
                                              case rel => exact ⟨(wrap64 (x6_2 + 1)), (by first | rfl | (simp; done) | (simp [*]; done)), H', ⟨by have := HJ2.out; have := HK2.out; omega⟩, ⟨by (with_reducible repeat (first | refine blk_drewN ?_ _ | refine blk_drew ?_ | refine blk_alloc ?_ _)); exact BK459.out⟩, ⟨by repeat (first | (with_reducible first | exact HB.out | apply below_alloc | apply pw_below_drewN | apply below_drew1 | refine below_set ?_ GE459.out) | exact HB.out)⟩⟩
                                          · rw [if_neg c48] at H
                                            have c48b0 : ((rd l0_0 t463) == (rd l0_0 x6_2)) = false := beq_eq_false_iff_ne.mpr c48
                                            have c48b1 : ((rd l0_0 t463) != (rd l0_0 x6_2)) = true := bne_iff_ne.mpr c48
                                            have H' := Aside0.mk H
                                            clear H
                                            have hcz52_0 : wr.cell? ⟨gb459, 0, none⟩ = some (.slice A0_0 l0_0.length c0_0) := (blk_cell BK459.out 0).trans rfl
                                            have hcz52_1 : wr.cell? ⟨gb459, 1, none⟩ = some (.int .i64 a0_1) := (blk_cell BK459.out 1).trans rfl
                                            have hcz52_2 : wr.cell? ⟨gb459, 2, none⟩ = some (.int .i64 a0_2) := (blk_cell BK459.out 2).trans rfl
                                            have hcz52_3 : wr.cell? ⟨gb459, 3, none⟩ = some (.slice A0_3 l0_3.length c0_3) := (blk_cell BK459.out 3).trans rfl
                                            have hcz52_4 : wr.cell? ⟨gb459, 4, none⟩ = some (.slice A0_4 l0_4.length c0_4) := (blk_cell BK459.out 4).trans rfl
                                            have hfz52_0 := blk_frozen BK459.out 0
                                            have hfz52_1 := blk_frozen BK459.out 1
                                            have hfz52_2 := blk_frozen BK459.out 2
                                            have hfz52_3 := blk_frozen BK459.out 3
                                            have hfz52_4 := blk_frozen BK459.out 4
                                            have p464 : 0 ≤ (a1 : Int) := of_decide_eq_true (by first | (with_reducible assumption) | assumption)
                                            have q464 : a1 < (l0_3.length : Int) := of_decide_eq_true (by first | (with_reducible assumption) | assumption)
                                            obtain ⟨ad464, e464, hx464_0⟩ := Kd.at_int HR0_3.out a1 p464 q464
                                            cases e464
                                            replace hx464_0 := (HB.out.cell (World.block_lt_of_cell? w _ hx464_0)).trans hx464_0
                                            replace p464 := eq_true p464
                                            replace q464 := eq_true q464
                                            have p465 : 0 ≤ (x6_2 : Int) := of_decide_eq_true (by first | (with_reducible assumption) | assumption)
                                            have q465 : x6_2 < (l0_0.length : Int) := of_decide_eq_true (by first | (with_reducible assumption) | assumption)
                                            obtain ⟨ad465, e465, hx465_0⟩ := Kd.at_int HR0_0.out x6_2 p465 q465
                                            cases e465
                                            replace hx465_0 := (HB.out.cell (World.block_lt_of_cell? w _ hx465_0)).trans hx465_0
                                            replace p465 := eq_true p465
                                            replace q465 := eq_true q465
                                            have p466 : 0 ≤ (a1 : Int) := of_decide_eq_true (by first | (with_reducible assumption) | assumption)
                                            have q466 : a1 < (l0_4.length : Int) := of_decide_eq_true (by first | (with_reducible assumption) | assumption)
                                            obtain ⟨ad466, e466, hx466_0⟩ := Kd.at_int HR0_4.out a1 p466 q466
                                            cases e466
                                            replace hx466_0 := (HB.out.cell (World.block_lt_of_cell? w _ hx466_0)).trans hx466_0
                                            replace p466 := eq_true p466
                                            replace q466 := eq_true q466
                                            have p467 : 0 ≤ (t463 : Int) := of_decide_eq_true (by first | (with_reducible assumption) | assumption)
                                            have q467 : t463 < (l0_0.length : Int) := of_decide_eq_true (by first | (with_reducible assumption) | assumption)
                                            obtain ⟨ad467, e467, hx467_0⟩ := Kd.at_int HR0_0.out t463 p467 q467
                                            obtain rfl : ad465 = ad467 := (by injection e467)
                                            replace hx467_0 := (HB.out.cell (World.block_lt_of_cell? w _ hx467_0)).trans hx467_0
                                            replace p467 := eq_true p467
                                            replace q467 := eq_true q467
                                            have p468 : 0 ≤ (x6_2 : Int) := of_decide_eq_true (by first | (with_reducible assumption) | assumption)
                                            have q468 : x6_2 < (l0_0.length : Int) := of_decide_eq_true (by first | (with_reducible assumption) | assumption)
                                            obtain ⟨ad468, e468, hx468_0⟩ := Kd.at_int HR0_0.out x6_2 p468 q468
                                            obtain rfl : ad465 = ad468 := (by injection e468)
                                            replace hx468_0 := (HB.out.cell (World.block_lt_of_cell? w _ hx468_0)).trans hx468_0
                                            replace p468 := eq_true p468
                                            replace q468 := eq_true q468
                                            have p469 : 0 ≤ (t463 : Int) := of_decide_eq_true (by first | (with_reducible assumption) | assumption)
                                            have q469 : t463 < (l0_0.length : Int) := of_decide_eq_true (by first | (with_reducible assumption) | assumption)
                                            obtain ⟨ad469, e469, hx469_0⟩ := Kd.at_int HR0_0.out t463 p469 q469
                                            obtain rfl : ad465 = ad469 := (by injection e469)
                                            replace hx469_0 := (HB.out.cell (World.block_lt_of_cell? w _ hx469_0)).trans hx469_0
                                            replace p469 := eq_true p469
                                            replace q469 := eq_true q469
                                            have p470 : 0 ≤ (x6_2 : Int) := of_decide_eq_true (by first | (with_reducible assumption) | assumption)
                                            have q470 : x6_2 < (l0_0.length : Int) := of_decide_eq_true (by first | (with_reducible assumption) | assumption)
                                            obtain ⟨ad470, e470, hx470_0⟩ := Kd.at_int HR0_0.out x6_2 p470 q470
                                            obtain rfl : ad465 = ad470 := (by injection e470)
                                            replace hx470_0 := (HB.out.cell (World.block_lt_of_cell? w _ hx470_0)).trans hx470_0
                                            replace p470 := eq_true p470
                                            replace q470 := eq_true q470
                                            go_wp2
                                            repeat (go_quiet (fail); try go_wp2)
                                            go_roundg k2
                                            case measure => have := HJ2.out; have := HK2.out; omega
                                            case rel => exact ⟨(wrap64 (x6_2 + 1)), (by first | rfl | (simp; done) | (simp [*]; done)), H', ⟨by have := HJ2.out; have := HK2.out; omega⟩, ⟨by (with_reducible repeat (first | refine blk_drewN ?_ _ | refine blk_drew ?_ | refine blk_alloc ?_ _)); exact BK459.out⟩, ⟨by repeat (first | (with_reducible first | exact HB.out | apply below_alloc | apply pw_below_drewN | apply below_drew1 | refine below_set ?_ GE459.out) | exact HB.out)⟩⟩
                                      · rw [if_neg c45] at H
                                        exact absurd H (by simp)
                                    · rw [if_neg c44] at H
                                      exact absurd H (by simp)
                                · exact absurd (of_decide_eq_true c40b0) c41
                              · rw [if_neg c40] at H
                                have c40b0 : decide ((rd l0_4 a1) < (rd l0_0 x6_2)) = false := decide_eq_false c40
                                clear c40
                                clear hT_
                                obtain rfl := Option.some.inj H
                                have hcz54_0 : wr.cell? ⟨gb459, 0, none⟩ = some (.slice A0_0 l0_0.length c0_0) := (blk_cell BK459.out 0).trans rfl
                                have hcz54_1 : wr.cell? ⟨gb459, 1, none⟩ = some (.int .i64 a0_1) := (blk_cell BK459.out 1).trans rfl
                                have hcz54_2 : wr.cell? ⟨gb459, 2, none⟩ = some (.int .i64 a0_2) := (blk_cell BK459.out 2).trans rfl
                                have hcz54_3 : wr.cell? ⟨gb459, 3, none⟩ = some (.slice A0_3 l0_3.length c0_3) := (blk_cell BK459.out 3).trans rfl
                                have hcz54_4 : wr.cell? ⟨gb459, 4, none⟩ = some (.slice A0_4 l0_4.length c0_4) := (blk_cell BK459.out 4).trans rfl
                                have hfz54_0 := blk_frozen BK459.out 0
                                have hfz54_1 := blk_frozen BK459.out 1
                                have hfz54_2 := blk_frozen BK459.out 2
                                have hfz54_3 := blk_frozen BK459.out 3
                                have hfz54_4 := blk_frozen BK459.out 4
                                have p464 : 0 ≤ (a1 : Int) := of_decide_eq_true (by first | (with_reducible assumption) | assumption)
                                have q464 : a1 < (l0_3.length : Int) := of_decide_eq_true (by first | (with_reducible assumption) | assumption)
                                obtain ⟨ad464, e464, hx464_0⟩ := Kd.at_int HR0_3.out a1 p464 q464
                                cases e464
                                replace hx464_0 := (HB.out.cell (World.block_lt_of_cell? w _ hx464_0)).trans hx464_0
                                replace p464 := eq_true p464
                                replace q464 := eq_true q464
                                have p465 : 0 ≤ (x6_2 : Int) := of_decide_eq_true (by first | (with_reducible assumption) | assumption)
                                have q465 : x6_2 < (l0_0.length : Int) := of_decide_eq_true (by first | (with_reducible assumption) | assumption)
                                obtain ⟨ad465, e465, hx465_0⟩ := Kd.at_int HR0_0.out x6_2 p465 q465
                                cases e465
                                replace hx465_0 := (HB.out.cell (World.block_lt_of_cell? w _ hx465_0)).trans hx465_0
                                replace p465 := eq_true p465
                                replace q465 := eq_true q465
                                have p466 : 0 ≤ (a1 : Int) := of_decide_eq_true (by first | (with_reducible assumption) | assumption)
                                have q466 : a1 < (l0_4.length : Int) := of_decide_eq_true (by first | (with_reducible assumption) | assumption)
                                obtain ⟨ad466, e466, hx466_0⟩ := Kd.at_int HR0_4.out a1 p466 q466
                                cases e466
                                replace hx466_0 := (HB.out.cell (World.block_lt_of_cell? w _ hx466_0)).trans hx466_0
                                replace p466 := eq_true p466
                                replace q466 := eq_true q466
                                go_wp2
                                repeat (go_quiet (fail); try go_wp2)
                                go_ret
                                exact ⟨by first | rfl | (simp [errW_none, errW_some] <;> rfl) | (simp only [← hji29, ← hji31]; first | rfl | (simp [errW_none, errW_some] <;> rfl)) | (simp [*, errW_none, errW_some] <;> rfl), by repeat (first | (with_reducible first | exact HB.out | apply below_alloc | apply pw_below_drewN | apply below_drew1 | refine below_set ?_ GE459.out) | exact HB.out)⟩
                            · rw [if_neg c39] at H
                              have c39b0 : (t463 == x6_2) = false := beq_eq_false_iff_ne.mpr c39
                              have c39b1 : (t463 != x6_2) = true := bne_iff_ne.mpr c39
                              by_cases c55 : (rd l0_0 x6_2) > (rd l0_4 a1)
                              · rw [if_pos c55] at H
                                have c55b0 : decide ((rd l0_4 a1) < (rd l0_0 x6_2)) = true := decide_eq_true c55
                                clear c55
                                by_cases c56 : t463 = 0
                                · rw [if_pos c56] at H
                                  have c56b0 : (t463 == 0) = true := beq_iff_eq.mpr c56
                                  have c56b1 : (t463 != 0) = false := bne_eq_false_iff_eq.mpr c56
                                  clear c56
                                  clear hT_
                                  obtain rfl := Option.some.inj H
                                  have hcz57_0 : wr.cell? ⟨gb459, 0, none⟩ = some (.slice A0_0 l0_0.length c0_0) := (blk_cell BK459.out 0).trans rfl
                                  have hcz57_1 : wr.cell? ⟨gb459, 1, none⟩ = some (.int .i64 a0_1) := (blk_cell BK459.out 1).trans rfl
                                  have hcz57_2 : wr.cell? ⟨gb459, 2, none⟩ = some (.int .i64 a0_2) := (blk_cell BK459.out 2).trans rfl
                                  have hcz57_3 : wr.cell? ⟨gb459, 3, none⟩ = some (.slice A0_3 l0_3.length c0_3) := (blk_cell BK459.out 3).trans rfl
                                  have hcz57_4 : wr.cell? ⟨gb459, 4, none⟩ = some (.slice A0_4 l0_4.length c0_4) := (blk_cell BK459.out 4).trans rfl
                                  have hfz57_0 := blk_frozen BK459.out 0
                                  have hfz57_1 := blk_frozen BK459.out 1
                                  have hfz57_2 := blk_frozen BK459.out 2
                                  have hfz57_3 := blk_frozen BK459.out 3
                                  have hfz57_4 := blk_frozen BK459.out 4
                                  have p464 : 0 ≤ (a1 : Int) := of_decide_eq_true (by first | (with_reducible assumption) | assumption)
                                  have q464 : a1 < (l0_3.length : Int) := of_decide_eq_true (by first | (with_reducible assumption) | assumption)
                                  obtain ⟨ad464, e464, hx464_0⟩ := Kd.at_int HR0_3.out a1 p464 q464
                                  cases e464
                                  replace hx464_0 := (HB.out.cell (World.block_lt_of_cell? w _ hx464_0)).trans hx464_0
                                  replace p464 := eq_true p464
                                  replace q464 := eq_true q464
                                  have p465 : 0 ≤ (x6_2 : Int) := of_decide_eq_true (by first | (with_reducible assumption) | assumption)
                                  have q465 : x6_2 < (l0_0.length : Int) := of_decide_eq_true (by first | (with_reducible assumption) | assumption)
                                  obtain ⟨ad465, e465, hx465_0⟩ := Kd.at_int HR0_0.out x6_2 p465 q465
                                  cases e465
                                  replace hx465_0 := (HB.out.cell (World.block_lt_of_cell? w _ hx465_0)).trans hx465_0
                                  replace p465 := eq_true p465
                                  replace q465 := eq_true q465
                                  have p466 : 0 ≤ (a1 : Int) := of_decide_eq_true (by first | (with_reducible assumption) | assumption)
                                  have q466 : a1 < (l0_4.length : Int) := of_decide_eq_true (by first | (with_reducible assumption) | assumption)
                                  obtain ⟨ad466, e466, hx466_0⟩ := Kd.at_int HR0_4.out a1 p466 q466
                                  cases e466
                                  replace hx466_0 := (HB.out.cell (World.block_lt_of_cell? w _ hx466_0)).trans hx466_0
                                  replace p466 := eq_true p466
                                  replace q466 := eq_true q466
                                  go_wp2
                                  repeat (go_quiet (fail); try go_wp2)
                                  go_ret
                                  exact ⟨by first | rfl | (simp [errW_none, errW_some] <;> rfl) | (simp only [← hji29, ← hji31]; first | rfl | (simp [errW_none, errW_some] <;> rfl)) | (simp [*, errW_none, errW_some] <;> rfl), by repeat (first | (with_reducible first | exact HB.out | apply below_alloc | apply pw_below_drewN | apply below_drew1 | refine below_set ?_ GE459.out) | exact HB.out)⟩
                                · rw [if_neg c56] at H
                                  have c56b0 : (t463 == 0) = false := beq_eq_false_iff_ne.mpr c56
                                  have c56b1 : (t463 != 0) = true := bne_iff_ne.mpr c56
                                  by_cases c58 : 0 ≤ t463
                                  · rw [if_pos c58] at H
                                    have c58b0 : decide (0 ≤ t463) = true := decide_eq_true c58
                                    clear c58
                                    by_cases c59 : t463 < (l0_0.length : Int)
                                    · rw [if_pos c59] at H
                                      have c59b0 : decide (t463 < (l0_0.length : Int)) = true := decide_eq_true c59
                                      clear c59
                                      by_cases c60 : (rd l0_0 t463) < (rd l0_0 x6_2)
                                      · rw [if_pos c60] at H
                                        have c60b0 : decide ((rd l0_0 t463) < (rd l0_0 x6_2)) = true := decide_eq_true c60
                                        clear c60
                                        clear hT_
                                        obtain rfl := Option.some.inj H
                                        have hcz61_0 : wr.cell? ⟨gb459, 0, none⟩ = some (.slice A0_0 l0_0.length c0_0) := (blk_cell BK459.out 0).trans rfl
                                        have hcz61_1 : wr.cell? ⟨gb459, 1, none⟩ = some (.int .i64 a0_1) := (blk_cell BK459.out 1).trans rfl
                                        have hcz61_2 : wr.cell? ⟨gb459, 2, none⟩ = some (.int .i64 a0_2) := (blk_cell BK459.out 2).trans rfl
                                        have hcz61_3 : wr.cell? ⟨gb459, 3, none⟩ = some (.slice A0_3 l0_3.length c0_3) := (blk_cell BK459.out 3).trans rfl
                                        have hcz61_4 : wr.cell? ⟨gb459, 4, none⟩ = some (.slice A0_4 l0_4.length c0_4) := (blk_cell BK459.out 4).trans rfl
                                        have hfz61_0 := blk_frozen BK459.out 0
                                        have hfz61_1 := blk_frozen BK459.out 1
                                        have hfz61_2 := blk_frozen BK459.out 2
                                        have hfz61_3 := blk_frozen BK459.out 3
                                        have hfz61_4 := blk_frozen BK459.out 4
                                        have p464 : 0 ≤ (a1 : Int) := of_decide_eq_true (by first | (with_reducible assumption) | assumption)
                                        have q464 : a1 < (l0_3.length : Int) := of_decide_eq_true (by first | (with_reducible assumption) | assumption)
                                        obtain ⟨ad464, e464, hx464_0⟩ := Kd.at_int HR0_3.out a1 p464 q464
                                        cases e464
                                        replace hx464_0 := (HB.out.cell (World.block_lt_of_cell? w _ hx464_0)).trans hx464_0
                                        replace p464 := eq_true p464
                                        replace q464 := eq_true q464
                                        have p465 : 0 ≤ (x6_2 : Int) := of_decide_eq_true (by first | (with_reducible assumption) | assumption)
                                        have q465 : x6_2 < (l0_0.length : Int) := of_decide_eq_true (by first | (with_reducible assumption) | assumption)
                                        obtain ⟨ad465, e465, hx465_0⟩ := Kd.at_int HR0_0.out x6_2 p465 q465
                                        cases e465
                                        replace hx465_0 := (HB.out.cell (World.block_lt_of_cell? w _ hx465_0)).trans hx465_0
                                        replace p465 := eq_true p465
                                        replace q465 := eq_true q465
                                        have p466 : 0 ≤ (a1 : Int) := of_decide_eq_true (by first | (with_reducible assumption) | assumption)
                                        have q466 : a1 < (l0_4.length : Int) := of_decide_eq_true (by first | (with_reducible assumption) | assumption)
                                        obtain ⟨ad466, e466, hx466_0⟩ := Kd.at_int HR0_4.out a1 p466 q466
                                        cases e466
                                        replace hx466_0 := (HB.out.cell (World.block_lt_of_cell? w _ hx466_0)).trans hx466_0
                                        replace p466 := eq_true p466
                                        replace q466 := eq_true q466
                                        have p471 : 0 ≤ (t463 : Int) := of_decide_eq_true (by first | (with_reducible assumption) | assumption)
                                        have q471 : t463 < (l0_0.length : Int) := of_decide_eq_true (by first | (with_reducible assumption) | assumption)
                                        obtain ⟨ad471, e471, hx471_0⟩ := Kd.at_int HR0_0.out t463 p471 q471
                                        obtain rfl : ad465 = ad471 := (by injection e471)
                                        replace hx471_0 := (HB.out.cell (World.block_lt_of_cell? w _ hx471_0)).trans hx471_0
                                        replace p471 := eq_true p471
                                        replace q471 := eq_true q471
                                        have p472 : 0 ≤ (x6_2 : Int) := of_decide_eq_true (by first | (with_reducible assumption) | assumption)
                                        have q472 : x6_2 < (l0_0.length : Int) := of_decide_eq_true (by first | (with_reducible assumption) | assumption)
                                        obtain ⟨ad472, e472, hx472_0⟩ := Kd.at_int HR0_0.out x6_2 p472 q472
                                        obtain rfl : ad465 = ad472 := (by injection e472)
                                        replace hx472_0 := (HB.out.cell (World.block_lt_of_cell? w _ hx472_0)).trans hx472_0
                                        replace p472 := eq_true p472
                                        replace q472 := eq_true q472
                                        go_wp2
                                        repeat (go_quiet (fail); try go_wp2)
                                        go_ret
                                        exact ⟨by first | rfl | (simp [errW_none, errW_some] <;> rfl) | (simp only [← hji29, ← hji31]; first | rfl | (simp [errW_none, errW_some] <;> rfl)) | (simp [*, errW_none, errW_some] <;> rfl), by repeat (first | (with_reducible first | exact HB.out | apply below_alloc | apply pw_below_drewN | apply below_drew1 | refine below_set ?_ GE459.out) | exact HB.out)⟩
                                      · rw [if_neg c60] at H
                                        have c60b0 : decide ((rd l0_0 t463) < (rd l0_0 x6_2)) = false := decide_eq_false c60
                                        clear c60
                                        by_cases c62 : (rd l0_0 t463) = (rd l0_0 x6_2)
                                        · rw [if_pos c62] at H
                                          have c62b0 : ((rd l0_0 t463) == (rd l0_0 x6_2)) = true := beq_iff_eq.mpr c62
                                          have c62b1 : ((rd l0_0 t463) != (rd l0_0 x6_2)) = false := bne_eq_false_iff_eq.mpr c62
                                          clear c62
                                          by_cases c63 : t463 > x6_2
                                          · rw [if_pos c63] at H
                                            have c63b0 : decide (x6_2 < t463) = true := decide_eq_true c63
                                            clear c63
                                            clear hT_
                                            obtain rfl := Option.some.inj H
                                            have hcz64_0 : wr.cell? ⟨gb459, 0, none⟩ = some (.slice A0_0 l0_0.length c0_0) := (blk_cell BK459.out 0).trans rfl
                                            have hcz64_1 : wr.cell? ⟨gb459, 1, none⟩ = some (.int .i64 a0_1) := (blk_cell BK459.out 1).trans rfl
                                            have hcz64_2 : wr.cell? ⟨gb459, 2, none⟩ = some (.int .i64 a0_2) := (blk_cell BK459.out 2).trans rfl
                                            have hcz64_3 : wr.cell? ⟨gb459, 3, none⟩ = some (.slice A0_3 l0_3.length c0_3) := (blk_cell BK459.out 3).trans rfl
                                            have hcz64_4 : wr.cell? ⟨gb459, 4, none⟩ = some (.slice A0_4 l0_4.length c0_4) := (blk_cell BK459.out 4).trans rfl
                                            have hfz64_0 := blk_frozen BK459.out 0
                                            have hfz64_1 := blk_frozen BK459.out 1
                                            have hfz64_2 := blk_frozen BK459.out 2
                                            have hfz64_3 := blk_frozen BK459.out 3
                                            have hfz64_4 := blk_frozen BK459.out 4
                                            have p464 : 0 ≤ (a1 : Int) := of_decide_eq_true (by first | (with_reducible assumption) | assumption)
                                            have q464 : a1 < (l0_3.length : Int) := of_decide_eq_true (by first | (with_reducible assumption) | assumption)
                                            obtain ⟨ad464, e464, hx464_0⟩ := Kd.at_int HR0_3.out a1 p464 q464
                                            cases e464
                                            replace hx464_0 := (HB.out.cell (World.block_lt_of_cell? w _ hx464_0)).trans hx464_0
                                            replace p464 := eq_true p464
                                            replace q464 := eq_true q464
                                            have p465 : 0 ≤ (x6_2 : Int) := of_decide_eq_true (by first | (with_reducible assumption) | assumption)
                                            have q465 : x6_2 < (l0_0.length : Int) := of_decide_eq_true (by first | (with_reducible assumption) | assumption)
                                            obtain ⟨ad465, e465, hx465_0⟩ := Kd.at_int HR0_0.out x6_2 p465 q465
                                            cases e465
                                            replace hx465_0 := (HB.out.cell (World.block_lt_of_cell? w _ hx465_0)).trans hx465_0
                                            replace p465 := eq_true p465
                                            replace q465 := eq_true q465
                                            have p466 : 0 ≤ (a1 : Int) := of_decide_eq_true (by first | (with_reducible assumption) | assumption)
                                            have q466 : a1 < (l0_4.length : Int) := of_decide_eq_true (by first | (with_reducible assumption) | assumption)
                                            obtain ⟨ad466, e466, hx466_0⟩ := Kd.at_int HR0_4.out a1 p466 q466
                                            cases e466
                                            replace hx466_0 := (HB.out.cell (World.block_lt_of_cell? w _ hx466_0)).trans hx466_0
                                            replace p466 := eq_true p466
                                            replace q466 := eq_true q466
                                            have p471 : 0 ≤ (t463 : Int) := of_decide_eq_true (by first | (with_reducible assumption) | assumption)
                                            have q471 : t463 < (l0_0.length : Int) := of_decide_eq_true (by first | (with_reducible assumption) | assumption)
                                            obtain ⟨ad471, e471, hx471_0⟩ := Kd.at_int HR0_0.out t463 p471 q471
                                            obtain rfl : ad465 = ad471 := (by injection e471)
                                            replace hx471_0 := (HB.out.cell (World.block_lt_of_cell? w _ hx471_0)).trans hx471_0
                                            replace p471 := eq_true p471
                                            replace q471 := eq_true q471
                                            have p472 : 0 ≤ (x6_2 : Int) := of_decide_eq_true (by first | (with_reducible assumption) | assumption)
                                            have q472 : x6_2 < (l0_0.length : Int) := of_decide_eq_true (by first | (with_reducible assumption) | assumption)
                                            obtain ⟨ad472, e472, hx472_0⟩ := Kd.at_int HR0_0.out x6_2 p472 q472
                                            obtain rfl : ad465 = ad472 := (by injection e472)
                                            replace hx472_0 := (HB.out.cell (World.block_lt_of_cell? w _ hx472_0)).trans hx472_0
                                            replace p472 := eq_true p472
                                            replace q472 := eq_true q472
                                            have p473 : 0 ≤ (t463 : Int) := of_decide_eq_true (by first | (with_reducible assumption) | assumption)
                                            have q473 : t463 < (l0_0.length : Int) := of_decide_eq_true (by first | (with_reducible assumption) | assumption)
                                            obtain ⟨ad473, e473, hx473_0⟩ := Kd.at_int HR0_0.out t463 p473 q473
                                            obtain rfl : ad465 = ad473 := (by injection e473)
                                            replace hx473_0 := (HB.out.cell (World.block_lt_of_cell? w _ hx473_0)).trans hx473_0
                                            replace p473 := eq_true p473
                                            replace q473 := eq_true q473
                                            have p474 : 0 ≤ (x6_2 : Int) := of_decide_eq_true (by first | (with_reducible assumption) | assumption)
                                            have q474 : x6_2 < (l0_0.length : Int) := of_decide_eq_true (by first | (with_reducible assumption) | assumption)
                                            obtain ⟨ad474, e474, hx474_0⟩ := Kd.at_int HR0_0.out x6_2 p474 q474
                                            obtain rfl : ad465 = ad474 := (by injection e474)
                                            replace hx474_0 := (HB.out.cell (World.block_lt_of_cell? w _ hx474_0)).trans hx474_0
                                            replace p474 := eq_true p474
                                            replace q474 := eq_true q474
                                            go_wp2
                                            repeat (go_quiet (fail); try go_wp2)
                                            go_ret
                                            exact ⟨by first | rfl | (simp [errW_none, errW_some] <;> rfl) | (simp only [← hji29, ← hji31]; first | rfl | (simp [errW_none, errW_some] <;> rfl)) | (simp [*, errW_none, errW_some] <;> rfl), by repeat (first | (with_reducible first | exact HB.out | apply below_alloc | apply pw_below_drewN | apply below_drew1 | refine below_set ?_ GE459.out) | exact HB.out)⟩
                                          · rw [if_neg c63] at H
                                            have c63b0 : decide (x6_2 < t463) = false := decide_eq_false c63
                                            clear c63
                                            have H' := Aside0.mk H
                                            clear H
                                            have hcz65_0 : wr.cell? ⟨gb459, 0, none⟩ = some (.slice A0_0 l0_0.length c0_0) := (blk_cell BK459.out 0).trans rfl
                                            have hcz65_1 : wr.cell? ⟨gb459, 1, none⟩ = some (.int .i64 a0_1) := (blk_cell BK459.out 1).trans rfl
                                            have hcz65_2 : wr.cell? ⟨gb459, 2, none⟩ = some (.int .i64 a0_2) := (blk_cell BK459.out 2).trans rfl
                                            have hcz65_3 : wr.cell? ⟨gb459, 3, none⟩ = some (.slice A0_3 l0_3.length c0_3) := (blk_cell BK459.out 3).trans rfl
                                            have hcz65_4 : wr.cell? ⟨gb459, 4, none⟩ = some (.slice A0_4 l0_4.length c0_4) := (blk_cell BK459.out 4).trans rfl
                                            have hfz65_0 := blk_frozen BK459.out 0
                                            have hfz65_1 := blk_frozen BK459.out 1
                                            have hfz65_2 := blk_frozen BK459.out 2
                                            have hfz65_3 := blk_frozen BK459.out 3
                                            have hfz65_4 := blk_frozen BK459.out 4
                                            have p464 : 0 ≤ (a1 : Int) := of_decide_eq_true (by first | (with_reducible assumption) | assumption)
                                            have q464 : a1 < (l0_3.length : Int) := of_decide_eq_true (by first | (with_reducible assumption) | assumption)
                                            obtain ⟨ad464, e464, hx464_0⟩ := Kd.at_int HR0_3.out a1 p464 q464
                                            cases e464
                                            replace hx464_0 := (HB.out.cell (World.block_lt_of_cell? w _ hx464_0)).trans hx464_0
                                            replace p464 := eq_true p464
                                            replace q464 := eq_true q464
                                            have p465 : 0 ≤ (x6_2 : Int) := of_decide_eq_true (by first | (with_reducible assumption) | assumption)
                                            have q465 : x6_2 < (l0_0.length : Int) := of_decide_eq_true (by first | (with_reducible assumption) | assumption)
                                            obtain ⟨ad465, e465, hx465_0⟩ := Kd.at_int HR0_0.out x6_2 p465 q465
                                            cases e465
                                            replace hx465_0 := (HB.out.cell (World.block_lt_of_cell? w _ hx465_0)).trans hx465_0
                                            replace p465 := eq_true p465
                                            replace q465 := eq_true q465
                                            have p466 : 0 ≤ (a1 : Int) := of_decide_eq_true (by first | (with_reducible assumption) | assumption)
                                            have q466 : a1 < (l0_4.length : Int) := of_decide_eq_true (by first | (with_reducible assumption) | assumption)
                                            obtain ⟨ad466, e466, hx466_0⟩ := Kd.at_int HR0_4.out a1 p466 q466
                                            cases e466
                                            replace hx466_0 := (HB.out.cell (World.block_lt_of_cell? w _ hx466_0)).trans hx466_0
                                            replace p466 := eq_true p466
                                            replace q466 := eq_true q466
                                            have p471 : 0 ≤ (t463 : Int) := of_decide_eq_true (by first | (with_reducible assumption) | assumption)
                                            have q471 : t463 < (l0_0.length : Int) := of_decide_eq_true (by first | (with_reducible assumption) | assumption)
                                            obtain ⟨ad471, e471, hx471_0⟩ := Kd.at_int HR0_0.out t463 p471 q471
                                            obtain rfl : ad465 = ad471 := (by injection e471)
                                            replace hx471_0 := (HB.out.cell (World.block_lt_of_cell? w _ hx471_0)).trans hx471_0
                                            replace p471 := eq_true p471
                                            replace q471 := eq_true q471
                                            have p472 : 0 ≤ (x6_2 : Int) := of_decide_eq_true (by first | (with_reducible assumption) | assumption)
                                            have q472 : x6_2 < (l0_0.length : Int) := of_decide_eq_true (by first | (with_reducible assumption) | assumption)
                                            obtain ⟨ad472, e472, hx472_0⟩ := Kd.at_int HR0_0.out x6_2 p472 q472
                                            obtain rfl : ad465 = ad472 := (by injection e472)
                                            replace hx472_0 := (HB.out.cell (World.block_lt_of_cell? w _ hx472_0)).trans hx472_0
                                            replace p472 := eq_true p472
                                            replace q472 := eq_true q472
                                            have p473 : 0 ≤ (t463 : Int) := of_decide_eq_true (by first | (with_reducible assumption) | assumption)
                                            have q473 : t463 < (l0_0.length : Int) := of_decide_eq_true (by first | (with_reducible assumption) | assumption)
                                            obtain ⟨ad473, e473, hx473_0⟩ := Kd.at_int HR0_0.out t463 p473 q473
                                            obtain rfl : ad465 = ad473 := (by injection e473)
                                            replace hx473_0 := (HB.out.cell (World.block_lt_of_cell? w _ hx473_0)).trans hx473_0
                                            replace p473 := eq_true p473
                                            replace q473 := eq_true q473
                                            have p474 : 0 ≤ (x6_2 : Int) := of_decide_eq_true (by first | (with_reducible assumption) | assumption)
                                            have q474 : x6_2 < (l0_0.length : Int) := of_decide_eq_true (by first | (with_reducible assumption) | assumption)
                                            obtain ⟨ad474, e474, hx474_0⟩ := Kd.at_int HR0_0.out x6_2 p474 q474
                                            obtain rfl : ad465 = ad474 := (by injection e474)
                                            replace hx474_0 := (HB.out.cell (World.block_lt_of_cell? w _ hx474_0)).trans hx474_0
                                            replace p474 := eq_true p474
                                            replace q474 := eq_true q474
                                            go_wp2
                                            repeat (go_quiet (fail); try go_wp2)
                                            go_roundg k2
                                            case measure => have := HJ2.out; have := HK2.out; omega
                                            case rel => exact ⟨(wrap64 (x6_2 + 1)), (by first | rfl | (simp; done) | (simp [*]; done)), H', ⟨by have := HJ2.out; have := HK2.out; omega⟩, ⟨by (with_reducible repeat (first | refine blk_drewN ?_ _ | refine blk_drew ?_ | refine blk_alloc ?_ _)); exact BK459.out⟩, ⟨by repeat (first | (with_reducible first | exact HB.out | apply below_alloc | apply pw_below_drewN | apply below_drew1 | refine below_set ?_ GE459.out) | exact HB.out)⟩⟩
                                        · rw [if_neg c62] at H
                                          have c62b0 : ((rd l0_0 t463) == (rd l0_0 x6_2)) = false := beq_eq_false_iff_ne.mpr c62
                                          have c62b1 : ((rd l0_0 t463) != (rd l0_0 x6_2)) = true := bne_iff_ne.mpr c62
                                          have H' := Aside0.mk H
                                          clear H
                                          have hcz66_0 : wr.cell? ⟨gb459, 0, none⟩ = some (.slice A0_0 l0_0.length c0_0) := (blk_cell BK459.out 0).trans rfl
                                          have hcz66_1 : wr.cell? ⟨gb459, 1, none⟩ = some (.int .i64 a0_1) := (blk_cell BK459.out 1).trans rfl
                                          have hcz66_2 : wr.cell? ⟨gb459, 2, none⟩ = some (.int .i64 a0_2) := (blk_cell BK459.out 2).trans rfl
                                          have hcz66_3 : wr.cell? ⟨gb459, 3, none⟩ = some (.slice A0_3 l0_3.length c0_3) := (blk_cell BK459.out 3).trans rfl
                                          have hcz66_4 : wr.cell? ⟨gb459, 4, none⟩ = some (.slice A0_4 l0_4.length c0_4) := (blk_cell BK459.out 4).trans rfl
                                          have hfz66_0 := blk_frozen BK459.out 0
                                          have hfz66_1 := blk_frozen BK459.out 1
                                          have hfz66_2 := blk_frozen BK459.out 2
                                          have hfz66_3 := blk_frozen BK459.out 3
                                          have hfz66_4 := blk_frozen BK459.out 4
                                          have p464 : 0 ≤ (a1 : Int) := of_decide_eq_true (by first | (with_reducible assumption) | assumption)
                                          have q464 : a1 < (l0_3.length : Int) := of_decide_eq_true (by first | (with_reducible assumption) | assumption)
                                          obtain ⟨ad464, e464, hx464_0⟩ := Kd.at_int HR0_3.out a1 p464 q464
                                          cases e464
                                          replace hx464_0 := (HB.out.cell (World.block_lt_of_cell? w _ hx464_0)).trans hx464_0
                                          replace p464 := eq_true p464
                                          replace q464 := eq_true q464
                                          have p465 : 0 ≤ (x6_2 : Int) := of_decide_eq_true (by first | (with_reducible assumption) | assumption)
                                          have q465 : x6_2 < (l0_0.length : Int) := of_decide_eq_true (by first | (with_reducible assumption) | assumption)
                                          obtain ⟨ad465, e465, hx465_0⟩ := Kd.at_int HR0_0.out x6_2 p465 q465
                                          cases e465
                                          replace hx465_0 := (HB.out.cell (World.block_lt_of_cell? w _ hx465_0)).trans hx465_0
                                          replace p465 := eq_true p465
                                          replace q465 := eq_true q465
                                          have p466 : 0 ≤ (a1 : Int) := of_decide_eq_true (by first | (with_reducible assumption) | assumption)
                                          have q466 : a1 < (l0_4.length : Int) := of_decide_eq_true (by first | (with_reducible assumption) | assumption)
                                          obtain ⟨ad466, e466, hx466_0⟩ := Kd.at_int HR0_4.out a1 p466 q466
                                          cases e466
                                          replace hx466_0 := (HB.out.cell (World.block_lt_of_cell? w _ hx466_0)).trans hx466_0
                                          replace p466 := eq_true p466
                                          replace q466 := eq_true q466
                                          have p471 : 0 ≤ (t463 : Int) := of_decide_eq_true (by first | (with_reducible assumption) | assumption)
                                          have q471 : t463 < (l0_0.length : Int) := of_decide_eq_true (by first | (with_reducible assumption) | assumption)
                                          obtain ⟨ad471, e471, hx471_0⟩ := Kd.at_int HR0_0.out t463 p471 q471
                                          obtain rfl : ad465 = ad471 := (by injection e471)
                                          replace hx471_0 := (HB.out.cell (World.block_lt_of_cell? w _ hx471_0)).trans hx471_0
                                          replace p471 := eq_true p471
                                          replace q471 := eq_true q471
                                          have p472 : 0 ≤ (x6_2 : Int) := of_decide_eq_true (by first | (with_reducible assumption) | assumption)
                                          have q472 : x6_2 < (l0_0.length : Int) := of_decide_eq_true (by first | (with_reducible assumption) | assumption)
                                          obtain ⟨ad472, e472, hx472_0⟩ := Kd.at_int HR0_0.out x6_2 p472 q472
                                          obtain rfl : ad465 = ad472 := (by injection e472)
                                          replace hx472_0 := (HB.out.cell (World.block_lt_of_cell? w _ hx472_0)).trans hx472_0
                                          replace p472 := eq_true p472
                                          replace q472 := eq_true q472
                                          have p473 : 0 ≤ (t463 : Int) := of_decide_eq_true (by first | (with_reducible assumption) | assumption)
                                          have q473 : t463 < (l0_0.length : Int) := of_decide_eq_true (by first | (with_reducible assumption) | assumption)
                                          obtain ⟨ad473, e473, hx473_0⟩ := Kd.at_int HR0_0.out t463 p473 q473
                                          obtain rfl : ad465 = ad473 := (by injection e473)
                                          replace hx473_0 := (HB.out.cell (World.block_lt_of_cell? w _ hx473_0)).trans hx473_0
                                          replace p473 := eq_true p473
                                          replace q473 := eq_true q473
                                          have p474 : 0 ≤ (x6_2 : Int) := of_decide_eq_true (by first | (with_reducible assumption) | assumption)
                                          have q474 : x6_2 < (l0_0.length : Int) := of_decide_eq_true (by first | (with_reducible assumption) | assumption)
                                          obtain ⟨ad474, e474, hx474_0⟩ := Kd.at_int HR0_0.out x6_2 p474 q474
                                          obtain rfl : ad465 = ad474 := (by injection e474)
                                          replace hx474_0 := (HB.out.cell (World.block_lt_of_cell? w _ hx474_0)).trans hx474_0
                                          replace p474 := eq_true p474
                                          replace q474 := eq_true q474
                                          go_wp2
                                          repeat (go_quiet (fail); try go_wp2)
                                          go_roundg k2
                                          case measure => have := HJ2.out; have := HK2.out; omega
                                          case rel => exact ⟨(wrap64 (x6_2 + 1)), (by first | rfl | (simp; done) | (simp [*]; done)), H', ⟨by have := HJ2.out; have := HK2.out; omega⟩, ⟨by (with_reducible repeat (first | refine blk_drewN ?_ _ | refine blk_drew ?_ | refine blk_alloc ?_ _)); exact BK459.out⟩, ⟨by repeat (first | (with_reducible first | exact HB.out | apply below_alloc | apply pw_below_drewN | apply below_drew1 | refine below_set ?_ GE459.out) | exact HB.out)⟩⟩
                                    · rw [if_neg c59] at H
                                      exact absurd H (by simp)
                                  · rw [if_neg c58] at H
                                    exact absurd H (by simp)
                              · rw [if_neg c55] at H
                                have c55b0 : decide ((rd l0_4 a1) < (rd l0_0 x6_2)) = false := decide_eq_false c55
                                clear c55
                                have H' := Aside0.mk H
                                clear H
                                have hcz67_0 : wr.cell? ⟨gb459, 0, none⟩ = some (.slice A0_0 l0_0.length c0_0) := (blk_cell BK459.out 0).trans rfl
                                have hcz67_1 : wr.cell? ⟨gb459, 1, none⟩ = some (.int .i64 a0_1) := (blk_cell BK459.out 1).trans rfl
                                have hcz67_2 : wr.cell? ⟨gb459, 2, none⟩ = some (.int .i64 a0_2) := (blk_cell BK459.out 2).trans rfl
                                have hcz67_3 : wr.cell? ⟨gb459, 3, none⟩ = some (.slice A0_3 l0_3.length c0_3) := (blk_cell BK459.out 3).trans rfl
                                have hcz67_4 : wr.cell? ⟨gb459, 4, none⟩ = some (.slice A0_4 l0_4.length c0_4) := (blk_cell BK459.out 4).trans rfl
                                have hfz67_0 := blk_frozen BK459.out 0
                                have hfz67_1 := blk_frozen BK459.out 1
                                have hfz67_2 := blk_frozen BK459.out 2
                                have hfz67_3 := blk_frozen BK459.out 3
                                have hfz67_4 := blk_frozen BK459.out 4
                                have p464 : 0 ≤ (a1 : Int) := of_decide_eq_true (by first | (with_reducible assumption) | assumption)
                                have q464 : a1 < (l0_3.length : Int) := of_decide_eq_true (by first | (with_reducible assumption) | assumption)
                                obtain ⟨ad464, e464, hx464_0⟩ := Kd.at_int HR0_3.out a1 p464 q464
                                cases e464
                                replace hx464_0 := (HB.out.cell (World.block_lt_of_cell? w _ hx464_0)).trans hx464_0
                                replace p464 := eq_true p464
                                replace q464 := eq_true q464
                                have p465 : 0 ≤ (x6_2 : Int) := of_decide_eq_true (by first | (with_reducible assumption) | assumption)
                                have q465 : x6_2 < (l0_0.length : Int) := of_decide_eq_true (by first | (with_reducible assumption) | assumption)
                                obtain ⟨ad465, e465, hx465_0⟩ := Kd.at_int HR0_0.out x6_2 p465 q465
                                cases e465
                                replace hx465_0 := (HB.out.cell (World.block_lt_of_cell? w _ hx465_0)).trans hx465_0
                                replace p465 := eq_true p465
                                replace q465 := eq_true q465
                                have p466 : 0 ≤ (a1 : Int) := of_decide_eq_true (by first | (with_reducible assumption) | assumption)
                                have q466 : a1 < (l0_4.length : Int) := of_decide_eq_true (by first | (with_reducible assumption) | assumption)
                                obtain ⟨ad466, e466, hx466_0⟩ := Kd.at_int HR0_4.out a1 p466 q466
                                cases e466
                                replace hx466_0 := (HB.out.cell (World.block_lt_of_cell? w _ hx466_0)).trans hx466_0
                                replace p466 := eq_true p466
                                replace q466 := eq_true q466
                                go_wp2
                                repeat (go_quiet (fail); try go_wp2)
                                go_roundg k2
                                case measure => have := HJ2.out; have := HK2.out; omega
                                case rel => exact ⟨(wrap64 (x6_2 + 1)), (by first | rfl | (simp; done) | (simp [*]; done)), H', ⟨by have := HJ2.out; have := HK2.out; omega⟩, ⟨by (with_reducible repeat (first | refine blk_drewN ?_ _ | refine blk_drew ?_ | refine blk_alloc ?_ _)); exact BK459.out⟩, ⟨by repeat (first | (with_reducible first | exact HB.out | apply below_alloc | apply pw_below_drewN | apply below_drew1 | refine below_set ?_ GE459.out) | exact HB.out)⟩⟩
                          · rw [if_neg c38] at H
                            exact absurd H (by simp)
                        · rw [if_neg c37] at H
                          exact absurd H (by simp)
                      · rw [if_neg c36] at H
                        exact absurd H (by simp)
                  · rw [if_neg c30] at H
                    exact absurd H (by simp)
                · rw [if_neg c28] at H
                  exact absurd H (by simp)
              · rw [if_neg c27] at H
                exact absurd H (by simp)
            · rw [if_neg c26] at H
              have c26b0 : decide (x6_2 ≤ 2) = false := decide_eq_false c26
              clear c26
              by_cases c68 : t463 ≥ 0
              · rw [if_pos c68] at H
                have c68b0 : decide (0 ≤ t463) = true := decide_eq_true c68
                clear c68
                by_cases c69 : t463 ≤ 2
                · rw [if_pos c69] at H
                  have c69b0 : decide (t463 ≤ 2) = true := decide_eq_true c69
                  clear c69
                  replace H := Option.bind_eq_some_iff.mp H
                  obtain ⟨t475, A700, H⟩ := H
                  replace H : (some t475) = some r := H
                  have A70 := Aside0.mk A700
                  clear A700
                  clear hT_
                  obtain rfl := Option.some.inj H
                  go_wp2_with (first | (go_at_call 10; (with_reducible refine (drawbridgelaw10_heads.calls  t475 _ A70.out).mono ?_); rintro e w71 ⟨rfl, hb⟩; have n0_ := Aside0.mk (blk_below (g := gb459) (o := .cells #[.slice A0_0 l0_0.length c0_0, .int .i64 a0_1, .int .i64 a0_2, .slice A0_3 l0_3.length c0_3, .slice A0_4 l0_4.length c0_4] 24 (0, 0)) (by (with_reducible repeat (first | refine blk_drewN ?_ _ | refine blk_drew ?_ | refine blk_alloc ?_ _)); exact BK459.out) hb); have n1_ := Aside0.mk (below_step (by repeat (first | (with_reducible first | exact HB.out | apply below_alloc | apply pw_below_drewN | apply below_drew1 | refine below_set ?_ GE459.out) | exact HB.out)) hb); clear BK459; clear HB; have BK459 := n0_; have HB := n1_; clear n0_ n1_; (try clear hb); (try clear hb2); (try clear hk); (try clear hi)))
                  repeat (go_quiet (first | (go_at_call 10; (with_reducible refine (drawbridgelaw10_heads.calls  t475 _ A70.out).mono ?_); rintro e w71 ⟨rfl, hb⟩; have n0_ := Aside0.mk (blk_below (g := gb459) (o := .cells #[.slice A0_0 l0_0.length c0_0, .int .i64 a0_1, .int .i64 a0_2, .slice A0_3 l0_3.length c0_3, .slice A0_4 l0_4.length c0_4] 24 (0, 0)) (by (with_reducible repeat (first | refine blk_drewN ?_ _ | refine blk_drew ?_ | refine blk_alloc ?_ _)); exact BK459.out) hb); have n1_ := Aside0.mk (below_step (by repeat (first | (with_reducible first | exact HB.out | apply below_alloc | apply pw_below_drewN | apply below_drew1 | refine below_set ?_ GE459.out) | exact HB.out)) hb); clear BK459; clear HB; have BK459 := n0_; have HB := n1_; clear n0_ n1_; (try clear hb); (try clear hb2); (try clear hk); (try clear hi))); try go_wp2_with (first | (go_at_call 10; (with_reducible refine (drawbridgelaw10_heads.calls  t475 _ A70.out).mono ?_); rintro e w71 ⟨rfl, hb⟩; have n0_ := Aside0.mk (blk_below (g := gb459) (o := .cells #[.slice A0_0 l0_0.length c0_0, .int .i64 a0_1, .int .i64 a0_2, .slice A0_3 l0_3.length c0_3, .slice A0_4 l0_4.length c0_4] 24 (0, 0)) (by (with_reducible repeat (first | refine blk_drewN ?_ _ | refine blk_drew ?_ | refine blk_alloc ?_ _)); exact BK459.out) hb); have n1_ := Aside0.mk (below_step (by repeat (first | (with_reducible first | exact HB.out | apply below_alloc | apply pw_below_drewN | apply below_drew1 | refine below_set ?_ GE459.out) | exact HB.out)) hb); clear BK459; clear HB; have BK459 := n0_; have HB := n1_; clear n0_ n1_; (try clear hb); (try clear hb2); (try clear hk); (try clear hi))))
                  go_ret
                  exact ⟨by first | rfl | (simp [errW_none, errW_some] <;> rfl) | (simp [*, errW_none, errW_some] <;> rfl), by repeat (first | (with_reducible first | exact HB.out | apply below_alloc | apply pw_below_drewN | apply below_drew1 | refine below_set ?_ GE459.out) | exact HB.out)⟩
                · rw [if_neg c69] at H
                  have c69b0 : decide (t463 ≤ 2) = false := decide_eq_false c69
                  clear c69
                  clear hT_
                  obtain rfl := Option.some.inj H
                  go_wp2
                  repeat (go_quiet (fail); try go_wp2)
                  go_ret
                  exact ⟨by first | rfl | (simp [errW_none, errW_some] <;> rfl) | (simp [*, errW_none, errW_some] <;> rfl), by repeat (first | (with_reducible first | exact HB.out | apply below_alloc | apply pw_below_drewN | apply below_drew1 | refine below_set ?_ GE459.out) | exact HB.out)⟩
              · rw [if_neg c68] at H
                have c68b0 : decide (0 ≤ t463) = false := decide_eq_false c68
                clear c68
                clear hT_
                obtain rfl := Option.some.inj H
                go_wp2
                repeat (go_quiet (fail); try go_wp2)
                go_ret
                exact ⟨by first | rfl | (simp [errW_none, errW_some] <;> rfl) | (simp [*, errW_none, errW_some] <;> rfl), by repeat (first | (with_reducible first | exact HB.out | apply below_alloc | apply pw_below_drewN | apply below_drew1 | refine below_set ?_ GE459.out) | exact HB.out)⟩

end Go.Proofs.Ytmlpnjoejdpblaa.Q
