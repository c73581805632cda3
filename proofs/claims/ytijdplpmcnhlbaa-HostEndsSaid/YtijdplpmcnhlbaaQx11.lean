-- Ytijdplpmcnhlbaa: written by a program for this claim (several laws of one seat at once)
import Derived.Test.YtijdplpmcnhlbaaQx0
import Derived.Test.YtijdplpmcnhlbaaQx7
import Derived.Test.YtijdplpmcnhlbaaHchk
import Derived.Test.YtijdplpmcnhlbaaHclose
import Derived.Test.YtijdplpmcnhlbaaHhear
import Derived.Test.YtijdplpmcnhlbaaHshut
namespace Go.Proofs.Ytijdplpmcnhlbaa.Q
open Go.RowKit Go.Proofs.YtijdplpmcnhlbaaW.PrintWords Go.Proofs.YtijdplpmcnhlbaaW.PrintLast Go.Proofs.YtijdplpmcnhlbaaW.PrintMore
attribute [local go_sem] max2_int min2_int max_two min_two max_three min_three max_four min_four   -- for this text's walks alone
set_option linter.unusedVariables false
set_option linter.unusedSimpArgs false

/-! ### drawbridgelaw27_HostEnds: function 4 -/
mutual
def drawbridgelaw27_HostEnds.j0 : Nat → List (S34) → Int → Bool → Int → Int → List Int → Int → Option (Bool)
  | 0, _, _, _, _, _, _, _ => none
  | k + 1, x0, x1, x32, x323000, x323001, x323002, x323003 => if x32 = true then ((drawbridgelaw27_heads.f).bind fun t324 => (some t324)) else ((host_Hear.f x0 4 x1 ([] : List Int) 0).bind fun bt325 => ((host_Hear.f bt325.1 x323000 x1 x323002 x323003).bind fun bt329 => ((host_Shut.f x0 x1).bind fun bt333 => ((host_Hear.f bt333.1 x323000 x1 x323002 x323003).bind fun bt337 => ((host_Close.f x0 x1).bind fun bt341 => ((host_Hear.f bt341.1 x323000 x1 x323002 x323003).bind fun bt345 => (if bt325.2 = true then (if bt329.2 = true then (if x323000 = 3 then (drawbridgelaw27_HostEnds.j1 k bt325.1 bt333.1 bt341.1 true) else (if x323000 = 4 then (drawbridgelaw27_HostEnds.j1 k bt325.1 bt333.1 bt341.1 true) else (if bt333.2 = true then (if bt337.2 = true then (if x323000 = 5 then (drawbridgelaw27_HostEnds.j1 k bt325.1 bt333.1 bt341.1 true) else (if bt341.2 = true then (drawbridgelaw27_HostEnds.j1 k bt325.1 bt333.1 bt341.1 bt345.2) else (drawbridgelaw27_HostEnds.j1 k bt325.1 bt333.1 bt341.1 false))) else (if bt341.2 = true then (drawbridgelaw27_HostEnds.j1 k bt325.1 bt333.1 bt341.1 bt345.2) else (drawbridgelaw27_HostEnds.j1 k bt325.1 bt333.1 bt341.1 false))) else (if bt341.2 = true then (drawbridgelaw27_HostEnds.j1 k bt325.1 bt333.1 bt341.1 bt345.2) else (drawbridgelaw27_HostEnds.j1 k bt325.1 bt333.1 bt341.1 false))))) else (if bt333.2 = true then (if bt337.2 = true then (if x323000 = 5 then (drawbridgelaw27_HostEnds.j1 k bt325.1 bt333.1 bt341.1 true) else (if bt341.2 = true then (drawbridgelaw27_HostEnds.j1 k bt325.1 bt333.1 bt341.1 bt345.2) else (drawbridgelaw27_HostEnds.j1 k bt325.1 bt333.1 bt341.1 false))) else (if bt341.2 = true then (drawbridgelaw27_HostEnds.j1 k bt325.1 bt333.1 bt341.1 bt345.2) else (drawbridgelaw27_HostEnds.j1 k bt325.1 bt333.1 bt341.1 false))) else (if bt341.2 = true then (drawbridgelaw27_HostEnds.j1 k bt325.1 bt333.1 bt341.1 bt345.2) else (drawbridgelaw27_HostEnds.j1 k bt325.1 bt333.1 bt341.1 false)))) else (if bt333.2 = true then (if bt337.2 = true then (if x323000 = 5 then (drawbridgelaw27_HostEnds.j1 k bt325.1 bt333.1 bt341.1 true) else (if bt341.2 = true then (drawbridgelaw27_HostEnds.j1 k bt325.1 bt333.1 bt341.1 bt345.2) else (drawbridgelaw27_HostEnds.j1 k bt325.1 bt333.1 bt341.1 false))) else (if bt341.2 = true then (drawbridgelaw27_HostEnds.j1 k bt325.1 bt333.1 bt341.1 bt345.2) else (drawbridgelaw27_HostEnds.j1 k bt325.1 bt333.1 bt341.1 false))) else (if bt341.2 = true then (drawbridgelaw27_HostEnds.j1 k bt325.1 bt333.1 bt341.1 bt345.2) else (drawbridgelaw27_HostEnds.j1 k bt325.1 bt333.1 bt341.1 false))))))))))
def drawbridgelaw27_HostEnds.j1 : Nat → List (S34) → List (S34) → List (S34) → Bool → Option (Bool)
  | 0, _, _, _, _ => none
  | k + 1, x7, x11, x15, x103 => if x103 = true then (some false) else ((host_Check.f x7).bind fun t349 => (if t349 = true then ((host_Check.f x11).bind fun t350 => (if t350 = true then ((host_Check.f x15).bind fun t351 => (if t351 = true then ((drawbridgelaw27_heads.f).bind fun t352 => (some t352)) else (some false))) else (some false))) else (some false)))
end
def drawbridgelaw27_HostEnds.f (k : Nat) (l0 : List (S34)) (a1 : Int) (a2_0 : Int) (a2_1 : Int) (l2_2 : List Int) (a2_3 : Int) : Option (Bool) := if (l0.length : Int) > 40 then (drawbridgelaw27_HostEnds.j0 k l0 a1 true a2_0 a2_1 l2_2 a2_3) else (if (l2_2.length : Int) > 5000 then (drawbridgelaw27_HostEnds.j0 k l0 a1 true a2_0 a2_1 l2_2 a2_3) else ((host_Check.f l0).bind fun t323 => (drawbridgelaw27_HostEnds.j0 k l0 a1 (!t323) a2_0 a2_1 l2_2 a2_3)))
theorem drawbridgelaw27_HostEnds.mono_l : ∀ k, (∀ y0 y1 y2 y3 y4 y5 y6, LeO (drawbridgelaw27_HostEnds.j0 k y0 y1 y2 y3 y4 y5 y6) (drawbridgelaw27_HostEnds.j0 (k + 1) y0 y1 y2 y3 y4 y5 y6)) ∧ (∀ y0 y1 y2 y3, LeO (drawbridgelaw27_HostEnds.j1 k y0 y1 y2 y3) (drawbridgelaw27_HostEnds.j1 (k + 1) y0 y1 y2 y3))
  | 0 => ⟨fun _ _ _ _ _ _ _ r h => by simp [drawbridgelaw27_HostEnds.j0] at h, fun _ _ _ _ r h => by simp [drawbridgelaw27_HostEnds.j1] at h⟩
  | k + 1 => by
    obtain ⟨ih0, ih1⟩ := drawbridgelaw27_HostEnds.mono_l k
    refine ⟨?_, ?_⟩
    · intro y0 y1 y2 y3 y4 y5 y6
      unfold drawbridgelaw27_HostEnds.j0
      repeat' first
      | (with_reducible exact ih0 _ _ _ _ _ _ _)
      | (with_reducible exact ih1 _ _ _ _)
      | (with_reducible exact LeO.refl _)
      | (with_reducible exact LeO.none _)
      | (with_reducible refine LeO.ite ?_ ?_)
      | (with_reducible refine LeO.bind ?_ (fun _ => ?_))
      | exact ih0 _ _ _ _ _ _ _
      | exact ih1 _ _ _ _
      | exact LeO.none _
      | refine LeO.ite ?_ ?_
      | refine LeO.bind ?_ (fun _ => ?_)
    · intro y0 y1 y2 y3
      unfold drawbridgelaw27_HostEnds.j1
      repeat' first
      | (with_reducible exact ih0 _ _ _ _ _ _ _)
      | (with_reducible exact ih1 _ _ _ _)
      | (with_reducible exact LeO.refl _)
      | (with_reducible exact LeO.none _)
      | (with_reducible refine LeO.ite ?_ ?_)
      | (with_reducible refine LeO.bind ?_ (fun _ => ?_))
      | exact ih0 _ _ _ _ _ _ _
      | exact ih1 _ _ _ _
      | exact LeO.none _
      | refine LeO.ite ?_ ?_
      | refine LeO.bind ?_ (fun _ => ?_)
theorem drawbridgelaw27_HostEnds.mono : ∀ a0 a1 a2 a3 a4 a5 k, LeO (drawbridgelaw27_HostEnds.f k a0 a1 a2 a3 a4 a5) (drawbridgelaw27_HostEnds.f (k + 1) a0 a1 a2 a3 a4 a5) := by
  intro a0 a1 a2 a3 a4 a5 k
  obtain ⟨ih0, ih1⟩ := drawbridgelaw27_HostEnds.mono_l k
  unfold drawbridgelaw27_HostEnds.f
  repeat' first
      | (with_reducible exact ih0 _ _ _ _ _ _ _)
      | (with_reducible exact ih1 _ _ _ _)
      | (with_reducible exact LeO.refl _)
      | (with_reducible exact LeO.none _)
      | (with_reducible refine LeO.ite ?_ ?_)
      | (with_reducible refine LeO.bind ?_ (fun _ => ?_))
      | exact ih0 _ _ _ _ _ _ _
      | exact ih1 _ _ _ _
      | exact LeO.none _
      | refine LeO.ite ?_ ?_
      | refine LeO.bind ?_ (fun _ => ?_)
set_option maxHeartbeats 8000000 in
set_option maxRecDepth 100000 in
theorem drawbridgelaw27_HostEnds.calls (k : Nat) (A0 : Option Addr) (c0 : Nat) (l0 : List (S34)) (a1 : Int) (a2_0 : Int) (a2_1 : Int) (A2_2 : Option Addr) (c2_2 : Nat) (l2_2 : List Int) (a2_3 : Int) (r : Bool) (w : World) (hr0 : Kd.C k34 w A0 l0.length l0) (hc0 : l0.length ≤ c0) (hr2_2 : Kd.C (Kd.int .u8) w A2_2 l2_2.length l2_2) (hc2_2 : l2_2.length ≤ c2_2) (h : drawbridgelaw27_HostEnds.f k l0 a1 a2_0 a2_1 l2_2 a2_3 = some r) (hT_ : r = true) :
    Calls Try.prog 4 #[.slice A0 l0.length c0, .int .i64 a1, .agg #[.int .i64 a2_0, .int .i64 a2_1, .slice A2_2 l2_2.length c2_2, .int .i64 a2_3]] w fun e w' => e = .returned (.bool r) ∧ Below w.heap.size w w' := by
  have hu25 := Try.underlying25
  have HR0 := Aside0.mk hr0
  have HC0 := Aside0.mk hc0
  clear hr0 hc0
  have HR2_2 := Aside0.mk hr2_2
  have HC2_2 := Aside0.mk hc2_2
  clear hr2_2 hc2_2
  have HB := Aside0.mk (Below.refl w.heap.size w)
  have H : (if (l0.length : Int) > 40 then (drawbridgelaw27_HostEnds.j0 k l0 a1 true a2_0 a2_1 l2_2 a2_3) else (if (l2_2.length : Int) > 5000 then (drawbridgelaw27_HostEnds.j0 k l0 a1 true a2_0 a2_1 l2_2 a2_3) else ((host_Check.f l0).bind fun t323 => (drawbridgelaw27_HostEnds.j0 k l0 a1 (!t323) a2_0 a2_1 l2_2 a2_3)))) = some r := h
  clear h
  have HC4 := Aside0.mk H
  clear H
  go_enter Try.func4, Try.ntmps4
  go_upto_region 1 with (first | ((with_reducible refine gate_dst (N := 5) rfl ?_); (try (refine gate_guard (by rfl) ?_; dsimp only)); refine box_event ?hg (N := 5) ?hd (cs := #[.int .i64 a2_0, .int .i64 a2_1, .slice A2_2 l2_2.length c2_2, .int .i64 a2_3]) (t := 25) ?hr ?_; (case hd => rfl); (case hg => rfl); (case hr => first | (go_simp; done) | (go_simp; rfl)); intro gb322 hg w5 hbox hb; have n0_ := Aside0.mk (below_step (by repeat (first | (with_reducible first | exact HB.out | apply below_alloc | apply pw_below_drewN | apply below_drew1) | exact HB.out)) hb); have n1_ := Aside0.mk (hbox); have n2_ := Aside0.mk ((by rw [hg]; exact (below_size (by repeat (first | (with_reducible first | exact HB.out | apply below_alloc | apply pw_below_drewN | apply below_drew1) | exact HB.out))) : w.heap.size ≤ gb322)); have n3_ := Aside0.mk ((by rw [hg]; exact (below_size (by repeat (first | (with_reducible first | exact HB.out | apply below_alloc | apply pw_below_drewN | apply below_drew1) | exact HB.out))) : w.heap.size ≤ gb322)); clear HB; have HB := n0_; have BK322 := n1_; have GW322 := n2_; have GE322 := n3_; clear n0_ n1_ n2_ n3_; clear hb hbox hg))
  (try simp only [Act.put, List.setIfInBounds_toArray, List.set_cons_zero, List.set_cons_succ])
  go_cut [32] (fun v32 wc => ∃ (kq : Nat) (x32_3 : Bool), v32 = .bool x32_3 ∧ Aside0 (drawbridgelaw27_HostEnds.j0 kq l0 a1 x32_3 a2_0 a2_1 l2_2 a2_3 = some r) ∧ Aside0 (kq ≤ k) ∧ Aside0 (wc.heap[gb322]? = some (.cells #[.int .i64 a2_0, .int .i64 a2_1, (.slice A2_2 l2_2.length c2_2), .int .i64 a2_3] 25 (0, 0))) ∧ Aside0 (Below w.heap.size w wc))
  case first =>
    have H := HC4.out
    clear HC4
    by_cases c6 : (l0.length : Int) > 40
    · rw [if_pos c6] at H
      have c6b0 : decide (40 < (l0.length : Int)) = true := decide_eq_true c6
      have c6b1 : decide (40 < l0.length) = true := decide_eq_true (by omega)
      clear c6
      (first | rw [c6b0] | (simp only [i64_w, i32_w]; rw [c6b0]) | skip)
      have H' := Aside0.mk H
      clear H
      go_wp2
      go_meet
      case rel => exact ⟨_, (true), (by first | rfl | (simp; done) | (simp [*]; done)), H', ⟨by first | omega | exact Nat.le_refl _⟩, ⟨by (with_reducible repeat (first | refine blk_drewN ?_ _ | refine blk_drew ?_ | refine blk_alloc ?_ _)); exact BK322.out⟩, ⟨by repeat (first | (with_reducible first | exact HB.out | apply below_alloc | apply pw_below_drewN | apply below_drew1 | refine below_set ?_ GE322.out) | exact HB.out)⟩⟩
    · rw [if_neg c6] at H
      have c6b0 : decide (40 < (l0.length : Int)) = false := decide_eq_false c6
      have c6b1 : decide (40 < l0.length) = false := decide_eq_false (by omega)
      clear c6
      (first | rw [c6b0] | (simp only [i64_w, i32_w]; rw [c6b0]) | skip)
      by_cases c7 : (l2_2.length : Int) > 5000
      · rw [if_pos c7] at H
        have c7b0 : decide (5000 < (l2_2.length : Int)) = true := decide_eq_true c7
        have c7b1 : decide (5000 < l2_2.length) = true := decide_eq_true (by omega)
        clear c7
        have H' := Aside0.mk H
        clear H
        have hcz8_0 : w5.cell? ⟨gb322, 0, none⟩ = some (.int .i64 a2_0) := (blk_cell BK322.out 0).trans rfl
        have hcz8_1 : w5.cell? ⟨gb322, 1, none⟩ = some (.int .i64 a2_1) := (blk_cell BK322.out 1).trans rfl
        have hcz8_2 : w5.cell? ⟨gb322, 2, none⟩ = some (.slice A2_2 l2_2.length c2_2) := (blk_cell BK322.out 2).trans rfl
        have hcz8_3 : w5.cell? ⟨gb322, 3, none⟩ = some (.int .i64 a2_3) := (blk_cell BK322.out 3).trans rfl
        have hfz8_0 := blk_frozen BK322.out 0
        have hfz8_1 := blk_frozen BK322.out 1
        have hfz8_2 := blk_frozen BK322.out 2
        have hfz8_3 := blk_frozen BK322.out 3
        go_wp2
        go_meet
        case rel => exact ⟨_, (true), (by first | rfl | (simp; done) | (simp [*]; done)), H', ⟨by first | omega | exact Nat.le_refl _⟩, ⟨by (with_reducible repeat (first | refine blk_drewN ?_ _ | refine blk_drew ?_ | refine blk_alloc ?_ _)); exact BK322.out⟩, ⟨by repeat (first | (with_reducible first | exact HB.out | apply below_alloc | apply pw_below_drewN | apply below_drew1 | refine below_set ?_ GE322.out) | exact HB.out)⟩⟩
      · rw [if_neg c7] at H
        have c7b0 : decide (5000 < (l2_2.length : Int)) = false := decide_eq_false c7
        have c7b1 : decide (5000 < l2_2.length) = false := decide_eq_false (by omega)
        clear c7
        replace H := Option.bind_eq_some_iff.mp H
        obtain ⟨t323, A90, H⟩ := H
        replace H : (drawbridgelaw27_HostEnds.j0 k l0 a1 (!t323) a2_0 a2_1 l2_2 a2_3) = some r := H
        have A9 := Aside0.mk A90
        clear A90
        have H' := Aside0.mk H
        clear H
        have hcz10_0 : w5.cell? ⟨gb322, 0, none⟩ = some (.int .i64 a2_0) := (blk_cell BK322.out 0).trans rfl
        have hcz10_1 : w5.cell? ⟨gb322, 1, none⟩ = some (.int .i64 a2_1) := (blk_cell BK322.out 1).trans rfl
        have hcz10_2 : w5.cell? ⟨gb322, 2, none⟩ = some (.slice A2_2 l2_2.length c2_2) := (blk_cell BK322.out 2).trans rfl
        have hcz10_3 : w5.cell? ⟨gb322, 3, none⟩ = some (.int .i64 a2_3) := (blk_cell BK322.out 3).trans rfl
        have hfz10_0 := blk_frozen BK322.out 0
        have hfz10_1 := blk_frozen BK322.out 1
        have hfz10_2 := blk_frozen BK322.out 2
        have hfz10_3 := blk_frozen BK322.out 3
        go_wp2_with (first | (go_at_call 18; (with_reducible refine (host_Check.calls _ _ l0 t323 _ ?side1 ?side2 A9.out).mono ?_); (case side1 => repeat (first | exact (Kd.C_below HR0.out HB.out) | (with_reducible refine Kd.C_alloc ?_ _) | (with_reducible refine Kd.C_drewN ?_ _) | (with_reducible refine Kd.C_drew ?_))); (case side2 => exact HC0.out); rintro e w11 ⟨rfl, hb⟩; have n0_ := Aside0.mk (blk_below (g := gb322) (o := .cells #[.int .i64 a2_0, .int .i64 a2_1, .slice A2_2 l2_2.length c2_2, .int .i64 a2_3] 25 (0, 0)) (by (with_reducible repeat (first | refine blk_drewN ?_ _ | refine blk_drew ?_ | refine blk_alloc ?_ _)); exact BK322.out) hb); have n1_ := Aside0.mk (below_step (by repeat (first | (with_reducible first | exact HB.out | apply below_alloc | apply pw_below_drewN | apply below_drew1 | refine below_set ?_ GE322.out) | exact HB.out)) hb); clear BK322; clear HB; have BK322 := n0_; have HB := n1_; clear n0_ n1_; (try clear hb); (try clear hb2); (try clear hk); (try clear hi)))
        go_meet
        case rel => exact ⟨_, (!t323), (by first | rfl | (simp; done) | (simp [*]; done)), H', ⟨by first | omega | exact Nat.le_refl _⟩, ⟨by (with_reducible repeat (first | refine blk_drewN ?_ _ | refine blk_drew ?_ | refine blk_alloc ?_ _)); exact BK322.out⟩, ⟨by repeat (first | (with_reducible first | exact HB.out | apply below_alloc | apply pw_below_drewN | apply below_drew1 | refine below_set ?_ GE322.out) | exact HB.out)⟩⟩
  case rest =>
    clear HC4
    try clear c2
    try clear p2
    try clear c4
    try clear c6
    try clear c6b0
    try clear c6b1
    try clear c7
    try clear c7b0
    try clear c7b1
    try clear hcz10_0
    try clear hcz10_1
    try clear hcz10_2
    try clear hcz10_3
    try clear hcz8_0
    try clear hcz8_1
    try clear hcz8_2
    try clear hcz8_3
    try clear hfz10_0
    try clear hfz10_1
    try clear hfz10_2
    try clear hfz10_3
    try clear hfz8_0
    try clear hfz8_1
    try clear hfz8_2
    try clear hfz8_3
    obtain ⟨kq, x32_3, rfl, HA, HJ3, BK322, HB⟩ := hcut
    cases kq with
    | zero => exact absurd HA.out (by simp [drawbridgelaw27_HostEnds.j0])
    | succ kj3 =>
      have H := HA.out
      clear HA
      simp only [drawbridgelaw27_HostEnds.j0] at H
      by_cases c12 : x32_3 = true
      · subst c12
        have H1 : ((drawbridgelaw27_heads.f).bind fun t324 => (some t324)) = some r := by rw [if_pos rfl] at H; exact H
        clear H
        have H := H1
        clear H1
        replace H := Option.bind_eq_some_iff.mp H
        obtain ⟨t324, A130, H⟩ := H
        replace H : (some t324) = some r := H
        have A13 := Aside0.mk A130
        clear A130
        clear hT_
        obtain rfl := Option.some.inj H
        go_wp2_with (first | ((with_reducible refine gate_callee (f := 6) rfl ?_); refine goesL_ (some 33) rfl rfl Try.func6 (by kernel_rfl) rfl #[] rfl (by (try simp only [List.map_toArray, List.map_cons, List.map_nil]); first | done | rfl | (simp only [List.length_drop, List.length_take]; rfl)) ?_; (with_reducible refine (drawbridgelaw27_heads.calls  t324 _ A13.out).mono ?_); rintro e w14 ⟨rfl, hb⟩; refine ⟨_, rfl, ?_⟩; have n0_ := Aside0.mk (blk_below (g := gb322) (o := .cells #[.int .i64 a2_0, .int .i64 a2_1, .slice A2_2 l2_2.length c2_2, .int .i64 a2_3] 25 (0, 0)) (by (with_reducible repeat (first | refine blk_drewN ?_ _ | refine blk_drew ?_ | refine blk_alloc ?_ _)); exact BK322.out) hb); have n1_ := Aside0.mk (below_step (by repeat (first | (with_reducible first | exact HB.out | apply below_alloc | apply pw_below_drewN | apply below_drew1 | refine below_set ?_ GE322.out) | exact HB.out)) hb); clear BK322; clear HB; have BK322 := n0_; have HB := n1_; clear n0_ n1_; (try clear hb); (try clear hb2); (try clear hk); (try clear hi)))
        go_ret
        exact ⟨by first | rfl | (simp [errW_none, errW_some] <;> rfl) | (simp [*, errW_none, errW_some] <;> rfl), by repeat (first | (with_reducible first | exact HB.out | apply below_alloc | apply pw_below_drewN | apply below_drew1 | refine below_set ?_ GE322.out) | exact HB.out)⟩
      · replace c12 := Bool.eq_false_iff.mpr c12
        subst c12
        have H1 : ((host_Hear.f l0 4 a1 ([] : List Int) 0).bind fun bt325 => ((host_Hear.f bt325.1 a2_0 a1 l2_2 a2_3).bind fun bt329 => ((host_Shut.f l0 a1).bind fun bt333 => ((host_Hear.f bt333.1 a2_0 a1 l2_2 a2_3).bind fun bt337 => ((host_Close.f l0 a1).bind fun bt341 => ((host_Hear.f bt341.1 a2_0 a1 l2_2 a2_3).bind fun bt345 => (if bt325.2 = true then (if bt329.2 = true then (if a2_0 = 3 then (drawbridgelaw27_HostEnds.j1 kj3 bt325.1 bt333.1 bt341.1 true) else (if a2_0 = 4 then (drawbridgelaw27_HostEnds.j1 kj3 bt325.1 bt333.1 bt341.1 true) else (if bt333.2 = true then (if bt337.2 = true then (if a2_0 = 5 then (drawbridgelaw27_HostEnds.j1 kj3 bt325.1 bt333.1 bt341.1 true) else (if bt341.2 = true then (drawbridgelaw27_HostEnds.j1 kj3 bt325.1 bt333.1 bt341.1 bt345.2) else (drawbridgelaw27_HostEnds.j1 kj3 bt325.1 bt333.1 bt341.1 false))) else (if bt341.2 = true then (drawbridgelaw27_HostEnds.j1 kj3 bt325.1 bt333.1 bt341.1 bt345.2) else (drawbridgelaw27_HostEnds.j1 kj3 bt325.1 bt333.1 bt341.1 false))) else (if bt341.2 = true then (drawbridgelaw27_HostEnds.j1 kj3 bt325.1 bt333.1 bt341.1 bt345.2) else (drawbridgelaw27_HostEnds.j1 kj3 bt325.1 bt333.1 bt341.1 false))))) else (if bt333.2 = true then (if bt337.2 = true then (if a2_0 = 5 then (drawbridgelaw27_HostEnds.j1 kj3 bt325.1 bt333.1 bt341.1 true) else (if bt341.2 = true then (drawbridgelaw27_HostEnds.j1 kj3 bt325.1 bt333.1 bt341.1 bt345.2) else (drawbridgelaw27_HostEnds.j1 kj3 bt325.1 bt333.1 bt341.1 false))) else (if bt341.2 = true then (drawbridgelaw27_HostEnds.j1 kj3 bt325.1 bt333.1 bt341.1 bt345.2) else (drawbridgelaw27_HostEnds.j1 kj3 bt325.1 bt333.1 bt341.1 false))) else (if bt341.2 = true then (drawbridgelaw27_HostEnds.j1 kj3 bt325.1 bt333.1 bt341.1 bt345.2) else (drawbridgelaw27_HostEnds.j1 kj3 bt325.1 bt333.1 bt341.1 false)))) else (if bt333.2 = true then (if bt337.2 = true then (if a2_0 = 5 then (drawbridgelaw27_HostEnds.j1 kj3 bt325.1 bt333.1 bt341.1 true) else (if bt341.2 = true then (drawbridgelaw27_HostEnds.j1 kj3 bt325.1 bt333.1 bt341.1 bt345.2) else (drawbridgelaw27_HostEnds.j1 kj3 bt325.1 bt333.1 bt341.1 false))) else (if bt341.2 = true then (drawbridgelaw27_HostEnds.j1 kj3 bt325.1 bt333.1 bt341.1 bt345.2) else (drawbridgelaw27_HostEnds.j1 kj3 bt325.1 bt333.1 bt341.1 false))) else (if bt341.2 = true then (drawbridgelaw27_HostEnds.j1 kj3 bt325.1 bt333.1 bt341.1 bt345.2) else (drawbridgelaw27_HostEnds.j1 kj3 bt325.1 bt333.1 bt341.1 false)))))))))) = some r := by rw [if_neg (show ¬ (false = true) by decide)] at H; exact H
        clear H
        have H := H1
        clear H1
        replace H := Option.bind_eq_some_iff.mp H
        obtain ⟨⟨t325, t328⟩, A150, H⟩ := H
        replace H : ((host_Hear.f t325 a2_0 a1 l2_2 a2_3).bind fun bt329 => ((host_Shut.f l0 a1).bind fun bt333 => ((host_Hear.f bt333.1 a2_0 a1 l2_2 a2_3).bind fun bt337 => ((host_Close.f l0 a1).bind fun bt341 => ((host_Hear.f bt341.1 a2_0 a1 l2_2 a2_3).bind fun bt345 => (if t328 = true then (if bt329.2 = true then (if a2_0 = 3 then (drawbridgelaw27_HostEnds.j1 kj3 t325 bt333.1 bt341.1 true) else (if a2_0 = 4 then (drawbridgelaw27_HostEnds.j1 kj3 t325 bt333.1 bt341.1 true) else (if bt333.2 = true then (if bt337.2 = true then (if a2_0 = 5 then (drawbridgelaw27_HostEnds.j1 kj3 t325 bt333.1 bt341.1 true) else (if bt341.2 = true then (drawbridgelaw27_HostEnds.j1 kj3 t325 bt333.1 bt341.1 bt345.2) else (drawbridgelaw27_HostEnds.j1 kj3 t325 bt333.1 bt341.1 false))) else (if bt341.2 = true then (drawbridgelaw27_HostEnds.j1 kj3 t325 bt333.1 bt341.1 bt345.2) else (drawbridgelaw27_HostEnds.j1 kj3 t325 bt333.1 bt341.1 false))) else (if bt341.2 = true then (drawbridgelaw27_HostEnds.j1 kj3 t325 bt333.1 bt341.1 bt345.2) else (drawbridgelaw27_HostEnds.j1 kj3 t325 bt333.1 bt341.1 false))))) else (if bt333.2 = true then (if bt337.2 = true then (if a2_0 = 5 then (drawbridgelaw27_HostEnds.j1 kj3 t325 bt333.1 bt341.1 true) else (if bt341.2 = true then (drawbridgelaw27_HostEnds.j1 kj3 t325 bt333.1 bt341.1 bt345.2) else (drawbridgelaw27_HostEnds.j1 kj3 t325 bt333.1 bt341.1 false))) else (if bt341.2 = true then (drawbridgelaw27_HostEnds.j1 kj3 t325 bt333.1 bt341.1 bt345.2) else (drawbridgelaw27_HostEnds.j1 kj3 t325 bt333.1 bt341.1 false))) else (if bt341.2 = true then (drawbridgelaw27_HostEnds.j1 kj3 t325 bt333.1 bt341.1 bt345.2) else (drawbridgelaw27_HostEnds.j1 kj3 t325 bt333.1 bt341.1 false)))) else (if bt333.2 = true then (if bt337.2 = true then (if a2_0 = 5 then (drawbridgelaw27_HostEnds.j1 kj3 t325 bt333.1 bt341.1 true) else (if bt341.2 = true then (drawbridgelaw27_HostEnds.j1 kj3 t325 bt333.1 bt341.1 bt345.2) else (drawbridgelaw27_HostEnds.j1 kj3 t325 bt333.1 bt341.1 false))) else (if bt341.2 = true then (drawbridgelaw27_HostEnds.j1 kj3 t325 bt333.1 bt341.1 bt345.2) else (drawbridgelaw27_HostEnds.j1 kj3 t325 bt333.1 bt341.1 false))) else (if bt341.2 = true then (drawbridgelaw27_HostEnds.j1 kj3 t325 bt333.1 bt341.1 bt345.2) else (drawbridgelaw27_HostEnds.j1 kj3 t325 bt333.1 bt341.1 false))))))))) = some r := H
        have A15 := Aside0.mk A150
        clear A150
        replace H := Option.bind_eq_some_iff.mp H
        obtain ⟨⟨t329, t332⟩, A160, H⟩ := H
        replace H : ((host_Shut.f l0 a1).bind fun bt333 => ((host_Hear.f bt333.1 a2_0 a1 l2_2 a2_3).bind fun bt337 => ((host_Close.f l0 a1).bind fun bt341 => ((host_Hear.f bt341.1 a2_0 a1 l2_2 a2_3).bind fun bt345 => (if t328 = true then (if t332 = true then (if a2_0 = 3 then (drawbridgelaw27_HostEnds.j1 kj3 t325 bt333.1 bt341.1 true) else (if a2_0 = 4 then (drawbridgelaw27_HostEnds.j1 kj3 t325 bt333.1 bt341.1 true) else (if bt333.2 = true then (if bt337.2 = true then (if a2_0 = 5 then (drawbridgelaw27_HostEnds.j1 kj3 t325 bt333.1 bt341.1 true) else (if bt341.2 = true then (drawbridgelaw27_HostEnds.j1 kj3 t325 bt333.1 bt341.1 bt345.2) else (drawbridgelaw27_HostEnds.j1 kj3 t325 bt333.1 bt341.1 false))) else (if bt341.2 = true then (drawbridgelaw27_HostEnds.j1 kj3 t325 bt333.1 bt341.1 bt345.2) else (drawbridgelaw27_HostEnds.j1 kj3 t325 bt333.1 bt341.1 false))) else (if bt341.2 = true then (drawbridgelaw27_HostEnds.j1 kj3 t325 bt333.1 bt341.1 bt345.2) else (drawbridgelaw27_HostEnds.j1 kj3 t325 bt333.1 bt341.1 false))))) else (if bt333.2 = true then (if bt337.2 = true then (if a2_0 = 5 then (drawbridgelaw27_HostEnds.j1 kj3 t325 bt333.1 bt341.1 true) else (if bt341.2 = true then (drawbridgelaw27_HostEnds.j1 kj3 t325 bt333.1 bt341.1 bt345.2) else (drawbridgelaw27_HostEnds.j1 kj3 t325 bt333.1 bt341.1 false))) else (if bt341.2 = true then (drawbridgelaw27_HostEnds.j1 kj3 t325 bt333.1 bt341.1 bt345.2) else (drawbridgelaw27_HostEnds.j1 kj3 t325 bt333.1 bt341.1 false))) else (if bt341.2 = true then (drawbridgelaw27_HostEnds.j1 kj3 t325 bt333.1 bt341.1 bt345.2) else (drawbridgelaw27_HostEnds.j1 kj3 t325 bt333.1 bt341.1 false)))) else (if bt333.2 = true then (if bt337.2 = true then (if a2_0 = 5 then (drawbridgelaw27_HostEnds.j1 kj3 t325 bt333.1 bt341.1 true) else (if bt341.2 = true then (drawbridgelaw27_HostEnds.j1 kj3 t325 bt333.1 bt341.1 bt345.2) else (drawbridgelaw27_HostEnds.j1 kj3 t325 bt333.1 bt341.1 false))) else (if bt341.2 = true then (drawbridgelaw27_HostEnds.j1 kj3 t325 bt333.1 bt341.1 bt345.2) else (drawbridgelaw27_HostEnds.j1 kj3 t325 bt333.1 bt341.1 false))) else (if bt341.2 = true then (drawbridgelaw27_HostEnds.j1 kj3 t325 bt333.1 bt341.1 bt345.2) else (drawbridgelaw27_HostEnds.j1 kj3 t325 bt333.1 bt341.1 false)))))))) = some r := H
        have A16 := Aside0.mk A160
        clear A160
        replace H := Option.bind_eq_some_iff.mp H
        obtain ⟨⟨t333, t336⟩, A170, H⟩ := H
        replace H : ((host_Hear.f t333 a2_0 a1 l2_2 a2_3).bind fun bt337 => ((host_Close.f l0 a1).bind fun bt341 => ((host_Hear.f bt341.1 a2_0 a1 l2_2 a2_3).bind fun bt345 => (if t328 = true then (if t332 = true then (if a2_0 = 3 then (drawbridgelaw27_HostEnds.j1 kj3 t325 t333 bt341.1 true) else (if a2_0 = 4 then (drawbridgelaw27_HostEnds.j1 kj3 t325 t333 bt341.1 true) else (if t336 = true then (if bt337.2 = true then (if a2_0 = 5 then (drawbridgelaw27_HostEnds.j1 kj3 t325 t333 bt341.1 true) else (if bt341.2 = true then (drawbridgelaw27_HostEnds.j1 kj3 t325 t333 bt341.1 bt345.2) else (drawbridgelaw27_HostEnds.j1 kj3 t325 t333 bt341.1 false))) else (if bt341.2 = true then (drawbridgelaw27_HostEnds.j1 kj3 t325 t333 bt341.1 bt345.2) else (drawbridgelaw27_HostEnds.j1 kj3 t325 t333 bt341.1 false))) else (if bt341.2 = true then (drawbridgelaw27_HostEnds.j1 kj3 t325 t333 bt341.1 bt345.2) else (drawbridgelaw27_HostEnds.j1 kj3 t325 t333 bt341.1 false))))) else (if t336 = true then (if bt337.2 = true then (if a2_0 = 5 then (drawbridgelaw27_HostEnds.j1 kj3 t325 t333 bt341.1 true) else (if bt341.2 = true then (drawbridgelaw27_HostEnds.j1 kj3 t325 t333 bt341.1 bt345.2) else (drawbridgelaw27_HostEnds.j1 kj3 t325 t333 bt341.1 false))) else (if bt341.2 = true then (drawbridgelaw27_HostEnds.j1 kj3 t325 t333 bt341.1 bt345.2) else (drawbridgelaw27_HostEnds.j1 kj3 t325 t333 bt341.1 false))) else (if bt341.2 = true then (drawbridgelaw27_HostEnds.j1 kj3 t325 t333 bt341.1 bt345.2) else (drawbridgelaw27_HostEnds.j1 kj3 t325 t333 bt341.1 false)))) else (if t336 = true then (if bt337.2 = true then (if a2_0 = 5 then (drawbridgelaw27_HostEnds.j1 kj3 t325 t333 bt341.1 true) else (if bt341.2 = true then (drawbridgelaw27_HostEnds.j1 kj3 t325 t333 bt341.1 bt345.2) else (drawbridgelaw27_HostEnds.j1 kj3 t325 t333 bt341.1 false))) else (if bt341.2 = true then (drawbridgelaw27_HostEnds.j1 kj3 t325 t333 bt341.1 bt345.2) else (drawbridgelaw27_HostEnds.j1 kj3 t325 t333 bt341.1 false))) else (if bt341.2 = true then (drawbridgelaw27_HostEnds.j1 kj3 t325 t333 bt341.1 bt345.2) else (drawbridgelaw27_HostEnds.j1 kj3 t325 t333 bt341.1 false))))))) = some r := H
        have A17 := Aside0.mk A170
        clear A170
        replace H := Option.bind_eq_some_iff.mp H
        obtain ⟨⟨t337, t340⟩, A180, H⟩ := H
        replace H : ((host_Close.f l0 a1).bind fun bt341 => ((host_Hear.f bt341.1 a2_0 a1 l2_2 a2_3).bind fun bt345 => (if t328 = true then (if t332 = true then (if a2_0 = 3 then (drawbridgelaw27_HostEnds.j1 kj3 t325 t333 bt341.1 true) else (if a2_0 = 4 then (drawbridgelaw27_HostEnds.j1 kj3 t325 t333 bt341.1 true) else (if t336 = true then (if t340 = true then (if a2_0 = 5 then (drawbridgelaw27_HostEnds.j1 kj3 t325 t333 bt341.1 true) else (if bt341.2 = true then (drawbridgelaw27_HostEnds.j1 kj3 t325 t333 bt341.1 bt345.2) else (drawbridgelaw27_HostEnds.j1 kj3 t325 t333 bt341.1 false))) else (if bt341.2 = true then (drawbridgelaw27_HostEnds.j1 kj3 t325 t333 bt341.1 bt345.2) else (drawbridgelaw27_HostEnds.j1 kj3 t325 t333 bt341.1 false))) else (if bt341.2 = true then (drawbridgelaw27_HostEnds.j1 kj3 t325 t333 bt341.1 bt345.2) else (drawbridgelaw27_HostEnds.j1 kj3 t325 t333 bt341.1 false))))) else (if t336 = true then (if t340 = true then (if a2_0 = 5 then (drawbridgelaw27_HostEnds.j1 kj3 t325 t333 bt341.1 true) else (if bt341.2 = true then (drawbridgelaw27_HostEnds.j1 kj3 t325 t333 bt341.1 bt345.2) else (drawbridgelaw27_HostEnds.j1 kj3 t325 t333 bt341.1 false))) else (if bt341.2 = true then (drawbridgelaw27_HostEnds.j1 kj3 t325 t333 bt341.1 bt345.2) else (drawbridgelaw27_HostEnds.j1 kj3 t325 t333 bt341.1 false))) else (if bt341.2 = true then (drawbridgelaw27_HostEnds.j1 kj3 t325 t333 bt341.1 bt345.2) else (drawbridgelaw27_HostEnds.j1 kj3 t325 t333 bt341.1 false)))) else (if t336 = true then (if t340 = true then (if a2_0 = 5 then (drawbridgelaw27_HostEnds.j1 kj3 t325 t333 bt341.1 true) else (if bt341.2 = true then (drawbridgelaw27_HostEnds.j1 kj3 t325 t333 bt341.1 bt345.2) else (drawbridgelaw27_HostEnds.j1 kj3 t325 t333 bt341.1 false))) else (if bt341.2 = true then (drawbridgelaw27_HostEnds.j1 kj3 t325 t333 bt341.1 bt345.2) else (drawbridgelaw27_HostEnds.j1 kj3 t325 t333 bt341.1 false))) else (if bt341.2 = true then (drawbridgelaw27_HostEnds.j1 kj3 t325 t333 bt341.1 bt345.2) else (drawbridgelaw27_HostEnds.j1 kj3 t325 t333 bt341.1 false)))))) = some r := H
        have A18 := Aside0.mk A180
        clear A180
        replace H := Option.bind_eq_some_iff.mp H
        obtain ⟨⟨t341, t344⟩, A190, H⟩ := H
        replace H : ((host_Hear.f t341 a2_0 a1 l2_2 a2_3).bind fun bt345 => (if t328 = true then (if t332 = true then (if a2_0 = 3 then (drawbridgelaw27_HostEnds.j1 kj3 t325 t333 t341 true) else (if a2_0 = 4 then (drawbridgelaw27_HostEnds.j1 kj3 t325 t333 t341 true) else (if t336 = true then (if t340 = true then (if a2_0 = 5 then (drawbridgelaw27_HostEnds.j1 kj3 t325 t333 t341 true) else (if t344 = true then (drawbridgelaw27_HostEnds.j1 kj3 t325 t333 t341 bt345.2) else (drawbridgelaw27_HostEnds.j1 kj3 t325 t333 t341 false))) else (if t344 = true then (drawbridgelaw27_HostEnds.j1 kj3 t325 t333 t341 bt345.2) else (drawbridgelaw27_HostEnds.j1 kj3 t325 t333 t341 false))) else (if t344 = true then (drawbridgelaw27_HostEnds.j1 kj3 t325 t333 t341 bt345.2) else (drawbridgelaw27_HostEnds.j1 kj3 t325 t333 t341 false))))) else (if t336 = true then (if t340 = true then (if a2_0 = 5 then (drawbridgelaw27_HostEnds.j1 kj3 t325 t333 t341 true) else (if t344 = true then (drawbridgelaw27_HostEnds.j1 kj3 t325 t333 t341 bt345.2) else (drawbridgelaw27_HostEnds.j1 kj3 t325 t333 t341 false))) else (if t344 = true then (drawbridgelaw27_HostEnds.j1 kj3 t325 t333 t341 bt345.2) else (drawbridgelaw27_HostEnds.j1 kj3 t325 t333 t341 false))) else (if t344 = true then (drawbridgelaw27_HostEnds.j1 kj3 t325 t333 t341 bt345.2) else (drawbridgelaw27_HostEnds.j1 kj3 t325 t333 t341 false)))) else (if t336 = true then (if t340 = true then (if a2_0 = 5 then (drawbridgelaw27_HostEnds.j1 kj3 t325 t333 t341 true) else (if t344 = true then (drawbridgelaw27_HostEnds.j1 kj3 t325 t333 t341 bt345.2) else (drawbridgelaw27_HostEnds.j1 kj3 t325 t333 t341 false))) else (if t344 = true then (drawbridgelaw27_HostEnds.j1 kj3 t325 t333 t341 bt345.2) else (drawbridgelaw27_HostEnds.j1 kj3 t325 t333 t341 false))) else (if t344 = true then (drawbridgelaw27_HostEnds.j1 kj3 t325 t333 t341 bt345.2) else (drawbridgelaw27_HostEnds.j1 kj3 t325 t333 t341 false))))) = some r := H
        have A19 := Aside0.mk A190
        clear A190
        replace H := Option.bind_eq_some_iff.mp H
        obtain ⟨⟨t345, t348⟩, A200, H⟩ := H
        replace H : (if t328 = true then (if t332 = true then (if a2_0 = 3 then (drawbridgelaw27_HostEnds.j1 kj3 t325 t333 t341 true) else (if a2_0 = 4 then (drawbridgelaw27_HostEnds.j1 kj3 t325 t333 t341 true) else (if t336 = true then (if t340 = true then (if a2_0 = 5 then (drawbridgelaw27_HostEnds.j1 kj3 t325 t333 t341 true) else (if t344 = true then (drawbridgelaw27_HostEnds.j1 kj3 t325 t333 t341 t348) else (drawbridgelaw27_HostEnds.j1 kj3 t325 t333 t341 false))) else (if t344 = true then (drawbridgelaw27_HostEnds.j1 kj3 t325 t333 t341 t348) else (drawbridgelaw27_HostEnds.j1 kj3 t325 t333 t341 false))) else (if t344 = true then (drawbridgelaw27_HostEnds.j1 kj3 t325 t333 t341 t348) else (drawbridgelaw27_HostEnds.j1 kj3 t325 t333 t341 false))))) else (if t336 = true then (if t340 = true then (if a2_0 = 5 then (drawbridgelaw27_HostEnds.j1 kj3 t325 t333 t341 true) else (if t344 = true then (drawbridgelaw27_HostEnds.j1 kj3 t325 t333 t341 t348) else (drawbridgelaw27_HostEnds.j1 kj3 t325 t333 t341 false))) else (if t344 = true then (drawbridgelaw27_HostEnds.j1 kj3 t325 t333 t341 t348) else (drawbridgelaw27_HostEnds.j1 kj3 t325 t333 t341 false))) else (if t344 = true then (drawbridgelaw27_HostEnds.j1 kj3 t325 t333 t341 t348) else (drawbridgelaw27_HostEnds.j1 kj3 t325 t333 t341 false)))) else (if t336 = true then (if t340 = true then (if a2_0 = 5 then (drawbridgelaw27_HostEnds.j1 kj3 t325 t333 t341 true) else (if t344 = true then (drawbridgelaw27_HostEnds.j1 kj3 t325 t333 t341 t348) else (drawbridgelaw27_HostEnds.j1 kj3 t325 t333 t341 false))) else (if t344 = true then (drawbridgelaw27_HostEnds.j1 kj3 t325 t333 t341 t348) else (drawbridgelaw27_HostEnds.j1 kj3 t325 t333 t341 false))) else (if t344 = true then (drawbridgelaw27_HostEnds.j1 kj3 t325 t333 t341 t348) else (drawbridgelaw27_HostEnds.j1 kj3 t325 t333 t341 false)))) = some r := H
        have A20 := Aside0.mk A200
        clear A200
        have HC21 := Aside0.mk H
        clear H
        have hcz22_0 : wc.cell? ⟨gb322, 0, none⟩ = some (.int .i64 a2_0) := (blk_cell BK322.out 0).trans rfl
        have hcz22_1 : wc.cell? ⟨gb322, 1, none⟩ = some (.int .i64 a2_1) := (blk_cell BK322.out 1).trans rfl
        have hcz22_2 : wc.cell? ⟨gb322, 2, none⟩ = some (.slice A2_2 l2_2.length c2_2) := (blk_cell BK322.out 2).trans rfl
        have hcz22_3 : wc.cell? ⟨gb322, 3, none⟩ = some (.int .i64 a2_3) := (blk_cell BK322.out 3).trans rfl
        have hfz22_0 := blk_frozen BK322.out 0
        have hfz22_1 := blk_frozen BK322.out 1
        have hfz22_2 := blk_frozen BK322.out 2
        have hfz22_3 := blk_frozen BK322.out 3
        go_upto_region 10 with (first | ((with_reducible refine gate_store (t := 3) (p := 35) rfl ?_); refine store_event (t := 3) (p := 35) (v := ?vo_w23) (w1 := (wc.setCell ⟨gb322, 1, none⟩ (.int .i64 a1))) ?hg ?ho ?hn ?hr ?_; (case ho => rfl); (case hg => rfl); (case hn => rfl); (case hr => first | (go_simp; done) | (go_simp; rfl)); intro w23 hw; have n0_ : Aside0 (w23.heap[gb322]? = some (.cells #[.int .i64 a2_0, .int .i64 a1, .slice A2_2 l2_2.length c2_2, .int .i64 a2_3] 25 (0, 0))) := ⟨(by rw [hw]; exact (by (with_reducible repeat (first | refine blk_drewN ?_ _ | refine blk_drew ?_ | refine blk_alloc ?_ _)); refine blk_put (cs := #[.int .i64 a2_0, .int .i64 a2_1, .slice A2_2 l2_2.length c2_2, .int .i64 a2_3]) ?_ 1 _ rfl; (with_reducible repeat (first | refine blk_drewN ?_ _ | refine blk_drew ?_ | refine blk_alloc ?_ _)); exact BK322.out))⟩; have n1_ : Aside0 (Below w.heap.size w w23) := ⟨(by rw [hw]; exact (by repeat (first | (with_reducible first | exact HB.out | apply below_alloc | apply pw_below_drewN | apply below_drew1 | refine below_set ?_ GE322.out) | exact HB.out)))⟩; clear hw; clear BK322; clear HB; have BK322 := n0_; have HB := n1_; clear n0_ n1_) | ((with_reducible refine gate_callee (f := 9) rfl ?_); refine goesL_ (some 40) rfl rfl Try.func9 (by kernel_rfl) rfl #[.slice A0 l0.length c0, .agg #[.int .i64 4, .int .i64 a1, .slice none 0 0, .int .i64 0]] rfl (by (try simp only [List.map_toArray, List.map_cons, List.map_nil]); first | done | rfl | (simp only [List.length_drop, List.length_take]; rfl)) ?_; (refine (host_Hear.calls (fun k_ => k_ < w.heap.size) _ _ l0 4 a1 _ _ ([] : List Int) 0 t325 t328 _ ?side1 ?side2 ?side3 A15.out).mono ?_); (case side1 => exact Kd.V_mk HC0.out (Kd.F_below (Kd.C_F k34_heap HR0.out) (by repeat (first | (with_reducible first | exact HB.out | apply below_alloc | apply pw_below_drewN | apply below_drew1 | refine below_set ?_ GE322.out) | exact HB.out)))); (case side2 => exact Kd.C_nil _ _); (case side3 => exact Nat.le_refl _); rintro e w24 ⟨v326, rfl, ho0, hb⟩; refine ⟨_, rfl, ?_⟩; have n0_ := Aside0.mk (Kd.V_lower (Kd.V_mono (ok' := fun k_ => k_ ≠ gb322) ho0 (fun k_ hk_ => Or.elim hk_ (fun hs_ => fun e_ => Nat.not_le.2 hs_ (by rw [e_]; exact GW322.out)) (fun hn_ => (Kd.freshB (g := gb322) (o := .cells #[.int .i64 a2_0, .int .i64 a1, .slice A2_2 l2_2.length c2_2, .int .i64 a2_3] 25 (0, 0)) (by (with_reducible repeat (first | refine blk_drewN ?_ _ | refine blk_drew ?_ | refine blk_alloc ?_ _)); exact BK322.out) k_ hn_)))) (below_size (by repeat (first | (with_reducible first | exact HB.out | apply below_alloc | apply pw_below_drewN | apply below_drew1 | refine below_set ?_ GE322.out) | exact HB.out)))); have n1_ := Aside0.mk (blk_below (g := gb322) (o := .cells #[.int .i64 a2_0, .int .i64 a1, .slice A2_2 l2_2.length c2_2, .int .i64 a2_3] 25 (0, 0)) (by (with_reducible repeat (first | refine blk_drewN ?_ _ | refine blk_drew ?_ | refine blk_alloc ?_ _)); exact BK322.out) hb); have n2_ := Aside0.mk (below_step (by repeat (first | (with_reducible first | exact HB.out | apply below_alloc | apply pw_below_drewN | apply below_drew1 | refine below_set ?_ GE322.out) | exact HB.out)) hb); clear BK322; clear HB; have HO327 := n0_; have BK322 := n1_; have HB := n2_; clear n0_ n1_ n2_; (try clear hb); (try clear hb2); (try clear hk); (try clear hi); (try clear ho0); have hcz25_0 : w24.cell? ⟨gb322, 0, none⟩ = some (.int .i64 a2_0) := (blk_cell BK322.out 0).trans rfl; have hcz25_1 : w24.cell? ⟨gb322, 1, none⟩ = some (.int .i64 a1) := (blk_cell BK322.out 1).trans rfl; have hcz25_2 : w24.cell? ⟨gb322, 2, none⟩ = some (.slice A2_2 l2_2.length c2_2) := (blk_cell BK322.out 2).trans rfl; have hcz25_3 : w24.cell? ⟨gb322, 3, none⟩ = some (.int .i64 a2_3) := (blk_cell BK322.out 3).trans rfl; have hfz25_0 := blk_frozen BK322.out 0; have hfz25_1 := blk_frozen BK322.out 1; have hfz25_2 := blk_frozen BK322.out 2; have hfz25_3 := blk_frozen BK322.out 3; obtain ⟨Ao26, co26, eo26⟩ := Kd.V_slice HO327.out; subst eo26) | ((with_reducible refine gate_callee (f := 9) rfl ?_); refine goesL_ (some 46) rfl rfl Try.func9 (by kernel_rfl) rfl #[.slice Ao26 t325.length co26, .agg #[.int .i64 a2_0, .int .i64 a1, .slice A2_2 l2_2.length c2_2, .int .i64 a2_3]] rfl (by (try simp only [List.map_toArray, List.map_cons, List.map_nil]); first | done | rfl | (simp only [List.length_drop, List.length_take]; rfl)) ?_; (with_reducible refine (host_Hear.calls (fun k_ => k_ ≠ gb322) _ _ t325 a2_0 a1 _ _ l2_2 a2_3 t329 t332 _ ?side1 ?side2 ?side3 A16.out).mono ?_); (case side1 => exact HO327.out); (case side2 => repeat (first | exact (Kd.C_below HR2_2.out HB.out) | (with_reducible refine Kd.C_alloc ?_ _) | (with_reducible refine Kd.C_drewN ?_ _) | (with_reducible refine Kd.C_drew ?_))); (case side3 => exact HC2_2.out); rintro e w27 ⟨v330, rfl, ho0, hb⟩; refine ⟨_, rfl, ?_⟩; have n0_ := Aside0.mk (Kd.V_below (by (with_reducible repeat (first | apply Kd.V_alloc | apply Kd.V_drewN | apply Kd.V_drew)); exact HO327.out) hb); have n1_ := Aside0.mk (Kd.V_lower (Kd.V_mono (ok' := fun k_ => k_ ≠ gb322) ho0 (fun k_ hk_ => Or.elim hk_ (fun hs_ => hs_) (fun hn_ => (Kd.freshB (g := gb322) (o := .cells #[.int .i64 a2_0, .int .i64 a1, .slice A2_2 l2_2.length c2_2, .int .i64 a2_3] 25 (0, 0)) (by (with_reducible repeat (first | refine blk_drewN ?_ _ | refine blk_drew ?_ | refine blk_alloc ?_ _)); exact BK322.out) k_ hn_)))) (below_size (by repeat (first | (with_reducible first | exact HB.out | apply below_alloc | apply pw_below_drewN | apply below_drew1 | refine below_set ?_ GE322.out) | exact HB.out)))); have n2_ := Aside0.mk (blk_below (g := gb322) (o := .cells #[.int .i64 a2_0, .int .i64 a1, .slice A2_2 l2_2.length c2_2, .int .i64 a2_3] 25 (0, 0)) (by (with_reducible repeat (first | refine blk_drewN ?_ _ | refine blk_drew ?_ | refine blk_alloc ?_ _)); exact BK322.out) hb); have n3_ := Aside0.mk (below_step (by repeat (first | (with_reducible first | exact HB.out | apply below_alloc | apply pw_below_drewN | apply below_drew1 | refine below_set ?_ GE322.out) | exact HB.out)) hb); clear HO327; clear BK322; clear HB; have HO327 := n0_; have HO331 := n1_; have BK322 := n2_; have HB := n3_; clear n0_ n1_ n2_ n3_; (try clear hb); (try clear hb2); (try clear hk); (try clear hi); (try clear ho0)) | ((with_reducible refine gate_callee (f := 11) rfl ?_); refine goesL_ (some 52) rfl rfl Try.func11 (by kernel_rfl) rfl #[.slice A0 l0.length c0, .int .i64 a1] rfl (by (try simp only [List.map_toArray, List.map_cons, List.map_nil]); first | done | rfl | (simp only [List.length_drop, List.length_take]; rfl)) ?_; (with_reducible refine (host_Shut.calls (fun k_ => k_ < w.heap.size) _ _ l0 a1 t333 t336 _ ?side1 A17.out).mono ?_); (case side1 => exact Kd.V_mk HC0.out (Kd.F_below (Kd.C_F k34_heap HR0.out) (by repeat (first | (with_reducible first | exact HB.out | apply below_alloc | apply pw_below_drewN | apply below_drew1 | refine below_set ?_ GE322.out) | exact HB.out)))); rintro e w28 ⟨v334, rfl, ho0, hb⟩; refine ⟨_, rfl, ?_⟩; have n0_ := Aside0.mk (Kd.V_below (by (with_reducible repeat (first | apply Kd.V_alloc | apply Kd.V_drewN | apply Kd.V_drew)); exact HO327.out) hb); have n1_ := Aside0.mk (Kd.V_below (by (with_reducible repeat (first | apply Kd.V_alloc | apply Kd.V_drewN | apply Kd.V_drew)); exact HO331.out) hb); have n2_ := Aside0.mk (Kd.V_lower (Kd.V_mono (ok' := fun k_ => k_ ≠ gb322) ho0 (fun k_ hk_ => Or.elim hk_ (fun hs_ => fun e_ => Nat.not_le.2 hs_ (by rw [e_]; exact GW322.out)) (fun hn_ => (Kd.freshB (g := gb322) (o := .cells #[.int .i64 a2_0, .int .i64 a1, .slice A2_2 l2_2.length c2_2, .int .i64 a2_3] 25 (0, 0)) (by (with_reducible repeat (first | refine blk_drewN ?_ _ | refine blk_drew ?_ | refine blk_alloc ?_ _)); exact BK322.out) k_ hn_)))) (below_size (by repeat (first | (with_reducible first | exact HB.out | apply below_alloc | apply pw_below_drewN | apply below_drew1 | refine below_set ?_ GE322.out) | exact HB.out)))); have n3_ := Aside0.mk (blk_below (g := gb322) (o := .cells #[.int .i64 a2_0, .int .i64 a1, .slice A2_2 l2_2.length c2_2, .int .i64 a2_3] 25 (0, 0)) (by (with_reducible repeat (first | refine blk_drewN ?_ _ | refine blk_drew ?_ | refine blk_alloc ?_ _)); exact BK322.out) hb); have n4_ := Aside0.mk (below_step (by repeat (first | (with_reducible first | exact HB.out | apply below_alloc | apply pw_below_drewN | apply below_drew1 | refine below_set ?_ GE322.out) | exact HB.out)) hb); clear HO327; clear HO331; clear BK322; clear HB; have HO327 := n0_; have HO331 := n1_; have HO335 := n2_; have BK322 := n3_; have HB := n4_; clear n0_ n1_ n2_ n3_ n4_; (try clear hb); (try clear hb2); (try clear hk); (try clear hi); (try clear ho0); have hcz29_0 : w28.cell? ⟨gb322, 0, none⟩ = some (.int .i64 a2_0) := (blk_cell BK322.out 0).trans rfl; have hcz29_1 : w28.cell? ⟨gb322, 1, none⟩ = some (.int .i64 a1) := (blk_cell BK322.out 1).trans rfl; have hcz29_2 : w28.cell? ⟨gb322, 2, none⟩ = some (.slice A2_2 l2_2.length c2_2) := (blk_cell BK322.out 2).trans rfl; have hcz29_3 : w28.cell? ⟨gb322, 3, none⟩ = some (.int .i64 a2_3) := (blk_cell BK322.out 3).trans rfl; have hfz29_0 := blk_frozen BK322.out 0; have hfz29_1 := blk_frozen BK322.out 1; have hfz29_2 := blk_frozen BK322.out 2; have hfz29_3 := blk_frozen BK322.out 3; obtain ⟨Ao30, co30, eo30⟩ := Kd.V_slice HO335.out; subst eo30) | ((with_reducible refine gate_callee (f := 9) rfl ?_); refine goesL_ (some 58) rfl rfl Try.func9 (by kernel_rfl) rfl #[.slice Ao30 t333.length co30, .agg #[.int .i64 a2_0, .int .i64 a1, .slice A2_2 l2_2.length c2_2, .int .i64 a2_3]] rfl (by (try simp only [List.map_toArray, List.map_cons, List.map_nil]); first | done | rfl | (simp only [List.length_drop, List.length_take]; rfl)) ?_; (with_reducible refine (host_Hear.calls (fun k_ => k_ ≠ gb322) _ _ t333 a2_0 a1 _ _ l2_2 a2_3 t337 t340 _ ?side1 ?side2 ?side3 A18.out).mono ?_); (case side1 => exact HO335.out); (case side2 => repeat (first | exact (Kd.C_below HR2_2.out HB.out) | (with_reducible refine Kd.C_alloc ?_ _) | (with_reducible refine Kd.C_drewN ?_ _) | (with_reducible refine Kd.C_drew ?_))); (case side3 => exact HC2_2.out); rintro e w31 ⟨v338, rfl, ho0, hb⟩; refine ⟨_, rfl, ?_⟩; have n0_ := Aside0.mk (Kd.V_below (by (with_reducible repeat (first | apply Kd.V_alloc | apply Kd.V_drewN | apply Kd.V_drew)); exact HO327.out) hb); have n1_ := Aside0.mk (Kd.V_below (by (with_reducible repeat (first | apply Kd.V_alloc | apply Kd.V_drewN | apply Kd.V_drew)); exact HO331.out) hb); have n2_ := Aside0.mk (Kd.V_below (by (with_reducible repeat (first | apply Kd.V_alloc | apply Kd.V_drewN | apply Kd.V_drew)); exact HO335.out) hb); have n3_ := Aside0.mk (Kd.V_lower (Kd.V_mono (ok' := fun k_ => k_ ≠ gb322) ho0 (fun k_ hk_ => Or.elim hk_ (fun hs_ => hs_) (fun hn_ => (Kd.freshB (g := gb322) (o := .cells #[.int .i64 a2_0, .int .i64 a1, .slice A2_2 l2_2.length c2_2, .int .i64 a2_3] 25 (0, 0)) (by (with_reducible repeat (first | refine blk_drewN ?_ _ | refine blk_drew ?_ | refine blk_alloc ?_ _)); exact BK322.out) k_ hn_)))) (below_size (by repeat (first | (with_reducible first | exact HB.out | apply below_alloc | apply pw_below_drewN | apply below_drew1 | refine below_set ?_ GE322.out) | exact HB.out)))); have n4_ := Aside0.mk (blk_below (g := gb322) (o := .cells #[.int .i64 a2_0, .int .i64 a1, .slice A2_2 l2_2.length c2_2, .int .i64 a2_3] 25 (0, 0)) (by (with_reducible repeat (first | refine blk_drewN ?_ _ | refine blk_drew ?_ | refine blk_alloc ?_ _)); exact BK322.out) hb); have n5_ := Aside0.mk (below_step (by repeat (first | (with_reducible first | exact HB.out | apply below_alloc | apply pw_below_drewN | apply below_drew1 | refine below_set ?_ GE322.out) | exact HB.out)) hb); clear HO327; clear HO331; clear HO335; clear BK322; clear HB; have HO327 := n0_; have HO331 := n1_; have HO335 := n2_; have HO339 := n3_; have BK322 := n4_; have HB := n5_; clear n0_ n1_ n2_ n3_ n4_ n5_; (try clear hb); (try clear hb2); (try clear hk); (try clear hi); (try clear ho0)) | ((with_reducible refine gate_callee (f := 13) rfl ?_); refine goesL_ (some 64) rfl rfl Try.func13 (by kernel_rfl) rfl #[.slice A0 l0.length c0, .int .i64 a1] rfl (by (try simp only [List.map_toArray, List.map_cons, List.map_nil]); first | done | rfl | (simp only [List.length_drop, List.length_take]; rfl)) ?_; (with_reducible refine (host_Close.calls (fun k_ => k_ < w.heap.size) _ _ l0 a1 t341 t344 _ ?side1 A19.out).mono ?_); (case side1 => exact Kd.V_mk HC0.out (Kd.F_below (Kd.C_F k34_heap HR0.out) (by repeat (first | (with_reducible first | exact HB.out | apply below_alloc | apply pw_below_drewN | apply below_drew1 | refine below_set ?_ GE322.out) | exact HB.out)))); rintro e w32 ⟨v342, rfl, ho0, hb⟩; refine ⟨_, rfl, ?_⟩; have n0_ := Aside0.mk (Kd.V_below (by (with_reducible repeat (first | apply Kd.V_alloc | apply Kd.V_drewN | apply Kd.V_drew)); exact HO327.out) hb); have n1_ := Aside0.mk (Kd.V_below (by (with_reducible repeat (first | apply Kd.V_alloc | apply Kd.V_drewN | apply Kd.V_drew)); exact HO331.out) hb); have n2_ := Aside0.mk (Kd.V_below (by (with_reducible repeat (first | apply Kd.V_alloc | apply Kd.V_drewN | apply Kd.V_drew)); exact HO335.out) hb); have n3_ := Aside0.mk (Kd.V_below (by (with_reducible repeat (first | apply Kd.V_alloc | apply Kd.V_drewN | apply Kd.V_drew)); exact HO339.out) hb); have n4_ := Aside0.mk (Kd.V_lower (Kd.V_mono (ok' := fun k_ => k_ ≠ gb322) ho0 (fun k_ hk_ => Or.elim hk_ (fun hs_ => fun e_ => Nat.not_le.2 hs_ (by rw [e_]; exact GW322.out)) (fun hn_ => (Kd.freshB (g := gb322) (o := .cells #[.int .i64 a2_0, .int .i64 a1, .slice A2_2 l2_2.length c2_2, .int .i64 a2_3] 25 (0, 0)) (by (with_reducible repeat (first | refine blk_drewN ?_ _ | refine blk_drew ?_ | refine blk_alloc ?_ _)); exact BK322.out) k_ hn_)))) (below_size (by repeat (first | (with_reducible first | exact HB.out | apply below_alloc | apply pw_below_drewN | apply below_drew1 | refine below_set ?_ GE322.out) | exact HB.out)))); have n5_ := Aside0.mk (blk_below (g := gb322) (o := .cells #[.int .i64 a2_0, .int .i64 a1, .slice A2_2 l2_2.length c2_2, .int .i64 a2_3] 25 (0, 0)) (by (with_reducible repeat (first | refine blk_drewN ?_ _ | refine blk_drew ?_ | refine blk_alloc ?_ _)); exact BK322.out) hb); have n6_ := Aside0.mk (below_step (by repeat (first | (with_reducible first | exact HB.out | apply below_alloc | apply pw_below_drewN | apply below_drew1 | refine below_set ?_ GE322.out) | exact HB.out)) hb); clear HO327; clear HO331; clear HO335; clear HO339; clear BK322; clear HB; have HO327 := n0_; have HO331 := n1_; have HO335 := n2_; have HO339 := n3_; have HO343 := n4_; have BK322 := n5_; have HB := n6_; clear n0_ n1_ n2_ n3_ n4_ n5_ n6_; (try clear hb); (try clear hb2); (try clear hk); (try clear hi); (try clear ho0); have hcz33_0 : w32.cell? ⟨gb322, 0, none⟩ = some (.int .i64 a2_0) := (blk_cell BK322.out 0).trans rfl; have hcz33_1 : w32.cell? ⟨gb322, 1, none⟩ = some (.int .i64 a1) := (blk_cell BK322.out 1).trans rfl; have hcz33_2 : w32.cell? ⟨gb322, 2, none⟩ = some (.slice A2_2 l2_2.length c2_2) := (blk_cell BK322.out 2).trans rfl; have hcz33_3 : w32.cell? ⟨gb322, 3, none⟩ = some (.int .i64 a2_3) := (blk_cell BK322.out 3).trans rfl; have hfz33_0 := blk_frozen BK322.out 0; have hfz33_1 := blk_frozen BK322.out 1; have hfz33_2 := blk_frozen BK322.out 2; have hfz33_3 := blk_frozen BK322.out 3; obtain ⟨Ao34, co34, eo34⟩ := Kd.V_slice HO343.out; subst eo34) | ((with_reducible refine gate_callee (f := 9) rfl ?_); refine goesL_ (some 70) rfl rfl Try.func9 (by kernel_rfl) rfl #[.slice Ao34 t341.length co34, .agg #[.int .i64 a2_0, .int .i64 a1, .slice A2_2 l2_2.length c2_2, .int .i64 a2_3]] rfl (by (try simp only [List.map_toArray, List.map_cons, List.map_nil]); first | done | rfl | (simp only [List.length_drop, List.length_take]; rfl)) ?_; (with_reducible refine (host_Hear.calls (fun k_ => k_ ≠ gb322) _ _ t341 a2_0 a1 _ _ l2_2 a2_3 t345 t348 _ ?side1 ?side2 ?side3 A20.out).mono ?_); (case side1 => exact HO343.out); (case side2 => repeat (first | exact (Kd.C_below HR2_2.out HB.out) | (with_reducible refine Kd.C_alloc ?_ _) | (with_reducible refine Kd.C_drewN ?_ _) | (with_reducible refine Kd.C_drew ?_))); (case side3 => exact HC2_2.out); rintro e w35 ⟨v346, rfl, ho0, hb⟩; refine ⟨_, rfl, ?_⟩; have n0_ := Aside0.mk (Kd.V_below (by (with_reducible repeat (first | apply Kd.V_alloc | apply Kd.V_drewN | apply Kd.V_drew)); exact HO327.out) hb); have n1_ := Aside0.mk (Kd.V_below (by (with_reducible repeat (first | apply Kd.V_alloc | apply Kd.V_drewN | apply Kd.V_drew)); exact HO331.out) hb); have n2_ := Aside0.mk (Kd.V_below (by (with_reducible repeat (first | apply Kd.V_alloc | apply Kd.V_drewN | apply Kd.V_drew)); exact HO335.out) hb); have n3_ := Aside0.mk (Kd.V_below (by (with_reducible repeat (first | apply Kd.V_alloc | apply Kd.V_drewN | apply Kd.V_drew)); exact HO339.out) hb); have n4_ := Aside0.mk (Kd.V_below (by (with_reducible repeat (first | apply Kd.V_alloc | apply Kd.V_drewN | apply Kd.V_drew)); exact HO343.out) hb); have n5_ := Aside0.mk (Kd.V_lower (Kd.V_mono (ok' := fun k_ => k_ ≠ gb322) ho0 (fun k_ hk_ => Or.elim hk_ (fun hs_ => hs_) (fun hn_ => (Kd.freshB (g := gb322) (o := .cells #[.int .i64 a2_0, .int .i64 a1, .slice A2_2 l2_2.length c2_2, .int .i64 a2_3] 25 (0, 0)) (by (with_reducible repeat (first | refine blk_drewN ?_ _ | refine blk_drew ?_ | refine blk_alloc ?_ _)); exact BK322.out) k_ hn_)))) (below_size (by repeat (first | (with_reducible first | exact HB.out | apply below_alloc | apply pw_below_drewN | apply below_drew1 | refine below_set ?_ GE322.out) | exact HB.out)))); have n6_ := Aside0.mk (blk_below (g := gb322) (o := .cells #[.int .i64 a2_0, .int .i64 a1, .slice A2_2 l2_2.length c2_2, .int .i64 a2_3] 25 (0, 0)) (by (with_reducible repeat (first | refine blk_drewN ?_ _ | refine blk_drew ?_ | refine blk_alloc ?_ _)); exact BK322.out) hb); have n7_ := Aside0.mk (below_step (by repeat (first | (with_reducible first | exact HB.out | apply below_alloc | apply pw_below_drewN | apply below_drew1 | refine below_set ?_ GE322.out) | exact HB.out)) hb); clear HO327; clear HO331; clear HO335; clear HO339; clear HO343; clear BK322; clear HB; have HO327 := n0_; have HO331 := n1_; have HO335 := n2_; have HO339 := n3_; have HO343 := n4_; have HO347 := n5_; have BK322 := n6_; have HB := n7_; clear n0_ n1_ n2_ n3_ n4_ n5_ n6_ n7_; (try clear hb); (try clear hb2); (try clear hk); (try clear hi); (try clear ho0)))
        (try simp only [Act.put, List.setIfInBounds_toArray, List.set_cons_zero, List.set_cons_succ])
        go_cut [103] (fun v103 wc => ∃ (kq : Nat) (x103_20 : Bool), v103 = .bool x103_20 ∧ Aside0 (drawbridgelaw27_HostEnds.j1 kq t325 t333 t341 x103_20 = some r) ∧ Aside0 (kq ≤ kj3) ∧ Aside0 (Kd.V k34 34 wc w.heap.size (fun k_ => k_ ≠ gb322) (.slice Ao26 t325.length co26) t325) ∧ Aside0 (Kd.V k34 34 wc w.heap.size (fun k_ => k_ ≠ gb322) (.slice Ao30 t333.length co30) t333) ∧ Aside0 (Kd.V k34 34 wc w.heap.size (fun k_ => k_ ≠ gb322) (.slice Ao34 t341.length co34) t341) ∧ Aside0 (wc.heap[gb322]? = some (.cells #[.int .i64 a2_0, .int .i64 a1, (.slice A2_2 l2_2.length c2_2), .int .i64 a2_3] 25 (0, 0))) ∧ Aside0 (Below w.heap.size w wc))
        case first =>
          have H := HC21.out
          clear HC21
          by_cases c36 : t328 = true
          · subst c36
            have H1 : (if t332 = true then (if a2_0 = 3 then (drawbridgelaw27_HostEnds.j1 kj3 t325 t333 t341 true) else (if a2_0 = 4 then (drawbridgelaw27_HostEnds.j1 kj3 t325 t333 t341 true) else (if t336 = true then (if t340 = true then (if a2_0 = 5 then (drawbridgelaw27_HostEnds.j1 kj3 t325 t333 t341 true) else (if t344 = true then (drawbridgelaw27_HostEnds.j1 kj3 t325 t333 t341 t348) else (drawbridgelaw27_HostEnds.j1 kj3 t325 t333 t341 false))) else (if t344 = true then (drawbridgelaw27_HostEnds.j1 kj3 t325 t333 t341 t348) else (drawbridgelaw27_HostEnds.j1 kj3 t325 t333 t341 false))) else (if t344 = true then (drawbridgelaw27_HostEnds.j1 kj3 t325 t333 t341 t348) else (drawbridgelaw27_HostEnds.j1 kj3 t325 t333 t341 false))))) else (if t336 = true then (if t340 = true then (if a2_0 = 5 then (drawbridgelaw27_HostEnds.j1 kj3 t325 t333 t341 true) else (if t344 = true then (drawbridgelaw27_HostEnds.j1 kj3 t325 t333 t341 t348) else (drawbridgelaw27_HostEnds.j1 kj3 t325 t333 t341 false))) else (if t344 = true then (drawbridgelaw27_HostEnds.j1 kj3 t325 t333 t341 t348) else (drawbridgelaw27_HostEnds.j1 kj3 t325 t333 t341 false))) else (if t344 = true then (drawbridgelaw27_HostEnds.j1 kj3 t325 t333 t341 t348) else (drawbridgelaw27_HostEnds.j1 kj3 t325 t333 t341 false)))) = some r := by rw [if_pos rfl] at H; exact H
            clear H
            have H := H1
            clear H1
            by_cases c37 : t332 = true
            · subst c37
              have H1 : (if a2_0 = 3 then (drawbridgelaw27_HostEnds.j1 kj3 t325 t333 t341 true) else (if a2_0 = 4 then (drawbridgelaw27_HostEnds.j1 kj3 t325 t333 t341 true) else (if t336 = true then (if t340 = true then (if a2_0 = 5 then (drawbridgelaw27_HostEnds.j1 kj3 t325 t333 t341 true) else (if t344 = true then (drawbridgelaw27_HostEnds.j1 kj3 t325 t333 t341 t348) else (drawbridgelaw27_HostEnds.j1 kj3 t325 t333 t341 false))) else (if t344 = true then (drawbridgelaw27_HostEnds.j1 kj3 t325 t333 t341 t348) else (drawbridgelaw27_HostEnds.j1 kj3 t325 t333 t341 false))) else (if t344 = true then (drawbridgelaw27_HostEnds.j1 kj3 t325 t333 t341 t348) else (drawbridgelaw27_HostEnds.j1 kj3 t325 t333 t341 false))))) = some r := by rw [if_pos rfl] at H; exact H
              clear H
              have H := H1
              clear H1
              by_cases c38 : a2_0 = 3
              · rw [if_pos c38] at H
                have c38b0 : (a2_0 == 3) = true := beq_iff_eq.mpr c38
                have c38b1 : (a2_0 != 3) = false := bne_eq_false_iff_eq.mpr c38
                clear c38
                (first | rw [c38b0] | (simp only [i64_w, i32_w]; rw [c38b0]) | skip)
                have H' := Aside0.mk H
                clear H
                have hcz39_0 : w35.cell? ⟨gb322, 0, none⟩ = some (.int .i64 a2_0) := (blk_cell BK322.out 0).trans rfl
                have hcz39_1 : w35.cell? ⟨gb322, 1, none⟩ = some (.int .i64 a1) := (blk_cell BK322.out 1).trans rfl
                have hcz39_2 : w35.cell? ⟨gb322, 2, none⟩ = some (.slice A2_2 l2_2.length c2_2) := (blk_cell BK322.out 2).trans rfl
                have hcz39_3 : w35.cell? ⟨gb322, 3, none⟩ = some (.int .i64 a2_3) := (blk_cell BK322.out 3).trans rfl
                have hfz39_0 := blk_frozen BK322.out 0
                have hfz39_1 := blk_frozen BK322.out 1
                have hfz39_2 := blk_frozen BK322.out 2
                have hfz39_3 := blk_frozen BK322.out 3
                go_wp2
                go_meet
                case rel => exact ⟨_, (true), (by first | rfl | (simp; done) | (simp [*]; done)), H', ⟨by have := HJ3.out; first | omega | exact Nat.le_refl _⟩, ⟨by (with_reducible repeat (first | apply Kd.V_alloc | apply Kd.V_drewN | apply Kd.V_drew)); exact HO327.out⟩, ⟨by (with_reducible repeat (first | apply Kd.V_alloc | apply Kd.V_drewN | apply Kd.V_drew)); exact HO335.out⟩, ⟨by (with_reducible repeat (first | apply Kd.V_alloc | apply Kd.V_drewN | apply Kd.V_drew)); exact HO343.out⟩, ⟨by (with_reducible repeat (first | refine blk_drewN ?_ _ | refine blk_drew ?_ | refine blk_alloc ?_ _)); exact BK322.out⟩, ⟨by repeat (first | (with_reducible first | exact HB.out | apply below_alloc | apply pw_below_drewN | apply below_drew1 | refine below_set ?_ GE322.out) | exact HB.out)⟩⟩
              · rw [if_neg c38] at H
                have c38b0 : (a2_0 == 3) = false := beq_eq_false_iff_ne.mpr c38
                have c38b1 : (a2_0 != 3) = true := bne_iff_ne.mpr c38
                (first | rw [c38b0] | (simp only [i64_w, i32_w]; rw [c38b0]) | skip)
                by_cases c40 : a2_0 = 4
                · rw [if_pos c40] at H
                  have c40b0 : (a2_0 == 4) = true := beq_iff_eq.mpr c40
                  have c40b1 : (a2_0 != 4) = false := bne_eq_false_iff_eq.mpr c40
                  clear c40
                  have H' := Aside0.mk H
                  clear H
                  have hcz41_0 : w35.cell? ⟨gb322, 0, none⟩ = some (.int .i64 a2_0) := (blk_cell BK322.out 0).trans rfl
                  have hcz41_1 : w35.cell? ⟨gb322, 1, none⟩ = some (.int .i64 a1) := (blk_cell BK322.out 1).trans rfl
                  have hcz41_2 : w35.cell? ⟨gb322, 2, none⟩ = some (.slice A2_2 l2_2.length c2_2) := (blk_cell BK322.out 2).trans rfl
                  have hcz41_3 : w35.cell? ⟨gb322, 3, none⟩ = some (.int .i64 a2_3) := (blk_cell BK322.out 3).trans rfl
                  have hfz41_0 := blk_frozen BK322.out 0
                  have hfz41_1 := blk_frozen BK322.out 1
                  have hfz41_2 := blk_frozen BK322.out 2
                  have hfz41_3 := blk_frozen BK322.out 3
                  go_wp2
                  go_meet
                  case rel => exact ⟨_, (true), (by first | rfl | (simp; done) | (simp [*]; done)), H', ⟨by have := HJ3.out; first | omega | exact Nat.le_refl _⟩, ⟨by (with_reducible repeat (first | apply Kd.V_alloc | apply Kd.V_drewN | apply Kd.V_drew)); exact HO327.out⟩, ⟨by (with_reducible repeat (first | apply Kd.V_alloc | apply Kd.V_drewN | apply Kd.V_drew)); exact HO335.out⟩, ⟨by (with_reducible repeat (first | apply Kd.V_alloc | apply Kd.V_drewN | apply Kd.V_drew)); exact HO343.out⟩, ⟨by (with_reducible repeat (first | refine blk_drewN ?_ _ | refine blk_drew ?_ | refine blk_alloc ?_ _)); exact BK322.out⟩, ⟨by repeat (first | (with_reducible first | exact HB.out | apply below_alloc | apply pw_below_drewN | apply below_drew1 | refine below_set ?_ GE322.out) | exact HB.out)⟩⟩
                · rw [if_neg c40] at H
                  have c40b0 : (a2_0 == 4) = false := beq_eq_false_iff_ne.mpr c40
                  have c40b1 : (a2_0 != 4) = true := bne_iff_ne.mpr c40
                  by_cases c42 : t336 = true
                  · subst c42
                    have H1 : (if t340 = true then (if a2_0 = 5 then (drawbridgelaw27_HostEnds.j1 kj3 t325 t333 t341 true) else (if t344 = true then (drawbridgelaw27_HostEnds.j1 kj3 t325 t333 t341 t348) else (drawbridgelaw27_HostEnds.j1 kj3 t325 t333 t341 false))) else (if t344 = true then (drawbridgelaw27_HostEnds.j1 kj3 t325 t333 t341 t348) else (drawbridgelaw27_HostEnds.j1 kj3 t325 t333 t341 false))) = some r := by rw [if_pos rfl] at H; exact H
                    clear H
                    have H := H1
                    clear H1
                    by_cases c43 : t340 = true
                    · subst c43
                      have H1 : (if a2_0 = 5 then (drawbridgelaw27_HostEnds.j1 kj3 t325 t333 t341 true) else (if t344 = true then (drawbridgelaw27_HostEnds.j1 kj3 t325 t333 t341 t348) else (drawbridgelaw27_HostEnds.j1 kj3 t325 t333 t341 false))) = some r := by rw [if_pos rfl] at H; exact H
                      clear H
                      have H := H1
                      clear H1
                      by_cases c44 : a2_0 = 5
                      · rw [if_pos c44] at H
                        have c44b0 : (a2_0 == 5) = true := beq_iff_eq.mpr c44
                        have c44b1 : (a2_0 != 5) = false := bne_eq_false_iff_eq.mpr c44
                        clear c44
                        have H' := Aside0.mk H
                        clear H
                        have hcz45_0 : w35.cell? ⟨gb322, 0, none⟩ = some (.int .i64 a2_0) := (blk_cell BK322.out 0).trans rfl
                        have hcz45_1 : w35.cell? ⟨gb322, 1, none⟩ = some (.int .i64 a1) := (blk_cell BK322.out 1).trans rfl
                        have hcz45_2 : w35.cell? ⟨gb322, 2, none⟩ = some (.slice A2_2 l2_2.length c2_2) := (blk_cell BK322.out 2).trans rfl
                        have hcz45_3 : w35.cell? ⟨gb322, 3, none⟩ = some (.int .i64 a2_3) := (blk_cell BK322.out 3).trans rfl
                        have hfz45_0 := blk_frozen BK322.out 0
                        have hfz45_1 := blk_frozen BK322.out 1
                        have hfz45_2 := blk_frozen BK322.out 2
                        have hfz45_3 := blk_frozen BK322.out 3
                        go_wp2
                        go_meet
                        case rel => exact ⟨_, (true), (by first | rfl | (simp; done) | (simp [*]; done)), H', ⟨by have := HJ3.out; first | omega | exact Nat.le_refl _⟩, ⟨by (with_reducible repeat (first | apply Kd.V_alloc | apply Kd.V_drewN | apply Kd.V_drew)); exact HO327.out⟩, ⟨by (with_reducible repeat (first | apply Kd.V_alloc | apply Kd.V_drewN | apply Kd.V_drew)); exact HO335.out⟩, ⟨by (with_reducible repeat (first | apply Kd.V_alloc | apply Kd.V_drewN | apply Kd.V_drew)); exact HO343.out⟩, ⟨by (with_reducible repeat (first | refine blk_drewN ?_ _ | refine blk_drew ?_ | refine blk_alloc ?_ _)); exact BK322.out⟩, ⟨by repeat (first | (with_reducible first | exact HB.out | apply below_alloc | apply pw_below_drewN | apply below_drew1 | refine below_set ?_ GE322.out) | exact HB.out)⟩⟩
                      · rw [if_neg c44] at H
                        have c44b0 : (a2_0 == 5) = false := beq_eq_false_iff_ne.mpr c44
                        have c44b1 : (a2_0 != 5) = true := bne_iff_ne.mpr c44
                        by_cases c46 : t344 = true
                        · subst c46
                          have H1 : (drawbridgelaw27_HostEnds.j1 kj3 t325 t333 t341 t348) = some r := by rw [if_pos rfl] at H; exact H
                          clear H
                          have H := H1
                          clear H1
                          have H' := Aside0.mk H
                          clear H
                          have hcz47_0 : w35.cell? ⟨gb322, 0, none⟩ = some (.int .i64 a2_0) := (blk_cell BK322.out 0).trans rfl
                          have hcz47_1 : w35.cell? ⟨gb322, 1, none⟩ = some (.int .i64 a1) := (blk_cell BK322.out 1).trans rfl
                          have hcz47_2 : w35.cell? ⟨gb322, 2, none⟩ = some (.slice A2_2 l2_2.length c2_2) := (blk_cell BK322.out 2).trans rfl
                          have hcz47_3 : w35.cell? ⟨gb322, 3, none⟩ = some (.int .i64 a2_3) := (blk_cell BK322.out 3).trans rfl
                          have hfz47_0 := blk_frozen BK322.out 0
                          have hfz47_1 := blk_frozen BK322.out 1
                          have hfz47_2 := blk_frozen BK322.out 2
                          have hfz47_3 := blk_frozen BK322.out 3
                          go_wp2
                          go_meet
                          case rel => exact ⟨_, (t348), (by first | rfl | (simp; done) | (simp [*]; done)), H', ⟨by have := HJ3.out; first | omega | exact Nat.le_refl _⟩, ⟨by (with_reducible repeat (first | apply Kd.V_alloc | apply Kd.V_drewN | apply Kd.V_drew)); exact HO327.out⟩, ⟨by (with_reducible repeat (first | apply Kd.V_alloc | apply Kd.V_drewN | apply Kd.V_drew)); exact HO335.out⟩, ⟨by (with_reducible repeat (first | apply Kd.V_alloc | apply Kd.V_drewN | apply Kd.V_drew)); exact HO343.out⟩, ⟨by (with_reducible repeat (first | refine blk_drewN ?_ _ | refine blk_drew ?_ | refine blk_alloc ?_ _)); exact BK322.out⟩, ⟨by repeat (first | (with_reducible first | exact HB.out | apply below_alloc | apply pw_below_drewN | apply below_drew1 | refine below_set ?_ GE322.out) | exact HB.out)⟩⟩
                        · replace c46 := Bool.eq_false_iff.mpr c46
                          subst c46
                          have H1 : (drawbridgelaw27_HostEnds.j1 kj3 t325 t333 t341 false) = some r := by rw [if_neg (show ¬ (false = true) by decide)] at H; exact H
                          clear H
                          have H := H1
                          clear H1
                          have H' := Aside0.mk H
                          clear H
                          have hcz48_0 : w35.cell? ⟨gb322, 0, none⟩ = some (.int .i64 a2_0) := (blk_cell BK322.out 0).trans rfl
                          have hcz48_1 : w35.cell? ⟨gb322, 1, none⟩ = some (.int .i64 a1) := (blk_cell BK322.out 1).trans rfl
                          have hcz48_2 : w35.cell? ⟨gb322, 2, none⟩ = some (.slice A2_2 l2_2.length c2_2) := (blk_cell BK322.out 2).trans rfl
                          have hcz48_3 : w35.cell? ⟨gb322, 3, none⟩ = some (.int .i64 a2_3) := (blk_cell BK322.out 3).trans rfl
                          have hfz48_0 := blk_frozen BK322.out 0
                          have hfz48_1 := blk_frozen BK322.out 1
                          have hfz48_2 := blk_frozen BK322.out 2
                          have hfz48_3 := blk_frozen BK322.out 3
                          go_wp2
                          go_meet
                          case rel => exact ⟨_, (false), (by first | rfl | (simp; done) | (simp [*]; done)), H', ⟨by have := HJ3.out; first | omega | exact Nat.le_refl _⟩, ⟨by (with_reducible repeat (first | apply Kd.V_alloc | apply Kd.V_drewN | apply Kd.V_drew)); exact HO327.out⟩, ⟨by (with_reducible repeat (first | apply Kd.V_alloc | apply Kd.V_drewN | apply Kd.V_drew)); exact HO335.out⟩, ⟨by (with_reducible repeat (first | apply Kd.V_alloc | apply Kd.V_drewN | apply Kd.V_drew)); exact HO343.out⟩, ⟨by (with_reducible repeat (first | refine blk_drewN ?_ _ | refine blk_drew ?_ | refine blk_alloc ?_ _)); exact BK322.out⟩, ⟨by repeat (first | (with_reducible first | exact HB.out | apply below_alloc | apply pw_below_drewN | apply below_drew1 | refine below_set ?_ GE322.out) | exact HB.out)⟩⟩
                    · replace c43 := Bool.eq_false_iff.mpr c43
                      subst c43
                      have H1 : (if t344 = true then (drawbridgelaw27_HostEnds.j1 kj3 t325 t333 t341 t348) else (drawbridgelaw27_HostEnds.j1 kj3 t325 t333 t341 false)) = some r := by rw [if_neg (show ¬ (false = true) by decide)] at H; exact H
                      clear H
                      have H := H1
                      clear H1
                      by_cases c49 : t344 = true
                      · subst c49
                        have H1 : (drawbridgelaw27_HostEnds.j1 kj3 t325 t333 t341 t348) = some r := by rw [if_pos rfl] at H; exact H
                        clear H
                        have H := H1
                        clear H1
                        have H' := Aside0.mk H
                        clear H
                        have hcz50_0 : w35.cell? ⟨gb322, 0, none⟩ = some (.int .i64 a2_0) := (blk_cell BK322.out 0).trans rfl
                        have hcz50_1 : w35.cell? ⟨gb322, 1, none⟩ = some (.int .i64 a1) := (blk_cell BK322.out 1).trans rfl
                        have hcz50_2 : w35.cell? ⟨gb322, 2, none⟩ = some (.slice A2_2 l2_2.length c2_2) := (blk_cell BK322.out 2).trans rfl
                        have hcz50_3 : w35.cell? ⟨gb322, 3, none⟩ = some (.int .i64 a2_3) := (blk_cell BK322.out 3).trans rfl
                        have hfz50_0 := blk_frozen BK322.out 0
                        have hfz50_1 := blk_frozen BK322.out 1
                        have hfz50_2 := blk_frozen BK322.out 2
                        have hfz50_3 := blk_frozen BK322.out 3
                        go_wp2
                        go_meet
                        case rel => exact ⟨_, (t348), (by first | rfl | (simp; done) | (simp [*]; done)), H', ⟨by have := HJ3.out; first | omega | exact Nat.le_refl _⟩, ⟨by (with_reducible repeat (first | apply Kd.V_alloc | apply Kd.V_drewN | apply Kd.V_drew)); exact HO327.out⟩, ⟨by (with_reducible repeat (first | apply Kd.V_alloc | apply Kd.V_drewN | apply Kd.V_drew)); exact HO335.out⟩, ⟨by (with_reducible repeat (first | apply Kd.V_alloc | apply Kd.V_drewN | apply Kd.V_drew)); exact HO343.out⟩, ⟨by (with_reducible repeat (first | refine blk_drewN ?_ _ | refine blk_drew ?_ | refine blk_alloc ?_ _)); exact BK322.out⟩, ⟨by repeat (first | (with_reducible first | exact HB.out | apply below_alloc | apply pw_below_drewN | apply below_drew1 | refine below_set ?_ GE322.out) | exact HB.out)⟩⟩
                      · replace c49 := Bool.eq_false_iff.mpr c49
                        subst c49
                        have H1 : (drawbridgelaw27_HostEnds.j1 kj3 t325 t333 t341 false) = some r := by rw [if_neg (show ¬ (false = true) by decide)] at H; exact H
                        clear H
                        have H := H1
                        clear H1
                        have H' := Aside0.mk H
                        clear H
                        have hcz51_0 : w35.cell? ⟨gb322, 0, none⟩ = some (.int .i64 a2_0) := (blk_cell BK322.out 0).trans rfl
                        have hcz51_1 : w35.cell? ⟨gb322, 1, none⟩ = some (.int .i64 a1) := (blk_cell BK322.out 1).trans rfl
                        have hcz51_2 : w35.cell? ⟨gb322, 2, none⟩ = some (.slice A2_2 l2_2.length c2_2) := (blk_cell BK322.out 2).trans rfl
                        have hcz51_3 : w35.cell? ⟨gb322, 3, none⟩ = some (.int .i64 a2_3) := (blk_cell BK322.out 3).trans rfl
                        have hfz51_0 := blk_frozen BK322.out 0
                        have hfz51_1 := blk_frozen BK322.out 1
                        have hfz51_2 := blk_frozen BK322.out 2
                        have hfz51_3 := blk_frozen BK322.out 3
                        go_wp2
                        go_meet
                        case rel => exact ⟨_, (false), (by first | rfl | (simp; done) | (simp [*]; done)), H', ⟨by have := HJ3.out; first | omega | exact Nat.le_refl _⟩, ⟨by (with_reducible repeat (first | apply Kd.V_alloc | apply Kd.V_drewN | apply Kd.V_drew)); exact HO327.out⟩, ⟨by (with_reducible repeat (first | apply Kd.V_alloc | apply Kd.V_drewN | apply Kd.V_drew)); exact HO335.out⟩, ⟨by (with_reducible repeat (first | apply Kd.V_alloc | apply Kd.V_drewN | apply Kd.V_drew)); exact HO343.out⟩, ⟨by (with_reducible repeat (first | refine blk_drewN ?_ _ | refine blk_drew ?_ | refine blk_alloc ?_ _)); exact BK322.out⟩, ⟨by repeat (first | (with_reducible first | exact HB.out | apply below_alloc | apply pw_below_drewN | apply below_drew1 | refine below_set ?_ GE322.out) | exact HB.out)⟩⟩
                  · replace c42 := Bool.eq_false_iff.mpr c42
                    subst c42
                    have H1 : (if t344 = true then (drawbridgelaw27_HostEnds.j1 kj3 t325 t333 t341 t348) else (drawbridgelaw27_HostEnds.j1 kj3 t325 t333 t341 false)) = some r := by rw [if_neg (show ¬ (false = true) by decide)] at H; exact H
                    clear H
                    have H := H1
                    clear H1
                    by_cases c52 : t344 = true
                    · subst c52
                      have H1 : (drawbridgelaw27_HostEnds.j1 kj3 t325 t333 t341 t348) = some r := by rw [if_pos rfl] at H; exact H
                      clear H
                      have H := H1
                      clear H1
                      have H' := Aside0.mk H
                      clear H
                      have hcz53_0 : w35.cell? ⟨gb322, 0, none⟩ = some (.int .i64 a2_0) := (blk_cell BK322.out 0).trans rfl
                      have hcz53_1 : w35.cell? ⟨gb322, 1, none⟩ = some (.int .i64 a1) := (blk_cell BK322.out 1).trans rfl
                      have hcz53_2 : w35.cell? ⟨gb322, 2, none⟩ = some (.slice A2_2 l2_2.length c2_2) := (blk_cell BK322.out 2).trans rfl
                      have hcz53_3 : w35.cell? ⟨gb322, 3, none⟩ = some (.int .i64 a2_3) := (blk_cell BK322.out 3).trans rfl
                      have hfz53_0 := blk_frozen BK322.out 0
                      have hfz53_1 := blk_frozen BK322.out 1
                      have hfz53_2 := blk_frozen BK322.out 2
                      have hfz53_3 := blk_frozen BK322.out 3
                      go_wp2
                      go_meet
                      case rel => exact ⟨_, (t348), (by first | rfl | (simp; done) | (simp [*]; done)), H', ⟨by have := HJ3.out; first | omega | exact Nat.le_refl _⟩, ⟨by (with_reducible repeat (first | apply Kd.V_alloc | apply Kd.V_drewN | apply Kd.V_drew)); exact HO327.out⟩, ⟨by (with_reducible repeat (first | apply Kd.V_alloc | apply Kd.V_drewN | apply Kd.V_drew)); exact HO335.out⟩, ⟨by (with_reducible repeat (first | apply Kd.V_alloc | apply Kd.V_drewN | apply Kd.V_drew)); exact HO343.out⟩, ⟨by (with_reducible repeat (first | refine blk_drewN ?_ _ | refine blk_drew ?_ | refine blk_alloc ?_ _)); exact BK322.out⟩, ⟨by repeat (first | (with_reducible first | exact HB.out | apply below_alloc | apply pw_below_drewN | apply below_drew1 | refine below_set ?_ GE322.out) | exact HB.out)⟩⟩
                    · replace c52 := Bool.eq_false_iff.mpr c52
                      subst c52
                      have H1 : (drawbridgelaw27_HostEnds.j1 kj3 t325 t333 t341 false) = some r := by rw [if_neg (show ¬ (false = true) by decide)] at H; exact H
                      clear H
                      have H := H1
                      clear H1
                      have H' := Aside0.mk H
                      clear H
                      have hcz54_0 : w35.cell? ⟨gb322, 0, none⟩ = some (.int .i64 a2_0) := (blk_cell BK322.out 0).trans rfl
                      have hcz54_1 : w35.cell? ⟨gb322, 1, none⟩ = some (.int .i64 a1) := (blk_cell BK322.out 1).trans rfl
                      have hcz54_2 : w35.cell? ⟨gb322, 2, none⟩ = some (.slice A2_2 l2_2.length c2_2) := (blk_cell BK322.out 2).trans rfl
                      have hcz54_3 : w35.cell? ⟨gb322, 3, none⟩ = some (.int .i64 a2_3) := (blk_cell BK322.out 3).trans rfl
                      have hfz54_0 := blk_frozen BK322.out 0
                      have hfz54_1 := blk_frozen BK322.out 1
                      have hfz54_2 := blk_frozen BK322.out 2
                      have hfz54_3 := blk_frozen BK322.out 3
                      go_wp2
                      go_meet
                      case rel => exact ⟨_, (false), (by first | rfl | (simp; done) | (simp [*]; done)), H', ⟨by have := HJ3.out; first | omega | exact Nat.le_refl _⟩, ⟨by (with_reducible repeat (first | apply Kd.V_alloc | apply Kd.V_drewN | apply Kd.V_drew)); exact HO327.out⟩, ⟨by (with_reducible repeat (first | apply Kd.V_alloc | apply Kd.V_drewN | apply Kd.V_drew)); exact HO335.out⟩, ⟨by (with_reducible repeat (first | apply Kd.V_alloc | apply Kd.V_drewN | apply Kd.V_drew)); exact HO343.out⟩, ⟨by (with_reducible repeat (first | refine blk_drewN ?_ _ | refine blk_drew ?_ | refine blk_alloc ?_ _)); exact BK322.out⟩, ⟨by repeat (first | (with_reducible first | exact HB.out | apply below_alloc | apply pw_below_drewN | apply below_drew1 | refine below_set ?_ GE322.out) | exact HB.out)⟩⟩
            · replace c37 := Bool.eq_false_iff.mpr c37
              subst c37
              have H1 : (if t336 = true then (if t340 = true then (if a2_0 = 5 then (drawbridgelaw27_HostEnds.j1 kj3 t325 t333 t341 true) else (if t344 = true then (drawbridgelaw27_HostEnds.j1 kj3 t325 t333 t341 t348) else (drawbridgelaw27_HostEnds.j1 kj3 t325 t333 t341 false))) else (if t344 = true then (drawbridgelaw27_HostEnds.j1 kj3 t325 t333 t341 t348) else (drawbridgelaw27_HostEnds.j1 kj3 t325 t333 t341 false))) else (if t344 = true then (drawbridgelaw27_HostEnds.j1 kj3 t325 t333 t341 t348) else (drawbridgelaw27_HostEnds.j1 kj3 t325 t333 t341 false))) = some r := by rw [if_neg (show ¬ (false = true) by decide)] at H; exact H
              clear H
              have H := H1
              clear H1
              by_cases c55 : t336 = true
              · subst c55
                have H1 : (if t340 = true then (if a2_0 = 5 then (drawbridgelaw27_HostEnds.j1 kj3 t325 t333 t341 true) else (if t344 = true then (drawbridgelaw27_HostEnds.j1 kj3 t325 t333 t341 t348) else (drawbridgelaw27_HostEnds.j1 kj3 t325 t333 t341 false))) else (if t344 = true then (drawbridgelaw27_HostEnds.j1 kj3 t325 t333 t341 t348) else (drawbridgelaw27_HostEnds.j1 kj3 t325 t333 t341 false))) = some r := by rw [if_pos rfl] at H; exact H
                clear H
                have H := H1
                clear H1
                by_cases c56 : t340 = true
                · subst c56
                  have H1 : (if a2_0 = 5 then (drawbridgelaw27_HostEnds.j1 kj3 t325 t333 t341 true) else (if t344 = true then (drawbridgelaw27_HostEnds.j1 kj3 t325 t333 t341 t348) else (drawbridgelaw27_HostEnds.j1 kj3 t325 t333 t341 false))) = some r := by rw [if_pos rfl] at H; exact H
                  clear H
                  have H := H1
                  clear H1
                  by_cases c57 : a2_0 = 5
                  · rw [if_pos c57] at H
                    have c57b0 : (a2_0 == 5) = true := beq_iff_eq.mpr c57
                    have c57b1 : (a2_0 != 5) = false := bne_eq_false_iff_eq.mpr c57
                    clear c57
                    have H' := Aside0.mk H
                    clear H
                    have hcz58_0 : w35.cell? ⟨gb322, 0, none⟩ = some (.int .i64 a2_0) := (blk_cell BK322.out 0).trans rfl
                    have hcz58_1 : w35.cell? ⟨gb322, 1, none⟩ = some (.int .i64 a1) := (blk_cell BK322.out 1).trans rfl
                    have hcz58_2 : w35.cell? ⟨gb322, 2, none⟩ = some (.slice A2_2 l2_2.length c2_2) := (blk_cell BK322.out 2).trans rfl
                    have hcz58_3 : w35.cell? ⟨gb322, 3, none⟩ = some (.int .i64 a2_3) := (blk_cell BK322.out 3).trans rfl
                    have hfz58_0 := blk_frozen BK322.out 0
                    have hfz58_1 := blk_frozen BK322.out 1
                    have hfz58_2 := blk_frozen BK322.out 2
                    have hfz58_3 := blk_frozen BK322.out 3
                    go_wp2
                    go_meet
                    case rel => exact ⟨_, (true), (by first | rfl | (simp; done) | (simp [*]; done)), H', ⟨by have := HJ3.out; first | omega | exact Nat.le_refl _⟩, ⟨by (with_reducible repeat (first | apply Kd.V_alloc | apply Kd.V_drewN | apply Kd.V_drew)); exact HO327.out⟩, ⟨by (with_reducible repeat (first | apply Kd.V_alloc | apply Kd.V_drewN | apply Kd.V_drew)); exact HO335.out⟩, ⟨by (with_reducible repeat (first | apply Kd.V_alloc | apply Kd.V_drewN | apply Kd.V_drew)); exact HO343.out⟩, ⟨by (with_reducible repeat (first | refine blk_drewN ?_ _ | refine blk_drew ?_ | refine blk_alloc ?_ _)); exact BK322.out⟩, ⟨by repeat (first | (with_reducible first | exact HB.out | apply below_alloc | apply pw_below_drewN | apply below_drew1 | refine below_set ?_ GE322.out) | exact HB.out)⟩⟩
                  · rw [if_neg c57] at H
                    have c57b0 : (a2_0 == 5) = false := beq_eq_false_iff_ne.mpr c57
                    have c57b1 : (a2_0 != 5) = true := bne_iff_ne.mpr c57
                    by_cases c59 : t344 = true
                    · subst c59
                      have H1 : (drawbridgelaw27_HostEnds.j1 kj3 t325 t333 t341 t348) = some r := by rw [if_pos rfl] at H; exact H
                      clear H
                      have H := H1
                      clear H1
                      have H' := Aside0.mk H
                      clear H
                      have hcz60_0 : w35.cell? ⟨gb322, 0, none⟩ = some (.int .i64 a2_0) := (blk_cell BK322.out 0).trans rfl
                      have hcz60_1 : w35.cell? ⟨gb322, 1, none⟩ = some (.int .i64 a1) := (blk_cell BK322.out 1).trans rfl
                      have hcz60_2 : w35.cell? ⟨gb322, 2, none⟩ = some (.slice A2_2 l2_2.length c2_2) := (blk_cell BK322.out 2).trans rfl
                      have hcz60_3 : w35.cell? ⟨gb322, 3, none⟩ = some (.int .i64 a2_3) := (blk_cell BK322.out 3).trans rfl
                      have hfz60_0 := blk_frozen BK322.out 0
                      have hfz60_1 := blk_frozen BK322.out 1
                      have hfz60_2 := blk_frozen BK322.out 2
                      have hfz60_3 := blk_frozen BK322.out 3
                      go_wp2
                      go_meet
                      case rel => exact ⟨_, (t348), (by first | rfl | (simp; done) | (simp [*]; done)), H', ⟨by have := HJ3.out; first | omega | exact Nat.le_refl _⟩, ⟨by (with_reducible repeat (first | apply Kd.V_alloc | apply Kd.V_drewN | apply Kd.V_drew)); exact HO327.out⟩, ⟨by (with_reducible repeat (first | apply Kd.V_alloc | apply Kd.V_drewN | apply Kd.V_drew)); exact HO335.out⟩, ⟨by (with_reducible repeat (first | apply Kd.V_alloc | apply Kd.V_drewN | apply Kd.V_drew)); exact HO343.out⟩, ⟨by (with_reducible repeat (first | refine blk_drewN ?_ _ | refine blk_drew ?_ | refine blk_alloc ?_ _)); exact BK322.out⟩, ⟨by repeat (first | (with_reducible first | exact HB.out | apply below_alloc | apply pw_below_drewN | apply below_drew1 | refine below_set ?_ GE322.out) | exact HB.out)⟩⟩
                    · replace c59 := Bool.eq_false_iff.mpr c59
                      subst c59
                      have H1 : (drawbridgelaw27_HostEnds.j1 kj3 t325 t333 t341 false) = some r := by rw [if_neg (show ¬ (false = true) by decide)] at H; exact H
                      clear H
                      have H := H1
                      clear H1
                      have H' := Aside0.mk H
                      clear H
                      have hcz61_0 : w35.cell? ⟨gb322, 0, none⟩ = some (.int .i64 a2_0) := (blk_cell BK322.out 0).trans rfl
                      have hcz61_1 : w35.cell? ⟨gb322, 1, none⟩ = some (.int .i64 a1) := (blk_cell BK322.out 1).trans rfl
                      have hcz61_2 : w35.cell? ⟨gb322, 2, none⟩ = some (.slice A2_2 l2_2.length c2_2) := (blk_cell BK322.out 2).trans rfl
                      have hcz61_3 : w35.cell? ⟨gb322, 3, none⟩ = some (.int .i64 a2_3) := (blk_cell BK322.out 3).trans rfl
                      have hfz61_0 := blk_frozen BK322.out 0
                      have hfz61_1 := blk_frozen BK322.out 1
                      have hfz61_2 := blk_frozen BK322.out 2
                      have hfz61_3 := blk_frozen BK322.out 3
                      go_wp2
                      go_meet
                      case rel => exact ⟨_, (false), (by first | rfl | (simp; done) | (simp [*]; done)), H', ⟨by have := HJ3.out; first | omega | exact Nat.le_refl _⟩, ⟨by (with_reducible repeat (first | apply Kd.V_alloc | apply Kd.V_drewN | apply Kd.V_drew)); exact HO327.out⟩, ⟨by (with_reducible repeat (first | apply Kd.V_alloc | apply Kd.V_drewN | apply Kd.V_drew)); exact HO335.out⟩, ⟨by (with_reducible repeat (first | apply Kd.V_alloc | apply Kd.V_drewN | apply Kd.V_drew)); exact HO343.out⟩, ⟨by (with_reducible repeat (first | refine blk_drewN ?_ _ | refine blk_drew ?_ | refine blk_alloc ?_ _)); exact BK322.out⟩, ⟨by repeat (first | (with_reducible first | exact HB.out | apply below_alloc | apply pw_below_drewN | apply below_drew1 | refine below_set ?_ GE322.out) | exact HB.out)⟩⟩
                · replace c56 := Bool.eq_false_iff.mpr c56
                  subst c56
                  have H1 : (if t344 = true then (drawbridgelaw27_HostEnds.j1 kj3 t325 t333 t341 t348) else (drawbridgelaw27_HostEnds.j1 kj3 t325 t333 t341 false)) = some r := by rw [if_neg (show ¬ (false = true) by decide)] at H; exact H
                  clear H
                  have H := H1
                  clear H1
                  by_cases c62 : t344 = true
                  · subst c62
                    have H1 : (drawbridgelaw27_HostEnds.j1 kj3 t325 t333 t341 t348) = some r := by rw [if_pos rfl] at H; exact H
                    clear H
                    have H := H1
                    clear H1
                    have H' := Aside0.mk H
                    clear H
                    go_wp2
                    go_meet
                    case rel => exact ⟨_, (t348), (by first | rfl | (simp; done) | (simp [*]; done)), H', ⟨by have := HJ3.out; first | omega | exact Nat.le_refl _⟩, ⟨by (with_reducible repeat (first | apply Kd.V_alloc | apply Kd.V_drewN | apply Kd.V_drew)); exact HO327.out⟩, ⟨by (with_reducible repeat (first | apply Kd.V_alloc | apply Kd.V_drewN | apply Kd.V_drew)); exact HO335.out⟩, ⟨by (with_reducible repeat (first | apply Kd.V_alloc | apply Kd.V_drewN | apply Kd.V_drew)); exact HO343.out⟩, ⟨by (with_reducible repeat (first | refine blk_drewN ?_ _ | refine blk_drew ?_ | refine blk_alloc ?_ _)); exact BK322.out⟩, ⟨by repeat (first | (with_reducible first | exact HB.out | apply below_alloc | apply pw_below_drewN | apply below_drew1 | refine below_set ?_ GE322.out) | exact HB.out)⟩⟩
                  · replace c62 := Bool.eq_false_iff.mpr c62
                    subst c62
                    have H1 : (drawbridgelaw27_HostEnds.j1 kj3 t325 t333 t341 false) = some r := by rw [if_neg (show ¬ (false = true) by decide)] at H; exact H
                    clear H
                    have H := H1
                    clear H1
                    have H' := Aside0.mk H
                    clear H
                    go_wp2
                    go_meet
                    case rel => exact ⟨_, (false), (by first | rfl | (simp; done) | (simp [*]; done)), H', ⟨by have := HJ3.out; first | omega | exact Nat.le_refl _⟩, ⟨by (with_reducible repeat (first | apply Kd.V_alloc | apply Kd.V_drewN | apply Kd.V_drew)); exact HO327.out⟩, ⟨by (with_reducible repeat (first | apply Kd.V_alloc | apply Kd.V_drewN | apply Kd.V_drew)); exact HO335.out⟩, ⟨by (with_reducible repeat (first | apply Kd.V_alloc | apply Kd.V_drewN | apply Kd.V_drew)); exact HO343.out⟩, ⟨by (with_reducible repeat (first | refine blk_drewN ?_ _ | refine blk_drew ?_ | refine blk_alloc ?_ _)); exact BK322.out⟩, ⟨by repeat (first | (with_reducible first | exact HB.out | apply below_alloc | apply pw_below_drewN | apply below_drew1 | refine below_set ?_ GE322.out) | exact HB.out)⟩⟩
              · replace c55 := Bool.eq_false_iff.mpr c55
                subst c55
                have H1 : (if t344 = true then (drawbridgelaw27_HostEnds.j1 kj3 t325 t333 t341 t348) else (drawbridgelaw27_HostEnds.j1 kj3 t325 t333 t341 false)) = some r := by rw [if_neg (show ¬ (false = true) by decide)] at H; exact H
                clear H
                have H := H1
                clear H1
                by_cases c63 : t344 = true
                · subst c63
                  have H1 : (drawbridgelaw27_HostEnds.j1 kj3 t325 t333 t341 t348) = some r := by rw [if_pos rfl] at H; exact H
                  clear H
                  have H := H1
                  clear H1
                  have H' := Aside0.mk H
                  clear H
                  go_wp2
                  go_meet
                  case rel => exact ⟨_, (t348), (by first | rfl | (simp; done) | (simp [*]; done)), H', ⟨by have := HJ3.out; first | omega | exact Nat.le_refl _⟩, ⟨by (with_reducible repeat (first | apply Kd.V_alloc | apply Kd.V_drewN | apply Kd.V_drew)); exact HO327.out⟩, ⟨by (with_reducible repeat (first | apply Kd.V_alloc | apply Kd.V_drewN | apply Kd.V_drew)); exact HO335.out⟩, ⟨by (with_reducible repeat (first | apply Kd.V_alloc | apply Kd.V_drewN | apply Kd.V_drew)); exact HO343.out⟩, ⟨by (with_reducible repeat (first | refine blk_drewN ?_ _ | refine blk_drew ?_ | refine blk_alloc ?_ _)); exact BK322.out⟩, ⟨by repeat (first | (with_reducible first | exact HB.out | apply below_alloc | apply pw_below_drewN | apply below_drew1 | refine below_set ?_ GE322.out) | exact HB.out)⟩⟩
                · replace c63 := Bool.eq_false_iff.mpr c63
                  subst c63
                  have H1 : (drawbridgelaw27_HostEnds.j1 kj3 t325 t333 t341 false) = some r := by rw [if_neg (show ¬ (false = true) by decide)] at H; exact H
                  clear H
                  have H := H1
                  clear H1
                  have H' := Aside0.mk H
                  clear H
                  go_wp2
                  go_meet
                  case rel => exact ⟨_, (false), (by first | rfl | (simp; done) | (simp [*]; done)), H', ⟨by have := HJ3.out; first | omega | exact Nat.le_refl _⟩, ⟨by (with_reducible repeat (first | apply Kd.V_alloc | apply Kd.V_drewN | apply Kd.V_drew)); exact HO327.out⟩, ⟨by (with_reducible repeat (first | apply Kd.V_alloc | apply Kd.V_drewN | apply Kd.V_drew)); exact HO335.out⟩, ⟨by (with_reducible repeat (first | apply Kd.V_alloc | apply Kd.V_drewN | apply Kd.V_drew)); exact HO343.out⟩, ⟨by (with_reducible repeat (first | refine blk_drewN ?_ _ | refine blk_drew ?_ | refine blk_alloc ?_ _)); exact BK322.out⟩, ⟨by repeat (first | (with_reducible first | exact HB.out | apply below_alloc | apply pw_below_drewN | apply below_drew1 | refine below_set ?_ GE322.out) | exact HB.out)⟩⟩
          · replace c36 := Bool.eq_false_iff.mpr c36
            subst c36
            have H1 : (if t336 = true then (if t340 = true then (if a2_0 = 5 then (drawbridgelaw27_HostEnds.j1 kj3 t325 t333 t341 true) else (if t344 = true then (drawbridgelaw27_HostEnds.j1 kj3 t325 t333 t341 t348) else (drawbridgelaw27_HostEnds.j1 kj3 t325 t333 t341 false))) else (if t344 = true then (drawbridgelaw27_HostEnds.j1 kj3 t325 t333 t341 t348) else (drawbridgelaw27_HostEnds.j1 kj3 t325 t333 t341 false))) else (if t344 = true then (drawbridgelaw27_HostEnds.j1 kj3 t325 t333 t341 t348) else (drawbridgelaw27_HostEnds.j1 kj3 t325 t333 t341 false))) = some r := by rw [if_neg (show ¬ (false = true) by decide)] at H; exact H
            clear H
            have H := H1
            clear H1
            by_cases c64 : t336 = true
            · subst c64
              have H1 : (if t340 = true then (if a2_0 = 5 then (drawbridgelaw27_HostEnds.j1 kj3 t325 t333 t341 true) else (if t344 = true then (drawbridgelaw27_HostEnds.j1 kj3 t325 t333 t341 t348) else (drawbridgelaw27_HostEnds.j1 kj3 t325 t333 t341 false))) else (if t344 = true then (drawbridgelaw27_HostEnds.j1 kj3 t325 t333 t341 t348) else (drawbridgelaw27_HostEnds.j1 kj3 t325 t333 t341 false))) = some r := by rw [if_pos rfl] at H; exact H
              clear H
              have H := H1
              clear H1
              by_cases c65 : t340 = true
              · subst c65
                have H1 : (if a2_0 = 5 then (drawbridgelaw27_HostEnds.j1 kj3 t325 t333 t341 true) else (if t344 = true then (drawbridgelaw27_HostEnds.j1 kj3 t325 t333 t341 t348) else (drawbridgelaw27_HostEnds.j1 kj3 t325 t333 t341 false))) = some r := by rw [if_pos rfl] at H; exact H
                clear H
                have H := H1
                clear H1
                by_cases c66 : a2_0 = 5
                · rw [if_pos c66] at H
                  have c66b0 : (a2_0 == 5) = true := beq_iff_eq.mpr c66
                  have c66b1 : (a2_0 != 5) = false := bne_eq_false_iff_eq.mpr c66
                  clear c66
                  have H' := Aside0.mk H
                  clear H
                  have hcz67_0 : w35.cell? ⟨gb322, 0, none⟩ = some (.int .i64 a2_0) := (blk_cell BK322.out 0).trans rfl
                  have hcz67_1 : w35.cell? ⟨gb322, 1, none⟩ = some (.int .i64 a1) := (blk_cell BK322.out 1).trans rfl
                  have hcz67_2 : w35.cell? ⟨gb322, 2, none⟩ = some (.slice A2_2 l2_2.length c2_2) := (blk_cell BK322.out 2).trans rfl
                  have hcz67_3 : w35.cell? ⟨gb322, 3, none⟩ = some (.int .i64 a2_3) := (blk_cell BK322.out 3).trans rfl
                  have hfz67_0 := blk_frozen BK322.out 0
                  have hfz67_1 := blk_frozen BK322.out 1
                  have hfz67_2 := blk_frozen BK322.out 2
                  have hfz67_3 := blk_frozen BK322.out 3
                  go_wp2
                  go_meet
                  case rel => exact ⟨_, (true), (by first | rfl | (simp; done) | (simp [*]; done)), H', ⟨by have := HJ3.out; first | omega | exact Nat.le_refl _⟩, ⟨by (with_reducible repeat (first | apply Kd.V_alloc | apply Kd.V_drewN | apply Kd.V_drew)); exact HO327.out⟩, ⟨by (with_reducible repeat (first | apply Kd.V_alloc | apply Kd.V_drewN | apply Kd.V_drew)); exact HO335.out⟩, ⟨by (with_reducible repeat (first | apply Kd.V_alloc | apply Kd.V_drewN | apply Kd.V_drew)); exact HO343.out⟩, ⟨by (with_reducible repeat (first | refine blk_drewN ?_ _ | refine blk_drew ?_ | refine blk_alloc ?_ _)); exact BK322.out⟩, ⟨by repeat (first | (with_reducible first | exact HB.out | apply below_alloc | apply pw_below_drewN | apply below_drew1 | refine below_set ?_ GE322.out) | exact HB.out)⟩⟩
                · rw [if_neg c66] at H
                  have c66b0 : (a2_0 == 5) = false := beq_eq_false_iff_ne.mpr c66
                  have c66b1 : (a2_0 != 5) = true := bne_iff_ne.mpr c66
                  by_cases c68 : t344 = true
                  · subst c68
                    have H1 : (drawbridgelaw27_HostEnds.j1 kj3 t325 t333 t341 t348) = some r := by rw [if_pos rfl] at H; exact H
                    clear H
                    have H := H1
                    clear H1
                    have H' := Aside0.mk H
                    clear H
                    have hcz69_0 : w35.cell? ⟨gb322, 0, none⟩ = some (.int .i64 a2_0) := (blk_cell BK322.out 0).trans rfl
                    have hcz69_1 : w35.cell? ⟨gb322, 1, none⟩ = some (.int .i64 a1) := (blk_cell BK322.out 1).trans rfl
                    have hcz69_2 : w35.cell? ⟨gb322, 2, none⟩ = some (.slice A2_2 l2_2.length c2_2) := (blk_cell BK322.out 2).trans rfl
                    have hcz69_3 : w35.cell? ⟨gb322, 3, none⟩ = some (.int .i64 a2_3) := (blk_cell BK322.out 3).trans rfl
                    have hfz69_0 := blk_frozen BK322.out 0
                    have hfz69_1 := blk_frozen BK322.out 1
                    have hfz69_2 := blk_frozen BK322.out 2
                    have hfz69_3 := blk_frozen BK322.out 3
                    go_wp2
                    go_meet
                    case rel => exact ⟨_, (t348), (by first | rfl | (simp; done) | (simp [*]; done)), H', ⟨by have := HJ3.out; first | omega | exact Nat.le_refl _⟩, ⟨by (with_reducible repeat (first | apply Kd.V_alloc | apply Kd.V_drewN | apply Kd.V_drew)); exact HO327.out⟩, ⟨by (with_reducible repeat (first | apply Kd.V_alloc | apply Kd.V_drewN | apply Kd.V_drew)); exact HO335.out⟩, ⟨by (with_reducible repeat (first | apply Kd.V_alloc | apply Kd.V_drewN | apply Kd.V_drew)); exact HO343.out⟩, ⟨by (with_reducible repeat (first | refine blk_drewN ?_ _ | refine blk_drew ?_ | refine blk_alloc ?_ _)); exact BK322.out⟩, ⟨by repeat (first | (with_reducible first | exact HB.out | apply below_alloc | apply pw_below_drewN | apply below_drew1 | refine below_set ?_ GE322.out) | exact HB.out)⟩⟩
                  · replace c68 := Bool.eq_false_iff.mpr c68
                    subst c68
                    have H1 : (drawbridgelaw27_HostEnds.j1 kj3 t325 t333 t341 false) = some r := by rw [if_neg (show ¬ (false = true) by decide)] at H; exact H
                    clear H
                    have H := H1
                    clear H1
                    have H' := Aside0.mk H
                    clear H
                    have hcz70_0 : w35.cell? ⟨gb322, 0, none⟩ = some (.int .i64 a2_0) := (blk_cell BK322.out 0).trans rfl
                    have hcz70_1 : w35.cell? ⟨gb322, 1, none⟩ = some (.int .i64 a1) := (blk_cell BK322.out 1).trans rfl
                    have hcz70_2 : w35.cell? ⟨gb322, 2, none⟩ = some (.slice A2_2 l2_2.length c2_2) := (blk_cell BK322.out 2).trans rfl
                    have hcz70_3 : w35.cell? ⟨gb322, 3, none⟩ = some (.int .i64 a2_3) := (blk_cell BK322.out 3).trans rfl
                    have hfz70_0 := blk_frozen BK322.out 0
                    have hfz70_1 := blk_frozen BK322.out 1
                    have hfz70_2 := blk_frozen BK322.out 2
                    have hfz70_3 := blk_frozen BK322.out 3
                    go_wp2
                    go_meet
                    case rel => exact ⟨_, (false), (by first | rfl | (simp; done) | (simp [*]; done)), H', ⟨by have := HJ3.out; first | omega | exact Nat.le_refl _⟩, ⟨by (with_reducible repeat (first | apply Kd.V_alloc | apply Kd.V_drewN | apply Kd.V_drew)); exact HO327.out⟩, ⟨by (with_reducible repeat (first | apply Kd.V_alloc | apply Kd.V_drewN | apply Kd.V_drew)); exact HO335.out⟩, ⟨by (with_reducible repeat (first | apply Kd.V_alloc | apply Kd.V_drewN | apply Kd.V_drew)); exact HO343.out⟩, ⟨by (with_reducible repeat (first | refine blk_drewN ?_ _ | refine blk_drew ?_ | refine blk_alloc ?_ _)); exact BK322.out⟩, ⟨by repeat (first | (with_reducible first | exact HB.out | apply below_alloc | apply pw_below_drewN | apply below_drew1 | refine below_set ?_ GE322.out) | exact HB.out)⟩⟩
              · replace c65 := Bool.eq_false_iff.mpr c65
                subst c65
                have H1 : (if t344 = true then (drawbridgelaw27_HostEnds.j1 kj3 t325 t333 t341 t348) else (drawbridgelaw27_HostEnds.j1 kj3 t325 t333 t341 false)) = some r := by rw [if_neg (show ¬ (false = true) by decide)] at H; exact H
                clear H
                have H := H1
                clear H1
                by_cases c71 : t344 = true
                · subst c71
                  have H1 : (drawbridgelaw27_HostEnds.j1 kj3 t325 t333 t341 t348) = some r := by rw [if_pos rfl] at H; exact H
                  clear H
                  have H := H1
                  clear H1
                  have H' := Aside0.mk H
                  clear H
                  go_wp2
                  go_meet
                  case rel => exact ⟨_, (t348), (by first | rfl | (simp; done) | (simp [*]; done)), H', ⟨by have := HJ3.out; first | omega | exact Nat.le_refl _⟩, ⟨by (with_reducible repeat (first | apply Kd.V_alloc | apply Kd.V_drewN | apply Kd.V_drew)); exact HO327.out⟩, ⟨by (with_reducible repeat (first | apply Kd.V_alloc | apply Kd.V_drewN | apply Kd.V_drew)); exact HO335.out⟩, ⟨by (with_reducible repeat (first | apply Kd.V_alloc | apply Kd.V_drewN | apply Kd.V_drew)); exact HO343.out⟩, ⟨by (with_reducible repeat (first | refine blk_drewN ?_ _ | refine blk_drew ?_ | refine blk_alloc ?_ _)); exact BK322.out⟩, ⟨by repeat (first | (with_reducible first | exact HB.out | apply below_alloc | apply pw_below_drewN | apply below_drew1 | refine below_set ?_ GE322.out) | exact HB.out)⟩⟩
                · replace c71 := Bool.eq_false_iff.mpr c71
                  subst c71
                  have H1 : (drawbridgelaw27_HostEnds.j1 kj3 t325 t333 t341 false) = some r := by rw [if_neg (show ¬ (false = true) by decide)] at H; exact H
                  clear H
                  have H := H1
                  clear H1
                  have H' := Aside0.mk H
                  clear H
                  go_wp2
                  go_meet
                  case rel => exact ⟨_, (false), (by first | rfl | (simp; done) | (simp [*]; done)), H', ⟨by have := HJ3.out; first | omega | exact Nat.le_refl _⟩, ⟨by (with_reducible repeat (first | apply Kd.V_alloc | apply Kd.V_drewN | apply Kd.V_drew)); exact HO327.out⟩, ⟨by (with_reducible repeat (first | apply Kd.V_alloc | apply Kd.V_drewN | apply Kd.V_drew)); exact HO335.out⟩, ⟨by (with_reducible repeat (first | apply Kd.V_alloc | apply Kd.V_drewN | apply Kd.V_drew)); exact HO343.out⟩, ⟨by (with_reducible repeat (first | refine blk_drewN ?_ _ | refine blk_drew ?_ | refine blk_alloc ?_ _)); exact BK322.out⟩, ⟨by repeat (first | (with_reducible first | exact HB.out | apply below_alloc | apply pw_below_drewN | apply below_drew1 | refine below_set ?_ GE322.out) | exact HB.out)⟩⟩
            · replace c64 := Bool.eq_false_iff.mpr c64
              subst c64
              have H1 : (if t344 = true then (drawbridgelaw27_HostEnds.j1 kj3 t325 t333 t341 t348) else (drawbridgelaw27_HostEnds.j1 kj3 t325 t333 t341 false)) = some r := by rw [if_neg (show ¬ (false = true) by decide)] at H; exact H
              clear H
              have H := H1
              clear H1
              by_cases c72 : t344 = true
              · subst c72
                have H1 : (drawbridgelaw27_HostEnds.j1 kj3 t325 t333 t341 t348) = some r := by rw [if_pos rfl] at H; exact H
                clear H
                have H := H1
                clear H1
                have H' := Aside0.mk H
                clear H
                go_wp2
                go_meet
                case rel => exact ⟨_, (t348), (by first | rfl | (simp; done) | (simp [*]; done)), H', ⟨by have := HJ3.out; first | omega | exact Nat.le_refl _⟩, ⟨by (with_reducible repeat (first | apply Kd.V_alloc | apply Kd.V_drewN | apply Kd.V_drew)); exact HO327.out⟩, ⟨by (with_reducible repeat (first | apply Kd.V_alloc | apply Kd.V_drewN | apply Kd.V_drew)); exact HO335.out⟩, ⟨by (with_reducible repeat (first | apply Kd.V_alloc | apply Kd.V_drewN | apply Kd.V_drew)); exact HO343.out⟩, ⟨by (with_reducible repeat (first | refine blk_drewN ?_ _ | refine blk_drew ?_ | refine blk_alloc ?_ _)); exact BK322.out⟩, ⟨by repeat (first | (with_reducible first | exact HB.out | apply below_alloc | apply pw_below_drewN | apply below_drew1 | refine below_set ?_ GE322.out) | exact HB.out)⟩⟩
              · replace c72 := Bool.eq_false_iff.mpr c72
                subst c72
                have H1 : (drawbridgelaw27_HostEnds.j1 kj3 t325 t333 t341 false) = some r := by rw [if_neg (show ¬ (false = true) by decide)] at H; exact H
                clear H
                have H := H1
                clear H1
                have H' := Aside0.mk H
                clear H
                go_wp2
                go_meet
                case rel => exact ⟨_, (false), (by first | rfl | (simp; done) | (simp [*]; done)), H', ⟨by have := HJ3.out; first | omega | exact Nat.le_refl _⟩, ⟨by (with_reducible repeat (first | apply Kd.V_alloc | apply Kd.V_drewN | apply Kd.V_drew)); exact HO327.out⟩, ⟨by (with_reducible repeat (first | apply Kd.V_alloc | apply Kd.V_drewN | apply Kd.V_drew)); exact HO335.out⟩, ⟨by (with_reducible repeat (first | apply Kd.V_alloc | apply Kd.V_drewN | apply Kd.V_drew)); exact HO343.out⟩, ⟨by (with_reducible repeat (first | refine blk_drewN ?_ _ | refine blk_drew ?_ | refine blk_alloc ?_ _)); exact BK322.out⟩, ⟨by repeat (first | (with_reducible first | exact HB.out | apply below_alloc | apply pw_below_drewN | apply below_drew1 | refine below_set ?_ GE322.out) | exact HB.out)⟩⟩
        case rest =>
          clear HC21
          try clear c1
          try clear c2
          try clear p2
          try clear c3
          try clear c4
          try clear c5
          try clear c6
          try clear c6b0
          try clear c6b1
          try clear c7
          try clear c7b0
          try clear c7b1
          try clear c9
          try clear c11
          try clear c12
          try clear c13
          try clear c36
          try clear c37
          try clear c38
          try clear c38b0
          try clear c38b1
          try clear c40
          try clear c40b0
          try clear c40b1
          try clear c42
          try clear c43
          try clear c44
          try clear c44b0
          try clear c44b1
          try clear c46
          try clear c49
          try clear c52
          try clear c55
          try clear c56
          try clear c57
          try clear c57b0
          try clear c57b1
          try clear c59
          try clear c62
          try clear c63
          try clear c64
          try clear c65
          try clear c66
          try clear c66b0
          try clear c66b1
          try clear c68
          try clear c71
          try clear c72
          try clear hcz10_0
          try clear hcz10_1
          try clear hcz10_2
          try clear hcz10_3
          try clear hcz22_0
          try clear hcz22_1
          try clear hcz22_2
          try clear hcz22_3
          try clear hcz25_0
          try clear hcz25_1
          try clear hcz25_2
          try clear hcz25_3
          try clear hcz29_0
          try clear hcz29_1
          try clear hcz29_2
          try clear hcz29_3
          try clear hcz33_0
          try clear hcz33_1
          try clear hcz33_2
          try clear hcz33_3
          try clear hcz39_0
          try clear hcz39_1
          try clear hcz39_2
          try clear hcz39_3
          try clear hcz41_0
          try clear hcz41_1
          try clear hcz41_2
          try clear hcz41_3
          try clear hcz45_0
          try clear hcz45_1
          try clear hcz45_2
          try clear hcz45_3
          try clear hcz47_0
          try clear hcz47_1
          try clear hcz47_2
          try clear hcz47_3
          try clear hcz48_0
          try clear hcz48_1
          try clear hcz48_2
          try clear hcz48_3
          try clear hcz50_0
          try clear hcz50_1
          try clear hcz50_2
          try clear hcz50_3
          try clear hcz51_0
          try clear hcz51_1
          try clear hcz51_2
          try clear hcz51_3
          try clear hcz53_0
          try clear hcz53_1
          try clear hcz53_2
          try clear hcz53_3
          try clear hcz54_0
          try clear hcz54_1
          try clear hcz54_2
          try clear hcz54_3
          try clear hcz58_0
          try clear hcz58_1
          try clear hcz58_2
          try clear hcz58_3
          try clear hcz60_0
          try clear hcz60_1
          try clear hcz60_2
          try clear hcz60_3
          try clear hcz61_0
          try clear hcz61_1
          try clear hcz61_2
          try clear hcz61_3
          try clear hcz67_0
          try clear hcz67_1
          try clear hcz67_2
          try clear hcz67_3
          try clear hcz69_0
          try clear hcz69_1
          try clear hcz69_2
          try clear hcz69_3
          try clear hcz70_0
          try clear hcz70_1
          try clear hcz70_2
          try clear hcz70_3
          try clear hcz8_0
          try clear hcz8_1
          try clear hcz8_2
          try clear hcz8_3
          try clear hfz10_0
          try clear hfz10_1
          try clear hfz10_2
          try clear hfz10_3
          try clear hfz22_0
          try clear hfz22_1
          try clear hfz22_2
          try clear hfz22_3
          try clear hfz25_0
          try clear hfz25_1
          try clear hfz25_2
          try clear hfz25_3
          try clear hfz29_0
          try clear hfz29_1
          try clear hfz29_2
          try clear hfz29_3
          try clear hfz33_0
          try clear hfz33_1
          try clear hfz33_2
          try clear hfz33_3
          try clear hfz39_0
          try clear hfz39_1
          try clear hfz39_2
          try clear hfz39_3
          try clear hfz41_0
          try clear hfz41_1
          try clear hfz41_2
          try clear hfz41_3
          try clear hfz45_0
          try clear hfz45_1
          try clear hfz45_2
          try clear hfz45_3
          try clear hfz47_0
          try clear hfz47_1
          try clear hfz47_2
          try clear hfz47_3
          try clear hfz48_0
          try clear hfz48_1
          try clear hfz48_2
          try clear hfz48_3
          try clear hfz50_0
          try clear hfz50_1
          try clear hfz50_2
          try clear hfz50_3
          try clear hfz51_0
          try clear hfz51_1
          try clear hfz51_2
          try clear hfz51_3
          try clear hfz53_0
          try clear hfz53_1
          try clear hfz53_2
          try clear hfz53_3
          try clear hfz54_0
          try clear hfz54_1
          try clear hfz54_2
          try clear hfz54_3
          try clear hfz58_0
          try clear hfz58_1
          try clear hfz58_2
          try clear hfz58_3
          try clear hfz60_0
          try clear hfz60_1
          try clear hfz60_2
          try clear hfz60_3
          try clear hfz61_0
          try clear hfz61_1
          try clear hfz61_2
          try clear hfz61_3
          try clear hfz67_0
          try clear hfz67_1
          try clear hfz67_2
          try clear hfz67_3
          try clear hfz69_0
          try clear hfz69_1
          try clear hfz69_2
          try clear hfz69_3
          try clear hfz70_0
          try clear hfz70_1
          try clear hfz70_2
          try clear hfz70_3
          try clear hfz8_0
          try clear hfz8_1
          try clear hfz8_2
          try clear hfz8_3
          try clear p2
          obtain ⟨kq, x103_20, rfl, HA, HJ20, HO_7, HO_11, HO_15, BK322, HB⟩ := hcut
          cases kq with
          | zero => exact absurd HA.out (by simp [drawbridgelaw27_HostEnds.j1])
          | succ kj20 =>
            have H := HA.out
            clear HA
            simp only [drawbridgelaw27_HostEnds.j1] at H
            by_cases c73 : x103_20 = true
            · subst c73
              have H1 : (some false) = some r := by rw [if_pos rfl] at H; exact H
              clear H
              have H := H1
              clear H1
              exact absurd ((Option.some.inj (show (some false) = some r from H)).trans hT_) (by decide)
            · replace c73 := Bool.eq_false_iff.mpr c73
              subst c73
              have H1 : ((host_Check.f t325).bind fun t349 => (if t349 = true then ((host_Check.f t333).bind fun t350 => (if t350 = true then ((host_Check.f t341).bind fun t351 => (if t351 = true then ((drawbridgelaw27_heads.f).bind fun t352 => (some t352)) else (some false))) else (some false))) else (some false))) = some r := by rw [if_neg (show ¬ (false = true) by decide)] at H; exact H
              clear H
              have H := H1
              clear H1
              replace H := Option.bind_eq_some_iff.mp H
              obtain ⟨t349, A740, H⟩ := H
              replace H : (if t349 = true then ((host_Check.f t333).bind fun t350 => (if t350 = true then ((host_Check.f t341).bind fun t351 => (if t351 = true then ((drawbridgelaw27_heads.f).bind fun t352 => (some t352)) else (some false))) else (some false))) else (some false)) = some r := H
              have A74 := Aside0.mk A740
              clear A740
              by_cases c75 : t349 = true
              · subst c75
                have H1 : ((host_Check.f t333).bind fun t350 => (if t350 = true then ((host_Check.f t341).bind fun t351 => (if t351 = true then ((drawbridgelaw27_heads.f).bind fun t352 => (some t352)) else (some false))) else (some false))) = some r := by rw [if_pos rfl] at H; exact H
                clear H
                have H := H1
                clear H1
                replace H := Option.bind_eq_some_iff.mp H
                obtain ⟨t350, A760, H⟩ := H
                replace H : (if t350 = true then ((host_Check.f t341).bind fun t351 => (if t351 = true then ((drawbridgelaw27_heads.f).bind fun t352 => (some t352)) else (some false))) else (some false)) = some r := H
                have A76 := Aside0.mk A760
                clear A760
                by_cases c77 : t350 = true
                · subst c77
                  have H1 : ((host_Check.f t341).bind fun t351 => (if t351 = true then ((drawbridgelaw27_heads.f).bind fun t352 => (some t352)) else (some false))) = some r := by rw [if_pos rfl] at H; exact H
                  clear H
                  have H := H1
                  clear H1
                  replace H := Option.bind_eq_some_iff.mp H
                  obtain ⟨t351, A780, H⟩ := H
                  replace H : (if t351 = true then ((drawbridgelaw27_heads.f).bind fun t352 => (some t352)) else (some false)) = some r := H
                  have A78 := Aside0.mk A780
                  clear A780
                  by_cases c79 : t351 = true
                  · subst c79
                    have H1 : ((drawbridgelaw27_heads.f).bind fun t352 => (some t352)) = some r := by rw [if_pos rfl] at H; exact H
                    clear H
                    have H := H1
                    clear H1
                    replace H := Option.bind_eq_some_iff.mp H
                    obtain ⟨t352, A800, H⟩ := H
                    replace H : (some t352) = some r := H
                    have A80 := Aside0.mk A800
                    clear A800
                    clear hT_
                    obtain rfl := Option.some.inj H
                    go_wp2_with (first | ((with_reducible refine gate_callee (f := 18) rfl ?_); refine goesL_ (some 105) rfl rfl Try.func18 (by kernel_rfl) rfl #[.slice Ao26 t325.length co26] rfl (by (try simp only [List.map_toArray, List.map_cons, List.map_nil]); first | done | rfl | (simp only [List.length_drop, List.length_take]; rfl)) ?_; (with_reducible refine (host_Check.calls _ _ t325 true _ ?side1 ?side2 A74.out).mono ?_); (case side1 => repeat (first | exact (Kd.V_reads' HO_7.out).2.2 | (with_reducible refine Kd.C_alloc ?_ _) | (with_reducible refine Kd.C_drewN ?_ _) | (with_reducible refine Kd.C_drew ?_))); (case side2 => exact (Kd.V_reads' HO_7.out).2.1); rintro e w81 ⟨rfl, hb⟩; refine ⟨_, rfl, ?_⟩; have n0_ := Aside0.mk (Kd.V_below (by (with_reducible repeat (first | apply Kd.V_alloc | apply Kd.V_drewN | apply Kd.V_drew)); exact HO_7.out) hb); have n1_ := Aside0.mk (Kd.V_below (by (with_reducible repeat (first | apply Kd.V_alloc | apply Kd.V_drewN | apply Kd.V_drew)); exact HO_11.out) hb); have n2_ := Aside0.mk (Kd.V_below (by (with_reducible repeat (first | apply Kd.V_alloc | apply Kd.V_drewN | apply Kd.V_drew)); exact HO_15.out) hb); have n3_ := Aside0.mk (blk_below (g := gb322) (o := .cells #[.int .i64 a2_0, .int .i64 a1, .slice A2_2 l2_2.length c2_2, .int .i64 a2_3] 25 (0, 0)) (by (with_reducible repeat (first | refine blk_drewN ?_ _ | refine blk_drew ?_ | refine blk_alloc ?_ _)); exact BK322.out) hb); have n4_ := Aside0.mk (below_step (by repeat (first | (with_reducible first | exact HB.out | apply below_alloc | apply pw_below_drewN | apply below_drew1 | refine below_set ?_ GE322.out) | exact HB.out)) hb); clear HO_7; clear HO_11; clear HO_15; clear BK322; clear HB; have HO_7 := n0_; have HO_11 := n1_; have HO_15 := n2_; have BK322 := n3_; have HB := n4_; clear n0_ n1_ n2_ n3_ n4_; (try clear hb); (try clear hb2); (try clear hk); (try clear hi)) | (go_at_call 18; (with_reducible refine (host_Check.calls _ _ t333 true _ ?side1 ?side2 A76.out).mono ?_); (case side1 => repeat (first | exact (Kd.V_reads' HO_11.out).2.2 | (with_reducible refine Kd.C_alloc ?_ _) | (with_reducible refine Kd.C_drewN ?_ _) | (with_reducible refine Kd.C_drew ?_))); (case side2 => exact (Kd.V_reads' HO_11.out).2.1); rintro e w82 ⟨rfl, hb⟩; have n0_ := Aside0.mk (Kd.V_below (by (with_reducible repeat (first | apply Kd.V_alloc | apply Kd.V_drewN | apply Kd.V_drew)); exact HO_7.out) hb); have n1_ := Aside0.mk (Kd.V_below (by (with_reducible repeat (first | apply Kd.V_alloc | apply Kd.V_drewN | apply Kd.V_drew)); exact HO_11.out) hb); have n2_ := Aside0.mk (Kd.V_below (by (with_reducible repeat (first | apply Kd.V_alloc | apply Kd.V_drewN | apply Kd.V_drew)); exact HO_15.out) hb); have n3_ := Aside0.mk (blk_below (g := gb322) (o := .cells #[.int .i64 a2_0, .int .i64 a1, .slice A2_2 l2_2.length c2_2, .int .i64 a2_3] 25 (0, 0)) (by (with_reducible repeat (first | refine blk_drewN ?_ _ | refine blk_drew ?_ | refine blk_alloc ?_ _)); exact BK322.out) hb); have n4_ := Aside0.mk (below_step (by repeat (first | (with_reducible first | exact HB.out | apply below_alloc | apply pw_below_drewN | apply below_drew1 | refine below_set ?_ GE322.out) | exact HB.out)) hb); clear HO_7; clear HO_11; clear HO_15; clear BK322; clear HB; have HO_7 := n0_; have HO_11 := n1_; have HO_15 := n2_; have BK322 := n3_; have HB := n4_; clear n0_ n1_ n2_ n3_ n4_; (try clear hb); (try clear hb2); (try clear hk); (try clear hi)) | (go_at_call 18; (with_reducible refine (host_Check.calls _ _ t341 true _ ?side1 ?side2 A78.out).mono ?_); (case side1 => repeat (first | exact (Kd.V_reads' HO_15.out).2.2 | (with_reducible refine Kd.C_alloc ?_ _) | (with_reducible refine Kd.C_drewN ?_ _) | (with_reducible refine Kd.C_drew ?_))); (case side2 => exact (Kd.V_reads' HO_15.out).2.1); rintro e w83 ⟨rfl, hb⟩; have n0_ := Aside0.mk (Kd.V_below (by (with_reducible repeat (first | apply Kd.V_alloc | apply Kd.V_drewN | apply Kd.V_drew)); exact HO_7.out) hb); have n1_ := Aside0.mk (Kd.V_below (by (with_reducible repeat (first | apply Kd.V_alloc | apply Kd.V_drewN | apply Kd.V_drew)); exact HO_11.out) hb); have n2_ := Aside0.mk (Kd.V_below (by (with_reducible repeat (first | apply Kd.V_alloc | apply Kd.V_drewN | apply Kd.V_drew)); exact HO_15.out) hb); have n3_ := Aside0.mk (blk_below (g := gb322) (o := .cells #[.int .i64 a2_0, .int .i64 a1, .slice A2_2 l2_2.length c2_2, .int .i64 a2_3] 25 (0, 0)) (by (with_reducible repeat (first | refine blk_drewN ?_ _ | refine blk_drew ?_ | refine blk_alloc ?_ _)); exact BK322.out) hb); have n4_ := Aside0.mk (below_step (by repeat (first | (with_reducible first | exact HB.out | apply below_alloc | apply pw_below_drewN | apply below_drew1 | refine below_set ?_ GE322.out) | exact HB.out)) hb); clear HO_7; clear HO_11; clear HO_15; clear BK322; clear HB; have HO_7 := n0_; have HO_11 := n1_; have HO_15 := n2_; have BK322 := n3_; have HB := n4_; clear n0_ n1_ n2_ n3_ n4_; (try clear hb); (try clear hb2); (try clear hk); (try clear hi)) | (go_at_call 6; (with_reducible refine (drawbridgelaw27_heads.calls  t352 _ A80.out).mono ?_); rintro e w84 ⟨rfl, hb⟩; have n0_ := Aside0.mk (Kd.V_below (by (with_reducible repeat (first | apply Kd.V_alloc | apply Kd.V_drewN | apply Kd.V_drew)); exact HO_7.out) hb); have n1_ := Aside0.mk (Kd.V_below (by (with_reducible repeat (first | apply Kd.V_alloc | apply Kd.V_drewN | apply Kd.V_drew)); exact HO_11.out) hb); have n2_ := Aside0.mk (Kd.V_below (by (with_reducible repeat (first | apply Kd.V_alloc | apply Kd.V_drewN | apply Kd.V_drew)); exact HO_15.out) hb); have n3_ := Aside0.mk (blk_below (g := gb322) (o := .cells #[.int .i64 a2_0, .int .i64 a1, .slice A2_2 l2_2.length c2_2, .int .i64 a2_3] 25 (0, 0)) (by (with_reducible repeat (first | refine blk_drewN ?_ _ | refine blk_drew ?_ | refine blk_alloc ?_ _)); exact BK322.out) hb); have n4_ := Aside0.mk (below_step (by repeat (first | (with_reducible first | exact HB.out | apply below_alloc | apply pw_below_drewN | apply below_drew1 | refine below_set ?_ GE322.out) | exact HB.out)) hb); clear HO_7; clear HO_11; clear HO_15; clear BK322; clear HB; have HO_7 := n0_; have HO_11 := n1_; have HO_15 := n2_; have BK322 := n3_; have HB := n4_; clear n0_ n1_ n2_ n3_ n4_; (try clear hb); (try clear hb2); (try clear hk); (try clear hi)))
                    go_ret
                    exact ⟨by first | rfl | (simp [errW_none, errW_some] <;> rfl) | (simp [*, errW_none, errW_some] <;> rfl), by repeat (first | (with_reducible first | exact HB.out | apply below_alloc | apply pw_below_drewN | apply below_drew1 | refine below_set ?_ GE322.out) | exact HB.out)⟩
                  · replace c79 := Bool.eq_false_iff.mpr c79
                    subst c79
                    have H1 : (some false) = some r := by rw [if_neg (show ¬ (false = true) by decide)] at H; exact H
                    clear H
                    have H := H1
                    clear H1
                    exact absurd ((Option.some.inj (show (some false) = some r from H)).trans hT_) (by decide)
                · replace c77 := Bool.eq_false_iff.mpr c77
                  subst c77
                  have H1 : (some false) = some r := by rw [if_neg (show ¬ (false = true) by decide)] at H; exact H
                  clear H
                  have H := H1
                  clear H1
                  exact absurd ((Option.some.inj (show (some false) = some r from H)).trans hT_) (by decide)
              · replace c75 := Bool.eq_false_iff.mpr c75
                subst c75
                have H1 : (some false) = some r := by rw [if_neg (show ¬ (false = true) by decide)] at H; exact H
                clear H
                have H := H1
                clear H1
                exact absurd ((Option.some.inj (show (some false) = some r from H)).trans hT_) (by decide)

end Go.Proofs.Ytijdplpmcnhlbaa.Q
