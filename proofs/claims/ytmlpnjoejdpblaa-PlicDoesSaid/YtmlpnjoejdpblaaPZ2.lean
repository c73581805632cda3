import Derived.Test.YtmlpnjoejdpblaaPZ1
import Derived.Laws.BitsAllLaws
import Derived.RowKit
import Derived.ArgAppend
import Derived.Deep.RegionLawGrows
import Derived.Deep.AppendSrc
import Derived.Orders
import Derived.Tactics
import Derived.Tactics2
import Derived.Test.YtmlpnjoejdpblaaPXWWords
import Derived.Test.YtmlpnjoejdpblaaPXWLast
import Derived.Test.YtmlpnjoejdpblaaPXWMore
import Derived.ProofKit
import Derived.Deep.Slices
import Derived.ChangeSame
import Derived.SizedLaws
section
-- Ytmlpnjoejdpblaa: written by a program for this claim (several laws of one seat at once)
namespace Go.Proofs.Ytmlpnjoejdpblaa.Q
open Go.RowKit Go.Proofs.YtmlpnjoejdpblaaW.PrintWords Go.Proofs.YtmlpnjoejdpblaaW.PrintLast Go.Proofs.YtmlpnjoejdpblaaW.PrintMore
attribute [local go_sem] max2_int min2_int max_two min_two max_three min_three max_four min_four   -- for this text's walks alone
set_option linter.unusedVariables false
set_option linter.unusedSimpArgs false

mutual
def drawbridgeref10_Check.j0 : Nat → Bool → List Int → Int → Int → List Int → List Int → Option (Bool)
  | 0, _, _, _, _, _, _ => none
  | k + 1, x38, x134000, x134001, x134002, x134003, x134004 => if x38 = true then (some false) else (drawbridgeref10_Check.l0 k 0 x134000 x134001 x134002 x134003 x134004)
def drawbridgeref10_Check.l0 : Nat → Int → List Int → Int → Int → List Int → List Int → Option (Bool)
  | 0, _, _, _, _, _, _ => none
  | k + 1, x3, x134000, x134001, x134002, x134003, x134004 => if x3 < 2 then (if 0 ≤ (wrap64 (x3 + 1)) then (if (wrap64 (x3 + 1)) < (x134000.length : Int) then (if (rd x134000 (wrap64 (x3 + 1))) < 0 then (some false) else (if (rd x134000 (wrap64 (x3 + 1))) > 7 then (some false) else (if 0 ≤ x3 then (if x3 < (x134003.length : Int) then (if (Go.bits .andNot .i64 (rd x134003 x3) 6) = 0 then (if x3 < (x134004.length : Int) then (if (rd x134004 x3) < 0 then (some false) else (if (rd x134004 x3) > 7 then (some false) else (drawbridgeref10_Check.l0 k (wrap64 (x3 + 1)) x134000 x134001 x134002 x134003 x134004))) else (none)) else (some false)) else (none)) else (none)))) else (none)) else (none)) else (some true)
end
def drawbridgeref10_Check.f (k : Nat) (l0_0 : List Int) (a0_1 : Int) (a0_2 : Int) (l0_3 : List Int) (l0_4 : List Int) : Option (Bool) := if (l0_0.length : Int) = 3 then (if (l0_3.length : Int) = 2 then (if (l0_4.length : Int) = 2 then (if 0 < (l0_0.length : Int) then (if (rd l0_0 0) = 0 then (if (Go.bits .andNot .i64 a0_1 6) = 0 then (drawbridgeref10_Check.j0 k ((Go.bits .andNot .i64 a0_2 6) != 0) l0_0 a0_1 a0_2 l0_3 l0_4) else (drawbridgeref10_Check.j0 k true l0_0 a0_1 a0_2 l0_3 l0_4)) else (drawbridgeref10_Check.j0 k true l0_0 a0_1 a0_2 l0_3 l0_4)) else (none)) else (drawbridgeref10_Check.j0 k true l0_0 a0_1 a0_2 l0_3 l0_4)) else (drawbridgeref10_Check.j0 k true l0_0 a0_1 a0_2 l0_3 l0_4)) else (drawbridgeref10_Check.j0 k true l0_0 a0_1 a0_2 l0_3 l0_4)
theorem drawbridgeref10_Check.mono_l : ∀ k, (∀ y0 y1 y2 y3 y4 y5, LeO (drawbridgeref10_Check.j0 k y0 y1 y2 y3 y4 y5) (drawbridgeref10_Check.j0 (k + 1) y0 y1 y2 y3 y4 y5)) ∧ (∀ y0 y1 y2 y3 y4 y5, LeO (drawbridgeref10_Check.l0 k y0 y1 y2 y3 y4 y5) (drawbridgeref10_Check.l0 (k + 1) y0 y1 y2 y3 y4 y5))
  | 0 => ⟨fun _ _ _ _ _ _ r h => by simp [drawbridgeref10_Check.j0] at h, fun _ _ _ _ _ _ r h => by simp [drawbridgeref10_Check.l0] at h⟩
  | k + 1 => by
    obtain ⟨ih0, ih1⟩ := drawbridgeref10_Check.mono_l k
    refine ⟨?_, ?_⟩
    · intro y0 y1 y2 y3 y4 y5
      unfold drawbridgeref10_Check.j0
      repeat' first
      | (with_reducible exact ih0 _ _ _ _ _ _)
      | (with_reducible exact ih1 _ _ _ _ _ _)
      | (with_reducible exact LeO.refl _)
      | (with_reducible exact LeO.none _)
      | (with_reducible refine LeO.ite ?_ ?_)
      | (with_reducible refine LeO.bind ?_ (fun _ => ?_))
      | exact ih0 _ _ _ _ _ _
      | exact ih1 _ _ _ _ _ _
      | exact LeO.none _
      | refine LeO.ite ?_ ?_
      | refine LeO.bind ?_ (fun _ => ?_)
    · intro y0 y1 y2 y3 y4 y5
      unfold drawbridgeref10_Check.l0
      repeat' first
      | (with_reducible exact ih0 _ _ _ _ _ _)
      | (with_reducible exact ih1 _ _ _ _ _ _)
      | (with_reducible exact LeO.refl _)
      | (with_reducible exact LeO.none _)
      | (with_reducible refine LeO.ite ?_ ?_)
      | (with_reducible refine LeO.bind ?_ (fun _ => ?_))
      | exact ih0 _ _ _ _ _ _
      | exact ih1 _ _ _ _ _ _
      | exact LeO.none _
      | refine LeO.ite ?_ ?_
      | refine LeO.bind ?_ (fun _ => ?_)
theorem drawbridgeref10_Check.mono : ∀ a0 a1 a2 a3 a4 k, LeO (drawbridgeref10_Check.f k a0 a1 a2 a3 a4) (drawbridgeref10_Check.f (k + 1) a0 a1 a2 a3 a4) := by
  intro a0 a1 a2 a3 a4 k
  obtain ⟨ih0, ih1⟩ := drawbridgeref10_Check.mono_l k
  unfold drawbridgeref10_Check.f
  repeat' first
      | (with_reducible exact ih0 _ _ _ _ _ _)
      | (with_reducible exact ih1 _ _ _ _ _ _)
      | (with_reducible exact LeO.refl _)
      | (with_reducible exact LeO.none _)
      | (with_reducible refine LeO.ite ?_ ?_)
      | (with_reducible refine LeO.bind ?_ (fun _ => ?_))
      | exact ih0 _ _ _ _ _ _
      | exact ih1 _ _ _ _ _ _
      | exact LeO.none _
      | refine LeO.ite ?_ ?_
      | refine LeO.bind ?_ (fun _ => ?_)
set_option maxHeartbeats 8000000 in
set_option maxRecDepth 100000 in
theorem drawbridgeref10_Check.calls (k : Nat) (A0_0 : Option Addr) (c0_0 : Nat) (l0_0 : List Int) (a0_1 : Int) (a0_2 : Int) (A0_3 : Option Addr) (c0_3 : Nat) (l0_3 : List Int) (A0_4 : Option Addr) (c0_4 : Nat) (l0_4 : List Int) (r : Bool) (w : World) (hr0_0 : Kd.C (Kd.int .i64) w A0_0 l0_0.length l0_0) (hc0_0 : l0_0.length ≤ c0_0) (hr0_3 : Kd.C (Kd.int .i64) w A0_3 l0_3.length l0_3) (hc0_3 : l0_3.length ≤ c0_3) (hr0_4 : Kd.C (Kd.int .i64) w A0_4 l0_4.length l0_4) (hc0_4 : l0_4.length ≤ c0_4) (h : drawbridgeref10_Check.f k l0_0 a0_1 a0_2 l0_3 l0_4 = some r) :
    Calls Try.prog 18 #[.agg #[.slice A0_0 l0_0.length c0_0, .int .i64 a0_1, .int .i64 a0_2, .slice A0_3 l0_3.length c0_3, .slice A0_4 l0_4.length c0_4]] w fun e w' => e = .returned (.bool r) ∧ Below w.heap.size w w' := by
  have hu24 := Try.underlying24
  have HR0_0 := Aside0.mk hr0_0
  have HC0_0 := Aside0.mk hc0_0
  clear hr0_0 hc0_0
  have HR0_3 := Aside0.mk hr0_3
  have HC0_3 := Aside0.mk hc0_3
  clear hr0_3 hc0_3
  have HR0_4 := Aside0.mk hr0_4
  have HC0_4 := Aside0.mk hc0_4
  clear hr0_4 hc0_4
  have HB := Aside0.mk (Below.refl w.heap.size w)
  have H : (if (l0_0.length : Int) = 3 then (if (l0_3.length : Int) = 2 then (if (l0_4.length : Int) = 2 then (if 0 < (l0_0.length : Int) then (if (rd l0_0 0) = 0 then (if (Go.bits .andNot .i64 a0_1 6) = 0 then (drawbridgeref10_Check.j0 k ((Go.bits .andNot .i64 a0_2 6) != 0) l0_0 a0_1 a0_2 l0_3 l0_4) else (drawbridgeref10_Check.j0 k true l0_0 a0_1 a0_2 l0_3 l0_4)) else (drawbridgeref10_Check.j0 k true l0_0 a0_1 a0_2 l0_3 l0_4)) else (none)) else (drawbridgeref10_Check.j0 k true l0_0 a0_1 a0_2 l0_3 l0_4)) else (drawbridgeref10_Check.j0 k true l0_0 a0_1 a0_2 l0_3 l0_4)) else (drawbridgeref10_Check.j0 k true l0_0 a0_1 a0_2 l0_3 l0_4)) = some r := h
  clear h
  have HC2 := Aside0.mk H
  clear H
  go_enter Try.func18, Try.ntmps18
  go_upto_region 1 with (first | ((with_reducible refine gate_dst (N := 1) rfl ?_); (try (refine gate_guard (by rfl) ?_; dsimp only)); refine box_event ?hg (N := 1) ?hd (cs := #[.slice A0_0 l0_0.length c0_0, .int .i64 a0_1, .int .i64 a0_2, .slice A0_3 l0_3.length c0_3, .slice A0_4 l0_4.length c0_4]) (t := 24) ?hr ?_; (case hd => rfl); (case hg => rfl); (case hr => first | (go_simp; done) | (go_simp; rfl)); intro gb133 hg w3 hbox hb; have n0_ := Aside0.mk (below_step (by repeat (first | (with_reducible first | exact HB.out | apply below_alloc | apply pw_below_drewN | apply below_drew1) | exact HB.out)) hb); have n1_ := Aside0.mk (hbox); have n2_ := Aside0.mk ((by rw [hg]; exact (below_size (by repeat (first | (with_reducible first | exact HB.out | apply below_alloc | apply pw_below_drewN | apply below_drew1) | exact HB.out))) : w.heap.size ≤ gb133)); have n3_ := Aside0.mk ((by rw [hg]; exact (below_size (by repeat (first | (with_reducible first | exact HB.out | apply below_alloc | apply pw_below_drewN | apply below_drew1) | exact HB.out))) : w.heap.size ≤ gb133)); clear HB; have HB := n0_; have BK133 := n1_; have GW133 := n2_; have GE133 := n3_; clear n0_ n1_ n2_ n3_; clear hb hbox hg))
  (try simp only [Act.put, List.setIfInBounds_toArray, List.set_cons_zero, List.set_cons_succ])
  go_cut [38] (fun v38 wc => ∃ (kq : Nat) (x38_1 : Bool), v38 = .bool x38_1 ∧ Aside0 (drawbridgeref10_Check.j0 kq x38_1 l0_0 a0_1 a0_2 l0_3 l0_4 = some r) ∧ Aside0 (kq ≤ k) ∧ Aside0 (wc.heap[gb133]? = some (.cells #[(.slice A0_0 l0_0.length c0_0), .int .i64 a0_1, .int .i64 a0_2, (.slice A0_3 l0_3.length c0_3), (.slice A0_4 l0_4.length c0_4)] 24 (0, 0))) ∧ Aside0 (Below w.heap.size w wc))
  case first =>
    have H := HC2.out
    clear HC2
    by_cases c4 : (l0_0.length : Int) = 3
    · rw [if_pos c4] at H
      have c4b0 : ((l0_0.length : Int) == 3) = true := beq_iff_eq.mpr c4
      have c4b1 : ((l0_0.length : Int) != 3) = false := bne_eq_false_iff_eq.mpr c4
      clear c4
      (first | rw [c4b0] | (simp only [i64_w, i32_w]; rw [c4b0]) | skip)
      by_cases c5 : (l0_3.length : Int) = 2
      · rw [if_pos c5] at H
        have c5b0 : ((l0_3.length : Int) == 2) = true := beq_iff_eq.mpr c5
        have c5b1 : ((l0_3.length : Int) != 2) = false := bne_eq_false_iff_eq.mpr c5
        clear c5
        by_cases c6 : (l0_4.length : Int) = 2
        · rw [if_pos c6] at H
          have c6b0 : ((l0_4.length : Int) == 2) = true := beq_iff_eq.mpr c6
          have c6b1 : ((l0_4.length : Int) != 2) = false := bne_eq_false_iff_eq.mpr c6
          clear c6
          by_cases c7 : 0 < (l0_0.length : Int)
          · rw [if_pos c7] at H
            have c7b0 : decide (0 < (l0_0.length : Int)) = true := decide_eq_true c7
            have c7b1 : decide (0 < l0_0.length) = true := decide_eq_true (by omega)
            clear c7
            by_cases c8 : (rd l0_0 0) = 0
            · rw [if_pos c8] at H
              have c8b0 : ((rd l0_0 0) == 0) = true := beq_iff_eq.mpr c8
              have c8b1 : ((rd l0_0 0) != 0) = false := bne_eq_false_iff_eq.mpr c8
              clear c8
              by_cases c9 : (Go.bits .andNot .i64 a0_1 6) = 0
              · rw [if_pos c9] at H
                have c9b0 : ((Go.bits .andNot .i64 a0_1 6) == 0) = true := beq_iff_eq.mpr c9
                have c9b1 : ((Go.bits .andNot .i64 a0_1 6) != 0) = false := bne_eq_false_iff_eq.mpr c9
                clear c9
                have H' := Aside0.mk H
                clear H
                have hcz10_0 : w3.cell? ⟨gb133, 0, none⟩ = some (.slice A0_0 l0_0.length c0_0) := (blk_cell BK133.out 0).trans rfl
                have hcz10_1 : w3.cell? ⟨gb133, 1, none⟩ = some (.int .i64 a0_1) := (blk_cell BK133.out 1).trans rfl
                have hcz10_2 : w3.cell? ⟨gb133, 2, none⟩ = some (.int .i64 a0_2) := (blk_cell BK133.out 2).trans rfl
                have hcz10_3 : w3.cell? ⟨gb133, 3, none⟩ = some (.slice A0_3 l0_3.length c0_3) := (blk_cell BK133.out 3).trans rfl
                have hcz10_4 : w3.cell? ⟨gb133, 4, none⟩ = some (.slice A0_4 l0_4.length c0_4) := (blk_cell BK133.out 4).trans rfl
                have hfz10_0 := blk_frozen BK133.out 0
                have hfz10_1 := blk_frozen BK133.out 1
                have hfz10_2 := blk_frozen BK133.out 2
                have hfz10_3 := blk_frozen BK133.out 3
                have hfz10_4 := blk_frozen BK133.out 4
                have p134 : 0 ≤ (0 : Int) := (by omega)
                have q134 : 0 < (l0_0.length : Int) := of_decide_eq_true (by first | (with_reducible assumption) | assumption)
                obtain ⟨ad134, e134, hx134_0⟩ := Kd.at_int HR0_0.out 0 p134 q134
                cases e134
                have qi134 : (0 < l0_0.length) = True := eq_true (by omega)
                (try rw [show ((0 : Int)).toNat = 0 from rfl] at hx134_0)
                (try rw [Addr.add_zero'] at hx134_0)
                replace hx134_0 := (HB.out.cell (World.block_lt_of_cell? w _ hx134_0)).trans hx134_0
                replace p134 := eq_true p134
                replace q134 := eq_true q134
                go_wp2
                go_meet
                case rel => exact ⟨_, (((Go.bits .andNot .i64 a0_2 6) != 0)), (by first | rfl | (simp; done) | (simp [*]; done)), H', ⟨by first | omega | exact Nat.le_refl _⟩, ⟨by (with_reducible repeat (first | refine blk_drewN ?_ _ | refine blk_drew ?_ | refine blk_alloc ?_ _)); exact BK133.out⟩, ⟨by repeat (first | (with_reducible first | exact HB.out | apply below_alloc | apply pw_below_drewN | apply below_drew1 | refine below_set ?_ GE133.out) | exact HB.out)⟩⟩
              · rw [if_neg c9] at H
                have c9b0 : ((Go.bits .andNot .i64 a0_1 6) == 0) = false := beq_eq_false_iff_ne.mpr c9
                have c9b1 : ((Go.bits .andNot .i64 a0_1 6) != 0) = true := bne_iff_ne.mpr c9
                have H' := Aside0.mk H
                clear H
                have hcz11_0 : w3.cell? ⟨gb133, 0, none⟩ = some (.slice A0_0 l0_0.length c0_0) := (blk_cell BK133.out 0).trans rfl
                have hcz11_1 : w3.cell? ⟨gb133, 1, none⟩ = some (.int .i64 a0_1) := (blk_cell BK133.out 1).trans rfl
                have hcz11_2 : w3.cell? ⟨gb133, 2, none⟩ = some (.int .i64 a0_2) := (blk_cell BK133.out 2).trans rfl
                have hcz11_3 : w3.cell? ⟨gb133, 3, none⟩ = some (.slice A0_3 l0_3.length c0_3) := (blk_cell BK133.out 3).trans rfl
                have hcz11_4 : w3.cell? ⟨gb133, 4, none⟩ = some (.slice A0_4 l0_4.length c0_4) := (blk_cell BK133.out 4).trans rfl
                have hfz11_0 := blk_frozen BK133.out 0
                have hfz11_1 := blk_frozen BK133.out 1
                have hfz11_2 := blk_frozen BK133.out 2
                have hfz11_3 := blk_frozen BK133.out 3
                have hfz11_4 := blk_frozen BK133.out 4
                have p134 : 0 ≤ (0 : Int) := (by omega)
                have q134 : 0 < (l0_0.length : Int) := of_decide_eq_true (by first | (with_reducible assumption) | assumption)
                obtain ⟨ad134, e134, hx134_0⟩ := Kd.at_int HR0_0.out 0 p134 q134
                cases e134
                have qi134 : (0 < l0_0.length) = True := eq_true (by omega)
                (try rw [show ((0 : Int)).toNat = 0 from rfl] at hx134_0)
                (try rw [Addr.add_zero'] at hx134_0)
                replace hx134_0 := (HB.out.cell (World.block_lt_of_cell? w _ hx134_0)).trans hx134_0
                replace p134 := eq_true p134
                replace q134 := eq_true q134
                go_wp2
                go_meet
                case rel => exact ⟨_, (true), (by first | rfl | (simp; done) | (simp [*]; done)), H', ⟨by first | omega | exact Nat.le_refl _⟩, ⟨by (with_reducible repeat (first | refine blk_drewN ?_ _ | refine blk_drew ?_ | refine blk_alloc ?_ _)); exact BK133.out⟩, ⟨by repeat (first | (with_reducible first | exact HB.out | apply below_alloc | apply pw_below_drewN | apply below_drew1 | refine below_set ?_ GE133.out) | exact HB.out)⟩⟩
            · rw [if_neg c8] at H
              have c8b0 : ((rd l0_0 0) == 0) = false := beq_eq_false_iff_ne.mpr c8
              have c8b1 : ((rd l0_0 0) != 0) = true := bne_iff_ne.mpr c8
              have H' := Aside0.mk H
              clear H
              have hcz12_0 : w3.cell? ⟨gb133, 0, none⟩ = some (.slice A0_0 l0_0.length c0_0) := (blk_cell BK133.out 0).trans rfl
              have hcz12_1 : w3.cell? ⟨gb133, 1, none⟩ = some (.int .i64 a0_1) := (blk_cell BK133.out 1).trans rfl
              have hcz12_2 : w3.cell? ⟨gb133, 2, none⟩ = some (.int .i64 a0_2) := (blk_cell BK133.out 2).trans rfl
              have hcz12_3 : w3.cell? ⟨gb133, 3, none⟩ = some (.slice A0_3 l0_3.length c0_3) := (blk_cell BK133.out 3).trans rfl
              have hcz12_4 : w3.cell? ⟨gb133, 4, none⟩ = some (.slice A0_4 l0_4.length c0_4) := (blk_cell BK133.out 4).trans rfl
              have hfz12_0 := blk_frozen BK133.out 0
              have hfz12_1 := blk_frozen BK133.out 1
              have hfz12_2 := blk_frozen BK133.out 2
              have hfz12_3 := blk_frozen BK133.out 3
              have hfz12_4 := blk_frozen BK133.out 4
              have p134 : 0 ≤ (0 : Int) := (by omega)
              have q134 : 0 < (l0_0.length : Int) := of_decide_eq_true (by first | (with_reducible assumption) | assumption)
              obtain ⟨ad134, e134, hx134_0⟩ := Kd.at_int HR0_0.out 0 p134 q134
              cases e134
              have qi134 : (0 < l0_0.length) = True := eq_true (by omega)
              (try rw [show ((0 : Int)).toNat = 0 from rfl] at hx134_0)
              (try rw [Addr.add_zero'] at hx134_0)
              replace hx134_0 := (HB.out.cell (World.block_lt_of_cell? w _ hx134_0)).trans hx134_0
              replace p134 := eq_true p134
              replace q134 := eq_true q134
              go_wp2
              go_meet
              case rel => exact ⟨_, (true), (by first | rfl | (simp; done) | (simp [*]; done)), H', ⟨by first | omega | exact Nat.le_refl _⟩, ⟨by (with_reducible repeat (first | refine blk_drewN ?_ _ | refine blk_drew ?_ | refine blk_alloc ?_ _)); exact BK133.out⟩, ⟨by repeat (first | (with_reducible first | exact HB.out | apply below_alloc | apply pw_below_drewN | apply below_drew1 | refine below_set ?_ GE133.out) | exact HB.out)⟩⟩
          · rw [if_neg c7] at H
            exact absurd H (by simp)
        · rw [if_neg c6] at H
          have c6b0 : ((l0_4.length : Int) == 2) = false := beq_eq_false_iff_ne.mpr c6
          have c6b1 : ((l0_4.length : Int) != 2) = true := bne_iff_ne.mpr c6
          have H' := Aside0.mk H
          clear H
          have hcz13_0 : w3.cell? ⟨gb133, 0, none⟩ = some (.slice A0_0 l0_0.length c0_0) := (blk_cell BK133.out 0).trans rfl
          have hcz13_1 : w3.cell? ⟨gb133, 1, none⟩ = some (.int .i64 a0_1) := (blk_cell BK133.out 1).trans rfl
          have hcz13_2 : w3.cell? ⟨gb133, 2, none⟩ = some (.int .i64 a0_2) := (blk_cell BK133.out 2).trans rfl
          have hcz13_3 : w3.cell? ⟨gb133, 3, none⟩ = some (.slice A0_3 l0_3.length c0_3) := (blk_cell BK133.out 3).trans rfl
          have hcz13_4 : w3.cell? ⟨gb133, 4, none⟩ = some (.slice A0_4 l0_4.length c0_4) := (blk_cell BK133.out 4).trans rfl
          have hfz13_0 := blk_frozen BK133.out 0
          have hfz13_1 := blk_frozen BK133.out 1
          have hfz13_2 := blk_frozen BK133.out 2
          have hfz13_3 := blk_frozen BK133.out 3
          have hfz13_4 := blk_frozen BK133.out 4
          go_wp2
          go_meet
          case rel => exact ⟨_, (true), (by first | rfl | (simp; done) | (simp [*]; done)), H', ⟨by first | omega | exact Nat.le_refl _⟩, ⟨by (with_reducible repeat (first | refine blk_drewN ?_ _ | refine blk_drew ?_ | refine blk_alloc ?_ _)); exact BK133.out⟩, ⟨by repeat (first | (with_reducible first | exact HB.out | apply below_alloc | apply pw_below_drewN | apply below_drew1 | refine below_set ?_ GE133.out) | exact HB.out)⟩⟩
      · rw [if_neg c5] at H
        have c5b0 : ((l0_3.length : Int) == 2) = false := beq_eq_false_iff_ne.mpr c5
        have c5b1 : ((l0_3.length : Int) != 2) = true := bne_iff_ne.mpr c5
        have H' := Aside0.mk H
        clear H
        have hcz14_0 : w3.cell? ⟨gb133, 0, none⟩ = some (.slice A0_0 l0_0.length c0_0) := (blk_cell BK133.out 0).trans rfl
        have hcz14_1 : w3.cell? ⟨gb133, 1, none⟩ = some (.int .i64 a0_1) := (blk_cell BK133.out 1).trans rfl
        have hcz14_2 : w3.cell? ⟨gb133, 2, none⟩ = some (.int .i64 a0_2) := (blk_cell BK133.out 2).trans rfl
        have hcz14_3 : w3.cell? ⟨gb133, 3, none⟩ = some (.slice A0_3 l0_3.length c0_3) := (blk_cell BK133.out 3).trans rfl
        have hcz14_4 : w3.cell? ⟨gb133, 4, none⟩ = some (.slice A0_4 l0_4.length c0_4) := (blk_cell BK133.out 4).trans rfl
        have hfz14_0 := blk_frozen BK133.out 0
        have hfz14_1 := blk_frozen BK133.out 1
        have hfz14_2 := blk_frozen BK133.out 2
        have hfz14_3 := blk_frozen BK133.out 3
        have hfz14_4 := blk_frozen BK133.out 4
        go_wp2
        go_meet
        case rel => exact ⟨_, (true), (by first | rfl | (simp; done) | (simp [*]; done)), H', ⟨by first | omega | exact Nat.le_refl _⟩, ⟨by (with_reducible repeat (first | refine blk_drewN ?_ _ | refine blk_drew ?_ | refine blk_alloc ?_ _)); exact BK133.out⟩, ⟨by repeat (first | (with_reducible first | exact HB.out | apply below_alloc | apply pw_below_drewN | apply below_drew1 | refine below_set ?_ GE133.out) | exact HB.out)⟩⟩
    · rw [if_neg c4] at H
      have c4b0 : ((l0_0.length : Int) == 3) = false := beq_eq_false_iff_ne.mpr c4
      have c4b1 : ((l0_0.length : Int) != 3) = true := bne_iff_ne.mpr c4
      (first | rw [c4b0] | (simp only [i64_w, i32_w]; rw [c4b0]) | skip)
      have H' := Aside0.mk H
      clear H
      have hcz15_0 : w3.cell? ⟨gb133, 0, none⟩ = some (.slice A0_0 l0_0.length c0_0) := (blk_cell BK133.out 0).trans rfl
      have hcz15_1 : w3.cell? ⟨gb133, 1, none⟩ = some (.int .i64 a0_1) := (blk_cell BK133.out 1).trans rfl
      have hcz15_2 : w3.cell? ⟨gb133, 2, none⟩ = some (.int .i64 a0_2) := (blk_cell BK133.out 2).trans rfl
      have hcz15_3 : w3.cell? ⟨gb133, 3, none⟩ = some (.slice A0_3 l0_3.length c0_3) := (blk_cell BK133.out 3).trans rfl
      have hcz15_4 : w3.cell? ⟨gb133, 4, none⟩ = some (.slice A0_4 l0_4.length c0_4) := (blk_cell BK133.out 4).trans rfl
      have hfz15_0 := blk_frozen BK133.out 0
      have hfz15_1 := blk_frozen BK133.out 1
      have hfz15_2 := blk_frozen BK133.out 2
      have hfz15_3 := blk_frozen BK133.out 3
      have hfz15_4 := blk_frozen BK133.out 4
      go_wp2
      go_meet
      case rel => exact ⟨_, (true), (by first | rfl | (simp; done) | (simp [*]; done)), H', ⟨by first | omega | exact Nat.le_refl _⟩, ⟨by (with_reducible repeat (first | refine blk_drewN ?_ _ | refine blk_drew ?_ | refine blk_alloc ?_ _)); exact BK133.out⟩, ⟨by repeat (first | (with_reducible first | exact HB.out | apply below_alloc | apply pw_below_drewN | apply below_drew1 | refine below_set ?_ GE133.out) | exact HB.out)⟩⟩
  case rest =>
    clear HC2
    try clear c1
    try clear p1
    try clear q1
    try clear hx1
    try clear qi1
    try clear p2
    try clear c4
    try clear c4b0
    try clear c4b1
    try clear c5
    try clear c5b0
    try clear c5b1
    try clear c6
    try clear c6b0
    try clear c6b1
    try clear c7
    try clear c7b0
    try clear c7b1
    try clear c8
    try clear c8b0
    try clear c8b1
    try clear c9
    try clear c9b0
    try clear c9b1
    try clear p13
    try clear q13
    try clear hx13
    try clear qi13
    try clear hcz10_0
    try clear hcz10_1
    try clear hcz10_2
    try clear hcz10_3
    try clear hcz10_4
    try clear hcz11_0
    try clear hcz11_1
    try clear hcz11_2
    try clear hcz11_3
    try clear hcz11_4
    try clear hcz12_0
    try clear hcz12_1
    try clear hcz12_2
    try clear hcz12_3
    try clear hcz12_4
    try clear hcz13_0
    try clear hcz13_1
    try clear hcz13_2
    try clear hcz13_3
    try clear hcz13_4
    try clear hcz14_0
    try clear hcz14_1
    try clear hcz14_2
    try clear hcz14_3
    try clear hcz14_4
    try clear hcz15_0
    try clear hcz15_1
    try clear hcz15_2
    try clear hcz15_3
    try clear hcz15_4
    try clear hfz10_0
    try clear hfz10_1
    try clear hfz10_2
    try clear hfz10_3
    try clear hfz10_4
    try clear hfz11_0
    try clear hfz11_1
    try clear hfz11_2
    try clear hfz11_3
    try clear hfz11_4
    try clear hfz12_0
    try clear hfz12_1
    try clear hfz12_2
    try clear hfz12_3
    try clear hfz12_4
    try clear hfz13_0
    try clear hfz13_1
    try clear hfz13_2
    try clear hfz13_3
    try clear hfz13_4
    try clear hfz14_0
    try clear hfz14_1
    try clear hfz14_2
    try clear hfz14_3
    try clear hfz14_4
    try clear hfz15_0
    try clear hfz15_1
    try clear hfz15_2
    try clear hfz15_3
    try clear hfz15_4
    try clear hx134_0
    try clear p134
    try clear q134
    obtain ⟨kq, x38_1, rfl, HA, HJ1, BK133, HB⟩ := hcut
    cases kq with
    | zero => exact absurd HA.out (by simp [drawbridgeref10_Check.j0])
    | succ kj1 =>
      have H := HA.out
      clear HA
      simp only [drawbridgeref10_Check.j0] at H
      by_cases c16 : x38_1 = true
      · subst c16
        have H1 : (some false) = some r := by rw [if_pos rfl] at H; exact H
        clear H
        have H := H1
        clear H1
        obtain rfl := Option.some.inj H
        go_wp2
        go_ret
        exact ⟨by first | rfl | (simp [errW_none, errW_some] <;> rfl) | (simp [*, errW_none, errW_some] <;> rfl), by repeat (first | (with_reducible first | exact HB.out | apply below_alloc | apply pw_below_drewN | apply below_drew1 | refine below_set ?_ GE133.out) | exact HB.out)⟩
      · replace c16 := Bool.eq_false_iff.mpr c16
        subst c16
        have H1 : (drawbridgeref10_Check.l0 kj1 0 l0_0 a0_1 a0_2 l0_3 l0_4) = some r := by rw [if_neg (show ¬ (false = true) by decide)] at H; exact H
        clear H
        have H := H1
        clear H1
        have H' := Aside0.mk H
        clear H
        go_wp2
        go_loopg [3] kj1 (fun kq v3 w' => ∃ (x3_2 : Int), v3 = .int .i64 x3_2 ∧ Aside0 (drawbridgeref10_Check.l0 kq x3_2 l0_0 a0_1 a0_2 l0_3 l0_4 = some r) ∧ Aside0 (kq ≤ kj1) ∧ Aside0 (w'.heap[gb133]? = some (.cells #[(.slice A0_0 l0_0.length c0_0), .int .i64 a0_1, .int .i64 a0_2, (.slice A0_3 l0_3.length c0_3), (.slice A0_4 l0_4.length c0_4)] 24 (0, 0))) ∧ Aside0 (Below w.heap.size w w'))
        case atStart => exact ⟨(0), (by first | rfl | (simp; done) | (simp [*]; done)), H', ⟨Nat.le_refl _⟩, ⟨by (with_reducible repeat (first | refine blk_drewN ?_ _ | refine blk_drew ?_ | refine blk_alloc ?_ _)); exact BK133.out⟩, ⟨by repeat (first | (with_reducible first | exact HB.out | apply below_alloc | apply pw_below_drewN | apply below_drew1 | refine below_set ?_ GE133.out) | exact HB.out)⟩⟩
        case round =>
          clear H'
          try clear c1
          try clear p1
          try clear q1
          try clear hx1
          try clear qi1
          try clear p2
          try clear c4
          try clear c4b0
          try clear c4b1
          try clear c5
          try clear c5b0
          try clear c5b1
          try clear c6
          try clear c6b0
          try clear c6b1
          try clear c7
          try clear c7b0
          try clear c7b1
          try clear c8
          try clear c8b0
          try clear c8b1
          try clear c9
          try clear c9b0
          try clear c9b1
          try clear p13
          try clear q13
          try clear hx13
          try clear qi13
          try clear c16
          try clear hcz10_0
          try clear hcz10_1
          try clear hcz10_2
          try clear hcz10_3
          try clear hcz10_4
          try clear hcz11_0
          try clear hcz11_1
          try clear hcz11_2
          try clear hcz11_3
          try clear hcz11_4
          try clear hcz12_0
          try clear hcz12_1
          try clear hcz12_2
          try clear hcz12_3
          try clear hcz12_4
          try clear hcz13_0
          try clear hcz13_1
          try clear hcz13_2
          try clear hcz13_3
          try clear hcz13_4
          try clear hcz14_0
          try clear hcz14_1
          try clear hcz14_2
          try clear hcz14_3
          try clear hcz14_4
          try clear hcz15_0
          try clear hcz15_1
          try clear hcz15_2
          try clear hcz15_3
          try clear hcz15_4
          try clear hfz10_0
          try clear hfz10_1
          try clear hfz10_2
          try clear hfz10_3
          try clear hfz10_4
          try clear hfz11_0
          try clear hfz11_1
          try clear hfz11_2
          try clear hfz11_3
          try clear hfz11_4
          try clear hfz12_0
          try clear hfz12_1
          try clear hfz12_2
          try clear hfz12_3
          try clear hfz12_4
          try clear hfz13_0
          try clear hfz13_1
          try clear hfz13_2
          try clear hfz13_3
          try clear hfz13_4
          try clear hfz14_0
          try clear hfz14_1
          try clear hfz14_2
          try clear hfz14_3
          try clear hfz14_4
          try clear hfz15_0
          try clear hfz15_1
          try clear hfz15_2
          try clear hfz15_3
          try clear hfz15_4
          try clear hx134_0
          try clear p1
          try clear p13
          try clear p134
          try clear p2
          try clear q1
          try clear q13
          try clear q134
          obtain ⟨x3_2, rfl, HA, HK2, BK133, HB⟩ := hrel
          cases gk with
          | zero => exact absurd HA.out (by simp [drawbridgeref10_Check.l0])
          | succ k2 =>
            have H := HA.out
            clear HA
            simp only [drawbridgeref10_Check.l0] at H
            by_cases c17 : x3_2 < 2
            · rw [if_pos c17] at H
              have c17b0 : decide (x3_2 < 2) = true := decide_eq_true c17
              clear c17
              obtain ⟨ji18, hji18⟩ : ∃ j_ : Int, (wrap64 (x3_2 + 1)) = j_ := ⟨_, rfl⟩
              replace H : (if 0 ≤ (ji18) then (if (ji18) < (l0_0.length : Int) then (if (rd l0_0 (ji18)) < 0 then (some false) else (if (rd l0_0 (ji18)) > 7 then (some false) else (if 0 ≤ x3_2 then (if x3_2 < (l0_3.length : Int) then (if (Go.bits .andNot .i64 (rd l0_3 x3_2) 6) = 0 then (if x3_2 < (l0_4.length : Int) then (if (rd l0_4 x3_2) < 0 then (some false) else (if (rd l0_4 x3_2) > 7 then (some false) else (drawbridgeref10_Check.l0 k2 ji18 l0_0 a0_1 a0_2 l0_3 l0_4))) else (none)) else (some false)) else (none)) else (none)))) else (none)) else (none)) = some r := by first | (rw [hji18] at H; exact H) | (simp only [hji18] at H ⊢; exact H)
              have hji18w : (IntKind.i64.wrap (x3_2 + 1)) = ji18 := (i64_w _).trans hji18
              by_cases c19 : 0 ≤ (ji18)
              · rw [if_pos c19] at H
                have c19b0 : decide (0 ≤ (ji18)) = true := decide_eq_true c19
                clear c19
                by_cases c20 : (ji18) < (l0_0.length : Int)
                · rw [if_pos c20] at H
                  have c20b0 : decide ((ji18) < (l0_0.length : Int)) = true := decide_eq_true c20
                  clear c20
                  by_cases c21 : (rd l0_0 (ji18)) < 0
                  · rw [if_pos c21] at H
                    have c21b0 : decide ((rd l0_0 (ji18)) < 0) = true := decide_eq_true c21
                    clear c21
                    obtain rfl := Option.some.inj H
                    have hcz22_0 : wr.cell? ⟨gb133, 0, none⟩ = some (.slice A0_0 l0_0.length c0_0) := (blk_cell BK133.out 0).trans rfl
                    have hcz22_1 : wr.cell? ⟨gb133, 1, none⟩ = some (.int .i64 a0_1) := (blk_cell BK133.out 1).trans rfl
                    have hcz22_2 : wr.cell? ⟨gb133, 2, none⟩ = some (.int .i64 a0_2) := (blk_cell BK133.out 2).trans rfl
                    have hcz22_3 : wr.cell? ⟨gb133, 3, none⟩ = some (.slice A0_3 l0_3.length c0_3) := (blk_cell BK133.out 3).trans rfl
                    have hcz22_4 : wr.cell? ⟨gb133, 4, none⟩ = some (.slice A0_4 l0_4.length c0_4) := (blk_cell BK133.out 4).trans rfl
                    have hfz22_0 := blk_frozen BK133.out 0
                    have hfz22_1 := blk_frozen BK133.out 1
                    have hfz22_2 := blk_frozen BK133.out 2
                    have hfz22_3 := blk_frozen BK133.out 3
                    have hfz22_4 := blk_frozen BK133.out 4
                    have p135 : 0 ≤ ((ji18) : Int) := of_decide_eq_true (by first | (with_reducible assumption) | assumption)
                    have q135 : (ji18) < (l0_0.length : Int) := of_decide_eq_true (by first | (with_reducible assumption) | assumption)
                    obtain ⟨ad135, e135, hx135_0⟩ := Kd.at_int HR0_0.out (ji18) p135 q135
                    cases e135
                    replace hx135_0 := (HB.out.cell (World.block_lt_of_cell? w _ hx135_0)).trans hx135_0
                    replace p135 := eq_true p135
                    replace q135 := eq_true q135
                    go_wp2
                    go_ret
                    exact ⟨by first | rfl | (simp [errW_none, errW_some] <;> rfl) | (simp only [← hji18]; first | rfl | (simp [errW_none, errW_some] <;> rfl)) | (simp [*, errW_none, errW_some] <;> rfl), by repeat (first | (with_reducible first | exact HB.out | apply below_alloc | apply pw_below_drewN | apply below_drew1 | refine below_set ?_ GE133.out) | exact HB.out)⟩
                  · rw [if_neg c21] at H
                    have c21b0 : decide ((rd l0_0 (ji18)) < 0) = false := decide_eq_false c21
                    clear c21
                    by_cases c23 : (rd l0_0 (ji18)) > 7
                    · rw [if_pos c23] at H
                      have c23b0 : decide (7 < (rd l0_0 (ji18))) = true := decide_eq_true c23
                      clear c23
                      obtain rfl := Option.some.inj H
                      have hcz24_0 : wr.cell? ⟨gb133, 0, none⟩ = some (.slice A0_0 l0_0.length c0_0) := (blk_cell BK133.out 0).trans rfl
                      have hcz24_1 : wr.cell? ⟨gb133, 1, none⟩ = some (.int .i64 a0_1) := (blk_cell BK133.out 1).trans rfl
                      have hcz24_2 : wr.cell? ⟨gb133, 2, none⟩ = some (.int .i64 a0_2) := (blk_cell BK133.out 2).trans rfl
                      have hcz24_3 : wr.cell? ⟨gb133, 3, none⟩ = some (.slice A0_3 l0_3.length c0_3) := (blk_cell BK133.out 3).trans rfl
                      have hcz24_4 : wr.cell? ⟨gb133, 4, none⟩ = some (.slice A0_4 l0_4.length c0_4) := (blk_cell BK133.out 4).trans rfl
                      have hfz24_0 := blk_frozen BK133.out 0
                      have hfz24_1 := blk_frozen BK133.out 1
                      have hfz24_2 := blk_frozen BK133.out 2
                      have hfz24_3 := blk_frozen BK133.out 3
                      have hfz24_4 := blk_frozen BK133.out 4
                      have p135 : 0 ≤ ((ji18) : Int) := of_decide_eq_true (by first | (with_reducible assumption) | assumption)
                      have q135 : (ji18) < (l0_0.length : Int) := of_decide_eq_true (by first | (with_reducible assumption) | assumption)
                      obtain ⟨ad135, e135, hx135_0⟩ := Kd.at_int HR0_0.out (ji18) p135 q135
                      cases e135
                      replace hx135_0 := (HB.out.cell (World.block_lt_of_cell? w _ hx135_0)).trans hx135_0
                      replace p135 := eq_true p135
                      replace q135 := eq_true q135
                      have p136 : 0 ≤ ((ji18) : Int) := of_decide_eq_true (by first | (with_reducible assumption) | assumption)
                      have q136 : (ji18) < (l0_0.length : Int) := of_decide_eq_true (by first | (with_reducible assumption) | assumption)
                      obtain ⟨ad136, e136, hx136_0⟩ := Kd.at_int HR0_0.out (ji18) p136 q136
                      obtain rfl : ad135 = ad136 := (by injection e136)
                      replace hx136_0 := (HB.out.cell (World.block_lt_of_cell? w _ hx136_0)).trans hx136_0
                      replace p136 := eq_true p136
                      replace q136 := eq_true q136
                      go_wp2
                      go_ret
                      exact ⟨by first | rfl | (simp [errW_none, errW_some] <;> rfl) | (simp only [← hji18]; first | rfl | (simp [errW_none, errW_some] <;> rfl)) | (simp [*, errW_none, errW_some] <;> rfl), by repeat (first | (with_reducible first | exact HB.out | apply below_alloc | apply pw_below_drewN | apply below_drew1 | refine below_set ?_ GE133.out) | exact HB.out)⟩
                    · rw [if_neg c23] at H
                      have c23b0 : decide (7 < (rd l0_0 (ji18))) = false := decide_eq_false c23
                      clear c23
                      by_cases c25 : 0 ≤ x3_2
                      · rw [if_pos c25] at H
                        have c25b0 : decide (0 ≤ x3_2) = true := decide_eq_true c25
                        clear c25
                        by_cases c26 : x3_2 < (l0_3.length : Int)
                        · rw [if_pos c26] at H
                          have c26b0 : decide (x3_2 < (l0_3.length : Int)) = true := decide_eq_true c26
                          clear c26
                          by_cases c27 : (Go.bits .andNot .i64 (rd l0_3 x3_2) 6) = 0
                          · rw [if_pos c27] at H
                            have c27b0 : ((Go.bits .andNot .i64 (rd l0_3 x3_2) 6) == 0) = true := beq_iff_eq.mpr c27
                            have c27b1 : ((Go.bits .andNot .i64 (rd l0_3 x3_2) 6) != 0) = false := bne_eq_false_iff_eq.mpr c27
                            clear c27
                            by_cases c28 : x3_2 < (l0_4.length : Int)
                            · rw [if_pos c28] at H
                              have c28b0 : decide (x3_2 < (l0_4.length : Int)) = true := decide_eq_true c28
                              clear c28
                              by_cases c29 : (rd l0_4 x3_2) < 0
                              · rw [if_pos c29] at H
                                have c29b0 : decide ((rd l0_4 x3_2) < 0) = true := decide_eq_true c29
                                clear c29
                                obtain rfl := Option.some.inj H
                                have hcz30_0 : wr.cell? ⟨gb133, 0, none⟩ = some (.slice A0_0 l0_0.length c0_0) := (blk_cell BK133.out 0).trans rfl
                                have hcz30_1 : wr.cell? ⟨gb133, 1, none⟩ = some (.int .i64 a0_1) := (blk_cell BK133.out 1).trans rfl
                                have hcz30_2 : wr.cell? ⟨gb133, 2, none⟩ = some (.int .i64 a0_2) := (blk_cell BK133.out 2).trans rfl
                                have hcz30_3 : wr.cell? ⟨gb133, 3, none⟩ = some (.slice A0_3 l0_3.length c0_3) := (blk_cell BK133.out 3).trans rfl
                                have hcz30_4 : wr.cell? ⟨gb133, 4, none⟩ = some (.slice A0_4 l0_4.length c0_4) := (blk_cell BK133.out 4).trans rfl
                                have hfz30_0 := blk_frozen BK133.out 0
                                have hfz30_1 := blk_frozen BK133.out 1
                                have hfz30_2 := blk_frozen BK133.out 2
                                have hfz30_3 := blk_frozen BK133.out 3
                                have hfz30_4 := blk_frozen BK133.out 4
                                have p135 : 0 ≤ ((ji18) : Int) := of_decide_eq_true (by first | (with_reducible assumption) | assumption)
                                have q135 : (ji18) < (l0_0.length : Int) := of_decide_eq_true (by first | (with_reducible assumption) | assumption)
                                obtain ⟨ad135, e135, hx135_0⟩ := Kd.at_int HR0_0.out (ji18) p135 q135
                                cases e135
                                replace hx135_0 := (HB.out.cell (World.block_lt_of_cell? w _ hx135_0)).trans hx135_0
                                replace p135 := eq_true p135
                                replace q135 := eq_true q135
                                have p136 : 0 ≤ ((ji18) : Int) := of_decide_eq_true (by first | (with_reducible assumption) | assumption)
                                have q136 : (ji18) < (l0_0.length : Int) := of_decide_eq_true (by first | (with_reducible assumption) | assumption)
                                obtain ⟨ad136, e136, hx136_0⟩ := Kd.at_int HR0_0.out (ji18) p136 q136
                                obtain rfl : ad135 = ad136 := (by injection e136)
                                replace hx136_0 := (HB.out.cell (World.block_lt_of_cell? w _ hx136_0)).trans hx136_0
                                replace p136 := eq_true p136
                                replace q136 := eq_true q136
                                have p137 : 0 ≤ (x3_2 : Int) := of_decide_eq_true (by first | (with_reducible assumption) | assumption)
                                have q137 : x3_2 < (l0_3.length : Int) := of_decide_eq_true (by first | (with_reducible assumption) | assumption)
                                obtain ⟨ad137, e137, hx137_0⟩ := Kd.at_int HR0_3.out x3_2 p137 q137
                                cases e137
                                replace hx137_0 := (HB.out.cell (World.block_lt_of_cell? w _ hx137_0)).trans hx137_0
                                replace p137 := eq_true p137
                                replace q137 := eq_true q137
                                have p138 : 0 ≤ (x3_2 : Int) := of_decide_eq_true (by first | (with_reducible assumption) | assumption)
                                have q138 : x3_2 < (l0_4.length : Int) := of_decide_eq_true (by first | (with_reducible assumption) | assumption)
                                obtain ⟨ad138, e138, hx138_0⟩ := Kd.at_int HR0_4.out x3_2 p138 q138
                                cases e138
                                replace hx138_0 := (HB.out.cell (World.block_lt_of_cell? w _ hx138_0)).trans hx138_0
                                replace p138 := eq_true p138
                                replace q138 := eq_true q138
                                go_wp2
                                go_ret
                                exact ⟨by first | rfl | (simp [errW_none, errW_some] <;> rfl) | (simp only [← hji18]; first | rfl | (simp [errW_none, errW_some] <;> rfl)) | (simp [*, errW_none, errW_some] <;> rfl), by repeat (first | (with_reducible first | exact HB.out | apply below_alloc | apply pw_below_drewN | apply below_drew1 | refine below_set ?_ GE133.out) | exact HB.out)⟩
                              · rw [if_neg c29] at H
                                have c29b0 : decide ((rd l0_4 x3_2) < 0) = false := decide_eq_false c29
                                clear c29
                                by_cases c31 : (rd l0_4 x3_2) > 7
                                · rw [if_pos c31] at H
                                  have c31b0 : decide (7 < (rd l0_4 x3_2)) = true := decide_eq_true c31
                                  clear c31
                                  obtain rfl := Option.some.inj H
                                  have hcz32_0 : wr.cell? ⟨gb133, 0, none⟩ = some (.slice A0_0 l0_0.length c0_0) := (blk_cell BK133.out 0).trans rfl
                                  have hcz32_1 : wr.cell? ⟨gb133, 1, none⟩ = some (.int .i64 a0_1) := (blk_cell BK133.out 1).trans rfl
                                  have hcz32_2 : wr.cell? ⟨gb133, 2, none⟩ = some (.int .i64 a0_2) := (blk_cell BK133.out 2).trans rfl
                                  have hcz32_3 : wr.cell? ⟨gb133, 3, none⟩ = some (.slice A0_3 l0_3.length c0_3) := (blk_cell BK133.out 3).trans rfl
                                  have hcz32_4 : wr.cell? ⟨gb133, 4, none⟩ = some (.slice A0_4 l0_4.length c0_4) := (blk_cell BK133.out 4).trans rfl
                                  have hfz32_0 := blk_frozen BK133.out 0
                                  have hfz32_1 := blk_frozen BK133.out 1
                                  have hfz32_2 := blk_frozen BK133.out 2
                                  have hfz32_3 := blk_frozen BK133.out 3
                                  have hfz32_4 := blk_frozen BK133.out 4
                                  have p135 : 0 ≤ ((ji18) : Int) := of_decide_eq_true (by first | (with_reducible assumption) | assumption)
                                  have q135 : (ji18) < (l0_0.length : Int) := of_decide_eq_true (by first | (with_reducible assumption) | assumption)
                                  obtain ⟨ad135, e135, hx135_0⟩ := Kd.at_int HR0_0.out (ji18) p135 q135
                                  cases e135
                                  replace hx135_0 := (HB.out.cell (World.block_lt_of_cell? w _ hx135_0)).trans hx135_0
                                  replace p135 := eq_true p135
                                  replace q135 := eq_true q135
                                  have p136 : 0 ≤ ((ji18) : Int) := of_decide_eq_true (by first | (with_reducible assumption) | assumption)
                                  have q136 : (ji18) < (l0_0.length : Int) := of_decide_eq_true (by first | (with_reducible assumption) | assumption)
                                  obtain ⟨ad136, e136, hx136_0⟩ := Kd.at_int HR0_0.out (ji18) p136 q136
                                  obtain rfl : ad135 = ad136 := (by injection e136)
                                  replace hx136_0 := (HB.out.cell (World.block_lt_of_cell? w _ hx136_0)).trans hx136_0
                                  replace p136 := eq_true p136
                                  replace q136 := eq_true q136
                                  have p137 : 0 ≤ (x3_2 : Int) := of_decide_eq_true (by first | (with_reducible assumption) | assumption)
                                  have q137 : x3_2 < (l0_3.length : Int) := of_decide_eq_true (by first | (with_reducible assumption) | assumption)
                                  obtain ⟨ad137, e137, hx137_0⟩ := Kd.at_int HR0_3.out x3_2 p137 q137
                                  cases e137
                                  replace hx137_0 := (HB.out.cell (World.block_lt_of_cell? w _ hx137_0)).trans hx137_0
                                  replace p137 := eq_true p137
                                  replace q137 := eq_true q137
                                  have p138 : 0 ≤ (x3_2 : Int) := of_decide_eq_true (by first | (with_reducible assumption) | assumption)
                                  have q138 : x3_2 < (l0_4.length : Int) := of_decide_eq_true (by first | (with_reducible assumption) | assumption)
                                  obtain ⟨ad138, e138, hx138_0⟩ := Kd.at_int HR0_4.out x3_2 p138 q138
                                  cases e138
                                  replace hx138_0 := (HB.out.cell (World.block_lt_of_cell? w _ hx138_0)).trans hx138_0
                                  replace p138 := eq_true p138
                                  replace q138 := eq_true q138
                                  have p139 : 0 ≤ (x3_2 : Int) := of_decide_eq_true (by first | (with_reducible assumption) | assumption)
                                  have q139 : x3_2 < (l0_4.length : Int) := of_decide_eq_true (by first | (with_reducible assumption) | assumption)
                                  obtain ⟨ad139, e139, hx139_0⟩ := Kd.at_int HR0_4.out x3_2 p139 q139
                                  obtain rfl : ad138 = ad139 := (by injection e139)
                                  replace hx139_0 := (HB.out.cell (World.block_lt_of_cell? w _ hx139_0)).trans hx139_0
                                  replace p139 := eq_true p139
                                  replace q139 := eq_true q139
                                  go_wp2
                                  go_ret
                                  exact ⟨by first | rfl | (simp [errW_none, errW_some] <;> rfl) | (simp only [← hji18]; first | rfl | (simp [errW_none, errW_some] <;> rfl)) | (simp [*, errW_none, errW_some] <;> rfl), by repeat (first | (with_reducible first | exact HB.out | apply below_alloc | apply pw_below_drewN | apply below_drew1 | refine below_set ?_ GE133.out) | exact HB.out)⟩
                                · rw [if_neg c31] at H
                                  have c31b0 : decide (7 < (rd l0_4 x3_2)) = false := decide_eq_false c31
                                  clear c31
                                  have H' := Aside0.mk H
                                  clear H
                                  have hcz33_0 : wr.cell? ⟨gb133, 0, none⟩ = some (.slice A0_0 l0_0.length c0_0) := (blk_cell BK133.out 0).trans rfl
                                  have hcz33_1 : wr.cell? ⟨gb133, 1, none⟩ = some (.int .i64 a0_1) := (blk_cell BK133.out 1).trans rfl
                                  have hcz33_2 : wr.cell? ⟨gb133, 2, none⟩ = some (.int .i64 a0_2) := (blk_cell BK133.out 2).trans rfl
                                  have hcz33_3 : wr.cell? ⟨gb133, 3, none⟩ = some (.slice A0_3 l0_3.length c0_3) := (blk_cell BK133.out 3).trans rfl
                                  have hcz33_4 : wr.cell? ⟨gb133, 4, none⟩ = some (.slice A0_4 l0_4.length c0_4) := (blk_cell BK133.out 4).trans rfl
                                  have hfz33_0 := blk_frozen BK133.out 0
                                  have hfz33_1 := blk_frozen BK133.out 1
                                  have hfz33_2 := blk_frozen BK133.out 2
                                  have hfz33_3 := blk_frozen BK133.out 3
                                  have hfz33_4 := blk_frozen BK133.out 4
                                  have p135 : 0 ≤ ((ji18) : Int) := of_decide_eq_true (by first | (with_reducible assumption) | assumption)
                                  have q135 : (ji18) < (l0_0.length : Int) := of_decide_eq_true (by first | (with_reducible assumption) | assumption)
                                  obtain ⟨ad135, e135, hx135_0⟩ := Kd.at_int HR0_0.out (ji18) p135 q135
                                  cases e135
                                  replace hx135_0 := (HB.out.cell (World.block_lt_of_cell? w _ hx135_0)).trans hx135_0
                                  replace p135 := eq_true p135
                                  replace q135 := eq_true q135
                                  have p136 : 0 ≤ ((ji18) : Int) := of_decide_eq_true (by first | (with_reducible assumption) | assumption)
                                  have q136 : (ji18) < (l0_0.length : Int) := of_decide_eq_true (by first | (with_reducible assumption) | assumption)
                                  obtain ⟨ad136, e136, hx136_0⟩ := Kd.at_int HR0_0.out (ji18) p136 q136
                                  obtain rfl : ad135 = ad136 := (by injection e136)
                                  replace hx136_0 := (HB.out.cell (World.block_lt_of_cell? w _ hx136_0)).trans hx136_0
                                  replace p136 := eq_true p136
                                  replace q136 := eq_true q136
                                  have p137 : 0 ≤ (x3_2 : Int) := of_decide_eq_true (by first | (with_reducible assumption) | assumption)
                                  have q137 : x3_2 < (l0_3.length : Int) := of_decide_eq_true (by first | (with_reducible assumption) | assumption)
                                  obtain ⟨ad137, e137, hx137_0⟩ := Kd.at_int HR0_3.out x3_2 p137 q137
                                  cases e137
                                  replace hx137_0 := (HB.out.cell (World.block_lt_of_cell? w _ hx137_0)).trans hx137_0
                                  replace p137 := eq_true p137
                                  replace q137 := eq_true q137
                                  have p138 : 0 ≤ (x3_2 : Int) := of_decide_eq_true (by first | (with_reducible assumption) | assumption)
                                  have q138 : x3_2 < (l0_4.length : Int) := of_decide_eq_true (by first | (with_reducible assumption) | assumption)
                                  obtain ⟨ad138, e138, hx138_0⟩ := Kd.at_int HR0_4.out x3_2 p138 q138
                                  cases e138
                                  replace hx138_0 := (HB.out.cell (World.block_lt_of_cell? w _ hx138_0)).trans hx138_0
                                  replace p138 := eq_true p138
                                  replace q138 := eq_true q138
                                  have p139 : 0 ≤ (x3_2 : Int) := of_decide_eq_true (by first | (with_reducible assumption) | assumption)
                                  have q139 : x3_2 < (l0_4.length : Int) := of_decide_eq_true (by first | (with_reducible assumption) | assumption)
                                  obtain ⟨ad139, e139, hx139_0⟩ := Kd.at_int HR0_4.out x3_2 p139 q139
                                  obtain rfl : ad138 = ad139 := (by injection e139)
                                  replace hx139_0 := (HB.out.cell (World.block_lt_of_cell? w _ hx139_0)).trans hx139_0
                                  replace p139 := eq_true p139
                                  replace q139 := eq_true q139
                                  go_wp2
                                  go_roundg k2
                                  case measure => have := HJ1.out; have := HK2.out; omega
                                  case rel => exact ⟨(ji18), (by first | rfl | (simp; done) | (simp only [← hji18] <;> (first | rfl | simp)) | (simp [*]; done)), H', ⟨by have := HJ1.out; have := HK2.out; omega⟩, ⟨by (with_reducible repeat (first | refine blk_drewN ?_ _ | refine blk_drew ?_ | refine blk_alloc ?_ _)); exact BK133.out⟩, ⟨by repeat (first | (with_reducible first | exact HB.out | apply below_alloc | apply pw_below_drewN | apply below_drew1 | refine below_set ?_ GE133.out) | exact HB.out)⟩⟩
                            · rw [if_neg c28] at H
                              exact absurd H (by simp)
                          · rw [if_neg c27] at H
                            have c27b0 : ((Go.bits .andNot .i64 (rd l0_3 x3_2) 6) == 0) = false := beq_eq_false_iff_ne.mpr c27
                            have c27b1 : ((Go.bits .andNot .i64 (rd l0_3 x3_2) 6) != 0) = true := bne_iff_ne.mpr c27
                            obtain rfl := Option.some.inj H
                            have hcz34_0 : wr.cell? ⟨gb133, 0, none⟩ = some (.slice A0_0 l0_0.length c0_0) := (blk_cell BK133.out 0).trans rfl
                            have hcz34_1 : wr.cell? ⟨gb133, 1, none⟩ = some (.int .i64 a0_1) := (blk_cell BK133.out 1).trans rfl
                            have hcz34_2 : wr.cell? ⟨gb133, 2, none⟩ = some (.int .i64 a0_2) := (blk_cell BK133.out 2).trans rfl
                            have hcz34_3 : wr.cell? ⟨gb133, 3, none⟩ = some (.slice A0_3 l0_3.length c0_3) := (blk_cell BK133.out 3).trans rfl
                            have hcz34_4 : wr.cell? ⟨gb133, 4, none⟩ = some (.slice A0_4 l0_4.length c0_4) := (blk_cell BK133.out 4).trans rfl
                            have hfz34_0 := blk_frozen BK133.out 0
                            have hfz34_1 := blk_frozen BK133.out 1
                            have hfz34_2 := blk_frozen BK133.out 2
                            have hfz34_3 := blk_frozen BK133.out 3
                            have hfz34_4 := blk_frozen BK133.out 4
                            have p135 : 0 ≤ ((ji18) : Int) := of_decide_eq_true (by first | (with_reducible assumption) | assumption)
                            have q135 : (ji18) < (l0_0.length : Int) := of_decide_eq_true (by first | (with_reducible assumption) | assumption)
                            obtain ⟨ad135, e135, hx135_0⟩ := Kd.at_int HR0_0.out (ji18) p135 q135
                            cases e135
                            replace hx135_0 := (HB.out.cell (World.block_lt_of_cell? w _ hx135_0)).trans hx135_0
                            replace p135 := eq_true p135
                            replace q135 := eq_true q135
                            have p136 : 0 ≤ ((ji18) : Int) := of_decide_eq_true (by first | (with_reducible assumption) | assumption)
                            have q136 : (ji18) < (l0_0.length : Int) := of_decide_eq_true (by first | (with_reducible assumption) | assumption)
                            obtain ⟨ad136, e136, hx136_0⟩ := Kd.at_int HR0_0.out (ji18) p136 q136
                            obtain rfl : ad135 = ad136 := (by injection e136)
                            replace hx136_0 := (HB.out.cell (World.block_lt_of_cell? w _ hx136_0)).trans hx136_0
                            replace p136 := eq_true p136
                            replace q136 := eq_true q136
                            have p137 : 0 ≤ (x3_2 : Int) := of_decide_eq_true (by first | (with_reducible assumption) | assumption)
                            have q137 : x3_2 < (l0_3.length : Int) := of_decide_eq_true (by first | (with_reducible assumption) | assumption)
                            obtain ⟨ad137, e137, hx137_0⟩ := Kd.at_int HR0_3.out x3_2 p137 q137
                            cases e137
                            replace hx137_0 := (HB.out.cell (World.block_lt_of_cell? w _ hx137_0)).trans hx137_0
                            replace p137 := eq_true p137
                            replace q137 := eq_true q137
                            go_wp2
                            go_ret
                            exact ⟨by first | rfl | (simp [errW_none, errW_some] <;> rfl) | (simp only [← hji18]; first | rfl | (simp [errW_none, errW_some] <;> rfl)) | (simp [*, errW_none, errW_some] <;> rfl), by repeat (first | (with_reducible first | exact HB.out | apply below_alloc | apply pw_below_drewN | apply below_drew1 | refine below_set ?_ GE133.out) | exact HB.out)⟩
                        · rw [if_neg c26] at H
                          exact absurd H (by simp)
                      · rw [if_neg c25] at H
                        exact absurd H (by simp)
                · rw [if_neg c20] at H
                  exact absurd H (by simp)
              · rw [if_neg c19] at H
                exact absurd H (by simp)
            · rw [if_neg c17] at H
              have c17b0 : decide (x3_2 < 2) = false := decide_eq_false c17
              clear c17
              obtain rfl := Option.some.inj H
              go_wp2
              go_ret
              exact ⟨by first | rfl | (simp [errW_none, errW_some] <;> rfl) | (simp [*, errW_none, errW_some] <;> rfl), by repeat (first | (with_reducible first | exact HB.out | apply below_alloc | apply pw_below_drewN | apply below_drew1 | refine below_set ?_ GE133.out) | exact HB.out)⟩

end Go.Proofs.Ytmlpnjoejdpblaa.Q
end
section
/- Plain facts on whole numbers, bytes and bits, no program in sight: the value of a row of bytes, what '|' of separate fields is. -/
set_option linter.unusedVariables false
namespace Go.Proofs.Ytmlpnjoejdpblaa.L
open Go.RowKit

def byte (x : Int) : Prop := 0 ≤ x ∧ x < 256
instance (x : Int) : Decidable (byte x) := inferInstanceAs (Decidable (_ ∧ _))
def u64B (x : Int) : Prop := 0 ≤ x ∧ x < 18446744073709551616
instance (x : Int) : Decidable (u64B x) := inferInstanceAs (Decidable (_ ∧ _))
end Go.Proofs.Ytmlpnjoejdpblaa.L
end
section
/- An append that must grow, over rows of whole numbers with their footprints. -/
namespace Go.Proofs.Ytmlpnjoejdpblaa.L
open Go.RowKit Go.Proofs.YtmlpnjoejdpblaaW.PrintWords
theorem F_cells {k : IntKind} {W : World} {ok : Nat → Prop} {A : Option Addr} {n : Nat} {xs : List Int} (h : Kd.F (Kd.int k) W ok A n xs) : ∀ b, A = some b → ∀ j u, (nums k xs)[j]? = some u → W.cell? (b.add j) = some u := by
  intro b hb j u hu
  unfold nums at hu
  rw [List.getElem?_map] at hu
  obtain ⟨x, hx, rfl⟩ := Option.map_eq_some_iff.1 hu
  obtain ⟨e1, _, h3⟩ := Kd.reads_of_C (d := (0 : Int)) (Kd.F_now h)
  have hj := (List.getElem?_eq_some_iff.1 hx).1
  obtain ⟨ad, ea, hc⟩ := h3 (by omega)
  rw [hb] at ea; injection ea with ea; subst ea
  rw [hc j (by omega), List.getD_eq_getElem?_getD, hx]; rfl
theorem F_none {k : IntKind} {W : World} {ok : Nat → Prop} {A : Option Addr} {n : Nat} {xs : List Int} (h : Kd.F (Kd.int k) W ok A n xs) (hA : A = none) : n = 0 := by
  obtain ⟨_, _, h3⟩ := Kd.F_now h
  rcases Nat.eq_zero_or_pos n with h0 | h0
  · exact h0
  · obtain ⟨ad, e, _⟩ := h3 h0; rw [hA] at e; cases e
theorem own_F {w : World} {base n : Nat} {e : TypeId} {k : IntKind} {v : Value} {xs : List Int} (h : w.ownsRow base e 1 v n (nums k xs)) : ∃ A c, v = .slice A n c ∧ n ≤ c ∧ Kd.F (Kd.int k) w (fun j => base ≤ j) A n xs := by
  have hn : xs.length = n := by have := h.1; simp [nums] at this; exact this
  subst hn
  have hR : Kd.R (Kd.int k) e w base (fun _ => True) v xs := Kd.R_of_own (enc := Value.int k) (h1 := fun _ => rfl) h (fun _ _ => trivial)
  exact R_Fl hR
theorem below_of_grown {w w1 : World} (hg : w.grownBy w1 none) : Below w.heap.size w w1 := ⟨hg.os, hg.tape, hg.output, hg.size, fun i hi => hg.block i hi (by simp)⟩
end Go.Proofs.Ytmlpnjoejdpblaa.L
end
section
/- append([]T{}, l...): a copy of a row. -/
namespace Go.Proofs.Ytmlpnjoejdpblaa.Q
open Go.RowKit Go.Proofs.YtmlpnjoejdpblaaW.PrintWords Go.Proofs.YtmlpnjoejdpblaaW.PrintLast Go.Proofs.YtmlpnjoejdpblaaW.PrintMore Go.Proofs.Ytmlpnjoejdpblaa.L
set_option linter.unusedVariables false
theorem copy_run {P : Program} {k : IntKind} {W : World} {ok : Nat → Prop} {v : Value} {ys : List Int} (t ty e : TypeId) (i : TypeInfo) (z : Value) (h1 : P.underlying t = some (.slice e)) (h2 : P.info? e = some i) (h3 : i.zero = some z) (h4 : i.size = 1) (h5 : i.bytes = 8) (h6 : z.cells.size = 1)
    (b off : Nat) (hv : SL k W ok v ys) (hl : ys.length * 8 ≤ 140737488351232) :
    ∃ v1 w1, (Builtin.append_ #[t, t] ty #[.slice (some ⟨b, off, none⟩) 0 0, v]).run P W = .ok v1 w1 ∧ SL k w1 (fun j => W.heap.size ≤ j) v1 ys ∧ Below W.heap.size W w1 := by
  obtain ⟨A, c, rfl, hc, hF⟩ := hv
  cases ys with
  | nil =>
    have hr : (Builtin.append_ #[t, t] ty #[.slice (some ⟨b, off, none⟩) 0 0, .slice A 0 c]).run P W = .ok (.slice (some ⟨b, off, none⟩) 0 0) W := by
      cases A with
      | none => exact run_append_room_src W t t ty e i h1 h2 b off 0 0 _ 0 [] (Src.ofNil W h1 c) (Nat.le_refl _) (fun j hj => absurd hj (Nat.not_lt_zero _)) (fun j hj => absurd hj (Nat.not_lt_zero _))
      | some a => exact run_append_room_src W t t ty e i h1 h2 b off 0 0 _ 0 [] (Src.ofSlice W h1 a 0 c [] (by simp) (fun j u hj => by cases hj) (fun u hu => by cases hu)) (Nat.le_refl _) (fun j hj => absurd hj (Nat.not_lt_zero _)) (fun j hj => absurd hj (Nat.not_lt_zero _))
    exact ⟨_, _, hr, ⟨some ⟨b, off, none⟩, 0, rfl, Nat.le_refl _, fun W' _ => ⟨rfl, by decide, fun h => absurd h (by decide)⟩⟩, Below.refl _ _⟩
  | cons y ys =>
    have hcl := F_cells hF
    cases A with
    | none => have := F_none hF rfl; simp at this
    | some ad =>
      obtain ⟨v1, w1, hr, ho, hg⟩ := run_append_arg_grows (P := P) W t ty e i z 1 8 h1 h2 h3 h4 h5 h6 (by decide) ⟨b, off, none⟩ 0 0 [] rfl (fun j u hj => by cases hj) ad (y :: ys).length c (nums k (y :: ys)) (by simp [nums]) (hcl ad rfl) (by simp) (by unfold maxLen; omega) (by omega)
      rw [List.nil_append, Nat.zero_add] at ho
      obtain ⟨A1, c1, e1, hc1, hF1⟩ := own_F ho
      exact ⟨v1, w1, hr, ⟨A1, c1, e1, hc1, hF1⟩, below_of_grown hg⟩
theorem wpList_copy {P : Program} {ops : Array Oper} {rest : List Oper} {o : Oper} {a : Act} {Q : Exit → Act → World → Prop} {k : IntKind} {W : World} {ok : Nat → Prop} {v : Value} {ys : List Int} (hg : o.guard = none) (s x : Operand) (t : TypeId) (hop : o.op = Op.call { callee := Callee.builtin Builtin.append, args := #[s, x], argTypes := #[t, t] })
    (e : TypeId) (i : TypeInfo) (z : Value) (h1 : P.underlying t = some (.slice e)) (h2 : P.info? e = some i) (h3 : i.zero = some z) (h4 : i.size = 1) (h5 : i.bytes = 8) (h6 : z.cells.size = 1)
    (b off : Nat) (hs : a.eval s = .slice (some ⟨b, off, none⟩) 0 0) (hx : a.eval x = v) (hv : SL k W ok v ys) (hl : ys.length * 8 ≤ 140737488351232)
    (h : ∀ v1 w1, SL k w1 (fun j => W.heap.size ≤ j) v1 ys → Below W.heap.size W w1 → wpList P ops Q rest (a.put o.dst v1) w1) : wpList P ops Q (o :: rest) a W := by
  refine wpList_plain hg fun K hK' => ?_
  obtain ⟨v1, w1, hr, r1, r2⟩ := copy_run t o.type e i z h1 h2 h3 h4 h5 h6 b off hv hl
  unfold Oper.wp
  simp [execOp, hop, resolve, invoke, builtin, hs, hx, hr, Result.andThen]
  exact hK' _ _ (h v1 w1 r1 r2)
end Go.Proofs.Ytmlpnjoejdpblaa.Q
end
section
/- A region that draws its order, met by an invariant: whatever operation comes up next keeps it; what follows is shown once. -/
namespace Go.Proofs.Ytmlpnjoejdpblaa.L
open Go.RowKit
set_option linter.unusedVariables false
section
variable {P : Program} {ops : Array Oper} {Q : Exit → Act → World → Prop} {K : Act → World → Prop} {a : Act} {w : World} {i : Nat} {o : Oper}
def QK (K : Act → World → Prop) (Q : Exit → Act → World → Prop) : Exit → Act → World → Prop
  | .normal => K
  | e => Q e
theorem wpOp_of_list (hi : ops[i]? = some o) (h : wpList P ops (QK K Q) [o] a w) : wpOp P ops Q i K a w := by
  have e : wpOp P ops Q i K a w = if Region.wanted o (yielded ops a.tmps) then o.wp P a w K Q ∨ (o.asks P a w ∧ LetsOut Q) else K (a.put o.dst undef) w := by
    unfold wpOp
    rw [hi]
  rw [e]
  unfold wpList at h
  by_cases hw : Region.wanted o (yielded ops a.tmps) = true
  · rw [if_pos hw] at h ⊢
    rcases h with h | h
    · left
      unfold Oper.wp at h ⊢
      revert h
      generalize (execOp a.eval o).run P w = r
      intro h
      cases r with
      | ok n w' => cases n <;> exact h
      | halt x w' => cases x <;> exact h
    · right
      exact h
  · rw [if_neg hw] at h ⊢
    exact h
def cntL : List Bool → Nat
  | [] => 0
  | b :: l => (if b then 0 else 1) + cntL l
theorem cntL_set : ∀ (l : List Bool) (i : Nat), l[i]? = some false → cntL (l.set i true) + 1 = cntL l
  | [], i, h => by cases h
  | b :: l, 0, h => by
    injection h with h
    subst h
    simp [cntL]
    omega
  | b :: l, i + 1, h => by
    have := cntL_set l i h
    show (if b then 0 else 1) + cntL (l.set i true) + 1 = (if b then 0 else 1) + cntL l
    omega
theorem cntL_zero : ∀ (l : List Bool) (i : Nat), cntL l = 0 → l[i]? ≠ some false
  | [], i, _, h => by cases h
  | b :: l, 0, hc, h => by
    injection h with h
    subst h
    simp [cntL] at hc
  | b :: l, i + 1, hc, h => by
    refine cntL_zero l i ?_ h
    simp only [cntL] at hc
    omega
def ordB (ops : Array Oper) : Bool := (List.range ops.size).all fun i => (ops[i]?).all fun o => o.after.all fun e => !Region.binds .any e || decide (e.on < i)
theorem ord_of (h : ordB ops = true) (i : Nat) (o : Oper) (hi : ops[i]? = some o) (e : Edge) (he : e ∈ o.after) (hb : Region.binds .any e = true) : e.on < i := by
  unfold ordB at h
  rw [List.all_eq_true] at h
  have hlt := (Array.getElem?_eq_some_iff.1 hi).1
  have h1 := h i (List.mem_range.2 hlt)
  rw [hi] at h1
  have h2 : (o.after.all fun e => !Region.binds .any e || decide (e.on < i)) = true := h1
  have h3 := (Array.all_eq_true_iff_forall_mem.1 h2) e he
  rw [hb] at h3
  simpa using h3
theorem any_inv (n : Nat) (hn : ops.size = n) (hord : ordB ops = true) (I : (Nat → Bool) → Act → World → Prop)
    (hs : ∀ i, i < n → ∀ o, ops[i]? = some o → ∀ (l : Nat → Bool) (a : Act) (w : World) (Q' : Exit → Act → World → Prop), l i = false → (∀ e ∈ o.after, Region.binds .any e = true → l e.on = true) → I l a w →
      (∀ a' w', I (fun j => if j = i then true else l j) a' w' → Q' .normal a' w') → wpList P ops Q' [o] a w)
    (he : ∀ (l : Nat → Bool) (a : Act) (w : World), (∀ i, i < n → l i = true) → I l a w → Q .normal a w) :
    ∀ (fuel : Nat) (l : Array Bool) (a : Act) (w : World), l.size = n → cntL l.toList ≤ fuel → I (fun j => l.getD j true) a w → wpAny P .any ops Q fuel l a w := by
  have all_of : ∀ l : Array Bool, l.size = n → Region.ready .any ops l = [] → ∀ i, i < n → l.getD i true = true := by
    intro l hl hr i
    induction i using Nat.strongRecOn with
    | ind i ih =>
      intro hi
      cases hv : l.getD i true
      · exfalso
        obtain ⟨o, ho⟩ : ∃ o, ops[i]? = some o := ⟨_, Array.getElem?_eq_getElem (by omega)⟩
        have hm : i ∈ Region.ready .any ops l := by
          refine mem_ready.2 ⟨hv, o, ho, fun e hem hb => ?_⟩
          have hlt := ord_of hord i o ho e hem hb
          have := ih e.on hlt (by omega)
          rw [Array.getD_eq_getD_getElem?] at this ⊢
          rw [Array.getElem?_eq_getElem (by omega)] at this ⊢
          exact this
        rw [hr] at hm
        cases hm
      · rfl
  intro fuel
  induction fuel with
  | zero =>
    intro l a w hl hc hI
    have hr : Region.ready .any ops l = [] := by
      cases hr : Region.ready .any ops l with
      | nil => rfl
      | cons j rs =>
        exfalso
        have hm : j ∈ Region.ready .any ops l := by rw [hr]; exact List.mem_cons_self ..
        have h1 := (mem_ready.1 hm).1
        refine cntL_zero l.toList j (by omega) ?_
        rw [Array.getD_eq_getD_getElem?] at h1
        rw [Array.getElem?_toList]
        cases hq : l[j]? with
        | none => rw [hq] at h1; cases h1
        | some b => rw [hq] at h1; exact congrArg some h1
    exact ⟨hr, he _ a w (all_of l hl hr) hI⟩
  | succ fuel ih =>
    intro l a w hl hc hI
    refine ⟨fun hr => he _ a w (all_of l hl hr) hI, fun i hi => ?_⟩
    obtain ⟨h1, o, ho, h3⟩ := mem_ready.1 hi
    have hlt := (Array.getElem?_eq_some_iff.1 ho).1
    have hli : l.toList[i]? = some false := by
      rw [Array.getD_eq_getD_getElem?] at h1
      rw [Array.getElem?_toList]
      cases hq : l[i]? with
      | none => rw [hq] at h1; cases h1
      | some b => rw [hq] at h1; exact congrArg some h1
    refine wpOp_of_list ho (hs i (by omega) o ho _ a w _ h1 (fun e hem hb => ?_) hI (fun a' w' hI' => ?_))
    · have := h3 e hem hb
      rw [Array.getD_eq_getD_getElem?] at this ⊢
      cases hq : l[e.on]? with
      | none => rfl
      | some b => rw [hq] at this; exact this
    · show wpAny P .any ops Q fuel (l.setIfInBounds i true) a' w'
      refine ih _ a' w' (by simpa using hl) ?_ ?_
      · have hcs := cntL_set l.toList i hli
        rw [Array.toList_setIfInBounds]
        omega
      · have hf : (fun j => (l.setIfInBounds i true).getD j true) = fun j => if j = i then true else l.getD j true := by
          funext j
          rw [Array.getD_eq_getD_getElem?, Array.getD_eq_getD_getElem?, Array.getElem?_setIfInBounds]
          by_cases hj : j = i
          · subst hj
            rw [if_pos rfl, if_pos rfl, if_pos (by omega)]
            rfl
          · rw [if_neg (fun h => hj h.symm), if_neg hj]
        rw [hf]
        exact hI'
/-- The region, by an invariant. -/
theorem region_inv {id : Nat} (n : Nat) (hm : P.follows .mixedOrders = true) (hn : ops.size = n) (hord : ordB ops = true) (I : (Nat → Bool) → Act → World → Prop)
    (h0 : I (fun j => (Array.replicate n false).getD j true) a w.drew)
    (hs : ∀ i, i < n → ∀ o, ops[i]? = some o → ∀ (l : Nat → Bool) (a : Act) (w : World) (Q' : Exit → Act → World → Prop), l i = false → (∀ e ∈ o.after, Region.binds .any e = true → l e.on = true) → I l a w →
      (∀ a' w', I (fun j => if j = i then true else l j) a' w' → Q' .normal a' w') → wpList P ops Q' [o] a w)
    (he : ∀ (l : Nat → Bool) (a : Act) (w : World), (∀ i, i < n → l i = true) → I l a w → Q .normal a w) : (Code.region id ops true).wp P Q a w := by
  subst hn
  refine wp_region_any hm (any_inv ops.size rfl hord I hs he _ _ _ _ (by simp) ?_ h0)
  have : ∀ m, cntL (List.replicate m false) = m := fun m => by
    induction m with
    | zero => rfl
    | succ m ih => rw [List.replicate_succ]; simp [cntL, ih]; omega
  rw [Array.toList_replicate, this]
  exact Nat.le_refl _
end
end Go.Proofs.Ytmlpnjoejdpblaa.L
end
section
/- Arguments that lie in memory, opened: a row of whole numbers, a row of elements of whatever kind, as lists. -/
namespace Go.Proofs.Ytmlpnjoejdpblaa.L
open Go.RowKit Go.Proofs.YtmlpnjoejdpblaaW.PrintWords Go.Proofs.YtmlpnjoejdpblaaW.PrintLast Go.Proofs.YtmlpnjoejdpblaaW.PrintMore Go.ChangeShapes Go.WideShapes Go.Deep
section
variable {H : Type} {enc : TypeId × Value → H} {P : Program} {w : World} {base : Nat} {spare : Nat → Bool} {held : Bool} {n : Nat} {t e : TypeId} {c : Value} {x : DataW H × List MemPlace}
theorem leaf_int {k : IntKind} (ht : P.underlying t = some (.int k)) (h : DataW.trod enc P w base spare held n t [c] = some x) : ∃ a, c = .int k a ∧ (Lit.int k a).wf = true := by
  obtain ⟨a, he, _, hw⟩ := DataW.trod_int ht h
  exact ⟨a, by injection he, hw⟩
theorem leaf_rows {α : Type} {d : Kd α} (Q : α → Prop) (ht : P.underlying t = some (.slice e)) (hsz : P.cellsOf e = d.sz)
    (hel : ∀ (n : Nat) (cs : List Value) (y : DataW H × List MemPlace), cs.length = P.cellsOf e → DataW.trod enc P w base spare held n e cs = some y → ∃ s, d.K w s cs ∧ Q s)
    (h : DataW.trod enc P w base spare held n t [c] = some x) : ∃ (A : Option Addr) (cap : Nat) (l : List α), c = .slice A l.length cap ∧ d.C w A l.length l ∧ l.length ≤ cap ∧ l.length ≤ maxLen ∧ ∀ s ∈ l, Q s := by
  rcases open_slice ht h with ⟨hcs, _⟩ | ⟨a, len, cap, m, n', D, Pl, hcs, _, hl, hm, hmm, hx, hi⟩
  · injection hcs with hc
    exact ⟨none, 0, [], hc, ⟨rfl, Nat.zero_le _, fun hn => absurd hn (Nat.lt_irrefl 0)⟩, Nat.le_refl _, Nat.zero_le _, fun s hs => by cases hs⟩
  · have hc : c = .slice (some a) len cap := by injection hcs
    have hlm : len ≤ m := by rw [hmm]; split <;> omega
    have key : ∀ i, i < len → ∃ s cs, cs.length = d.sz ∧ d.K w s cs ∧ Q s ∧ ∀ j u, cs[j]? = some u → w.cell? (a.add (i * d.sz + j)) = some u := by
      intro i hil
      obtain ⟨cs', hcells, htr⟩ := hi i (by omega)
      rw [hsz] at hcells
      obtain ⟨_, hcl, hat⟩ := World.cells?_some hcells
      obtain ⟨s, hk, hq⟩ := hel n' cs' _ (by rw [hsz]; exact hcl) htr
      refine ⟨s, cs', hcl, hk, hq, fun j u hu => ?_⟩
      have hj : j < cs'.length := (List.getElem?_eq_some_iff.1 hu).1
      have := hat j (by omega)
      rw [Go.Deep.add_add] at this
      rw [this]; exact hu
    have ex : ∃ l : List α, l.length = len ∧ ∀ i s, l[i]? = some s → Q s ∧ ∃ cs, cs.length = d.sz ∧ d.K w s cs ∧ ∀ j u, cs[j]? = some u → w.cell? (a.add (i * d.sz + j)) = some u := by
      clear hi hc hl hm hmm hlm hcs hx
      induction len with
      | zero => exact ⟨[], rfl, fun i s hs => by simp at hs⟩
      | succ len ih =>
        obtain ⟨l, hll, hl⟩ := ih (fun i hil => key i (by omega))
        obtain ⟨s, cs, h1, h2, h3, h4⟩ := key len (by omega)
        refine ⟨l ++ [s], by simp [hll], fun i z hz => ?_⟩
        rcases Nat.lt_or_ge i l.length with hlt | hge
        · rw [List.getElem?_append_left hlt] at hz
          exact hl i z hz
        · have hi : i = len := by
            have := (List.getElem?_eq_some_iff.1 hz).1
            rw [List.length_append, List.length_singleton] at this
            omega
          subst hi
          rw [List.getElem?_append_right hge, hll, Nat.sub_self] at hz
          have : s = z := by simpa using hz
          subst this
          exact ⟨h3, cs, h1, h2, h4⟩
    obtain ⟨l, hll, hl'⟩ := ex
    refine ⟨some a, cap, l, by rw [hll]; exact hc, ⟨rfl, by rw [hll]; unfold maxLen at hm; omega, fun _ => ⟨a, rfl, fun j p hj => ?_⟩⟩, by omega, by omega, fun s hs => ?_⟩
    · obtain ⟨_, cs, h1, h2, h4⟩ := hl' j p hj
      exact ⟨cs, h1, h2, h4⟩
    · obtain ⟨i, hi'⟩ := List.getElem?_of_mem hs
      exact (hl' i s hi').1
theorem leaf_ints {k : IntKind} (ht : P.underlying t = some (.slice e)) (he : P.underlying e = some (.int k)) (hc1 : P.cellsOf e = 1) (h : DataW.trod enc P w base spare held n t [c] = some x) :
    ∃ (A : Option Addr) (cap : Nat) (l : List Int), c = .slice A l.length cap ∧ Kd.C (Kd.int k) w A l.length l ∧ l.length ≤ cap ∧ l.length ≤ maxLen ∧ ∀ z ∈ l, (Lit.int k z).wf = true :=
  leaf_rows (d := Kd.int k) (fun z => (Lit.int k z).wf = true) ht hc1 (fun n cs y hcs hy => by
    obtain ⟨a, rfl, _, hw⟩ := DataW.trod_int he hy
    exact ⟨a, rfl, hw⟩) h
end
end Go.Proofs.Ytmlpnjoejdpblaa.L
end
section
/- A struct's rows are no longer than what the row's inputs may weigh. -/
namespace Go.Proofs.Ytmlpnjoejdpblaa.L
open Go.RowKit Go.Proofs.YtmlpnjoejdpblaaW.PrintWords Go.Proofs.YtmlpnjoejdpblaaW.PrintLast Go.Proofs.YtmlpnjoejdpblaaW.PrintMore Go.ChangeShapes Go.WideShapes Go.Deep
section
variable {H : Type} {enc : TypeId × Value → H} {P : Program} {w : World} {base : Nat} {spare : Nat → Bool} {held : Bool} {n : Nat} {t e : TypeId} {c : Value} {x : DataW H × List MemPlace} {B : Nat}
theorem weights_le {ts : List TypeId} {ds : List (DataW H)} {j : Nat} {d : DataW H} (hsz : (DataW.weightsEach P ts ds).all (· ≤ reachBytes) = true) (ht : ts[j]? = some t) (hd : ds[j]? = some d) : ∀ n ∈ d.weights P t, n ≤ reachBytes := fun n hn => by
  have := List.all_eq_true.1 hsz n (DataW.weights_mem_each ht hd n hn)
  simpa using this
theorem field_le {fs : Array Field} {cs : List Value} (ht : P.underlying t = some (.struct fs)) (h : DataW.trod enc P w base spare held n t cs = some x) (hx : ∀ k ∈ x.1.weights P t, k ≤ B) :
    ∃ m, ∀ (i : Nat) (f : Field), fs[i]? = some f → ∃ y, DataW.trod enc P w base spare held m f.type ((cs.drop f.offset).take (P.cellsOf f.type)) = some y ∧ ∀ k ∈ y.1.weights P f.type, k ≤ B := by
  obtain ⟨xs, m, _, hxs, _, hlen, hg⟩ := DataW.trod_struct ht h
  subst hxs
  refine ⟨m, fun i f hf => ?_⟩
  have hi : i < fs.size := (Array.getElem?_eq_some_iff.1 hf).1
  refine ⟨_, (hg i f hf).trans (List.getElem?_eq_getElem (by omega)), fun k hk => hx k ?_⟩
  have hw : (DataW.agg (xs.map (·.1)) : DataW H).weights P t = DataW.weightsEach P (fs.toList.map (·.type)) (xs.map (·.1)) := by
    simp [DataW.weights, ht]
  show k ∈ (DataW.agg (xs.map (·.1)) : DataW H).weights P t
  rw [hw]
  refine DataW.weights_mem_each (j := i) (t := f.type) (d := (xs[i]'(by omega)).1) ?_ ?_ k hk
  · rw [List.getElem?_map, Array.getElem?_toList, hf]; rfl
  · rw [List.getElem?_map, List.getElem?_eq_getElem (by omega)]; rfl
theorem ints_le {A : Option Addr} {len cap : Nat} (ht : P.underlying t = some (.slice e)) (hb : P.bytesOf e = 8) (h : DataW.trod enc P w base spare held n t [c] = some x) (hc : c = .slice A len cap) (hx : ∀ k ∈ x.1.weights P t, k ≤ B) : len * 8 ≤ B := by
  rcases open_slice ht h with ⟨hcs, _⟩ | ⟨a, len', cap', m, n', D, Pl, hcs, _, hl, hm, hmm, hxx, hi⟩
  · injection hcs with hcs
    rw [hcs] at hc
    injection hc with _ h2
    omega
  · injection hcs with hcs
    rw [hcs] at hc
    injection hc with _ h2
    subst h2
    subst hxx
    have := hx _ (by simp only [DataW.weights, ht]; exact List.mem_cons_self ..)
    rw [hb] at this
    simp only [List.length_map, List.length_range] at this
    omega
end
end Go.Proofs.Ytmlpnjoejdpblaa.L
end
