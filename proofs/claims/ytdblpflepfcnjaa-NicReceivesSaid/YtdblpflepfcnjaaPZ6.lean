import Derived.Test.YtdblpflepfcnjaaPZ1
import Derived.Test.YtdblpflepfcnjaaPXWMore
import Derived.Test.YtdblpflepfcnjaaPXWLast
import Derived.Test.YtdblpflepfcnjaaPZ4
import Derived.Test.YtdblpflepfcnjaaPXWWords
import Derived.ProofKit
import Derived.Deep.Slices
import Derived.ChangeSame
section
-- Ytdblpflepfcnjaa: written by a program for this claim (several laws of one seat at once)
namespace Go.Proofs.Ytdblpflepfcnjaa.Q
open Go.RowKit Go.Proofs.YtdblpflepfcnjaaW.PrintWords Go.Proofs.YtdblpflepfcnjaaW.PrintLast Go.Proofs.YtdblpflepfcnjaaW.PrintMore
attribute [local go_sem] max2_int min2_int max_two min_two max_three min_three max_four min_four   -- for this text's walks alone
set_option linter.unusedVariables false
set_option linter.unusedSimpArgs false

mutual
def drawbridgeref01_Put.l0 : Nat → Int → Int → Bool → List Int → Int → Option (List Int)
  | 0, _, _, _, _, _ => none
  | k + 1, x0, x1, x2, x7, x8 => if x8 < x1 then (drawbridgeref01_Put.j1 k x0 x1 x2 x7 x8 (decide (x8 < 8))) else (drawbridgeref01_Put.j1 k x0 x1 x2 x7 x8 false)
def drawbridgeref01_Put.j1 : Nat → Int → Int → Bool → List Int → Int → Bool → Option (List Int)
  | 0, _, _, _, _, _, _ => none
  | k + 1, x0, x1, x2, x7, x8, x16 => if x16 = true then (if 0 ≤ (IntKind.u64.wrap (wrap64 (8 * x8))) then (if x2 = true then ((some (([(shr .u64 x0 (IntKind.u64.wrap (wrap64 (8 * x8)))) % 256] : List Int) : List Int)).bind fun y155 => (if y155.length + x7.length < 140737488355328 then (drawbridgeref01_Put.l0 k x0 x1 x2 (y155 ++ x7) (wrap64 (x8 + 1))) else (none))) else (if x7.length < 140737488355328 then (drawbridgeref01_Put.l0 k x0 x1 x2 (x7 ++ [(shr .u64 x0 (IntKind.u64.wrap (wrap64 (8 * x8)))) % 256]) (wrap64 (x8 + 1))) else (none))) else (none)) else (some x7)
end
def drawbridgeref01_Put.f (k : Nat) (a0 : Int) (a1 : Int) (a2 : Bool) : Option (List Int) := drawbridgeref01_Put.l0 k a0 a1 a2 ([] : List Int) 0
theorem drawbridgeref01_Put.mono_l : ∀ k, (∀ y0 y1 y2 y3 y4, LeO (drawbridgeref01_Put.l0 k y0 y1 y2 y3 y4) (drawbridgeref01_Put.l0 (k + 1) y0 y1 y2 y3 y4)) ∧ (∀ y0 y1 y2 y3 y4 y5, LeO (drawbridgeref01_Put.j1 k y0 y1 y2 y3 y4 y5) (drawbridgeref01_Put.j1 (k + 1) y0 y1 y2 y3 y4 y5))
  | 0 => ⟨fun _ _ _ _ _ r h => by simp [drawbridgeref01_Put.l0] at h, fun _ _ _ _ _ _ r h => by simp [drawbridgeref01_Put.j1] at h⟩
  | k + 1 => by
    obtain ⟨ih0, ih1⟩ := drawbridgeref01_Put.mono_l k
    refine ⟨?_, ?_⟩
    · intro y0 y1 y2 y3 y4
      unfold drawbridgeref01_Put.l0
      repeat' first
      | (with_reducible exact ih0 _ _ _ _ _)
      | (with_reducible exact ih1 _ _ _ _ _ _)
      | (with_reducible exact LeO.refl _)
      | (with_reducible exact LeO.none _)
      | (with_reducible refine LeO.ite ?_ ?_)
      | (with_reducible refine LeO.bind ?_ (fun _ => ?_))
      | exact ih0 _ _ _ _ _
      | exact ih1 _ _ _ _ _ _
      | exact LeO.none _
      | refine LeO.ite ?_ ?_
      | refine LeO.bind ?_ (fun _ => ?_)
    · intro y0 y1 y2 y3 y4 y5
      unfold drawbridgeref01_Put.j1
      repeat' first
      | (with_reducible exact ih0 _ _ _ _ _)
      | (with_reducible exact ih1 _ _ _ _ _ _)
      | (with_reducible exact LeO.refl _)
      | (with_reducible exact LeO.none _)
      | (with_reducible refine LeO.ite ?_ ?_)
      | (with_reducible refine LeO.bind ?_ (fun _ => ?_))
      | exact ih0 _ _ _ _ _
      | exact ih1 _ _ _ _ _ _
      | exact LeO.none _
      | refine LeO.ite ?_ ?_
      | refine LeO.bind ?_ (fun _ => ?_)
theorem drawbridgeref01_Put.mono : ∀ a0 a1 a2 k, LeO (drawbridgeref01_Put.f k a0 a1 a2) (drawbridgeref01_Put.f (k + 1) a0 a1 a2) := by
  intro a0 a1 a2 k
  obtain ⟨ih0, ih1⟩ := drawbridgeref01_Put.mono_l k
  unfold drawbridgeref01_Put.f
  repeat' first
      | (with_reducible exact ih0 _ _ _ _ _)
      | (with_reducible exact ih1 _ _ _ _ _ _)
      | (with_reducible exact LeO.refl _)
      | (with_reducible exact LeO.none _)
      | (with_reducible refine LeO.ite ?_ ?_)
      | (with_reducible refine LeO.bind ?_ (fun _ => ?_))
      | exact ih0 _ _ _ _ _
      | exact ih1 _ _ _ _ _ _
      | exact LeO.none _
      | refine LeO.ite ?_ ?_
      | refine LeO.bind ?_ (fun _ => ?_)
set_option maxHeartbeats 8000000 in
set_option maxRecDepth 100000 in
theorem drawbridgeref01_Put.calls (k : Nat) (a0 : Int) (a1 : Int) (a2 : Bool) (r : List Int) (w : World) (h : drawbridgeref01_Put.f k a0 a1 a2 = some r) :
    Calls Try.prog 53 #[.int .u64 a0, .int .i64 a1, .bool a2] w fun e w' => ∃ v0_ : Value, e = .returned (v0_) ∧ Kd.R (Kd.int .u8) 5 w' w.heap.size (fun _ => True) v0_ r ∧ Below w.heap.size w w' := by
  have HB := Aside0.mk (Below.refl w.heap.size w)
  have H : (drawbridgeref01_Put.l0 k a0 a1 a2 ([] : List Int) 0) = some r := h
  clear h
  have H' := Aside0.mk H
  clear H
  go_enter Try.func53, Try.ntmps53
  go_wp2
  go_loopg [7, 8] k (fun kq v7 v8 w' => ∃ (x7_1 : List Int) (x8_1 : Int), v8 = .int .i64 x8_1 ∧ Aside0 (drawbridgeref01_Put.l0 kq a0 a1 a2 x7_1 x8_1 = some r) ∧ Aside0 (kq ≤ k) ∧ Aside0 (Kd.R (Kd.int .u8) 5 w' w.heap.size (fun _ => True) v7 x7_1) ∧ Aside0 (Below w.heap.size w w'))
  case atStart => exact ⟨(([] : List Int)), (0), (by first | rfl | (simp; done) | (simp [*]; done)), H', ⟨Nat.le_refl _⟩, ⟨by first | exact Kd.R_nil _ _ _ _ _ | exact Kd.N_nil _ _ _ _ _ | exact Kd.V_nil _ _ _ _ _ | exact Kd.Q_nil _ _ _ _ _ | exact Kd.S_nil _ _ _ _ _⟩, ⟨by repeat (first | (with_reducible first | exact HB.out | apply below_alloc | apply pw_below_drewN | apply below_drew1) | exact HB.out)⟩⟩
  case round =>
    clear H'
    try clear p2
    obtain ⟨x7_1, x8_1, rfl, HA, HK1, HO_7, HB⟩ := hrel
    cases gk with
    | zero => exact absurd HA.out (by simp [drawbridgeref01_Put.l0])
    | succ k1 =>
      have H := HA.out
      clear HA
      simp only [drawbridgeref01_Put.l0] at H
      have HC4 := Aside0.mk H
      clear H
      go_upto_region 3 with (fail)
      go_cut [16] (fun v16 wc => ∃ (kq : Nat) (x16_3 : Bool), v16 = .bool x16_3 ∧ Aside0 (drawbridgeref01_Put.j1 kq a0 a1 a2 x7_1 x8_1 x16_3 = some r) ∧ Aside0 (kq ≤ k1) ∧ Aside0 (Kd.R (Kd.int .u8) 5 wc w.heap.size (fun _ => True) u7 x7_1) ∧ Aside0 (Below w.heap.size w wc))
      case first =>
        have H := HC4.out
        clear HC4
        by_cases c5 : x8_1 < a1
        · rw [if_pos c5] at H
          have c5b0 : decide (x8_1 < a1) = true := decide_eq_true c5
          clear c5
          (first | rw [c5b0] | (simp only [i64_w, i32_w]; rw [c5b0]) | skip)
          have H' := Aside0.mk H
          clear H
          go_wp2
          go_meet
          case rel => exact ⟨_, (decide (x8_1 < 8)), (by first | rfl | (simp; done) | (simp [*]; done)), H', ⟨by have := HK1.out; first | omega | exact Nat.le_refl _⟩, ⟨by (with_reducible repeat (first | apply Kd.R_alloc | apply Kd.R_drewN | apply Kd.R_drew)); exact HO_7.out⟩, ⟨by repeat (first | (with_reducible first | exact HB.out | apply below_alloc | apply pw_below_drewN | apply below_drew1) | exact HB.out)⟩⟩
        · rw [if_neg c5] at H
          have c5b0 : decide (x8_1 < a1) = false := decide_eq_false c5
          clear c5
          (first | rw [c5b0] | (simp only [i64_w, i32_w]; rw [c5b0]) | skip)
          have H' := Aside0.mk H
          clear H
          go_wp2
          go_meet
          case rel => exact ⟨_, (false), (by first | rfl | (simp; done) | (simp [*]; done)), H', ⟨by have := HK1.out; first | omega | exact Nat.le_refl _⟩, ⟨by (with_reducible repeat (first | apply Kd.R_alloc | apply Kd.R_drewN | apply Kd.R_drew)); exact HO_7.out⟩, ⟨by repeat (first | (with_reducible first | exact HB.out | apply below_alloc | apply pw_below_drewN | apply below_drew1) | exact HB.out)⟩⟩
      case rest =>
        clear HC4
        try clear p2
        try clear c5
        try clear c5b0
        try clear p2
        obtain ⟨kq, x16_3, rfl, HA, HJ3, HO_7, HB⟩ := hcut
        cases kq with
        | zero => exact absurd HA.out (by simp [drawbridgeref01_Put.j1])
        | succ kj3 =>
          have H := HA.out
          clear HA
          simp only [drawbridgeref01_Put.j1] at H
          by_cases c6 : x16_3 = true
          · subst c6
            have H1 : (if 0 ≤ (IntKind.u64.wrap (wrap64 (8 * x8_1))) then (if a2 = true then ((some (([(shr .u64 a0 (IntKind.u64.wrap (wrap64 (8 * x8_1)))) % 256] : List Int) : List Int)).bind fun y155 => (if y155.length + x7_1.length < 140737488355328 then (drawbridgeref01_Put.l0 kj3 a0 a1 a2 (y155 ++ x7_1) (wrap64 (x8_1 + 1))) else (none))) else (if x7_1.length < 140737488355328 then (drawbridgeref01_Put.l0 kj3 a0 a1 a2 (x7_1 ++ [(shr .u64 a0 (IntKind.u64.wrap (wrap64 (8 * x8_1)))) % 256]) (wrap64 (x8_1 + 1))) else (none))) else (none)) = some r := by rw [if_pos rfl] at H; exact H
            clear H
            have H := H1
            clear H1
            obtain ⟨ji7, hji7⟩ : ∃ j_ : Int, (IntKind.u64.wrap (wrap64 (8 * x8_1))) = j_ := ⟨_, rfl⟩
            replace H : (if 0 ≤ (ji7) then (if a2 = true then ((some (([(shr .u64 a0 (ji7)) % 256] : List Int) : List Int)).bind fun y155 => (if y155.length + x7_1.length < 140737488355328 then (drawbridgeref01_Put.l0 kj3 a0 a1 a2 (y155 ++ x7_1) (wrap64 (x8_1 + 1))) else (none))) else (if x7_1.length < 140737488355328 then (drawbridgeref01_Put.l0 kj3 a0 a1 a2 (x7_1 ++ [(shr .u64 a0 (ji7)) % 256]) (wrap64 (x8_1 + 1))) else (none))) else (none)) = some r := by first | (rw [hji7] at H; exact H) | (simp only [hji7] at H ⊢; exact H)
            by_cases c8 : 0 ≤ (ji7)
            · rw [if_pos c8] at H
              have c8b0 := eq_true c8
              have c8b1 : decide (0 ≤ (ji7)) = true := decide_eq_true c8
              clear c8
              obtain ⟨ji9, hji9⟩ : ∃ j_ : Int, (shr .u64 a0 (ji7)) = j_ := ⟨_, rfl⟩
              replace H : (if a2 = true then ((some (([(ji9) % 256] : List Int) : List Int)).bind fun y155 => (if y155.length + x7_1.length < 140737488355328 then (drawbridgeref01_Put.l0 kj3 a0 a1 a2 (y155 ++ x7_1) (wrap64 (x8_1 + 1))) else (none))) else (if x7_1.length < 140737488355328 then (drawbridgeref01_Put.l0 kj3 a0 a1 a2 (x7_1 ++ [(ji9) % 256]) (wrap64 (x8_1 + 1))) else (none))) = some r := by first | (rw [hji9] at H; exact H) | (simp only [hji9] at H ⊢; exact H)
              have hji9_ : (a0 / 2 ^ min (ji7).toNat 64) = ji9 := hji9
              have hji9z : (ji7) ≤ 64 → (a0 / 2 ^ (ji7).toNat) = ji9 := shr_small hji9
              by_cases c10 : a2 = true
              · subst c10
                have H1 : ((some (([(ji9) % 256] : List Int) : List Int)).bind fun y155 => (if y155.length + x7_1.length < 140737488355328 then (drawbridgeref01_Put.l0 kj3 a0 a1 true (y155 ++ x7_1) (wrap64 (x8_1 + 1))) else (none))) = some r := by rw [if_pos rfl] at H; exact H
                clear H
                have H := H1
                clear H1
                obtain ⟨y155, hy155⟩ : ∃ y_ : List Int, y_ = (([(ji9) % 256] : List Int)) := ⟨_, rfl⟩
                replace H : (if y155.length + x7_1.length < 140737488355328 then (drawbridgeref01_Put.l0 kj3 a0 a1 true (y155 ++ x7_1) (wrap64 (x8_1 + 1))) else (none)) = some r := by first | (rw [hy155]; with_reducible exact H) | (have H2_ := (Option.bind_some _ _).symm.trans H; rw [hy155]; with_reducible exact H2_) | (have H2_ := (Option.bind_some _ _).symm.trans H; with_reducible exact H2_) | with_reducible exact H | (rw [hy155]; exact H) | exact H
                have Ny155 := Aside0.mk hy155
                clear hy155
                by_cases c11 : y155.length + x7_1.length < 140737488355328
                · rw [if_pos c11] at H
                  have LMc11 := Aside0.mk c11
                  clear c11
                  obtain ⟨y158, hy158⟩ : ∃ y_ : List Int, y_ = (y155 ++ x7_1) := ⟨_, rfl⟩
                  replace H : (drawbridgeref01_Put.l0 kj3 a0 a1 true y158 (wrap64 (x8_1 + 1))) = some r := by first | (rw [hy158]; with_reducible exact H) | (have H2_ := (Option.bind_some _ _).symm.trans H; rw [hy158]; with_reducible exact H2_) | (have H2_ := (Option.bind_some _ _).symm.trans H; with_reducible exact H2_) | with_reducible exact H | (rw [hy158]; exact H) | exact H
                  have Ny158 := Aside0.mk hy158
                  clear hy158
                  have H' := Aside0.mk H
                  clear H
                  go_wp2_with (first | ((with_reducible refine gate_dst (N := 27) rfl ?_); refine Kd.R_lit (Kd.int .u8) _ 5 ?hg (N := 27) ?hd (xs := ([(ji9) % 256] : List Int)) (inner := [.int .u8 ((ji9) % 256)]) (ok := fun _ => True) (okp := fun _ => True) ?hr ?hp (fun _ hk => hk) trivial (Below.refl _ _) (Nat.le_refl _) (by simp) ?_; (case hd => rfl); (case hg => rfl); (case hr => first | (go_simp; done) | (go_simp; rfl)); (case hp => exact (Reps.one (show Kd.M (Kd.int .u8) _ _ _ ((ji9) % 256) [.int .u8 ((ji9) % 256)] from rfl) (Reps.none _ _))); intro v156 w12 ho13 hb hg_ hnew_; clear hg_ hnew_; (first | rw [← Ny155.out] at ho13 | (simp only [Int.reduceToNat] at ho13; rw [← Ny155.out] at ho13)); have n0_ := Aside0.mk (Kd.R_elder' (by (with_reducible repeat (first | apply Kd.R_alloc | apply Kd.R_drewN | apply Kd.R_drew)); exact HO_7.out) (Kd.R_base ho13) hb); have n1_ := Aside0.mk (Kd.R_lower (Kd.R_new' ho13 (Kd.R_lt (by (with_reducible repeat (first | apply Kd.R_alloc | apply Kd.R_drewN | apply Kd.R_drew)); exact HO_7.out))) (below_size (by repeat (first | (with_reducible first | exact HB.out | apply below_alloc | apply pw_below_drewN | apply below_drew1) | exact HB.out)))); have n2_ := Aside0.mk (below_step (by repeat (first | (with_reducible first | exact HB.out | apply below_alloc | apply pw_below_drewN | apply below_drew1) | exact HB.out)) hb); clear HO_7; clear HB; have HO_7 := n0_; have HO157 := n1_; have HB := n2_; clear n0_ n1_ n2_; clear hb ho13; obtain ⟨Ao15, co15, eo15⟩ := Kd.R_slice HO_7.out; subst eo15) | ((with_reducible refine gate_builtin (b := .append) (xs := #[.tmp 27, .tmp 28]) rfl ?_); at_builtin; refine Kd.R_append_rows (Kd.int .u8) (w0 := w) w.heap.size rfl (.tmp 27) (.tmp 28) 23 5 (.int .u8 0) 1 rfl Try.underlying23 info5 rfl (by decide) (by omega) v156 y155 x7_1 _ _ _ (fun k_ => some k_ ≠ (.slice Ao15 x7_1.length co15 : Value).ownBlock) (fun _ => False) rfl rfl ?aO ?aR (fun _ _ h => h) (fun _ h => h.elim) ?aF ?aB ?aS ?aL ?_; (case aR => repeat (first | exact (Kd.R_reads' HO_7.out).2.2 | (with_reducible refine Kd.C_alloc ?_ _) | (with_reducible refine Kd.C_drewN ?_ _) | (with_reducible refine Kd.C_drew ?_))); (case aB => exact (by repeat (first | (with_reducible first | exact HB.out | apply below_alloc | apply pw_below_drewN | apply below_drew1) | exact HB.out))); (case aF => exact (fun k_ hk => Kd.fresh' (Kd.R_lt (by (with_reducible repeat (first | apply Kd.R_alloc | apply Kd.R_drewN | apply Kd.R_drew)); exact HO_7.out)) k_ hk)); (case aO => exact (by (with_reducible repeat (first | apply Kd.R_alloc | apply Kd.R_drewN | apply Kd.R_drew)); exact Kd.R_mono HO157.out (fun _ hk => hk.2))); (case aS => exact (below_size (by repeat (first | (with_reducible first | exact HB.out | apply below_alloc | apply pw_below_drewN | apply below_drew1) | exact HB.out)))); (case aL => have := LMc11.out; omega); intro v159 w14 ho hb hg hat; rw [← Ny158.out] at ho; have n0_ := Aside0.mk (Kd.R_after (ok := (fun _ => True)) (by (with_reducible repeat (first | apply Kd.R_alloc | apply Kd.R_drewN | apply Kd.R_drew)); exact HO_7.out) hg hat); have n1_ := Aside0.mk (hb); have n2_ := Aside0.mk (ho); clear HO_7; clear HB; clear HO157; have HO_7 := n0_; have HB := n1_; have HO160 := n2_; clear n0_ n1_ n2_; clear ho hb hg hat))
                  go_roundg kj3
                  case measure => have := HK1.out; have := HJ3.out; omega
                  case rel => exact ⟨(y158), (wrap64 (x8_1 + 1)), (by first | rfl | (simp; done) | (simp [*]; done)), H', ⟨by have := HK1.out; have := HJ3.out; omega⟩, ⟨by (with_reducible repeat (first | apply Kd.R_alloc | apply Kd.R_drewN | apply Kd.R_drew)); exact Kd.R_mono HO160.out (fun _ hk => trivial)⟩, ⟨by repeat (first | (with_reducible first | exact HB.out | apply below_alloc | apply pw_below_drewN | apply below_drew1) | exact HB.out)⟩⟩
                · rw [if_neg c11] at H
                  exact absurd H (by simp)
              · replace c10 := Bool.eq_false_iff.mpr c10
                subst c10
                have H1 : (if x7_1.length < 140737488355328 then (drawbridgeref01_Put.l0 kj3 a0 a1 false (x7_1 ++ [(ji9) % 256]) (wrap64 (x8_1 + 1))) else (none)) = some r := by rw [if_neg (show ¬ (false = true) by decide)] at H; exact H
                clear H
                have H := H1
                clear H1
                by_cases c16 : x7_1.length < 140737488355328
                · rw [if_pos c16] at H
                  have LMc16 := Aside0.mk c16
                  clear c16
                  obtain ⟨y161, hy161⟩ : ∃ y_ : List Int, y_ = (x7_1 ++ [(ji9) % 256]) := ⟨_, rfl⟩
                  replace H : (drawbridgeref01_Put.l0 kj3 a0 a1 false y161 (wrap64 (x8_1 + 1))) = some r := by first | (rw [hy161]; with_reducible exact H) | (have H2_ := (Option.bind_some _ _).symm.trans H; rw [hy161]; with_reducible exact H2_) | (have H2_ := (Option.bind_some _ _).symm.trans H; with_reducible exact H2_) | with_reducible exact H | (rw [hy161]; exact H) | exact H
                  have Ny161 := Aside0.mk hy161
                  clear hy161
                  have H' := Aside0.mk H
                  clear H
                  go_wp2_with (first | ((with_reducible refine gate_builtin (b := .append) (xs := #[.tmp 30, .tmp 32]) rfl ?_); at_builtin; refine Kd.R_append (Kd.int .u8) (w0 := w) w.heap.size rfl (.tmp 30) (.tmp 32) 23 5 (.int .u8 0) 1 rfl Try.underlying23 info5 rfl (by decide) (by omega) u7 x7_1 ((ji9) % 256) [.int .u8 ((ji9) % 256)] (fun _ => True) (fun _ => False) rfl rfl ?aP (fun _ hk => hk.elim) ?aF ?aO ?aB ?aS ?aL ?_; (case aP => exact rfl); (case aB => exact (by repeat (first | (with_reducible first | exact HB.out | apply below_alloc | apply pw_below_drewN | apply below_drew1) | exact HB.out))); (case aF => exact (fun _ _ => trivial)); (case aO => exact (by (with_reducible repeat (first | apply Kd.R_alloc | apply Kd.R_drewN | apply Kd.R_drew)); exact HO_7.out)); (case aS => exact (below_size (by repeat (first | (with_reducible first | exact HB.out | apply below_alloc | apply pw_below_drewN | apply below_drew1) | exact HB.out)))); (case aL => have := LMc16.out; omega); intro v162 w17 ho hb hg hat; rw [← Ny161.out] at ho; have n0_ := Aside0.mk (hb); have n1_ := Aside0.mk (ho); clear HB; clear HO_7; have HB := n0_; have HO163 := n1_; clear n0_ n1_; clear ho hb hg hat))
                  go_roundg kj3
                  case measure => have := HK1.out; have := HJ3.out; omega
                  case rel => exact ⟨(y161), (wrap64 (x8_1 + 1)), (by first | rfl | (simp; done) | (simp [*]; done)), H', ⟨by have := HK1.out; have := HJ3.out; omega⟩, ⟨by (with_reducible repeat (first | apply Kd.R_alloc | apply Kd.R_drewN | apply Kd.R_drew)); exact HO163.out⟩, ⟨by repeat (first | (with_reducible first | exact HB.out | apply below_alloc | apply pw_below_drewN | apply below_drew1) | exact HB.out)⟩⟩
                · rw [if_neg c16] at H
                  exact absurd H (by simp)
            · rw [if_neg c8] at H
              exact absurd H (by simp)
          · replace c6 := Bool.eq_false_iff.mpr c6
            subst c6
            have H1 : (some x7_1) = some r := by rw [if_neg (show ¬ (false = true) by decide)] at H; exact H
            clear H
            have H := H1
            clear H1
            obtain rfl := Option.some.inj H
            go_wp2
            go_ret
            exact ⟨_, by first | rfl | (simp [errW_none, errW_some] <;> rfl) | (simp [*, errW_none, errW_some] <;> rfl), by (with_reducible repeat (first | apply Kd.R_alloc | apply Kd.R_drewN | apply Kd.R_drew)); exact HO_7.out, by repeat (first | (with_reducible first | exact HB.out | apply below_alloc | apply pw_below_drewN | apply below_drew1) | exact HB.out)⟩

end Go.Proofs.Ytdblpflepfcnjaa.Q
end
section
/- Shifts of 64 bits. -/
set_option linter.unusedVariables false
namespace Go.Proofs.Ytdblpflepfcnjaa.Q
open Go.RowKit Go.Proofs.YtdblpflepfcnjaaW.PrintWords Go.Proofs.YtdblpflepfcnjaaW.PrintLast Go.Proofs.YtdblpflepfcnjaaW.PrintMore Go.Proofs.Ytdblpflepfcnjaa.L
theorem shr_u64 (x : Int) (n : Nat) (h : n ≤ 64) : shr .u64 x (n : Int) = x / 2 ^ n := by
  unfold shr
  rw [Int.toNat_natCast, show IntKind.u64.bits = 64 from rfl, Nat.min_eq_left h]

end Go.Proofs.Ytdblpflepfcnjaa.Q
end
section
/- The reference's Put (layer 1): a number's bytes. -/
set_option linter.unusedVariables false
namespace Go.Proofs.Ytdblpflepfcnjaa.Q
open Go.RowKit Go.Proofs.YtdblpflepfcnjaaW.PrintWords Go.Proofs.YtdblpflepfcnjaaW.PrintLast Go.Proofs.YtdblpflepfcnjaaW.PrintMore Go.Proofs.Ytdblpflepfcnjaa.L
theorem refput_loop (x : Int) (n : Int) (big : Bool) (hn : -9223372036854775808 ≤ n ∧ n ≤ 9223372036854775807) (d : Nat) : ∀ (k i : Nat), i ≤ putN n → putN n - i = d → 2 * d + 2 ≤ k →
    drawbridgeref01_Put.l0 k x n big (if big then (putL x i).reverse else putL x i) (i : Int) = some (putB x n big) := by
  have hN : (putN n : Int) = if n ≤ 0 then 0 else if 8 < n then 8 else n := by unfold putN; (repeat' split) <;> omega
  induction d with
  | zero =>
    intro k i hi hd hk
    obtain ⟨k, rfl⟩ : ∃ m, k = m + 2 := ⟨k - 2, by omega⟩
    have e : i = putN n := by omega
    simp only [drawbridgeref01_Put.l0, drawbridgeref01_Put.j1]
    have hx8 : (i : Int) < n → decide ((i : Int) < 8) = false := fun h => decide_eq_false (by split at hN <;> (try split at hN) <;> omega)
    by_cases hlt : (i : Int) < n
    · rw [if_pos hlt, hx8 hlt, if_neg (by decide), e]; rfl
    · rw [if_neg hlt, if_neg (by decide), e]; rfl
  | succ d ih =>
    intro k i hi hd hk
    obtain ⟨k, rfl⟩ : ∃ m, k = m + 2 := ⟨k - 2, by omega⟩
    have hlt : (i : Int) < n := by split at hN <;> (try split at hN) <;> omega
    have h8 : (i : Int) < 8 := by have := putN_le n; omega
    simp only [drawbridgeref01_Put.l0, drawbridgeref01_Put.j1]
    rw [if_pos hlt, decide_eq_true h8, if_pos rfl]
    have e8 : wrap64 (8 * (i : Int)) = ((8 * i : Nat) : Int) := by rw [w64 (by omega) (by omega)]; omega
    have ei : wrap64 ((i : Int) + 1) = ((i + 1 : Nat) : Int) := by rw [w64 (by omega) (by omega)]; omega
    rw [e8, u64_i64 (by omega) (by omega), if_pos (by omega), shr_u64 _ _ (by omega), ei]
    have es : putL x (i + 1) = putL x i ++ [x / 2 ^ (8 * i) % 256] := by
      unfold putL; rw [List.range_succ, List.map_append]; rfl
    have hl : (putL x i).length = i := putL_length x i
    have := ih k (i + 1) (by omega) (by omega) (by omega)
    cases big
    · simp only [Bool.false_eq_true, if_false] at this ⊢
      rw [hl, if_pos (by omega), ← es]
      exact this
    · simp only [if_true, Option.bind_some] at this ⊢
      rw [List.length_reverse, hl, if_pos (by simp; omega)]
      have er : [x / 2 ^ (8 * i) % 256] ++ (putL x i).reverse = (putL x (i + 1)).reverse := by rw [es, List.reverse_append]; rfl
      rw [er]
      exact this
theorem refput_tells (k : Nat) (hk : 18 ≤ k) (x n : Int) (big : Bool) (hn : -9223372036854775808 ≤ n ∧ n ≤ 9223372036854775807) : drawbridgeref01_Put.f k x n big = some (putB x n big) := by
  unfold drawbridgeref01_Put.f
  have h := refput_loop x n big hn (putN n) k 0 (Nat.zero_le _) (by omega) (by have := putN_le n; omega)
  have e : (if big then (putL x 0).reverse else putL x 0) = [] := by cases big <;> rfl
  rw [e] at h
  exact h
end Go.Proofs.Ytdblpflepfcnjaa.Q
end
section
/- How long a controller sends: plain laws. -/
namespace Go.Proofs.Ytdblpflepfcnjaa.Q
open Go.RowKit Go.Proofs.YtdblpflepfcnjaaW.PrintWords Go.Proofs.YtdblpflepfcnjaaW.PrintLast Go.Proofs.YtdblpflepfcnjaaW.PrintMore Go.Proofs.Ytdblpflepfcnjaa.L
set_option linter.unusedVariables false
set_option linter.unusedSimpArgs false
theorem odd_all : ∀ n ∈ List.range 256, (Go.bits .and .u8 (n : Int) 1 == 1) = ((n : Int) % 2 == 1) := by decide +kernel
theorem odd_is (x : Int) (h : byte x) : (Go.bits .and .u8 x 1 == 1) = (x % 2 == 1) := by
  obtain ⟨n, rfl⟩ := Int.eq_ofNat_of_zero_le h.1
  exact odd_all n (List.mem_range.2 (by have := h.2; omega))
theorem getD_byte (d : List Int) (h : ∀ z ∈ d, byte z) (i : Nat) : byte (d.getD i 0) := by
  rw [List.getD_eq_getElem?_getD]
  cases e : d[i]? with
  | none => exact ⟨Int.le_refl 0, by decide⟩
  | some x => exact h x (List.mem_of_getElem? e)
end Go.Proofs.Ytdblpflepfcnjaa.Q
end
section
/- Arguments that lie in memory, opened: a row of whole numbers, a row of elements of whatever kind, as lists. -/
namespace Go.Proofs.Ytdblpflepfcnjaa.L
open Go.RowKit Go.Proofs.YtdblpflepfcnjaaW.PrintWords Go.Proofs.YtdblpflepfcnjaaW.PrintLast Go.Proofs.YtdblpflepfcnjaaW.PrintMore Go.ChangeShapes Go.WideShapes Go.Deep
section
variable {H : Type} {enc : TypeId × Value → H} {P : Program} {w : World} {base : Nat} {spare : Nat → Bool} {held : Bool} {n : Nat} {t e : TypeId} {c : Value} {x : DataW H × List MemPlace}
theorem leaf_int {k : IntKind} (ht : P.underlying t = some (.int k)) (h : DataW.trod enc P w base spare held n t [c] = some x) : ∃ a, c = .int k a ∧ (Lit.int k a).wf = true := by
  obtain ⟨a, he, _, hw⟩ := DataW.trod_int ht h
  exact ⟨a, by injection he, hw⟩
theorem leaf_rows {α : Type} {d : Kd α} (Q : α → Prop) (ht : P.underlying t = some (.slice e)) (hsz : P.cellsOf e = d.sz)
    (hel : ∀ (n : Nat) (cs : List Value) (y : DataW H × List MemPlace), cs.length = P.cellsOf e → DataW.trod enc P w base spare held n e cs = some y → ∃ s, d.K w s cs ∧ Q s)
    (h : DataW.trod enc P w base spare held n t [c] = some x) : ∃ (A : Option Addr) (cap : Nat) (l : List α), c = .slice A l.length cap ∧ d.C w A l.length l ∧ l.length ≤ cap ∧ l.length ≤ maxLen ∧ ∀ s ∈ l, Q s := by
  rcases open_slice ht h with ⟨hcs, _⟩ | ⟨a, len, cap, m, n', D, Pl, hcs, _, hl, hm, hmm, hx, hi⟩
  · injection hcs with hc
    exact ⟨none, 0, [], hc, ⟨rfl, Nat.zero_le _, fun hn => absurd hn (Nat.lt_irrefl 0)⟩, Nat.le_refl _, Nat.zero_le _, fun s hs => by cases hs⟩
  · have hc : c = .slice (some a) len cap := by injection hcs
    have hlm : len ≤ m := by rw [hmm]; split <;> omega
    have key : ∀ i, i < len → ∃ s cs, cs.length = d.sz ∧ d.K w s cs ∧ Q s ∧ ∀ j u, cs[j]? = some u → w.cell? (a.add (i * d.sz + j)) = some u := by
      intro i hil
      obtain ⟨cs', hcells, htr⟩ := hi i (by omega)
      rw [hsz] at hcells
      obtain ⟨_, hcl, hat⟩ := World.cells?_some hcells
      obtain ⟨s, hk, hq⟩ := hel n' cs' _ (by rw [hsz]; exact hcl) htr
      refine ⟨s, cs', hcl, hk, hq, fun j u hu => ?_⟩
      have hj : j < cs'.length := (List.getElem?_eq_some_iff.1 hu).1
      have := hat j (by omega)
      rw [Go.Deep.add_add] at this
      rw [this]; exact hu
    have ex : ∃ l : List α, l.length = len ∧ ∀ i s, l[i]? = some s → Q s ∧ ∃ cs, cs.length = d.sz ∧ d.K w s cs ∧ ∀ j u, cs[j]? = some u → w.cell? (a.add (i * d.sz + j)) = some u := by
      clear hi hc hl hm hmm hlm hcs hx
      induction len with
      | zero => exact ⟨[], rfl, fun i s hs => by simp at hs⟩
      | succ len ih =>
        obtain ⟨l, hll, hl⟩ := ih (fun i hil => key i (by omega))
        obtain ⟨s, cs, h1, h2, h3, h4⟩ := key len (by omega)
        refine ⟨l ++ [s], by simp [hll], fun i z hz => ?_⟩
        rcases Nat.lt_or_ge i l.length with hlt | hge
        · rw [List.getElem?_append_left hlt] at hz
          exact hl i z hz
        · have hi : i = len := by
            have := (List.getElem?_eq_some_iff.1 hz).1
            rw [List.length_append, List.length_singleton] at this
            omega
          subst hi
          rw [List.getElem?_append_right hge, hll, Nat.sub_self] at hz
          have : s = z := by simpa using hz
          subst this
          exact ⟨h3, cs, h1, h2, h4⟩
    obtain ⟨l, hll, hl'⟩ := ex
    refine ⟨some a, cap, l, by rw [hll]; exact hc, ⟨rfl, by rw [hll]; unfold maxLen at hm; omega, fun _ => ⟨a, rfl, fun j p hj => ?_⟩⟩, by omega, by omega, fun s hs => ?_⟩
    · obtain ⟨_, cs, h1, h2, h4⟩ := hl' j p hj
      exact ⟨cs, h1, h2, h4⟩
    · obtain ⟨i, hi'⟩ := List.getElem?_of_mem hs
      exact (hl' i s hi').1
theorem leaf_ints {k : IntKind} (ht : P.underlying t = some (.slice e)) (he : P.underlying e = some (.int k)) (hc1 : P.cellsOf e = 1) (h : DataW.trod enc P w base spare held n t [c] = some x) :
    ∃ (A : Option Addr) (cap : Nat) (l : List Int), c = .slice A l.length cap ∧ Kd.C (Kd.int k) w A l.length l ∧ l.length ≤ cap ∧ l.length ≤ maxLen ∧ ∀ z ∈ l, (Lit.int k z).wf = true :=
  leaf_rows (d := Kd.int k) (fun z => (Lit.int k z).wf = true) ht hc1 (fun n cs y hcs hy => by
    obtain ⟨a, rfl, _, hw⟩ := DataW.trod_int he hy
    exact ⟨a, rfl, hw⟩) h
/-- A struct's field, as a reading of its own cells. -/
theorem leaf_field {fs : Array Field} {cs : List Value} (ht : P.underlying t = some (.struct fs)) (h : DataW.trod enc P w base spare held n t cs = some x) :
    ∃ m, ∀ (i : Nat) (f : Field), fs[i]? = some f → ∃ y, DataW.trod enc P w base spare held m f.type ((cs.drop f.offset).take (P.cellsOf f.type)) = some y := by
  obtain ⟨xs, m, _, _, _, hlen, hg⟩ := DataW.trod_struct ht h
  refine ⟨m, fun i f hf => ?_⟩
  have hi : i < fs.size := (Array.getElem?_eq_some_iff.1 hf).1
  exact ⟨_, (hg i f hf).trans (List.getElem?_eq_getElem (by omega))⟩
end
end Go.Proofs.Ytdblpflepfcnjaa.L
end
