-- Ytncdhfigfbhohaa: written by a program for this claim (several laws of one seat at once)
import Derived.Test.YtncdhfigfbhohaaQx0
namespace Go.Proofs.Ytncdhfigfbhohaa.Q
open Go.RowKit Go.Proofs.YtncdhfigfbhohaaW.PrintWords Go.Proofs.YtncdhfigfbhohaaW.PrintLast Go.Proofs.YtncdhfigfbhohaaW.PrintMore
attribute [local go_sem] max2_int min2_int max_two min_two max_three min_three max_four min_four   -- for this text's walks alone
set_option linter.unusedVariables false
set_option linter.unusedSimpArgs false

/-! ### drawbridgeref05_value: function 25 -/
def drawbridgeref05_value.j0 : Nat → Int → Bool → Int → Int → Int → Int → Int → Int → Int → Int → Int → Int → Int → Int → Int → Int → Int → Int → Int → Option (Int × Bool)
  | 0, _, _, _, _, _, _, _, _, _, _, _, _, _, _, _, _, _, _, _ => none
  | k + 1, x6, x95, x104000, x104001, x104002, x104003, x104004, x104005, x104006, x104007, x104008, x104009, x104010, x104011, x104012, x104013, x104014, x104015, x104016 => if x95 = true then (some (x104016, true)) else (if x6 = 3857 then (some (0, true)) else (if x6 = 3858 then (some (0, true)) else (if x6 = 3859 then (some (0, true)) else (if x6 = 3860 then (some (0, true)) else (some (0, false))))))
def drawbridgeref05_value.f (k : Nat) (a0_0 : Int) (a0_1 : Int) (a0_2 : Int) (a0_3 : Int) (a0_4 : Int) (a0_5 : Int) (a0_6 : Int) (a0_7 : Int) (a0_8 : Int) (a0_9 : Int) (a0_10 : Int) (a0_11 : Int) (a0_12 : Int) (a0_13 : Int) (a0_14 : Int) (a0_15 : Int) (a0_16 : Int) (a1 : Int) : Option (Int × Bool) := if a1 = 768 then (some (Go.bits .or .u64 (Go.bits .andNot .u64 a0_0 64424509440) 42949672960, true)) else (if a1 = 256 then (some (Go.bits .or .u64 (Go.bits .and .u64 a0_0 786722) 8589934592, true)) else (if a1 = 769 then (some (9223372036856090885, true)) else (if a1 = 770 then (some (a0_1, true)) else (if a1 = 771 then (some (a0_2, true)) else (if a1 = 772 then (some (a0_3, true)) else (if a1 = 836 then (some (a0_4, true)) else (if a1 = 260 then (some (Go.bits .and .u64 a0_3 a0_2, true)) else (if a1 = 324 then (some (Go.bits .and .u64 a0_4 a0_2, true)) else (if a1 = 773 then (some (a0_5, true)) else (if a1 = 261 then (some (a0_10, true)) else (if a1 = 832 then (some (a0_6, true)) else (if a1 = 320 then (some (a0_11, true)) else (if a1 = 833 then (some (a0_7, true)) else (if a1 = 321 then (some (a0_12, true)) else (if a1 = 834 then (some (a0_8, true)) else (if a1 = 322 then (some (a0_13, true)) else (if a1 = 835 then (some (a0_9, true)) else (if a1 = 323 then (some (a0_14, true)) else (if a1 = 384 then (some (a0_15, true)) else (if a1 = 2816 then (drawbridgeref05_value.j0 k a1 (a1 == 2816) a0_0 a0_1 a0_2 a0_3 a0_4 a0_5 a0_6 a0_7 a0_8 a0_9 a0_10 a0_11 a0_12 a0_13 a0_14 a0_15 a0_16) else (drawbridgeref05_value.j0 k a1 (a1 == 3072) a0_0 a0_1 a0_2 a0_3 a0_4 a0_5 a0_6 a0_7 a0_8 a0_9 a0_10 a0_11 a0_12 a0_13 a0_14 a0_15 a0_16)))))))))))))))))))))
theorem drawbridgeref05_value.mono_l : ∀ k, (∀ y0 y1 y2 y3 y4 y5 y6 y7 y8 y9 y10 y11 y12 y13 y14 y15 y16 y17 y18, LeO (drawbridgeref05_value.j0 k y0 y1 y2 y3 y4 y5 y6 y7 y8 y9 y10 y11 y12 y13 y14 y15 y16 y17 y18) (drawbridgeref05_value.j0 (k + 1) y0 y1 y2 y3 y4 y5 y6 y7 y8 y9 y10 y11 y12 y13 y14 y15 y16 y17 y18))
  | 0 => fun _ _ _ _ _ _ _ _ _ _ _ _ _ _ _ _ _ _ _ r h => by simp [drawbridgeref05_value.j0] at h
  | k + 1 => by
    have ih0 := drawbridgeref05_value.mono_l k
    · intro y0 y1 y2 y3 y4 y5 y6 y7 y8 y9 y10 y11 y12 y13 y14 y15 y16 y17 y18
      unfold drawbridgeref05_value.j0
      repeat' first
      | (with_reducible exact ih0 _ _ _ _ _ _ _ _ _ _ _ _ _ _ _ _ _ _ _)
      | (with_reducible exact LeO.refl _)
      | (with_reducible exact LeO.none _)
      | (with_reducible refine LeO.ite ?_ ?_)
      | (with_reducible refine LeO.bind ?_ (fun _ => ?_))
      | exact ih0 _ _ _ _ _ _ _ _ _ _ _ _ _ _ _ _ _ _ _
      | exact LeO.none _
      | refine LeO.ite ?_ ?_
      | refine LeO.bind ?_ (fun _ => ?_)
theorem drawbridgeref05_value.mono : ∀ a0 a1 a2 a3 a4 a5 a6 a7 a8 a9 a10 a11 a12 a13 a14 a15 a16 a17 k, LeO (drawbridgeref05_value.f k a0 a1 a2 a3 a4 a5 a6 a7 a8 a9 a10 a11 a12 a13 a14 a15 a16 a17) (drawbridgeref05_value.f (k + 1) a0 a1 a2 a3 a4 a5 a6 a7 a8 a9 a10 a11 a12 a13 a14 a15 a16 a17) := by
  intro a0 a1 a2 a3 a4 a5 a6 a7 a8 a9 a10 a11 a12 a13 a14 a15 a16 a17 k
  have ih0 := drawbridgeref05_value.mono_l k
  unfold drawbridgeref05_value.f
  repeat' first
      | (with_reducible exact ih0 _ _ _ _ _ _ _ _ _ _ _ _ _ _ _ _ _ _ _)
      | (with_reducible exact LeO.refl _)
      | (with_reducible exact LeO.none _)
      | (with_reducible refine LeO.ite ?_ ?_)
      | (with_reducible refine LeO.bind ?_ (fun _ => ?_))
      | exact ih0 _ _ _ _ _ _ _ _ _ _ _ _ _ _ _ _ _ _ _
      | exact LeO.none _
      | refine LeO.ite ?_ ?_
      | refine LeO.bind ?_ (fun _ => ?_)
set_option maxHeartbeats 8000000 in
set_option maxRecDepth 100000 in
theorem drawbridgeref05_value.calls (k : Nat) (a0_0 : Int) (a0_1 : Int) (a0_2 : Int) (a0_3 : Int) (a0_4 : Int) (a0_5 : Int) (a0_6 : Int) (a0_7 : Int) (a0_8 : Int) (a0_9 : Int) (a0_10 : Int) (a0_11 : Int) (a0_12 : Int) (a0_13 : Int) (a0_14 : Int) (a0_15 : Int) (a0_16 : Int) (a1 : Int) (r1 : Int) (r2 : Bool) (w : World) (h : drawbridgeref05_value.f k a0_0 a0_1 a0_2 a0_3 a0_4 a0_5 a0_6 a0_7 a0_8 a0_9 a0_10 a0_11 a0_12 a0_13 a0_14 a0_15 a0_16 a1 = some (r1, r2)) :
    Calls Try.prog 25 #[.agg #[.int .u64 a0_0, .int .u64 a0_1, .int .u64 a0_2, .int .u64 a0_3, .int .u64 a0_4, .int .u64 a0_5, .int .u64 a0_6, .int .u64 a0_7, .int .u64 a0_8, .int .u64 a0_9, .int .u64 a0_10, .int .u64 a0_11, .int .u64 a0_12, .int .u64 a0_13, .int .u64 a0_14, .int .u64 a0_15, .int .u64 a0_16], .int .i64 a1] w fun e w' => e = .returned (.tuple #[.int .u64 r1, .bool r2]) ∧ Below w.heap.size w w' := by
  have hu24 := Try.underlying24
  have HB := Aside0.mk (Below.refl w.heap.size w)
  have H : (if a1 = 768 then (some (Go.bits .or .u64 (Go.bits .andNot .u64 a0_0 64424509440) 42949672960, true)) else (if a1 = 256 then (some (Go.bits .or .u64 (Go.bits .and .u64 a0_0 786722) 8589934592, true)) else (if a1 = 769 then (some (9223372036856090885, true)) else (if a1 = 770 then (some (a0_1, true)) else (if a1 = 771 then (some (a0_2, true)) else (if a1 = 772 then (some (a0_3, true)) else (if a1 = 836 then (some (a0_4, true)) else (if a1 = 260 then (some (Go.bits .and .u64 a0_3 a0_2, true)) else (if a1 = 324 then (some (Go.bits .and .u64 a0_4 a0_2, true)) else (if a1 = 773 then (some (a0_5, true)) else (if a1 = 261 then (some (a0_10, true)) else (if a1 = 832 then (some (a0_6, true)) else (if a1 = 320 then (some (a0_11, true)) else (if a1 = 833 then (some (a0_7, true)) else (if a1 = 321 then (some (a0_12, true)) else (if a1 = 834 then (some (a0_8, true)) else (if a1 = 322 then (some (a0_13, true)) else (if a1 = 835 then (some (a0_9, true)) else (if a1 = 323 then (some (a0_14, true)) else (if a1 = 384 then (some (a0_15, true)) else (if a1 = 2816 then (drawbridgeref05_value.j0 k a1 (a1 == 2816) a0_0 a0_1 a0_2 a0_3 a0_4 a0_5 a0_6 a0_7 a0_8 a0_9 a0_10 a0_11 a0_12 a0_13 a0_14 a0_15 a0_16) else (drawbridgeref05_value.j0 k a1 (a1 == 3072) a0_0 a0_1 a0_2 a0_3 a0_4 a0_5 a0_6 a0_7 a0_8 a0_9 a0_10 a0_11 a0_12 a0_13 a0_14 a0_15 a0_16)))))))))))))))))))))) = some (r1, r2) := h
  clear h
  by_cases c3 : a1 = 768
  · rw [if_pos c3] at H
    have c3b0 : (a1 == 768) = true := beq_iff_eq.mpr c3
    have c3b1 : (a1 != 768) = false := bne_eq_false_iff_eq.mpr c3
    clear c3
    simp only [Option.some.injEq, Prod.mk.injEq] at H
    obtain ⟨rfl, rfl⟩ := H
    go_enter Try.func25, Try.ntmps25
    go_wp2_with (first | ((with_reducible refine gate_dst (N := 2) rfl ?_); refine box_event ?hg (N := 2) ?hd (cs := #[.int .u64 a0_0, .int .u64 a0_1, .int .u64 a0_2, .int .u64 a0_3, .int .u64 a0_4, .int .u64 a0_5, .int .u64 a0_6, .int .u64 a0_7, .int .u64 a0_8, .int .u64 a0_9, .int .u64 a0_10, .int .u64 a0_11, .int .u64 a0_12, .int .u64 a0_13, .int .u64 a0_14, .int .u64 a0_15, .int .u64 a0_16]) (t := 24) ?hr ?_; (case hd => rfl); (case hg => rfl); (case hr => first | (go_simp; done) | (go_simp; rfl)); intro gb103 hg w4 hbox hb; have n0_ := Aside0.mk (below_step (by repeat (first | (with_reducible first | exact HB.out | apply below_alloc | apply pw_below_drewN | apply below_drew1) | exact HB.out)) hb); have n1_ := Aside0.mk (hbox); have n2_ := Aside0.mk ((by rw [hg]; exact (below_size (by repeat (first | (with_reducible first | exact HB.out | apply below_alloc | apply pw_below_drewN | apply below_drew1) | exact HB.out))) : w.heap.size ≤ gb103)); have n3_ := Aside0.mk ((by rw [hg]; exact (below_size (by repeat (first | (with_reducible first | exact HB.out | apply below_alloc | apply pw_below_drewN | apply below_drew1) | exact HB.out))) : w.heap.size ≤ gb103)); clear HB; have HB := n0_; have BK103 := n1_; have GW103 := n2_; have GE103 := n3_; clear n0_ n1_ n2_ n3_; clear hb hbox hg; have hcz5_0 : w4.cell? ⟨gb103, 0, none⟩ = some (.int .u64 a0_0) := (blk_cell BK103.out 0).trans rfl; have hcz5_1 : w4.cell? ⟨gb103, 1, none⟩ = some (.int .u64 a0_1) := (blk_cell BK103.out 1).trans rfl; have hcz5_2 : w4.cell? ⟨gb103, 2, none⟩ = some (.int .u64 a0_2) := (blk_cell BK103.out 2).trans rfl; have hcz5_3 : w4.cell? ⟨gb103, 3, none⟩ = some (.int .u64 a0_3) := (blk_cell BK103.out 3).trans rfl; have hcz5_4 : w4.cell? ⟨gb103, 4, none⟩ = some (.int .u64 a0_4) := (blk_cell BK103.out 4).trans rfl; have hcz5_5 : w4.cell? ⟨gb103, 5, none⟩ = some (.int .u64 a0_5) := (blk_cell BK103.out 5).trans rfl; have hcz5_6 : w4.cell? ⟨gb103, 6, none⟩ = some (.int .u64 a0_6) := (blk_cell BK103.out 6).trans rfl; have hcz5_7 : w4.cell? ⟨gb103, 7, none⟩ = some (.int .u64 a0_7) := (blk_cell BK103.out 7).trans rfl; have hcz5_8 : w4.cell? ⟨gb103, 8, none⟩ = some (.int .u64 a0_8) := (blk_cell BK103.out 8).trans rfl; have hcz5_9 : w4.cell? ⟨gb103, 9, none⟩ = some (.int .u64 a0_9) := (blk_cell BK103.out 9).trans rfl; have hcz5_10 : w4.cell? ⟨gb103, 10, none⟩ = some (.int .u64 a0_10) := (blk_cell BK103.out 10).trans rfl; have hcz5_11 : w4.cell? ⟨gb103, 11, none⟩ = some (.int .u64 a0_11) := (blk_cell BK103.out 11).trans rfl; have hcz5_12 : w4.cell? ⟨gb103, 12, none⟩ = some (.int .u64 a0_12) := (blk_cell BK103.out 12).trans rfl; have hcz5_13 : w4.cell? ⟨gb103, 13, none⟩ = some (.int .u64 a0_13) := (blk_cell BK103.out 13).trans rfl; have hcz5_14 : w4.cell? ⟨gb103, 14, none⟩ = some (.int .u64 a0_14) := (blk_cell BK103.out 14).trans rfl; have hcz5_15 : w4.cell? ⟨gb103, 15, none⟩ = some (.int .u64 a0_15) := (blk_cell BK103.out 15).trans rfl; have hcz5_16 : w4.cell? ⟨gb103, 16, none⟩ = some (.int .u64 a0_16) := (blk_cell BK103.out 16).trans rfl; have hfz5_0 := blk_frozen BK103.out 0; have hfz5_1 := blk_frozen BK103.out 1; have hfz5_2 := blk_frozen BK103.out 2; have hfz5_3 := blk_frozen BK103.out 3; have hfz5_4 := blk_frozen BK103.out 4; have hfz5_5 := blk_frozen BK103.out 5; have hfz5_6 := blk_frozen BK103.out 6; have hfz5_7 := blk_frozen BK103.out 7; have hfz5_8 := blk_frozen BK103.out 8; have hfz5_9 := blk_frozen BK103.out 9; have hfz5_10 := blk_frozen BK103.out 10; have hfz5_11 := blk_frozen BK103.out 11; have hfz5_12 := blk_frozen BK103.out 12; have hfz5_13 := blk_frozen BK103.out 13; have hfz5_14 := blk_frozen BK103.out 14; have hfz5_15 := blk_frozen BK103.out 15; have hfz5_16 := blk_frozen BK103.out 16))
    go_ret2
    exact ⟨by first | rfl | (simp [errW_none, errW_some] <;> rfl) | (simp [*, errW_none, errW_some] <;> rfl), by repeat (first | (with_reducible first | exact HB.out | apply below_alloc | apply pw_below_drewN | apply below_drew1 | refine below_set ?_ GE103.out) | exact HB.out)⟩
  · rw [if_neg c3] at H
    have c3b0 : (a1 == 768) = false := beq_eq_false_iff_ne.mpr c3
    have c3b1 : (a1 != 768) = true := bne_iff_ne.mpr c3
    by_cases c6 : a1 = 256
    · rw [if_pos c6] at H
      have c6b0 : (a1 == 256) = true := beq_iff_eq.mpr c6
      have c6b1 : (a1 != 256) = false := bne_eq_false_iff_eq.mpr c6
      clear c6
      simp only [Option.some.injEq, Prod.mk.injEq] at H
      obtain ⟨rfl, rfl⟩ := H
      go_enter Try.func25, Try.ntmps25
      go_wp2_with (first | ((with_reducible refine gate_dst (N := 2) rfl ?_); refine box_event ?hg (N := 2) ?hd (cs := #[.int .u64 a0_0, .int .u64 a0_1, .int .u64 a0_2, .int .u64 a0_3, .int .u64 a0_4, .int .u64 a0_5, .int .u64 a0_6, .int .u64 a0_7, .int .u64 a0_8, .int .u64 a0_9, .int .u64 a0_10, .int .u64 a0_11, .int .u64 a0_12, .int .u64 a0_13, .int .u64 a0_14, .int .u64 a0_15, .int .u64 a0_16]) (t := 24) ?hr ?_; (case hd => rfl); (case hg => rfl); (case hr => first | (go_simp; done) | (go_simp; rfl)); intro gb103 hg w7 hbox hb; have n0_ := Aside0.mk (below_step (by repeat (first | (with_reducible first | exact HB.out | apply below_alloc | apply pw_below_drewN | apply below_drew1) | exact HB.out)) hb); have n1_ := Aside0.mk (hbox); have n2_ := Aside0.mk ((by rw [hg]; exact (below_size (by repeat (first | (with_reducible first | exact HB.out | apply below_alloc | apply pw_below_drewN | apply below_drew1) | exact HB.out))) : w.heap.size ≤ gb103)); have n3_ := Aside0.mk ((by rw [hg]; exact (below_size (by repeat (first | (with_reducible first | exact HB.out | apply below_alloc | apply pw_below_drewN | apply below_drew1) | exact HB.out))) : w.heap.size ≤ gb103)); clear HB; have HB := n0_; have BK103 := n1_; have GW103 := n2_; have GE103 := n3_; clear n0_ n1_ n2_ n3_; clear hb hbox hg; have hcz8_0 : w7.cell? ⟨gb103, 0, none⟩ = some (.int .u64 a0_0) := (blk_cell BK103.out 0).trans rfl; have hcz8_1 : w7.cell? ⟨gb103, 1, none⟩ = some (.int .u64 a0_1) := (blk_cell BK103.out 1).trans rfl; have hcz8_2 : w7.cell? ⟨gb103, 2, none⟩ = some (.int .u64 a0_2) := (blk_cell BK103.out 2).trans rfl; have hcz8_3 : w7.cell? ⟨gb103, 3, none⟩ = some (.int .u64 a0_3) := (blk_cell BK103.out 3).trans rfl; have hcz8_4 : w7.cell? ⟨gb103, 4, none⟩ = some (.int .u64 a0_4) := (blk_cell BK103.out 4).trans rfl; have hcz8_5 : w7.cell? ⟨gb103, 5, none⟩ = some (.int .u64 a0_5) := (blk_cell BK103.out 5).trans rfl; have hcz8_6 : w7.cell? ⟨gb103, 6, none⟩ = some (.int .u64 a0_6) := (blk_cell BK103.out 6).trans rfl; have hcz8_7 : w7.cell? ⟨gb103, 7, none⟩ = some (.int .u64 a0_7) := (blk_cell BK103.out 7).trans rfl; have hcz8_8 : w7.cell? ⟨gb103, 8, none⟩ = some (.int .u64 a0_8) := (blk_cell BK103.out 8).trans rfl; have hcz8_9 : w7.cell? ⟨gb103, 9, none⟩ = some (.int .u64 a0_9) := (blk_cell BK103.out 9).trans rfl; have hcz8_10 : w7.cell? ⟨gb103, 10, none⟩ = some (.int .u64 a0_10) := (blk_cell BK103.out 10).trans rfl; have hcz8_11 : w7.cell? ⟨gb103, 11, none⟩ = some (.int .u64 a0_11) := (blk_cell BK103.out 11).trans rfl; have hcz8_12 : w7.cell? ⟨gb103, 12, none⟩ = some (.int .u64 a0_12) := (blk_cell BK103.out 12).trans rfl; have hcz8_13 : w7.cell? ⟨gb103, 13, none⟩ = some (.int .u64 a0_13) := (blk_cell BK103.out 13).trans rfl; have hcz8_14 : w7.cell? ⟨gb103, 14, none⟩ = some (.int .u64 a0_14) := (blk_cell BK103.out 14).trans rfl; have hcz8_15 : w7.cell? ⟨gb103, 15, none⟩ = some (.int .u64 a0_15) := (blk_cell BK103.out 15).trans rfl; have hcz8_16 : w7.cell? ⟨gb103, 16, none⟩ = some (.int .u64 a0_16) := (blk_cell BK103.out 16).trans rfl; have hfz8_0 := blk_frozen BK103.out 0; have hfz8_1 := blk_frozen BK103.out 1; have hfz8_2 := blk_frozen BK103.out 2; have hfz8_3 := blk_frozen BK103.out 3; have hfz8_4 := blk_frozen BK103.out 4; have hfz8_5 := blk_frozen BK103.out 5; have hfz8_6 := blk_frozen BK103.out 6; have hfz8_7 := blk_frozen BK103.out 7; have hfz8_8 := blk_frozen BK103.out 8; have hfz8_9 := blk_frozen BK103.out 9; have hfz8_10 := blk_frozen BK103.out 10; have hfz8_11 := blk_frozen BK103.out 11; have hfz8_12 := blk_frozen BK103.out 12; have hfz8_13 := blk_frozen BK103.out 13; have hfz8_14 := blk_frozen BK103.out 14; have hfz8_15 := blk_frozen BK103.out 15; have hfz8_16 := blk_frozen BK103.out 16))
      go_ret2
      exact ⟨by first | rfl | (simp [errW_none, errW_some] <;> rfl) | (simp [*, errW_none, errW_some] <;> rfl), by repeat (first | (with_reducible first | exact HB.out | apply below_alloc | apply pw_below_drewN | apply below_drew1 | refine below_set ?_ GE103.out) | exact HB.out)⟩
    · rw [if_neg c6] at H
      have c6b0 : (a1 == 256) = false := beq_eq_false_iff_ne.mpr c6
      have c6b1 : (a1 != 256) = true := bne_iff_ne.mpr c6
      by_cases c9 : a1 = 769
      · rw [if_pos c9] at H
        have c9b0 : (a1 == 769) = true := beq_iff_eq.mpr c9
        have c9b1 : (a1 != 769) = false := bne_eq_false_iff_eq.mpr c9
        clear c9
        simp only [Option.some.injEq, Prod.mk.injEq] at H
        obtain ⟨rfl, rfl⟩ := H
        go_enter Try.func25, Try.ntmps25
        go_wp2_with (first | ((with_reducible refine gate_dst (N := 2) rfl ?_); refine box_event ?hg (N := 2) ?hd (cs := #[.int .u64 a0_0, .int .u64 a0_1, .int .u64 a0_2, .int .u64 a0_3, .int .u64 a0_4, .int .u64 a0_5, .int .u64 a0_6, .int .u64 a0_7, .int .u64 a0_8, .int .u64 a0_9, .int .u64 a0_10, .int .u64 a0_11, .int .u64 a0_12, .int .u64 a0_13, .int .u64 a0_14, .int .u64 a0_15, .int .u64 a0_16]) (t := 24) ?hr ?_; (case hd => rfl); (case hg => rfl); (case hr => first | (go_simp; done) | (go_simp; rfl)); intro gb103 hg w10 hbox hb; have n0_ := Aside0.mk (below_step (by repeat (first | (with_reducible first | exact HB.out | apply below_alloc | apply pw_below_drewN | apply below_drew1) | exact HB.out)) hb); have n1_ := Aside0.mk (hbox); have n2_ := Aside0.mk ((by rw [hg]; exact (below_size (by repeat (first | (with_reducible first | exact HB.out | apply below_alloc | apply pw_below_drewN | apply below_drew1) | exact HB.out))) : w.heap.size ≤ gb103)); have n3_ := Aside0.mk ((by rw [hg]; exact (below_size (by repeat (first | (with_reducible first | exact HB.out | apply below_alloc | apply pw_below_drewN | apply below_drew1) | exact HB.out))) : w.heap.size ≤ gb103)); clear HB; have HB := n0_; have BK103 := n1_; have GW103 := n2_; have GE103 := n3_; clear n0_ n1_ n2_ n3_; clear hb hbox hg))
        go_ret2
        exact ⟨by first | rfl | (simp [errW_none, errW_some] <;> rfl) | (simp [*, errW_none, errW_some] <;> rfl), by repeat (first | (with_reducible first | exact HB.out | apply below_alloc | apply pw_below_drewN | apply below_drew1 | refine below_set ?_ GE103.out) | exact HB.out)⟩
      · rw [if_neg c9] at H
        have c9b0 : (a1 == 769) = false := beq_eq_false_iff_ne.mpr c9
        have c9b1 : (a1 != 769) = true := bne_iff_ne.mpr c9
        by_cases c11 : a1 = 770
        · rw [if_pos c11] at H
          have c11b0 : (a1 == 770) = true := beq_iff_eq.mpr c11
          have c11b1 : (a1 != 770) = false := bne_eq_false_iff_eq.mpr c11
          clear c11
          simp only [Option.some.injEq, Prod.mk.injEq] at H
          obtain ⟨rfl, rfl⟩ := H
          go_enter Try.func25, Try.ntmps25
          go_wp2_with (first | ((with_reducible refine gate_dst (N := 2) rfl ?_); refine box_event ?hg (N := 2) ?hd (cs := #[.int .u64 a0_0, .int .u64 a0_1, .int .u64 a0_2, .int .u64 a0_3, .int .u64 a0_4, .int .u64 a0_5, .int .u64 a0_6, .int .u64 a0_7, .int .u64 a0_8, .int .u64 a0_9, .int .u64 a0_10, .int .u64 a0_11, .int .u64 a0_12, .int .u64 a0_13, .int .u64 a0_14, .int .u64 a0_15, .int .u64 a0_16]) (t := 24) ?hr ?_; (case hd => rfl); (case hg => rfl); (case hr => first | (go_simp; done) | (go_simp; rfl)); intro gb103 hg w12 hbox hb; have n0_ := Aside0.mk (below_step (by repeat (first | (with_reducible first | exact HB.out | apply below_alloc | apply pw_below_drewN | apply below_drew1) | exact HB.out)) hb); have n1_ := Aside0.mk (hbox); have n2_ := Aside0.mk ((by rw [hg]; exact (below_size (by repeat (first | (with_reducible first | exact HB.out | apply below_alloc | apply pw_below_drewN | apply below_drew1) | exact HB.out))) : w.heap.size ≤ gb103)); have n3_ := Aside0.mk ((by rw [hg]; exact (below_size (by repeat (first | (with_reducible first | exact HB.out | apply below_alloc | apply pw_below_drewN | apply below_drew1) | exact HB.out))) : w.heap.size ≤ gb103)); clear HB; have HB := n0_; have BK103 := n1_; have GW103 := n2_; have GE103 := n3_; clear n0_ n1_ n2_ n3_; clear hb hbox hg; have hcz13_0 : w12.cell? ⟨gb103, 0, none⟩ = some (.int .u64 a0_0) := (blk_cell BK103.out 0).trans rfl; have hcz13_1 : w12.cell? ⟨gb103, 1, none⟩ = some (.int .u64 a0_1) := (blk_cell BK103.out 1).trans rfl; have hcz13_2 : w12.cell? ⟨gb103, 2, none⟩ = some (.int .u64 a0_2) := (blk_cell BK103.out 2).trans rfl; have hcz13_3 : w12.cell? ⟨gb103, 3, none⟩ = some (.int .u64 a0_3) := (blk_cell BK103.out 3).trans rfl; have hcz13_4 : w12.cell? ⟨gb103, 4, none⟩ = some (.int .u64 a0_4) := (blk_cell BK103.out 4).trans rfl; have hcz13_5 : w12.cell? ⟨gb103, 5, none⟩ = some (.int .u64 a0_5) := (blk_cell BK103.out 5).trans rfl; have hcz13_6 : w12.cell? ⟨gb103, 6, none⟩ = some (.int .u64 a0_6) := (blk_cell BK103.out 6).trans rfl; have hcz13_7 : w12.cell? ⟨gb103, 7, none⟩ = some (.int .u64 a0_7) := (blk_cell BK103.out 7).trans rfl; have hcz13_8 : w12.cell? ⟨gb103, 8, none⟩ = some (.int .u64 a0_8) := (blk_cell BK103.out 8).trans rfl; have hcz13_9 : w12.cell? ⟨gb103, 9, none⟩ = some (.int .u64 a0_9) := (blk_cell BK103.out 9).trans rfl; have hcz13_10 : w12.cell? ⟨gb103, 10, none⟩ = some (.int .u64 a0_10) := (blk_cell BK103.out 10).trans rfl; have hcz13_11 : w12.cell? ⟨gb103, 11, none⟩ = some (.int .u64 a0_11) := (blk_cell BK103.out 11).trans rfl; have hcz13_12 : w12.cell? ⟨gb103, 12, none⟩ = some (.int .u64 a0_12) := (blk_cell BK103.out 12).trans rfl; have hcz13_13 : w12.cell? ⟨gb103, 13, none⟩ = some (.int .u64 a0_13) := (blk_cell BK103.out 13).trans rfl; have hcz13_14 : w12.cell? ⟨gb103, 14, none⟩ = some (.int .u64 a0_14) := (blk_cell BK103.out 14).trans rfl; have hcz13_15 : w12.cell? ⟨gb103, 15, none⟩ = some (.int .u64 a0_15) := (blk_cell BK103.out 15).trans rfl; have hcz13_16 : w12.cell? ⟨gb103, 16, none⟩ = some (.int .u64 a0_16) := (blk_cell BK103.out 16).trans rfl; have hfz13_0 := blk_frozen BK103.out 0; have hfz13_1 := blk_frozen BK103.out 1; have hfz13_2 := blk_frozen BK103.out 2; have hfz13_3 := blk_frozen BK103.out 3; have hfz13_4 := blk_frozen BK103.out 4; have hfz13_5 := blk_frozen BK103.out 5; have hfz13_6 := blk_frozen BK103.out 6; have hfz13_7 := blk_frozen BK103.out 7; have hfz13_8 := blk_frozen BK103.out 8; have hfz13_9 := blk_frozen BK103.out 9; have hfz13_10 := blk_frozen BK103.out 10; have hfz13_11 := blk_frozen BK103.out 11; have hfz13_12 := blk_frozen BK103.out 12; have hfz13_13 := blk_frozen BK103.out 13; have hfz13_14 := blk_frozen BK103.out 14; have hfz13_15 := blk_frozen BK103.out 15; have hfz13_16 := blk_frozen BK103.out 16))
          go_ret2
          exact ⟨by first | rfl | (simp [errW_none, errW_some] <;> rfl) | (simp [*, errW_none, errW_some] <;> rfl), by repeat (first | (with_reducible first | exact HB.out | apply below_alloc | apply pw_below_drewN | apply below_drew1 | refine below_set ?_ GE103.out) | exact HB.out)⟩
        · rw [if_neg c11] at H
          have c11b0 : (a1 == 770) = false := beq_eq_false_iff_ne.mpr c11
          have c11b1 : (a1 != 770) = true := bne_iff_ne.mpr c11
          by_cases c14 : a1 = 771
          · rw [if_pos c14] at H
            have c14b0 : (a1 == 771) = true := beq_iff_eq.mpr c14
            have c14b1 : (a1 != 771) = false := bne_eq_false_iff_eq.mpr c14
            clear c14
            simp only [Option.some.injEq, Prod.mk.injEq] at H
            obtain ⟨rfl, rfl⟩ := H
            go_enter Try.func25, Try.ntmps25
            go_wp2_with (first | ((with_reducible refine gate_dst (N := 2) rfl ?_); refine box_event ?hg (N := 2) ?hd (cs := #[.int .u64 a0_0, .int .u64 a0_1, .int .u64 a0_2, .int .u64 a0_3, .int .u64 a0_4, .int .u64 a0_5, .int .u64 a0_6, .int .u64 a0_7, .int .u64 a0_8, .int .u64 a0_9, .int .u64 a0_10, .int .u64 a0_11, .int .u64 a0_12, .int .u64 a0_13, .int .u64 a0_14, .int .u64 a0_15, .int .u64 a0_16]) (t := 24) ?hr ?_; (case hd => rfl); (case hg => rfl); (case hr => first | (go_simp; done) | (go_simp; rfl)); intro gb103 hg w15 hbox hb; have n0_ := Aside0.mk (below_step (by repeat (first | (with_reducible first | exact HB.out | apply below_alloc | apply pw_below_drewN | apply below_drew1) | exact HB.out)) hb); have n1_ := Aside0.mk (hbox); have n2_ := Aside0.mk ((by rw [hg]; exact (below_size (by repeat (first | (with_reducible first | exact HB.out | apply below_alloc | apply pw_below_drewN | apply below_drew1) | exact HB.out))) : w.heap.size ≤ gb103)); have n3_ := Aside0.mk ((by rw [hg]; exact (below_size (by repeat (first | (with_reducible first | exact HB.out | apply below_alloc | apply pw_below_drewN | apply below_drew1) | exact HB.out))) : w.heap.size ≤ gb103)); clear HB; have HB := n0_; have BK103 := n1_; have GW103 := n2_; have GE103 := n3_; clear n0_ n1_ n2_ n3_; clear hb hbox hg; have hcz16_0 : w15.cell? ⟨gb103, 0, none⟩ = some (.int .u64 a0_0) := (blk_cell BK103.out 0).trans rfl; have hcz16_1 : w15.cell? ⟨gb103, 1, none⟩ = some (.int .u64 a0_1) := (blk_cell BK103.out 1).trans rfl; have hcz16_2 : w15.cell? ⟨gb103, 2, none⟩ = some (.int .u64 a0_2) := (blk_cell BK103.out 2).trans rfl; have hcz16_3 : w15.cell? ⟨gb103, 3, none⟩ = some (.int .u64 a0_3) := (blk_cell BK103.out 3).trans rfl; have hcz16_4 : w15.cell? ⟨gb103, 4, none⟩ = some (.int .u64 a0_4) := (blk_cell BK103.out 4).trans rfl; have hcz16_5 : w15.cell? ⟨gb103, 5, none⟩ = some (.int .u64 a0_5) := (blk_cell BK103.out 5).trans rfl; have hcz16_6 : w15.cell? ⟨gb103, 6, none⟩ = some (.int .u64 a0_6) := (blk_cell BK103.out 6).trans rfl; have hcz16_7 : w15.cell? ⟨gb103, 7, none⟩ = some (.int .u64 a0_7) := (blk_cell BK103.out 7).trans rfl; have hcz16_8 : w15.cell? ⟨gb103, 8, none⟩ = some (.int .u64 a0_8) := (blk_cell BK103.out 8).trans rfl; have hcz16_9 : w15.cell? ⟨gb103, 9, none⟩ = some (.int .u64 a0_9) := (blk_cell BK103.out 9).trans rfl; have hcz16_10 : w15.cell? ⟨gb103, 10, none⟩ = some (.int .u64 a0_10) := (blk_cell BK103.out 10).trans rfl; have hcz16_11 : w15.cell? ⟨gb103, 11, none⟩ = some (.int .u64 a0_11) := (blk_cell BK103.out 11).trans rfl; have hcz16_12 : w15.cell? ⟨gb103, 12, none⟩ = some (.int .u64 a0_12) := (blk_cell BK103.out 12).trans rfl; have hcz16_13 : w15.cell? ⟨gb103, 13, none⟩ = some (.int .u64 a0_13) := (blk_cell BK103.out 13).trans rfl; have hcz16_14 : w15.cell? ⟨gb103, 14, none⟩ = some (.int .u64 a0_14) := (blk_cell BK103.out 14).trans rfl; have hcz16_15 : w15.cell? ⟨gb103, 15, none⟩ = some (.int .u64 a0_15) := (blk_cell BK103.out 15).trans rfl; have hcz16_16 : w15.cell? ⟨gb103, 16, none⟩ = some (.int .u64 a0_16) := (blk_cell BK103.out 16).trans rfl; have hfz16_0 := blk_frozen BK103.out 0; have hfz16_1 := blk_frozen BK103.out 1; have hfz16_2 := blk_frozen BK103.out 2; have hfz16_3 := blk_frozen BK103.out 3; have hfz16_4 := blk_frozen BK103.out 4; have hfz16_5 := blk_frozen BK103.out 5; have hfz16_6 := blk_frozen BK103.out 6; have hfz16_7 := blk_frozen BK103.out 7; have hfz16_8 := blk_frozen BK103.out 8; have hfz16_9 := blk_frozen BK103.out 9; have hfz16_10 := blk_frozen BK103.out 10; have hfz16_11 := blk_frozen BK103.out 11; have hfz16_12 := blk_frozen BK103.out 12; have hfz16_13 := blk_frozen BK103.out 13; have hfz16_14 := blk_frozen BK103.out 14; have hfz16_15 := blk_frozen BK103.out 15; have hfz16_16 := blk_frozen BK103.out 16))
            go_ret2
            exact ⟨by first | rfl | (simp [errW_none, errW_some] <;> rfl) | (simp [*, errW_none, errW_some] <;> rfl), by repeat (first | (with_reducible first | exact HB.out | apply below_alloc | apply pw_below_drewN | apply below_drew1 | refine below_set ?_ GE103.out) | exact HB.out)⟩
          · rw [if_neg c14] at H
            have c14b0 : (a1 == 771) = false := beq_eq_false_iff_ne.mpr c14
            have c14b1 : (a1 != 771) = true := bne_iff_ne.mpr c14
            by_cases c17 : a1 = 772
            · rw [if_pos c17] at H
              have c17b0 : (a1 == 772) = true := beq_iff_eq.mpr c17
              have c17b1 : (a1 != 772) = false := bne_eq_false_iff_eq.mpr c17
              clear c17
              simp only [Option.some.injEq, Prod.mk.injEq] at H
              obtain ⟨rfl, rfl⟩ := H
              go_enter Try.func25, Try.ntmps25
              go_wp2_with (first | ((with_reducible refine gate_dst (N := 2) rfl ?_); refine box_event ?hg (N := 2) ?hd (cs := #[.int .u64 a0_0, .int .u64 a0_1, .int .u64 a0_2, .int .u64 a0_3, .int .u64 a0_4, .int .u64 a0_5, .int .u64 a0_6, .int .u64 a0_7, .int .u64 a0_8, .int .u64 a0_9, .int .u64 a0_10, .int .u64 a0_11, .int .u64 a0_12, .int .u64 a0_13, .int .u64 a0_14, .int .u64 a0_15, .int .u64 a0_16]) (t := 24) ?hr ?_; (case hd => rfl); (case hg => rfl); (case hr => first | (go_simp; done) | (go_simp; rfl)); intro gb103 hg w18 hbox hb; have n0_ := Aside0.mk (below_step (by repeat (first | (with_reducible first | exact HB.out | apply below_alloc | apply pw_below_drewN | apply below_drew1) | exact HB.out)) hb); have n1_ := Aside0.mk (hbox); have n2_ := Aside0.mk ((by rw [hg]; exact (below_size (by repeat (first | (with_reducible first | exact HB.out | apply below_alloc | apply pw_below_drewN | apply below_drew1) | exact HB.out))) : w.heap.size ≤ gb103)); have n3_ := Aside0.mk ((by rw [hg]; exact (below_size (by repeat (first | (with_reducible first | exact HB.out | apply below_alloc | apply pw_below_drewN | apply below_drew1) | exact HB.out))) : w.heap.size ≤ gb103)); clear HB; have HB := n0_; have BK103 := n1_; have GW103 := n2_; have GE103 := n3_; clear n0_ n1_ n2_ n3_; clear hb hbox hg; have hcz19_0 : w18.cell? ⟨gb103, 0, none⟩ = some (.int .u64 a0_0) := (blk_cell BK103.out 0).trans rfl; have hcz19_1 : w18.cell? ⟨gb103, 1, none⟩ = some (.int .u64 a0_1) := (blk_cell BK103.out 1).trans rfl; have hcz19_2 : w18.cell? ⟨gb103, 2, none⟩ = some (.int .u64 a0_2) := (blk_cell BK103.out 2).trans rfl; have hcz19_3 : w18.cell? ⟨gb103, 3, none⟩ = some (.int .u64 a0_3) := (blk_cell BK103.out 3).trans rfl; have hcz19_4 : w18.cell? ⟨gb103, 4, none⟩ = some (.int .u64 a0_4) := (blk_cell BK103.out 4).trans rfl; have hcz19_5 : w18.cell? ⟨gb103, 5, none⟩ = some (.int .u64 a0_5) := (blk_cell BK103.out 5).trans rfl; have hcz19_6 : w18.cell? ⟨gb103, 6, none⟩ = some (.int .u64 a0_6) := (blk_cell BK103.out 6).trans rfl; have hcz19_7 : w18.cell? ⟨gb103, 7, none⟩ = some (.int .u64 a0_7) := (blk_cell BK103.out 7).trans rfl; have hcz19_8 : w18.cell? ⟨gb103, 8, none⟩ = some (.int .u64 a0_8) := (blk_cell BK103.out 8).trans rfl; have hcz19_9 : w18.cell? ⟨gb103, 9, none⟩ = some (.int .u64 a0_9) := (blk_cell BK103.out 9).trans rfl; have hcz19_10 : w18.cell? ⟨gb103, 10, none⟩ = some (.int .u64 a0_10) := (blk_cell BK103.out 10).trans rfl; have hcz19_11 : w18.cell? ⟨gb103, 11, none⟩ = some (.int .u64 a0_11) := (blk_cell BK103.out 11).trans rfl; have hcz19_12 : w18.cell? ⟨gb103, 12, none⟩ = some (.int .u64 a0_12) := (blk_cell BK103.out 12).trans rfl; have hcz19_13 : w18.cell? ⟨gb103, 13, none⟩ = some (.int .u64 a0_13) := (blk_cell BK103.out 13).trans rfl; have hcz19_14 : w18.cell? ⟨gb103, 14, none⟩ = some (.int .u64 a0_14) := (blk_cell BK103.out 14).trans rfl; have hcz19_15 : w18.cell? ⟨gb103, 15, none⟩ = some (.int .u64 a0_15) := (blk_cell BK103.out 15).trans rfl; have hcz19_16 : w18.cell? ⟨gb103, 16, none⟩ = some (.int .u64 a0_16) := (blk_cell BK103.out 16).trans rfl; have hfz19_0 := blk_frozen BK103.out 0; have hfz19_1 := blk_frozen BK103.out 1; have hfz19_2 := blk_frozen BK103.out 2; have hfz19_3 := blk_frozen BK103.out 3; have hfz19_4 := blk_frozen BK103.out 4; have hfz19_5 := blk_frozen BK103.out 5; have hfz19_6 := blk_frozen BK103.out 6; have hfz19_7 := blk_frozen BK103.out 7; have hfz19_8 := blk_frozen BK103.out 8; have hfz19_9 := blk_frozen BK103.out 9; have hfz19_10 := blk_frozen BK103.out 10; have hfz19_11 := blk_frozen BK103.out 11; have hfz19_12 := blk_frozen BK103.out 12; have hfz19_13 := blk_frozen BK103.out 13; have hfz19_14 := blk_frozen BK103.out 14; have hfz19_15 := blk_frozen BK103.out 15; have hfz19_16 := blk_frozen BK103.out 16))
              go_ret2
              exact ⟨by first | rfl | (simp [errW_none, errW_some] <;> rfl) | (simp [*, errW_none, errW_some] <;> rfl), by repeat (first | (with_reducible first | exact HB.out | apply below_alloc | apply pw_below_drewN | apply below_drew1 | refine below_set ?_ GE103.out) | exact HB.out)⟩
            · rw [if_neg c17] at H
              have c17b0 : (a1 == 772) = false := beq_eq_false_iff_ne.mpr c17
              have c17b1 : (a1 != 772) = true := bne_iff_ne.mpr c17
              by_cases c20 : a1 = 836
              · rw [if_pos c20] at H
                have c20b0 : (a1 == 836) = true := beq_iff_eq.mpr c20
                have c20b1 : (a1 != 836) = false := bne_eq_false_iff_eq.mpr c20
                clear c20
                simp only [Option.some.injEq, Prod.mk.injEq] at H
                obtain ⟨rfl, rfl⟩ := H
                go_enter Try.func25, Try.ntmps25
                go_wp2_with (first | ((with_reducible refine gate_dst (N := 2) rfl ?_); refine box_event ?hg (N := 2) ?hd (cs := #[.int .u64 a0_0, .int .u64 a0_1, .int .u64 a0_2, .int .u64 a0_3, .int .u64 a0_4, .int .u64 a0_5, .int .u64 a0_6, .int .u64 a0_7, .int .u64 a0_8, .int .u64 a0_9, .int .u64 a0_10, .int .u64 a0_11, .int .u64 a0_12, .int .u64 a0_13, .int .u64 a0_14, .int .u64 a0_15, .int .u64 a0_16]) (t := 24) ?hr ?_; (case hd => rfl); (case hg => rfl); (case hr => first | (go_simp; done) | (go_simp; rfl)); intro gb103 hg w21 hbox hb; have n0_ := Aside0.mk (below_step (by repeat (first | (with_reducible first | exact HB.out | apply below_alloc | apply pw_below_drewN | apply below_drew1) | exact HB.out)) hb); have n1_ := Aside0.mk (hbox); have n2_ := Aside0.mk ((by rw [hg]; exact (below_size (by repeat (first | (with_reducible first | exact HB.out | apply below_alloc | apply pw_below_drewN | apply below_drew1) | exact HB.out))) : w.heap.size ≤ gb103)); have n3_ := Aside0.mk ((by rw [hg]; exact (below_size (by repeat (first | (with_reducible first | exact HB.out | apply below_alloc | apply pw_below_drewN | apply below_drew1) | exact HB.out))) : w.heap.size ≤ gb103)); clear HB; have HB := n0_; have BK103 := n1_; have GW103 := n2_; have GE103 := n3_; clear n0_ n1_ n2_ n3_; clear hb hbox hg; have hcz22_0 : w21.cell? ⟨gb103, 0, none⟩ = some (.int .u64 a0_0) := (blk_cell BK103.out 0).trans rfl; have hcz22_1 : w21.cell? ⟨gb103, 1, none⟩ = some (.int .u64 a0_1) := (blk_cell BK103.out 1).trans rfl; have hcz22_2 : w21.cell? ⟨gb103, 2, none⟩ = some (.int .u64 a0_2) := (blk_cell BK103.out 2).trans rfl; have hcz22_3 : w21.cell? ⟨gb103, 3, none⟩ = some (.int .u64 a0_3) := (blk_cell BK103.out 3).trans rfl; have hcz22_4 : w21.cell? ⟨gb103, 4, none⟩ = some (.int .u64 a0_4) := (blk_cell BK103.out 4).trans rfl; have hcz22_5 : w21.cell? ⟨gb103, 5, none⟩ = some (.int .u64 a0_5) := (blk_cell BK103.out 5).trans rfl; have hcz22_6 : w21.cell? ⟨gb103, 6, none⟩ = some (.int .u64 a0_6) := (blk_cell BK103.out 6).trans rfl; have hcz22_7 : w21.cell? ⟨gb103, 7, none⟩ = some (.int .u64 a0_7) := (blk_cell BK103.out 7).trans rfl; have hcz22_8 : w21.cell? ⟨gb103, 8, none⟩ = some (.int .u64 a0_8) := (blk_cell BK103.out 8).trans rfl; have hcz22_9 : w21.cell? ⟨gb103, 9, none⟩ = some (.int .u64 a0_9) := (blk_cell BK103.out 9).trans rfl; have hcz22_10 : w21.cell? ⟨gb103, 10, none⟩ = some (.int .u64 a0_10) := (blk_cell BK103.out 10).trans rfl; have hcz22_11 : w21.cell? ⟨gb103, 11, none⟩ = some (.int .u64 a0_11) := (blk_cell BK103.out 11).trans rfl; have hcz22_12 : w21.cell? ⟨gb103, 12, none⟩ = some (.int .u64 a0_12) := (blk_cell BK103.out 12).trans rfl; have hcz22_13 : w21.cell? ⟨gb103, 13, none⟩ = some (.int .u64 a0_13) := (blk_cell BK103.out 13).trans rfl; have hcz22_14 : w21.cell? ⟨gb103, 14, none⟩ = some (.int .u64 a0_14) := (blk_cell BK103.out 14).trans rfl; have hcz22_15 : w21.cell? ⟨gb103, 15, none⟩ = some (.int .u64 a0_15) := (blk_cell BK103.out 15).trans rfl; have hcz22_16 : w21.cell? ⟨gb103, 16, none⟩ = some (.int .u64 a0_16) := (blk_cell BK103.out 16).trans rfl; have hfz22_0 := blk_frozen BK103.out 0; have hfz22_1 := blk_frozen BK103.out 1; have hfz22_2 := blk_frozen BK103.out 2; have hfz22_3 := blk_frozen BK103.out 3; have hfz22_4 := blk_frozen BK103.out 4; have hfz22_5 := blk_frozen BK103.out 5; have hfz22_6 := blk_frozen BK103.out 6; have hfz22_7 := blk_frozen BK103.out 7; have hfz22_8 := blk_frozen BK103.out 8; have hfz22_9 := blk_frozen BK103.out 9; have hfz22_10 := blk_frozen BK103.out 10; have hfz22_11 := blk_frozen BK103.out 11; have hfz22_12 := blk_frozen BK103.out 12; have hfz22_13 := blk_frozen BK103.out 13; have hfz22_14 := blk_frozen BK103.out 14; have hfz22_15 := blk_frozen BK103.out 15; have hfz22_16 := blk_frozen BK103.out 16))
                go_ret2
                exact ⟨by first | rfl | (simp [errW_none, errW_some] <;> rfl) | (simp [*, errW_none, errW_some] <;> rfl), by repeat (first | (with_reducible first | exact HB.out | apply below_alloc | apply pw_below_drewN | apply below_drew1 | refine below_set ?_ GE103.out) | exact HB.out)⟩
              · rw [if_neg c20] at H
                have c20b0 : (a1 == 836) = false := beq_eq_false_iff_ne.mpr c20
                have c20b1 : (a1 != 836) = true := bne_iff_ne.mpr c20
                by_cases c23 : a1 = 260
                · rw [if_pos c23] at H
                  have c23b0 : (a1 == 260) = true := beq_iff_eq.mpr c23
                  have c23b1 : (a1 != 260) = false := bne_eq_false_iff_eq.mpr c23
                  clear c23
                  simp only [Option.some.injEq, Prod.mk.injEq] at H
                  obtain ⟨rfl, rfl⟩ := H
                  go_enter Try.func25, Try.ntmps25
                  go_wp2_with (first | ((with_reducible refine gate_dst (N := 2) rfl ?_); refine box_event ?hg (N := 2) ?hd (cs := #[.int .u64 a0_0, .int .u64 a0_1, .int .u64 a0_2, .int .u64 a0_3, .int .u64 a0_4, .int .u64 a0_5, .int .u64 a0_6, .int .u64 a0_7, .int .u64 a0_8, .int .u64 a0_9, .int .u64 a0_10, .int .u64 a0_11, .int .u64 a0_12, .int .u64 a0_13, .int .u64 a0_14, .int .u64 a0_15, .int .u64 a0_16]) (t := 24) ?hr ?_; (case hd => rfl); (case hg => rfl); (case hr => first | (go_simp; done) | (go_simp; rfl)); intro gb103 hg w24 hbox hb; have n0_ := Aside0.mk (below_step (by repeat (first | (with_reducible first | exact HB.out | apply below_alloc | apply pw_below_drewN | apply below_drew1) | exact HB.out)) hb); have n1_ := Aside0.mk (hbox); have n2_ := Aside0.mk ((by rw [hg]; exact (below_size (by repeat (first | (with_reducible first | exact HB.out | apply below_alloc | apply pw_below_drewN | apply below_drew1) | exact HB.out))) : w.heap.size ≤ gb103)); have n3_ := Aside0.mk ((by rw [hg]; exact (below_size (by repeat (first | (with_reducible first | exact HB.out | apply below_alloc | apply pw_below_drewN | apply below_drew1) | exact HB.out))) : w.heap.size ≤ gb103)); clear HB; have HB := n0_; have BK103 := n1_; have GW103 := n2_; have GE103 := n3_; clear n0_ n1_ n2_ n3_; clear hb hbox hg; have hcz25_0 : w24.cell? ⟨gb103, 0, none⟩ = some (.int .u64 a0_0) := (blk_cell BK103.out 0).trans rfl; have hcz25_1 : w24.cell? ⟨gb103, 1, none⟩ = some (.int .u64 a0_1) := (blk_cell BK103.out 1).trans rfl; have hcz25_2 : w24.cell? ⟨gb103, 2, none⟩ = some (.int .u64 a0_2) := (blk_cell BK103.out 2).trans rfl; have hcz25_3 : w24.cell? ⟨gb103, 3, none⟩ = some (.int .u64 a0_3) := (blk_cell BK103.out 3).trans rfl; have hcz25_4 : w24.cell? ⟨gb103, 4, none⟩ = some (.int .u64 a0_4) := (blk_cell BK103.out 4).trans rfl; have hcz25_5 : w24.cell? ⟨gb103, 5, none⟩ = some (.int .u64 a0_5) := (blk_cell BK103.out 5).trans rfl; have hcz25_6 : w24.cell? ⟨gb103, 6, none⟩ = some (.int .u64 a0_6) := (blk_cell BK103.out 6).trans rfl; have hcz25_7 : w24.cell? ⟨gb103, 7, none⟩ = some (.int .u64 a0_7) := (blk_cell BK103.out 7).trans rfl; have hcz25_8 : w24.cell? ⟨gb103, 8, none⟩ = some (.int .u64 a0_8) := (blk_cell BK103.out 8).trans rfl; have hcz25_9 : w24.cell? ⟨gb103, 9, none⟩ = some (.int .u64 a0_9) := (blk_cell BK103.out 9).trans rfl; have hcz25_10 : w24.cell? ⟨gb103, 10, none⟩ = some (.int .u64 a0_10) := (blk_cell BK103.out 10).trans rfl; have hcz25_11 : w24.cell? ⟨gb103, 11, none⟩ = some (.int .u64 a0_11) := (blk_cell BK103.out 11).trans rfl; have hcz25_12 : w24.cell? ⟨gb103, 12, none⟩ = some (.int .u64 a0_12) := (blk_cell BK103.out 12).trans rfl; have hcz25_13 : w24.cell? ⟨gb103, 13, none⟩ = some (.int .u64 a0_13) := (blk_cell BK103.out 13).trans rfl; have hcz25_14 : w24.cell? ⟨gb103, 14, none⟩ = some (.int .u64 a0_14) := (blk_cell BK103.out 14).trans rfl; have hcz25_15 : w24.cell? ⟨gb103, 15, none⟩ = some (.int .u64 a0_15) := (blk_cell BK103.out 15).trans rfl; have hcz25_16 : w24.cell? ⟨gb103, 16, none⟩ = some (.int .u64 a0_16) := (blk_cell BK103.out 16).trans rfl; have hfz25_0 := blk_frozen BK103.out 0; have hfz25_1 := blk_frozen BK103.out 1; have hfz25_2 := blk_frozen BK103.out 2; have hfz25_3 := blk_frozen BK103.out 3; have hfz25_4 := blk_frozen BK103.out 4; have hfz25_5 := blk_frozen BK103.out 5; have hfz25_6 := blk_frozen BK103.out 6; have hfz25_7 := blk_frozen BK103.out 7; have hfz25_8 := blk_frozen BK103.out 8; have hfz25_9 := blk_frozen BK103.out 9; have hfz25_10 := blk_frozen BK103.out 10; have hfz25_11 := blk_frozen BK103.out 11; have hfz25_12 := blk_frozen BK103.out 12; have hfz25_13 := blk_frozen BK103.out 13; have hfz25_14 := blk_frozen BK103.out 14; have hfz25_15 := blk_frozen BK103.out 15; have hfz25_16 := blk_frozen BK103.out 16))
                  go_ret2
                  exact ⟨by first | rfl | (simp [errW_none, errW_some] <;> rfl) | (simp [*, errW_none, errW_some] <;> rfl), by repeat (first | (with_reducible first | exact HB.out | apply below_alloc | apply pw_below_drewN | apply below_drew1 | refine below_set ?_ GE103.out) | exact HB.out)⟩
                · rw [if_neg c23] at H
                  have c23b0 : (a1 == 260) = false := beq_eq_false_iff_ne.mpr c23
                  have c23b1 : (a1 != 260) = true := bne_iff_ne.mpr c23
                  by_cases c26 : a1 = 324
                  · rw [if_pos c26] at H
                    have c26b0 : (a1 == 324) = true := beq_iff_eq.mpr c26
                    have c26b1 : (a1 != 324) = false := bne_eq_false_iff_eq.mpr c26
                    clear c26
                    simp only [Option.some.injEq, Prod.mk.injEq] at H
                    obtain ⟨rfl, rfl⟩ := H
                    go_enter Try.func25, Try.ntmps25
                    go_wp2_with (first | ((with_reducible refine gate_dst (N := 2) rfl ?_); refine box_event ?hg (N := 2) ?hd (cs := #[.int .u64 a0_0, .int .u64 a0_1, .int .u64 a0_2, .int .u64 a0_3, .int .u64 a0_4, .int .u64 a0_5, .int .u64 a0_6, .int .u64 a0_7, .int .u64 a0_8, .int .u64 a0_9, .int .u64 a0_10, .int .u64 a0_11, .int .u64 a0_12, .int .u64 a0_13, .int .u64 a0_14, .int .u64 a0_15, .int .u64 a0_16]) (t := 24) ?hr ?_; (case hd => rfl); (case hg => rfl); (case hr => first | (go_simp; done) | (go_simp; rfl)); intro gb103 hg w27 hbox hb; have n0_ := Aside0.mk (below_step (by repeat (first | (with_reducible first | exact HB.out | apply below_alloc | apply pw_below_drewN | apply below_drew1) | exact HB.out)) hb); have n1_ := Aside0.mk (hbox); have n2_ := Aside0.mk ((by rw [hg]; exact (below_size (by repeat (first | (with_reducible first | exact HB.out | apply below_alloc | apply pw_below_drewN | apply below_drew1) | exact HB.out))) : w.heap.size ≤ gb103)); have n3_ := Aside0.mk ((by rw [hg]; exact (below_size (by repeat (first | (with_reducible first | exact HB.out | apply below_alloc | apply pw_below_drewN | apply below_drew1) | exact HB.out))) : w.heap.size ≤ gb103)); clear HB; have HB := n0_; have BK103 := n1_; have GW103 := n2_; have GE103 := n3_; clear n0_ n1_ n2_ n3_; clear hb hbox hg; have hcz28_0 : w27.cell? ⟨gb103, 0, none⟩ = some (.int .u64 a0_0) := (blk_cell BK103.out 0).trans rfl; have hcz28_1 : w27.cell? ⟨gb103, 1, none⟩ = some (.int .u64 a0_1) := (blk_cell BK103.out 1).trans rfl; have hcz28_2 : w27.cell? ⟨gb103, 2, none⟩ = some (.int .u64 a0_2) := (blk_cell BK103.out 2).trans rfl; have hcz28_3 : w27.cell? ⟨gb103, 3, none⟩ = some (.int .u64 a0_3) := (blk_cell BK103.out 3).trans rfl; have hcz28_4 : w27.cell? ⟨gb103, 4, none⟩ = some (.int .u64 a0_4) := (blk_cell BK103.out 4).trans rfl; have hcz28_5 : w27.cell? ⟨gb103, 5, none⟩ = some (.int .u64 a0_5) := (blk_cell BK103.out 5).trans rfl; have hcz28_6 : w27.cell? ⟨gb103, 6, none⟩ = some (.int .u64 a0_6) := (blk_cell BK103.out 6).trans rfl; have hcz28_7 : w27.cell? ⟨gb103, 7, none⟩ = some (.int .u64 a0_7) := (blk_cell BK103.out 7).trans rfl; have hcz28_8 : w27.cell? ⟨gb103, 8, none⟩ = some (.int .u64 a0_8) := (blk_cell BK103.out 8).trans rfl; have hcz28_9 : w27.cell? ⟨gb103, 9, none⟩ = some (.int .u64 a0_9) := (blk_cell BK103.out 9).trans rfl; have hcz28_10 : w27.cell? ⟨gb103, 10, none⟩ = some (.int .u64 a0_10) := (blk_cell BK103.out 10).trans rfl; have hcz28_11 : w27.cell? ⟨gb103, 11, none⟩ = some (.int .u64 a0_11) := (blk_cell BK103.out 11).trans rfl; have hcz28_12 : w27.cell? ⟨gb103, 12, none⟩ = some (.int .u64 a0_12) := (blk_cell BK103.out 12).trans rfl; have hcz28_13 : w27.cell? ⟨gb103, 13, none⟩ = some (.int .u64 a0_13) := (blk_cell BK103.out 13).trans rfl; have hcz28_14 : w27.cell? ⟨gb103, 14, none⟩ = some (.int .u64 a0_14) := (blk_cell BK103.out 14).trans rfl; have hcz28_15 : w27.cell? ⟨gb103, 15, none⟩ = some (.int .u64 a0_15) := (blk_cell BK103.out 15).trans rfl; have hcz28_16 : w27.cell? ⟨gb103, 16, none⟩ = some (.int .u64 a0_16) := (blk_cell BK103.out 16).trans rfl; have hfz28_0 := blk_frozen BK103.out 0; have hfz28_1 := blk_frozen BK103.out 1; have hfz28_2 := blk_frozen BK103.out 2; have hfz28_3 := blk_frozen BK103.out 3; have hfz28_4 := blk_frozen BK103.out 4; have hfz28_5 := blk_frozen BK103.out 5; have hfz28_6 := blk_frozen BK103.out 6; have hfz28_7 := blk_frozen BK103.out 7; have hfz28_8 := blk_frozen BK103.out 8; have hfz28_9 := blk_frozen BK103.out 9; have hfz28_10 := blk_frozen BK103.out 10; have hfz28_11 := blk_frozen BK103.out 11; have hfz28_12 := blk_frozen BK103.out 12; have hfz28_13 := blk_frozen BK103.out 13; have hfz28_14 := blk_frozen BK103.out 14; have hfz28_15 := blk_frozen BK103.out 15; have hfz28_16 := blk_frozen BK103.out 16))
                    go_ret2
                    exact ⟨by first | rfl | (simp [errW_none, errW_some] <;> rfl) | (simp [*, errW_none, errW_some] <;> rfl), by repeat (first | (with_reducible first | exact HB.out | apply below_alloc | apply pw_below_drewN | apply below_drew1 | refine below_set ?_ GE103.out) | exact HB.out)⟩
                  · rw [if_neg c26] at H
                    have c26b0 : (a1 == 324) = false := beq_eq_false_iff_ne.mpr c26
                    have c26b1 : (a1 != 324) = true := bne_iff_ne.mpr c26
                    by_cases c29 : a1 = 773
                    · rw [if_pos c29] at H
                      have c29b0 : (a1 == 773) = true := beq_iff_eq.mpr c29
                      have c29b1 : (a1 != 773) = false := bne_eq_false_iff_eq.mpr c29
                      clear c29
                      simp only [Option.some.injEq, Prod.mk.injEq] at H
                      obtain ⟨rfl, rfl⟩ := H
                      go_enter Try.func25, Try.ntmps25
                      go_wp2_with (first | ((with_reducible refine gate_dst (N := 2) rfl ?_); refine box_event ?hg (N := 2) ?hd (cs := #[.int .u64 a0_0, .int .u64 a0_1, .int .u64 a0_2, .int .u64 a0_3, .int .u64 a0_4, .int .u64 a0_5, .int .u64 a0_6, .int .u64 a0_7, .int .u64 a0_8, .int .u64 a0_9, .int .u64 a0_10, .int .u64 a0_11, .int .u64 a0_12, .int .u64 a0_13, .int .u64 a0_14, .int .u64 a0_15, .int .u64 a0_16]) (t := 24) ?hr ?_; (case hd => rfl); (case hg => rfl); (case hr => first | (go_simp; done) | (go_simp; rfl)); intro gb103 hg w30 hbox hb; have n0_ := Aside0.mk (below_step (by repeat (first | (with_reducible first | exact HB.out | apply below_alloc | apply pw_below_drewN | apply below_drew1) | exact HB.out)) hb); have n1_ := Aside0.mk (hbox); have n2_ := Aside0.mk ((by rw [hg]; exact (below_size (by repeat (first | (with_reducible first | exact HB.out | apply below_alloc | apply pw_below_drewN | apply below_drew1) | exact HB.out))) : w.heap.size ≤ gb103)); have n3_ := Aside0.mk ((by rw [hg]; exact (below_size (by repeat (first | (with_reducible first | exact HB.out | apply below_alloc | apply pw_below_drewN | apply below_drew1) | exact HB.out))) : w.heap.size ≤ gb103)); clear HB; have HB := n0_; have BK103 := n1_; have GW103 := n2_; have GE103 := n3_; clear n0_ n1_ n2_ n3_; clear hb hbox hg; have hcz31_0 : w30.cell? ⟨gb103, 0, none⟩ = some (.int .u64 a0_0) := (blk_cell BK103.out 0).trans rfl; have hcz31_1 : w30.cell? ⟨gb103, 1, none⟩ = some (.int .u64 a0_1) := (blk_cell BK103.out 1).trans rfl; have hcz31_2 : w30.cell? ⟨gb103, 2, none⟩ = some (.int .u64 a0_2) := (blk_cell BK103.out 2).trans rfl; have hcz31_3 : w30.cell? ⟨gb103, 3, none⟩ = some (.int .u64 a0_3) := (blk_cell BK103.out 3).trans rfl; have hcz31_4 : w30.cell? ⟨gb103, 4, none⟩ = some (.int .u64 a0_4) := (blk_cell BK103.out 4).trans rfl; have hcz31_5 : w30.cell? ⟨gb103, 5, none⟩ = some (.int .u64 a0_5) := (blk_cell BK103.out 5).trans rfl; have hcz31_6 : w30.cell? ⟨gb103, 6, none⟩ = some (.int .u64 a0_6) := (blk_cell BK103.out 6).trans rfl; have hcz31_7 : w30.cell? ⟨gb103, 7, none⟩ = some (.int .u64 a0_7) := (blk_cell BK103.out 7).trans rfl; have hcz31_8 : w30.cell? ⟨gb103, 8, none⟩ = some (.int .u64 a0_8) := (blk_cell BK103.out 8).trans rfl; have hcz31_9 : w30.cell? ⟨gb103, 9, none⟩ = some (.int .u64 a0_9) := (blk_cell BK103.out 9).trans rfl; have hcz31_10 : w30.cell? ⟨gb103, 10, none⟩ = some (.int .u64 a0_10) := (blk_cell BK103.out 10).trans rfl; have hcz31_11 : w30.cell? ⟨gb103, 11, none⟩ = some (.int .u64 a0_11) := (blk_cell BK103.out 11).trans rfl; have hcz31_12 : w30.cell? ⟨gb103, 12, none⟩ = some (.int .u64 a0_12) := (blk_cell BK103.out 12).trans rfl; have hcz31_13 : w30.cell? ⟨gb103, 13, none⟩ = some (.int .u64 a0_13) := (blk_cell BK103.out 13).trans rfl; have hcz31_14 : w30.cell? ⟨gb103, 14, none⟩ = some (.int .u64 a0_14) := (blk_cell BK103.out 14).trans rfl; have hcz31_15 : w30.cell? ⟨gb103, 15, none⟩ = some (.int .u64 a0_15) := (blk_cell BK103.out 15).trans rfl; have hcz31_16 : w30.cell? ⟨gb103, 16, none⟩ = some (.int .u64 a0_16) := (blk_cell BK103.out 16).trans rfl; have hfz31_0 := blk_frozen BK103.out 0; have hfz31_1 := blk_frozen BK103.out 1; have hfz31_2 := blk_frozen BK103.out 2; have hfz31_3 := blk_frozen BK103.out 3; have hfz31_4 := blk_frozen BK103.out 4; have hfz31_5 := blk_frozen BK103.out 5; have hfz31_6 := blk_frozen BK103.out 6; have hfz31_7 := blk_frozen BK103.out 7; have hfz31_8 := blk_frozen BK103.out 8; have hfz31_9 := blk_frozen BK103.out 9; have hfz31_10 := blk_frozen BK103.out 10; have hfz31_11 := blk_frozen BK103.out 11; have hfz31_12 := blk_frozen BK103.out 12; have hfz31_13 := blk_frozen BK103.out 13; have hfz31_14 := blk_frozen BK103.out 14; have hfz31_15 := blk_frozen BK103.out 15; have hfz31_16 := blk_frozen BK103.out 16))
                      go_ret2
                      exact ⟨by first | rfl | (simp [errW_none, errW_some] <;> rfl) | (simp [*, errW_none, errW_some] <;> rfl), by repeat (first | (with_reducible first | exact HB.out | apply below_alloc | apply pw_below_drewN | apply below_drew1 | refine below_set ?_ GE103.out) | exact HB.out)⟩
                    · rw [if_neg c29] at H
                      have c29b0 : (a1 == 773) = false := beq_eq_false_iff_ne.mpr c29
                      have c29b1 : (a1 != 773) = true := bne_iff_ne.mpr c29
                      by_cases c32 : a1 = 261
                      · rw [if_pos c32] at H
                        have c32b0 : (a1 == 261) = true := beq_iff_eq.mpr c32
                        have c32b1 : (a1 != 261) = false := bne_eq_false_iff_eq.mpr c32
                        clear c32
                        simp only [Option.some.injEq, Prod.mk.injEq] at H
                        obtain ⟨rfl, rfl⟩ := H
                        go_enter Try.func25, Try.ntmps25
                        go_wp2_with (first | ((with_reducible refine gate_dst (N := 2) rfl ?_); refine box_event ?hg (N := 2) ?hd (cs := #[.int .u64 a0_0, .int .u64 a0_1, .int .u64 a0_2, .int .u64 a0_3, .int .u64 a0_4, .int .u64 a0_5, .int .u64 a0_6, .int .u64 a0_7, .int .u64 a0_8, .int .u64 a0_9, .int .u64 a0_10, .int .u64 a0_11, .int .u64 a0_12, .int .u64 a0_13, .int .u64 a0_14, .int .u64 a0_15, .int .u64 a0_16]) (t := 24) ?hr ?_; (case hd => rfl); (case hg => rfl); (case hr => first | (go_simp; done) | (go_simp; rfl)); intro gb103 hg w33 hbox hb; have n0_ := Aside0.mk (below_step (by repeat (first | (with_reducible first | exact HB.out | apply below_alloc | apply pw_below_drewN | apply below_drew1) | exact HB.out)) hb); have n1_ := Aside0.mk (hbox); have n2_ := Aside0.mk ((by rw [hg]; exact (below_size (by repeat (first | (with_reducible first | exact HB.out | apply below_alloc | apply pw_below_drewN | apply below_drew1) | exact HB.out))) : w.heap.size ≤ gb103)); have n3_ := Aside0.mk ((by rw [hg]; exact (below_size (by repeat (first | (with_reducible first | exact HB.out | apply below_alloc | apply pw_below_drewN | apply below_drew1) | exact HB.out))) : w.heap.size ≤ gb103)); clear HB; have HB := n0_; have BK103 := n1_; have GW103 := n2_; have GE103 := n3_; clear n0_ n1_ n2_ n3_; clear hb hbox hg; have hcz34_0 : w33.cell? ⟨gb103, 0, none⟩ = some (.int .u64 a0_0) := (blk_cell BK103.out 0).trans rfl; have hcz34_1 : w33.cell? ⟨gb103, 1, none⟩ = some (.int .u64 a0_1) := (blk_cell BK103.out 1).trans rfl; have hcz34_2 : w33.cell? ⟨gb103, 2, none⟩ = some (.int .u64 a0_2) := (blk_cell BK103.out 2).trans rfl; have hcz34_3 : w33.cell? ⟨gb103, 3, none⟩ = some (.int .u64 a0_3) := (blk_cell BK103.out 3).trans rfl; have hcz34_4 : w33.cell? ⟨gb103, 4, none⟩ = some (.int .u64 a0_4) := (blk_cell BK103.out 4).trans rfl; have hcz34_5 : w33.cell? ⟨gb103, 5, none⟩ = some (.int .u64 a0_5) := (blk_cell BK103.out 5).trans rfl; have hcz34_6 : w33.cell? ⟨gb103, 6, none⟩ = some (.int .u64 a0_6) := (blk_cell BK103.out 6).trans rfl; have hcz34_7 : w33.cell? ⟨gb103, 7, none⟩ = some (.int .u64 a0_7) := (blk_cell BK103.out 7).trans rfl; have hcz34_8 : w33.cell? ⟨gb103, 8, none⟩ = some (.int .u64 a0_8) := (blk_cell BK103.out 8).trans rfl; have hcz34_9 : w33.cell? ⟨gb103, 9, none⟩ = some (.int .u64 a0_9) := (blk_cell BK103.out 9).trans rfl; have hcz34_10 : w33.cell? ⟨gb103, 10, none⟩ = some (.int .u64 a0_10) := (blk_cell BK103.out 10).trans rfl; have hcz34_11 : w33.cell? ⟨gb103, 11, none⟩ = some (.int .u64 a0_11) := (blk_cell BK103.out 11).trans rfl; have hcz34_12 : w33.cell? ⟨gb103, 12, none⟩ = some (.int .u64 a0_12) := (blk_cell BK103.out 12).trans rfl; have hcz34_13 : w33.cell? ⟨gb103, 13, none⟩ = some (.int .u64 a0_13) := (blk_cell BK103.out 13).trans rfl; have hcz34_14 : w33.cell? ⟨gb103, 14, none⟩ = some (.int .u64 a0_14) := (blk_cell BK103.out 14).trans rfl; have hcz34_15 : w33.cell? ⟨gb103, 15, none⟩ = some (.int .u64 a0_15) := (blk_cell BK103.out 15).trans rfl; have hcz34_16 : w33.cell? ⟨gb103, 16, none⟩ = some (.int .u64 a0_16) := (blk_cell BK103.out 16).trans rfl; have hfz34_0 := blk_frozen BK103.out 0; have hfz34_1 := blk_frozen BK103.out 1; have hfz34_2 := blk_frozen BK103.out 2; have hfz34_3 := blk_frozen BK103.out 3; have hfz34_4 := blk_frozen BK103.out 4; have hfz34_5 := blk_frozen BK103.out 5; have hfz34_6 := blk_frozen BK103.out 6; have hfz34_7 := blk_frozen BK103.out 7; have hfz34_8 := blk_frozen BK103.out 8; have hfz34_9 := blk_frozen BK103.out 9; have hfz34_10 := blk_frozen BK103.out 10; have hfz34_11 := blk_frozen BK103.out 11; have hfz34_12 := blk_frozen BK103.out 12; have hfz34_13 := blk_frozen BK103.out 13; have hfz34_14 := blk_frozen BK103.out 14; have hfz34_15 := blk_frozen BK103.out 15; have hfz34_16 := blk_frozen BK103.out 16))
                        go_ret2
                        exact ⟨by first | rfl | (simp [errW_none, errW_some] <;> rfl) | (simp [*, errW_none, errW_some] <;> rfl), by repeat (first | (with_reducible first | exact HB.out | apply below_alloc | apply pw_below_drewN | apply below_drew1 | refine below_set ?_ GE103.out) | exact HB.out)⟩
                      · rw [if_neg c32] at H
                        have c32b0 : (a1 == 261) = false := beq_eq_false_iff_ne.mpr c32
                        have c32b1 : (a1 != 261) = true := bne_iff_ne.mpr c32
                        by_cases c35 : a1 = 832
                        · rw [if_pos c35] at H
                          have c35b0 : (a1 == 832) = true := beq_iff_eq.mpr c35
                          have c35b1 : (a1 != 832) = false := bne_eq_false_iff_eq.mpr c35
                          clear c35
                          simp only [Option.some.injEq, Prod.mk.injEq] at H
                          obtain ⟨rfl, rfl⟩ := H
                          go_enter Try.func25, Try.ntmps25
                          go_wp2_with (first | ((with_reducible refine gate_dst (N := 2) rfl ?_); refine box_event ?hg (N := 2) ?hd (cs := #[.int .u64 a0_0, .int .u64 a0_1, .int .u64 a0_2, .int .u64 a0_3, .int .u64 a0_4, .int .u64 a0_5, .int .u64 a0_6, .int .u64 a0_7, .int .u64 a0_8, .int .u64 a0_9, .int .u64 a0_10, .int .u64 a0_11, .int .u64 a0_12, .int .u64 a0_13, .int .u64 a0_14, .int .u64 a0_15, .int .u64 a0_16]) (t := 24) ?hr ?_; (case hd => rfl); (case hg => rfl); (case hr => first | (go_simp; done) | (go_simp; rfl)); intro gb103 hg w36 hbox hb; have n0_ := Aside0.mk (below_step (by repeat (first | (with_reducible first | exact HB.out | apply below_alloc | apply pw_below_drewN | apply below_drew1) | exact HB.out)) hb); have n1_ := Aside0.mk (hbox); have n2_ := Aside0.mk ((by rw [hg]; exact (below_size (by repeat (first | (with_reducible first | exact HB.out | apply below_alloc | apply pw_below_drewN | apply below_drew1) | exact HB.out))) : w.heap.size ≤ gb103)); have n3_ := Aside0.mk ((by rw [hg]; exact (below_size (by repeat (first | (with_reducible first | exact HB.out | apply below_alloc | apply pw_below_drewN | apply below_drew1) | exact HB.out))) : w.heap.size ≤ gb103)); clear HB; have HB := n0_; have BK103 := n1_; have GW103 := n2_; have GE103 := n3_; clear n0_ n1_ n2_ n3_; clear hb hbox hg; have hcz37_0 : w36.cell? ⟨gb103, 0, none⟩ = some (.int .u64 a0_0) := (blk_cell BK103.out 0).trans rfl; have hcz37_1 : w36.cell? ⟨gb103, 1, none⟩ = some (.int .u64 a0_1) := (blk_cell BK103.out 1).trans rfl; have hcz37_2 : w36.cell? ⟨gb103, 2, none⟩ = some (.int .u64 a0_2) := (blk_cell BK103.out 2).trans rfl; have hcz37_3 : w36.cell? ⟨gb103, 3, none⟩ = some (.int .u64 a0_3) := (blk_cell BK103.out 3).trans rfl; have hcz37_4 : w36.cell? ⟨gb103, 4, none⟩ = some (.int .u64 a0_4) := (blk_cell BK103.out 4).trans rfl; have hcz37_5 : w36.cell? ⟨gb103, 5, none⟩ = some (.int .u64 a0_5) := (blk_cell BK103.out 5).trans rfl; have hcz37_6 : w36.cell? ⟨gb103, 6, none⟩ = some (.int .u64 a0_6) := (blk_cell BK103.out 6).trans rfl; have hcz37_7 : w36.cell? ⟨gb103, 7, none⟩ = some (.int .u64 a0_7) := (blk_cell BK103.out 7).trans rfl; have hcz37_8 : w36.cell? ⟨gb103, 8, none⟩ = some (.int .u64 a0_8) := (blk_cell BK103.out 8).trans rfl; have hcz37_9 : w36.cell? ⟨gb103, 9, none⟩ = some (.int .u64 a0_9) := (blk_cell BK103.out 9).trans rfl; have hcz37_10 : w36.cell? ⟨gb103, 10, none⟩ = some (.int .u64 a0_10) := (blk_cell BK103.out 10).trans rfl; have hcz37_11 : w36.cell? ⟨gb103, 11, none⟩ = some (.int .u64 a0_11) := (blk_cell BK103.out 11).trans rfl; have hcz37_12 : w36.cell? ⟨gb103, 12, none⟩ = some (.int .u64 a0_12) := (blk_cell BK103.out 12).trans rfl; have hcz37_13 : w36.cell? ⟨gb103, 13, none⟩ = some (.int .u64 a0_13) := (blk_cell BK103.out 13).trans rfl; have hcz37_14 : w36.cell? ⟨gb103, 14, none⟩ = some (.int .u64 a0_14) := (blk_cell BK103.out 14).trans rfl; have hcz37_15 : w36.cell? ⟨gb103, 15, none⟩ = some (.int .u64 a0_15) := (blk_cell BK103.out 15).trans rfl; have hcz37_16 : w36.cell? ⟨gb103, 16, none⟩ = some (.int .u64 a0_16) := (blk_cell BK103.out 16).trans rfl; have hfz37_0 := blk_frozen BK103.out 0; have hfz37_1 := blk_frozen BK103.out 1; have hfz37_2 := blk_frozen BK103.out 2; have hfz37_3 := blk_frozen BK103.out 3; have hfz37_4 := blk_frozen BK103.out 4; have hfz37_5 := blk_frozen BK103.out 5; have hfz37_6 := blk_frozen BK103.out 6; have hfz37_7 := blk_frozen BK103.out 7; have hfz37_8 := blk_frozen BK103.out 8; have hfz37_9 := blk_frozen BK103.out 9; have hfz37_10 := blk_frozen BK103.out 10; have hfz37_11 := blk_frozen BK103.out 11; have hfz37_12 := blk_frozen BK103.out 12; have hfz37_13 := blk_frozen BK103.out 13; have hfz37_14 := blk_frozen BK103.out 14; have hfz37_15 := blk_frozen BK103.out 15; have hfz37_16 := blk_frozen BK103.out 16))
                          go_ret2
                          exact ⟨by first | rfl | (simp [errW_none, errW_some] <;> rfl) | (simp [*, errW_none, errW_some] <;> rfl), by repeat (first | (with_reducible first | exact HB.out | apply below_alloc | apply pw_below_drewN | apply below_drew1 | refine below_set ?_ GE103.out) | exact HB.out)⟩
                        · rw [if_neg c35] at H
                          have c35b0 : (a1 == 832) = false := beq_eq_false_iff_ne.mpr c35
                          have c35b1 : (a1 != 832) = true := bne_iff_ne.mpr c35
                          by_cases c38 : a1 = 320
                          · rw [if_pos c38] at H
                            have c38b0 : (a1 == 320) = true := beq_iff_eq.mpr c38
                            have c38b1 : (a1 != 320) = false := bne_eq_false_iff_eq.mpr c38
                            clear c38
                            simp only [Option.some.injEq, Prod.mk.injEq] at H
                            obtain ⟨rfl, rfl⟩ := H
                            go_enter Try.func25, Try.ntmps25
                            go_wp2_with (first | ((with_reducible refine gate_dst (N := 2) rfl ?_); refine box_event ?hg (N := 2) ?hd (cs := #[.int .u64 a0_0, .int .u64 a0_1, .int .u64 a0_2, .int .u64 a0_3, .int .u64 a0_4, .int .u64 a0_5, .int .u64 a0_6, .int .u64 a0_7, .int .u64 a0_8, .int .u64 a0_9, .int .u64 a0_10, .int .u64 a0_11, .int .u64 a0_12, .int .u64 a0_13, .int .u64 a0_14, .int .u64 a0_15, .int .u64 a0_16]) (t := 24) ?hr ?_; (case hd => rfl); (case hg => rfl); (case hr => first | (go_simp; done) | (go_simp; rfl)); intro gb103 hg w39 hbox hb; have n0_ := Aside0.mk (below_step (by repeat (first | (with_reducible first | exact HB.out | apply below_alloc | apply pw_below_drewN | apply below_drew1) | exact HB.out)) hb); have n1_ := Aside0.mk (hbox); have n2_ := Aside0.mk ((by rw [hg]; exact (below_size (by repeat (first | (with_reducible first | exact HB.out | apply below_alloc | apply pw_below_drewN | apply below_drew1) | exact HB.out))) : w.heap.size ≤ gb103)); have n3_ := Aside0.mk ((by rw [hg]; exact (below_size (by repeat (first | (with_reducible first | exact HB.out | apply below_alloc | apply pw_below_drewN | apply below_drew1) | exact HB.out))) : w.heap.size ≤ gb103)); clear HB; have HB := n0_; have BK103 := n1_; have GW103 := n2_; have GE103 := n3_; clear n0_ n1_ n2_ n3_; clear hb hbox hg; have hcz40_0 : w39.cell? ⟨gb103, 0, none⟩ = some (.int .u64 a0_0) := (blk_cell BK103.out 0).trans rfl; have hcz40_1 : w39.cell? ⟨gb103, 1, none⟩ = some (.int .u64 a0_1) := (blk_cell BK103.out 1).trans rfl; have hcz40_2 : w39.cell? ⟨gb103, 2, none⟩ = some (.int .u64 a0_2) := (blk_cell BK103.out 2).trans rfl; have hcz40_3 : w39.cell? ⟨gb103, 3, none⟩ = some (.int .u64 a0_3) := (blk_cell BK103.out 3).trans rfl; have hcz40_4 : w39.cell? ⟨gb103, 4, none⟩ = some (.int .u64 a0_4) := (blk_cell BK103.out 4).trans rfl; have hcz40_5 : w39.cell? ⟨gb103, 5, none⟩ = some (.int .u64 a0_5) := (blk_cell BK103.out 5).trans rfl; have hcz40_6 : w39.cell? ⟨gb103, 6, none⟩ = some (.int .u64 a0_6) := (blk_cell BK103.out 6).trans rfl; have hcz40_7 : w39.cell? ⟨gb103, 7, none⟩ = some (.int .u64 a0_7) := (blk_cell BK103.out 7).trans rfl; have hcz40_8 : w39.cell? ⟨gb103, 8, none⟩ = some (.int .u64 a0_8) := (blk_cell BK103.out 8).trans rfl; have hcz40_9 : w39.cell? ⟨gb103, 9, none⟩ = some (.int .u64 a0_9) := (blk_cell BK103.out 9).trans rfl; have hcz40_10 : w39.cell? ⟨gb103, 10, none⟩ = some (.int .u64 a0_10) := (blk_cell BK103.out 10).trans rfl; have hcz40_11 : w39.cell? ⟨gb103, 11, none⟩ = some (.int .u64 a0_11) := (blk_cell BK103.out 11).trans rfl; have hcz40_12 : w39.cell? ⟨gb103, 12, none⟩ = some (.int .u64 a0_12) := (blk_cell BK103.out 12).trans rfl; have hcz40_13 : w39.cell? ⟨gb103, 13, none⟩ = some (.int .u64 a0_13) := (blk_cell BK103.out 13).trans rfl; have hcz40_14 : w39.cell? ⟨gb103, 14, none⟩ = some (.int .u64 a0_14) := (blk_cell BK103.out 14).trans rfl; have hcz40_15 : w39.cell? ⟨gb103, 15, none⟩ = some (.int .u64 a0_15) := (blk_cell BK103.out 15).trans rfl; have hcz40_16 : w39.cell? ⟨gb103, 16, none⟩ = some (.int .u64 a0_16) := (blk_cell BK103.out 16).trans rfl; have hfz40_0 := blk_frozen BK103.out 0; have hfz40_1 := blk_frozen BK103.out 1; have hfz40_2 := blk_frozen BK103.out 2; have hfz40_3 := blk_frozen BK103.out 3; have hfz40_4 := blk_frozen BK103.out 4; have hfz40_5 := blk_frozen BK103.out 5; have hfz40_6 := blk_frozen BK103.out 6; have hfz40_7 := blk_frozen BK103.out 7; have hfz40_8 := blk_frozen BK103.out 8; have hfz40_9 := blk_frozen BK103.out 9; have hfz40_10 := blk_frozen BK103.out 10; have hfz40_11 := blk_frozen BK103.out 11; have hfz40_12 := blk_frozen BK103.out 12; have hfz40_13 := blk_frozen BK103.out 13; have hfz40_14 := blk_frozen BK103.out 14; have hfz40_15 := blk_frozen BK103.out 15; have hfz40_16 := blk_frozen BK103.out 16))
                            go_ret2
                            exact ⟨by first | rfl | (simp [errW_none, errW_some] <;> rfl) | (simp [*, errW_none, errW_some] <;> rfl), by repeat (first | (with_reducible first | exact HB.out | apply below_alloc | apply pw_below_drewN | apply below_drew1 | refine below_set ?_ GE103.out) | exact HB.out)⟩
                          · rw [if_neg c38] at H
                            have c38b0 : (a1 == 320) = false := beq_eq_false_iff_ne.mpr c38
                            have c38b1 : (a1 != 320) = true := bne_iff_ne.mpr c38
                            by_cases c41 : a1 = 833
                            · rw [if_pos c41] at H
                              have c41b0 : (a1 == 833) = true := beq_iff_eq.mpr c41
                              have c41b1 : (a1 != 833) = false := bne_eq_false_iff_eq.mpr c41
                              clear c41
                              simp only [Option.some.injEq, Prod.mk.injEq] at H
                              obtain ⟨rfl, rfl⟩ := H
                              go_enter Try.func25, Try.ntmps25
                              go_wp2_with (first | ((with_reducible refine gate_dst (N := 2) rfl ?_); refine box_event ?hg (N := 2) ?hd (cs := #[.int .u64 a0_0, .int .u64 a0_1, .int .u64 a0_2, .int .u64 a0_3, .int .u64 a0_4, .int .u64 a0_5, .int .u64 a0_6, .int .u64 a0_7, .int .u64 a0_8, .int .u64 a0_9, .int .u64 a0_10, .int .u64 a0_11, .int .u64 a0_12, .int .u64 a0_13, .int .u64 a0_14, .int .u64 a0_15, .int .u64 a0_16]) (t := 24) ?hr ?_; (case hd => rfl); (case hg => rfl); (case hr => first | (go_simp; done) | (go_simp; rfl)); intro gb103 hg w42 hbox hb; have n0_ := Aside0.mk (below_step (by repeat (first | (with_reducible first | exact HB.out | apply below_alloc | apply pw_below_drewN | apply below_drew1) | exact HB.out)) hb); have n1_ := Aside0.mk (hbox); have n2_ := Aside0.mk ((by rw [hg]; exact (below_size (by repeat (first | (with_reducible first | exact HB.out | apply below_alloc | apply pw_below_drewN | apply below_drew1) | exact HB.out))) : w.heap.size ≤ gb103)); have n3_ := Aside0.mk ((by rw [hg]; exact (below_size (by repeat (first | (with_reducible first | exact HB.out | apply below_alloc | apply pw_below_drewN | apply below_drew1) | exact HB.out))) : w.heap.size ≤ gb103)); clear HB; have HB := n0_; have BK103 := n1_; have GW103 := n2_; have GE103 := n3_; clear n0_ n1_ n2_ n3_; clear hb hbox hg; have hcz43_0 : w42.cell? ⟨gb103, 0, none⟩ = some (.int .u64 a0_0) := (blk_cell BK103.out 0).trans rfl; have hcz43_1 : w42.cell? ⟨gb103, 1, none⟩ = some (.int .u64 a0_1) := (blk_cell BK103.out 1).trans rfl; have hcz43_2 : w42.cell? ⟨gb103, 2, none⟩ = some (.int .u64 a0_2) := (blk_cell BK103.out 2).trans rfl; have hcz43_3 : w42.cell? ⟨gb103, 3, none⟩ = some (.int .u64 a0_3) := (blk_cell BK103.out 3).trans rfl; have hcz43_4 : w42.cell? ⟨gb103, 4, none⟩ = some (.int .u64 a0_4) := (blk_cell BK103.out 4).trans rfl; have hcz43_5 : w42.cell? ⟨gb103, 5, none⟩ = some (.int .u64 a0_5) := (blk_cell BK103.out 5).trans rfl; have hcz43_6 : w42.cell? ⟨gb103, 6, none⟩ = some (.int .u64 a0_6) := (blk_cell BK103.out 6).trans rfl; have hcz43_7 : w42.cell? ⟨gb103, 7, none⟩ = some (.int .u64 a0_7) := (blk_cell BK103.out 7).trans rfl; have hcz43_8 : w42.cell? ⟨gb103, 8, none⟩ = some (.int .u64 a0_8) := (blk_cell BK103.out 8).trans rfl; have hcz43_9 : w42.cell? ⟨gb103, 9, none⟩ = some (.int .u64 a0_9) := (blk_cell BK103.out 9).trans rfl; have hcz43_10 : w42.cell? ⟨gb103, 10, none⟩ = some (.int .u64 a0_10) := (blk_cell BK103.out 10).trans rfl; have hcz43_11 : w42.cell? ⟨gb103, 11, none⟩ = some (.int .u64 a0_11) := (blk_cell BK103.out 11).trans rfl; have hcz43_12 : w42.cell? ⟨gb103, 12, none⟩ = some (.int .u64 a0_12) := (blk_cell BK103.out 12).trans rfl; have hcz43_13 : w42.cell? ⟨gb103, 13, none⟩ = some (.int .u64 a0_13) := (blk_cell BK103.out 13).trans rfl; have hcz43_14 : w42.cell? ⟨gb103, 14, none⟩ = some (.int .u64 a0_14) := (blk_cell BK103.out 14).trans rfl; have hcz43_15 : w42.cell? ⟨gb103, 15, none⟩ = some (.int .u64 a0_15) := (blk_cell BK103.out 15).trans rfl; have hcz43_16 : w42.cell? ⟨gb103, 16, none⟩ = some (.int .u64 a0_16) := (blk_cell BK103.out 16).trans rfl; have hfz43_0 := blk_frozen BK103.out 0; have hfz43_1 := blk_frozen BK103.out 1; have hfz43_2 := blk_frozen BK103.out 2; have hfz43_3 := blk_frozen BK103.out 3; have hfz43_4 := blk_frozen BK103.out 4; have hfz43_5 := blk_frozen BK103.out 5; have hfz43_6 := blk_frozen BK103.out 6; have hfz43_7 := blk_frozen BK103.out 7; have hfz43_8 := blk_frozen BK103.out 8; have hfz43_9 := blk_frozen BK103.out 9; have hfz43_10 := blk_frozen BK103.out 10; have hfz43_11 := blk_frozen BK103.out 11; have hfz43_12 := blk_frozen BK103.out 12; have hfz43_13 := blk_frozen BK103.out 13; have hfz43_14 := blk_frozen BK103.out 14; have hfz43_15 := blk_frozen BK103.out 15; have hfz43_16 := blk_frozen BK103.out 16))
                              go_ret2
                              exact ⟨by first | rfl | (simp [errW_none, errW_some] <;> rfl) | (simp [*, errW_none, errW_some] <;> rfl), by repeat (first | (with_reducible first | exact HB.out | apply below_alloc | apply pw_below_drewN | apply below_drew1 | refine below_set ?_ GE103.out) | exact HB.out)⟩
                            · rw [if_neg c41] at H
                              have c41b0 : (a1 == 833) = false := beq_eq_false_iff_ne.mpr c41
                              have c41b1 : (a1 != 833) = true := bne_iff_ne.mpr c41
                              by_cases c44 : a1 = 321
                              · rw [if_pos c44] at H
                                have c44b0 : (a1 == 321) = true := beq_iff_eq.mpr c44
                                have c44b1 : (a1 != 321) = false := bne_eq_false_iff_eq.mpr c44
                                clear c44
                                simp only [Option.some.injEq, Prod.mk.injEq] at H
                                obtain ⟨rfl, rfl⟩ := H
                                go_enter Try.func25, Try.ntmps25
                                go_wp2_with (first | ((with_reducible refine gate_dst (N := 2) rfl ?_); refine box_event ?hg (N := 2) ?hd (cs := #[.int .u64 a0_0, .int .u64 a0_1, .int .u64 a0_2, .int .u64 a0_3, .int .u64 a0_4, .int .u64 a0_5, .int .u64 a0_6, .int .u64 a0_7, .int .u64 a0_8, .int .u64 a0_9, .int .u64 a0_10, .int .u64 a0_11, .int .u64 a0_12, .int .u64 a0_13, .int .u64 a0_14, .int .u64 a0_15, .int .u64 a0_16]) (t := 24) ?hr ?_; (case hd => rfl); (case hg => rfl); (case hr => first | (go_simp; done) | (go_simp; rfl)); intro gb103 hg w45 hbox hb; have n0_ := Aside0.mk (below_step (by repeat (first | (with_reducible first | exact HB.out | apply below_alloc | apply pw_below_drewN | apply below_drew1) | exact HB.out)) hb); have n1_ := Aside0.mk (hbox); have n2_ := Aside0.mk ((by rw [hg]; exact (below_size (by repeat (first | (with_reducible first | exact HB.out | apply below_alloc | apply pw_below_drewN | apply below_drew1) | exact HB.out))) : w.heap.size ≤ gb103)); have n3_ := Aside0.mk ((by rw [hg]; exact (below_size (by repeat (first | (with_reducible first | exact HB.out | apply below_alloc | apply pw_below_drewN | apply below_drew1) | exact HB.out))) : w.heap.size ≤ gb103)); clear HB; have HB := n0_; have BK103 := n1_; have GW103 := n2_; have GE103 := n3_; clear n0_ n1_ n2_ n3_; clear hb hbox hg; have hcz46_0 : w45.cell? ⟨gb103, 0, none⟩ = some (.int .u64 a0_0) := (blk_cell BK103.out 0).trans rfl; have hcz46_1 : w45.cell? ⟨gb103, 1, none⟩ = some (.int .u64 a0_1) := (blk_cell BK103.out 1).trans rfl; have hcz46_2 : w45.cell? ⟨gb103, 2, none⟩ = some (.int .u64 a0_2) := (blk_cell BK103.out 2).trans rfl; have hcz46_3 : w45.cell? ⟨gb103, 3, none⟩ = some (.int .u64 a0_3) := (blk_cell BK103.out 3).trans rfl; have hcz46_4 : w45.cell? ⟨gb103, 4, none⟩ = some (.int .u64 a0_4) := (blk_cell BK103.out 4).trans rfl; have hcz46_5 : w45.cell? ⟨gb103, 5, none⟩ = some (.int .u64 a0_5) := (blk_cell BK103.out 5).trans rfl; have hcz46_6 : w45.cell? ⟨gb103, 6, none⟩ = some (.int .u64 a0_6) := (blk_cell BK103.out 6).trans rfl; have hcz46_7 : w45.cell? ⟨gb103, 7, none⟩ = some (.int .u64 a0_7) := (blk_cell BK103.out 7).trans rfl; have hcz46_8 : w45.cell? ⟨gb103, 8, none⟩ = some (.int .u64 a0_8) := (blk_cell BK103.out 8).trans rfl; have hcz46_9 : w45.cell? ⟨gb103, 9, none⟩ = some (.int .u64 a0_9) := (blk_cell BK103.out 9).trans rfl; have hcz46_10 : w45.cell? ⟨gb103, 10, none⟩ = some (.int .u64 a0_10) := (blk_cell BK103.out 10).trans rfl; have hcz46_11 : w45.cell? ⟨gb103, 11, none⟩ = some (.int .u64 a0_11) := (blk_cell BK103.out 11).trans rfl; have hcz46_12 : w45.cell? ⟨gb103, 12, none⟩ = some (.int .u64 a0_12) := (blk_cell BK103.out 12).trans rfl; have hcz46_13 : w45.cell? ⟨gb103, 13, none⟩ = some (.int .u64 a0_13) := (blk_cell BK103.out 13).trans rfl; have hcz46_14 : w45.cell? ⟨gb103, 14, none⟩ = some (.int .u64 a0_14) := (blk_cell BK103.out 14).trans rfl; have hcz46_15 : w45.cell? ⟨gb103, 15, none⟩ = some (.int .u64 a0_15) := (blk_cell BK103.out 15).trans rfl; have hcz46_16 : w45.cell? ⟨gb103, 16, none⟩ = some (.int .u64 a0_16) := (blk_cell BK103.out 16).trans rfl; have hfz46_0 := blk_frozen BK103.out 0; have hfz46_1 := blk_frozen BK103.out 1; have hfz46_2 := blk_frozen BK103.out 2; have hfz46_3 := blk_frozen BK103.out 3; have hfz46_4 := blk_frozen BK103.out 4; have hfz46_5 := blk_frozen BK103.out 5; have hfz46_6 := blk_frozen BK103.out 6; have hfz46_7 := blk_frozen BK103.out 7; have hfz46_8 := blk_frozen BK103.out 8; have hfz46_9 := blk_frozen BK103.out 9; have hfz46_10 := blk_frozen BK103.out 10; have hfz46_11 := blk_frozen BK103.out 11; have hfz46_12 := blk_frozen BK103.out 12; have hfz46_13 := blk_frozen BK103.out 13; have hfz46_14 := blk_frozen BK103.out 14; have hfz46_15 := blk_frozen BK103.out 15; have hfz46_16 := blk_frozen BK103.out 16))
                                go_ret2
                                exact ⟨by first | rfl | (simp [errW_none, errW_some] <;> rfl) | (simp [*, errW_none, errW_some] <;> rfl), by repeat (first | (with_reducible first | exact HB.out | apply below_alloc | apply pw_below_drewN | apply below_drew1 | refine below_set ?_ GE103.out) | exact HB.out)⟩
                              · rw [if_neg c44] at H
                                have c44b0 : (a1 == 321) = false := beq_eq_false_iff_ne.mpr c44
                                have c44b1 : (a1 != 321) = true := bne_iff_ne.mpr c44
                                by_cases c47 : a1 = 834
                                · rw [if_pos c47] at H
                                  have c47b0 : (a1 == 834) = true := beq_iff_eq.mpr c47
                                  have c47b1 : (a1 != 834) = false := bne_eq_false_iff_eq.mpr c47
                                  clear c47
                                  simp only [Option.some.injEq, Prod.mk.injEq] at H
                                  obtain ⟨rfl, rfl⟩ := H
                                  go_enter Try.func25, Try.ntmps25
                                  go_wp2_with (first | ((with_reducible refine gate_dst (N := 2) rfl ?_); refine box_event ?hg (N := 2) ?hd (cs := #[.int .u64 a0_0, .int .u64 a0_1, .int .u64 a0_2, .int .u64 a0_3, .int .u64 a0_4, .int .u64 a0_5, .int .u64 a0_6, .int .u64 a0_7, .int .u64 a0_8, .int .u64 a0_9, .int .u64 a0_10, .int .u64 a0_11, .int .u64 a0_12, .int .u64 a0_13, .int .u64 a0_14, .int .u64 a0_15, .int .u64 a0_16]) (t := 24) ?hr ?_; (case hd => rfl); (case hg => rfl); (case hr => first | (go_simp; done) | (go_simp; rfl)); intro gb103 hg w48 hbox hb; have n0_ := Aside0.mk (below_step (by repeat (first | (with_reducible first | exact HB.out | apply below_alloc | apply pw_below_drewN | apply below_drew1) | exact HB.out)) hb); have n1_ := Aside0.mk (hbox); have n2_ := Aside0.mk ((by rw [hg]; exact (below_size (by repeat (first | (with_reducible first | exact HB.out | apply below_alloc | apply pw_below_drewN | apply below_drew1) | exact HB.out))) : w.heap.size ≤ gb103)); have n3_ := Aside0.mk ((by rw [hg]; exact (below_size (by repeat (first | (with_reducible first | exact HB.out | apply below_alloc | apply pw_below_drewN | apply below_drew1) | exact HB.out))) : w.heap.size ≤ gb103)); clear HB; have HB := n0_; have BK103 := n1_; have GW103 := n2_; have GE103 := n3_; clear n0_ n1_ n2_ n3_; clear hb hbox hg; have hcz49_0 : w48.cell? ⟨gb103, 0, none⟩ = some (.int .u64 a0_0) := (blk_cell BK103.out 0).trans rfl; have hcz49_1 : w48.cell? ⟨gb103, 1, none⟩ = some (.int .u64 a0_1) := (blk_cell BK103.out 1).trans rfl; have hcz49_2 : w48.cell? ⟨gb103, 2, none⟩ = some (.int .u64 a0_2) := (blk_cell BK103.out 2).trans rfl; have hcz49_3 : w48.cell? ⟨gb103, 3, none⟩ = some (.int .u64 a0_3) := (blk_cell BK103.out 3).trans rfl; have hcz49_4 : w48.cell? ⟨gb103, 4, none⟩ = some (.int .u64 a0_4) := (blk_cell BK103.out 4).trans rfl; have hcz49_5 : w48.cell? ⟨gb103, 5, none⟩ = some (.int .u64 a0_5) := (blk_cell BK103.out 5).trans rfl; have hcz49_6 : w48.cell? ⟨gb103, 6, none⟩ = some (.int .u64 a0_6) := (blk_cell BK103.out 6).trans rfl; have hcz49_7 : w48.cell? ⟨gb103, 7, none⟩ = some (.int .u64 a0_7) := (blk_cell BK103.out 7).trans rfl; have hcz49_8 : w48.cell? ⟨gb103, 8, none⟩ = some (.int .u64 a0_8) := (blk_cell BK103.out 8).trans rfl; have hcz49_9 : w48.cell? ⟨gb103, 9, none⟩ = some (.int .u64 a0_9) := (blk_cell BK103.out 9).trans rfl; have hcz49_10 : w48.cell? ⟨gb103, 10, none⟩ = some (.int .u64 a0_10) := (blk_cell BK103.out 10).trans rfl; have hcz49_11 : w48.cell? ⟨gb103, 11, none⟩ = some (.int .u64 a0_11) := (blk_cell BK103.out 11).trans rfl; have hcz49_12 : w48.cell? ⟨gb103, 12, none⟩ = some (.int .u64 a0_12) := (blk_cell BK103.out 12).trans rfl; have hcz49_13 : w48.cell? ⟨gb103, 13, none⟩ = some (.int .u64 a0_13) := (blk_cell BK103.out 13).trans rfl; have hcz49_14 : w48.cell? ⟨gb103, 14, none⟩ = some (.int .u64 a0_14) := (blk_cell BK103.out 14).trans rfl; have hcz49_15 : w48.cell? ⟨gb103, 15, none⟩ = some (.int .u64 a0_15) := (blk_cell BK103.out 15).trans rfl; have hcz49_16 : w48.cell? ⟨gb103, 16, none⟩ = some (.int .u64 a0_16) := (blk_cell BK103.out 16).trans rfl; have hfz49_0 := blk_frozen BK103.out 0; have hfz49_1 := blk_frozen BK103.out 1; have hfz49_2 := blk_frozen BK103.out 2; have hfz49_3 := blk_frozen BK103.out 3; have hfz49_4 := blk_frozen BK103.out 4; have hfz49_5 := blk_frozen BK103.out 5; have hfz49_6 := blk_frozen BK103.out 6; have hfz49_7 := blk_frozen BK103.out 7; have hfz49_8 := blk_frozen BK103.out 8; have hfz49_9 := blk_frozen BK103.out 9; have hfz49_10 := blk_frozen BK103.out 10; have hfz49_11 := blk_frozen BK103.out 11; have hfz49_12 := blk_frozen BK103.out 12; have hfz49_13 := blk_frozen BK103.out 13; have hfz49_14 := blk_frozen BK103.out 14; have hfz49_15 := blk_frozen BK103.out 15; have hfz49_16 := blk_frozen BK103.out 16))
                                  go_ret2
                                  exact ⟨by first | rfl | (simp [errW_none, errW_some] <;> rfl) | (simp [*, errW_none, errW_some] <;> rfl), by repeat (first | (with_reducible first | exact HB.out | apply below_alloc | apply pw_below_drewN | apply below_drew1 | refine below_set ?_ GE103.out) | exact HB.out)⟩
                                · rw [if_neg c47] at H
                                  have c47b0 : (a1 == 834) = false := beq_eq_false_iff_ne.mpr c47
                                  have c47b1 : (a1 != 834) = true := bne_iff_ne.mpr c47
                                  by_cases c50 : a1 = 322
                                  · rw [if_pos c50] at H
                                    have c50b0 : (a1 == 322) = true := beq_iff_eq.mpr c50
                                    have c50b1 : (a1 != 322) = false := bne_eq_false_iff_eq.mpr c50
                                    clear c50
                                    simp only [Option.some.injEq, Prod.mk.injEq] at H
                                    obtain ⟨rfl, rfl⟩ := H
                                    go_enter Try.func25, Try.ntmps25
                                    go_wp2_with (first | ((with_reducible refine gate_dst (N := 2) rfl ?_); refine box_event ?hg (N := 2) ?hd (cs := #[.int .u64 a0_0, .int .u64 a0_1, .int .u64 a0_2, .int .u64 a0_3, .int .u64 a0_4, .int .u64 a0_5, .int .u64 a0_6, .int .u64 a0_7, .int .u64 a0_8, .int .u64 a0_9, .int .u64 a0_10, .int .u64 a0_11, .int .u64 a0_12, .int .u64 a0_13, .int .u64 a0_14, .int .u64 a0_15, .int .u64 a0_16]) (t := 24) ?hr ?_; (case hd => rfl); (case hg => rfl); (case hr => first | (go_simp; done) | (go_simp; rfl)); intro gb103 hg w51 hbox hb; have n0_ := Aside0.mk (below_step (by repeat (first | (with_reducible first | exact HB.out | apply below_alloc | apply pw_below_drewN | apply below_drew1) | exact HB.out)) hb); have n1_ := Aside0.mk (hbox); have n2_ := Aside0.mk ((by rw [hg]; exact (below_size (by repeat (first | (with_reducible first | exact HB.out | apply below_alloc | apply pw_below_drewN | apply below_drew1) | exact HB.out))) : w.heap.size ≤ gb103)); have n3_ := Aside0.mk ((by rw [hg]; exact (below_size (by repeat (first | (with_reducible first | exact HB.out | apply below_alloc | apply pw_below_drewN | apply below_drew1) | exact HB.out))) : w.heap.size ≤ gb103)); clear HB; have HB := n0_; have BK103 := n1_; have GW103 := n2_; have GE103 := n3_; clear n0_ n1_ n2_ n3_; clear hb hbox hg; have hcz52_0 : w51.cell? ⟨gb103, 0, none⟩ = some (.int .u64 a0_0) := (blk_cell BK103.out 0).trans rfl; have hcz52_1 : w51.cell? ⟨gb103, 1, none⟩ = some (.int .u64 a0_1) := (blk_cell BK103.out 1).trans rfl; have hcz52_2 : w51.cell? ⟨gb103, 2, none⟩ = some (.int .u64 a0_2) := (blk_cell BK103.out 2).trans rfl; have hcz52_3 : w51.cell? ⟨gb103, 3, none⟩ = some (.int .u64 a0_3) := (blk_cell BK103.out 3).trans rfl; have hcz52_4 : w51.cell? ⟨gb103, 4, none⟩ = some (.int .u64 a0_4) := (blk_cell BK103.out 4).trans rfl; have hcz52_5 : w51.cell? ⟨gb103, 5, none⟩ = some (.int .u64 a0_5) := (blk_cell BK103.out 5).trans rfl; have hcz52_6 : w51.cell? ⟨gb103, 6, none⟩ = some (.int .u64 a0_6) := (blk_cell BK103.out 6).trans rfl; have hcz52_7 : w51.cell? ⟨gb103, 7, none⟩ = some (.int .u64 a0_7) := (blk_cell BK103.out 7).trans rfl; have hcz52_8 : w51.cell? ⟨gb103, 8, none⟩ = some (.int .u64 a0_8) := (blk_cell BK103.out 8).trans rfl; have hcz52_9 : w51.cell? ⟨gb103, 9, none⟩ = some (.int .u64 a0_9) := (blk_cell BK103.out 9).trans rfl; have hcz52_10 : w51.cell? ⟨gb103, 10, none⟩ = some (.int .u64 a0_10) := (blk_cell BK103.out 10).trans rfl; have hcz52_11 : w51.cell? ⟨gb103, 11, none⟩ = some (.int .u64 a0_11) := (blk_cell BK103.out 11).trans rfl; have hcz52_12 : w51.cell? ⟨gb103, 12, none⟩ = some (.int .u64 a0_12) := (blk_cell BK103.out 12).trans rfl; have hcz52_13 : w51.cell? ⟨gb103, 13, none⟩ = some (.int .u64 a0_13) := (blk_cell BK103.out 13).trans rfl; have hcz52_14 : w51.cell? ⟨gb103, 14, none⟩ = some (.int .u64 a0_14) := (blk_cell BK103.out 14).trans rfl; have hcz52_15 : w51.cell? ⟨gb103, 15, none⟩ = some (.int .u64 a0_15) := (blk_cell BK103.out 15).trans rfl; have hcz52_16 : w51.cell? ⟨gb103, 16, none⟩ = some (.int .u64 a0_16) := (blk_cell BK103.out 16).trans rfl; have hfz52_0 := blk_frozen BK103.out 0; have hfz52_1 := blk_frozen BK103.out 1; have hfz52_2 := blk_frozen BK103.out 2; have hfz52_3 := blk_frozen BK103.out 3; have hfz52_4 := blk_frozen BK103.out 4; have hfz52_5 := blk_frozen BK103.out 5; have hfz52_6 := blk_frozen BK103.out 6; have hfz52_7 := blk_frozen BK103.out 7; have hfz52_8 := blk_frozen BK103.out 8; have hfz52_9 := blk_frozen BK103.out 9; have hfz52_10 := blk_frozen BK103.out 10; have hfz52_11 := blk_frozen BK103.out 11; have hfz52_12 := blk_frozen BK103.out 12; have hfz52_13 := blk_frozen BK103.out 13; have hfz52_14 := blk_frozen BK103.out 14; have hfz52_15 := blk_frozen BK103.out 15; have hfz52_16 := blk_frozen BK103.out 16))
                                    go_ret2
                                    exact ⟨by first | rfl | (simp [errW_none, errW_some] <;> rfl) | (simp [*, errW_none, errW_some] <;> rfl), by repeat (first | (with_reducible first | exact HB.out | apply below_alloc | apply pw_below_drewN | apply below_drew1 | refine below_set ?_ GE103.out) | exact HB.out)⟩
                                  · rw [if_neg c50] at H
                                    have c50b0 : (a1 == 322) = false := beq_eq_false_iff_ne.mpr c50
                                    have c50b1 : (a1 != 322) = true := bne_iff_ne.mpr c50
                                    by_cases c53 : a1 = 835
                                    · rw [if_pos c53] at H
                                      have c53b0 : (a1 == 835) = true := beq_iff_eq.mpr c53
                                      have c53b1 : (a1 != 835) = false := bne_eq_false_iff_eq.mpr c53
                                      clear c53
                                      simp only [Option.some.injEq, Prod.mk.injEq] at H
                                      obtain ⟨rfl, rfl⟩ := H
                                      go_enter Try.func25, Try.ntmps25
                                      go_wp2_with (first | ((with_reducible refine gate_dst (N := 2) rfl ?_); refine box_event ?hg (N := 2) ?hd (cs := #[.int .u64 a0_0, .int .u64 a0_1, .int .u64 a0_2, .int .u64 a0_3, .int .u64 a0_4, .int .u64 a0_5, .int .u64 a0_6, .int .u64 a0_7, .int .u64 a0_8, .int .u64 a0_9, .int .u64 a0_10, .int .u64 a0_11, .int .u64 a0_12, .int .u64 a0_13, .int .u64 a0_14, .int .u64 a0_15, .int .u64 a0_16]) (t := 24) ?hr ?_; (case hd => rfl); (case hg => rfl); (case hr => first | (go_simp; done) | (go_simp; rfl)); intro gb103 hg w54 hbox hb; have n0_ := Aside0.mk (below_step (by repeat (first | (with_reducible first | exact HB.out | apply below_alloc | apply pw_below_drewN | apply below_drew1) | exact HB.out)) hb); have n1_ := Aside0.mk (hbox); have n2_ := Aside0.mk ((by rw [hg]; exact (below_size (by repeat (first | (with_reducible first | exact HB.out | apply below_alloc | apply pw_below_drewN | apply below_drew1) | exact HB.out))) : w.heap.size ≤ gb103)); have n3_ := Aside0.mk ((by rw [hg]; exact (below_size (by repeat (first | (with_reducible first | exact HB.out | apply below_alloc | apply pw_below_drewN | apply below_drew1) | exact HB.out))) : w.heap.size ≤ gb103)); clear HB; have HB := n0_; have BK103 := n1_; have GW103 := n2_; have GE103 := n3_; clear n0_ n1_ n2_ n3_; clear hb hbox hg; have hcz55_0 : w54.cell? ⟨gb103, 0, none⟩ = some (.int .u64 a0_0) := (blk_cell BK103.out 0).trans rfl; have hcz55_1 : w54.cell? ⟨gb103, 1, none⟩ = some (.int .u64 a0_1) := (blk_cell BK103.out 1).trans rfl; have hcz55_2 : w54.cell? ⟨gb103, 2, none⟩ = some (.int .u64 a0_2) := (blk_cell BK103.out 2).trans rfl; have hcz55_3 : w54.cell? ⟨gb103, 3, none⟩ = some (.int .u64 a0_3) := (blk_cell BK103.out 3).trans rfl; have hcz55_4 : w54.cell? ⟨gb103, 4, none⟩ = some (.int .u64 a0_4) := (blk_cell BK103.out 4).trans rfl; have hcz55_5 : w54.cell? ⟨gb103, 5, none⟩ = some (.int .u64 a0_5) := (blk_cell BK103.out 5).trans rfl; have hcz55_6 : w54.cell? ⟨gb103, 6, none⟩ = some (.int .u64 a0_6) := (blk_cell BK103.out 6).trans rfl; have hcz55_7 : w54.cell? ⟨gb103, 7, none⟩ = some (.int .u64 a0_7) := (blk_cell BK103.out 7).trans rfl; have hcz55_8 : w54.cell? ⟨gb103, 8, none⟩ = some (.int .u64 a0_8) := (blk_cell BK103.out 8).trans rfl; have hcz55_9 : w54.cell? ⟨gb103, 9, none⟩ = some (.int .u64 a0_9) := (blk_cell BK103.out 9).trans rfl; have hcz55_10 : w54.cell? ⟨gb103, 10, none⟩ = some (.int .u64 a0_10) := (blk_cell BK103.out 10).trans rfl; have hcz55_11 : w54.cell? ⟨gb103, 11, none⟩ = some (.int .u64 a0_11) := (blk_cell BK103.out 11).trans rfl; have hcz55_12 : w54.cell? ⟨gb103, 12, none⟩ = some (.int .u64 a0_12) := (blk_cell BK103.out 12).trans rfl; have hcz55_13 : w54.cell? ⟨gb103, 13, none⟩ = some (.int .u64 a0_13) := (blk_cell BK103.out 13).trans rfl; have hcz55_14 : w54.cell? ⟨gb103, 14, none⟩ = some (.int .u64 a0_14) := (blk_cell BK103.out 14).trans rfl; have hcz55_15 : w54.cell? ⟨gb103, 15, none⟩ = some (.int .u64 a0_15) := (blk_cell BK103.out 15).trans rfl; have hcz55_16 : w54.cell? ⟨gb103, 16, none⟩ = some (.int .u64 a0_16) := (blk_cell BK103.out 16).trans rfl; have hfz55_0 := blk_frozen BK103.out 0; have hfz55_1 := blk_frozen BK103.out 1; have hfz55_2 := blk_frozen BK103.out 2; have hfz55_3 := blk_frozen BK103.out 3; have hfz55_4 := blk_frozen BK103.out 4; have hfz55_5 := blk_frozen BK103.out 5; have hfz55_6 := blk_frozen BK103.out 6; have hfz55_7 := blk_frozen BK103.out 7; have hfz55_8 := blk_frozen BK103.out 8; have hfz55_9 := blk_frozen BK103.out 9; have hfz55_10 := blk_frozen BK103.out 10; have hfz55_11 := blk_frozen BK103.out 11; have hfz55_12 := blk_frozen BK103.out 12; have hfz55_13 := blk_frozen BK103.out 13; have hfz55_14 := blk_frozen BK103.out 14; have hfz55_15 := blk_frozen BK103.out 15; have hfz55_16 := blk_frozen BK103.out 16))
                                      go_ret2
                                      exact ⟨by first | rfl | (simp [errW_none, errW_some] <;> rfl) | (simp [*, errW_none, errW_some] <;> rfl), by repeat (first | (with_reducible first | exact HB.out | apply below_alloc | apply pw_below_drewN | apply below_drew1 | refine below_set ?_ GE103.out) | exact HB.out)⟩
                                    · rw [if_neg c53] at H
                                      have c53b0 : (a1 == 835) = false := beq_eq_false_iff_ne.mpr c53
                                      have c53b1 : (a1 != 835) = true := bne_iff_ne.mpr c53
                                      by_cases c56 : a1 = 323
                                      · rw [if_pos c56] at H
                                        have c56b0 : (a1 == 323) = true := beq_iff_eq.mpr c56
                                        have c56b1 : (a1 != 323) = false := bne_eq_false_iff_eq.mpr c56
                                        clear c56
                                        simp only [Option.some.injEq, Prod.mk.injEq] at H
                                        obtain ⟨rfl, rfl⟩ := H
                                        go_enter Try.func25, Try.ntmps25
                                        go_wp2_with (first | ((with_reducible refine gate_dst (N := 2) rfl ?_); refine box_event ?hg (N := 2) ?hd (cs := #[.int .u64 a0_0, .int .u64 a0_1, .int .u64 a0_2, .int .u64 a0_3, .int .u64 a0_4, .int .u64 a0_5, .int .u64 a0_6, .int .u64 a0_7, .int .u64 a0_8, .int .u64 a0_9, .int .u64 a0_10, .int .u64 a0_11, .int .u64 a0_12, .int .u64 a0_13, .int .u64 a0_14, .int .u64 a0_15, .int .u64 a0_16]) (t := 24) ?hr ?_; (case hd => rfl); (case hg => rfl); (case hr => first | (go_simp; done) | (go_simp; rfl)); intro gb103 hg w57 hbox hb; have n0_ := Aside0.mk (below_step (by repeat (first | (with_reducible first | exact HB.out | apply below_alloc | apply pw_below_drewN | apply below_drew1) | exact HB.out)) hb); have n1_ := Aside0.mk (hbox); have n2_ := Aside0.mk ((by rw [hg]; exact (below_size (by repeat (first | (with_reducible first | exact HB.out | apply below_alloc | apply pw_below_drewN | apply below_drew1) | exact HB.out))) : w.heap.size ≤ gb103)); have n3_ := Aside0.mk ((by rw [hg]; exact (below_size (by repeat (first | (with_reducible first | exact HB.out | apply below_alloc | apply pw_below_drewN | apply below_drew1) | exact HB.out))) : w.heap.size ≤ gb103)); clear HB; have HB := n0_; have BK103 := n1_; have GW103 := n2_; have GE103 := n3_; clear n0_ n1_ n2_ n3_; clear hb hbox hg; have hcz58_0 : w57.cell? ⟨gb103, 0, none⟩ = some (.int .u64 a0_0) := (blk_cell BK103.out 0).trans rfl; have hcz58_1 : w57.cell? ⟨gb103, 1, none⟩ = some (.int .u64 a0_1) := (blk_cell BK103.out 1).trans rfl; have hcz58_2 : w57.cell? ⟨gb103, 2, none⟩ = some (.int .u64 a0_2) := (blk_cell BK103.out 2).trans rfl; have hcz58_3 : w57.cell? ⟨gb103, 3, none⟩ = some (.int .u64 a0_3) := (blk_cell BK103.out 3).trans rfl; have hcz58_4 : w57.cell? ⟨gb103, 4, none⟩ = some (.int .u64 a0_4) := (blk_cell BK103.out 4).trans rfl; have hcz58_5 : w57.cell? ⟨gb103, 5, none⟩ = some (.int .u64 a0_5) := (blk_cell BK103.out 5).trans rfl; have hcz58_6 : w57.cell? ⟨gb103, 6, none⟩ = some (.int .u64 a0_6) := (blk_cell BK103.out 6).trans rfl; have hcz58_7 : w57.cell? ⟨gb103, 7, none⟩ = some (.int .u64 a0_7) := (blk_cell BK103.out 7).trans rfl; have hcz58_8 : w57.cell? ⟨gb103, 8, none⟩ = some (.int .u64 a0_8) := (blk_cell BK103.out 8).trans rfl; have hcz58_9 : w57.cell? ⟨gb103, 9, none⟩ = some (.int .u64 a0_9) := (blk_cell BK103.out 9).trans rfl; have hcz58_10 : w57.cell? ⟨gb103, 10, none⟩ = some (.int .u64 a0_10) := (blk_cell BK103.out 10).trans rfl; have hcz58_11 : w57.cell? ⟨gb103, 11, none⟩ = some (.int .u64 a0_11) := (blk_cell BK103.out 11).trans rfl; have hcz58_12 : w57.cell? ⟨gb103, 12, none⟩ = some (.int .u64 a0_12) := (blk_cell BK103.out 12).trans rfl; have hcz58_13 : w57.cell? ⟨gb103, 13, none⟩ = some (.int .u64 a0_13) := (blk_cell BK103.out 13).trans rfl; have hcz58_14 : w57.cell? ⟨gb103, 14, none⟩ = some (.int .u64 a0_14) := (blk_cell BK103.out 14).trans rfl; have hcz58_15 : w57.cell? ⟨gb103, 15, none⟩ = some (.int .u64 a0_15) := (blk_cell BK103.out 15).trans rfl; have hcz58_16 : w57.cell? ⟨gb103, 16, none⟩ = some (.int .u64 a0_16) := (blk_cell BK103.out 16).trans rfl; have hfz58_0 := blk_frozen BK103.out 0; have hfz58_1 := blk_frozen BK103.out 1; have hfz58_2 := blk_frozen BK103.out 2; have hfz58_3 := blk_frozen BK103.out 3; have hfz58_4 := blk_frozen BK103.out 4; have hfz58_5 := blk_frozen BK103.out 5; have hfz58_6 := blk_frozen BK103.out 6; have hfz58_7 := blk_frozen BK103.out 7; have hfz58_8 := blk_frozen BK103.out 8; have hfz58_9 := blk_frozen BK103.out 9; have hfz58_10 := blk_frozen BK103.out 10; have hfz58_11 := blk_frozen BK103.out 11; have hfz58_12 := blk_frozen BK103.out 12; have hfz58_13 := blk_frozen BK103.out 13; have hfz58_14 := blk_frozen BK103.out 14; have hfz58_15 := blk_frozen BK103.out 15; have hfz58_16 := blk_frozen BK103.out 16))
                                        go_ret2
                                        exact ⟨by first | rfl | (simp [errW_none, errW_some] <;> rfl) | (simp [*, errW_none, errW_some] <;> rfl), by repeat (first | (with_reducible first | exact HB.out | apply below_alloc | apply pw_below_drewN | apply below_drew1 | refine below_set ?_ GE103.out) | exact HB.out)⟩
                                      · rw [if_neg c56] at H
                                        have c56b0 : (a1 == 323) = false := beq_eq_false_iff_ne.mpr c56
                                        have c56b1 : (a1 != 323) = true := bne_iff_ne.mpr c56
                                        by_cases c59 : a1 = 384
                                        · rw [if_pos c59] at H
                                          have c59b0 : (a1 == 384) = true := beq_iff_eq.mpr c59
                                          have c59b1 : (a1 != 384) = false := bne_eq_false_iff_eq.mpr c59
                                          clear c59
                                          simp only [Option.some.injEq, Prod.mk.injEq] at H
                                          obtain ⟨rfl, rfl⟩ := H
                                          go_enter Try.func25, Try.ntmps25
                                          go_wp2_with (first | ((with_reducible refine gate_dst (N := 2) rfl ?_); refine box_event ?hg (N := 2) ?hd (cs := #[.int .u64 a0_0, .int .u64 a0_1, .int .u64 a0_2, .int .u64 a0_3, .int .u64 a0_4, .int .u64 a0_5, .int .u64 a0_6, .int .u64 a0_7, .int .u64 a0_8, .int .u64 a0_9, .int .u64 a0_10, .int .u64 a0_11, .int .u64 a0_12, .int .u64 a0_13, .int .u64 a0_14, .int .u64 a0_15, .int .u64 a0_16]) (t := 24) ?hr ?_; (case hd => rfl); (case hg => rfl); (case hr => first | (go_simp; done) | (go_simp; rfl)); intro gb103 hg w60 hbox hb; have n0_ := Aside0.mk (below_step (by repeat (first | (with_reducible first | exact HB.out | apply below_alloc | apply pw_below_drewN | apply below_drew1) | exact HB.out)) hb); have n1_ := Aside0.mk (hbox); have n2_ := Aside0.mk ((by rw [hg]; exact (below_size (by repeat (first | (with_reducible first | exact HB.out | apply below_alloc | apply pw_below_drewN | apply below_drew1) | exact HB.out))) : w.heap.size ≤ gb103)); have n3_ := Aside0.mk ((by rw [hg]; exact (below_size (by repeat (first | (with_reducible first | exact HB.out | apply below_alloc | apply pw_below_drewN | apply below_drew1) | exact HB.out))) : w.heap.size ≤ gb103)); clear HB; have HB := n0_; have BK103 := n1_; have GW103 := n2_; have GE103 := n3_; clear n0_ n1_ n2_ n3_; clear hb hbox hg; have hcz61_0 : w60.cell? ⟨gb103, 0, none⟩ = some (.int .u64 a0_0) := (blk_cell BK103.out 0).trans rfl; have hcz61_1 : w60.cell? ⟨gb103, 1, none⟩ = some (.int .u64 a0_1) := (blk_cell BK103.out 1).trans rfl; have hcz61_2 : w60.cell? ⟨gb103, 2, none⟩ = some (.int .u64 a0_2) := (blk_cell BK103.out 2).trans rfl; have hcz61_3 : w60.cell? ⟨gb103, 3, none⟩ = some (.int .u64 a0_3) := (blk_cell BK103.out 3).trans rfl; have hcz61_4 : w60.cell? ⟨gb103, 4, none⟩ = some (.int .u64 a0_4) := (blk_cell BK103.out 4).trans rfl; have hcz61_5 : w60.cell? ⟨gb103, 5, none⟩ = some (.int .u64 a0_5) := (blk_cell BK103.out 5).trans rfl; have hcz61_6 : w60.cell? ⟨gb103, 6, none⟩ = some (.int .u64 a0_6) := (blk_cell BK103.out 6).trans rfl; have hcz61_7 : w60.cell? ⟨gb103, 7, none⟩ = some (.int .u64 a0_7) := (blk_cell BK103.out 7).trans rfl; have hcz61_8 : w60.cell? ⟨gb103, 8, none⟩ = some (.int .u64 a0_8) := (blk_cell BK103.out 8).trans rfl; have hcz61_9 : w60.cell? ⟨gb103, 9, none⟩ = some (.int .u64 a0_9) := (blk_cell BK103.out 9).trans rfl; have hcz61_10 : w60.cell? ⟨gb103, 10, none⟩ = some (.int .u64 a0_10) := (blk_cell BK103.out 10).trans rfl; have hcz61_11 : w60.cell? ⟨gb103, 11, none⟩ = some (.int .u64 a0_11) := (blk_cell BK103.out 11).trans rfl; have hcz61_12 : w60.cell? ⟨gb103, 12, none⟩ = some (.int .u64 a0_12) := (blk_cell BK103.out 12).trans rfl; have hcz61_13 : w60.cell? ⟨gb103, 13, none⟩ = some (.int .u64 a0_13) := (blk_cell BK103.out 13).trans rfl; have hcz61_14 : w60.cell? ⟨gb103, 14, none⟩ = some (.int .u64 a0_14) := (blk_cell BK103.out 14).trans rfl; have hcz61_15 : w60.cell? ⟨gb103, 15, none⟩ = some (.int .u64 a0_15) := (blk_cell BK103.out 15).trans rfl; have hcz61_16 : w60.cell? ⟨gb103, 16, none⟩ = some (.int .u64 a0_16) := (blk_cell BK103.out 16).trans rfl; have hfz61_0 := blk_frozen BK103.out 0; have hfz61_1 := blk_frozen BK103.out 1; have hfz61_2 := blk_frozen BK103.out 2; have hfz61_3 := blk_frozen BK103.out 3; have hfz61_4 := blk_frozen BK103.out 4; have hfz61_5 := blk_frozen BK103.out 5; have hfz61_6 := blk_frozen BK103.out 6; have hfz61_7 := blk_frozen BK103.out 7; have hfz61_8 := blk_frozen BK103.out 8; have hfz61_9 := blk_frozen BK103.out 9; have hfz61_10 := blk_frozen BK103.out 10; have hfz61_11 := blk_frozen BK103.out 11; have hfz61_12 := blk_frozen BK103.out 12; have hfz61_13 := blk_frozen BK103.out 13; have hfz61_14 := blk_frozen BK103.out 14; have hfz61_15 := blk_frozen BK103.out 15; have hfz61_16 := blk_frozen BK103.out 16))
                                          go_ret2
                                          exact ⟨by first | rfl | (simp [errW_none, errW_some] <;> rfl) | (simp [*, errW_none, errW_some] <;> rfl), by repeat (first | (with_reducible first | exact HB.out | apply below_alloc | apply pw_below_drewN | apply below_drew1 | refine below_set ?_ GE103.out) | exact HB.out)⟩
                                        · rw [if_neg c59] at H
                                          have c59b0 : (a1 == 384) = false := beq_eq_false_iff_ne.mpr c59
                                          have c59b1 : (a1 != 384) = true := bne_iff_ne.mpr c59
                                          have HC62 := Aside0.mk H
                                          clear H
                                          go_enter Try.func25, Try.ntmps25
                                          go_upto_if 95 with (first | ((with_reducible refine gate_dst (N := 2) rfl ?_); refine box_event ?hg (N := 2) ?hd (cs := #[.int .u64 a0_0, .int .u64 a0_1, .int .u64 a0_2, .int .u64 a0_3, .int .u64 a0_4, .int .u64 a0_5, .int .u64 a0_6, .int .u64 a0_7, .int .u64 a0_8, .int .u64 a0_9, .int .u64 a0_10, .int .u64 a0_11, .int .u64 a0_12, .int .u64 a0_13, .int .u64 a0_14, .int .u64 a0_15, .int .u64 a0_16]) (t := 24) ?hr ?_; (case hd => rfl); (case hg => rfl); (case hr => first | (go_simp; done) | (go_simp; rfl)); intro gb103 hg w63 hbox hb; have n0_ := Aside0.mk (below_step (by repeat (first | (with_reducible first | exact HB.out | apply below_alloc | apply pw_below_drewN | apply below_drew1) | exact HB.out)) hb); have n1_ := Aside0.mk (hbox); have n2_ := Aside0.mk ((by rw [hg]; exact (below_size (by repeat (first | (with_reducible first | exact HB.out | apply below_alloc | apply pw_below_drewN | apply below_drew1) | exact HB.out))) : w.heap.size ≤ gb103)); have n3_ := Aside0.mk ((by rw [hg]; exact (below_size (by repeat (first | (with_reducible first | exact HB.out | apply below_alloc | apply pw_below_drewN | apply below_drew1) | exact HB.out))) : w.heap.size ≤ gb103)); clear HB; have HB := n0_; have BK103 := n1_; have GW103 := n2_; have GE103 := n3_; clear n0_ n1_ n2_ n3_; clear hb hbox hg))
                                          (try simp only [Act.put, List.setIfInBounds_toArray, List.set_cons_zero, List.set_cons_succ])
                                          go_cut [95] (fun v95 wc => ∃ (kq : Nat) (x95_61 : Bool), v95 = .bool x95_61 ∧ Aside0 (drawbridgeref05_value.j0 kq a1 x95_61 a0_0 a0_1 a0_2 a0_3 a0_4 a0_5 a0_6 a0_7 a0_8 a0_9 a0_10 a0_11 a0_12 a0_13 a0_14 a0_15 a0_16 = some (r1, r2)) ∧ Aside0 (kq ≤ k) ∧ Aside0 (wc.heap[gb103]? = some (.cells #[.int .u64 a0_0, .int .u64 a0_1, .int .u64 a0_2, .int .u64 a0_3, .int .u64 a0_4, .int .u64 a0_5, .int .u64 a0_6, .int .u64 a0_7, .int .u64 a0_8, .int .u64 a0_9, .int .u64 a0_10, .int .u64 a0_11, .int .u64 a0_12, .int .u64 a0_13, .int .u64 a0_14, .int .u64 a0_15, .int .u64 a0_16] 24 (0, 0))) ∧ Aside0 (Below w.heap.size w wc))
                                          case first =>
                                            have H := HC62.out
                                            clear HC62
                                            by_cases c64 : a1 = 2816
                                            · rw [if_pos c64] at H
                                              have c64b0 : (a1 == 2816) = true := beq_iff_eq.mpr c64
                                              have c64b1 : (a1 != 2816) = false := bne_eq_false_iff_eq.mpr c64
                                              clear c64
                                              (first | rw [c64b0] | (simp only [i64_w, i32_w]; rw [c64b0]) | skip)
                                              have H' := Aside0.mk H
                                              clear H
                                              go_wp2
                                              go_meet
                                              case rel => exact ⟨_, ((a1 == 2816)), (by first | rfl | (simp; done) | (simp [*]; done)), H', ⟨by first | omega | exact Nat.le_refl _⟩, ⟨by (with_reducible repeat (first | refine blk_drewN ?_ _ | refine blk_drew ?_ | refine blk_alloc ?_ _)); exact BK103.out⟩, ⟨by repeat (first | (with_reducible first | exact HB.out | apply below_alloc | apply pw_below_drewN | apply below_drew1 | refine below_set ?_ GE103.out) | exact HB.out)⟩⟩
                                            · rw [if_neg c64] at H
                                              have c64b0 : (a1 == 2816) = false := beq_eq_false_iff_ne.mpr c64
                                              have c64b1 : (a1 != 2816) = true := bne_iff_ne.mpr c64
                                              (first | rw [c64b0] | (simp only [i64_w, i32_w]; rw [c64b0]) | skip)
                                              have H' := Aside0.mk H
                                              clear H
                                              go_wp2
                                              go_meet
                                              case rel => exact ⟨_, ((a1 == 3072)), (by first | rfl | (simp; done) | (simp [*]; done)), H', ⟨by first | omega | exact Nat.le_refl _⟩, ⟨by (with_reducible repeat (first | refine blk_drewN ?_ _ | refine blk_drew ?_ | refine blk_alloc ?_ _)); exact BK103.out⟩, ⟨by repeat (first | (with_reducible first | exact HB.out | apply below_alloc | apply pw_below_drewN | apply below_drew1 | refine below_set ?_ GE103.out) | exact HB.out)⟩⟩
                                          case rest =>
                                            clear HC62
                                            try clear c1
                                            try clear c2
                                            try clear p2
                                            try clear c3
                                            try clear c3b0
                                            try clear c3b1
                                            try clear c4
                                            try clear c5
                                            try clear c6
                                            try clear c6b0
                                            try clear c6b1
                                            try clear c9
                                            try clear c9b0
                                            try clear c9b1
                                            try clear c11
                                            try clear c11b0
                                            try clear c11b1
                                            try clear c14
                                            try clear c14b0
                                            try clear c14b1
                                            try clear c17
                                            try clear c17b0
                                            try clear c17b1
                                            try clear c20
                                            try clear c20b0
                                            try clear c20b1
                                            try clear c23
                                            try clear c23b0
                                            try clear c23b1
                                            try clear c25
                                            try clear c26
                                            try clear c26b0
                                            try clear c26b1
                                            try clear c29
                                            try clear c29b0
                                            try clear c29b1
                                            try clear c32
                                            try clear c32b0
                                            try clear c32b1
                                            try clear c35
                                            try clear c35b0
                                            try clear c35b1
                                            try clear c38
                                            try clear c38b0
                                            try clear c38b1
                                            try clear c41
                                            try clear c41b0
                                            try clear c41b1
                                            try clear c44
                                            try clear c44b0
                                            try clear c44b1
                                            try clear c47
                                            try clear c47b0
                                            try clear c47b1
                                            try clear c50
                                            try clear c50b0
                                            try clear c50b1
                                            try clear c53
                                            try clear c53b0
                                            try clear c53b1
                                            try clear c56
                                            try clear c56b0
                                            try clear c56b1
                                            try clear c59
                                            try clear c59b0
                                            try clear c59b1
                                            try clear c64
                                            try clear c64b0
                                            try clear c64b1
                                            try clear hcz13_0
                                            try clear hcz13_1
                                            try clear hcz13_10
                                            try clear hcz13_11
                                            try clear hcz13_12
                                            try clear hcz13_13
                                            try clear hcz13_14
                                            try clear hcz13_15
                                            try clear hcz13_16
                                            try clear hcz13_2
                                            try clear hcz13_3
                                            try clear hcz13_4
                                            try clear hcz13_5
                                            try clear hcz13_6
                                            try clear hcz13_7
                                            try clear hcz13_8
                                            try clear hcz13_9
                                            try clear hcz16_0
                                            try clear hcz16_1
                                            try clear hcz16_10
                                            try clear hcz16_11
                                            try clear hcz16_12
                                            try clear hcz16_13
                                            try clear hcz16_14
                                            try clear hcz16_15
                                            try clear hcz16_16
                                            try clear hcz16_2
                                            try clear hcz16_3
                                            try clear hcz16_4
                                            try clear hcz16_5
                                            try clear hcz16_6
                                            try clear hcz16_7
                                            try clear hcz16_8
                                            try clear hcz16_9
                                            try clear hcz19_0
                                            try clear hcz19_1
                                            try clear hcz19_10
                                            try clear hcz19_11
                                            try clear hcz19_12
                                            try clear hcz19_13
                                            try clear hcz19_14
                                            try clear hcz19_15
                                            try clear hcz19_16
                                            try clear hcz19_2
                                            try clear hcz19_3
                                            try clear hcz19_4
                                            try clear hcz19_5
                                            try clear hcz19_6
                                            try clear hcz19_7
                                            try clear hcz19_8
                                            try clear hcz19_9
                                            try clear hcz22_0
                                            try clear hcz22_1
                                            try clear hcz22_10
                                            try clear hcz22_11
                                            try clear hcz22_12
                                            try clear hcz22_13
                                            try clear hcz22_14
                                            try clear hcz22_15
                                            try clear hcz22_16
                                            try clear hcz22_2
                                            try clear hcz22_3
                                            try clear hcz22_4
                                            try clear hcz22_5
                                            try clear hcz22_6
                                            try clear hcz22_7
                                            try clear hcz22_8
                                            try clear hcz22_9
                                            try clear hcz25_0
                                            try clear hcz25_1
                                            try clear hcz25_10
                                            try clear hcz25_11
                                            try clear hcz25_12
                                            try clear hcz25_13
                                            try clear hcz25_14
                                            try clear hcz25_15
                                            try clear hcz25_16
                                            try clear hcz25_2
                                            try clear hcz25_3
                                            try clear hcz25_4
                                            try clear hcz25_5
                                            try clear hcz25_6
                                            try clear hcz25_7
                                            try clear hcz25_8
                                            try clear hcz25_9
                                            try clear hcz28_0
                                            try clear hcz28_1
                                            try clear hcz28_10
                                            try clear hcz28_11
                                            try clear hcz28_12
                                            try clear hcz28_13
                                            try clear hcz28_14
                                            try clear hcz28_15
                                            try clear hcz28_16
                                            try clear hcz28_2
                                            try clear hcz28_3
                                            try clear hcz28_4
                                            try clear hcz28_5
                                            try clear hcz28_6
                                            try clear hcz28_7
                                            try clear hcz28_8
                                            try clear hcz28_9
                                            try clear hcz31_0
                                            try clear hcz31_1
                                            try clear hcz31_10
                                            try clear hcz31_11
                                            try clear hcz31_12
                                            try clear hcz31_13
                                            try clear hcz31_14
                                            try clear hcz31_15
                                            try clear hcz31_16
                                            try clear hcz31_2
                                            try clear hcz31_3
                                            try clear hcz31_4
                                            try clear hcz31_5
                                            try clear hcz31_6
                                            try clear hcz31_7
                                            try clear hcz31_8
                                            try clear hcz31_9
                                            try clear hcz34_0
                                            try clear hcz34_1
                                            try clear hcz34_10
                                            try clear hcz34_11
                                            try clear hcz34_12
                                            try clear hcz34_13
                                            try clear hcz34_14
                                            try clear hcz34_15
                                            try clear hcz34_16
                                            try clear hcz34_2
                                            try clear hcz34_3
                                            try clear hcz34_4
                                            try clear hcz34_5
                                            try clear hcz34_6
                                            try clear hcz34_7
                                            try clear hcz34_8
                                            try clear hcz34_9
                                            try clear hcz37_0
                                            try clear hcz37_1
                                            try clear hcz37_10
                                            try clear hcz37_11
                                            try clear hcz37_12
                                            try clear hcz37_13
                                            try clear hcz37_14
                                            try clear hcz37_15
                                            try clear hcz37_16
                                            try clear hcz37_2
                                            try clear hcz37_3
                                            try clear hcz37_4
                                            try clear hcz37_5
                                            try clear hcz37_6
                                            try clear hcz37_7
                                            try clear hcz37_8
                                            try clear hcz37_9
                                            try clear hcz40_0
                                            try clear hcz40_1
                                            try clear hcz40_10
                                            try clear hcz40_11
                                            try clear hcz40_12
                                            try clear hcz40_13
                                            try clear hcz40_14
                                            try clear hcz40_15
                                            try clear hcz40_16
                                            try clear hcz40_2
                                            try clear hcz40_3
                                            try clear hcz40_4
                                            try clear hcz40_5
                                            try clear hcz40_6
                                            try clear hcz40_7
                                            try clear hcz40_8
                                            try clear hcz40_9
                                            try clear hcz43_0
                                            try clear hcz43_1
                                            try clear hcz43_10
                                            try clear hcz43_11
                                            try clear hcz43_12
                                            try clear hcz43_13
                                            try clear hcz43_14
                                            try clear hcz43_15
                                            try clear hcz43_16
                                            try clear hcz43_2
                                            try clear hcz43_3
                                            try clear hcz43_4
                                            try clear hcz43_5
                                            try clear hcz43_6
                                            try clear hcz43_7
                                            try clear hcz43_8
                                            try clear hcz43_9
                                            try clear hcz46_0
                                            try clear hcz46_1
                                            try clear hcz46_10
                                            try clear hcz46_11
                                            try clear hcz46_12
                                            try clear hcz46_13
                                            try clear hcz46_14
                                            try clear hcz46_15
                                            try clear hcz46_16
                                            try clear hcz46_2
                                            try clear hcz46_3
                                            try clear hcz46_4
                                            try clear hcz46_5
                                            try clear hcz46_6
                                            try clear hcz46_7
                                            try clear hcz46_8
                                            try clear hcz46_9
                                            try clear hcz49_0
                                            try clear hcz49_1
                                            try clear hcz49_10
                                            try clear hcz49_11
                                            try clear hcz49_12
                                            try clear hcz49_13
                                            try clear hcz49_14
                                            try clear hcz49_15
                                            try clear hcz49_16
                                            try clear hcz49_2
                                            try clear hcz49_3
                                            try clear hcz49_4
                                            try clear hcz49_5
                                            try clear hcz49_6
                                            try clear hcz49_7
                                            try clear hcz49_8
                                            try clear hcz49_9
                                            try clear hcz52_0
                                            try clear hcz52_1
                                            try clear hcz52_10
                                            try clear hcz52_11
                                            try clear hcz52_12
                                            try clear hcz52_13
                                            try clear hcz52_14
                                            try clear hcz52_15
                                            try clear hcz52_16
                                            try clear hcz52_2
                                            try clear hcz52_3
                                            try clear hcz52_4
                                            try clear hcz52_5
                                            try clear hcz52_6
                                            try clear hcz52_7
                                            try clear hcz52_8
                                            try clear hcz52_9
                                            try clear hcz55_0
                                            try clear hcz55_1
                                            try clear hcz55_10
                                            try clear hcz55_11
                                            try clear hcz55_12
                                            try clear hcz55_13
                                            try clear hcz55_14
                                            try clear hcz55_15
                                            try clear hcz55_16
                                            try clear hcz55_2
                                            try clear hcz55_3
                                            try clear hcz55_4
                                            try clear hcz55_5
                                            try clear hcz55_6
                                            try clear hcz55_7
                                            try clear hcz55_8
                                            try clear hcz55_9
                                            try clear hcz58_0
                                            try clear hcz58_1
                                            try clear hcz58_10
                                            try clear hcz58_11
                                            try clear hcz58_12
                                            try clear hcz58_13
                                            try clear hcz58_14
                                            try clear hcz58_15
                                            try clear hcz58_16
                                            try clear hcz58_2
                                            try clear hcz58_3
                                            try clear hcz58_4
                                            try clear hcz58_5
                                            try clear hcz58_6
                                            try clear hcz58_7
                                            try clear hcz58_8
                                            try clear hcz58_9
                                            try clear hcz5_0
                                            try clear hcz5_1
                                            try clear hcz5_10
                                            try clear hcz5_11
                                            try clear hcz5_12
                                            try clear hcz5_13
                                            try clear hcz5_14
                                            try clear hcz5_15
                                            try clear hcz5_16
                                            try clear hcz5_2
                                            try clear hcz5_3
                                            try clear hcz5_4
                                            try clear hcz5_5
                                            try clear hcz5_6
                                            try clear hcz5_7
                                            try clear hcz5_8
                                            try clear hcz5_9
                                            try clear hcz61_0
                                            try clear hcz61_1
                                            try clear hcz61_10
                                            try clear hcz61_11
                                            try clear hcz61_12
                                            try clear hcz61_13
                                            try clear hcz61_14
                                            try clear hcz61_15
                                            try clear hcz61_16
                                            try clear hcz61_2
                                            try clear hcz61_3
                                            try clear hcz61_4
                                            try clear hcz61_5
                                            try clear hcz61_6
                                            try clear hcz61_7
                                            try clear hcz61_8
                                            try clear hcz61_9
                                            try clear hcz8_0
                                            try clear hcz8_1
                                            try clear hcz8_10
                                            try clear hcz8_11
                                            try clear hcz8_12
                                            try clear hcz8_13
                                            try clear hcz8_14
                                            try clear hcz8_15
                                            try clear hcz8_16
                                            try clear hcz8_2
                                            try clear hcz8_3
                                            try clear hcz8_4
                                            try clear hcz8_5
                                            try clear hcz8_6
                                            try clear hcz8_7
                                            try clear hcz8_8
                                            try clear hcz8_9
                                            try clear hfz13_0
                                            try clear hfz13_1
                                            try clear hfz13_10
                                            try clear hfz13_11
                                            try clear hfz13_12
                                            try clear hfz13_13
                                            try clear hfz13_14
                                            try clear hfz13_15
                                            try clear hfz13_16
                                            try clear hfz13_2
                                            try clear hfz13_3
                                            try clear hfz13_4
                                            try clear hfz13_5
                                            try clear hfz13_6
                                            try clear hfz13_7
                                            try clear hfz13_8
                                            try clear hfz13_9
                                            try clear hfz16_0
                                            try clear hfz16_1
                                            try clear hfz16_10
                                            try clear hfz16_11
                                            try clear hfz16_12
                                            try clear hfz16_13
                                            try clear hfz16_14
                                            try clear hfz16_15
                                            try clear hfz16_16
                                            try clear hfz16_2
                                            try clear hfz16_3
                                            try clear hfz16_4
                                            try clear hfz16_5
                                            try clear hfz16_6
                                            try clear hfz16_7
                                            try clear hfz16_8
                                            try clear hfz16_9
                                            try clear hfz19_0
                                            try clear hfz19_1
                                            try clear hfz19_10
                                            try clear hfz19_11
                                            try clear hfz19_12
                                            try clear hfz19_13
                                            try clear hfz19_14
                                            try clear hfz19_15
                                            try clear hfz19_16
                                            try clear hfz19_2
                                            try clear hfz19_3
                                            try clear hfz19_4
                                            try clear hfz19_5
                                            try clear hfz19_6
                                            try clear hfz19_7
                                            try clear hfz19_8
                                            try clear hfz19_9
                                            try clear hfz22_0
                                            try clear hfz22_1
                                            try clear hfz22_10
                                            try clear hfz22_11
                                            try clear hfz22_12
                                            try clear hfz22_13
                                            try clear hfz22_14
                                            try clear hfz22_15
                                            try clear hfz22_16
                                            try clear hfz22_2
                                            try clear hfz22_3
                                            try clear hfz22_4
                                            try clear hfz22_5
                                            try clear hfz22_6
                                            try clear hfz22_7
                                            try clear hfz22_8
                                            try clear hfz22_9
                                            try clear hfz25_0
                                            try clear hfz25_1
                                            try clear hfz25_10
                                            try clear hfz25_11
                                            try clear hfz25_12
                                            try clear hfz25_13
                                            try clear hfz25_14
                                            try clear hfz25_15
                                            try clear hfz25_16
                                            try clear hfz25_2
                                            try clear hfz25_3
                                            try clear hfz25_4
                                            try clear hfz25_5
                                            try clear hfz25_6
                                            try clear hfz25_7
                                            try clear hfz25_8
                                            try clear hfz25_9
                                            try clear hfz28_0
                                            try clear hfz28_1
                                            try clear hfz28_10
                                            try clear hfz28_11
                                            try clear hfz28_12
                                            try clear hfz28_13
                                            try clear hfz28_14
                                            try clear hfz28_15
                                            try clear hfz28_16
                                            try clear hfz28_2
                                            try clear hfz28_3
                                            try clear hfz28_4
                                            try clear hfz28_5
                                            try clear hfz28_6
                                            try clear hfz28_7
                                            try clear hfz28_8
                                            try clear hfz28_9
                                            try clear hfz31_0
                                            try clear hfz31_1
                                            try clear hfz31_10
                                            try clear hfz31_11
                                            try clear hfz31_12
                                            try clear hfz31_13
                                            try clear hfz31_14
                                            try clear hfz31_15
                                            try clear hfz31_16
                                            try clear hfz31_2
                                            try clear hfz31_3
                                            try clear hfz31_4
                                            try clear hfz31_5
                                            try clear hfz31_6
                                            try clear hfz31_7
                                            try clear hfz31_8
                                            try clear hfz31_9
                                            try clear hfz34_0
                                            try clear hfz34_1
                                            try clear hfz34_10
                                            try clear hfz34_11
                                            try clear hfz34_12
                                            try clear hfz34_13
                                            try clear hfz34_14
                                            try clear hfz34_15
                                            try clear hfz34_16
                                            try clear hfz34_2
                                            try clear hfz34_3
                                            try clear hfz34_4
                                            try clear hfz34_5
                                            try clear hfz34_6
                                            try clear hfz34_7
                                            try clear hfz34_8
                                            try clear hfz34_9
                                            try clear hfz37_0
                                            try clear hfz37_1
                                            try clear hfz37_10
                                            try clear hfz37_11
                                            try clear hfz37_12
                                            try clear hfz37_13
                                            try clear hfz37_14
                                            try clear hfz37_15
                                            try clear hfz37_16
                                            try clear hfz37_2
                                            try clear hfz37_3
                                            try clear hfz37_4
                                            try clear hfz37_5
                                            try clear hfz37_6
                                            try clear hfz37_7
                                            try clear hfz37_8
                                            try clear hfz37_9
                                            try clear hfz40_0
                                            try clear hfz40_1
                                            try clear hfz40_10
                                            try clear hfz40_11
                                            try clear hfz40_12
                                            try clear hfz40_13
                                            try clear hfz40_14
                                            try clear hfz40_15
                                            try clear hfz40_16
                                            try clear hfz40_2
                                            try clear hfz40_3
                                            try clear hfz40_4
                                            try clear hfz40_5
                                            try clear hfz40_6
                                            try clear hfz40_7
                                            try clear hfz40_8
                                            try clear hfz40_9
                                            try clear hfz43_0
                                            try clear hfz43_1
                                            try clear hfz43_10
                                            try clear hfz43_11
                                            try clear hfz43_12
                                            try clear hfz43_13
                                            try clear hfz43_14
                                            try clear hfz43_15
                                            try clear hfz43_16
                                            try clear hfz43_2
                                            try clear hfz43_3
                                            try clear hfz43_4
                                            try clear hfz43_5
                                            try clear hfz43_6
                                            try clear hfz43_7
                                            try clear hfz43_8
                                            try clear hfz43_9
                                            try clear hfz46_0
                                            try clear hfz46_1
                                            try clear hfz46_10
                                            try clear hfz46_11
                                            try clear hfz46_12
                                            try clear hfz46_13
                                            try clear hfz46_14
                                            try clear hfz46_15
                                            try clear hfz46_16
                                            try clear hfz46_2
                                            try clear hfz46_3
                                            try clear hfz46_4
                                            try clear hfz46_5
                                            try clear hfz46_6
                                            try clear hfz46_7
                                            try clear hfz46_8
                                            try clear hfz46_9
                                            try clear hfz49_0
                                            try clear hfz49_1
                                            try clear hfz49_10
                                            try clear hfz49_11
                                            try clear hfz49_12
                                            try clear hfz49_13
                                            try clear hfz49_14
                                            try clear hfz49_15
                                            try clear hfz49_16
                                            try clear hfz49_2
                                            try clear hfz49_3
                                            try clear hfz49_4
                                            try clear hfz49_5
                                            try clear hfz49_6
                                            try clear hfz49_7
                                            try clear hfz49_8
                                            try clear hfz49_9
                                            try clear hfz52_0
                                            try clear hfz52_1
                                            try clear hfz52_10
                                            try clear hfz52_11
                                            try clear hfz52_12
                                            try clear hfz52_13
                                            try clear hfz52_14
                                            try clear hfz52_15
                                            try clear hfz52_16
                                            try clear hfz52_2
                                            try clear hfz52_3
                                            try clear hfz52_4
                                            try clear hfz52_5
                                            try clear hfz52_6
                                            try clear hfz52_7
                                            try clear hfz52_8
                                            try clear hfz52_9
                                            try clear hfz55_0
                                            try clear hfz55_1
                                            try clear hfz55_10
                                            try clear hfz55_11
                                            try clear hfz55_12
                                            try clear hfz55_13
                                            try clear hfz55_14
                                            try clear hfz55_15
                                            try clear hfz55_16
                                            try clear hfz55_2
                                            try clear hfz55_3
                                            try clear hfz55_4
                                            try clear hfz55_5
                                            try clear hfz55_6
                                            try clear hfz55_7
                                            try clear hfz55_8
                                            try clear hfz55_9
                                            try clear hfz58_0
                                            try clear hfz58_1
                                            try clear hfz58_10
                                            try clear hfz58_11
                                            try clear hfz58_12
                                            try clear hfz58_13
                                            try clear hfz58_14
                                            try clear hfz58_15
                                            try clear hfz58_16
                                            try clear hfz58_2
                                            try clear hfz58_3
                                            try clear hfz58_4
                                            try clear hfz58_5
                                            try clear hfz58_6
                                            try clear hfz58_7
                                            try clear hfz58_8
                                            try clear hfz58_9
                                            try clear hfz5_0
                                            try clear hfz5_1
                                            try clear hfz5_10
                                            try clear hfz5_11
                                            try clear hfz5_12
                                            try clear hfz5_13
                                            try clear hfz5_14
                                            try clear hfz5_15
                                            try clear hfz5_16
                                            try clear hfz5_2
                                            try clear hfz5_3
                                            try clear hfz5_4
                                            try clear hfz5_5
                                            try clear hfz5_6
                                            try clear hfz5_7
                                            try clear hfz5_8
                                            try clear hfz5_9
                                            try clear hfz61_0
                                            try clear hfz61_1
                                            try clear hfz61_10
                                            try clear hfz61_11
                                            try clear hfz61_12
                                            try clear hfz61_13
                                            try clear hfz61_14
                                            try clear hfz61_15
                                            try clear hfz61_16
                                            try clear hfz61_2
                                            try clear hfz61_3
                                            try clear hfz61_4
                                            try clear hfz61_5
                                            try clear hfz61_6
                                            try clear hfz61_7
                                            try clear hfz61_8
                                            try clear hfz61_9
                                            try clear hfz8_0
                                            try clear hfz8_1
                                            try clear hfz8_10
                                            try clear hfz8_11
                                            try clear hfz8_12
                                            try clear hfz8_13
                                            try clear hfz8_14
                                            try clear hfz8_15
                                            try clear hfz8_16
                                            try clear hfz8_2
                                            try clear hfz8_3
                                            try clear hfz8_4
                                            try clear hfz8_5
                                            try clear hfz8_6
                                            try clear hfz8_7
                                            try clear hfz8_8
                                            try clear hfz8_9
                                            obtain ⟨kq, x95_61, rfl, HA, HJ61, BK103, HB⟩ := hcut
                                            cases kq with
                                            | zero => exact absurd HA.out (by simp [drawbridgeref05_value.j0])
                                            | succ kj61 =>
                                              have H := HA.out
                                              clear HA
                                              simp only [drawbridgeref05_value.j0] at H
                                              by_cases c65 : x95_61 = true
                                              · subst c65
                                                have H1 : (some (a0_16, true)) = some (r1, r2) := by rw [if_pos rfl] at H; exact H
                                                clear H
                                                have H := H1
                                                clear H1
                                                simp only [Option.some.injEq, Prod.mk.injEq] at H
                                                obtain ⟨rfl, rfl⟩ := H
                                                have hcz66_0 : wc.cell? ⟨gb103, 0, none⟩ = some (.int .u64 a0_0) := (blk_cell BK103.out 0).trans rfl
                                                have hcz66_1 : wc.cell? ⟨gb103, 1, none⟩ = some (.int .u64 a0_1) := (blk_cell BK103.out 1).trans rfl
                                                have hcz66_2 : wc.cell? ⟨gb103, 2, none⟩ = some (.int .u64 a0_2) := (blk_cell BK103.out 2).trans rfl
                                                have hcz66_3 : wc.cell? ⟨gb103, 3, none⟩ = some (.int .u64 a0_3) := (blk_cell BK103.out 3).trans rfl
                                                have hcz66_4 : wc.cell? ⟨gb103, 4, none⟩ = some (.int .u64 a0_4) := (blk_cell BK103.out 4).trans rfl
                                                have hcz66_5 : wc.cell? ⟨gb103, 5, none⟩ = some (.int .u64 a0_5) := (blk_cell BK103.out 5).trans rfl
                                                have hcz66_6 : wc.cell? ⟨gb103, 6, none⟩ = some (.int .u64 a0_6) := (blk_cell BK103.out 6).trans rfl
                                                have hcz66_7 : wc.cell? ⟨gb103, 7, none⟩ = some (.int .u64 a0_7) := (blk_cell BK103.out 7).trans rfl
                                                have hcz66_8 : wc.cell? ⟨gb103, 8, none⟩ = some (.int .u64 a0_8) := (blk_cell BK103.out 8).trans rfl
                                                have hcz66_9 : wc.cell? ⟨gb103, 9, none⟩ = some (.int .u64 a0_9) := (blk_cell BK103.out 9).trans rfl
                                                have hcz66_10 : wc.cell? ⟨gb103, 10, none⟩ = some (.int .u64 a0_10) := (blk_cell BK103.out 10).trans rfl
                                                have hcz66_11 : wc.cell? ⟨gb103, 11, none⟩ = some (.int .u64 a0_11) := (blk_cell BK103.out 11).trans rfl
                                                have hcz66_12 : wc.cell? ⟨gb103, 12, none⟩ = some (.int .u64 a0_12) := (blk_cell BK103.out 12).trans rfl
                                                have hcz66_13 : wc.cell? ⟨gb103, 13, none⟩ = some (.int .u64 a0_13) := (blk_cell BK103.out 13).trans rfl
                                                have hcz66_14 : wc.cell? ⟨gb103, 14, none⟩ = some (.int .u64 a0_14) := (blk_cell BK103.out 14).trans rfl
                                                have hcz66_15 : wc.cell? ⟨gb103, 15, none⟩ = some (.int .u64 a0_15) := (blk_cell BK103.out 15).trans rfl
                                                have hcz66_16 : wc.cell? ⟨gb103, 16, none⟩ = some (.int .u64 a0_16) := (blk_cell BK103.out 16).trans rfl
                                                have hfz66_0 := blk_frozen BK103.out 0
                                                have hfz66_1 := blk_frozen BK103.out 1
                                                have hfz66_2 := blk_frozen BK103.out 2
                                                have hfz66_3 := blk_frozen BK103.out 3
                                                have hfz66_4 := blk_frozen BK103.out 4
                                                have hfz66_5 := blk_frozen BK103.out 5
                                                have hfz66_6 := blk_frozen BK103.out 6
                                                have hfz66_7 := blk_frozen BK103.out 7
                                                have hfz66_8 := blk_frozen BK103.out 8
                                                have hfz66_9 := blk_frozen BK103.out 9
                                                have hfz66_10 := blk_frozen BK103.out 10
                                                have hfz66_11 := blk_frozen BK103.out 11
                                                have hfz66_12 := blk_frozen BK103.out 12
                                                have hfz66_13 := blk_frozen BK103.out 13
                                                have hfz66_14 := blk_frozen BK103.out 14
                                                have hfz66_15 := blk_frozen BK103.out 15
                                                have hfz66_16 := blk_frozen BK103.out 16
                                                go_wp2
                                                go_ret2
                                                exact ⟨by first | rfl | (simp [errW_none, errW_some] <;> rfl) | (simp [*, errW_none, errW_some] <;> rfl), by repeat (first | (with_reducible first | exact HB.out | apply below_alloc | apply pw_below_drewN | apply below_drew1 | refine below_set ?_ GE103.out) | exact HB.out)⟩
                                              · replace c65 := Bool.eq_false_iff.mpr c65
                                                subst c65
                                                have H1 : (if a1 = 3857 then (some (0, true)) else (if a1 = 3858 then (some (0, true)) else (if a1 = 3859 then (some (0, true)) else (if a1 = 3860 then (some (0, true)) else (some (0, false)))))) = some (r1, r2) := by rw [if_neg (show ¬ (false = true) by decide)] at H; exact H
                                                clear H
                                                have H := H1
                                                clear H1
                                                by_cases c67 : a1 = 3857
                                                · rw [if_pos c67] at H
                                                  have c67b0 : (a1 == 3857) = true := beq_iff_eq.mpr c67
                                                  have c67b1 : (a1 != 3857) = false := bne_eq_false_iff_eq.mpr c67
                                                  clear c67
                                                  simp only [Option.some.injEq, Prod.mk.injEq] at H
                                                  obtain ⟨rfl, rfl⟩ := H
                                                  go_wp2
                                                  go_ret2
                                                  exact ⟨by first | rfl | (simp [errW_none, errW_some] <;> rfl) | (simp [*, errW_none, errW_some] <;> rfl), by repeat (first | (with_reducible first | exact HB.out | apply below_alloc | apply pw_below_drewN | apply below_drew1 | refine below_set ?_ GE103.out) | exact HB.out)⟩
                                                · rw [if_neg c67] at H
                                                  have c67b0 : (a1 == 3857) = false := beq_eq_false_iff_ne.mpr c67
                                                  have c67b1 : (a1 != 3857) = true := bne_iff_ne.mpr c67
                                                  by_cases c68 : a1 = 3858
                                                  · rw [if_pos c68] at H
                                                    have c68b0 : (a1 == 3858) = true := beq_iff_eq.mpr c68
                                                    have c68b1 : (a1 != 3858) = false := bne_eq_false_iff_eq.mpr c68
                                                    clear c68
                                                    simp only [Option.some.injEq, Prod.mk.injEq] at H
                                                    obtain ⟨rfl, rfl⟩ := H
                                                    go_wp2
                                                    go_ret2
                                                    exact ⟨by first | rfl | (simp [errW_none, errW_some] <;> rfl) | (simp [*, errW_none, errW_some] <;> rfl), by repeat (first | (with_reducible first | exact HB.out | apply below_alloc | apply pw_below_drewN | apply below_drew1 | refine below_set ?_ GE103.out) | exact HB.out)⟩
                                                  · rw [if_neg c68] at H
                                                    have c68b0 : (a1 == 3858) = false := beq_eq_false_iff_ne.mpr c68
                                                    have c68b1 : (a1 != 3858) = true := bne_iff_ne.mpr c68
                                                    by_cases c69 : a1 = 3859
                                                    · rw [if_pos c69] at H
                                                      have c69b0 : (a1 == 3859) = true := beq_iff_eq.mpr c69
                                                      have c69b1 : (a1 != 3859) = false := bne_eq_false_iff_eq.mpr c69
                                                      clear c69
                                                      simp only [Option.some.injEq, Prod.mk.injEq] at H
                                                      obtain ⟨rfl, rfl⟩ := H
                                                      go_wp2
                                                      go_ret2
                                                      exact ⟨by first | rfl | (simp [errW_none, errW_some] <;> rfl) | (simp [*, errW_none, errW_some] <;> rfl), by repeat (first | (with_reducible first | exact HB.out | apply below_alloc | apply pw_below_drewN | apply below_drew1 | refine below_set ?_ GE103.out) | exact HB.out)⟩
                                                    · rw [if_neg c69] at H
                                                      have c69b0 : (a1 == 3859) = false := beq_eq_false_iff_ne.mpr c69
                                                      have c69b1 : (a1 != 3859) = true := bne_iff_ne.mpr c69
                                                      by_cases c70 : a1 = 3860
                                                      · rw [if_pos c70] at H
                                                        have c70b0 : (a1 == 3860) = true := beq_iff_eq.mpr c70
                                                        have c70b1 : (a1 != 3860) = false := bne_eq_false_iff_eq.mpr c70
                                                        clear c70
                                                        simp only [Option.some.injEq, Prod.mk.injEq] at H
                                                        obtain ⟨rfl, rfl⟩ := H
                                                        go_wp2
                                                        go_ret2
                                                        exact ⟨by first | rfl | (simp [errW_none, errW_some] <;> rfl) | (simp [*, errW_none, errW_some] <;> rfl), by repeat (first | (with_reducible first | exact HB.out | apply below_alloc | apply pw_below_drewN | apply below_drew1 | refine below_set ?_ GE103.out) | exact HB.out)⟩
                                                      · rw [if_neg c70] at H
                                                        have c70b0 : (a1 == 3860) = false := beq_eq_false_iff_ne.mpr c70
                                                        have c70b1 : (a1 != 3860) = true := bne_iff_ne.mpr c70
                                                        simp only [Option.some.injEq, Prod.mk.injEq] at H
                                                        obtain ⟨rfl, rfl⟩ := H
                                                        go_wp2
                                                        go_ret2
                                                        exact ⟨by first | rfl | (simp [errW_none, errW_some] <;> rfl) | (simp [*, errW_none, errW_some] <;> rfl), by repeat (first | (with_reducible first | exact HB.out | apply below_alloc | apply pw_below_drewN | apply below_drew1 | refine below_set ?_ GE103.out) | exact HB.out)⟩

end Go.Proofs.Ytncdhfigfbhohaa.Q
