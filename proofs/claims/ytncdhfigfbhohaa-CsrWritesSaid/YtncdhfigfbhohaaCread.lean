/- The reading of a register: csr's file.read. -/
import Derived.Test.YtncdhfigfbhohaaCseen
namespace Go.Proofs.Ytncdhfigfbhohaa.Q
open Go.RowKit Go.Proofs.YtncdhfigfbhohaaW.PrintWords Go.Proofs.YtncdhfigfbhohaaW.PrintLast Go.Proofs.YtncdhfigfbhohaaW.PrintMore Go.Proofs.Ytncdhfigfbhohaa.L
attribute [local go_sem] Instr.field part asAgg lt_step max2_int min2_int max_two min_two max_three min_three max_four min_four lt_0_1 lt_0_2 lt_1_2 lt_0_3 lt_1_3 lt_2_3 lt_0_4 lt_1_4 lt_2_4 lt_3_4 lt_0_5 lt_1_5 lt_2_5 lt_3_5 lt_4_5 lt_0_6 lt_1_6 lt_2_6 lt_3_6 lt_4_6 lt_5_6 lt_0_7 lt_1_7 lt_2_7 lt_3_7 lt_4_7 lt_5_7 lt_6_7 lt_0_8 lt_1_8 lt_2_8 lt_3_8 lt_4_8 lt_5_8 lt_6_8 lt_7_8
set_option linter.unusedVariables false
set_option linter.unusedSimpArgs false
set_option maxHeartbeats 1600000 in
set_option maxRecDepth 100000 in
theorem read_any (b : Nat) (c : Nat → Int) (n p : Int) (w : World) (Q : Ending → World → Prop) (hb : w.heap[b]? = some (.cells (C17 c) 35 (0, 0)))
    (hs : refuses c n p = false → Aside0 (Calls Try.prog 20 #[.pointer (some ⟨b, 0, none⟩), .int .i64 n] w fun e w' => ∃ v x, e = .returned (.tuple #[v, x]) ∧ Q (.returned (.tuple #[v, x])) w'))
    (hr : refuses c n p = true → Aside0 (Q (.returned (.tuple #[.int .u64 0, .iface 46 (.pointer (some ⟨w.heap.size, 0, none⟩))])) (w.alloc (.cells #[.int .i64 n] 48 (0, 0))))) :
    Calls Try.prog 14 #[.pointer (some ⟨b, 0, none⟩), .int .i64 n, .int .i64 p] w Q := by
  obtain ⟨hc, hf, hl⟩ := cells_of hb
  have hc0 : w.cell? ⟨b, 0, none⟩ = some (.int .u64 (c 0)) := (hc 0).trans rfl
  clear hc
  have HZ : Aside0 (refuses c n p = (decide (p < (Go.bits .and .i64 (n / 256) 3)) || (n == 384 && (p == 1 && decide (Go.bits .and .u64 (c 0) 1048576 > 0))))) := ⟨rfl⟩
  have HS := Aside0.mk hs
  have HR := Aside0.mk hr
  clear hs hr
  cases q0 : decide (p < (Go.bits .and .i64 (n / 256) 3)) <;> cases q1 : (n == 384) <;> cases q2 : (p == 1) <;> cases q3 : decide (0 < Go.bits .and .u64 (c 0) 1048576)
  all_goals
    have hz := HZ.out
    rw [q0, q1, q2] at hz
    simp only [gt_iff_lt] at hz
    rw [q3] at hz
    simp only [Bool.and_true, Bool.and_false, Bool.or_true, Bool.or_false, Bool.true_and, Bool.false_and, Bool.true_or, Bool.false_or] at hz
    have HZ2 := Aside0.mk hz
    clear hz
    go_enter Try.func14, Try.ntmps14
    go_wp2_with (first | (go_at_call 20; (with_reducible refine (HS.out HZ2.out).out.mono ?_); rintro e w' ⟨v, x, rfl, hq⟩; have HQ := Aside0.mk hq; clear hq))
    try go_ret2
    all_goals first | exact HQ.out | exact (HR.out HZ2.out).out
theorem read_some (b : Nat) (c : Nat → Int) (n p x : Int) (w : World) (hb : w.heap[b]? = some (.cells (C17 c) 35 (0, 0))) (h : readZ c n p = some x) :
    Calls Try.prog 14 #[.pointer (some ⟨b, 0, none⟩), .int .i64 n, .int .i64 p] w fun e w' => e = .returned (.tuple #[.int .u64 x, .nilIface]) ∧ ∃ k, w' = w.drewN k := by
  unfold readZ at h
  refine read_any b c n p w _ hb (fun hr => ⟨?_⟩) (fun hr => ⟨?_⟩)
  · rw [hr] at h
    exact (seen_some b c n x w hb h).mono fun _ _ ⟨he, hw⟩ => ⟨_, _, he, rfl, hw⟩
  · rw [hr] at h
    cases h
theorem read_none (b : Nat) (c : Nat → Int) (n p : Int) (w : World) (hb : w.heap[b]? = some (.cells (C17 c) 35 (0, 0))) (h : readZ c n p = none) :
    Calls Try.prog 14 #[.pointer (some ⟨b, 0, none⟩), .int .i64 n, .int .i64 p] w fun e w' => e = .returned (.tuple #[.int .u64 0, .iface 46 (.pointer (some ⟨w.heap.size, 0, none⟩))]) ∧ w' = w.alloc (.cells #[.int .i64 n] 48 (0, 0)) := by
  unfold readZ at h
  refine read_any b c n p w _ hb (fun hr => ⟨?_⟩) (fun hr => ⟨⟨rfl, rfl⟩⟩)
  rw [hr] at h
  exact (seen_none b c n w hb h).mono fun _ _ ⟨he, hw⟩ => ⟨_, _, he, rfl, hw⟩
end Go.Proofs.Ytncdhfigfbhohaa.Q
