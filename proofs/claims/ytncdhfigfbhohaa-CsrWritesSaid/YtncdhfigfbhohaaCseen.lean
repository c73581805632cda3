/- What is seen of a register (csr's file.seen). -/
import Derived.Test.YtncdhfigfbhohaaCs0
import Derived.Deep.DrawnRows
import Derived.Deep.QuietTactic
import Derived.BigQuiet
namespace Go.Proofs.Ytncdhfigfbhohaa.Q
open Go.RowKit Go.Proofs.YtncdhfigfbhohaaW.PrintWords Go.Proofs.YtncdhfigfbhohaaW.PrintLast Go.Proofs.YtncdhfigfbhohaaW.PrintMore Go.Proofs.Ytncdhfigfbhohaa.L
attribute [local go_sem] Instr.field part asAgg lt_step max2_int min2_int max_two min_two max_three min_three max_four min_four lt_0_1 lt_0_2 lt_1_2 lt_0_3 lt_1_3 lt_2_3 lt_0_4 lt_1_4 lt_2_4 lt_3_4 lt_0_5 lt_1_5 lt_2_5 lt_3_5 lt_4_5 lt_0_6 lt_1_6 lt_2_6 lt_3_6 lt_4_6 lt_5_6 lt_0_7 lt_1_7 lt_2_7 lt_3_7 lt_4_7 lt_5_7 lt_6_7 lt_0_8 lt_1_8 lt_2_8 lt_3_8 lt_4_8 lt_5_8 lt_6_8 lt_7_8
set_option linter.unusedVariables false
set_option linter.unusedSimpArgs false
attribute [local go_sem ↓] Go.wp_at_zero Go.wp_at_succ
theorem of_some (b : Nat) (n : Int) (i : Nat) (w : World) (h : ofI n = some i) : Calls Try.prog 21 #[.pointer (some ⟨b, 0, none⟩), .int .i64 n] w fun e w' => e = .returned (.pointer (some ⟨b, i, none⟩)) ∧ w = w' := by
  have := of_runs b n w
  unfold ofZ at this
  rw [h] at this
  exact this
theorem of_none (b : Nat) (n : Int) (w : World) (h : ofI n = none) : Calls Try.prog 21 #[.pointer (some ⟨b, 0, none⟩), .int .i64 n] w fun e w' => e = .returned (.pointer none) ∧ w = w' := by
  have := of_runs b n w
  unfold ofZ at this
  rw [h] at this
  exact this
set_option maxHeartbeats 1600000 in
set_option maxRecDepth 100000 in
theorem seen_plain (b : Nat) (c : Nat → Int) (n x : Int) (w : World) (hb : w.heap[b]? = some (.cells (C17 c) 35 (0, 0))) (h0 : (n == 260) = false) (h1 : (n == 324) = false) (h : seenZ c n = some x) :
    Calls Try.prog 20 #[.pointer (some ⟨b, 0, none⟩), .int .i64 n] w fun e w' => e = .returned (.tuple #[.int .u64 x, .nilIface]) ∧ w = w' := by
  obtain ⟨hc, hf, hl⟩ := cells_of hb
  have hc0 : w.cell? ⟨b, 0, none⟩ = some (.int .u64 (c 0)) := (hc 0).trans rfl
  have hA : ∀ i, ofI n = some i → w.cell? ⟨b, i, none⟩ = some (.int .u64 (c i)) := fun i hi => (hc i).trans (C17_at c i (ofI_lt hi))
  have HA := Aside0.mk hA
  clear hA hc
  unfold seenZ at h
  rw [h0, h1] at h
  simp only [Bool.false_eq_true, if_false] at h
  have H := Aside0.mk h
  clear h
  cases hI : ofI n with
  | none =>
    have HI := Aside0.mk hI
    clear hI
    go_enter Try.func20, Try.ntmps20
    go_wp2_with (first | (go_at_call 21; (with_reducible refine (of_none _ _ _ HI.out).mono ?_); rintro e w' ⟨rfl, rfl⟩))
    all_goals first
      | (go_ret2; refine ⟨?_, rfl⟩; have h := H.out; simp only [*, HI.out, Bool.false_eq_true, if_true, if_false, Option.map_some] at h; obtain rfl := Option.some.inj h; rfl)
      | (exfalso; have h := H.out; simp only [*, HI.out, Bool.false_eq_true, if_true, if_false, Option.map_none, reduceCtorEq] at h; done)
  | some i =>
    have HI := Aside0.mk hI
    have hci := HA.out i hI
    clear hI
    go_enter Try.func20, Try.ntmps20
    go_wp2_with (first | (go_at_call 21; (with_reducible refine (of_some _ _ _ _ HI.out).mono ?_); rintro e w' ⟨rfl, rfl⟩))
    all_goals first
      | (go_ret2; refine ⟨?_, rfl⟩; have h := H.out; simp only [*, HI.out, Bool.false_eq_true, if_true, if_false, Option.map_some] at h; obtain rfl := Option.some.inj h; rfl)
      | (exfalso; have h := H.out; simp only [*, HI.out, Bool.false_eq_true, if_true, if_false, Option.map_none, reduceCtorEq] at h; done)
set_option maxHeartbeats 1600000 in
set_option maxRecDepth 100000 in
theorem seen_pair (b : Nat) (c : Nat → Int) (n : Int) (i : Nat) (w : World) (hb : w.heap[b]? = some (.cells (C17 c) 35 (0, 0))) (hn : (n = 260 ∧ i = 3) ∨ (n = 324 ∧ i = 4)) :
    Calls Try.prog 20 #[.pointer (some ⟨b, 0, none⟩), .int .i64 n] w fun e w' => e = .returned (.tuple #[.int .u64 (Go.bits .and .u64 (c i) (c 2)), .nilIface]) ∧ ∃ k, w' = w.drewN k := by
  obtain ⟨hc, hf, hl⟩ := cells_of hb
  have hc2 : w.cell? ⟨b, 2, none⟩ = some (.int .u64 (c 2)) := (hc 2).trans rfl
  have hc3 : w.cell? ⟨b, 3, none⟩ = some (.int .u64 (c 3)) := (hc 3).trans rfl
  have hc4 : w.cell? ⟨b, 4, none⟩ = some (.int .u64 (c 4)) := (hc 4).trans rfl
  clear hc
  rcases hn with ⟨rfl, rfl⟩ | ⟨rfl, rfl⟩
  · go_enter Try.func20, Try.ntmps20
    go_wp2_with fail
    go_quiet ((go_at_call 21; exact Calls.quiet_of_same ((of_some b 260 3 _ rfl).mono fun _ _ ⟨he_, hw_⟩ => ⟨he_, hw_.symm⟩)))
    all_goals go_wp2
    all_goals go_ret2
    all_goals exact ⟨rfl, _, rfl⟩
  · go_enter Try.func20, Try.ntmps20
    go_wp2_with fail
    go_quiet ((go_at_call 21; exact Calls.quiet_of_same ((of_some b 324 4 _ rfl).mono fun _ _ ⟨he_, hw_⟩ => ⟨he_, hw_.symm⟩)))
    all_goals go_wp2
    all_goals go_ret2
    all_goals exact ⟨rfl, _, rfl⟩
theorem seen_some (b : Nat) (c : Nat → Int) (n x : Int) (w : World) (hb : w.heap[b]? = some (.cells (C17 c) 35 (0, 0))) (h : seenZ c n = some x) :
    Calls Try.prog 20 #[.pointer (some ⟨b, 0, none⟩), .int .i64 n] w fun e w' => e = .returned (.tuple #[.int .u64 x, .nilIface]) ∧ ∃ k, w' = w.drewN k := by
  by_cases h0 : n = 260
  · subst h0
    obtain rfl : Go.bits .and .u64 (c 3) (c 2) = x := Option.some.inj h
    exact seen_pair b c 260 3 w hb (.inl ⟨rfl, rfl⟩)
  · by_cases h1 : n = 324
    · subst h1
      obtain rfl : Go.bits .and .u64 (c 4) (c 2) = x := Option.some.inj h
      exact seen_pair b c 324 4 w hb (.inr ⟨rfl, rfl⟩)
    · exact (seen_plain b c n x w hb (beq_eq_false_iff_ne.2 h0) (beq_eq_false_iff_ne.2 h1) h).mono fun _ _ ⟨he, hw⟩ => ⟨he, 0, hw.symm⟩
theorem ite_none {α : Type} {q : Bool} {a : α} {k : Option α} (h : (if q then some a else k) = none) : q = false ∧ k = none := by
  cases q
  · exact ⟨rfl, h⟩
  · cases h
set_option maxHeartbeats 1600000 in
set_option maxRecDepth 100000 in
theorem seen_none (b : Nat) (c : Nat → Int) (n : Int) (w : World) (hb : w.heap[b]? = some (.cells (C17 c) 35 (0, 0))) (h : seenZ c n = none) :
    Calls Try.prog 20 #[.pointer (some ⟨b, 0, none⟩), .int .i64 n] w fun e w' => e = .returned (.tuple #[.int .u64 0, .iface 46 (.pointer (some ⟨w.heap.size, 0, none⟩))]) ∧ w' = w.alloc (.cells #[.int .i64 n] 48 (0, 0)) := by
  obtain ⟨hc, hf, hl⟩ := cells_of hb
  clear hc
  unfold seenZ at h
  obtain ⟨q0, h⟩ := ite_none h
  obtain ⟨q1, h⟩ := ite_none h
  obtain ⟨q2, h⟩ := ite_none h
  obtain ⟨q3, h⟩ := ite_none h
  obtain ⟨q4, h⟩ := ite_none h
  obtain ⟨q5, h⟩ := ite_none h
  obtain ⟨q6, h⟩ := ite_none h
  obtain ⟨q7, h⟩ := ite_none h
  obtain ⟨q8, h⟩ := ite_none h
  have HI := Aside0.mk (Option.map_eq_none_iff.1 h)
  clear h
  go_enter Try.func20, Try.ntmps20
  go_wp2_with (first | (go_at_call 21; (with_reducible refine (of_none _ _ _ HI.out).mono ?_); rintro e w' ⟨rfl, rfl⟩))
  all_goals go_ret2
  all_goals exact ⟨rfl, rfl⟩
end Go.Proofs.Ytncdhfigfbhohaa.Q
