/- plic's places: where the contexts' registers are. -/
import Derived.Test.YtmlpnjoejdpblaaQx0
import Derived.Test.YtmlpnjoejdpblaaKt
import Derived.Test.YtmlpnjoejdpblaaFs
import Derived.RegionTactic
import Derived.BigRegion
namespace Go.Proofs.Ytmlpnjoejdpblaa.Q
open Go.RowKit Go.Proofs.YtmlpnjoejdpblaaW.PrintWords Go.Proofs.YtmlpnjoejdpblaaW.PrintLast Go.Proofs.YtmlpnjoejdpblaaW.PrintMore Go.Proofs.Ytmlpnjoejdpblaa.L
attribute [local go_sem] Instr.field part asAgg lt_step max2_int min2_int max_two min_two max_three min_three max_four min_four lt_0_1 lt_0_2 lt_1_2 lt_0_3 lt_1_3 lt_2_3 lt_0_4 lt_1_4 lt_2_4 lt_3_4 lt_0_5 lt_1_5 lt_2_5 lt_3_5 lt_4_5 lt_0_6 lt_1_6 lt_2_6 lt_3_6 lt_4_6 lt_5_6 lt_0_7 lt_1_7 lt_2_7 lt_3_7 lt_4_7 lt_5_7 lt_6_7 lt_0_8 lt_1_8 lt_2_8 lt_3_8 lt_4_8 lt_5_8 lt_6_8 lt_7_8
set_option linter.unusedVariables false
set_option linter.unusedSimpArgs false
def at2Z (a b x : Int) : Int := if x = a then 0 else if x = b then 1 else -1
theorem enables_runs (w : World) : Calls Try.prog 25 #[] w fun e w' => e = .returned (.agg #[.int .u64 8192, .int .u64 8320]) ∧ Below w.heap.size w w' := by
  have HB := Aside0.mk (Below.refl w.heap.size w)
  go_enter Try.func25, Try.ntmps25
  go_wp2
  refine bodyPost_ret (v := .agg #[.int .u64 8192, .int .u64 8320]) (by simp [results, Try.results25, go_sem] <;> first | assumption | omega | (symm; assumption)) rfl ?_
  exact ⟨rfl, (by repeat (first | (with_reducible first | exact HB.out | exact Below.refl _ _ | apply below_alloc | apply pw_below_drewN | apply below_drew | refine below_set ?_ (by omega)) | exact HB.out))⟩
theorem thresholds_runs (w : World) : Calls Try.prog 27 #[] w fun e w' => e = .returned (.agg #[.int .u64 2097152, .int .u64 2101248]) ∧ Below w.heap.size w w' := by
  have HB := Aside0.mk (Below.refl w.heap.size w)
  go_enter Try.func27, Try.ntmps27
  go_wp2
  refine bodyPost_ret (v := .agg #[.int .u64 2097152, .int .u64 2101248]) (by simp [results, Try.results27, go_sem] <;> first | assumption | omega | (symm; assumption)) rfl ?_
  exact ⟨rfl, (by repeat (first | (with_reducible first | exact HB.out | exact Below.refl _ _ | apply below_alloc | apply pw_below_drewN | apply below_drew | refine below_set ?_ (by omega)) | exact HB.out))⟩
theorem claims_runs (w : World) : Calls Try.prog 28 #[] w fun e w' => e = .returned (.agg #[.int .u64 2097156, .int .u64 2101252]) ∧ Below w.heap.size w w' := by
  have HB := Aside0.mk (Below.refl w.heap.size w)
  go_enter Try.func28, Try.ntmps28
  go_wp2
  refine bodyPost_ret (v := .agg #[.int .u64 2097156, .int .u64 2101252]) (by simp [results, Try.results28, go_sem] <;> first | assumption | omega | (symm; assumption)) rfl ?_
  exact ⟨rfl, (by repeat (first | (with_reducible first | exact HB.out | exact Below.refl _ _ | apply below_alloc | apply pw_below_drewN | apply below_drew | refine below_set ?_ (by omega)) | exact HB.out))⟩
set_option maxHeartbeats 1600000 in
set_option maxRecDepth 100000 in
theorem index2_runs (g c : Nat) (a b x : Int) (ty : TypeId) (w : World) (h : w.heap[g]? = some (.cells #[.int .u64 a, .int .u64 b] ty (0, 0))) :
    Calls Try.prog 33 #[.slice (some ⟨g, 0, none⟩) 2 c, .int .u64 x] w fun e w' => e = .returned (.int .i64 (at2Z a b x)) ∧ w' = w := by
  obtain ⟨occ, ocf, ocl⟩ := cells_of h
  have h0 : w.cell? ⟨g, 0, none⟩ = some (.int .u64 a) := occ 0
  have h1 : w.cell? ⟨g, 1, none⟩ = some (.int .u64 b) := occ 1
  clear occ
  by_cases ha : x = a
  · have hab : (x == a) = true := beq_iff_eq.mpr ha
    rw [show at2Z a b x = 0 from if_pos ha]
    clear ha
    go_enter Try.func33, Try.ntmps33
    go_wp2
    refine wp_loop_rounds 1 ?_; rw [rounds_succ]
    go_wp2
    go_ret
    exact ⟨rfl, rfl⟩
  · have hab : (x == a) = false := beq_eq_false_iff_ne.mpr ha
    by_cases hb : x = b
    · have hbb : (x == b) = true := beq_iff_eq.mpr hb
      rw [show at2Z a b x = 1 from (if_neg ha).trans (if_pos hb)]
      clear ha hb
      go_enter Try.func33, Try.ntmps33
      go_wp2
      refine wp_loop_rounds 2 ?_; rw [rounds_succ]
      go_wp2
      rw [rounds_succ]
      go_wp2
      go_ret
      exact ⟨rfl, rfl⟩
    · have hbb : (x == b) = false := beq_eq_false_iff_ne.mpr hb
      rw [show at2Z a b x = -1 from (if_neg ha).trans (if_neg hb)]
      clear ha hb
      go_enter Try.func33, Try.ntmps33
      go_wp2
      refine wp_loop_rounds 3 ?_; rw [rounds_succ]
      go_wp2
      rw [rounds_succ]
      go_wp2
      rw [rounds_succ]
      go_wp2
      go_ret
      exact ⟨rfl, rfl⟩
set_option maxHeartbeats 1600000 in
set_option maxRecDepth 100000 in
theorem at_runs (a b x : Int) (w : World) : Calls Try.prog 26 #[.agg #[.int .u64 a, .int .u64 b], .int .u64 x] w fun e w' => e = .returned (.int .i64 (at2Z a b x)) ∧ Below w.heap.size w w' := by
  have HB := Aside0.mk (Below.refl w.heap.size w)
  have h := nb_1 w (.cells #[.int .u64 a, .int .u64 b] 46 (0, 0))
  have H := Aside0.mk h
  clear h
  go_enter Try.func26, Try.ntmps26
  go_wp2_with fail
  (go_at_call 33; (with_reducible refine (index2_runs _ _ a b x _ _ H.out).mono ?_); rintro e_ w_ ⟨rfl, rfl⟩)
  go_wp2
  go_ret
  exact ⟨rfl, (by repeat (first | (with_reducible first | exact HB.out | exact Below.refl _ _ | apply below_alloc | apply pw_below_drewN | apply below_drew | refine below_set ?_ (by omega)) | exact HB.out))⟩
end Go.Proofs.Ytmlpnjoejdpblaa.Q
