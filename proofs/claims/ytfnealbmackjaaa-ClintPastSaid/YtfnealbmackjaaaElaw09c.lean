/- ClintPast, walked. -/
import Derived.Test.YtfnealbmackjaaaElaw09
namespace Go.Proofs.Ytfnealbmackjaaa.Q
open Go.RowKit Go.Proofs.YtfnealbmackjaaaW.PrintWords Go.Proofs.YtfnealbmackjaaaW.PrintLast Go.Proofs.YtfnealbmackjaaaW.PrintMore Go.Proofs.Ytfnealbmackjaaa.L
attribute [local go_sem] Instr.field part asAgg lt_step max2_int min2_int max_two min_two max_three min_three max_four min_four lt_0_1 lt_0_2 lt_1_2 lt_0_3 lt_1_3 lt_2_3 lt_0_4 lt_1_4 lt_2_4 lt_3_4 lt_0_5 lt_1_5 lt_2_5 lt_3_5 lt_4_5 lt_0_6 lt_1_6 lt_2_6 lt_3_6 lt_4_6 lt_5_6 lt_0_7 lt_1_7 lt_2_7 lt_3_7 lt_4_7 lt_5_7 lt_6_7 lt_0_8 lt_1_8 lt_2_8 lt_3_8 lt_4_8 lt_5_8 lt_6_8 lt_7_8
set_option linter.unusedVariables false
set_option linter.unusedSimpArgs false
def drawbridgelaw09_ClintPast.f (t c : Int) (s : Bool) (n : Int) : Option Bool := open Classical in if u64B t ∧ u64B c ∧ (Lit.int .i64 n).wf = true then some true else none
set_option maxHeartbeats 1600000 in
set_option maxRecDepth 100000 in
theorem past_out (t c : Int) (s : Bool) (n : Int) (w : World) (hn : n < 0 ∨ n > 1000) :
    Calls Try.prog 5 #[.agg #[.int .u64 t, .int .u64 c, .bool s], .int .i64 n] w fun e w' => e = .returned (.bool true) ∧ Below w.heap.size w w' := by
  have HB := Aside0.mk (Below.refl w.heap.size w)
  have hu := Try.underlying24
  have key : n < 0 ∨ ¬ n < 0 := by omega
  rcases key with h | h
  all_goals
    go_enter Try.func5, Try.ntmps5
    go_wp2_with (first | (go_at_call 14; (with_reducible refine (heads_runs _).mono ?_); rintro e_ w1 ⟨rfl, hb_⟩; have HB_ : Aside0 (Below w.heap.size w w1) := Aside0.mk (below_step (by repeat (first | (with_reducible first | exact HB.out | exact Below.refl _ _ | apply below_alloc | apply pw_below_drewN | apply below_drew | refine below_set ?_ (by omega)) | exact HB.out)) hb_); clear HB hb_; have HB := HB_; clear HB_))
    all_goals first | (refine bodyPost_ret (v := .bool true) (by simp [results, Try.results5, go_sem]) rfl ?_; exact ⟨rfl, (by repeat (first | (with_reducible first | exact HB.out | exact Below.refl _ _ | apply below_alloc | apply pw_below_drewN | apply below_drew | refine below_set ?_ (by omega)) | exact HB.out))⟩) | (exfalso; omega)
set_option maxHeartbeats 1600000 in
set_option maxRecDepth 100000 in
theorem past_in (t c : Int) (s : Bool) (n : Nat) (w : World) (ht : u64B t) (hc : u64B c) (hn : n ≤ 1000) :
    Calls Try.prog 5 #[.agg #[.int .u64 t, .int .u64 c, .bool s], .int .i64 n] w fun e w' => e = .returned (.bool true) ∧ Below w.heap.size w w' := by
  have HB := Aside0.mk (Below.refl w.heap.size w)
  have hu := Try.underlying24
  go_enter Try.func5, Try.ntmps5
  go_wp2_with fail
  go_loopw [6] (fun v6 w' => ∃ k : Nat, k ≤ n ∧ v6 = .int .i64 k ∧ Aside0 (w'.heap[w.heap.size]? = some (.cells #[.int .u64 t, .int .u64 c, .bool s] 24 (0, 0))) ∧ Aside0 (w'.heap[w.heap.size + 1]? = some (.cells #[.int .u64 (IntKind.u64.wrap (t + k)), .int .u64 c, .bool s] 24 (0, 0))) ∧ Aside0 (Below w.heap.size w w')) (fun v6 _ => n - (intOf v6).toNat)
  case atStart =>
    refine ⟨0, Nat.zero_le _, rfl, ⟨(by repeat (with_reducible first | exact nb_1 w _ | apply ext_drew | apply ext_drewN | apply ext_alloc))⟩, ⟨?_⟩, ⟨(by repeat (first | (with_reducible first | exact HB.out | exact Below.refl _ _ | apply below_alloc | apply pw_below_drewN | apply below_drew | refine below_set ?_ (by omega)) | exact HB.out))⟩⟩
    have e : IntKind.u64.wrap (t + ((0 : Nat) : Int)) = t := by rw [IntKind.wrap_u64]; obtain ⟨h0, h1⟩ := ht; omega
    rw [e]
    exact (by repeat (with_reducible first | exact nb_2 w _ _ | apply ext_drew | apply ext_drewN | apply ext_alloc))
  case round =>
    clear HB
    obtain ⟨k, hk, rfl, oc, od, HB⟩ := hrel
    obtain ⟨occ, ocf, ocl⟩ := cells_of oc.out
    obtain ⟨odc, odf, odl⟩ := cells_of od.out
    have GD := Aside0.mk (Nat.le_succ w.heap.size)
    by_cases hlt : k < n
    · have hT : IntKind.u64.wrap (IntKind.u64.wrap (t + (k : Int)) + 1) = IntKind.u64.wrap (t + ((k + 1 : Nat) : Int)) := by simp only [IntKind.wrap_u64]; omega
      have hk2 : clint_Tick.f (IntKind.u64.wrap (t + (k : Int))) c s = some (IntKind.u64.wrap (t + ((k + 1 : Nat) : Int)), c, s) := by unfold clint_Tick.f; rw [hT]
      have HK := Aside0.mk hk2
      clear hT hk2
      go_wp2_with fail
      (go_at_call 12; (with_reducible refine (clint_Tick.calls (IntKind.u64.wrap (t + (k : Int))) c s (IntKind.u64.wrap (t + ((k + 1 : Nat) : Int))) c s _ HK.out).mono ?_); rintro e_ w1 ⟨rfl, hb_⟩; have HB_ : Aside0 (Below w.heap.size w w1) := Aside0.mk (below_step (by repeat (first | (with_reducible first | exact HB.out | exact Below.refl _ _ | apply below_alloc | apply pw_below_drewN | apply below_drew | refine below_set ?_ (by omega)) | exact HB.out)) hb_); have oc_ := Aside0.mk (box_below hb_ (by repeat (with_reducible first | exact oc.out | apply ext_drew | apply ext_drewN | apply ext_alloc))); have od_ := Aside0.mk (box_below hb_ (by repeat (with_reducible first | exact od.out | apply ext_drew | apply ext_drewN | apply ext_alloc))); (try clear oc occ ocf ocl); have oc := oc_; clear oc_; obtain ⟨occ, ocf, ocl⟩ := cells_of oc.out; (try clear od odc odf odl); have od := od_; clear od_; obtain ⟨odc, odf, odl⟩ := cells_of od.out; clear HB hb_; have HB := HB_; clear HB_)
      go_wp2
      go_roundw
      case rel => exact ⟨k + 1, by omega, by go_num, ⟨blk_far (blk_far (blk_far oc.out (by simp) _) (by simp) _) (by simp) _⟩, ⟨blk_put (blk_put (blk_put od.out 0 _ rfl) 1 _ rfl) 2 _ rfl⟩, ⟨below_set (below_set (below_set HB.out GD.out) GD.out) GD.out⟩⟩
      case measure => simp [intOf]; omega
    · obtain rfl : n = k := by omega
      obtain ⟨ht0, ht1⟩ := ht
      have f1 : IntKind.u64.wrap (IntKind.u64.wrap (t + (n : Int)) - t) = n := by simp only [IntKind.wrap_u64]; omega
      have f2 : IntKind.u64.wrap (n : Int) = n := by simp only [IntKind.wrap_u64]; omega
      have f3 : IntKind.u64.wrap (t + (n : Int)) = t + n ∨ IntKind.u64.wrap (t + (n : Int)) < t := by simp only [IntKind.wrap_u64]; omega
      generalize IntKind.u64.wrap (t + (n : Int)) = T at *
      go_wp2_with fail
      (go_at_call 10; (with_reducible refine (clint_Lines.calls t c s s (decide (t ≥ c)) _ rfl).mono ?_); rintro e_ w1 ⟨rfl, hb_⟩; have HB_ : Aside0 (Below w.heap.size w w1) := Aside0.mk (below_step (by repeat (first | (with_reducible first | exact HB.out | exact Below.refl _ _ | apply below_alloc | apply pw_below_drewN | apply below_drew | refine below_set ?_ (by omega)) | exact HB.out)) hb_); have oc_ := Aside0.mk (box_below hb_ (by repeat (with_reducible first | exact oc.out | apply ext_drew | apply ext_drewN | apply ext_alloc))); have od_ := Aside0.mk (box_below hb_ (by repeat (with_reducible first | exact od.out | apply ext_drew | apply ext_drewN | apply ext_alloc))); (try clear oc occ ocf ocl); have oc := oc_; clear oc_; obtain ⟨occ, ocf, ocl⟩ := cells_of oc.out; (try clear od odc odf odl); have od := od_; clear od_; obtain ⟨odc, odf, odl⟩ := cells_of od.out; clear HB hb_; have HB := HB_; clear HB_)
      go_wp2_with fail
      (go_at_call 10; (with_reducible refine (clint_Lines.calls T c s s (decide (T ≥ c)) _ rfl).mono ?_); rintro e_ w2 ⟨rfl, hb_⟩; have HB_ : Aside0 (Below w.heap.size w w2) := Aside0.mk (below_step (by repeat (first | (with_reducible first | exact HB.out | exact Below.refl _ _ | apply below_alloc | apply pw_below_drewN | apply below_drew | refine below_set ?_ (by omega)) | exact HB.out)) hb_); have oc_ := Aside0.mk (box_below hb_ (by repeat (with_reducible first | exact oc.out | apply ext_drew | apply ext_drewN | apply ext_alloc))); have od_ := Aside0.mk (box_below hb_ (by repeat (with_reducible first | exact od.out | apply ext_drew | apply ext_drewN | apply ext_alloc))); (try clear oc occ ocf ocl); have oc := oc_; clear oc_; obtain ⟨occ, ocf, ocl⟩ := cells_of oc.out; (try clear od odc odf odl); have od := od_; clear od_; obtain ⟨odc, odf, odl⟩ := cells_of od.out; clear HB hb_; have HB := HB_; clear HB_)
      go_wp2_with fail
      all_goals (first | ((go_at_call 14; (with_reducible refine (heads_runs _).mono ?_); rintro e_ w5 ⟨rfl, hb_⟩; have HB_ : Aside0 (Below w.heap.size w w5) := Aside0.mk (below_step (by repeat (first | (with_reducible first | exact HB.out | exact Below.refl _ _ | apply below_alloc | apply pw_below_drewN | apply below_drew | refine below_set ?_ (by omega)) | exact HB.out)) hb_); clear HB hb_; have HB := HB_; clear HB_); go_wp2; (refine bodyPost_ret (v := .bool true) (by first | (simp [results, Try.results5, go_sem]; done) | (simp [results, Try.results5, go_sem]; omega)) rfl ?_); exact ⟨rfl, (by repeat (first | (with_reducible first | exact HB.out | exact Below.refl _ _ | apply below_alloc | apply pw_below_drewN | apply below_drew | refine below_set ?_ (by omega)) | exact HB.out))⟩) | (exfalso; clear HB oc od; omega))
theorem drawbridgelaw09_ClintPast.calls (t c : Int) (s : Bool) (n : Int) (r : Bool) (w : World) (h : drawbridgelaw09_ClintPast.f t c s n = some r) :
    Calls Try.prog 5 #[.agg #[.int .u64 t, .int .u64 c, .bool s], .int .i64 n] w fun e w' => e = .returned (.bool r) ∧ Below w.heap.size w w' := by
  unfold drawbridgelaw09_ClintPast.f at h
  split at h
  case isFalse => cases h
  case isTrue hh =>
  injection h with h; subst h
  obtain ⟨ht, hc, hn⟩ := hh
  by_cases k : n < 0 ∨ n > 1000
  · exact past_out t c s n w k
  · obtain ⟨m, rfl⟩ : ∃ m : Nat, n = m := ⟨n.toNat, by omega⟩
    exact past_in t c s m w ht hc (by omega)
end Go.Proofs.Ytfnealbmackjaaa.Q
