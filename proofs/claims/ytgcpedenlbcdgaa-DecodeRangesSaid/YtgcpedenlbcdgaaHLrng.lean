import Derived.Test.YtgcpedenlbcdgaaHDdec
import Derived.Test.YtgcpedenlbcdgaaHQx9
/- DecodeRanges, walked, class by class. -/
namespace Go.Proofs.Ytgcpedenlbcdgaa.Q
open Go.RowKit Go.Proofs.YtgcpedenlbcdgaaW.PrintWords Go.Proofs.YtgcpedenlbcdgaaW.PrintLast Go.Proofs.YtgcpedenlbcdgaaW.PrintMore Go.Proofs.Ytgcpedenlbcdgaa.L
attribute [local go_sem] Instr.field part asAgg lt_step max2_int min2_int max_two min_two max_three min_three max_four min_four lt_0_1 lt_0_2 lt_1_2 lt_0_3 lt_1_3 lt_2_3 lt_0_4 lt_1_4 lt_2_4 lt_3_4 lt_0_5 lt_1_5 lt_2_5 lt_3_5 lt_4_5 lt_0_6 lt_1_6 lt_2_6 lt_3_6 lt_4_6 lt_5_6 lt_0_7 lt_1_7 lt_2_7 lt_3_7 lt_4_7 lt_5_7 lt_6_7 lt_0_8 lt_1_8 lt_2_8 lt_3_8 lt_4_8 lt_5_8 lt_6_8 lt_7_8
set_option linter.unusedVariables false
set_option linter.unusedSimpArgs false
set_option maxHeartbeats 1600000 in
set_option maxRecDepth 100000 in
theorem rng_1 (f : Int) (b : Bool) (rd r1 r2 m x : Int) (w : World) (k0 : decide (rd < 0) = false) (k1 : decide (rd > 31) = false) (k2 : decide (r1 < 0) = false) (k3 : decide (r1 > 31) = false) (k4 : decide (r2 < 0) = false) (k5 : decide (r2 > 31) = false) (k8 : (Int.tmod m 4096 == 0) = true) (k9 : decide (IntKind.u64.wrap (m + 2147483648) < 4294967296) = true)
    (ED : Aside0 (∀ W, Calls Try.prog 11 #[.int .u32 x] W fun e w' => e = .returned (.tuple #[.agg #[.int .i64 1, .int .i64 f, .bool b, .int .i64 rd, .int .i64 r1, .int .i64 r2, .int .u64 m], .bool true]) ∧ Below W.heap.size W w')) :
    Calls Try.prog 4 #[.int .u32 x] w fun e w' => e = .returned (.bool true) ∧ Below w.heap.size w w' := by
  have HB := Aside0.mk (Below.refl w.heap.size w)
  go_enter Try.func4, Try.ntmps4
  go_wp2_with fail
  (go_at_call 11; (with_reducible refine (ED.out _).mono ?_); rintro e_ w1 ⟨rfl, hb_⟩; have HB_ : Aside0 (Below w.heap.size w w1) := Aside0.mk (below_step (by repeat (first | (with_reducible first | exact HB.out | exact Below.refl _ _ | apply below_alloc | apply pw_below_drewN | apply below_drew | refine below_set ?_ (by omega)) | exact HB.out)) hb_); have hzw1 := hb_.size; (try simp at hzw1); clear HB hb_; have HB := HB_; clear HB_)
  go_wp2_with fail
  (go_at_call 10; (with_reducible refine (drawbridgelaw03_heads.calls true _ drawbridgelaw03_heads.tells).mono ?_); rintro e_ w2 ⟨rfl, hb_⟩; have HB_ : Aside0 (Below w.heap.size w w2) := Aside0.mk (below_step (by repeat (first | (with_reducible first | exact HB.out | exact Below.refl _ _ | apply below_alloc | apply pw_below_drewN | apply below_drew | refine below_set ?_ (by omega)) | exact HB.out)) hb_); have hzw2 := hb_.size; (try simp at hzw2); clear HB hb_; have HB := HB_; clear HB_)
  go_wp2
  refine bodyPost_ret (v := .bool true) (by simp [results, Try.results4, go_sem] <;> first | assumption | omega | (symm; assumption)) rfl ?_
  exact ⟨rfl, (by repeat (first | (with_reducible first | exact HB.out | exact Below.refl _ _ | apply below_alloc | apply pw_below_drewN | apply below_drew | refine below_set ?_ (by omega)) | exact HB.out))⟩
set_option maxHeartbeats 1600000 in
set_option maxRecDepth 100000 in
theorem rng_2 (f : Int) (b : Bool) (rd r1 r2 m x : Int) (w : World) (k0 : decide (rd < 0) = false) (k1 : decide (rd > 31) = false) (k2 : decide (r1 < 0) = false) (k3 : decide (r1 > 31) = false) (k4 : decide (r2 < 0) = false) (k5 : decide (r2 > 31) = false) (k8 : (Int.tmod m 4096 == 0) = true) (k9 : decide (IntKind.u64.wrap (m + 2147483648) < 4294967296) = true)
    (ED : Aside0 (∀ W, Calls Try.prog 11 #[.int .u32 x] W fun e w' => e = .returned (.tuple #[.agg #[.int .i64 2, .int .i64 f, .bool b, .int .i64 rd, .int .i64 r1, .int .i64 r2, .int .u64 m], .bool true]) ∧ Below W.heap.size W w')) :
    Calls Try.prog 4 #[.int .u32 x] w fun e w' => e = .returned (.bool true) ∧ Below w.heap.size w w' := by
  have HB := Aside0.mk (Below.refl w.heap.size w)
  go_enter Try.func4, Try.ntmps4
  go_wp2_with fail
  (go_at_call 11; (with_reducible refine (ED.out _).mono ?_); rintro e_ w1 ⟨rfl, hb_⟩; have HB_ : Aside0 (Below w.heap.size w w1) := Aside0.mk (below_step (by repeat (first | (with_reducible first | exact HB.out | exact Below.refl _ _ | apply below_alloc | apply pw_below_drewN | apply below_drew | refine below_set ?_ (by omega)) | exact HB.out)) hb_); have hzw1 := hb_.size; (try simp at hzw1); clear HB hb_; have HB := HB_; clear HB_)
  go_wp2_with fail
  (go_at_call 10; (with_reducible refine (drawbridgelaw03_heads.calls true _ drawbridgelaw03_heads.tells).mono ?_); rintro e_ w2 ⟨rfl, hb_⟩; have HB_ : Aside0 (Below w.heap.size w w2) := Aside0.mk (below_step (by repeat (first | (with_reducible first | exact HB.out | exact Below.refl _ _ | apply below_alloc | apply pw_below_drewN | apply below_drew | refine below_set ?_ (by omega)) | exact HB.out)) hb_); have hzw2 := hb_.size; (try simp at hzw2); clear HB hb_; have HB := HB_; clear HB_)
  go_wp2
  refine bodyPost_ret (v := .bool true) (by simp [results, Try.results4, go_sem] <;> first | assumption | omega | (symm; assumption)) rfl ?_
  exact ⟨rfl, (by repeat (first | (with_reducible first | exact HB.out | exact Below.refl _ _ | apply below_alloc | apply pw_below_drewN | apply below_drew | refine below_set ?_ (by omega)) | exact HB.out))⟩
set_option maxHeartbeats 1600000 in
set_option maxRecDepth 100000 in
theorem rng_3 (f : Int) (b : Bool) (rd r1 r2 m x : Int) (w : World) (k0 : decide (rd < 0) = false) (k1 : decide (rd > 31) = false) (k2 : decide (r1 < 0) = false) (k3 : decide (r1 > 31) = false) (k4 : decide (r2 < 0) = false) (k5 : decide (r2 > 31) = false) (k8 : (Int.tmod m 2 != 0) = false) (k9 : decide (IntKind.u64.wrap (m + 1048576) < 2097152) = true)
    (ED : Aside0 (∀ W, Calls Try.prog 11 #[.int .u32 x] W fun e w' => e = .returned (.tuple #[.agg #[.int .i64 3, .int .i64 f, .bool b, .int .i64 rd, .int .i64 r1, .int .i64 r2, .int .u64 m], .bool true]) ∧ Below W.heap.size W w')) :
    Calls Try.prog 4 #[.int .u32 x] w fun e w' => e = .returned (.bool true) ∧ Below w.heap.size w w' := by
  have HB := Aside0.mk (Below.refl w.heap.size w)
  go_enter Try.func4, Try.ntmps4
  go_wp2_with fail
  (go_at_call 11; (with_reducible refine (ED.out _).mono ?_); rintro e_ w1 ⟨rfl, hb_⟩; have HB_ : Aside0 (Below w.heap.size w w1) := Aside0.mk (below_step (by repeat (first | (with_reducible first | exact HB.out | exact Below.refl _ _ | apply below_alloc | apply pw_below_drewN | apply below_drew | refine below_set ?_ (by omega)) | exact HB.out)) hb_); have hzw1 := hb_.size; (try simp at hzw1); clear HB hb_; have HB := HB_; clear HB_)
  go_wp2_with fail
  (go_at_call 10; (with_reducible refine (drawbridgelaw03_heads.calls true _ drawbridgelaw03_heads.tells).mono ?_); rintro e_ w2 ⟨rfl, hb_⟩; have HB_ : Aside0 (Below w.heap.size w w2) := Aside0.mk (below_step (by repeat (first | (with_reducible first | exact HB.out | exact Below.refl _ _ | apply below_alloc | apply pw_below_drewN | apply below_drew | refine below_set ?_ (by omega)) | exact HB.out)) hb_); have hzw2 := hb_.size; (try simp at hzw2); clear HB hb_; have HB := HB_; clear HB_)
  go_wp2
  refine bodyPost_ret (v := .bool true) (by simp [results, Try.results4, go_sem] <;> first | assumption | omega | (symm; assumption)) rfl ?_
  exact ⟨rfl, (by repeat (first | (with_reducible first | exact HB.out | exact Below.refl _ _ | apply below_alloc | apply pw_below_drewN | apply below_drew | refine below_set ?_ (by omega)) | exact HB.out))⟩
set_option maxHeartbeats 1600000 in
set_option maxRecDepth 100000 in
theorem rng_4 (f : Int) (b : Bool) (rd r1 r2 m x : Int) (w : World) (k0 : decide (rd < 0) = false) (k1 : decide (rd > 31) = false) (k2 : decide (r1 < 0) = false) (k3 : decide (r1 > 31) = false) (k4 : decide (r2 < 0) = false) (k5 : decide (r2 > 31) = false) (k9 : decide (IntKind.u64.wrap (m + 2048) < 4096) = true)
    (ED : Aside0 (∀ W, Calls Try.prog 11 #[.int .u32 x] W fun e w' => e = .returned (.tuple #[.agg #[.int .i64 4, .int .i64 f, .bool b, .int .i64 rd, .int .i64 r1, .int .i64 r2, .int .u64 m], .bool true]) ∧ Below W.heap.size W w')) :
    Calls Try.prog 4 #[.int .u32 x] w fun e w' => e = .returned (.bool true) ∧ Below w.heap.size w w' := by
  have HB := Aside0.mk (Below.refl w.heap.size w)
  go_enter Try.func4, Try.ntmps4
  go_wp2_with fail
  (go_at_call 11; (with_reducible refine (ED.out _).mono ?_); rintro e_ w1 ⟨rfl, hb_⟩; have HB_ : Aside0 (Below w.heap.size w w1) := Aside0.mk (below_step (by repeat (first | (with_reducible first | exact HB.out | exact Below.refl _ _ | apply below_alloc | apply pw_below_drewN | apply below_drew | refine below_set ?_ (by omega)) | exact HB.out)) hb_); have hzw1 := hb_.size; (try simp at hzw1); clear HB hb_; have HB := HB_; clear HB_)
  go_wp2_with fail
  (go_at_call 10; (with_reducible refine (drawbridgelaw03_heads.calls true _ drawbridgelaw03_heads.tells).mono ?_); rintro e_ w2 ⟨rfl, hb_⟩; have HB_ : Aside0 (Below w.heap.size w w2) := Aside0.mk (below_step (by repeat (first | (with_reducible first | exact HB.out | exact Below.refl _ _ | apply below_alloc | apply pw_below_drewN | apply below_drew | refine below_set ?_ (by omega)) | exact HB.out)) hb_); have hzw2 := hb_.size; (try simp at hzw2); clear HB hb_; have HB := HB_; clear HB_)
  go_wp2
  refine bodyPost_ret (v := .bool true) (by simp [results, Try.results4, go_sem] <;> first | assumption | omega | (symm; assumption)) rfl ?_
  exact ⟨rfl, (by repeat (first | (with_reducible first | exact HB.out | exact Below.refl _ _ | apply below_alloc | apply pw_below_drewN | apply below_drew | refine below_set ?_ (by omega)) | exact HB.out))⟩
set_option maxHeartbeats 1600000 in
set_option maxRecDepth 100000 in
theorem rng_5 (f : Int) (b : Bool) (rd r1 r2 m x : Int) (w : World) (k0 : decide (rd < 0) = false) (k1 : decide (rd > 31) = false) (k2 : decide (r1 < 0) = false) (k3 : decide (r1 > 31) = false) (k4 : decide (r2 < 0) = false) (k5 : decide (r2 > 31) = false) (k8 : (Int.tmod m 2 != 0) = false) (k9 : decide (IntKind.u64.wrap (m + 4096) < 8192) = true)
    (ED : Aside0 (∀ W, Calls Try.prog 11 #[.int .u32 x] W fun e w' => e = .returned (.tuple #[.agg #[.int .i64 5, .int .i64 f, .bool b, .int .i64 rd, .int .i64 r1, .int .i64 r2, .int .u64 m], .bool true]) ∧ Below W.heap.size W w')) :
    Calls Try.prog 4 #[.int .u32 x] w fun e w' => e = .returned (.bool true) ∧ Below w.heap.size w w' := by
  have HB := Aside0.mk (Below.refl w.heap.size w)
  go_enter Try.func4, Try.ntmps4
  go_wp2_with fail
  (go_at_call 11; (with_reducible refine (ED.out _).mono ?_); rintro e_ w1 ⟨rfl, hb_⟩; have HB_ : Aside0 (Below w.heap.size w w1) := Aside0.mk (below_step (by repeat (first | (with_reducible first | exact HB.out | exact Below.refl _ _ | apply below_alloc | apply pw_below_drewN | apply below_drew | refine below_set ?_ (by omega)) | exact HB.out)) hb_); have hzw1 := hb_.size; (try simp at hzw1); clear HB hb_; have HB := HB_; clear HB_)
  go_wp2_with fail
  (go_at_call 10; (with_reducible refine (drawbridgelaw03_heads.calls true _ drawbridgelaw03_heads.tells).mono ?_); rintro e_ w2 ⟨rfl, hb_⟩; have HB_ : Aside0 (Below w.heap.size w w2) := Aside0.mk (below_step (by repeat (first | (with_reducible first | exact HB.out | exact Below.refl _ _ | apply below_alloc | apply pw_below_drewN | apply below_drew | refine below_set ?_ (by omega)) | exact HB.out)) hb_); have hzw2 := hb_.size; (try simp at hzw2); clear HB hb_; have HB := HB_; clear HB_)
  go_wp2
  refine bodyPost_ret (v := .bool true) (by simp [results, Try.results4, go_sem] <;> first | assumption | omega | (symm; assumption)) rfl ?_
  exact ⟨rfl, (by repeat (first | (with_reducible first | exact HB.out | exact Below.refl _ _ | apply below_alloc | apply pw_below_drewN | apply below_drew | refine below_set ?_ (by omega)) | exact HB.out))⟩
set_option maxHeartbeats 1600000 in
set_option maxRecDepth 100000 in
theorem rng_6 (f : Int) (b : Bool) (rd r1 r2 m x : Int) (w : World) (k0 : decide (rd < 0) = false) (k1 : decide (rd > 31) = false) (k2 : decide (r1 < 0) = false) (k3 : decide (r1 > 31) = false) (k4 : decide (r2 < 0) = false) (k5 : decide (r2 > 31) = false) (k9 : decide (IntKind.u64.wrap (m + 2048) < 4096) = true)
    (ED : Aside0 (∀ W, Calls Try.prog 11 #[.int .u32 x] W fun e w' => e = .returned (.tuple #[.agg #[.int .i64 6, .int .i64 f, .bool b, .int .i64 rd, .int .i64 r1, .int .i64 r2, .int .u64 m], .bool true]) ∧ Below W.heap.size W w')) :
    Calls Try.prog 4 #[.int .u32 x] w fun e w' => e = .returned (.bool true) ∧ Below w.heap.size w w' := by
  have HB := Aside0.mk (Below.refl w.heap.size w)
  go_enter Try.func4, Try.ntmps4
  go_wp2_with fail
  (go_at_call 11; (with_reducible refine (ED.out _).mono ?_); rintro e_ w1 ⟨rfl, hb_⟩; have HB_ : Aside0 (Below w.heap.size w w1) := Aside0.mk (below_step (by repeat (first | (with_reducible first | exact HB.out | exact Below.refl _ _ | apply below_alloc | apply pw_below_drewN | apply below_drew | refine below_set ?_ (by omega)) | exact HB.out)) hb_); have hzw1 := hb_.size; (try simp at hzw1); clear HB hb_; have HB := HB_; clear HB_)
  go_wp2_with fail
  (go_at_call 10; (with_reducible refine (drawbridgelaw03_heads.calls true _ drawbridgelaw03_heads.tells).mono ?_); rintro e_ w2 ⟨rfl, hb_⟩; have HB_ : Aside0 (Below w.heap.size w w2) := Aside0.mk (below_step (by repeat (first | (with_reducible first | exact HB.out | exact Below.refl _ _ | apply below_alloc | apply pw_below_drewN | apply below_drew | refine below_set ?_ (by omega)) | exact HB.out)) hb_); have hzw2 := hb_.size; (try simp at hzw2); clear HB hb_; have HB := HB_; clear HB_)
  go_wp2
  refine bodyPost_ret (v := .bool true) (by simp [results, Try.results4, go_sem] <;> first | assumption | omega | (symm; assumption)) rfl ?_
  exact ⟨rfl, (by repeat (first | (with_reducible first | exact HB.out | exact Below.refl _ _ | apply below_alloc | apply pw_below_drewN | apply below_drew | refine below_set ?_ (by omega)) | exact HB.out))⟩
set_option maxHeartbeats 1600000 in
set_option maxRecDepth 100000 in
theorem rng_7 (f : Int) (b : Bool) (rd r1 r2 m x : Int) (w : World) (k0 : decide (rd < 0) = false) (k1 : decide (rd > 31) = false) (k2 : decide (r1 < 0) = false) (k3 : decide (r1 > 31) = false) (k4 : decide (r2 < 0) = false) (k5 : decide (r2 > 31) = false) (k9 : decide (IntKind.u64.wrap (m + 2048) < 4096) = true)
    (ED : Aside0 (∀ W, Calls Try.prog 11 #[.int .u32 x] W fun e w' => e = .returned (.tuple #[.agg #[.int .i64 7, .int .i64 f, .bool b, .int .i64 rd, .int .i64 r1, .int .i64 r2, .int .u64 m], .bool true]) ∧ Below W.heap.size W w')) :
    Calls Try.prog 4 #[.int .u32 x] w fun e w' => e = .returned (.bool true) ∧ Below w.heap.size w w' := by
  have HB := Aside0.mk (Below.refl w.heap.size w)
  go_enter Try.func4, Try.ntmps4
  go_wp2_with fail
  (go_at_call 11; (with_reducible refine (ED.out _).mono ?_); rintro e_ w1 ⟨rfl, hb_⟩; have HB_ : Aside0 (Below w.heap.size w w1) := Aside0.mk (below_step (by repeat (first | (with_reducible first | exact HB.out | exact Below.refl _ _ | apply below_alloc | apply pw_below_drewN | apply below_drew | refine below_set ?_ (by omega)) | exact HB.out)) hb_); have hzw1 := hb_.size; (try simp at hzw1); clear HB hb_; have HB := HB_; clear HB_)
  go_wp2_with fail
  (go_at_call 10; (with_reducible refine (drawbridgelaw03_heads.calls true _ drawbridgelaw03_heads.tells).mono ?_); rintro e_ w2 ⟨rfl, hb_⟩; have HB_ : Aside0 (Below w.heap.size w w2) := Aside0.mk (below_step (by repeat (first | (with_reducible first | exact HB.out | exact Below.refl _ _ | apply below_alloc | apply pw_below_drewN | apply below_drew | refine below_set ?_ (by omega)) | exact HB.out)) hb_); have hzw2 := hb_.size; (try simp at hzw2); clear HB hb_; have HB := HB_; clear HB_)
  go_wp2
  refine bodyPost_ret (v := .bool true) (by simp [results, Try.results4, go_sem] <;> first | assumption | omega | (symm; assumption)) rfl ?_
  exact ⟨rfl, (by repeat (first | (with_reducible first | exact HB.out | exact Below.refl _ _ | apply below_alloc | apply pw_below_drewN | apply below_drew | refine below_set ?_ (by omega)) | exact HB.out))⟩
set_option maxHeartbeats 1600000 in
set_option maxRecDepth 100000 in
theorem rng_8 (f : Int) (b : Bool) (rd r1 r2 m x : Int) (w : World) (k0 : decide (rd < 0) = false) (k1 : decide (rd > 31) = false) (k2 : decide (r1 < 0) = false) (k3 : decide (r1 > 31) = false) (k4 : decide (r2 < 0) = false) (k5 : decide (r2 > 31) = false) (k9 : decide (IntKind.u64.wrap (m + 2048) < 4096) = true)
    (ED : Aside0 (∀ W, Calls Try.prog 11 #[.int .u32 x] W fun e w' => e = .returned (.tuple #[.agg #[.int .i64 8, .int .i64 f, .bool b, .int .i64 rd, .int .i64 r1, .int .i64 r2, .int .u64 m], .bool true]) ∧ Below W.heap.size W w')) :
    Calls Try.prog 4 #[.int .u32 x] w fun e w' => e = .returned (.bool true) ∧ Below w.heap.size w w' := by
  have HB := Aside0.mk (Below.refl w.heap.size w)
  go_enter Try.func4, Try.ntmps4
  go_wp2_with fail
  (go_at_call 11; (with_reducible refine (ED.out _).mono ?_); rintro e_ w1 ⟨rfl, hb_⟩; have HB_ : Aside0 (Below w.heap.size w w1) := Aside0.mk (below_step (by repeat (first | (with_reducible first | exact HB.out | exact Below.refl _ _ | apply below_alloc | apply pw_below_drewN | apply below_drew | refine below_set ?_ (by omega)) | exact HB.out)) hb_); have hzw1 := hb_.size; (try simp at hzw1); clear HB hb_; have HB := HB_; clear HB_)
  go_wp2_with fail
  (go_at_call 10; (with_reducible refine (drawbridgelaw03_heads.calls true _ drawbridgelaw03_heads.tells).mono ?_); rintro e_ w2 ⟨rfl, hb_⟩; have HB_ : Aside0 (Below w.heap.size w w2) := Aside0.mk (below_step (by repeat (first | (with_reducible first | exact HB.out | exact Below.refl _ _ | apply below_alloc | apply pw_below_drewN | apply below_drew | refine below_set ?_ (by omega)) | exact HB.out)) hb_); have hzw2 := hb_.size; (try simp at hzw2); clear HB hb_; have HB := HB_; clear HB_)
  go_wp2
  refine bodyPost_ret (v := .bool true) (by simp [results, Try.results4, go_sem] <;> first | assumption | omega | (symm; assumption)) rfl ?_
  exact ⟨rfl, (by repeat (first | (with_reducible first | exact HB.out | exact Below.refl _ _ | apply below_alloc | apply pw_below_drewN | apply below_drew | refine below_set ?_ (by omega)) | exact HB.out))⟩
set_option maxHeartbeats 1600000 in
set_option maxRecDepth 100000 in
theorem rng_9 (f : Int) (b : Bool) (rd r1 r2 m x : Int) (w : World) (k0 : decide (rd < 0) = false) (k1 : decide (rd > 31) = false) (k2 : decide (r1 < 0) = false) (k3 : decide (r1 > 31) = false) (k4 : decide (r2 < 0) = false) (k5 : decide (r2 > 31) = false) (k9 : decide (IntKind.u64.wrap (m + 2048) < 4096) = true)
    (ED : Aside0 (∀ W, Calls Try.prog 11 #[.int .u32 x] W fun e w' => e = .returned (.tuple #[.agg #[.int .i64 9, .int .i64 f, .bool b, .int .i64 rd, .int .i64 r1, .int .i64 r2, .int .u64 m], .bool true]) ∧ Below W.heap.size W w')) :
    Calls Try.prog 4 #[.int .u32 x] w fun e w' => e = .returned (.bool true) ∧ Below w.heap.size w w' := by
  have HB := Aside0.mk (Below.refl w.heap.size w)
  go_enter Try.func4, Try.ntmps4
  go_wp2_with fail
  (go_at_call 11; (with_reducible refine (ED.out _).mono ?_); rintro e_ w1 ⟨rfl, hb_⟩; have HB_ : Aside0 (Below w.heap.size w w1) := Aside0.mk (below_step (by repeat (first | (with_reducible first | exact HB.out | exact Below.refl _ _ | apply below_alloc | apply pw_below_drewN | apply below_drew | refine below_set ?_ (by omega)) | exact HB.out)) hb_); have hzw1 := hb_.size; (try simp at hzw1); clear HB hb_; have HB := HB_; clear HB_)
  go_wp2_with fail
  (go_at_call 10; (with_reducible refine (drawbridgelaw03_heads.calls true _ drawbridgelaw03_heads.tells).mono ?_); rintro e_ w2 ⟨rfl, hb_⟩; have HB_ : Aside0 (Below w.heap.size w w2) := Aside0.mk (below_step (by repeat (first | (with_reducible first | exact HB.out | exact Below.refl _ _ | apply below_alloc | apply pw_below_drewN | apply below_drew | refine below_set ?_ (by omega)) | exact HB.out)) hb_); have hzw2 := hb_.size; (try simp at hzw2); clear HB hb_; have HB := HB_; clear HB_)
  go_wp2
  refine bodyPost_ret (v := .bool true) (by simp [results, Try.results4, go_sem] <;> first | assumption | omega | (symm; assumption)) rfl ?_
  exact ⟨rfl, (by repeat (first | (with_reducible first | exact HB.out | exact Below.refl _ _ | apply below_alloc | apply pw_below_drewN | apply below_drew | refine below_set ?_ (by omega)) | exact HB.out))⟩
set_option maxHeartbeats 1600000 in
set_option maxRecDepth 100000 in
theorem rng_10 (f : Int) (b : Bool) (rd r1 r2 m x : Int) (w : World) (k0 : decide (rd < 0) = false) (k1 : decide (rd > 31) = false) (k2 : decide (r1 < 0) = false) (k3 : decide (r1 > 31) = false) (k4 : decide (r2 < 0) = false) (k5 : decide (r2 > 31) = false) (k9 : decide (IntKind.u64.wrap (m + 2048) < 4096) = true)
    (ED : Aside0 (∀ W, Calls Try.prog 11 #[.int .u32 x] W fun e w' => e = .returned (.tuple #[.agg #[.int .i64 10, .int .i64 f, .bool b, .int .i64 rd, .int .i64 r1, .int .i64 r2, .int .u64 m], .bool true]) ∧ Below W.heap.size W w')) :
    Calls Try.prog 4 #[.int .u32 x] w fun e w' => e = .returned (.bool true) ∧ Below w.heap.size w w' := by
  have HB := Aside0.mk (Below.refl w.heap.size w)
  go_enter Try.func4, Try.ntmps4
  go_wp2_with fail
  (go_at_call 11; (with_reducible refine (ED.out _).mono ?_); rintro e_ w1 ⟨rfl, hb_⟩; have HB_ : Aside0 (Below w.heap.size w w1) := Aside0.mk (below_step (by repeat (first | (with_reducible first | exact HB.out | exact Below.refl _ _ | apply below_alloc | apply pw_below_drewN | apply below_drew | refine below_set ?_ (by omega)) | exact HB.out)) hb_); have hzw1 := hb_.size; (try simp at hzw1); clear HB hb_; have HB := HB_; clear HB_)
  go_wp2_with fail
  (go_at_call 10; (with_reducible refine (drawbridgelaw03_heads.calls true _ drawbridgelaw03_heads.tells).mono ?_); rintro e_ w2 ⟨rfl, hb_⟩; have HB_ : Aside0 (Below w.heap.size w w2) := Aside0.mk (below_step (by repeat (first | (with_reducible first | exact HB.out | exact Below.refl _ _ | apply below_alloc | apply pw_below_drewN | apply below_drew | refine below_set ?_ (by omega)) | exact HB.out)) hb_); have hzw2 := hb_.size; (try simp at hzw2); clear HB hb_; have HB := HB_; clear HB_)
  go_wp2
  refine bodyPost_ret (v := .bool true) (by simp [results, Try.results4, go_sem] <;> first | assumption | omega | (symm; assumption)) rfl ?_
  exact ⟨rfl, (by repeat (first | (with_reducible first | exact HB.out | exact Below.refl _ _ | apply below_alloc | apply pw_below_drewN | apply below_drew | refine below_set ?_ (by omega)) | exact HB.out))⟩
set_option maxHeartbeats 1600000 in
set_option maxRecDepth 100000 in
theorem rng_11 (f : Int) (b : Bool) (rd r1 r2 m x : Int) (w : World) (k0 : decide (rd < 0) = false) (k1 : decide (rd > 31) = false) (k2 : decide (r1 < 0) = false) (k3 : decide (r1 > 31) = false) (k4 : decide (r2 < 0) = false) (k5 : decide (r2 > 31) = false) (k9 : decide (IntKind.u64.wrap (m + 2048) < 4096) = true)
    (ED : Aside0 (∀ W, Calls Try.prog 11 #[.int .u32 x] W fun e w' => e = .returned (.tuple #[.agg #[.int .i64 11, .int .i64 f, .bool b, .int .i64 rd, .int .i64 r1, .int .i64 r2, .int .u64 m], .bool true]) ∧ Below W.heap.size W w')) :
    Calls Try.prog 4 #[.int .u32 x] w fun e w' => e = .returned (.bool true) ∧ Below w.heap.size w w' := by
  have HB := Aside0.mk (Below.refl w.heap.size w)
  go_enter Try.func4, Try.ntmps4
  go_wp2_with fail
  (go_at_call 11; (with_reducible refine (ED.out _).mono ?_); rintro e_ w1 ⟨rfl, hb_⟩; have HB_ : Aside0 (Below w.heap.size w w1) := Aside0.mk (below_step (by repeat (first | (with_reducible first | exact HB.out | exact Below.refl _ _ | apply below_alloc | apply pw_below_drewN | apply below_drew | refine below_set ?_ (by omega)) | exact HB.out)) hb_); have hzw1 := hb_.size; (try simp at hzw1); clear HB hb_; have HB := HB_; clear HB_)
  go_wp2_with fail
  (go_at_call 10; (with_reducible refine (drawbridgelaw03_heads.calls true _ drawbridgelaw03_heads.tells).mono ?_); rintro e_ w2 ⟨rfl, hb_⟩; have HB_ : Aside0 (Below w.heap.size w w2) := Aside0.mk (below_step (by repeat (first | (with_reducible first | exact HB.out | exact Below.refl _ _ | apply below_alloc | apply pw_below_drewN | apply below_drew | refine below_set ?_ (by omega)) | exact HB.out)) hb_); have hzw2 := hb_.size; (try simp at hzw2); clear HB hb_; have HB := HB_; clear HB_)
  go_wp2
  refine bodyPost_ret (v := .bool true) (by simp [results, Try.results4, go_sem] <;> first | assumption | omega | (symm; assumption)) rfl ?_
  exact ⟨rfl, (by repeat (first | (with_reducible first | exact HB.out | exact Below.refl _ _ | apply below_alloc | apply pw_below_drewN | apply below_drew | refine below_set ?_ (by omega)) | exact HB.out))⟩
set_option maxHeartbeats 1600000 in
set_option maxRecDepth 100000 in
theorem rng_12 (f : Int) (b : Bool) (rd r1 r2 m x : Int) (w : World) (k0 : decide (rd < 0) = false) (k1 : decide (rd > 31) = false) (k2 : decide (r1 < 0) = false) (k3 : decide (r1 > 31) = false) (k4 : decide (r2 < 0) = false) (k5 : decide (r2 > 31) = false) (k9 : decide (m < 4096) = true)
    (ED : Aside0 (∀ W, Calls Try.prog 11 #[.int .u32 x] W fun e w' => e = .returned (.tuple #[.agg #[.int .i64 12, .int .i64 f, .bool b, .int .i64 rd, .int .i64 r1, .int .i64 r2, .int .u64 m], .bool true]) ∧ Below W.heap.size W w')) :
    Calls Try.prog 4 #[.int .u32 x] w fun e w' => e = .returned (.bool true) ∧ Below w.heap.size w w' := by
  have HB := Aside0.mk (Below.refl w.heap.size w)
  go_enter Try.func4, Try.ntmps4
  go_wp2_with fail
  (go_at_call 11; (with_reducible refine (ED.out _).mono ?_); rintro e_ w1 ⟨rfl, hb_⟩; have HB_ : Aside0 (Below w.heap.size w w1) := Aside0.mk (below_step (by repeat (first | (with_reducible first | exact HB.out | exact Below.refl _ _ | apply below_alloc | apply pw_below_drewN | apply below_drew | refine below_set ?_ (by omega)) | exact HB.out)) hb_); have hzw1 := hb_.size; (try simp at hzw1); clear HB hb_; have HB := HB_; clear HB_)
  go_wp2_with fail
  (go_at_call 10; (with_reducible refine (drawbridgelaw03_heads.calls true _ drawbridgelaw03_heads.tells).mono ?_); rintro e_ w2 ⟨rfl, hb_⟩; have HB_ : Aside0 (Below w.heap.size w w2) := Aside0.mk (below_step (by repeat (first | (with_reducible first | exact HB.out | exact Below.refl _ _ | apply below_alloc | apply pw_below_drewN | apply below_drew | refine below_set ?_ (by omega)) | exact HB.out)) hb_); have hzw2 := hb_.size; (try simp at hzw2); clear HB hb_; have HB := HB_; clear HB_)
  go_wp2
  refine bodyPost_ret (v := .bool true) (by simp [results, Try.results4, go_sem] <;> first | assumption | omega | (symm; assumption)) rfl ?_
  exact ⟨rfl, (by repeat (first | (with_reducible first | exact HB.out | exact Below.refl _ _ | apply below_alloc | apply pw_below_drewN | apply below_drew | refine below_set ?_ (by omega)) | exact HB.out))⟩
set_option maxHeartbeats 1600000 in
set_option maxRecDepth 100000 in
theorem rng_13 (f : Int) (b : Bool) (rd r1 r2 m x : Int) (w : World) (k0 : decide (rd < 0) = false) (k1 : decide (rd > 31) = false) (k2 : decide (r1 < 0) = false) (k3 : decide (r1 > 31) = false) (k4 : decide (r2 < 0) = false) (k5 : decide (r2 > 31) = false) (k9 : decide (IntKind.u64.wrap (m + 2048) < 4096) = true)
    (ED : Aside0 (∀ W, Calls Try.prog 11 #[.int .u32 x] W fun e w' => e = .returned (.tuple #[.agg #[.int .i64 13, .int .i64 f, .bool b, .int .i64 rd, .int .i64 r1, .int .i64 r2, .int .u64 m], .bool true]) ∧ Below W.heap.size W w')) :
    Calls Try.prog 4 #[.int .u32 x] w fun e w' => e = .returned (.bool true) ∧ Below w.heap.size w w' := by
  have HB := Aside0.mk (Below.refl w.heap.size w)
  go_enter Try.func4, Try.ntmps4
  go_wp2_with fail
  (go_at_call 11; (with_reducible refine (ED.out _).mono ?_); rintro e_ w1 ⟨rfl, hb_⟩; have HB_ : Aside0 (Below w.heap.size w w1) := Aside0.mk (below_step (by repeat (first | (with_reducible first | exact HB.out | exact Below.refl _ _ | apply below_alloc | apply pw_below_drewN | apply below_drew | refine below_set ?_ (by omega)) | exact HB.out)) hb_); have hzw1 := hb_.size; (try simp at hzw1); clear HB hb_; have HB := HB_; clear HB_)
  go_wp2_with fail
  (go_at_call 10; (with_reducible refine (drawbridgelaw03_heads.calls true _ drawbridgelaw03_heads.tells).mono ?_); rintro e_ w2 ⟨rfl, hb_⟩; have HB_ : Aside0 (Below w.heap.size w w2) := Aside0.mk (below_step (by repeat (first | (with_reducible first | exact HB.out | exact Below.refl _ _ | apply below_alloc | apply pw_below_drewN | apply below_drew | refine below_set ?_ (by omega)) | exact HB.out)) hb_); have hzw2 := hb_.size; (try simp at hzw2); clear HB hb_; have HB := HB_; clear HB_)
  go_wp2
  refine bodyPost_ret (v := .bool true) (by simp [results, Try.results4, go_sem] <;> first | assumption | omega | (symm; assumption)) rfl ?_
  exact ⟨rfl, (by repeat (first | (with_reducible first | exact HB.out | exact Below.refl _ _ | apply below_alloc | apply pw_below_drewN | apply below_drew | refine below_set ?_ (by omega)) | exact HB.out))⟩
end Go.Proofs.Ytgcpedenlbcdgaa.Q
