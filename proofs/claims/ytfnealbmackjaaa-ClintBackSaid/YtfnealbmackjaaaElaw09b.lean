/- ClintBack, walked. -/
import Derived.Test.YtfnealbmackjaaaElaw09
import Derived.Test.YtfnealbmackjaaaCq
namespace Go.Proofs.Ytfnealbmackjaaa.Q
open Go.RowKit Go.Proofs.YtfnealbmackjaaaW.PrintWords Go.Proofs.YtfnealbmackjaaaW.PrintLast Go.Proofs.YtfnealbmackjaaaW.PrintMore Go.Proofs.Ytfnealbmackjaaa.L
attribute [local go_sem] Instr.field part asAgg lt_step max2_int min2_int max_two min_two max_three min_three max_four min_four lt_0_1 lt_0_2 lt_1_2 lt_0_3 lt_1_3 lt_2_3 lt_0_4 lt_1_4 lt_2_4 lt_3_4 lt_0_5 lt_1_5 lt_2_5 lt_3_5 lt_4_5 lt_0_6 lt_1_6 lt_2_6 lt_3_6 lt_4_6 lt_5_6 lt_0_7 lt_1_7 lt_2_7 lt_3_7 lt_4_7 lt_5_7 lt_6_7 lt_0_8 lt_1_8 lt_2_8 lt_3_8 lt_4_8 lt_5_8 lt_6_8 lt_7_8
set_option linter.unusedVariables false
set_option linter.unusedSimpArgs false
def drawbridgelaw09_ClintBack.f (t c : Int) (s : Bool) (off size x other : Int) : Option Bool := open Classical in if u64B t ∧ u64B c ∧ u64B off ∧ u64B x ∧ u64B other then some true else none
theorem back_no_runs (t c : Int) (s : Bool) (off size x other : Int) (w : World) (ht : u64B t) (hc : u64B c) (hx : u64B x) (hno : (clStore t c s off size x).2.2.2 = false) :
    Calls Try.prog 4 #[.agg #[.int .u64 t, .int .u64 c, .bool s], .int .u64 off, .int .i64 size, .int .u64 x, .int .u64 other] w fun e w' => e = .returned (.bool true) ∧ Below w.heap.size w w' := by
  have hs := clStore_no t c s off size x hno
  have st : ∀ W, Calls Try.prog 8 #[.agg #[.int .u64 t, .int .u64 c, .bool s], .int .u64 off, .int .i64 size, .int .u64 x] W fun e w' => e = .returned (.tuple #[.agg #[.int .u64 t, .int .u64 c, .bool s], .bool false]) ∧ Below W.heap.size W w' := by
    intro W
    have := store_runs t c s off size x W ht hc hx
    rw [hs] at this
    exact this
  have ST := Aside0.mk st
  clear st hs ht hc hx hno
  have HB := Aside0.mk (Below.refl w.heap.size w)
  have hu := Try.underlying24
  go_enter Try.func4, Try.ntmps4
  go_wp2_with fail
  (go_at_call 8; (with_reducible refine (ST.out _).mono ?_); rintro e_ w1 ⟨rfl, hb_⟩; have HB_ : Aside0 (Below w.heap.size w w1) := Aside0.mk (below_step (by repeat (first | (with_reducible first | exact HB.out | exact Below.refl _ _ | apply below_alloc | apply pw_below_drewN | apply below_drew | refine below_set ?_ (by omega)) | exact HB.out)) hb_); have oc_ := Aside0.mk (box_below hb_ (by repeat (with_reducible first | exact nb_1 w _ | apply ext_drew | apply ext_drewN | apply ext_alloc))); (try clear oc occ ocf ocl); have oc := oc_; clear oc_; obtain ⟨occ, ocf, ocl⟩ := cells_of oc.out; clear HB hb_; have HB := HB_; clear HB_)
  go_wp2_with fail
  (go_at_call 14; (with_reducible refine (heads_runs _).mono ?_); rintro e_ w2 ⟨rfl, hb_⟩; have HB_ : Aside0 (Below w.heap.size w w2) := Aside0.mk (below_step (by repeat (first | (with_reducible first | exact HB.out | exact Below.refl _ _ | apply below_alloc | apply pw_below_drewN | apply below_drew | refine below_set ?_ (by omega)) | exact HB.out)) hb_); clear HB hb_; have HB := HB_; clear HB_)
  go_wp2
  refine bodyPost_ret (v := .bool true) (by simp [results, Try.results4, go_sem]) rfl ?_
  exact ⟨rfl, (by repeat (first | (with_reducible first | exact HB.out | exact Below.refl _ _ | apply below_alloc | apply pw_below_drewN | apply below_drew | refine below_set ?_ (by omega)) | exact HB.out))⟩
set_option maxHeartbeats 1600000 in
set_option maxRecDepth 100000 in
theorem back_runs (t c t' c' : Int) (s s' : Bool) (off size x other a b y : Int) (p : Bool) (w : World)
    (st : ∀ W, Calls Try.prog 8 #[.agg #[.int .u64 t, .int .u64 c, .bool s], .int .u64 off, .int .i64 size, .int .u64 x] W fun e w' => e = .returned (.tuple #[.agg #[.int .u64 t', .int .u64 c', .bool s'], .bool true]) ∧ Below W.heap.size W w')
    (l1 : ∀ W, Calls Try.prog 6 #[.agg #[.int .u64 t', .int .u64 c', .bool s'], .int .u64 off, .int .i64 size] W fun e w' => e = .returned (.tuple #[.int .u64 (clWant off size x), .bool true]) ∧ Below W.heap.size W w')
    (l2 : ∀ W, Calls Try.prog 6 #[.agg #[.int .u64 t', .int .u64 c', .bool s'], .int .u64 other, .int .i64 4] W fun e w' => e = .returned (.tuple #[.int .u64 a, .bool p]) ∧ Below W.heap.size W w')
    (l3 : ∀ W, Calls Try.prog 6 #[.agg #[.int .u64 t, .int .u64 c, .bool s], .int .u64 other, .int .i64 4] W fun e w' => e = .returned (.tuple #[.int .u64 b, .bool p]) ∧ Below W.heap.size W w')
    (ho : u64B off) (hx : u64B x) (hoth : u64B other) (h04 : off = 0 → size = 4) (h48 : size = 4 ∨ size = 8)
    (hap : (other < off ∧ off - other ≥ 4 ∨ other > off ∧ other - off ≥ size) → a = b) :
    Calls Try.prog 4 #[.agg #[.int .u64 t, .int .u64 c, .bool s], .int .u64 off, .int .i64 size, .int .u64 x, .int .u64 other] w fun e w' => e = .returned (.bool true) ∧ Below w.heap.size w w' := by
  have ST := Aside0.mk st
  have L1 := Aside0.mk l1
  have L2 := Aside0.mk l2
  have L3 := Aside0.mk l3
  clear st l1 l2 l3
  have HB := Aside0.mk (Below.refl w.heap.size w)
  have hu := Try.underlying24
  have m2 : x.tmod 2 = x % 2 := Int.tmod_eq_emod_of_nonneg hx.1
  have m4 : x.tmod 4294967296 = x % 4294967296 := Int.tmod_eq_emod_of_nonneg hx.1
  have hap2 : ¬ (other < off ∧ off - other ≥ 4 ∨ other > off ∧ other - off ≥ size) ∨ a = b := by by_cases h : a = b <;> simp only [h, or_true, or_false, not_true] <;> exact fun k => h (hap k)
  obtain ⟨hx0, hx1⟩ := hx
  obtain ⟨ho0, ho1⟩ := ho
  obtain ⟨hq0, hq1⟩ := hoth
  clear hap
  by_cases h0 : off = 0
  · obtain rfl := h04 h0
    subst h0
    have hw : clWant 0 4 x = x % 2 := rfl
    go_enter Try.func4, Try.ntmps4
    go_wp2_with fail
    (go_at_call 8; (with_reducible refine (ST.out _).mono ?_); rintro e_ w1 ⟨rfl, hb_⟩; have HB_ : Aside0 (Below w.heap.size w w1) := Aside0.mk (below_step (by repeat (first | (with_reducible first | exact HB.out | exact Below.refl _ _ | apply below_alloc | apply pw_below_drewN | apply below_drew | refine below_set ?_ (by omega)) | exact HB.out)) hb_); have oc_ := Aside0.mk (box_below hb_ (by repeat (with_reducible first | exact nb_1 w _ | apply ext_drew | apply ext_drewN | apply ext_alloc))); (try clear oc occ ocf ocl); have oc := oc_; clear oc_; obtain ⟨occ, ocf, ocl⟩ := cells_of oc.out; clear HB hb_; have HB := HB_; clear HB_)
    go_wp2_with fail
    (go_at_call 6; (with_reducible refine (L1.out _).mono ?_); rintro e_ w2 ⟨rfl, hb_⟩; have HB_ : Aside0 (Below w.heap.size w w2) := Aside0.mk (below_step (by repeat (first | (with_reducible first | exact HB.out | exact Below.refl _ _ | apply below_alloc | apply pw_below_drewN | apply below_drew | refine below_set ?_ (by omega)) | exact HB.out)) hb_); have oc_ := Aside0.mk (box_below hb_ (by repeat (with_reducible first | exact oc.out | apply ext_drew | apply ext_drewN | apply ext_alloc))); have od_ := Aside0.mk (box_below hb_ (by repeat (with_reducible first | exact nb_1 w1 _ | apply ext_drew | apply ext_drewN | apply ext_alloc))); (try clear oc occ ocf ocl); have oc := oc_; clear oc_; obtain ⟨occ, ocf, ocl⟩ := cells_of oc.out; (try clear od odc odf odl); have od := od_; clear od_; obtain ⟨odc, odf, odl⟩ := cells_of od.out; clear HB hb_; have HB := HB_; clear HB_)
    go_wp2_with fail
    (go_at_call 6; (with_reducible refine (L2.out _).mono ?_); rintro e_ w3 ⟨rfl, hb_⟩; have HB_ : Aside0 (Below w.heap.size w w3) := Aside0.mk (below_step (by repeat (first | (with_reducible first | exact HB.out | exact Below.refl _ _ | apply below_alloc | apply pw_below_drewN | apply below_drew | refine below_set ?_ (by omega)) | exact HB.out)) hb_); have oc_ := Aside0.mk (box_below hb_ (by repeat (with_reducible first | exact oc.out | apply ext_drew | apply ext_drewN | apply ext_alloc))); have od_ := Aside0.mk (box_below hb_ (by repeat (with_reducible first | exact od.out | apply ext_drew | apply ext_drewN | apply ext_alloc))); (try clear oc occ ocf ocl); have oc := oc_; clear oc_; obtain ⟨occ, ocf, ocl⟩ := cells_of oc.out; (try clear od odc odf odl); have od := od_; clear od_; obtain ⟨odc, odf, odl⟩ := cells_of od.out; clear HB hb_; have HB := HB_; clear HB_)
    go_wp2_with fail
    (go_at_call 6; (with_reducible refine (L3.out _).mono ?_); rintro e_ w4 ⟨rfl, hb_⟩; have HB_ : Aside0 (Below w.heap.size w w4) := Aside0.mk (below_step (by repeat (first | (with_reducible first | exact HB.out | exact Below.refl _ _ | apply below_alloc | apply pw_below_drewN | apply below_drew | refine below_set ?_ (by omega)) | exact HB.out)) hb_); have oc_ := Aside0.mk (box_below hb_ (by repeat (with_reducible first | exact oc.out | apply ext_drew | apply ext_drewN | apply ext_alloc))); have od_ := Aside0.mk (box_below hb_ (by repeat (with_reducible first | exact od.out | apply ext_drew | apply ext_drewN | apply ext_alloc))); (try clear oc occ ocf ocl); have oc := oc_; clear oc_; obtain ⟨occ, ocf, ocl⟩ := cells_of oc.out; (try clear od odc odf odl); have od := od_; clear od_; obtain ⟨odc, odf, odl⟩ := cells_of od.out; clear HB hb_; have HB := HB_; clear HB_)
    clear oc occ ocf ocl od odc odf odl
    go_wp2_with fail
    all_goals (first | ((go_at_call 14; (with_reducible refine (heads_runs _).mono ?_); rintro e_ w5 ⟨rfl, hb_⟩; have HB_ : Aside0 (Below w.heap.size w w5) := Aside0.mk (below_step (by repeat (first | (with_reducible first | exact HB.out | exact Below.refl _ _ | apply below_alloc | apply pw_below_drewN | apply below_drew | refine below_set ?_ (by omega)) | exact HB.out)) hb_); clear HB hb_; have HB := HB_; clear HB_); go_wp2; refine bodyPost_ret (v := .bool true) (by simp [results, Try.results4, go_sem]) rfl ?_; exact ⟨rfl, (by repeat (first | (with_reducible first | exact HB.out | exact Below.refl _ _ | apply below_alloc | apply pw_below_drewN | apply below_drew | refine below_set ?_ (by omega)) | exact HB.out))⟩) | (exfalso; clear HB L1 L2 L3 ST; (try simp only [IntKind.wrap_u64] at *); omega))
  rcases h48 with h4 | h8
  · subst h4
    have hw : clWant off 4 x = x % 4294967296 := by unfold clWant; rw [if_neg h0]; rfl
    clear h04
    go_enter Try.func4, Try.ntmps4
    go_wp2_with fail
    (go_at_call 8; (with_reducible refine (ST.out _).mono ?_); rintro e_ w1 ⟨rfl, hb_⟩; have HB_ : Aside0 (Below w.heap.size w w1) := Aside0.mk (below_step (by repeat (first | (with_reducible first | exact HB.out | exact Below.refl _ _ | apply below_alloc | apply pw_below_drewN | apply below_drew | refine below_set ?_ (by omega)) | exact HB.out)) hb_); have oc_ := Aside0.mk (box_below hb_ (by repeat (with_reducible first | exact nb_1 w _ | apply ext_drew | apply ext_drewN | apply ext_alloc))); (try clear oc occ ocf ocl); have oc := oc_; clear oc_; obtain ⟨occ, ocf, ocl⟩ := cells_of oc.out; clear HB hb_; have HB := HB_; clear HB_)
    go_wp2_with fail
    (go_at_call 6; (with_reducible refine (L1.out _).mono ?_); rintro e_ w2 ⟨rfl, hb_⟩; have HB_ : Aside0 (Below w.heap.size w w2) := Aside0.mk (below_step (by repeat (first | (with_reducible first | exact HB.out | exact Below.refl _ _ | apply below_alloc | apply pw_below_drewN | apply below_drew | refine below_set ?_ (by omega)) | exact HB.out)) hb_); have oc_ := Aside0.mk (box_below hb_ (by repeat (with_reducible first | exact oc.out | apply ext_drew | apply ext_drewN | apply ext_alloc))); have od_ := Aside0.mk (box_below hb_ (by repeat (with_reducible first | exact nb_1 w1 _ | apply ext_drew | apply ext_drewN | apply ext_alloc))); (try clear oc occ ocf ocl); have oc := oc_; clear oc_; obtain ⟨occ, ocf, ocl⟩ := cells_of oc.out; (try clear od odc odf odl); have od := od_; clear od_; obtain ⟨odc, odf, odl⟩ := cells_of od.out; clear HB hb_; have HB := HB_; clear HB_)
    go_wp2_with fail
    (go_at_call 6; (with_reducible refine (L2.out _).mono ?_); rintro e_ w3 ⟨rfl, hb_⟩; have HB_ : Aside0 (Below w.heap.size w w3) := Aside0.mk (below_step (by repeat (first | (with_reducible first | exact HB.out | exact Below.refl _ _ | apply below_alloc | apply pw_below_drewN | apply below_drew | refine below_set ?_ (by omega)) | exact HB.out)) hb_); have oc_ := Aside0.mk (box_below hb_ (by repeat (with_reducible first | exact oc.out | apply ext_drew | apply ext_drewN | apply ext_alloc))); have od_ := Aside0.mk (box_below hb_ (by repeat (with_reducible first | exact od.out | apply ext_drew | apply ext_drewN | apply ext_alloc))); (try clear oc occ ocf ocl); have oc := oc_; clear oc_; obtain ⟨occ, ocf, ocl⟩ := cells_of oc.out; (try clear od odc odf odl); have od := od_; clear od_; obtain ⟨odc, odf, odl⟩ := cells_of od.out; clear HB hb_; have HB := HB_; clear HB_)
    go_wp2_with fail
    (go_at_call 6; (with_reducible refine (L3.out _).mono ?_); rintro e_ w4 ⟨rfl, hb_⟩; have HB_ : Aside0 (Below w.heap.size w w4) := Aside0.mk (below_step (by repeat (first | (with_reducible first | exact HB.out | exact Below.refl _ _ | apply below_alloc | apply pw_below_drewN | apply below_drew | refine below_set ?_ (by omega)) | exact HB.out)) hb_); have oc_ := Aside0.mk (box_below hb_ (by repeat (with_reducible first | exact oc.out | apply ext_drew | apply ext_drewN | apply ext_alloc))); have od_ := Aside0.mk (box_below hb_ (by repeat (with_reducible first | exact od.out | apply ext_drew | apply ext_drewN | apply ext_alloc))); (try clear oc occ ocf ocl); have oc := oc_; clear oc_; obtain ⟨occ, ocf, ocl⟩ := cells_of oc.out; (try clear od odc odf odl); have od := od_; clear od_; obtain ⟨odc, odf, odl⟩ := cells_of od.out; clear HB hb_; have HB := HB_; clear HB_)
    clear oc occ ocf ocl od odc odf odl
    go_wp2_with fail
    all_goals (first | ((go_at_call 14; (with_reducible refine (heads_runs _).mono ?_); rintro e_ w5 ⟨rfl, hb_⟩; have HB_ : Aside0 (Below w.heap.size w w5) := Aside0.mk (below_step (by repeat (first | (with_reducible first | exact HB.out | exact Below.refl _ _ | apply below_alloc | apply pw_below_drewN | apply below_drew | refine below_set ?_ (by omega)) | exact HB.out)) hb_); clear HB hb_; have HB := HB_; clear HB_); go_wp2; refine bodyPost_ret (v := .bool true) (by simp [results, Try.results4, go_sem]) rfl ?_; exact ⟨rfl, (by repeat (first | (with_reducible first | exact HB.out | exact Below.refl _ _ | apply below_alloc | apply pw_below_drewN | apply below_drew | refine below_set ?_ (by omega)) | exact HB.out))⟩) | (exfalso; clear HB L1 L2 L3 ST; (try simp only [IntKind.wrap_u64] at *); omega))
  · subst h8
    have hw : clWant off 8 x = x := by unfold clWant; rw [if_neg h0]; rfl
    clear h04
    go_enter Try.func4, Try.ntmps4
    go_wp2_with fail
    (go_at_call 8; (with_reducible refine (ST.out _).mono ?_); rintro e_ w1 ⟨rfl, hb_⟩; have HB_ : Aside0 (Below w.heap.size w w1) := Aside0.mk (below_step (by repeat (first | (with_reducible first | exact HB.out | exact Below.refl _ _ | apply below_alloc | apply pw_below_drewN | apply below_drew | refine below_set ?_ (by omega)) | exact HB.out)) hb_); have oc_ := Aside0.mk (box_below hb_ (by repeat (with_reducible first | exact nb_1 w _ | apply ext_drew | apply ext_drewN | apply ext_alloc))); (try clear oc occ ocf ocl); have oc := oc_; clear oc_; obtain ⟨occ, ocf, ocl⟩ := cells_of oc.out; clear HB hb_; have HB := HB_; clear HB_)
    go_wp2_with fail
    (go_at_call 6; (with_reducible refine (L1.out _).mono ?_); rintro e_ w2 ⟨rfl, hb_⟩; have HB_ : Aside0 (Below w.heap.size w w2) := Aside0.mk (below_step (by repeat (first | (with_reducible first | exact HB.out | exact Below.refl _ _ | apply below_alloc | apply pw_below_drewN | apply below_drew | refine below_set ?_ (by omega)) | exact HB.out)) hb_); have oc_ := Aside0.mk (box_below hb_ (by repeat (with_reducible first | exact oc.out | apply ext_drew | apply ext_drewN | apply ext_alloc))); have od_ := Aside0.mk (box_below hb_ (by repeat (with_reducible first | exact nb_1 w1 _ | apply ext_drew | apply ext_drewN | apply ext_alloc))); (try clear oc occ ocf ocl); have oc := oc_; clear oc_; obtain ⟨occ, ocf, ocl⟩ := cells_of oc.out; (try clear od odc odf odl); have od := od_; clear od_; obtain ⟨odc, odf, odl⟩ := cells_of od.out; clear HB hb_; have HB := HB_; clear HB_)
    go_wp2_with fail
    (go_at_call 6; (with_reducible refine (L2.out _).mono ?_); rintro e_ w3 ⟨rfl, hb_⟩; have HB_ : Aside0 (Below w.heap.size w w3) := Aside0.mk (below_step (by repeat (first | (with_reducible first | exact HB.out | exact Below.refl _ _ | apply below_alloc | apply pw_below_drewN | apply below_drew | refine below_set ?_ (by omega)) | exact HB.out)) hb_); have oc_ := Aside0.mk (box_below hb_ (by repeat (with_reducible first | exact oc.out | apply ext_drew | apply ext_drewN | apply ext_alloc))); have od_ := Aside0.mk (box_below hb_ (by repeat (with_reducible first | exact od.out | apply ext_drew | apply ext_drewN | apply ext_alloc))); (try clear oc occ ocf ocl); have oc := oc_; clear oc_; obtain ⟨occ, ocf, ocl⟩ := cells_of oc.out; (try clear od odc odf odl); have od := od_; clear od_; obtain ⟨odc, odf, odl⟩ := cells_of od.out; clear HB hb_; have HB := HB_; clear HB_)
    go_wp2_with fail
    (go_at_call 6; (with_reducible refine (L3.out _).mono ?_); rintro e_ w4 ⟨rfl, hb_⟩; have HB_ : Aside0 (Below w.heap.size w w4) := Aside0.mk (below_step (by repeat (first | (with_reducible first | exact HB.out | exact Below.refl _ _ | apply below_alloc | apply pw_below_drewN | apply below_drew | refine below_set ?_ (by omega)) | exact HB.out)) hb_); have oc_ := Aside0.mk (box_below hb_ (by repeat (with_reducible first | exact oc.out | apply ext_drew | apply ext_drewN | apply ext_alloc))); have od_ := Aside0.mk (box_below hb_ (by repeat (with_reducible first | exact od.out | apply ext_drew | apply ext_drewN | apply ext_alloc))); (try clear oc occ ocf ocl); have oc := oc_; clear oc_; obtain ⟨occ, ocf, ocl⟩ := cells_of oc.out; (try clear od odc odf odl); have od := od_; clear od_; obtain ⟨odc, odf, odl⟩ := cells_of od.out; clear HB hb_; have HB := HB_; clear HB_)
    clear oc occ ocf ocl od odc odf odl
    go_wp2_with fail
    all_goals (first | ((go_at_call 14; (with_reducible refine (heads_runs _).mono ?_); rintro e_ w5 ⟨rfl, hb_⟩; have HB_ : Aside0 (Below w.heap.size w w5) := Aside0.mk (below_step (by repeat (first | (with_reducible first | exact HB.out | exact Below.refl _ _ | apply below_alloc | apply pw_below_drewN | apply below_drew | refine below_set ?_ (by omega)) | exact HB.out)) hb_); clear HB hb_; have HB := HB_; clear HB_); go_wp2; refine bodyPost_ret (v := .bool true) (by simp [results, Try.results4, go_sem]) rfl ?_; exact ⟨rfl, (by repeat (first | (with_reducible first | exact HB.out | exact Below.refl _ _ | apply below_alloc | apply pw_below_drewN | apply below_drew | refine below_set ?_ (by omega)) | exact HB.out))⟩) | (exfalso; clear HB L1 L2 L3 ST; (try simp only [IntKind.wrap_u64] at *); omega))
theorem drawbridgelaw09_ClintBack.calls (t c : Int) (s : Bool) (off size x other : Int) (r : Bool) (w : World) (h : drawbridgelaw09_ClintBack.f t c s off size x other = some r) :
    Calls Try.prog 4 #[.agg #[.int .u64 t, .int .u64 c, .bool s], .int .u64 off, .int .i64 size, .int .u64 x, .int .u64 other] w fun e w' => e = .returned (.bool r) ∧ Below w.heap.size w w' := by
  unfold drawbridgelaw09_ClintBack.f at h
  split at h
  case isFalse => cases h
  case isTrue hh =>
  injection h with h; subst h
  obtain ⟨ht, hc, ho, hx, hoth⟩ := hh
  cases hok : (clStore t c s off size x).2.2.2
  · exact back_no_runs t c s off size x other w ht hc hx hok
  · obtain ⟨t', c', s', e, ht', hc', hl, h04, h48, hap⟩ := clBack t c s off size x other ht hc hx hok
    refine back_runs t c t' c' s s' off size x other _ _ 0 (clLoad t c s other 4).2 w ?_ ?_ ?_ ?_ ho hx hoth h04 h48 hap
    · intro W
      have := store_runs t c s off size x W ht hc hx
      rw [e] at this
      exact this
    · intro W
      have := load_runs t' c' s' off size W ht' hc'
      rw [hl] at this
      exact this
    · intro W
      have := load_runs t' c' s' other 4 W ht' hc'
      rw [clLoad_snd t' c' t c s' s other 4] at this
      exact this
    · exact fun W => load_runs t c s other 4 W ht hc
end Go.Proofs.Ytfnealbmackjaaa.Q
