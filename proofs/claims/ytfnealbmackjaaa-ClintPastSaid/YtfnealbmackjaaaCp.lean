/- What the reference of layer 9 comes to: the same plain functions as the program. -/
import Derived.Test.YtfnealbmackjaaaEclint
import Derived.Test.YtfnealbmackjaaaQx1
import Derived.Test.YtfnealbmackjaaaKt
namespace Go.Proofs.Ytfnealbmackjaaa.Q
open Go.RowKit Go.Proofs.YtfnealbmackjaaaW.PrintWords Go.Proofs.YtfnealbmackjaaaW.PrintLast Go.Proofs.YtfnealbmackjaaaW.PrintMore Go.Proofs.Ytfnealbmackjaaa.L
attribute [local go_sem] Instr.field part asAgg lt_step max2_int min2_int max_two min_two max_three min_three max_four min_four lt_0_1 lt_0_2 lt_1_2 lt_0_3 lt_1_3 lt_2_3 lt_0_4 lt_1_4 lt_2_4 lt_3_4 lt_0_5 lt_1_5 lt_2_5 lt_3_5 lt_4_5 lt_0_6 lt_1_6 lt_2_6 lt_3_6 lt_4_6 lt_5_6 lt_0_7 lt_1_7 lt_2_7 lt_3_7 lt_4_7 lt_5_7 lt_6_7 lt_0_8 lt_1_8 lt_2_8 lt_3_8 lt_4_8 lt_5_8 lt_6_8 lt_7_8
set_option linter.unusedVariables false
set_option linter.unusedSimpArgs false
theorem shr_u64 (x : Int) (n : Nat) (h : n ≤ 64) : shr .u64 x (n : Int) = x / 2 ^ n := by
  unfold shr
  rw [Int.toNat_natCast, show IntKind.u64.bits = 64 from rfl, Nat.min_eq_left h]
theorem refload (t c : Int) (s : Bool) (off size : Int) (ht : u64B t) (hc : u64B c) (ho : u64B off) : drawbridgeref09_Load.f 5 t c s off size = some (clLoad t c s off size) := by
  obtain ⟨ho0, ho1⟩ := ho
  unfold drawbridgeref09_Load.f
  by_cases h0 : off = 0
  · subst h0
    rw [if_pos rfl]
    by_cases h4 : size = 4
    · subst h4
      simp only [drawbridgeref09_Load.j0]
      cases s <;> rfl
    · simp only [drawbridgeref09_Load.j0, drawbridgeref09_Load.j1, drawbridgeref09_Load.j2]
      rw [beq_eq_false_iff_ne.2 h4]
      unfold clLoad
      simp [h4]
  · rw [if_neg h0]
    simp only [drawbridgeref09_Load.j0]
    rw [if_neg (by decide)]
    by_cases h1 : off ≥ 49144
    · rw [if_pos h1]
      have e : IntKind.u64.wrap (off - 49144) = off - 49144 := by rw [IntKind.wrap_u64]; omega
      rw [e]
      simp only [drawbridgeref09_Load.j1]
      rw [if_neg (by omega)]
      by_cases a0 : off = 49144
      · subst a0
        simp only [drawbridgeref09_Load.j2, drawbridgeref09_Load.j3]
        by_cases s8 : size = 8
        · subst s8; rfl
        · by_cases s4 : size = 4
          · subst s4
            have := shr_u64 t 0 (by decide)
            obtain ⟨ht0, ht1⟩ := ht
            simp [clLoad, show IntKind.u64.wrap 0 = 0 from by decide +kernel, shr, Int.tmod_eq_emod_of_nonneg ht0]
          · simp [clLoad, s8, s4]
      · by_cases a4 : off = 49148
        · subst a4
          simp only [drawbridgeref09_Load.j2, drawbridgeref09_Load.j3]
          by_cases s4 : size = 4
          · subst s4
            obtain ⟨ht0, ht1⟩ := ht
            have e2 : Int.tmod (t / 4294967296) 4294967296 = t / 4294967296 := by rw [Int.tmod_eq_emod_of_nonneg (by omega)]; omega
            simp [clLoad, show IntKind.u64.wrap 32 = 32 from by decide +kernel, shr, show (IntKind.u64.bits) = 64 from rfl, e2]
          · simp [clLoad, s4]
        · simp only [drawbridgeref09_Load.j2]
          rw [if_neg (by omega), bne_iff_ne.2 (by omega), if_pos rfl]
          unfold clLoad
          rw [if_neg (by omega), if_neg (by omega), if_neg (by omega), if_neg (by omega), if_neg (by omega), if_neg (by omega), if_neg (by omega)]
    · rw [if_neg h1]
      simp only [drawbridgeref09_Load.j1]
      by_cases h2 : off < 16384
      · rw [if_pos h2]
        simp only [drawbridgeref09_Load.j2]
        rw [if_pos trivial]
        unfold clLoad
        rw [if_neg (by omega), if_neg (by omega), if_neg (by omega), if_neg (by omega), if_neg (by omega), if_neg (by omega), if_neg (by omega)]
      · rw [if_neg h2]
        have e : IntKind.u64.wrap (off - 16384) = off - 16384 := by rw [IntKind.wrap_u64]; omega
        rw [e]
        by_cases a0 : off = 16384
        · subst a0
          simp only [drawbridgeref09_Load.j2, drawbridgeref09_Load.j3]
          by_cases s8 : size = 8
          · subst s8; rfl
          · by_cases s4 : size = 4
            · subst s4
              obtain ⟨ht0, ht1⟩ := hc
              simp [clLoad, show IntKind.u64.wrap 0 = 0 from by decide +kernel, shr, Int.tmod_eq_emod_of_nonneg ht0]
            · simp [clLoad, s8, s4]
        · by_cases a4 : off = 16388
          · subst a4
            simp only [drawbridgeref09_Load.j2, drawbridgeref09_Load.j3]
            by_cases s4 : size = 4
            · subst s4
              obtain ⟨ht0, ht1⟩ := hc
              have e2 : Int.tmod (c / 4294967296) 4294967296 = c / 4294967296 := by rw [Int.tmod_eq_emod_of_nonneg (by omega)]; omega
              simp [clLoad, show IntKind.u64.wrap 32 = 32 from by decide +kernel, shr, show (IntKind.u64.bits) = 64 from rfl, e2]
            · simp [clLoad, s4]
          · simp only [drawbridgeref09_Load.j2]
            rw [if_neg (by omega), bne_iff_ne.2 (by omega), if_pos rfl]
            unfold clLoad
            rw [if_neg (by omega), if_neg (by omega), if_neg (by omega), if_neg (by omega), if_neg (by omega), if_neg (by omega), if_neg (by omega)]
theorem refLoad_runs (t c : Int) (s : Bool) (off size : Int) (w : World) (ht : u64B t) (hc : u64B c) (ho : u64B off) :
    Calls Try.prog 7 #[.agg #[.int .u64 t, .int .u64 c, .bool s], .int .u64 off, .int .i64 size] w fun e w' => e = .returned (.tuple #[.int .u64 (clLoad t c s off size).1, .bool (clLoad t c s off size).2]) ∧ Below w.heap.size w w' :=
  drawbridgeref09_Load.calls 5 t c s off size _ _ w (refload t c s off size ht hc ho)
theorem load_runs (t c : Int) (s : Bool) (off size : Int) (w : World) (ht : u64B t) (hc : u64B c) :
    Calls Try.prog 6 #[.agg #[.int .u64 t, .int .u64 c, .bool s], .int .u64 off, .int .i64 size] w fun e w' => e = .returned (.tuple #[.int .u64 (clLoad t c s off size).1, .bool (clLoad t c s off size).2]) ∧ Below w.heap.size w w' :=
  clint_Load.calls t c s off size _ _ w (if_pos ⟨ht, hc⟩)
theorem store_runs (t c : Int) (s : Bool) (off size x : Int) (w : World) (ht : u64B t) (hc : u64B c) (hx : u64B x) :
    Calls Try.prog 8 #[.agg #[.int .u64 t, .int .u64 c, .bool s], .int .u64 off, .int .i64 size, .int .u64 x] w fun e w' => e = .returned (.tuple #[.agg #[.int .u64 (clStore t c s off size x).1, .int .u64 (clStore t c s off size x).2.1, .bool (clStore t c s off size x).2.2.1], .bool (clStore t c s off size x).2.2.2]) ∧ Below w.heap.size w w' :=
  clint_Store.calls t c s off size x _ _ _ _ w (if_pos ⟨ht, hc, hx⟩)
theorem refput_lo (r x : Int) (hr : u64B r) (hx : u64B x) : IntKind.u64.wrap (IntKind.u64.wrap (r / 4294967296 * 4294967296) + x % 4294967296) = clLo r x := by
  obtain ⟨h0, h1⟩ := hr
  obtain ⟨h2, h3⟩ := hx
  rw [IntKind.wrap_u64, IntKind.wrap_u64]; unfold clLo; omega
theorem refput_hi (r x : Int) (hr : u64B r) (hx : u64B x) : IntKind.u64.wrap (IntKind.u64.wrap (x * 4294967296) + r % 4294967296) = clHi r x := by
  obtain ⟨h0, h1⟩ := hr
  obtain ⟨h2, h3⟩ := hx
  rw [IntKind.wrap_u64, IntKind.wrap_u64]; unfold clHi; omega
set_option maxHeartbeats 1600000 in
set_option maxRecDepth 100000 in
theorem refStore_runs (t c : Int) (s : Bool) (off size x : Int) (w : World) (ht : u64B t) (hc : u64B c) (hx : u64B x) (ho : u64B off) :
    Calls Try.prog 9 #[.agg #[.int .u64 t, .int .u64 c, .bool s], .int .u64 off, .int .i64 size, .int .u64 x] w fun e w' => e = .returned (.tuple #[.agg #[.int .u64 (clStore t c s off size x).1, .int .u64 (clStore t c s off size x).2.1, .bool (clStore t c s off size x).2.2.1], .bool (clStore t c s off size x).2.2.2]) ∧ Below w.heap.size w w' := by
  have HT := Aside0.mk ht
  have HC := Aside0.mk hc
  have HX := Aside0.mk hx
  have HO := Aside0.mk ho
  have HB := Aside0.mk (Below.refl w.heap.size w)
  have LO := Aside0.mk (fun r hr => refput_lo r x hr hx)
  have HI := Aside0.mk (fun r hr => refput_hi r x hr hx)
  obtain ⟨ht0, ht1⟩ := ht
  obtain ⟨hc0, hc1⟩ := hc
  obtain ⟨hx0, hx1⟩ := hx
  by_cases e1 : off = 0 ∧ size = 4
  · obtain ⟨rfl, rfl⟩ := e1
    have hl : (clLoad t c s 0 4).2 = true := rfl
    go_enter Try.func9, Try.ntmps9
    go_wp2_with (go_at_call 7; (with_reducible refine (refLoad_runs t c s 0 4 _ HT.out HC.out HO.out).mono ?_); rintro e_ w_ ⟨rfl, hb_⟩; have HB_ : Aside0 (Below w.heap.size w w_) := Aside0.mk (below_step (by repeat (first | (with_reducible first | exact HB.out | exact Below.refl _ _ | apply below_alloc | apply pw_below_drewN | apply below_drew | refine below_set ?_ (by omega)) | exact HB.out)) hb_); have oa_ := Aside0.mk (box_below hb_ (by repeat (with_reducible first | exact nb_1 w _ | apply ext_drew | apply ext_drewN | apply ext_alloc))); have ob_ := Aside0.mk (box_below hb_ (by repeat (with_reducible first | exact nb_2 w _ _ | apply ext_drew | apply ext_drewN | apply ext_alloc))); (try clear oa oac oaf oal); have oa := oa_; clear oa_; obtain ⟨oac, oaf, oal⟩ := cells_of oa.out; (try clear ob obc obf obl); have ob := ob_; clear ob_; obtain ⟨obc, obf, obl⟩ := cells_of ob.out; clear HB hb_; have HB := HB_; clear HB_)
    refine bodyPost_ret (v := .tuple #[.agg #[.int .u64 t, .int .u64 c, .bool (x % 2 == 1)], .bool true]) (by simp [results, Try.results9, go_sem, oac, obc]) rfl ?_
    exact ⟨rfl, (by repeat (first | (with_reducible first | exact HB.out | exact Below.refl _ _ | apply below_alloc | apply pw_below_drewN | apply below_drew | refine below_set ?_ (by omega)) | exact HB.out))⟩
  by_cases e2 : off = 16384 ∧ size = 8
  · obtain ⟨rfl, rfl⟩ := e2
    have hl : (clLoad t c s 16384 8).2 = true := rfl
    go_enter Try.func9, Try.ntmps9
    go_wp2_with (first | (go_at_call 7; (with_reducible refine (refLoad_runs t c s 16384 8 _ HT.out HC.out HO.out).mono ?_); rintro e_ w_ ⟨rfl, hb_⟩; have HB_ : Aside0 (Below w.heap.size w w_) := Aside0.mk (below_step (by repeat (first | (with_reducible first | exact HB.out | exact Below.refl _ _ | apply below_alloc | apply pw_below_drewN | apply below_drew | refine below_set ?_ (by omega)) | exact HB.out)) hb_); have oa_ := Aside0.mk (box_below hb_ (by repeat (with_reducible first | exact nb_1 w _ | apply ext_drew | apply ext_drewN | apply ext_alloc))); have ob_ := Aside0.mk (box_below hb_ (by repeat (with_reducible first | exact nb_2 w _ _ | apply ext_drew | apply ext_drewN | apply ext_alloc))); (try clear oa oac oaf oal); have oa := oa_; clear oa_; obtain ⟨oac, oaf, oal⟩ := cells_of oa.out; (try clear ob obc obf obl); have ob := ob_; clear ob_; obtain ⟨obc, obf, obl⟩ := cells_of ob.out; clear HB hb_; have HB := HB_; clear HB_) | (go_at_call 18; go_in))
    refine bodyPost_ret (v := .tuple #[.agg #[.int .u64 t, .int .u64 x, .bool s], .bool true]) (by simp [results, Try.results9, go_sem, oac, obc]) rfl ?_
    exact ⟨rfl, (by repeat (first | (with_reducible first | exact HB.out | exact Below.refl _ _ | apply below_alloc | apply pw_below_drewN | apply below_drew | refine below_set ?_ (by omega)) | exact HB.out))⟩
  by_cases e3 : off = 16384 ∧ size = 4
  · obtain ⟨rfl, rfl⟩ := e3
    have hl : (clLoad t c s 16384 4).2 = true := rfl
    go_enter Try.func9, Try.ntmps9
    go_wp2_with (first | (go_at_call 7; (with_reducible refine (refLoad_runs t c s 16384 4 _ HT.out HC.out HO.out).mono ?_); rintro e_ w_ ⟨rfl, hb_⟩; have HB_ : Aside0 (Below w.heap.size w w_) := Aside0.mk (below_step (by repeat (first | (with_reducible first | exact HB.out | exact Below.refl _ _ | apply below_alloc | apply pw_below_drewN | apply below_drew | refine below_set ?_ (by omega)) | exact HB.out)) hb_); have oa_ := Aside0.mk (box_below hb_ (by repeat (with_reducible first | exact nb_1 w _ | apply ext_drew | apply ext_drewN | apply ext_alloc))); have ob_ := Aside0.mk (box_below hb_ (by repeat (with_reducible first | exact nb_2 w _ _ | apply ext_drew | apply ext_drewN | apply ext_alloc))); (try clear oa oac oaf oal); have oa := oa_; clear oa_; obtain ⟨oac, oaf, oal⟩ := cells_of oa.out; (try clear ob obc obf obl); have ob := ob_; clear ob_; obtain ⟨obc, obf, obl⟩ := cells_of ob.out; clear HB hb_; have HB := HB_; clear HB_) | (go_at_call 18; go_in))
    refine bodyPost_ret (v := .tuple #[.agg #[.int .u64 t, .int .u64 (clLo c x), .bool s], .bool true]) (by simp [results, Try.results9, go_sem, oac, obc, clLo]) rfl ?_
    exact ⟨rfl, (by repeat (first | (with_reducible first | exact HB.out | exact Below.refl _ _ | apply below_alloc | apply pw_below_drewN | apply below_drew | refine below_set ?_ (by omega)) | exact HB.out))⟩
  by_cases e4 : off = 16388 ∧ size = 4
  · obtain ⟨rfl, rfl⟩ := e4
    have hl : (clLoad t c s 16388 4).2 = true := rfl
    go_enter Try.func9, Try.ntmps9
    go_wp2_with (first | (go_at_call 7; (with_reducible refine (refLoad_runs t c s 16388 4 _ HT.out HC.out HO.out).mono ?_); rintro e_ w_ ⟨rfl, hb_⟩; have HB_ : Aside0 (Below w.heap.size w w_) := Aside0.mk (below_step (by repeat (first | (with_reducible first | exact HB.out | exact Below.refl _ _ | apply below_alloc | apply pw_below_drewN | apply below_drew | refine below_set ?_ (by omega)) | exact HB.out)) hb_); have oa_ := Aside0.mk (box_below hb_ (by repeat (with_reducible first | exact nb_1 w _ | apply ext_drew | apply ext_drewN | apply ext_alloc))); have ob_ := Aside0.mk (box_below hb_ (by repeat (with_reducible first | exact nb_2 w _ _ | apply ext_drew | apply ext_drewN | apply ext_alloc))); (try clear oa oac oaf oal); have oa := oa_; clear oa_; obtain ⟨oac, oaf, oal⟩ := cells_of oa.out; (try clear ob obc obf obl); have ob := ob_; clear ob_; obtain ⟨obc, obf, obl⟩ := cells_of ob.out; clear HB hb_; have HB := HB_; clear HB_) | (go_at_call 18; go_in))
    rw [HI.out c HC.out]
    refine bodyPost_ret (v := .tuple #[.agg #[.int .u64 t, .int .u64 (clHi c x), .bool s], .bool true]) (by simp [results, Try.results9, go_sem, oac, obc]) rfl ?_
    exact ⟨rfl, (by repeat (first | (with_reducible first | exact HB.out | exact Below.refl _ _ | apply below_alloc | apply pw_below_drewN | apply below_drew | refine below_set ?_ (by omega)) | exact HB.out))⟩
  by_cases e5 : off = 49144 ∧ size = 8
  · obtain ⟨rfl, rfl⟩ := e5
    have hl : (clLoad t c s 49144 8).2 = true := rfl
    go_enter Try.func9, Try.ntmps9
    go_wp2_with (first | (go_at_call 7; (with_reducible refine (refLoad_runs t c s 49144 8 _ HT.out HC.out HO.out).mono ?_); rintro e_ w_ ⟨rfl, hb_⟩; have HB_ : Aside0 (Below w.heap.size w w_) := Aside0.mk (below_step (by repeat (first | (with_reducible first | exact HB.out | exact Below.refl _ _ | apply below_alloc | apply pw_below_drewN | apply below_drew | refine below_set ?_ (by omega)) | exact HB.out)) hb_); have oa_ := Aside0.mk (box_below hb_ (by repeat (with_reducible first | exact nb_1 w _ | apply ext_drew | apply ext_drewN | apply ext_alloc))); have ob_ := Aside0.mk (box_below hb_ (by repeat (with_reducible first | exact nb_2 w _ _ | apply ext_drew | apply ext_drewN | apply ext_alloc))); (try clear oa oac oaf oal); have oa := oa_; clear oa_; obtain ⟨oac, oaf, oal⟩ := cells_of oa.out; (try clear ob obc obf obl); have ob := ob_; clear ob_; obtain ⟨obc, obf, obl⟩ := cells_of ob.out; clear HB hb_; have HB := HB_; clear HB_) | (go_at_call 18; go_in))
    refine bodyPost_ret (v := .tuple #[.agg #[.int .u64 x, .int .u64 c, .bool s], .bool true]) (by simp [results, Try.results9, go_sem, oac, obc]) rfl ?_
    exact ⟨rfl, (by repeat (first | (with_reducible first | exact HB.out | exact Below.refl _ _ | apply below_alloc | apply pw_below_drewN | apply below_drew | refine below_set ?_ (by omega)) | exact HB.out))⟩
  by_cases e6 : off = 49144 ∧ size = 4
  · obtain ⟨rfl, rfl⟩ := e6
    have hl : (clLoad t c s 49144 4).2 = true := rfl
    go_enter Try.func9, Try.ntmps9
    go_wp2_with (first | (go_at_call 7; (with_reducible refine (refLoad_runs t c s 49144 4 _ HT.out HC.out HO.out).mono ?_); rintro e_ w_ ⟨rfl, hb_⟩; have HB_ : Aside0 (Below w.heap.size w w_) := Aside0.mk (below_step (by repeat (first | (with_reducible first | exact HB.out | exact Below.refl _ _ | apply below_alloc | apply pw_below_drewN | apply below_drew | refine below_set ?_ (by omega)) | exact HB.out)) hb_); have oa_ := Aside0.mk (box_below hb_ (by repeat (with_reducible first | exact nb_1 w _ | apply ext_drew | apply ext_drewN | apply ext_alloc))); have ob_ := Aside0.mk (box_below hb_ (by repeat (with_reducible first | exact nb_2 w _ _ | apply ext_drew | apply ext_drewN | apply ext_alloc))); (try clear oa oac oaf oal); have oa := oa_; clear oa_; obtain ⟨oac, oaf, oal⟩ := cells_of oa.out; (try clear ob obc obf obl); have ob := ob_; clear ob_; obtain ⟨obc, obf, obl⟩ := cells_of ob.out; clear HB hb_; have HB := HB_; clear HB_) | (go_at_call 18; go_in))
    refine bodyPost_ret (v := .tuple #[.agg #[.int .u64 (clLo t x), .int .u64 c, .bool s], .bool true]) (by simp [results, Try.results9, go_sem, oac, obc, clLo]) rfl ?_
    exact ⟨rfl, (by repeat (first | (with_reducible first | exact HB.out | exact Below.refl _ _ | apply below_alloc | apply pw_below_drewN | apply below_drew | refine below_set ?_ (by omega)) | exact HB.out))⟩
  by_cases e7 : off = 49148 ∧ size = 4
  · obtain ⟨rfl, rfl⟩ := e7
    have hl : (clLoad t c s 49148 4).2 = true := rfl
    go_enter Try.func9, Try.ntmps9
    go_wp2_with (first | (go_at_call 7; (with_reducible refine (refLoad_runs t c s 49148 4 _ HT.out HC.out HO.out).mono ?_); rintro e_ w_ ⟨rfl, hb_⟩; have HB_ : Aside0 (Below w.heap.size w w_) := Aside0.mk (below_step (by repeat (first | (with_reducible first | exact HB.out | exact Below.refl _ _ | apply below_alloc | apply pw_below_drewN | apply below_drew | refine below_set ?_ (by omega)) | exact HB.out)) hb_); have oa_ := Aside0.mk (box_below hb_ (by repeat (with_reducible first | exact nb_1 w _ | apply ext_drew | apply ext_drewN | apply ext_alloc))); have ob_ := Aside0.mk (box_below hb_ (by repeat (with_reducible first | exact nb_2 w _ _ | apply ext_drew | apply ext_drewN | apply ext_alloc))); (try clear oa oac oaf oal); have oa := oa_; clear oa_; obtain ⟨oac, oaf, oal⟩ := cells_of oa.out; (try clear ob obc obf obl); have ob := ob_; clear ob_; obtain ⟨obc, obf, obl⟩ := cells_of ob.out; clear HB hb_; have HB := HB_; clear HB_) | (go_at_call 18; go_in))
    rw [HI.out t HT.out]
    refine bodyPost_ret (v := .tuple #[.agg #[.int .u64 (clHi t x), .int .u64 c, .bool s], .bool true]) (by simp [results, Try.results9, go_sem, oac, obc]) rfl ?_
    exact ⟨rfl, (by repeat (first | (with_reducible first | exact HB.out | exact Below.refl _ _ | apply below_alloc | apply pw_below_drewN | apply below_drew | refine below_set ?_ (by omega)) | exact HB.out))⟩
  have hl : clLoad t c s off size = (0, false) := by unfold clLoad; simp [e1, e2, e3, e4, e5, e6, e7]
  have hs : clStore t c s off size x = (t, c, s, false) := by unfold clStore; simp [e1, e2, e3, e4, e5, e6, e7]
  rw [hs]
  have hl1 : (clLoad t c s off size).1 = 0 := by rw [hl]
  have hl2 : (clLoad t c s off size).2 = false := by rw [hl]
  clear hl hs e1 e2 e3 e4 e5 e6 e7
  go_enter Try.func9, Try.ntmps9
  go_wp2_with (go_at_call 7; (with_reducible refine (refLoad_runs t c s off size _ HT.out HC.out HO.out).mono ?_); rintro e_ w_ ⟨rfl, hb_⟩; have HB_ : Aside0 (Below w.heap.size w w_) := Aside0.mk (below_step (by repeat (first | (with_reducible first | exact HB.out | exact Below.refl _ _ | apply below_alloc | apply pw_below_drewN | apply below_drew | refine below_set ?_ (by omega)) | exact HB.out)) hb_); have oa_ := Aside0.mk (box_below hb_ (by repeat (with_reducible first | exact nb_1 w _ | apply ext_drew | apply ext_drewN | apply ext_alloc))); have ob_ := Aside0.mk (box_below hb_ (by repeat (with_reducible first | exact nb_2 w _ _ | apply ext_drew | apply ext_drewN | apply ext_alloc))); (try clear oa oac oaf oal); have oa := oa_; clear oa_; obtain ⟨oac, oaf, oal⟩ := cells_of oa.out; (try clear ob obc obf obl); have ob := ob_; clear ob_; obtain ⟨obc, obf, obl⟩ := cells_of ob.out; clear HB hb_; have HB := HB_; clear HB_)
  refine bodyPost_ret (v := .tuple #[.agg #[.int .u64 t, .int .u64 c, .bool s], .bool false]) (by simp [results, Try.results9, go_sem, oac, obc]) rfl ?_
  exact ⟨rfl, (by repeat (first | (with_reducible first | exact HB.out | exact Below.refl _ _ | apply below_alloc | apply pw_below_drewN | apply below_drew | refine below_set ?_ (by omega)) | exact HB.out))⟩
end Go.Proofs.Ytfnealbmackjaaa.Q
