/- The statements of layer 9, walked. -/
import Derived.Test.YtfnealbmackjaaaCp
import Derived.Test.YtfnealbmackjaaaCq
import Derived.Test.YtfnealbmackjaaaQx2
namespace Go.Proofs.Ytfnealbmackjaaa.Q
open Go.RowKit Go.Proofs.YtfnealbmackjaaaW.PrintWords Go.Proofs.YtfnealbmackjaaaW.PrintLast Go.Proofs.YtfnealbmackjaaaW.PrintMore Go.Proofs.Ytfnealbmackjaaa.L
attribute [local go_sem] Instr.field part asAgg lt_step max2_int min2_int max_two min_two max_three min_three max_four min_four lt_0_1 lt_0_2 lt_1_2 lt_0_3 lt_1_3 lt_2_3 lt_0_4 lt_1_4 lt_2_4 lt_3_4 lt_0_5 lt_1_5 lt_2_5 lt_3_5 lt_4_5 lt_0_6 lt_1_6 lt_2_6 lt_3_6 lt_4_6 lt_5_6 lt_0_7 lt_1_7 lt_2_7 lt_3_7 lt_4_7 lt_5_7 lt_6_7 lt_0_8 lt_1_8 lt_2_8 lt_3_8 lt_4_8 lt_5_8 lt_6_8 lt_7_8
set_option linter.unusedVariables false
set_option linter.unusedSimpArgs false
set_option maxHeartbeats 1600000 in
set_option maxRecDepth 100000 in
theorem heads_runs (w : World) : Calls Try.prog 14 #[] w fun e w' => e = .returned (.bool true) ∧ Below w.heap.size w w' := by
  have HB := Aside0.mk (Below.refl w.heap.size w)
  have u0 : u64B 0 := ⟨by decide, by decide⟩
  have u7 : u64B 7 := ⟨by decide, by decide⟩
  have u1 : u64B 1 := ⟨by decide, by decide⟩
  have h1 : clStore 0 7 false 16388 4 1 = (0, 4294967303, false, true) := by decide +kernel
  have h2 : clLoad 0 4294967303 false 16384 8 = (4294967303, true) := by decide +kernel
  have h3 : clLoad 0 4294967303 false 16385 4 = (0, false) := by decide +kernel
  have ub : u64B 4294967303 := ⟨by decide, by decide⟩
  have U0 := Aside0.mk u0
  have U7 := Aside0.mk u7
  have U1 := Aside0.mk u1
  have UB := Aside0.mk ub
  have hu := Try.underlying24
  go_enter Try.func14, Try.ntmps14
  go_wp2_with fail
  (go_at_call 8; (with_reducible refine (store_runs 0 7 false 16388 4 1 _ U0.out U7.out U1.out).mono ?_); rintro e_ w1 ⟨rfl, hb_⟩; have HB_ : Aside0 (Below w.heap.size w w1) := Aside0.mk (below_step (by repeat (first | (with_reducible first | exact HB.out | exact Below.refl _ _ | apply below_alloc | apply pw_below_drewN | apply below_drew | refine below_set ?_ (by omega)) | exact HB.out)) hb_); clear HB hb_; have HB := HB_; clear HB_)
  go_wp2_with fail
  (go_at_call 6; (with_reducible refine (load_runs 0 4294967303 false 16384 8 _ U0.out UB.out).mono ?_); rintro e_ w2 ⟨rfl, hb_⟩; have HB_ : Aside0 (Below w.heap.size w w2) := Aside0.mk (below_step (by repeat (first | (with_reducible first | exact HB.out | exact Below.refl _ _ | apply below_alloc | apply pw_below_drewN | apply below_drew | refine below_set ?_ (by omega)) | exact HB.out)) hb_); have oc_ := Aside0.mk (box_below hb_ (by repeat (with_reducible first | exact nb_1 w1 _ | apply ext_drew | apply ext_drewN | apply ext_alloc))); (try clear oc occ ocf ocl); have oc := oc_; clear oc_; obtain ⟨occ, ocf, ocl⟩ := cells_of oc.out; clear HB hb_; have HB := HB_; clear HB_)
  go_wp2_with fail
  (go_at_call 6; (with_reducible refine (load_runs 0 4294967303 false 16385 4 _ U0.out UB.out).mono ?_); rintro e_ w3 ⟨rfl, hb_⟩; have HB_ : Aside0 (Below w.heap.size w w3) := Aside0.mk (below_step (by repeat (first | (with_reducible first | exact HB.out | exact Below.refl _ _ | apply below_alloc | apply pw_below_drewN | apply below_drew | refine below_set ?_ (by omega)) | exact HB.out)) hb_); have oc_ := Aside0.mk (box_below hb_ (by repeat (with_reducible first | exact oc.out | apply ext_drew | apply ext_drewN | apply ext_alloc))); (try clear oc occ ocf ocl); have oc := oc_; clear oc_; obtain ⟨occ, ocf, ocl⟩ := cells_of oc.out; clear HB hb_; have HB := HB_; clear HB_)
  go_wp2_with fail
  (go_at_call 10; (with_reducible refine (clint_Lines.calls 5 5 true true true _ rfl).mono ?_); rintro e_ w4 ⟨rfl, hb_⟩; have HB_ : Aside0 (Below w.heap.size w w4) := Aside0.mk (below_step (by repeat (first | (with_reducible first | exact HB.out | exact Below.refl _ _ | apply below_alloc | apply pw_below_drewN | apply below_drew | refine below_set ?_ (by omega)) | exact HB.out)) hb_); have oc_ := Aside0.mk (box_below hb_ (by repeat (with_reducible first | exact oc.out | apply ext_drew | apply ext_drewN | apply ext_alloc))); (try clear oc occ ocf ocl); have oc := oc_; clear oc_; obtain ⟨occ, ocf, ocl⟩ := cells_of oc.out; clear HB hb_; have HB := HB_; clear HB_)
  go_wp2_with fail
  (go_at_call 12; (with_reducible refine (clint_Tick.calls 0 4294967303 false 1 4294967303 false _ rfl).mono ?_); rintro e_ w5 ⟨rfl, hb_⟩; have HB_ : Aside0 (Below w.heap.size w w5) := Aside0.mk (below_step (by repeat (first | (with_reducible first | exact HB.out | exact Below.refl _ _ | apply below_alloc | apply pw_below_drewN | apply below_drew | refine below_set ?_ (by omega)) | exact HB.out)) hb_); have oc_ := Aside0.mk (box_below hb_ (by repeat (with_reducible first | exact oc.out | apply ext_drew | apply ext_drewN | apply ext_alloc))); (try clear oc occ ocf ocl); have oc := oc_; clear oc_; obtain ⟨occ, ocf, ocl⟩ := cells_of oc.out; clear HB hb_; have HB := HB_; clear HB_)
  go_wp2
  refine bodyPost_ret (v := .bool true) (by simp [results, Try.results14, go_sem]) rfl ?_
  exact ⟨rfl, (by repeat (first | (with_reducible first | exact HB.out | exact Below.refl _ _ | apply below_alloc | apply pw_below_drewN | apply below_drew | refine below_set ?_ (by omega)) | exact HB.out))⟩
def drawbridgelaw09_ClintDoes.f (t c : Int) (s : Bool) (off size x : Int) : Option Bool := open Classical in if u64B t ∧ u64B c ∧ u64B off ∧ u64B x then some true else none
set_option maxHeartbeats 1600000 in
set_option maxRecDepth 100000 in
theorem drawbridgelaw09_ClintDoes.calls (t c : Int) (s : Bool) (off size x : Int) (r : Bool) (w : World) (h : drawbridgelaw09_ClintDoes.f t c s off size x = some r) :
    Calls Try.prog 3 #[.agg #[.int .u64 t, .int .u64 c, .bool s], .int .u64 off, .int .i64 size, .int .u64 x] w fun e w' => e = .returned (.bool r) ∧ Below w.heap.size w w' := by
  unfold drawbridgelaw09_ClintDoes.f at h
  split at h
  case isFalse => cases h
  case isTrue hh =>
  injection h with h; subst h
  obtain ⟨ht, hc, ho, hx⟩ := hh
  have HT := Aside0.mk ht
  have HC := Aside0.mk hc
  have HX := Aside0.mk hx
  have HO := Aside0.mk ho
  clear ht hc ho hx
  have HB := Aside0.mk (Below.refl w.heap.size w)
  have hu := Try.underlying24
  go_enter Try.func3, Try.ntmps3
  go_wp2_with fail
  (go_at_call 6; (with_reducible refine (load_runs t c s off size _ HT.out HC.out).mono ?_); rintro e_ w1 ⟨rfl, hb_⟩; have HB_ : Aside0 (Below w.heap.size w w1) := Aside0.mk (below_step (by repeat (first | (with_reducible first | exact HB.out | exact Below.refl _ _ | apply below_alloc | apply pw_below_drewN | apply below_drew | refine below_set ?_ (by omega)) | exact HB.out)) hb_); have oc_ := Aside0.mk (box_below hb_ (by repeat (with_reducible first | exact nb_1 w _ | apply ext_drew | apply ext_drewN | apply ext_alloc))); (try clear oc occ ocf ocl); have oc := oc_; clear oc_; obtain ⟨occ, ocf, ocl⟩ := cells_of oc.out; clear HB hb_; have HB := HB_; clear HB_)
  go_wp2_with fail
  (go_at_call 7; (with_reducible refine (refLoad_runs t c s off size _ HT.out HC.out HO.out).mono ?_); rintro e_ w2 ⟨rfl, hb_⟩; have HB_ : Aside0 (Below w.heap.size w w2) := Aside0.mk (below_step (by repeat (first | (with_reducible first | exact HB.out | exact Below.refl _ _ | apply below_alloc | apply pw_below_drewN | apply below_drew | refine below_set ?_ (by omega)) | exact HB.out)) hb_); have oc_ := Aside0.mk (box_below hb_ (by repeat (with_reducible first | exact oc.out | apply ext_drew | apply ext_drewN | apply ext_alloc))); (try clear oc occ ocf ocl); have oc := oc_; clear oc_; obtain ⟨occ, ocf, ocl⟩ := cells_of oc.out; clear HB hb_; have HB := HB_; clear HB_)
  go_wp2_with fail
  (go_at_call 8; (with_reducible refine (store_runs t c s off size x _ HT.out HC.out HX.out).mono ?_); rintro e_ w3 ⟨rfl, hb_⟩; have HB_ : Aside0 (Below w.heap.size w w3) := Aside0.mk (below_step (by repeat (first | (with_reducible first | exact HB.out | exact Below.refl _ _ | apply below_alloc | apply pw_below_drewN | apply below_drew | refine below_set ?_ (by omega)) | exact HB.out)) hb_); have oc_ := Aside0.mk (box_below hb_ (by repeat (with_reducible first | exact oc.out | apply ext_drew | apply ext_drewN | apply ext_alloc))); (try clear oc occ ocf ocl); have oc := oc_; clear oc_; obtain ⟨occ, ocf, ocl⟩ := cells_of oc.out; clear HB hb_; have HB := HB_; clear HB_)
  go_wp2_with fail
  (go_at_call 9; (with_reducible refine (refStore_runs t c s off size x _ HT.out HC.out HX.out HO.out).mono ?_); rintro e_ w4 ⟨rfl, hb_⟩; have HB_ : Aside0 (Below w.heap.size w w4) := Aside0.mk (below_step (by repeat (first | (with_reducible first | exact HB.out | exact Below.refl _ _ | apply below_alloc | apply pw_below_drewN | apply below_drew | refine below_set ?_ (by omega)) | exact HB.out)) hb_); have oc_ := Aside0.mk (box_below hb_ (by repeat (with_reducible first | exact oc.out | apply ext_drew | apply ext_drewN | apply ext_alloc))); have od_ := Aside0.mk (box_below hb_ (by repeat (with_reducible first | exact nb_1 w3 _ | apply ext_drew | apply ext_drewN | apply ext_alloc))); (try clear oc occ ocf ocl); have oc := oc_; clear oc_; obtain ⟨occ, ocf, ocl⟩ := cells_of oc.out; (try clear od odc odf odl); have od := od_; clear od_; obtain ⟨odc, odf, odl⟩ := cells_of od.out; clear HB hb_; have HB := HB_; clear HB_)
  go_wp2_with fail
  (go_at_call 10; (with_reducible refine (clint_Lines.calls t c s s (decide (t ≥ c)) _ rfl).mono ?_); rintro e_ w5 ⟨rfl, hb_⟩; have HB_ : Aside0 (Below w.heap.size w w5) := Aside0.mk (below_step (by repeat (first | (with_reducible first | exact HB.out | exact Below.refl _ _ | apply below_alloc | apply pw_below_drewN | apply below_drew | refine below_set ?_ (by omega)) | exact HB.out)) hb_); have oc_ := Aside0.mk (box_below hb_ (by repeat (with_reducible first | exact oc.out | apply ext_drew | apply ext_drewN | apply ext_alloc))); have od_ := Aside0.mk (box_below hb_ (by repeat (with_reducible first | exact od.out | apply ext_drew | apply ext_drewN | apply ext_alloc))); have og_ := Aside0.mk (box_below hb_ (by repeat (with_reducible first | exact nb_1 w4 _ | apply ext_drew | apply ext_drewN | apply ext_alloc))); (try clear oc occ ocf ocl); have oc := oc_; clear oc_; obtain ⟨occ, ocf, ocl⟩ := cells_of oc.out; (try clear od odc odf odl); have od := od_; clear od_; obtain ⟨odc, odf, odl⟩ := cells_of od.out; (try clear og ogc ogf ogl); have og := og_; clear og_; obtain ⟨ogc, ogf, ogl⟩ := cells_of og.out; clear HB hb_; have HB := HB_; clear HB_)
  go_wp2_with fail
  (go_at_call 11; (with_reducible refine (drawbridgeref09_Lines.calls t c s s (decide (t ≥ c)) _ rfl).mono ?_); rintro e_ w6 ⟨rfl, hb_⟩; have HB_ : Aside0 (Below w.heap.size w w6) := Aside0.mk (below_step (by repeat (first | (with_reducible first | exact HB.out | exact Below.refl _ _ | apply below_alloc | apply pw_below_drewN | apply below_drew | refine below_set ?_ (by omega)) | exact HB.out)) hb_); have oc_ := Aside0.mk (box_below hb_ (by repeat (with_reducible first | exact oc.out | apply ext_drew | apply ext_drewN | apply ext_alloc))); have od_ := Aside0.mk (box_below hb_ (by repeat (with_reducible first | exact od.out | apply ext_drew | apply ext_drewN | apply ext_alloc))); have og_ := Aside0.mk (box_below hb_ (by repeat (with_reducible first | exact og.out | apply ext_drew | apply ext_drewN | apply ext_alloc))); (try clear oc occ ocf ocl); have oc := oc_; clear oc_; obtain ⟨occ, ocf, ocl⟩ := cells_of oc.out; (try clear od odc odf odl); have od := od_; clear od_; obtain ⟨odc, odf, odl⟩ := cells_of od.out; (try clear og ogc ogf ogl); have og := og_; clear og_; obtain ⟨ogc, ogf, ogl⟩ := cells_of og.out; clear HB hb_; have HB := HB_; clear HB_)
  go_wp2_with fail
  go_region_held3 (fun w' => (∀ b o, b < (World.heap w6).size → w'.cell? ⟨b, o, none⟩ = (World.cell? w6) ⟨b, o, none⟩) ∧ Below (World.heap w6).size w6 w') ((refine heldS ?_; repeat (with_reducible first | assumption | exact Below.refl _ _ | apply below_drew | apply pw_below_drewN | apply below_alloc | refine below_step ?_ (by assumption)))) (first | (go_at_call 12; (with_reducible refine (clint_Tick.calls t c s (IntKind.u64.wrap (t + 1)) c s _ rfl).mono ?_); rintro e_ w_ ⟨rfl, hb_⟩) | (go_at_call 13; (with_reducible refine (drawbridgeref09_Tick.calls t c s (IntKind.u64.wrap (t + 1)) c s _ rfl).mono ?_); rintro e_ w_ ⟨rfl, hb_⟩) | (go_at_call 14; (with_reducible refine (heads_runs _).mono ?_); rintro e_ w_ ⟨rfl, hb_⟩))
  rename_i hH
  have HB2 := Aside0.mk (bthen HB.out (bsize HB.out) hH.2)
  clear hH
  go_wp2
  refine bodyPost_ret (v := .bool true) (by simp [results, Try.results3, go_sem]) rfl ?_
  exact ⟨rfl, (by repeat (first | (with_reducible first | exact HB2.out | exact Below.refl _ _ | apply below_alloc | apply pw_below_drewN | apply below_drew | refine below_set ?_ (by omega)) | exact HB2.out))⟩
end Go.Proofs.Ytfnealbmackjaaa.Q
