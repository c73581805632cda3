/- plic.Store, its walks refused. -/
import Derived.Test.YtmlpnjoejdpblaaSq
import Derived.Test.YtmlpnjoejdpblaaEst0
import Derived.Test.YtmlpnjoejdpblaaEat
import Derived.Test.YtmlpnjoejdpblaaQx2
import Derived.Deep.DrawnRows
namespace Go.Proofs.Ytmlpnjoejdpblaa.Q
open Go.RowKit Go.Proofs.YtmlpnjoejdpblaaW.PrintWords Go.Proofs.YtmlpnjoejdpblaaW.PrintLast Go.Proofs.YtmlpnjoejdpblaaW.PrintMore Go.Proofs.Ytmlpnjoejdpblaa.L
attribute [local go_sem] Instr.field part asAgg lt_step max2_int min2_int max_two min_two max_three min_three max_four min_four lt_0_1 lt_0_2 lt_1_2 lt_0_3 lt_1_3 lt_2_3 lt_0_4 lt_1_4 lt_2_4 lt_3_4 lt_0_5 lt_1_5 lt_2_5 lt_3_5 lt_4_5 lt_0_6 lt_1_6 lt_2_6 lt_3_6 lt_4_6 lt_5_6 lt_0_7 lt_1_7 lt_2_7 lt_3_7 lt_4_7 lt_5_7 lt_6_7 lt_0_8 lt_1_8 lt_2_8 lt_3_8 lt_4_8 lt_5_8 lt_6_8 lt_7_8
set_option linter.unusedVariables false
set_option linter.unusedSimpArgs false
attribute [local go_sem ↓] Go.wp_at_zero Go.wp_at_succ
set_option maxHeartbeats 1600000 in
set_option maxRecDepth 100000 in
theorem store_nock (A0 : Option Addr) (c0 : Nat) (l0 : List Int) (p c : Int) (A3 : Option Addr) (c3 : Nat) (l3 : List Int) (A4 : Option Addr) (c4 : Nat) (l4 : List Int) (off size x : Int) (w : World) (hck : checkZ l0 p c l3 l4 = false) (hr0 : Kd.C (Kd.int .i64) w A0 l0.length l0) (hr3 : Kd.C (Kd.int .i64) w A3 l3.length l3) (hr4 : Kd.C (Kd.int .i64) w A4 l4.length l4) :
    Calls Try.prog 12 #[.agg #[.slice A0 l0.length c0, .int .i64 p, .int .i64 c, .slice A3 l3.length c3, .slice A4 l4.length c4], .int .u64 off, .int .i64 size, .int .u64 x] w fun e w' => e = .returned (.tuple #[.agg #[.slice A0 l0.length c0, .int .i64 p, .int .i64 c, .slice A3 l3.length c3, .slice A4 l4.length c4], .bool false]) ∧ Below w.heap.size w w' := by
  have HB := Aside0.mk (Below.refl w.heap.size w)
  have hu := Try.underlying24
  have r0 := Aside0.mk (F_in hr0)
  have r3 := Aside0.mk (F_in hr3)
  have r4 := Aside0.mk (F_in hr4)
  have HK := Aside0.mk hck
  clear hr0 hr3 hr4 hck
  go_enter Try.func12, Try.ntmps12
  go_wp2_with fail
  (go_at_call 7; (with_reducible refine (check_c false _ _ l0 p c _ _ l3 _ _ l4 _ HK.out (Kd.F_now (fG r0)) (Kd.F_now (fG r3)) (Kd.F_now (fG r4))).mono ?_); rintro e_ w1 ⟨rfl, hb_⟩; have HB_ : Aside0 (Below w.heap.size w w1) := Aside0.mk (below_step (bG HB) hb_); have hzw1 := hb_.size; (try simp at hzw1); have oc_ := Aside0.mk (box_below hb_ (by repeat (with_reducible first | exact nb_1 w _ | apply ext_drew | apply ext_drewN | apply ext_alloc | refine blk_far ?_ (by show _ ≠ _; dsimp only; omega) _))); have oz_ := Aside0.mk (box_below hb_ (by repeat (with_reducible first | exact nb_2 w _ _ | apply ext_drew | apply ext_drewN | apply ext_alloc | refine blk_far ?_ (by show _ ≠ _; dsimp only; omega) _))); have r0_ := Aside0.mk (Kd.F_below (fG r0) hb_); clear r0; have r0 := r0_; clear r0_; have r3_ := Aside0.mk (Kd.F_below (fG r3) hb_); clear r3; have r3 := r3_; clear r3_; have r4_ := Aside0.mk (Kd.F_below (fG r4) hb_); clear r4; have r4 := r4_; clear r4_; (try clear oc occ ocf ocl); have oc := oc_; clear oc_; obtain ⟨occ, ocf, ocl⟩ := cells_of oc.out; (try clear oz ozc ozf ozl); have oz := oz_; clear oz_; obtain ⟨ozc, ozf, ozl⟩ := cells_of oz.out; clear HB hb_; have HB := HB_; clear HB_)
  go_wp2
  (first | go_region | skip)
  all_goals go_wp2
  all_goals refine bodyPost_ret (v := .tuple #[.agg #[.slice A0 l0.length c0, .int .i64 p, .int .i64 c, .slice A3 l3.length c3, .slice A4 l4.length c4], .bool false]) (by simp [results, Try.results12, go_sem, occ, ozc] <;> first | assumption | omega | (symm; assumption)) rfl ?_
  all_goals exact ⟨rfl, (bG HB)⟩
set_option maxHeartbeats 1600000 in
set_option maxRecDepth 100000 in
theorem store_nosz (A0 : Option Addr) (c0 : Nat) (l0 : List Int) (p c : Int) (A3 : Option Addr) (c3 : Nat) (l3 : List Int) (A4 : Option Addr) (c4 : Nat) (l4 : List Int) (off size x : Int) (w : World) (hck : checkZ l0 p c l3 l4 = true) (hsz : (size != 4) = true) (hr0 : Kd.C (Kd.int .i64) w A0 l0.length l0) (hr3 : Kd.C (Kd.int .i64) w A3 l3.length l3) (hr4 : Kd.C (Kd.int .i64) w A4 l4.length l4) :
    Calls Try.prog 12 #[.agg #[.slice A0 l0.length c0, .int .i64 p, .int .i64 c, .slice A3 l3.length c3, .slice A4 l4.length c4], .int .u64 off, .int .i64 size, .int .u64 x] w fun e w' => e = .returned (.tuple #[.agg #[.slice A0 l0.length c0, .int .i64 p, .int .i64 c, .slice A3 l3.length c3, .slice A4 l4.length c4], .bool false]) ∧ Below w.heap.size w w' := by
  have HB := Aside0.mk (Below.refl w.heap.size w)
  have hu := Try.underlying24
  have r0 := Aside0.mk (F_in hr0)
  have r3 := Aside0.mk (F_in hr3)
  have r4 := Aside0.mk (F_in hr4)
  have HK := Aside0.mk hck
  clear hr0 hr3 hr4 hck
  go_enter Try.func12, Try.ntmps12
  go_wp2_with fail
  (go_at_call 7; (with_reducible refine (check_c true _ _ l0 p c _ _ l3 _ _ l4 _ HK.out (Kd.F_now (fG r0)) (Kd.F_now (fG r3)) (Kd.F_now (fG r4))).mono ?_); rintro e_ w1 ⟨rfl, hb_⟩; have HB_ : Aside0 (Below w.heap.size w w1) := Aside0.mk (below_step (bG HB) hb_); have hzw1 := hb_.size; (try simp at hzw1); have oc_ := Aside0.mk (box_below hb_ (by repeat (with_reducible first | exact nb_1 w _ | apply ext_drew | apply ext_drewN | apply ext_alloc | refine blk_far ?_ (by show _ ≠ _; dsimp only; omega) _))); have oz_ := Aside0.mk (box_below hb_ (by repeat (with_reducible first | exact nb_2 w _ _ | apply ext_drew | apply ext_drewN | apply ext_alloc | refine blk_far ?_ (by show _ ≠ _; dsimp only; omega) _))); have r0_ := Aside0.mk (Kd.F_below (fG r0) hb_); clear r0; have r0 := r0_; clear r0_; have r3_ := Aside0.mk (Kd.F_below (fG r3) hb_); clear r3; have r3 := r3_; clear r3_; have r4_ := Aside0.mk (Kd.F_below (fG r4) hb_); clear r4; have r4 := r4_; clear r4_; (try clear oc occ ocf ocl); have oc := oc_; clear oc_; obtain ⟨occ, ocf, ocl⟩ := cells_of oc.out; (try clear oz ozc ozf ozl); have oz := oz_; clear oz_; obtain ⟨ozc, ozf, ozl⟩ := cells_of oz.out; clear HB hb_; have HB := HB_; clear HB_)
  go_wp2
  (first | go_region | skip)
  all_goals go_wp2
  all_goals refine bodyPost_ret (v := .tuple #[.agg #[.slice A0 l0.length c0, .int .i64 p, .int .i64 c, .slice A3 l3.length c3, .slice A4 l4.length c4], .bool false]) (by simp [results, Try.results12, go_sem, occ, ozc] <;> first | assumption | omega | (symm; assumption)) rfl ?_
  all_goals exact ⟨rfl, (bG HB)⟩
end Go.Proofs.Ytmlpnjoejdpblaa.Q
