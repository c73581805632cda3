/- host.Find. -/
import Derived.Test.YtijdplpmcnhlbaaHchg
import Derived.Test.YtijdplpmcnhlbaaSt
import Derived.Test.YtijdplpmcnhlbaaKs
namespace Go.Proofs.Ytijdplpmcnhlbaa.Q
open Go.RowKit Go.Proofs.YtijdplpmcnhlbaaW.PrintWords Go.Proofs.YtijdplpmcnhlbaaW.PrintLast Go.Proofs.YtijdplpmcnhlbaaW.PrintMore Go.Proofs.Ytijdplpmcnhlbaa.L
attribute [local go_sem] Instr.field part asAgg lt_step max2_int min2_int max_two min_two max_three min_three max_four min_four lt_0_1 lt_0_2 lt_1_2 lt_0_3 lt_1_3 lt_2_3 lt_0_4 lt_1_4 lt_2_4 lt_3_4 lt_0_5 lt_1_5 lt_2_5 lt_3_5 lt_4_5 lt_0_6 lt_1_6 lt_2_6 lt_3_6 lt_4_6 lt_5_6 lt_0_7 lt_1_7 lt_2_7 lt_3_7 lt_4_7 lt_5_7 lt_6_7 lt_0_8 lt_1_8 lt_2_8 lt_3_8 lt_4_8 lt_5_8 lt_6_8 lt_7_8
set_option linter.unusedVariables false
set_option linter.unusedSimpArgs false
theorem idxS_range (n : Int) : ∀ (l : List S34) (k : Int), 0 ≤ k → idxS n l k = -1 ∨ (k ≤ idxS n l k ∧ idxS n l k < k + l.length)
  | [], k, h => .inl rfl
  | x :: l, k, h => by
    unfold idxS
    have hl : ((x :: l).length : Int) = l.length + 1 := by simp
    split
    · exact .inr ⟨Int.le_refl _, by omega⟩
    · rcases idxS_range n l (k + 1) (by omega) with h1 | h1
      · exact .inl h1
      · exact .inr ⟨by omega, by omega⟩
theorem place_range {l : List S34} {n i : Int} (h : host_place.f l n = some i) : i < 0 ∨ (0 ≤ i ∧ i < l.length) := by
  unfold host_place.f at h
  obtain ⟨c, _, hc⟩ := Option.map_eq_some_iff.1 h
  cases c with
  | false => left; obtain rfl : (-1 : Int) = i := hc; decide
  | true =>
    have hc2 : idxS n l 0 = i := hc
    rcases idxS_range n l 0 (Int.le_refl _) with h1 | h1
    · left; omega
    · right; omega
def host_Find.f (l0 : List S34) (a1 : Int) : Option (Int × Int × Int × Int × Bool × Bool × Bool) := (host_place.f l0 a1).map fun i => if i < 0 then (0, 0, 0, 0, false, false, false) else ((rd_T34 l0 i).f0, (rd_T34 l0 i).f1, (rd_T34 l0 i).f2, (rd_T34 l0 i).f3, (rd_T34 l0 i).f4, (rd_T34 l0 i).f5, true)
set_option maxHeartbeats 1600000 in
set_option maxRecDepth 100000 in
theorem find_no (A0 : Option Addr) (c0 : Nat) (l0 : List S34) (a1 i : Int) (w : World) (hr0 : Kd.C k34 w A0 l0.length l0) (hc0 : l0.length ≤ c0) (h : host_place.f l0 a1 = some i) (hi : i < 0) :
    Calls Try.prog 15 #[.slice A0 l0.length c0, .int .i64 a1] w fun e w' => e = .returned (.tuple #[.agg #[.int .i64 0, .int .i64 0, .int .u32 0, .int .i64 0, .bool false, .bool false], .bool false]) ∧ Below w.heap.size w w' := by
  have HB := Aside0.mk (Below.refl w.heap.size w)
  have HR := Aside0.mk hr0
  have HC := Aside0.mk hc0
  have HK := Aside0.mk h
  have hb : decide (i < 0) = true := decide_eq_true hi
  clear hr0 hc0 h hi
  go_enter Try.func15, Try.ntmps15
  go_wp2_with fail
  (go_at_call 22; (with_reducible refine (host_place.calls _ _ l0 a1 i _ (by first | exact HR.out | exact Kd.C_alloc HR.out _) HC.out HK.out).mono ?_); rintro e_ w1 ⟨rfl, hb_⟩; have HB_ : Aside0 (Below w.heap.size w w1) := Aside0.mk (below_step (by repeat (first | (with_reducible first | exact HB.out | exact Below.refl _ _ | apply below_alloc | apply pw_below_drewN | apply below_drew | refine below_set ?_ (by omega)) | exact HB.out)) hb_); have hzw1 := hb_.size; (try simp at hzw1); have oa_ := Aside0.mk (box_below hb_ (by repeat (with_reducible first | exact nb_1 w _ | apply ext_drew | apply ext_drewN | apply ext_alloc | refine blk_far ?_ (by show _ ≠ _; dsimp only; omega) _))); (try clear oa oac oaf oal); have oa := oa_; clear oa_; obtain ⟨oac, oaf, oal⟩ := cells_of oa.out; clear HB hb_; have HB := HB_; clear HB_)
  go_wp2
  refine bodyPost_ret (results_ct rfl _ _ w.heap.size 34 #[.int .i64 0, .int .i64 0, .int .u32 0, .int .i64 0, .bool false, .bool false] (0, 0) _ rfl (blk_put (blk_put (blk_put (blk_put (blk_put (blk_put (oa.out) 0 (.int .i64 0) rfl) 1 (.int .i64 0) rfl) 2 (.int .u32 0) rfl) 3 (.int .i64 0) rfl) 4 (.bool false) rfl) 5 (.bool false) rfl) Try.underlying34 rfl (by kernel_rfl)) rfl ⟨rfl, (by repeat (first | (with_reducible first | exact HB.out | exact Below.refl _ _ | apply below_alloc | apply pw_below_drewN | apply below_drew | refine below_set ?_ (by omega)) | exact HB.out))⟩
set_option maxHeartbeats 1600000 in
set_option maxRecDepth 100000 in
theorem find_is (A0 : Option Addr) (c0 : Nat) (l0 : List S34) (a1 i : Int) (w : World) (hr0 : Kd.C k34 w A0 l0.length l0) (hc0 : l0.length ≤ c0) (h : host_place.f l0 a1 = some i) (h0 : 0 ≤ i) (h1 : i < l0.length) :
    Calls Try.prog 15 #[.slice A0 l0.length c0, .int .i64 a1] w fun e w' => e = .returned (.tuple #[.agg #[.int .i64 (rd_T34 l0 i).f0, .int .i64 (rd_T34 l0 i).f1, .int .u32 (rd_T34 l0 i).f2, .int .i64 (rd_T34 l0 i).f3, .bool (rd_T34 l0 i).f4, .bool (rd_T34 l0 i).f5], .bool true]) ∧ Below w.heap.size w w' := by
  have HB := Aside0.mk (Below.refl w.heap.size w)
  have HR := Aside0.mk hr0
  have HC := Aside0.mk hc0
  have HK := Aside0.mk h
  have hb : decide (i < 0) = false := decide_eq_false (by omega)
  have hb0 : decide (0 ≤ i) = true := decide_eq_true h0
  clear hr0 hc0 h
  go_enter Try.func15, Try.ntmps15
  go_wp2_with fail
  (go_at_call 22; (with_reducible refine (host_place.calls _ _ l0 a1 i _ (by first | exact HR.out | exact Kd.C_alloc HR.out _) HC.out HK.out).mono ?_); rintro e_ w1 ⟨rfl, hb_⟩; have HB_ : Aside0 (Below w.heap.size w w1) := Aside0.mk (below_step (by repeat (first | (with_reducible first | exact HB.out | exact Below.refl _ _ | apply below_alloc | apply pw_below_drewN | apply below_drew | refine below_set ?_ (by omega)) | exact HB.out)) hb_); have hzw1 := hb_.size; (try simp at hzw1); have oa_ := Aside0.mk (box_below hb_ (by repeat (with_reducible first | exact nb_1 w _ | apply ext_drew | apply ext_drewN | apply ext_alloc | refine blk_far ?_ (by show _ ≠ _; dsimp only; omega) _))); (try clear oa oac oaf oal); have oa := oa_; clear oa_; obtain ⟨oac, oaf, oal⟩ := cells_of oa.out; clear HB hb_; have HB := HB_; clear HB_)
  obtain ⟨ad, rfl, hc0, hc1, hc2, hc3, hc4, hc5⟩ := at_T34 (Kd.C_below HR.out HB.out) i h0 h1
  go_wp2
  refine bodyPost_ret (results_ct rfl _ _ w.heap.size 34 #[.int .i64 (rd_T34 l0 i).f0, .int .i64 (rd_T34 l0 i).f1, .int .u32 (rd_T34 l0 i).f2, .int .i64 (rd_T34 l0 i).f3, .bool (rd_T34 l0 i).f4, .bool (rd_T34 l0 i).f5] (0, 0) _ rfl (blk_put (blk_put (blk_put (blk_put (blk_put (blk_put (oa.out) 0 (.int .i64 (rd_T34 l0 i).f0) rfl) 1 (.int .i64 (rd_T34 l0 i).f1) rfl) 2 (.int .u32 (rd_T34 l0 i).f2) rfl) 3 (.int .i64 (rd_T34 l0 i).f3) rfl) 4 (.bool (rd_T34 l0 i).f4) rfl) 5 (.bool (rd_T34 l0 i).f5) rfl) Try.underlying34 rfl (by kernel_rfl)) rfl ⟨rfl, (by repeat (first | (with_reducible first | exact HB.out | exact Below.refl _ _ | apply below_alloc | apply pw_below_drewN | apply below_drew | refine below_set ?_ (by omega)) | exact HB.out))⟩
theorem host_Find.calls (A0 : Option Addr) (c0 : Nat) (l0 : List S34) (a1 : Int) (r1 : Int) (r2 : Int) (r3 : Int) (r4 : Int) (r5 : Bool) (r6 : Bool) (r7 : Bool) (w : World) (hr0 : Kd.C k34 w A0 l0.length l0) (hc0 : l0.length ≤ c0) (h : host_Find.f l0 a1 = some (r1, r2, r3, r4, r5, r6, r7)) :
    Calls Try.prog 15 #[.slice A0 l0.length c0, .int .i64 a1] w fun e w' => e = .returned (.tuple #[.agg #[.int .i64 r1, .int .i64 r2, .int .u32 r3, .int .i64 r4, .bool r5, .bool r6], .bool r7]) ∧ Below w.heap.size w w' := by
  unfold host_Find.f at h
  obtain ⟨i, hi, h⟩ := Option.map_eq_some_iff.1 h
  rcases place_range hi with h1 | ⟨h0, h1⟩
  · rw [if_pos h1] at h
    simp only [Prod.mk.injEq] at h
    obtain ⟨rfl, rfl, rfl, rfl, rfl, rfl, rfl⟩ := h
    exact find_no A0 c0 l0 a1 i w hr0 hc0 hi h1
  · rw [if_neg (by omega)] at h
    simp only [Prod.mk.injEq] at h
    obtain ⟨rfl, rfl, rfl, rfl, rfl, rfl, rfl⟩ := h
    exact find_is A0 c0 l0 a1 i w hr0 hc0 hi h0 h1
end Go.Proofs.Ytijdplpmcnhlbaa.Q
