import Derived.Test.YtphcckhegfgbgaaPZ1
import Derived.Deep.DeepCutAuto
import Derived.RegionTactic
import Derived.BigRegion
import Derived.Deep.DrawnRows
section
/- plic.Check, as those who call it have it. -/
namespace Go.Proofs.Ytphcckhegfgbgaa.Q
open Go.RowKit Go.Proofs.YtphcckhegfgbgaaW.PrintWords Go.Proofs.YtphcckhegfgbgaaW.PrintLast Go.Proofs.YtphcckhegfgbgaaW.PrintMore Go.Proofs.Ytphcckhegfgbgaa.L
attribute [local go_sem] Instr.field part asAgg lt_step max2_int min2_int max_two min_two max_three min_three max_four min_four lt_0_1 lt_0_2 lt_1_2 lt_0_3 lt_1_3 lt_2_3 lt_0_4 lt_1_4 lt_2_4 lt_3_4 lt_0_5 lt_1_5 lt_2_5 lt_3_5 lt_4_5 lt_0_6 lt_1_6 lt_2_6 lt_3_6 lt_4_6 lt_5_6 lt_0_7 lt_1_7 lt_2_7 lt_3_7 lt_4_7 lt_5_7 lt_6_7 lt_0_8 lt_1_8 lt_2_8 lt_3_8 lt_4_8 lt_5_8 lt_6_8 lt_7_8
set_option linter.unusedVariables false
set_option linter.unusedSimpArgs false
/-- The first test of five. -/
def shapeZ (l0 : List Int) (p c : Int) (l3 l4 : List Int) : Bool := (decide (l0.length = 3) && decide (l3.length = 2) && decide (l4.length = 2) && decide (rd l0 0 = 0)) && decide (Go.bits .andNot .i64 (Go.bits .or .i64 p c) 6 = 0)
def checkZ (l0 : List Int) (p c : Int) (l3 l4 : List Int) : Bool := shapeZ l0 p c l3 l4 && (!l0.any greatZ && !l4.any greatZ && !l3.any oddZ)
theorem len_ne {l : List Int} {n : Nat} {z : Int} (hz : z = n) (h : l.length ≠ n) : (((l.length : Nat) : Int) != z) = true := by subst hz; exact bne_iff_ne.mpr (by omega)
theorem len_eq {l : List Int} {n : Nat} {z : Int} (hz : z = n) (h : l.length = n) : (((l.length : Nat) : Int) != z) = false := by subst hz; exact bne_eq_false_iff_eq.mpr (by omega)
section
variable (A0 : Option Addr) (c0 : Nat) (l0 : List Int) (p c : Int) (A3 : Option Addr) (c3 : Nat) (l3 : List Int) (A4 : Option Addr) (c4 : Nat) (l4 : List Int) (w : World)
set_option maxHeartbeats 1600000 in
set_option maxRecDepth 100000 in
theorem check_runs (hr0 : Kd.C (Kd.int .i64) w A0 l0.length l0) (hr3 : Kd.C (Kd.int .i64) w A3 l3.length l3) (hr4 : Kd.C (Kd.int .i64) w A4 l4.length l4) :
    Calls Try.prog 42 #[.agg #[.slice A0 l0.length c0, .int .i64 p, .int .i64 c, .slice A3 l3.length c3, .slice A4 l4.length c4]] w fun e w' => e = .returned (.bool (checkZ l0 p c l3 l4)) ∧ Below w.heap.size w w' := by
  have HB := Aside0.mk (Below.refl w.heap.size w)
  have r0 := Aside0.mk (F_in hr0)
  have r3 := Aside0.mk (F_in hr3)
  have r4 := Aside0.mk (F_in hr4)
  have hm0 : l0.length ≤ 9223372036854775807 := hr0.2.1
  have hm3 : l3.length ≤ 9223372036854775807 := hr3.2.1
  have hm4 : l4.length ≤ 9223372036854775807 := hr4.2.1
  clear hr0 hr3 hr4
  go_enter Try.func42, Try.ntmps42
  go_upto_region 1 with fail
  obtain ⟨w0, hw0, oc0, hb_, hz0⟩ := letter1 w (.cells #[.slice A0 l0.length c0, .int .i64 p, .int .i64 c, .slice A3 l3.length c3, .slice A4 l4.length c4] 30 (0, 0))
  rw [hw0]
  clear hw0
  have oc := Aside0.mk oc0
  clear oc0
  obtain ⟨occ, ocf, ocl⟩ := cells_of oc.out
  have HB_ : Aside0 (Below w.heap.size w w0) := ⟨hb_⟩
  have r0_ := Aside0.mk (Kd.F_below r0.out hb_)
  have r3_ := Aside0.mk (Kd.F_below r3.out hb_)
  have r4_ := Aside0.mk (Kd.F_below r4.out hb_)
  clear HB r0 r3 r4 hb_; have HB := HB_; have r0 := r0_; have r3 := r3_; have r4 := r4_; clear HB_ r0_ r3_ r4_
  go_cut [36] (fun c36 wx => c36 = .bool (!shapeZ l0 p c l3 l4) ∧ wx = w0)
  case first =>
    have HS : Aside0 (shapeZ l0 p c l3 l4 = ((decide (l0.length = 3) && decide (l3.length = 2) && decide (l4.length = 2) && decide (rd l0 0 = 0)) && decide (Go.bits .andNot .i64 (Go.bits .or .i64 p c) 6 = 0))) := ⟨rfl⟩
    by_cases h0 : l0.length = 3
    · have h0b := len_eq (z := 3) rfl h0
      have H0 := Aside0.mk h0
      obtain ⟨ab, ao, rfl, hcs⟩ := F_cell' r0.out (by omega)
      have hc : w0.cell? ⟨ab, ao, none⟩ = some (.int .i64 (rd l0 0)) := hcs 0 (by omega)
      clear hcs
      have h0i : (0 : Int) < (l0.length : Int) := by omega
      by_cases h3 : l3.length = 2
      · have h3b := len_eq (z := 2) rfl h3
        have H3 := Aside0.mk h3
        by_cases h4 : l4.length = 2
        · have h4b := len_eq (z := 2) rfl h4
          have H4 := Aside0.mk h4
          by_cases hz : rd l0 0 = 0
          · have hzb : (rd l0 0 != 0) = false := bne_eq_false_iff_eq.mpr hz
            have HZ := Aside0.mk hz
            clear h0 h3 h4 hz
            by_cases hb : Go.bits .andNot .i64 (Go.bits .or .i64 p c) 6 = 0
            · have hbb : (Go.bits .andNot .i64 (Go.bits .or .i64 p c) 6 != 0) = false := bne_eq_false_iff_eq.mpr hb
              have HBB := Aside0.mk hb
              clear hb
              go_wp2_with fail
              go_meet
              exact ⟨by rw [HS.out]; simp [H0.out, H3.out, H4.out, HZ.out, HBB.out], rfl⟩
            · have hbb : (Go.bits .andNot .i64 (Go.bits .or .i64 p c) 6 != 0) = true := bne_iff_ne.mpr hb
              have HBB := Aside0.mk hb
              clear hb
              go_wp2_with fail
              go_meet
              exact ⟨by rw [HS.out]; simp [HBB.out], rfl⟩
          · have hzb : (rd l0 0 != 0) = true := bne_iff_ne.mpr hz
            have HZ := Aside0.mk hz
            clear h0 h3 h4 hz
            go_wp2_with fail
            go_meet
            exact ⟨by rw [HS.out]; simp [HZ.out], rfl⟩
        · have h4b := len_ne (z := 2) rfl h4
          have H4 := Aside0.mk h4
          clear h0 h3 h4
          go_wp2_with fail
          go_meet
          exact ⟨by rw [HS.out]; simp [H4.out], rfl⟩
      · have h3b := len_ne (z := 2) rfl h3
        have H3 := Aside0.mk h3
        clear h0 h3
        go_wp2_with fail
        go_meet
        exact ⟨by rw [HS.out]; simp [H3.out], rfl⟩
    · have h0b := len_ne (z := 3) rfl h0
      have H0 := Aside0.mk h0
      clear h0
      go_wp2_with fail
      go_meet
      exact ⟨by rw [HS.out]; simp [H0.out], rfl⟩
  case rest =>
    obtain ⟨rfl, hw1⟩ := hcut
    subst hw1
    rename World => w1
    have HS : Aside0 (checkZ l0 p c l3 l4 = (shapeZ l0 p c l3 l4 && (!l0.any greatZ && !l4.any greatZ && !l3.any oddZ))) := ⟨rfl⟩
    cases hs : shapeZ l0 p c l3 l4
    · have HS2 := Aside0.mk hs
      clear hs
      go_wp2_with fail
      go_ret
      exact ⟨by rw [HS.out, HS2.out]; rfl, HB.out⟩
    · have HS2 := Aside0.mk hs
      clear hs
      go_wp2_with fail
      (go_at_call 61; (with_reducible refine (contains_great _ _ l0 _ (Kd.F_now (by (repeat (with_reducible first | exact r0.out | apply Kd.F_drew | apply Kd.F_drewN | apply Kd.F_alloc | refine Kd.F_far ?_ ?_ _)); all_goals (intro j_ hj_; (try dsimp only at hj_); (try dsimp only); (try simp only [sz_alloc, sz_drew, sz_drewN, sz_set] at hj_); omega)))).mono ?_); rintro e_ w2 ⟨rfl, hb_⟩; have HB_ : Aside0 (Below w.heap.size w w2) := Aside0.mk (below_step (by repeat (first | (with_reducible first | exact HB.out | exact Below.refl _ _ | apply below_alloc | apply pw_below_drewN | apply below_drew | refine below_set ?_ (by omega)) | exact HB.out)) hb_); have hzw2 := hb_.size; (try simp at hzw2); have oc_ := Aside0.mk (box_below hb_ (by repeat (with_reducible first | exact oc.out | apply ext_drew | apply ext_drewN | apply ext_alloc | refine blk_far ?_ (by show _ ≠ _; dsimp only; omega) _))); have r0_ := Aside0.mk (Kd.F_below (by (repeat (with_reducible first | exact r0.out | apply Kd.F_drew | apply Kd.F_drewN | apply Kd.F_alloc | refine Kd.F_far ?_ ?_ _)); all_goals (intro j_ hj_; (try dsimp only at hj_); (try dsimp only); (try simp only [sz_alloc, sz_drew, sz_drewN, sz_set] at hj_); omega)) hb_); clear r0; have r0 := r0_; clear r0_; have r3_ := Aside0.mk (Kd.F_below (by (repeat (with_reducible first | exact r3.out | apply Kd.F_drew | apply Kd.F_drewN | apply Kd.F_alloc | refine Kd.F_far ?_ ?_ _)); all_goals (intro j_ hj_; (try dsimp only at hj_); (try dsimp only); (try simp only [sz_alloc, sz_drew, sz_drewN, sz_set] at hj_); omega)) hb_); clear r3; have r3 := r3_; clear r3_; have r4_ := Aside0.mk (Kd.F_below (by (repeat (with_reducible first | exact r4.out | apply Kd.F_drew | apply Kd.F_drewN | apply Kd.F_alloc | refine Kd.F_far ?_ ?_ _)); all_goals (intro j_ hj_; (try dsimp only at hj_); (try dsimp only); (try simp only [sz_alloc, sz_drew, sz_drewN, sz_set] at hj_); omega)) hb_); clear r4; have r4 := r4_; clear r4_; (try clear oc occ ocf ocl); have oc := oc_; clear oc_; obtain ⟨occ, ocf, ocl⟩ := cells_of oc.out; clear HB hb_; have HB := HB_; clear HB_)
      cases h1 : l0.any greatZ
      · have H1 := Aside0.mk h1
        clear h1
        go_wp2_with fail
        (go_at_call 61; (with_reducible refine (contains_great _ _ l4 _ (Kd.F_now (by (repeat (with_reducible first | exact r4.out | apply Kd.F_drew | apply Kd.F_drewN | apply Kd.F_alloc | refine Kd.F_far ?_ ?_ _)); all_goals (intro j_ hj_; (try dsimp only at hj_); (try dsimp only); (try simp only [sz_alloc, sz_drew, sz_drewN, sz_set] at hj_); omega)))).mono ?_); rintro e_ w3 ⟨rfl, hb_⟩; have HB_ : Aside0 (Below w.heap.size w w3) := Aside0.mk (below_step (by repeat (first | (with_reducible first | exact HB.out | exact Below.refl _ _ | apply below_alloc | apply pw_below_drewN | apply below_drew | refine below_set ?_ (by omega)) | exact HB.out)) hb_); have hzw3 := hb_.size; (try simp at hzw3); have oc_ := Aside0.mk (box_below hb_ (by repeat (with_reducible first | exact oc.out | apply ext_drew | apply ext_drewN | apply ext_alloc | refine blk_far ?_ (by show _ ≠ _; dsimp only; omega) _))); have r0_ := Aside0.mk (Kd.F_below (by (repeat (with_reducible first | exact r0.out | apply Kd.F_drew | apply Kd.F_drewN | apply Kd.F_alloc | refine Kd.F_far ?_ ?_ _)); all_goals (intro j_ hj_; (try dsimp only at hj_); (try dsimp only); (try simp only [sz_alloc, sz_drew, sz_drewN, sz_set] at hj_); omega)) hb_); clear r0; have r0 := r0_; clear r0_; have r3_ := Aside0.mk (Kd.F_below (by (repeat (with_reducible first | exact r3.out | apply Kd.F_drew | apply Kd.F_drewN | apply Kd.F_alloc | refine Kd.F_far ?_ ?_ _)); all_goals (intro j_ hj_; (try dsimp only at hj_); (try dsimp only); (try simp only [sz_alloc, sz_drew, sz_drewN, sz_set] at hj_); omega)) hb_); clear r3; have r3 := r3_; clear r3_; have r4_ := Aside0.mk (Kd.F_below (by (repeat (with_reducible first | exact r4.out | apply Kd.F_drew | apply Kd.F_drewN | apply Kd.F_alloc | refine Kd.F_far ?_ ?_ _)); all_goals (intro j_ hj_; (try dsimp only at hj_); (try dsimp only); (try simp only [sz_alloc, sz_drew, sz_drewN, sz_set] at hj_); omega)) hb_); clear r4; have r4 := r4_; clear r4_; (try clear oc occ ocf ocl); have oc := oc_; clear oc_; obtain ⟨occ, ocf, ocl⟩ := cells_of oc.out; clear HB hb_; have HB := HB_; clear HB_)
        cases h2 : l4.any greatZ
        · have H2 := Aside0.mk h2
          clear h2
          go_wp2_with fail
          (go_at_call 61; (with_reducible refine (contains_odd _ _ l3 _ (Kd.F_now (by (repeat (with_reducible first | exact r3.out | apply Kd.F_drew | apply Kd.F_drewN | apply Kd.F_alloc | refine Kd.F_far ?_ ?_ _)); all_goals (intro j_ hj_; (try dsimp only at hj_); (try dsimp only); (try simp only [sz_alloc, sz_drew, sz_drewN, sz_set] at hj_); omega)))).mono ?_); rintro e_ w4 ⟨rfl, hb_⟩; have HB_ : Aside0 (Below w.heap.size w w4) := Aside0.mk (below_step (by repeat (first | (with_reducible first | exact HB.out | exact Below.refl _ _ | apply below_alloc | apply pw_below_drewN | apply below_drew | refine below_set ?_ (by omega)) | exact HB.out)) hb_); have hzw4 := hb_.size; (try simp at hzw4); have oc_ := Aside0.mk (box_below hb_ (by repeat (with_reducible first | exact oc.out | apply ext_drew | apply ext_drewN | apply ext_alloc | refine blk_far ?_ (by show _ ≠ _; dsimp only; omega) _))); have r0_ := Aside0.mk (Kd.F_below (by (repeat (with_reducible first | exact r0.out | apply Kd.F_drew | apply Kd.F_drewN | apply Kd.F_alloc | refine Kd.F_far ?_ ?_ _)); all_goals (intro j_ hj_; (try dsimp only at hj_); (try dsimp only); (try simp only [sz_alloc, sz_drew, sz_drewN, sz_set] at hj_); omega)) hb_); clear r0; have r0 := r0_; clear r0_; have r3_ := Aside0.mk (Kd.F_below (by (repeat (with_reducible first | exact r3.out | apply Kd.F_drew | apply Kd.F_drewN | apply Kd.F_alloc | refine Kd.F_far ?_ ?_ _)); all_goals (intro j_ hj_; (try dsimp only at hj_); (try dsimp only); (try simp only [sz_alloc, sz_drew, sz_drewN, sz_set] at hj_); omega)) hb_); clear r3; have r3 := r3_; clear r3_; have r4_ := Aside0.mk (Kd.F_below (by (repeat (with_reducible first | exact r4.out | apply Kd.F_drew | apply Kd.F_drewN | apply Kd.F_alloc | refine Kd.F_far ?_ ?_ _)); all_goals (intro j_ hj_; (try dsimp only at hj_); (try dsimp only); (try simp only [sz_alloc, sz_drew, sz_drewN, sz_set] at hj_); omega)) hb_); clear r4; have r4 := r4_; clear r4_; (try clear oc occ ocf ocl); have oc := oc_; clear oc_; obtain ⟨occ, ocf, ocl⟩ := cells_of oc.out; clear HB hb_; have HB := HB_; clear HB_)
          go_wp2_with fail
          go_ret
          exact ⟨by rw [HS.out, HS2.out, H1.out, H2.out]; rfl, HB.out⟩
        · have H2 := Aside0.mk h2
          clear h2
          go_wp2_with fail
          go_ret
          exact ⟨by rw [HS.out, HS2.out, H1.out, H2.out]; rfl, HB.out⟩
      · have H1 := Aside0.mk h1
        clear h1
        go_wp2_with fail
        go_ret
        exact ⟨by rw [HS.out, HS2.out, H1.out]; rfl, HB.out⟩
end
def plic_Check.f (l0_0 : List Int) (a0_1 : Int) (a0_2 : Int) (l0_3 : List Int) (l0_4 : List Int) : Option Bool := some (checkZ l0_0 a0_1 a0_2 l0_3 l0_4)
theorem plic_Check.calls (A0_0 : Option Addr) (c0_0 : Nat) (l0_0 : List Int) (a0_1 : Int) (a0_2 : Int) (A0_3 : Option Addr) (c0_3 : Nat) (l0_3 : List Int) (A0_4 : Option Addr) (c0_4 : Nat) (l0_4 : List Int) (r : Bool) (w : World) (hr0_0 : Kd.C (Kd.int .i64) w A0_0 l0_0.length l0_0) (hc0_0 : l0_0.length ≤ c0_0) (hr0_3 : Kd.C (Kd.int .i64) w A0_3 l0_3.length l0_3) (hc0_3 : l0_3.length ≤ c0_3) (hr0_4 : Kd.C (Kd.int .i64) w A0_4 l0_4.length l0_4) (hc0_4 : l0_4.length ≤ c0_4) (h : plic_Check.f l0_0 a0_1 a0_2 l0_3 l0_4 = some r) :
    Calls Try.prog 42 #[.agg #[.slice A0_0 l0_0.length c0_0, .int .i64 a0_1, .int .i64 a0_2, .slice A0_3 l0_3.length c0_3, .slice A0_4 l0_4.length c0_4]] w fun e w' => e = .returned (.bool r) ∧ Below w.heap.size w w' := by
  injection h with h; subst h
  exact check_runs _ _ _ _ _ _ _ _ _ _ _ _ hr0_0 hr0_3 hr0_4
end Go.Proofs.Ytphcckhegfgbgaa.Q
end
section
/- plic's places: where the contexts' registers are. -/
namespace Go.Proofs.Ytphcckhegfgbgaa.Q
open Go.RowKit Go.Proofs.YtphcckhegfgbgaaW.PrintWords Go.Proofs.YtphcckhegfgbgaaW.PrintLast Go.Proofs.YtphcckhegfgbgaaW.PrintMore Go.Proofs.Ytphcckhegfgbgaa.L
attribute [local go_sem] Instr.field part asAgg lt_step max2_int min2_int max_two min_two max_three min_three max_four min_four lt_0_1 lt_0_2 lt_1_2 lt_0_3 lt_1_3 lt_2_3 lt_0_4 lt_1_4 lt_2_4 lt_3_4 lt_0_5 lt_1_5 lt_2_5 lt_3_5 lt_4_5 lt_0_6 lt_1_6 lt_2_6 lt_3_6 lt_4_6 lt_5_6 lt_0_7 lt_1_7 lt_2_7 lt_3_7 lt_4_7 lt_5_7 lt_6_7 lt_0_8 lt_1_8 lt_2_8 lt_3_8 lt_4_8 lt_5_8 lt_6_8 lt_7_8
set_option linter.unusedVariables false
set_option linter.unusedSimpArgs false
def at2Z (a b x : Int) : Int := if x = a then 0 else if x = b then 1 else -1
theorem enables_runs (w : World) : Calls Try.prog 43 #[] w fun e w' => e = .returned (.agg #[.int .u64 8192, .int .u64 8320]) ∧ Below w.heap.size w w' := by
  have HB := Aside0.mk (Below.refl w.heap.size w)
  go_enter Try.func43, Try.ntmps43
  go_wp2
  refine bodyPost_ret (v := .agg #[.int .u64 8192, .int .u64 8320]) (by simp [results, Try.results43, go_sem] <;> first | assumption | omega | (symm; assumption)) rfl ?_
  exact ⟨rfl, (by repeat (first | (with_reducible first | exact HB.out | exact Below.refl _ _ | apply below_alloc | apply pw_below_drewN | apply below_drew | refine below_set ?_ (by omega)) | exact HB.out))⟩
theorem thresholds_runs (w : World) : Calls Try.prog 45 #[] w fun e w' => e = .returned (.agg #[.int .u64 2097152, .int .u64 2101248]) ∧ Below w.heap.size w w' := by
  have HB := Aside0.mk (Below.refl w.heap.size w)
  go_enter Try.func45, Try.ntmps45
  go_wp2
  refine bodyPost_ret (v := .agg #[.int .u64 2097152, .int .u64 2101248]) (by simp [results, Try.results45, go_sem] <;> first | assumption | omega | (symm; assumption)) rfl ?_
  exact ⟨rfl, (by repeat (first | (with_reducible first | exact HB.out | exact Below.refl _ _ | apply below_alloc | apply pw_below_drewN | apply below_drew | refine below_set ?_ (by omega)) | exact HB.out))⟩
theorem claims_runs (w : World) : Calls Try.prog 46 #[] w fun e w' => e = .returned (.agg #[.int .u64 2097156, .int .u64 2101252]) ∧ Below w.heap.size w w' := by
  have HB := Aside0.mk (Below.refl w.heap.size w)
  go_enter Try.func46, Try.ntmps46
  go_wp2
  refine bodyPost_ret (v := .agg #[.int .u64 2097156, .int .u64 2101252]) (by simp [results, Try.results46, go_sem] <;> first | assumption | omega | (symm; assumption)) rfl ?_
  exact ⟨rfl, (by repeat (first | (with_reducible first | exact HB.out | exact Below.refl _ _ | apply below_alloc | apply pw_below_drewN | apply below_drew | refine below_set ?_ (by omega)) | exact HB.out))⟩
set_option maxHeartbeats 1600000 in
set_option maxRecDepth 100000 in
theorem index2_runs (g c : Nat) (a b x : Int) (ty : TypeId) (w : World) (h : w.heap[g]? = some (.cells #[.int .u64 a, .int .u64 b] ty (0, 0))) :
    Calls Try.prog 62 #[.slice (some ⟨g, 0, none⟩) 2 c, .int .u64 x] w fun e w' => e = .returned (.int .i64 (at2Z a b x)) ∧ w' = w := by
  obtain ⟨occ, ocf, ocl⟩ := cells_of h
  have h0 : w.cell? ⟨g, 0, none⟩ = some (.int .u64 a) := occ 0
  have h1 : w.cell? ⟨g, 1, none⟩ = some (.int .u64 b) := occ 1
  clear occ
  by_cases ha : x = a
  · have hab : (x == a) = true := beq_iff_eq.mpr ha
    rw [show at2Z a b x = 0 from if_pos ha]
    clear ha
    go_enter Try.func62, Try.ntmps62
    go_wp2
    refine wp_loop_rounds 1 ?_; rw [rounds_succ]
    go_wp2
    go_ret
    exact ⟨rfl, rfl⟩
  · have hab : (x == a) = false := beq_eq_false_iff_ne.mpr ha
    by_cases hb : x = b
    · have hbb : (x == b) = true := beq_iff_eq.mpr hb
      rw [show at2Z a b x = 1 from (if_neg ha).trans (if_pos hb)]
      clear ha hb
      go_enter Try.func62, Try.ntmps62
      go_wp2
      refine wp_loop_rounds 2 ?_; rw [rounds_succ]
      go_wp2
      rw [rounds_succ]
      go_wp2
      go_ret
      exact ⟨rfl, rfl⟩
    · have hbb : (x == b) = false := beq_eq_false_iff_ne.mpr hb
      rw [show at2Z a b x = -1 from (if_neg ha).trans (if_neg hb)]
      clear ha hb
      go_enter Try.func62, Try.ntmps62
      go_wp2
      refine wp_loop_rounds 3 ?_; rw [rounds_succ]
      go_wp2
      rw [rounds_succ]
      go_wp2
      rw [rounds_succ]
      go_wp2
      go_ret
      exact ⟨rfl, rfl⟩
set_option maxHeartbeats 1600000 in
set_option maxRecDepth 100000 in
theorem at_runs (a b x : Int) (w : World) : Calls Try.prog 44 #[.agg #[.int .u64 a, .int .u64 b], .int .u64 x] w fun e w' => e = .returned (.int .i64 (at2Z a b x)) ∧ Below w.heap.size w w' := by
  have HB := Aside0.mk (Below.refl w.heap.size w)
  have h := nb_1 w (.cells #[.int .u64 a, .int .u64 b] 96 (0, 0))
  have H := Aside0.mk h
  clear h
  go_enter Try.func44, Try.ntmps44
  go_wp2_with fail
  (go_at_call 62; (with_reducible refine (index2_runs _ _ a b x _ _ H.out).mono ?_); rintro e_ w_ ⟨rfl, rfl⟩)
  go_wp2
  go_ret
  exact ⟨rfl, (by repeat (first | (with_reducible first | exact HB.out | exact Below.refl _ _ | apply below_alloc | apply pw_below_drewN | apply below_drew | refine below_set ?_ (by omega)) | exact HB.out))⟩
end Go.Proofs.Ytphcckhegfgbgaa.Q
end
section
-- Ytphcckhegfgbgaa: written by a program for this claim (several laws of one seat at once)
namespace Go.Proofs.Ytphcckhegfgbgaa.Q
open Go.RowKit Go.Proofs.YtphcckhegfgbgaaW.PrintWords Go.Proofs.YtphcckhegfgbgaaW.PrintLast Go.Proofs.YtphcckhegfgbgaaW.PrintMore
attribute [local go_sem] max2_int min2_int max_two min_two max_three min_three max_four min_four   -- for this text's walks alone
set_option linter.unusedVariables false
set_option linter.unusedSimpArgs false

mutual
def plic_Best.j0 : Nat → Int → Bool → List Int → Int → Int → List Int → List Int → Option (Int)
  | 0, _, _, _, _, _, _, _ => none
  | k + 1, x1, x18, x116000, x116001, x116002, x116003, x116004 => if x18 = true then (some 0) else (plic_Best.l0 k x1 0 2 x116000 x116001 x116002 x116003 x116004)
def plic_Best.l0 : Nat → Int → Int → Int → List Int → Int → Int → List Int → List Int → Option (Int)
  | 0, _, _, _, _, _, _, _, _ => none
  | k + 1, x1, x5, x6, x116000, x116001, x116002, x116003, x116004 => if x6 ≥ 1 then (if 0 ≤ x1 then (if x1 < (x116003.length : Int) then (if 0 ≤ x6 then (if (Go.bits .and .i64 (shr .i64 (Go.bits .and .i64 x116001 (rd x116003 x1)) x6) 1) = 1 then (if x6 < (x116000.length : Int) then (if x1 < (x116004.length : Int) then (if (rd x116000 x6) > (rd x116004 x1) then (if 0 ≤ x5 then (if x5 < (x116000.length : Int) then (if (rd x116000 x6) ≥ (rd x116000 x5) then (plic_Best.l0 k x1 x6 (wrap64 (x6 - 1)) x116000 x116001 x116002 x116003 x116004) else (plic_Best.l0 k x1 x5 (wrap64 (x6 - 1)) x116000 x116001 x116002 x116003 x116004)) else (none)) else (none)) else (plic_Best.l0 k x1 x5 (wrap64 (x6 - 1)) x116000 x116001 x116002 x116003 x116004)) else (none)) else (none)) else (plic_Best.l0 k x1 x5 (wrap64 (x6 - 1)) x116000 x116001 x116002 x116003 x116004)) else (none)) else (none)) else (none)) else (some x5)
end
def plic_Best.f (k : Nat) (l0_0 : List Int) (a0_1 : Int) (a0_2 : Int) (l0_3 : List Int) (l0_4 : List Int) (a1 : Int) : Option (Int) := (plic_Check.f l0_0 a0_1 a0_2 l0_3 l0_4).bind fun t116 => (if t116 = true then (if a1 < 0 then (plic_Best.j0 k a1 true l0_0 a0_1 a0_2 l0_3 l0_4) else (plic_Best.j0 k a1 (decide (a1 ≥ 2)) l0_0 a0_1 a0_2 l0_3 l0_4)) else (plic_Best.j0 k a1 true l0_0 a0_1 a0_2 l0_3 l0_4))
theorem plic_Best.mono_l : ∀ k, (∀ y0 y1 y2 y3 y4 y5 y6, LeO (plic_Best.j0 k y0 y1 y2 y3 y4 y5 y6) (plic_Best.j0 (k + 1) y0 y1 y2 y3 y4 y5 y6)) ∧ (∀ y0 y1 y2 y3 y4 y5 y6 y7, LeO (plic_Best.l0 k y0 y1 y2 y3 y4 y5 y6 y7) (plic_Best.l0 (k + 1) y0 y1 y2 y3 y4 y5 y6 y7))
  | 0 => ⟨fun _ _ _ _ _ _ _ r h => by simp [plic_Best.j0] at h, fun _ _ _ _ _ _ _ _ r h => by simp [plic_Best.l0] at h⟩
  | k + 1 => by
    obtain ⟨ih0, ih1⟩ := plic_Best.mono_l k
    refine ⟨?_, ?_⟩
    · intro y0 y1 y2 y3 y4 y5 y6
      unfold plic_Best.j0
      repeat' first
      | (with_reducible exact ih0 _ _ _ _ _ _ _)
      | (with_reducible exact ih1 _ _ _ _ _ _ _ _)
      | (with_reducible exact LeO.refl _)
      | (with_reducible exact LeO.none _)
      | (with_reducible refine LeO.ite ?_ ?_)
      | (with_reducible refine LeO.bind ?_ (fun _ => ?_))
      | exact ih0 _ _ _ _ _ _ _
      | exact ih1 _ _ _ _ _ _ _ _
      | exact LeO.none _
      | refine LeO.ite ?_ ?_
      | refine LeO.bind ?_ (fun _ => ?_)
    · intro y0 y1 y2 y3 y4 y5 y6 y7
      unfold plic_Best.l0
      repeat' first
      | (with_reducible exact ih0 _ _ _ _ _ _ _)
      | (with_reducible exact ih1 _ _ _ _ _ _ _ _)
      | (with_reducible exact LeO.refl _)
      | (with_reducible exact LeO.none _)
      | (with_reducible refine LeO.ite ?_ ?_)
      | (with_reducible refine LeO.bind ?_ (fun _ => ?_))
      | exact ih0 _ _ _ _ _ _ _
      | exact ih1 _ _ _ _ _ _ _ _
      | exact LeO.none _
      | refine LeO.ite ?_ ?_
      | refine LeO.bind ?_ (fun _ => ?_)
theorem plic_Best.mono : ∀ a0 a1 a2 a3 a4 a5 k, LeO (plic_Best.f k a0 a1 a2 a3 a4 a5) (plic_Best.f (k + 1) a0 a1 a2 a3 a4 a5) := by
  intro a0 a1 a2 a3 a4 a5 k
  obtain ⟨ih0, ih1⟩ := plic_Best.mono_l k
  unfold plic_Best.f
  repeat' first
      | (with_reducible exact ih0 _ _ _ _ _ _ _)
      | (with_reducible exact ih1 _ _ _ _ _ _ _ _)
      | (with_reducible exact LeO.refl _)
      | (with_reducible exact LeO.none _)
      | (with_reducible refine LeO.ite ?_ ?_)
      | (with_reducible refine LeO.bind ?_ (fun _ => ?_))
      | exact ih0 _ _ _ _ _ _ _
      | exact ih1 _ _ _ _ _ _ _ _
      | exact LeO.none _
      | refine LeO.ite ?_ ?_
      | refine LeO.bind ?_ (fun _ => ?_)
set_option maxHeartbeats 8000000 in
set_option maxRecDepth 100000 in
theorem plic_Best.calls (k : Nat) (A0_0 : Option Addr) (c0_0 : Nat) (l0_0 : List Int) (a0_1 : Int) (a0_2 : Int) (A0_3 : Option Addr) (c0_3 : Nat) (l0_3 : List Int) (A0_4 : Option Addr) (c0_4 : Nat) (l0_4 : List Int) (a1 : Int) (r : Int) (w : World) (hr0_0 : Kd.C (Kd.int .i64) w A0_0 l0_0.length l0_0) (hc0_0 : l0_0.length ≤ c0_0) (hr0_3 : Kd.C (Kd.int .i64) w A0_3 l0_3.length l0_3) (hc0_3 : l0_3.length ≤ c0_3) (hr0_4 : Kd.C (Kd.int .i64) w A0_4 l0_4.length l0_4) (hc0_4 : l0_4.length ≤ c0_4) (h : plic_Best.f k l0_0 a0_1 a0_2 l0_3 l0_4 a1 = some r) :
    Calls Try.prog 35 #[.agg #[.slice A0_0 l0_0.length c0_0, .int .i64 a0_1, .int .i64 a0_2, .slice A0_3 l0_3.length c0_3, .slice A0_4 l0_4.length c0_4], .int .i64 a1] w fun e w' => e = .returned (.int .i64 r) ∧ Below w.heap.size w w' := by
  have hu30 := Try.underlying30
  have HR0_0 := Aside0.mk hr0_0
  have HC0_0 := Aside0.mk hc0_0
  clear hr0_0 hc0_0
  have HR0_3 := Aside0.mk hr0_3
  have HC0_3 := Aside0.mk hc0_3
  clear hr0_3 hc0_3
  have HR0_4 := Aside0.mk hr0_4
  have HC0_4 := Aside0.mk hc0_4
  clear hr0_4 hc0_4
  have HB := Aside0.mk (Below.refl w.heap.size w)
  have H : ((plic_Check.f l0_0 a0_1 a0_2 l0_3 l0_4).bind fun t116 => (if t116 = true then (if a1 < 0 then (plic_Best.j0 k a1 true l0_0 a0_1 a0_2 l0_3 l0_4) else (plic_Best.j0 k a1 (decide (a1 ≥ 2)) l0_0 a0_1 a0_2 l0_3 l0_4)) else (plic_Best.j0 k a1 true l0_0 a0_1 a0_2 l0_3 l0_4))) = some r := h
  clear h
  have HC3 := Aside0.mk H
  clear H
  go_enter Try.func35, Try.ntmps35
  go_upto_region 1 with (first | ((with_reducible refine gate_dst (N := 2) rfl ?_); refine box_event ?hg (N := 2) ?hd (cs := #[.slice A0_0 l0_0.length c0_0, .int .i64 a0_1, .int .i64 a0_2, .slice A0_3 l0_3.length c0_3, .slice A0_4 l0_4.length c0_4]) (t := 30) ?hr ?_; (case hd => rfl); (case hg => rfl); (case hr => first | (go_simp; done) | (go_simp; rfl)); intro gb115 hg w4 hbox hb; have n0_ := Aside0.mk (below_step (by repeat (first | (with_reducible first | exact HB.out | apply below_alloc | apply pw_below_drewN | apply below_drew1) | exact HB.out)) hb); have n1_ := Aside0.mk (hbox); have n2_ := Aside0.mk ((by rw [hg]; exact (below_size (by repeat (first | (with_reducible first | exact HB.out | apply below_alloc | apply pw_below_drewN | apply below_drew1) | exact HB.out))) : w.heap.size ≤ gb115)); have n3_ := Aside0.mk ((by rw [hg]; exact (below_size (by repeat (first | (with_reducible first | exact HB.out | apply below_alloc | apply pw_below_drewN | apply below_drew1) | exact HB.out))) : w.heap.size ≤ gb115)); clear HB; have HB := n0_; have BK115 := n1_; have GW115 := n2_; have GE115 := n3_; clear n0_ n1_ n2_ n3_; clear hb hbox hg))
  repeat (go_quiet (first | ((with_reducible refine gate_dst (N := 2) rfl ?_); refine box_event ?hg (N := 2) ?hd (cs := #[.slice A0_0 l0_0.length c0_0, .int .i64 a0_1, .int .i64 a0_2, .slice A0_3 l0_3.length c0_3, .slice A0_4 l0_4.length c0_4]) (t := 30) ?hr ?_; (case hd => rfl); (case hg => rfl); (case hr => first | (go_simp; done) | (go_simp; rfl)); intro gb115 hg w4 hbox hb; have n0_ := Aside0.mk (below_step (by repeat (first | (with_reducible first | exact HB.out | apply below_alloc | apply pw_below_drewN | apply below_drew1) | exact HB.out)) hb); have n1_ := Aside0.mk (hbox); have n2_ := Aside0.mk ((by rw [hg]; exact (below_size (by repeat (first | (with_reducible first | exact HB.out | apply below_alloc | apply pw_below_drewN | apply below_drew1) | exact HB.out))) : w.heap.size ≤ gb115)); have n3_ := Aside0.mk ((by rw [hg]; exact (below_size (by repeat (first | (with_reducible first | exact HB.out | apply below_alloc | apply pw_below_drewN | apply below_drew1) | exact HB.out))) : w.heap.size ≤ gb115)); clear HB; have HB := n0_; have BK115 := n1_; have GW115 := n2_; have GE115 := n3_; clear n0_ n1_ n2_ n3_; clear hb hbox hg)); go_upto_region 1 with (first | ((with_reducible refine gate_dst (N := 2) rfl ?_); refine box_event ?hg (N := 2) ?hd (cs := #[.slice A0_0 l0_0.length c0_0, .int .i64 a0_1, .int .i64 a0_2, .slice A0_3 l0_3.length c0_3, .slice A0_4 l0_4.length c0_4]) (t := 30) ?hr ?_; (case hd => rfl); (case hg => rfl); (case hr => first | (go_simp; done) | (go_simp; rfl)); intro gb115 hg w4 hbox hb; have n0_ := Aside0.mk (below_step (by repeat (first | (with_reducible first | exact HB.out | apply below_alloc | apply pw_below_drewN | apply below_drew1) | exact HB.out)) hb); have n1_ := Aside0.mk (hbox); have n2_ := Aside0.mk ((by rw [hg]; exact (below_size (by repeat (first | (with_reducible first | exact HB.out | apply below_alloc | apply pw_below_drewN | apply below_drew1) | exact HB.out))) : w.heap.size ≤ gb115)); have n3_ := Aside0.mk ((by rw [hg]; exact (below_size (by repeat (first | (with_reducible first | exact HB.out | apply below_alloc | apply pw_below_drewN | apply below_drew1) | exact HB.out))) : w.heap.size ≤ gb115)); clear HB; have HB := n0_; have BK115 := n1_; have GW115 := n2_; have GE115 := n3_; clear n0_ n1_ n2_ n3_; clear hb hbox hg)))
  (try simp only [Act.put, List.setIfInBounds_toArray, List.set_cons_zero, List.set_cons_succ])
  go_cut [18] (fun v18 wc => ∃ (kq : Nat) (x18_2 : Bool), v18 = .bool x18_2 ∧ Aside0 (plic_Best.j0 kq a1 x18_2 l0_0 a0_1 a0_2 l0_3 l0_4 = some r) ∧ Aside0 (kq ≤ k) ∧ Aside0 (wc.heap[gb115]? = some (.cells #[(.slice A0_0 l0_0.length c0_0), .int .i64 a0_1, .int .i64 a0_2, (.slice A0_3 l0_3.length c0_3), (.slice A0_4 l0_4.length c0_4)] 30 (0, 0))) ∧ Aside0 (Below w.heap.size w wc))
  case first =>
    have H := HC3.out
    clear HC3
    replace H := Option.bind_eq_some_iff.mp H
    obtain ⟨t116, A50, H⟩ := H
    replace H : (if t116 = true then (if a1 < 0 then (plic_Best.j0 k a1 true l0_0 a0_1 a0_2 l0_3 l0_4) else (plic_Best.j0 k a1 (decide (a1 ≥ 2)) l0_0 a0_1 a0_2 l0_3 l0_4)) else (plic_Best.j0 k a1 true l0_0 a0_1 a0_2 l0_3 l0_4)) = some r := H
    have A5 := Aside0.mk A50
    clear A50
    by_cases c6 : t116 = true
    · subst c6
      have H1 : (if a1 < 0 then (plic_Best.j0 k a1 true l0_0 a0_1 a0_2 l0_3 l0_4) else (plic_Best.j0 k a1 (decide (a1 ≥ 2)) l0_0 a0_1 a0_2 l0_3 l0_4)) = some r := by rw [if_pos rfl] at H; exact H
      clear H
      have H := H1
      clear H1
      by_cases c7 : a1 < 0
      · rw [if_pos c7] at H
        have c7b0 : decide (a1 < 0) = true := decide_eq_true c7
        clear c7
        (first | rw [c7b0] | (simp only [i64_w, i32_w]; rw [c7b0]) | skip)
        have H' := Aside0.mk H
        clear H
        have hcz8_0 : w4.cell? ⟨gb115, 0, none⟩ = some (.slice A0_0 l0_0.length c0_0) := (blk_cell BK115.out 0).trans rfl
        have hcz8_1 : w4.cell? ⟨gb115, 1, none⟩ = some (.int .i64 a0_1) := (blk_cell BK115.out 1).trans rfl
        have hcz8_2 : w4.cell? ⟨gb115, 2, none⟩ = some (.int .i64 a0_2) := (blk_cell BK115.out 2).trans rfl
        have hcz8_3 : w4.cell? ⟨gb115, 3, none⟩ = some (.slice A0_3 l0_3.length c0_3) := (blk_cell BK115.out 3).trans rfl
        have hcz8_4 : w4.cell? ⟨gb115, 4, none⟩ = some (.slice A0_4 l0_4.length c0_4) := (blk_cell BK115.out 4).trans rfl
        have hfz8_0 := blk_frozen BK115.out 0
        have hfz8_1 := blk_frozen BK115.out 1
        have hfz8_2 := blk_frozen BK115.out 2
        have hfz8_3 := blk_frozen BK115.out 3
        have hfz8_4 := blk_frozen BK115.out 4
        go_wp2_with (first | (go_at_call 42; (with_reducible refine (plic_Check.calls _ _ l0_0 a0_1 a0_2 _ _ l0_3 _ _ l0_4 true _ ?side1 ?side2 ?side3 ?side4 ?side5 ?side6 A5.out).mono ?_); (case side1 => repeat (first | exact (Kd.C_below HR0_0.out HB.out) | (with_reducible refine Kd.C_alloc ?_ _) | (with_reducible refine Kd.C_drewN ?_ _) | (with_reducible refine Kd.C_drew ?_))); (case side2 => exact HC0_0.out); (case side3 => repeat (first | exact (Kd.C_below HR0_3.out HB.out) | (with_reducible refine Kd.C_alloc ?_ _) | (with_reducible refine Kd.C_drewN ?_ _) | (with_reducible refine Kd.C_drew ?_))); (case side4 => exact HC0_3.out); (case side5 => repeat (first | exact (Kd.C_below HR0_4.out HB.out) | (with_reducible refine Kd.C_alloc ?_ _) | (with_reducible refine Kd.C_drewN ?_ _) | (with_reducible refine Kd.C_drew ?_))); (case side6 => exact HC0_4.out); rintro e w9 ⟨rfl, hb⟩; have n0_ := Aside0.mk (blk_below (g := gb115) (o := .cells #[.slice A0_0 l0_0.length c0_0, .int .i64 a0_1, .int .i64 a0_2, .slice A0_3 l0_3.length c0_3, .slice A0_4 l0_4.length c0_4] 30 (0, 0)) (by (with_reducible repeat (first | refine blk_drewN ?_ _ | refine blk_drew ?_ | refine blk_alloc ?_ _)); exact BK115.out) hb); have n1_ := Aside0.mk (below_step (by repeat (first | (with_reducible first | exact HB.out | apply below_alloc | apply pw_below_drewN | apply below_drew1 | refine below_set ?_ GE115.out) | exact HB.out)) hb); clear BK115; clear HB; have BK115 := n0_; have HB := n1_; clear n0_ n1_; (try clear hb); (try clear hb2); (try clear hk); (try clear hi)))
        repeat (go_quiet (first | (go_at_call 42; (with_reducible refine (plic_Check.calls _ _ l0_0 a0_1 a0_2 _ _ l0_3 _ _ l0_4 true _ ?side1 ?side2 ?side3 ?side4 ?side5 ?side6 A5.out).mono ?_); (case side1 => repeat (first | exact (Kd.C_below HR0_0.out HB.out) | (with_reducible refine Kd.C_alloc ?_ _) | (with_reducible refine Kd.C_drewN ?_ _) | (with_reducible refine Kd.C_drew ?_))); (case side2 => exact HC0_0.out); (case side3 => repeat (first | exact (Kd.C_below HR0_3.out HB.out) | (with_reducible refine Kd.C_alloc ?_ _) | (with_reducible refine Kd.C_drewN ?_ _) | (with_reducible refine Kd.C_drew ?_))); (case side4 => exact HC0_3.out); (case side5 => repeat (first | exact (Kd.C_below HR0_4.out HB.out) | (with_reducible refine Kd.C_alloc ?_ _) | (with_reducible refine Kd.C_drewN ?_ _) | (with_reducible refine Kd.C_drew ?_))); (case side6 => exact HC0_4.out); rintro e w9 ⟨rfl, hb⟩; have n0_ := Aside0.mk (blk_below (g := gb115) (o := .cells #[.slice A0_0 l0_0.length c0_0, .int .i64 a0_1, .int .i64 a0_2, .slice A0_3 l0_3.length c0_3, .slice A0_4 l0_4.length c0_4] 30 (0, 0)) (by (with_reducible repeat (first | refine blk_drewN ?_ _ | refine blk_drew ?_ | refine blk_alloc ?_ _)); exact BK115.out) hb); have n1_ := Aside0.mk (below_step (by repeat (first | (with_reducible first | exact HB.out | apply below_alloc | apply pw_below_drewN | apply below_drew1 | refine below_set ?_ GE115.out) | exact HB.out)) hb); clear BK115; clear HB; have BK115 := n0_; have HB := n1_; clear n0_ n1_; (try clear hb); (try clear hb2); (try clear hk); (try clear hi))); try go_wp2_with (first | (go_at_call 42; (with_reducible refine (plic_Check.calls _ _ l0_0 a0_1 a0_2 _ _ l0_3 _ _ l0_4 true _ ?side1 ?side2 ?side3 ?side4 ?side5 ?side6 A5.out).mono ?_); (case side1 => repeat (first | exact (Kd.C_below HR0_0.out HB.out) | (with_reducible refine Kd.C_alloc ?_ _) | (with_reducible refine Kd.C_drewN ?_ _) | (with_reducible refine Kd.C_drew ?_))); (case side2 => exact HC0_0.out); (case side3 => repeat (first | exact (Kd.C_below HR0_3.out HB.out) | (with_reducible refine Kd.C_alloc ?_ _) | (with_reducible refine Kd.C_drewN ?_ _) | (with_reducible refine Kd.C_drew ?_))); (case side4 => exact HC0_3.out); (case side5 => repeat (first | exact (Kd.C_below HR0_4.out HB.out) | (with_reducible refine Kd.C_alloc ?_ _) | (with_reducible refine Kd.C_drewN ?_ _) | (with_reducible refine Kd.C_drew ?_))); (case side6 => exact HC0_4.out); rintro e w9 ⟨rfl, hb⟩; have n0_ := Aside0.mk (blk_below (g := gb115) (o := .cells #[.slice A0_0 l0_0.length c0_0, .int .i64 a0_1, .int .i64 a0_2, .slice A0_3 l0_3.length c0_3, .slice A0_4 l0_4.length c0_4] 30 (0, 0)) (by (with_reducible repeat (first | refine blk_drewN ?_ _ | refine blk_drew ?_ | refine blk_alloc ?_ _)); exact BK115.out) hb); have n1_ := Aside0.mk (below_step (by repeat (first | (with_reducible first | exact HB.out | apply below_alloc | apply pw_below_drewN | apply below_drew1 | refine below_set ?_ GE115.out) | exact HB.out)) hb); clear BK115; clear HB; have BK115 := n0_; have HB := n1_; clear n0_ n1_; (try clear hb); (try clear hb2); (try clear hk); (try clear hi))))
        go_meet
        case rel => exact ⟨_, (true), (by first | rfl | (simp; done) | (simp [*]; done)), H', ⟨by first | omega | exact Nat.le_refl _⟩, ⟨by (with_reducible repeat (first | refine blk_drewN ?_ _ | refine blk_drew ?_ | refine blk_alloc ?_ _)); exact BK115.out⟩, ⟨by repeat (first | (with_reducible first | exact HB.out | apply below_alloc | apply pw_below_drewN | apply below_drew1 | refine below_set ?_ GE115.out) | exact HB.out)⟩⟩
      · rw [if_neg c7] at H
        have c7b0 : decide (a1 < 0) = false := decide_eq_false c7
        clear c7
        (first | rw [c7b0] | (simp only [i64_w, i32_w]; rw [c7b0]) | skip)
        have H' := Aside0.mk H
        clear H
        have hcz10_0 : w4.cell? ⟨gb115, 0, none⟩ = some (.slice A0_0 l0_0.length c0_0) := (blk_cell BK115.out 0).trans rfl
        have hcz10_1 : w4.cell? ⟨gb115, 1, none⟩ = some (.int .i64 a0_1) := (blk_cell BK115.out 1).trans rfl
        have hcz10_2 : w4.cell? ⟨gb115, 2, none⟩ = some (.int .i64 a0_2) := (blk_cell BK115.out 2).trans rfl
        have hcz10_3 : w4.cell? ⟨gb115, 3, none⟩ = some (.slice A0_3 l0_3.length c0_3) := (blk_cell BK115.out 3).trans rfl
        have hcz10_4 : w4.cell? ⟨gb115, 4, none⟩ = some (.slice A0_4 l0_4.length c0_4) := (blk_cell BK115.out 4).trans rfl
        have hfz10_0 := blk_frozen BK115.out 0
        have hfz10_1 := blk_frozen BK115.out 1
        have hfz10_2 := blk_frozen BK115.out 2
        have hfz10_3 := blk_frozen BK115.out 3
        have hfz10_4 := blk_frozen BK115.out 4
        go_wp2_with (first | (go_at_call 42; (with_reducible refine (plic_Check.calls _ _ l0_0 a0_1 a0_2 _ _ l0_3 _ _ l0_4 true _ ?side1 ?side2 ?side3 ?side4 ?side5 ?side6 A5.out).mono ?_); (case side1 => repeat (first | exact (Kd.C_below HR0_0.out HB.out) | (with_reducible refine Kd.C_alloc ?_ _) | (with_reducible refine Kd.C_drewN ?_ _) | (with_reducible refine Kd.C_drew ?_))); (case side2 => exact HC0_0.out); (case side3 => repeat (first | exact (Kd.C_below HR0_3.out HB.out) | (with_reducible refine Kd.C_alloc ?_ _) | (with_reducible refine Kd.C_drewN ?_ _) | (with_reducible refine Kd.C_drew ?_))); (case side4 => exact HC0_3.out); (case side5 => repeat (first | exact (Kd.C_below HR0_4.out HB.out) | (with_reducible refine Kd.C_alloc ?_ _) | (with_reducible refine Kd.C_drewN ?_ _) | (with_reducible refine Kd.C_drew ?_))); (case side6 => exact HC0_4.out); rintro e w11 ⟨rfl, hb⟩; have n0_ := Aside0.mk (blk_below (g := gb115) (o := .cells #[.slice A0_0 l0_0.length c0_0, .int .i64 a0_1, .int .i64 a0_2, .slice A0_3 l0_3.length c0_3, .slice A0_4 l0_4.length c0_4] 30 (0, 0)) (by (with_reducible repeat (first | refine blk_drewN ?_ _ | refine blk_drew ?_ | refine blk_alloc ?_ _)); exact BK115.out) hb); have n1_ := Aside0.mk (below_step (by repeat (first | (with_reducible first | exact HB.out | apply below_alloc | apply pw_below_drewN | apply below_drew1 | refine below_set ?_ GE115.out) | exact HB.out)) hb); clear BK115; clear HB; have BK115 := n0_; have HB := n1_; clear n0_ n1_; (try clear hb); (try clear hb2); (try clear hk); (try clear hi)))
        repeat (go_quiet (first | (go_at_call 42; (with_reducible refine (plic_Check.calls _ _ l0_0 a0_1 a0_2 _ _ l0_3 _ _ l0_4 true _ ?side1 ?side2 ?side3 ?side4 ?side5 ?side6 A5.out).mono ?_); (case side1 => repeat (first | exact (Kd.C_below HR0_0.out HB.out) | (with_reducible refine Kd.C_alloc ?_ _) | (with_reducible refine Kd.C_drewN ?_ _) | (with_reducible refine Kd.C_drew ?_))); (case side2 => exact HC0_0.out); (case side3 => repeat (first | exact (Kd.C_below HR0_3.out HB.out) | (with_reducible refine Kd.C_alloc ?_ _) | (with_reducible refine Kd.C_drewN ?_ _) | (with_reducible refine Kd.C_drew ?_))); (case side4 => exact HC0_3.out); (case side5 => repeat (first | exact (Kd.C_below HR0_4.out HB.out) | (with_reducible refine Kd.C_alloc ?_ _) | (with_reducible refine Kd.C_drewN ?_ _) | (with_reducible refine Kd.C_drew ?_))); (case side6 => exact HC0_4.out); rintro e w11 ⟨rfl, hb⟩; have n0_ := Aside0.mk (blk_below (g := gb115) (o := .cells #[.slice A0_0 l0_0.length c0_0, .int .i64 a0_1, .int .i64 a0_2, .slice A0_3 l0_3.length c0_3, .slice A0_4 l0_4.length c0_4] 30 (0, 0)) (by (with_reducible repeat (first | refine blk_drewN ?_ _ | refine blk_drew ?_ | refine blk_alloc ?_ _)); exact BK115.out) hb); have n1_ := Aside0.mk (below_step (by repeat (first | (with_reducible first | exact HB.out | apply below_alloc | apply pw_below_drewN | apply below_drew1 | refine below_set ?_ GE115.out) | exact HB.out)) hb); clear BK115; clear HB; have BK115 := n0_; have HB := n1_; clear n0_ n1_; (try clear hb); (try clear hb2); (try clear hk); (try clear hi))); try go_wp2_with (first | (go_at_call 42; (with_reducible refine (plic_Check.calls _ _ l0_0 a0_1 a0_2 _ _ l0_3 _ _ l0_4 true _ ?side1 ?side2 ?side3 ?side4 ?side5 ?side6 A5.out).mono ?_); (case side1 => repeat (first | exact (Kd.C_below HR0_0.out HB.out) | (with_reducible refine Kd.C_alloc ?_ _) | (with_reducible refine Kd.C_drewN ?_ _) | (with_reducible refine Kd.C_drew ?_))); (case side2 => exact HC0_0.out); (case side3 => repeat (first | exact (Kd.C_below HR0_3.out HB.out) | (with_reducible refine Kd.C_alloc ?_ _) | (with_reducible refine Kd.C_drewN ?_ _) | (with_reducible refine Kd.C_drew ?_))); (case side4 => exact HC0_3.out); (case side5 => repeat (first | exact (Kd.C_below HR0_4.out HB.out) | (with_reducible refine Kd.C_alloc ?_ _) | (with_reducible refine Kd.C_drewN ?_ _) | (with_reducible refine Kd.C_drew ?_))); (case side6 => exact HC0_4.out); rintro e w11 ⟨rfl, hb⟩; have n0_ := Aside0.mk (blk_below (g := gb115) (o := .cells #[.slice A0_0 l0_0.length c0_0, .int .i64 a0_1, .int .i64 a0_2, .slice A0_3 l0_3.length c0_3, .slice A0_4 l0_4.length c0_4] 30 (0, 0)) (by (with_reducible repeat (first | refine blk_drewN ?_ _ | refine blk_drew ?_ | refine blk_alloc ?_ _)); exact BK115.out) hb); have n1_ := Aside0.mk (below_step (by repeat (first | (with_reducible first | exact HB.out | apply below_alloc | apply pw_below_drewN | apply below_drew1 | refine below_set ?_ GE115.out) | exact HB.out)) hb); clear BK115; clear HB; have BK115 := n0_; have HB := n1_; clear n0_ n1_; (try clear hb); (try clear hb2); (try clear hk); (try clear hi))))
        go_meet
        case rel => exact ⟨_, (decide (a1 ≥ 2)), (by first | rfl | (simp; done) | (simp [*]; done)), H', ⟨by first | omega | exact Nat.le_refl _⟩, ⟨by (with_reducible repeat (first | refine blk_drewN ?_ _ | refine blk_drew ?_ | refine blk_alloc ?_ _)); exact BK115.out⟩, ⟨by repeat (first | (with_reducible first | exact HB.out | apply below_alloc | apply pw_below_drewN | apply below_drew1 | refine below_set ?_ GE115.out) | exact HB.out)⟩⟩
    · replace c6 := Bool.eq_false_iff.mpr c6
      subst c6
      have H1 : (plic_Best.j0 k a1 true l0_0 a0_1 a0_2 l0_3 l0_4) = some r := by rw [if_neg (show ¬ (false = true) by decide)] at H; exact H
      clear H
      have H := H1
      clear H1
      have H' := Aside0.mk H
      clear H
      have hcz12_0 : w4.cell? ⟨gb115, 0, none⟩ = some (.slice A0_0 l0_0.length c0_0) := (blk_cell BK115.out 0).trans rfl
      have hcz12_1 : w4.cell? ⟨gb115, 1, none⟩ = some (.int .i64 a0_1) := (blk_cell BK115.out 1).trans rfl
      have hcz12_2 : w4.cell? ⟨gb115, 2, none⟩ = some (.int .i64 a0_2) := (blk_cell BK115.out 2).trans rfl
      have hcz12_3 : w4.cell? ⟨gb115, 3, none⟩ = some (.slice A0_3 l0_3.length c0_3) := (blk_cell BK115.out 3).trans rfl
      have hcz12_4 : w4.cell? ⟨gb115, 4, none⟩ = some (.slice A0_4 l0_4.length c0_4) := (blk_cell BK115.out 4).trans rfl
      have hfz12_0 := blk_frozen BK115.out 0
      have hfz12_1 := blk_frozen BK115.out 1
      have hfz12_2 := blk_frozen BK115.out 2
      have hfz12_3 := blk_frozen BK115.out 3
      have hfz12_4 := blk_frozen BK115.out 4
      go_wp2_with (first | (go_at_call 42; (with_reducible refine (plic_Check.calls _ _ l0_0 a0_1 a0_2 _ _ l0_3 _ _ l0_4 false _ ?side1 ?side2 ?side3 ?side4 ?side5 ?side6 A5.out).mono ?_); (case side1 => repeat (first | exact (Kd.C_below HR0_0.out HB.out) | (with_reducible refine Kd.C_alloc ?_ _) | (with_reducible refine Kd.C_drewN ?_ _) | (with_reducible refine Kd.C_drew ?_))); (case side2 => exact HC0_0.out); (case side3 => repeat (first | exact (Kd.C_below HR0_3.out HB.out) | (with_reducible refine Kd.C_alloc ?_ _) | (with_reducible refine Kd.C_drewN ?_ _) | (with_reducible refine Kd.C_drew ?_))); (case side4 => exact HC0_3.out); (case side5 => repeat (first | exact (Kd.C_below HR0_4.out HB.out) | (with_reducible refine Kd.C_alloc ?_ _) | (with_reducible refine Kd.C_drewN ?_ _) | (with_reducible refine Kd.C_drew ?_))); (case side6 => exact HC0_4.out); rintro e w13 ⟨rfl, hb⟩; have n0_ := Aside0.mk (blk_below (g := gb115) (o := .cells #[.slice A0_0 l0_0.length c0_0, .int .i64 a0_1, .int .i64 a0_2, .slice A0_3 l0_3.length c0_3, .slice A0_4 l0_4.length c0_4] 30 (0, 0)) (by (with_reducible repeat (first | refine blk_drewN ?_ _ | refine blk_drew ?_ | refine blk_alloc ?_ _)); exact BK115.out) hb); have n1_ := Aside0.mk (below_step (by repeat (first | (with_reducible first | exact HB.out | apply below_alloc | apply pw_below_drewN | apply below_drew1 | refine below_set ?_ GE115.out) | exact HB.out)) hb); clear BK115; clear HB; have BK115 := n0_; have HB := n1_; clear n0_ n1_; (try clear hb); (try clear hb2); (try clear hk); (try clear hi)))
      repeat (go_quiet (first | (go_at_call 42; (with_reducible refine (plic_Check.calls _ _ l0_0 a0_1 a0_2 _ _ l0_3 _ _ l0_4 false _ ?side1 ?side2 ?side3 ?side4 ?side5 ?side6 A5.out).mono ?_); (case side1 => repeat (first | exact (Kd.C_below HR0_0.out HB.out) | (with_reducible refine Kd.C_alloc ?_ _) | (with_reducible refine Kd.C_drewN ?_ _) | (with_reducible refine Kd.C_drew ?_))); (case side2 => exact HC0_0.out); (case side3 => repeat (first | exact (Kd.C_below HR0_3.out HB.out) | (with_reducible refine Kd.C_alloc ?_ _) | (with_reducible refine Kd.C_drewN ?_ _) | (with_reducible refine Kd.C_drew ?_))); (case side4 => exact HC0_3.out); (case side5 => repeat (first | exact (Kd.C_below HR0_4.out HB.out) | (with_reducible refine Kd.C_alloc ?_ _) | (with_reducible refine Kd.C_drewN ?_ _) | (with_reducible refine Kd.C_drew ?_))); (case side6 => exact HC0_4.out); rintro e w13 ⟨rfl, hb⟩; have n0_ := Aside0.mk (blk_below (g := gb115) (o := .cells #[.slice A0_0 l0_0.length c0_0, .int .i64 a0_1, .int .i64 a0_2, .slice A0_3 l0_3.length c0_3, .slice A0_4 l0_4.length c0_4] 30 (0, 0)) (by (with_reducible repeat (first | refine blk_drewN ?_ _ | refine blk_drew ?_ | refine blk_alloc ?_ _)); exact BK115.out) hb); have n1_ := Aside0.mk (below_step (by repeat (first | (with_reducible first | exact HB.out | apply below_alloc | apply pw_below_drewN | apply below_drew1 | refine below_set ?_ GE115.out) | exact HB.out)) hb); clear BK115; clear HB; have BK115 := n0_; have HB := n1_; clear n0_ n1_; (try clear hb); (try clear hb2); (try clear hk); (try clear hi))); try go_wp2_with (first | (go_at_call 42; (with_reducible refine (plic_Check.calls _ _ l0_0 a0_1 a0_2 _ _ l0_3 _ _ l0_4 false _ ?side1 ?side2 ?side3 ?side4 ?side5 ?side6 A5.out).mono ?_); (case side1 => repeat (first | exact (Kd.C_below HR0_0.out HB.out) | (with_reducible refine Kd.C_alloc ?_ _) | (with_reducible refine Kd.C_drewN ?_ _) | (with_reducible refine Kd.C_drew ?_))); (case side2 => exact HC0_0.out); (case side3 => repeat (first | exact (Kd.C_below HR0_3.out HB.out) | (with_reducible refine Kd.C_alloc ?_ _) | (with_reducible refine Kd.C_drewN ?_ _) | (with_reducible refine Kd.C_drew ?_))); (case side4 => exact HC0_3.out); (case side5 => repeat (first | exact (Kd.C_below HR0_4.out HB.out) | (with_reducible refine Kd.C_alloc ?_ _) | (with_reducible refine Kd.C_drewN ?_ _) | (with_reducible refine Kd.C_drew ?_))); (case side6 => exact HC0_4.out); rintro e w13 ⟨rfl, hb⟩; have n0_ := Aside0.mk (blk_below (g := gb115) (o := .cells #[.slice A0_0 l0_0.length c0_0, .int .i64 a0_1, .int .i64 a0_2, .slice A0_3 l0_3.length c0_3, .slice A0_4 l0_4.length c0_4] 30 (0, 0)) (by (with_reducible repeat (first | refine blk_drewN ?_ _ | refine blk_drew ?_ | refine blk_alloc ?_ _)); exact BK115.out) hb); have n1_ := Aside0.mk (below_step (by repeat (first | (with_reducible first | exact HB.out | apply below_alloc | apply pw_below_drewN | apply below_drew1 | refine below_set ?_ GE115.out) | exact HB.out)) hb); clear BK115; clear HB; have BK115 := n0_; have HB := n1_; clear n0_ n1_; (try clear hb); (try clear hb2); (try clear hk); (try clear hi))))
      go_meet
      case rel => exact ⟨_, (true), (by first | rfl | (simp; done) | (simp [*]; done)), H', ⟨by first | omega | exact Nat.le_refl _⟩, ⟨by (with_reducible repeat (first | refine blk_drewN ?_ _ | refine blk_drew ?_ | refine blk_alloc ?_ _)); exact BK115.out⟩, ⟨by repeat (first | (with_reducible first | exact HB.out | apply below_alloc | apply pw_below_drewN | apply below_drew1 | refine below_set ?_ GE115.out) | exact HB.out)⟩⟩
  case rest =>
    clear HC3
    try clear p2
    try clear c3
    try clear c6
    try clear c7
    try clear c7b0
    try clear hcz10_0
    try clear hcz10_1
    try clear hcz10_2
    try clear hcz10_3
    try clear hcz10_4
    try clear hcz12_0
    try clear hcz12_1
    try clear hcz12_2
    try clear hcz12_3
    try clear hcz12_4
    try clear hcz8_0
    try clear hcz8_1
    try clear hcz8_2
    try clear hcz8_3
    try clear hcz8_4
    try clear hfz10_0
    try clear hfz10_1
    try clear hfz10_2
    try clear hfz10_3
    try clear hfz10_4
    try clear hfz12_0
    try clear hfz12_1
    try clear hfz12_2
    try clear hfz12_3
    try clear hfz12_4
    try clear hfz8_0
    try clear hfz8_1
    try clear hfz8_2
    try clear hfz8_3
    try clear hfz8_4
    obtain ⟨kq, x18_2, rfl, HA, HJ2, BK115, HB⟩ := hcut
    cases kq with
    | zero => exact absurd HA.out (by simp [plic_Best.j0])
    | succ kj2 =>
      have H := HA.out
      clear HA
      simp only [plic_Best.j0] at H
      by_cases c14 : x18_2 = true
      · subst c14
        have H1 : (some 0) = some r := by rw [if_pos rfl] at H; exact H
        clear H
        have H := H1
        clear H1
        obtain rfl := Option.some.inj H
        go_wp2
        repeat (go_quiet (fail); try go_wp2)
        go_ret
        exact ⟨by first | rfl | (simp [errW_none, errW_some] <;> rfl) | (simp [*, errW_none, errW_some] <;> rfl), by repeat (first | (with_reducible first | exact HB.out | apply below_alloc | apply pw_below_drewN | apply below_drew1 | refine below_set ?_ GE115.out) | exact HB.out)⟩
      · replace c14 := Bool.eq_false_iff.mpr c14
        subst c14
        have H1 : (plic_Best.l0 kj2 a1 0 2 l0_0 a0_1 a0_2 l0_3 l0_4) = some r := by rw [if_neg (show ¬ (false = true) by decide)] at H; exact H
        clear H
        have H := H1
        clear H1
        have H' := Aside0.mk H
        clear H
        go_wp2
        repeat (go_quiet (fail); try go_wp2)
        go_loopg [5, 6] kj2 (fun kq v5 v6 w' => ∃ (x5_2 : Int) (x6_2 : Int), v5 = .int .i64 x5_2 ∧ v6 = .int .i64 x6_2 ∧ Aside0 (plic_Best.l0 kq a1 x5_2 x6_2 l0_0 a0_1 a0_2 l0_3 l0_4 = some r) ∧ Aside0 (kq ≤ kj2) ∧ Aside0 (w'.heap[gb115]? = some (.cells #[(.slice A0_0 l0_0.length c0_0), .int .i64 a0_1, .int .i64 a0_2, (.slice A0_3 l0_3.length c0_3), (.slice A0_4 l0_4.length c0_4)] 30 (0, 0))) ∧ Aside0 (Below w.heap.size w w'))
        case atStart => exact ⟨(0), (2), (by first | rfl | (simp; done) | (simp [*]; done)), (by first | rfl | (simp; done) | (simp [*]; done)), H', ⟨Nat.le_refl _⟩, ⟨by (with_reducible repeat (first | refine blk_drewN ?_ _ | refine blk_drew ?_ | refine blk_alloc ?_ _)); exact BK115.out⟩, ⟨by repeat (first | (with_reducible first | exact HB.out | apply below_alloc | apply pw_below_drewN | apply below_drew1 | refine below_set ?_ GE115.out) | exact HB.out)⟩⟩
        case round =>
          clear H'
          try clear c1
          try clear p2
          try clear c3
          try clear c6
          try clear c7
          try clear c7b0
          try clear c14
          try clear hcz10_0
          try clear hcz10_1
          try clear hcz10_2
          try clear hcz10_3
          try clear hcz10_4
          try clear hcz12_0
          try clear hcz12_1
          try clear hcz12_2
          try clear hcz12_3
          try clear hcz12_4
          try clear hcz8_0
          try clear hcz8_1
          try clear hcz8_2
          try clear hcz8_3
          try clear hcz8_4
          try clear hfz10_0
          try clear hfz10_1
          try clear hfz10_2
          try clear hfz10_3
          try clear hfz10_4
          try clear hfz12_0
          try clear hfz12_1
          try clear hfz12_2
          try clear hfz12_3
          try clear hfz12_4
          try clear hfz8_0
          try clear hfz8_1
          try clear hfz8_2
          try clear hfz8_3
          try clear hfz8_4
          try clear p2
          obtain ⟨x5_2, x6_2, rfl, rfl, HA, HK2, BK115, HB⟩ := hrel
          cases gk with
          | zero => exact absurd HA.out (by simp [plic_Best.l0])
          | succ k2 =>
            have H := HA.out
            clear HA
            simp only [plic_Best.l0] at H
            by_cases c15 : x6_2 ≥ 1
            · rw [if_pos c15] at H
              have c15b0 : decide (1 ≤ x6_2) = true := decide_eq_true c15
              clear c15
              by_cases c16 : 0 ≤ a1
              · rw [if_pos c16] at H
                have c16b0 : decide (0 ≤ a1) = true := decide_eq_true c16
                clear c16
                by_cases c17 : a1 < (l0_3.length : Int)
                · rw [if_pos c17] at H
                  have c17b0 : decide (a1 < (l0_3.length : Int)) = true := decide_eq_true c17
                  clear c17
                  by_cases c18 : 0 ≤ x6_2
                  · rw [if_pos c18] at H
                    have c18b0 := eq_true c18
                    have c18b1 : decide (0 ≤ x6_2) = true := decide_eq_true c18
                    clear c18
                    obtain ⟨ji19, hji19⟩ : ∃ j_ : Int, (shr .i64 (Go.bits .and .i64 a0_1 (rd l0_3 a1)) x6_2) = j_ := ⟨_, rfl⟩
                    replace H : (if (Go.bits .and .i64 (ji19) 1) = 1 then (if x6_2 < (l0_0.length : Int) then (if a1 < (l0_4.length : Int) then (if (rd l0_0 x6_2) > (rd l0_4 a1) then (if 0 ≤ x5_2 then (if x5_2 < (l0_0.length : Int) then (if (rd l0_0 x6_2) ≥ (rd l0_0 x5_2) then (plic_Best.l0 k2 a1 x6_2 (wrap64 (x6_2 - 1)) l0_0 a0_1 a0_2 l0_3 l0_4) else (plic_Best.l0 k2 a1 x5_2 (wrap64 (x6_2 - 1)) l0_0 a0_1 a0_2 l0_3 l0_4)) else (none)) else (none)) else (plic_Best.l0 k2 a1 x5_2 (wrap64 (x6_2 - 1)) l0_0 a0_1 a0_2 l0_3 l0_4)) else (none)) else (none)) else (plic_Best.l0 k2 a1 x5_2 (wrap64 (x6_2 - 1)) l0_0 a0_1 a0_2 l0_3 l0_4)) = some r := by first | (rw [hji19] at H; exact H) | (simp only [hji19] at H ⊢; exact H)
                    have hji19_ : ((Go.bits .and .i64 a0_1 (rd l0_3 a1)) / 2 ^ min x6_2.toNat 64) = ji19 := hji19
                    have hji19z : x6_2 ≤ 64 → ((Go.bits .and .i64 a0_1 (rd l0_3 a1)) / 2 ^ x6_2.toNat) = ji19 := shr_small hji19
                    by_cases c20 : (Go.bits .and .i64 (ji19) 1) = 1
                    · rw [if_pos c20] at H
                      have c20b0 : ((Go.bits .and .i64 (ji19) 1) == 1) = true := beq_iff_eq.mpr c20
                      have c20b1 : ((Go.bits .and .i64 (ji19) 1) != 1) = false := bne_eq_false_iff_eq.mpr c20
                      clear c20
                      by_cases c21 : x6_2 < (l0_0.length : Int)
                      · rw [if_pos c21] at H
                        have c21b0 : decide (x6_2 < (l0_0.length : Int)) = true := decide_eq_true c21
                        clear c21
                        by_cases c22 : a1 < (l0_4.length : Int)
                        · rw [if_pos c22] at H
                          have c22b0 : decide (a1 < (l0_4.length : Int)) = true := decide_eq_true c22
                          clear c22
                          by_cases c23 : (rd l0_0 x6_2) > (rd l0_4 a1)
                          · rw [if_pos c23] at H
                            have c23b0 : decide ((rd l0_4 a1) < (rd l0_0 x6_2)) = true := decide_eq_true c23
                            clear c23
                            by_cases c24 : 0 ≤ x5_2
                            · rw [if_pos c24] at H
                              have c24b0 : decide (0 ≤ x5_2) = true := decide_eq_true c24
                              clear c24
                              by_cases c25 : x5_2 < (l0_0.length : Int)
                              · rw [if_pos c25] at H
                                have c25b0 : decide (x5_2 < (l0_0.length : Int)) = true := decide_eq_true c25
                                clear c25
                                by_cases c26 : (rd l0_0 x6_2) ≥ (rd l0_0 x5_2)
                                · rw [if_pos c26] at H
                                  have c26b0 : decide ((rd l0_0 x5_2) ≤ (rd l0_0 x6_2)) = true := decide_eq_true c26
                                  clear c26
                                  have H' := Aside0.mk H
                                  clear H
                                  have hcz27_0 : wr.cell? ⟨gb115, 0, none⟩ = some (.slice A0_0 l0_0.length c0_0) := (blk_cell BK115.out 0).trans rfl
                                  have hcz27_1 : wr.cell? ⟨gb115, 1, none⟩ = some (.int .i64 a0_1) := (blk_cell BK115.out 1).trans rfl
                                  have hcz27_2 : wr.cell? ⟨gb115, 2, none⟩ = some (.int .i64 a0_2) := (blk_cell BK115.out 2).trans rfl
                                  have hcz27_3 : wr.cell? ⟨gb115, 3, none⟩ = some (.slice A0_3 l0_3.length c0_3) := (blk_cell BK115.out 3).trans rfl
                                  have hcz27_4 : wr.cell? ⟨gb115, 4, none⟩ = some (.slice A0_4 l0_4.length c0_4) := (blk_cell BK115.out 4).trans rfl
                                  have hfz27_0 := blk_frozen BK115.out 0
                                  have hfz27_1 := blk_frozen BK115.out 1
                                  have hfz27_2 := blk_frozen BK115.out 2
                                  have hfz27_3 := blk_frozen BK115.out 3
                                  have hfz27_4 := blk_frozen BK115.out 4
                                  have p117 : 0 ≤ (a1 : Int) := of_decide_eq_true (by first | (with_reducible assumption) | assumption)
                                  have q117 : a1 < (l0_3.length : Int) := of_decide_eq_true (by first | (with_reducible assumption) | assumption)
                                  obtain ⟨ad117, e117, hx117_0⟩ := Kd.at_int HR0_3.out a1 p117 q117
                                  cases e117
                                  replace hx117_0 := (HB.out.cell (World.block_lt_of_cell? w _ hx117_0)).trans hx117_0
                                  replace p117 := eq_true p117
                                  replace q117 := eq_true q117
                                  have p118 : 0 ≤ (x6_2 : Int) := of_decide_eq_true (by first | (with_reducible assumption) | assumption)
                                  have q118 : x6_2 < (l0_0.length : Int) := of_decide_eq_true (by first | (with_reducible assumption) | assumption)
                                  obtain ⟨ad118, e118, hx118_0⟩ := Kd.at_int HR0_0.out x6_2 p118 q118
                                  cases e118
                                  replace hx118_0 := (HB.out.cell (World.block_lt_of_cell? w _ hx118_0)).trans hx118_0
                                  replace p118 := eq_true p118
                                  replace q118 := eq_true q118
                                  have p119 : 0 ≤ (a1 : Int) := of_decide_eq_true (by first | (with_reducible assumption) | assumption)
                                  have q119 : a1 < (l0_4.length : Int) := of_decide_eq_true (by first | (with_reducible assumption) | assumption)
                                  obtain ⟨ad119, e119, hx119_0⟩ := Kd.at_int HR0_4.out a1 p119 q119
                                  cases e119
                                  replace hx119_0 := (HB.out.cell (World.block_lt_of_cell? w _ hx119_0)).trans hx119_0
                                  replace p119 := eq_true p119
                                  replace q119 := eq_true q119
                                  have p120 : 0 ≤ (x6_2 : Int) := of_decide_eq_true (by first | (with_reducible assumption) | assumption)
                                  have q120 : x6_2 < (l0_0.length : Int) := of_decide_eq_true (by first | (with_reducible assumption) | assumption)
                                  obtain ⟨ad120, e120, hx120_0⟩ := Kd.at_int HR0_0.out x6_2 p120 q120
                                  obtain rfl : ad118 = ad120 := (by injection e120)
                                  replace hx120_0 := (HB.out.cell (World.block_lt_of_cell? w _ hx120_0)).trans hx120_0
                                  replace p120 := eq_true p120
                                  replace q120 := eq_true q120
                                  have p121 : 0 ≤ (x5_2 : Int) := of_decide_eq_true (by first | (with_reducible assumption) | assumption)
                                  have q121 : x5_2 < (l0_0.length : Int) := of_decide_eq_true (by first | (with_reducible assumption) | assumption)
                                  obtain ⟨ad121, e121, hx121_0⟩ := Kd.at_int HR0_0.out x5_2 p121 q121
                                  obtain rfl : ad118 = ad121 := (by injection e121)
                                  replace hx121_0 := (HB.out.cell (World.block_lt_of_cell? w _ hx121_0)).trans hx121_0
                                  replace p121 := eq_true p121
                                  replace q121 := eq_true q121
                                  go_wp2
                                  repeat (go_quiet (fail); try go_wp2)
                                  go_roundg k2
                                  case measure => have := HJ2.out; have := HK2.out; omega
                                  case rel => exact ⟨(x6_2), (wrap64 (x6_2 - 1)), (by first | rfl | (simp; done) | (simp [*]; done)), (by first | rfl | (simp; done) | (simp [*]; done)), H', ⟨by have := HJ2.out; have := HK2.out; omega⟩, ⟨by (with_reducible repeat (first | refine blk_drewN ?_ _ | refine blk_drew ?_ | refine blk_alloc ?_ _)); exact BK115.out⟩, ⟨by repeat (first | (with_reducible first | exact HB.out | apply below_alloc | apply pw_below_drewN | apply below_drew1 | refine below_set ?_ GE115.out) | exact HB.out)⟩⟩
                                · rw [if_neg c26] at H
                                  have c26b0 : decide ((rd l0_0 x5_2) ≤ (rd l0_0 x6_2)) = false := decide_eq_false c26
                                  clear c26
                                  have H' := Aside0.mk H
                                  clear H
                                  have hcz28_0 : wr.cell? ⟨gb115, 0, none⟩ = some (.slice A0_0 l0_0.length c0_0) := (blk_cell BK115.out 0).trans rfl
                                  have hcz28_1 : wr.cell? ⟨gb115, 1, none⟩ = some (.int .i64 a0_1) := (blk_cell BK115.out 1).trans rfl
                                  have hcz28_2 : wr.cell? ⟨gb115, 2, none⟩ = some (.int .i64 a0_2) := (blk_cell BK115.out 2).trans rfl
                                  have hcz28_3 : wr.cell? ⟨gb115, 3, none⟩ = some (.slice A0_3 l0_3.length c0_3) := (blk_cell BK115.out 3).trans rfl
                                  have hcz28_4 : wr.cell? ⟨gb115, 4, none⟩ = some (.slice A0_4 l0_4.length c0_4) := (blk_cell BK115.out 4).trans rfl
                                  have hfz28_0 := blk_frozen BK115.out 0
                                  have hfz28_1 := blk_frozen BK115.out 1
                                  have hfz28_2 := blk_frozen BK115.out 2
                                  have hfz28_3 := blk_frozen BK115.out 3
                                  have hfz28_4 := blk_frozen BK115.out 4
                                  have p117 : 0 ≤ (a1 : Int) := of_decide_eq_true (by first | (with_reducible assumption) | assumption)
                                  have q117 : a1 < (l0_3.length : Int) := of_decide_eq_true (by first | (with_reducible assumption) | assumption)
                                  obtain ⟨ad117, e117, hx117_0⟩ := Kd.at_int HR0_3.out a1 p117 q117
                                  cases e117
                                  replace hx117_0 := (HB.out.cell (World.block_lt_of_cell? w _ hx117_0)).trans hx117_0
                                  replace p117 := eq_true p117
                                  replace q117 := eq_true q117
                                  have p118 : 0 ≤ (x6_2 : Int) := of_decide_eq_true (by first | (with_reducible assumption) | assumption)
                                  have q118 : x6_2 < (l0_0.length : Int) := of_decide_eq_true (by first | (with_reducible assumption) | assumption)
                                  obtain ⟨ad118, e118, hx118_0⟩ := Kd.at_int HR0_0.out x6_2 p118 q118
                                  cases e118
                                  replace hx118_0 := (HB.out.cell (World.block_lt_of_cell? w _ hx118_0)).trans hx118_0
                                  replace p118 := eq_true p118
                                  replace q118 := eq_true q118
                                  have p119 : 0 ≤ (a1 : Int) := of_decide_eq_true (by first | (with_reducible assumption) | assumption)
                                  have q119 : a1 < (l0_4.length : Int) := of_decide_eq_true (by first | (with_reducible assumption) | assumption)
                                  obtain ⟨ad119, e119, hx119_0⟩ := Kd.at_int HR0_4.out a1 p119 q119
                                  cases e119
                                  replace hx119_0 := (HB.out.cell (World.block_lt_of_cell? w _ hx119_0)).trans hx119_0
                                  replace p119 := eq_true p119
                                  replace q119 := eq_true q119
                                  have p120 : 0 ≤ (x6_2 : Int) := of_decide_eq_true (by first | (with_reducible assumption) | assumption)
                                  have q120 : x6_2 < (l0_0.length : Int) := of_decide_eq_true (by first | (with_reducible assumption) | assumption)
                                  obtain ⟨ad120, e120, hx120_0⟩ := Kd.at_int HR0_0.out x6_2 p120 q120
                                  obtain rfl : ad118 = ad120 := (by injection e120)
                                  replace hx120_0 := (HB.out.cell (World.block_lt_of_cell? w _ hx120_0)).trans hx120_0
                                  replace p120 := eq_true p120
                                  replace q120 := eq_true q120
                                  have p121 : 0 ≤ (x5_2 : Int) := of_decide_eq_true (by first | (with_reducible assumption) | assumption)
                                  have q121 : x5_2 < (l0_0.length : Int) := of_decide_eq_true (by first | (with_reducible assumption) | assumption)
                                  obtain ⟨ad121, e121, hx121_0⟩ := Kd.at_int HR0_0.out x5_2 p121 q121
                                  obtain rfl : ad118 = ad121 := (by injection e121)
                                  replace hx121_0 := (HB.out.cell (World.block_lt_of_cell? w _ hx121_0)).trans hx121_0
                                  replace p121 := eq_true p121
                                  replace q121 := eq_true q121
                                  go_wp2
                                  repeat (go_quiet (fail); try go_wp2)
                                  go_roundg k2
                                  case measure => have := HJ2.out; have := HK2.out; omega
                                  case rel => exact ⟨(x5_2), (wrap64 (x6_2 - 1)), (by first | rfl | (simp; done) | (simp [*]; done)), (by first | rfl | (simp; done) | (simp [*]; done)), H', ⟨by have := HJ2.out; have := HK2.out; omega⟩, ⟨by (with_reducible repeat (first | refine blk_drewN ?_ _ | refine blk_drew ?_ | refine blk_alloc ?_ _)); exact BK115.out⟩, ⟨by repeat (first | (with_reducible first | exact HB.out | apply below_alloc | apply pw_below_drewN | apply below_drew1 | refine below_set ?_ GE115.out) | exact HB.out)⟩⟩
                              · rw [if_neg c25] at H
                                exact absurd H (by simp)
                            · rw [if_neg c24] at H
                              exact absurd H (by simp)
                          · rw [if_neg c23] at H
                            have c23b0 : decide ((rd l0_4 a1) < (rd l0_0 x6_2)) = false := decide_eq_false c23
                            clear c23
                            have H' := Aside0.mk H
                            clear H
                            have hcz29_0 : wr.cell? ⟨gb115, 0, none⟩ = some (.slice A0_0 l0_0.length c0_0) := (blk_cell BK115.out 0).trans rfl
                            have hcz29_1 : wr.cell? ⟨gb115, 1, none⟩ = some (.int .i64 a0_1) := (blk_cell BK115.out 1).trans rfl
                            have hcz29_2 : wr.cell? ⟨gb115, 2, none⟩ = some (.int .i64 a0_2) := (blk_cell BK115.out 2).trans rfl
                            have hcz29_3 : wr.cell? ⟨gb115, 3, none⟩ = some (.slice A0_3 l0_3.length c0_3) := (blk_cell BK115.out 3).trans rfl
                            have hcz29_4 : wr.cell? ⟨gb115, 4, none⟩ = some (.slice A0_4 l0_4.length c0_4) := (blk_cell BK115.out 4).trans rfl
                            have hfz29_0 := blk_frozen BK115.out 0
                            have hfz29_1 := blk_frozen BK115.out 1
                            have hfz29_2 := blk_frozen BK115.out 2
                            have hfz29_3 := blk_frozen BK115.out 3
                            have hfz29_4 := blk_frozen BK115.out 4
                            have p117 : 0 ≤ (a1 : Int) := of_decide_eq_true (by first | (with_reducible assumption) | assumption)
                            have q117 : a1 < (l0_3.length : Int) := of_decide_eq_true (by first | (with_reducible assumption) | assumption)
                            obtain ⟨ad117, e117, hx117_0⟩ := Kd.at_int HR0_3.out a1 p117 q117
                            cases e117
                            replace hx117_0 := (HB.out.cell (World.block_lt_of_cell? w _ hx117_0)).trans hx117_0
                            replace p117 := eq_true p117
                            replace q117 := eq_true q117
                            have p118 : 0 ≤ (x6_2 : Int) := of_decide_eq_true (by first | (with_reducible assumption) | assumption)
                            have q118 : x6_2 < (l0_0.length : Int) := of_decide_eq_true (by first | (with_reducible assumption) | assumption)
                            obtain ⟨ad118, e118, hx118_0⟩ := Kd.at_int HR0_0.out x6_2 p118 q118
                            cases e118
                            replace hx118_0 := (HB.out.cell (World.block_lt_of_cell? w _ hx118_0)).trans hx118_0
                            replace p118 := eq_true p118
                            replace q118 := eq_true q118
                            have p119 : 0 ≤ (a1 : Int) := of_decide_eq_true (by first | (with_reducible assumption) | assumption)
                            have q119 : a1 < (l0_4.length : Int) := of_decide_eq_true (by first | (with_reducible assumption) | assumption)
                            obtain ⟨ad119, e119, hx119_0⟩ := Kd.at_int HR0_4.out a1 p119 q119
                            cases e119
                            replace hx119_0 := (HB.out.cell (World.block_lt_of_cell? w _ hx119_0)).trans hx119_0
                            replace p119 := eq_true p119
                            replace q119 := eq_true q119
                            go_wp2
                            repeat (go_quiet (fail); try go_wp2)
                            go_roundg k2
                            case measure => have := HJ2.out; have := HK2.out; omega
                            case rel => exact ⟨(x5_2), (wrap64 (x6_2 - 1)), (by first | rfl | (simp; done) | (simp [*]; done)), (by first | rfl | (simp; done) | (simp [*]; done)), H', ⟨by have := HJ2.out; have := HK2.out; omega⟩, ⟨by (with_reducible repeat (first | refine blk_drewN ?_ _ | refine blk_drew ?_ | refine blk_alloc ?_ _)); exact BK115.out⟩, ⟨by repeat (first | (with_reducible first | exact HB.out | apply below_alloc | apply pw_below_drewN | apply below_drew1 | refine below_set ?_ GE115.out) | exact HB.out)⟩⟩
                        · rw [if_neg c22] at H
                          exact absurd H (by simp)
                      · rw [if_neg c21] at H
                        exact absurd H (by simp)
                    · rw [if_neg c20] at H
                      have c20b0 : ((Go.bits .and .i64 (ji19) 1) == 1) = false := beq_eq_false_iff_ne.mpr c20
                      have c20b1 : ((Go.bits .and .i64 (ji19) 1) != 1) = true := bne_iff_ne.mpr c20
                      have H' := Aside0.mk H
                      clear H
                      have hcz30_0 : wr.cell? ⟨gb115, 0, none⟩ = some (.slice A0_0 l0_0.length c0_0) := (blk_cell BK115.out 0).trans rfl
                      have hcz30_1 : wr.cell? ⟨gb115, 1, none⟩ = some (.int .i64 a0_1) := (blk_cell BK115.out 1).trans rfl
                      have hcz30_2 : wr.cell? ⟨gb115, 2, none⟩ = some (.int .i64 a0_2) := (blk_cell BK115.out 2).trans rfl
                      have hcz30_3 : wr.cell? ⟨gb115, 3, none⟩ = some (.slice A0_3 l0_3.length c0_3) := (blk_cell BK115.out 3).trans rfl
                      have hcz30_4 : wr.cell? ⟨gb115, 4, none⟩ = some (.slice A0_4 l0_4.length c0_4) := (blk_cell BK115.out 4).trans rfl
                      have hfz30_0 := blk_frozen BK115.out 0
                      have hfz30_1 := blk_frozen BK115.out 1
                      have hfz30_2 := blk_frozen BK115.out 2
                      have hfz30_3 := blk_frozen BK115.out 3
                      have hfz30_4 := blk_frozen BK115.out 4
                      have p117 : 0 ≤ (a1 : Int) := of_decide_eq_true (by first | (with_reducible assumption) | assumption)
                      have q117 : a1 < (l0_3.length : Int) := of_decide_eq_true (by first | (with_reducible assumption) | assumption)
                      obtain ⟨ad117, e117, hx117_0⟩ := Kd.at_int HR0_3.out a1 p117 q117
                      cases e117
                      replace hx117_0 := (HB.out.cell (World.block_lt_of_cell? w _ hx117_0)).trans hx117_0
                      replace p117 := eq_true p117
                      replace q117 := eq_true q117
                      go_wp2
                      repeat (go_quiet (fail); try go_wp2)
                      go_roundg k2
                      case measure => have := HJ2.out; have := HK2.out; omega
                      case rel => exact ⟨(x5_2), (wrap64 (x6_2 - 1)), (by first | rfl | (simp; done) | (simp [*]; done)), (by first | rfl | (simp; done) | (simp [*]; done)), H', ⟨by have := HJ2.out; have := HK2.out; omega⟩, ⟨by (with_reducible repeat (first | refine blk_drewN ?_ _ | refine blk_drew ?_ | refine blk_alloc ?_ _)); exact BK115.out⟩, ⟨by repeat (first | (with_reducible first | exact HB.out | apply below_alloc | apply pw_below_drewN | apply below_drew1 | refine below_set ?_ GE115.out) | exact HB.out)⟩⟩
                  · rw [if_neg c18] at H
                    exact absurd H (by simp)
                · rw [if_neg c17] at H
                  exact absurd H (by simp)
              · rw [if_neg c16] at H
                exact absurd H (by simp)
            · rw [if_neg c15] at H
              have c15b0 : decide (1 ≤ x6_2) = false := decide_eq_false c15
              clear c15
              obtain rfl := Option.some.inj H
              go_wp2
              repeat (go_quiet (fail); try go_wp2)
              go_ret
              exact ⟨by first | rfl | (simp [errW_none, errW_some] <;> rfl) | (simp [*, errW_none, errW_some] <;> rfl), by repeat (first | (with_reducible first | exact HB.out | apply below_alloc | apply pw_below_drewN | apply below_drew1 | refine below_set ?_ GE115.out) | exact HB.out)⟩

end Go.Proofs.Ytphcckhegfgbgaa.Q
end
section
/- plic.Load, its walks (what they share). -/
namespace Go.Proofs.Ytphcckhegfgbgaa.Q
open Go.RowKit Go.Proofs.YtphcckhegfgbgaaW.PrintWords Go.Proofs.YtphcckhegfgbgaaW.PrintLast Go.Proofs.YtphcckhegfgbgaaW.PrintMore Go.Proofs.Ytphcckhegfgbgaa.L
attribute [local go_sem] Instr.field part asAgg lt_step max2_int min2_int max_two min_two max_three min_three max_four min_four lt_0_1 lt_0_2 lt_1_2 lt_0_3 lt_1_3 lt_2_3 lt_0_4 lt_1_4 lt_2_4 lt_3_4 lt_0_5 lt_1_5 lt_2_5 lt_3_5 lt_4_5 lt_0_6 lt_1_6 lt_2_6 lt_3_6 lt_4_6 lt_5_6 lt_0_7 lt_1_7 lt_2_7 lt_3_7 lt_4_7 lt_5_7 lt_6_7 lt_0_8 lt_1_8 lt_2_8 lt_3_8 lt_4_8 lt_5_8 lt_6_8 lt_7_8
set_option linter.unusedVariables false
set_option linter.unusedSimpArgs false
attribute [local go_sem ↓] Go.wp_at_zero Go.wp_at_succ
theorem F_at {k : IntKind} {W : World} {ok : Nat → Prop} {b o n : Nat} {xs : List Int} (h : Kd.F (Kd.int k) W ok (some ⟨b, o, none⟩) n xs) (i : Nat) (hi : i < n) : W.cell? ⟨b, o + i, none⟩ = some (.int k (rd xs (i : Int))) := by
  obtain ⟨b', o', e, hc⟩ := F_cell' h (by omega)
  injection e with e; injection e with e1 e2
  subst e1; subst e2
  have := hc i hi
  rw [this]; unfold rd; rw [Int.toNat_natCast]
theorem check_c (B : Bool) (A0 : Option Addr) (c0 : Nat) (l0 : List Int) (p c : Int) (A3 : Option Addr) (c3 : Nat) (l3 : List Int) (A4 : Option Addr) (c4 : Nat) (l4 : List Int) (w : World) (hB : checkZ l0 p c l3 l4 = B) (hr0 : Kd.C (Kd.int .i64) w A0 l0.length l0) (hr3 : Kd.C (Kd.int .i64) w A3 l3.length l3) (hr4 : Kd.C (Kd.int .i64) w A4 l4.length l4) :
    Calls Try.prog 42 #[.agg #[.slice A0 l0.length c0, .int .i64 p, .int .i64 c, .slice A3 l3.length c3, .slice A4 l4.length c4]] w fun e w' => e = .returned (.bool B) ∧ Below w.heap.size w w' := by
  rw [← hB]; exact check_runs _ _ _ _ _ _ _ _ _ _ _ _ hr0 hr3 hr4
theorem at_c (a b x i : Int) (w : World) (h : at2Z a b x = i) : Calls Try.prog 44 #[.agg #[.int .u64 a, .int .u64 b], .int .u64 x] w fun e w' => e = .returned (.int .i64 i) ∧ Below w.heap.size w w' := by
  subst h; exact at_runs a b x w
theorem check_lens {l0 : List Int} {p c : Int} {l3 l4 : List Int} (h : checkZ l0 p c l3 l4 = true) : l0.length = 3 ∧ l3.length = 2 ∧ l4.length = 2 := by
  unfold checkZ shapeZ at h
  simp only [Bool.and_eq_true, decide_eq_true_eq] at h
  exact ⟨h.1.1.1.1.1, h.1.1.1.1.2, h.1.1.1.2⟩
end Go.Proofs.Ytphcckhegfgbgaa.Q
end
