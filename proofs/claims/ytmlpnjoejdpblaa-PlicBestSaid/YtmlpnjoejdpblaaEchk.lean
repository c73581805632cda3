/- plic.Check, as those who call it have it. -/
import Derived.Test.YtmlpnjoejdpblaaEidx
import Derived.Test.YtmlpnjoejdpblaaFs
import Derived.Deep.DeepCutAuto
namespace Go.Proofs.Ytmlpnjoejdpblaa.Q
open Go.RowKit Go.Proofs.YtmlpnjoejdpblaaW.PrintWords Go.Proofs.YtmlpnjoejdpblaaW.PrintLast Go.Proofs.YtmlpnjoejdpblaaW.PrintMore Go.Proofs.Ytmlpnjoejdpblaa.L
attribute [local go_sem] Instr.field part asAgg lt_step max2_int min2_int max_two min_two max_three min_three max_four min_four lt_0_1 lt_0_2 lt_1_2 lt_0_3 lt_1_3 lt_2_3 lt_0_4 lt_1_4 lt_2_4 lt_3_4 lt_0_5 lt_1_5 lt_2_5 lt_3_5 lt_4_5 lt_0_6 lt_1_6 lt_2_6 lt_3_6 lt_4_6 lt_5_6 lt_0_7 lt_1_7 lt_2_7 lt_3_7 lt_4_7 lt_5_7 lt_6_7 lt_0_8 lt_1_8 lt_2_8 lt_3_8 lt_4_8 lt_5_8 lt_6_8 lt_7_8
set_option linter.unusedVariables false
set_option linter.unusedSimpArgs false
/-- The first test of five. -/
def shapeZ (l0 : List Int) (p c : Int) (l3 l4 : List Int) : Bool := (decide (l0.length = 3) && decide (l3.length = 2) && decide (l4.length = 2) && decide (rd l0 0 = 0)) && decide (Go.bits .andNot .i64 (Go.bits .or .i64 p c) 6 = 0)
def checkZ (l0 : List Int) (p c : Int) (l3 l4 : List Int) : Bool := shapeZ l0 p c l3 l4 && (!l0.any greatZ && !l4.any greatZ && !l3.any oddZ)
theorem len_ne {l : List Int} {n : Nat} {z : Int} (hz : z = n) (h : l.length ≠ n) : (((l.length : Nat) : Int) != z) = true := by subst hz; exact bne_iff_ne.mpr (by omega)
theorem len_eq {l : List Int} {n : Nat} {z : Int} (hz : z = n) (h : l.length = n) : (((l.length : Nat) : Int) != z) = false := by subst hz; exact bne_eq_false_iff_eq.mpr (by omega)
section
variable (A0 : Option Addr) (c0 : Nat) (l0 : List Int) (p c : Int) (A3 : Option Addr) (c3 : Nat) (l3 : List Int) (A4 : Option Addr) (c4 : Nat) (l4 : List Int) (w : World)
set_option maxHeartbeats 1600000 in
set_option maxRecDepth 100000 in
theorem check_runs (hr0 : Kd.C (Kd.int .i64) w A0 l0.length l0) (hr3 : Kd.C (Kd.int .i64) w A3 l3.length l3) (hr4 : Kd.C (Kd.int .i64) w A4 l4.length l4) :
    Calls Try.prog 7 #[.agg #[.slice A0 l0.length c0, .int .i64 p, .int .i64 c, .slice A3 l3.length c3, .slice A4 l4.length c4]] w fun e w' => e = .returned (.bool (checkZ l0 p c l3 l4)) ∧ Below w.heap.size w w' := by
  have HB := Aside0.mk (Below.refl w.heap.size w)
  have r0 := Aside0.mk (F_in hr0)
  have r3 := Aside0.mk (F_in hr3)
  have r4 := Aside0.mk (F_in hr4)
  have hm0 : l0.length ≤ 9223372036854775807 := hr0.2.1
  have hm3 : l3.length ≤ 9223372036854775807 := hr3.2.1
  have hm4 : l4.length ≤ 9223372036854775807 := hr4.2.1
  clear hr0 hr3 hr4
  go_enter Try.func7, Try.ntmps7
  go_upto_region 1 with fail
  obtain ⟨w0, hw0, oc0, hb_, hz0⟩ := letter1 w (.cells #[.slice A0 l0.length c0, .int .i64 p, .int .i64 c, .slice A3 l3.length c3, .slice A4 l4.length c4] 24 (0, 0))
  rw [hw0]
  clear hw0
  have oc := Aside0.mk oc0
  clear oc0
  obtain ⟨occ, ocf, ocl⟩ := cells_of oc.out
  have HB_ : Aside0 (Below w.heap.size w w0) := ⟨hb_⟩
  have r0_ := Aside0.mk (Kd.F_below r0.out hb_)
  have r3_ := Aside0.mk (Kd.F_below r3.out hb_)
  have r4_ := Aside0.mk (Kd.F_below r4.out hb_)
  clear HB r0 r3 r4 hb_; have HB := HB_; have r0 := r0_; have r3 := r3_; have r4 := r4_; clear HB_ r0_ r3_ r4_
  go_cut [36] (fun c36 wx => c36 = .bool (!shapeZ l0 p c l3 l4) ∧ wx = w0)
  case first =>
    have HS : Aside0 (shapeZ l0 p c l3 l4 = ((decide (l0.length = 3) && decide (l3.length = 2) && decide (l4.length = 2) && decide (rd l0 0 = 0)) && decide (Go.bits .andNot .i64 (Go.bits .or .i64 p c) 6 = 0))) := ⟨rfl⟩
    by_cases h0 : l0.length = 3
    · have h0b := len_eq (z := 3) rfl h0
      have H0 := Aside0.mk h0
      obtain ⟨ab, ao, rfl, hcs⟩ := F_cell' r0.out (by omega)
      have hc : w0.cell? ⟨ab, ao, none⟩ = some (.int .i64 (rd l0 0)) := hcs 0 (by omega)
      clear hcs
      have h0i : (0 : Int) < (l0.length : Int) := by omega
      by_cases h3 : l3.length = 2
      · have h3b := len_eq (z := 2) rfl h3
        have H3 := Aside0.mk h3
        by_cases h4 : l4.length = 2
        · have h4b := len_eq (z := 2) rfl h4
          have H4 := Aside0.mk h4
          by_cases hz : rd l0 0 = 0
          · have hzb : (rd l0 0 != 0) = false := bne_eq_false_iff_eq.mpr hz
            have HZ := Aside0.mk hz
            clear h0 h3 h4 hz
            by_cases hb : Go.bits .andNot .i64 (Go.bits .or .i64 p c) 6 = 0
            · have hbb : (Go.bits .andNot .i64 (Go.bits .or .i64 p c) 6 != 0) = false := bne_eq_false_iff_eq.mpr hb
              have HBB := Aside0.mk hb
              clear hb
              go_wp2_with fail
              go_meet
              exact ⟨by rw [HS.out]; simp [H0.out, H3.out, H4.out, HZ.out, HBB.out], rfl⟩
            · have hbb : (Go.bits .andNot .i64 (Go.bits .or .i64 p c) 6 != 0) = true := bne_iff_ne.mpr hb
              have HBB := Aside0.mk hb
              clear hb
              go_wp2_with fail
              go_meet
              exact ⟨by rw [HS.out]; simp [HBB.out], rfl⟩
          · have hzb : (rd l0 0 != 0) = true := bne_iff_ne.mpr hz
            have HZ := Aside0.mk hz
            clear h0 h3 h4 hz
            go_wp2_with fail
            go_meet
            exact ⟨by rw [HS.out]; simp [HZ.out], rfl⟩
        · have h4b := len_ne (z := 2) rfl h4
          have H4 := Aside0.mk h4
          clear h0 h3 h4
          go_wp2_with fail
          go_meet
          exact ⟨by rw [HS.out]; simp [H4.out], rfl⟩
      · have h3b := len_ne (z := 2) rfl h3
        have H3 := Aside0.mk h3
        clear h0 h3
        go_wp2_with fail
        go_meet
        exact ⟨by rw [HS.out]; simp [H3.out], rfl⟩
    · have h0b := len_ne (z := 3) rfl h0
      have H0 := Aside0.mk h0
      clear h0
      go_wp2_with fail
      go_meet
      exact ⟨by rw [HS.out]; simp [H0.out], rfl⟩
  case rest =>
    obtain ⟨rfl, hw1⟩ := hcut
    subst hw1
    rename World => w1
    have HS : Aside0 (checkZ l0 p c l3 l4 = (shapeZ l0 p c l3 l4 && (!l0.any greatZ && !l4.any greatZ && !l3.any oddZ))) := ⟨rfl⟩
    cases hs : shapeZ l0 p c l3 l4
    · have HS2 := Aside0.mk hs
      clear hs
      go_wp2_with fail
      go_ret
      exact ⟨by rw [HS.out, HS2.out]; rfl, HB.out⟩
    · have HS2 := Aside0.mk hs
      clear hs
      go_wp2_with fail
      (go_at_call 23; (with_reducible refine (contains_great _ _ l0 _ (Kd.F_now (by (repeat (with_reducible first | exact r0.out | apply Kd.F_drew | apply Kd.F_drewN | apply Kd.F_alloc | refine Kd.F_far ?_ ?_ _)); all_goals (intro j_ hj_; (try dsimp only at hj_); (try dsimp only); (try simp only [sz_alloc, sz_drew, sz_drewN, sz_set] at hj_); omega)))).mono ?_); rintro e_ w2 ⟨rfl, hb_⟩; have HB_ : Aside0 (Below w.heap.size w w2) := Aside0.mk (below_step (by repeat (first | (with_reducible first | exact HB.out | exact Below.refl _ _ | apply below_alloc | apply pw_below_drewN | apply below_drew | refine below_set ?_ (by omega)) | exact HB.out)) hb_); have hzw2 := hb_.size; (try simp at hzw2); have oc_ := Aside0.mk (box_below hb_ (by repeat (with_reducible first | exact oc.out | apply ext_drew | apply ext_drewN | apply ext_alloc | refine blk_far ?_ (by show _ ≠ _; dsimp only; omega) _))); have r0_ := Aside0.mk (Kd.F_below (by (repeat (with_reducible first | exact r0.out | apply Kd.F_drew | apply Kd.F_drewN | apply Kd.F_alloc | refine Kd.F_far ?_ ?_ _)); all_goals (intro j_ hj_; (try dsimp only at hj_); (try dsimp only); (try simp only [sz_alloc, sz_drew, sz_drewN, sz_set] at hj_); omega)) hb_); clear r0; have r0 := r0_; clear r0_; have r3_ := Aside0.mk (Kd.F_below (by (repeat (with_reducible first | exact r3.out | apply Kd.F_drew | apply Kd.F_drewN | apply Kd.F_alloc | refine Kd.F_far ?_ ?_ _)); all_goals (intro j_ hj_; (try dsimp only at hj_); (try dsimp only); (try simp only [sz_alloc, sz_drew, sz_drewN, sz_set] at hj_); omega)) hb_); clear r3; have r3 := r3_; clear r3_; have r4_ := Aside0.mk (Kd.F_below (by (repeat (with_reducible first | exact r4.out | apply Kd.F_drew | apply Kd.F_drewN | apply Kd.F_alloc | refine Kd.F_far ?_ ?_ _)); all_goals (intro j_ hj_; (try dsimp only at hj_); (try dsimp only); (try simp only [sz_alloc, sz_drew, sz_drewN, sz_set] at hj_); omega)) hb_); clear r4; have r4 := r4_; clear r4_; (try clear oc occ ocf ocl); have oc := oc_; clear oc_; obtain ⟨occ, ocf, ocl⟩ := cells_of oc.out; clear HB hb_; have HB := HB_; clear HB_)
      cases h1 : l0.any greatZ
      · have H1 := Aside0.mk h1
        clear h1
        go_wp2_with fail
        (go_at_call 23; (with_reducible refine (contains_great _ _ l4 _ (Kd.F_now (by (repeat (with_reducible first | exact r4.out | apply Kd.F_drew | apply Kd.F_drewN | apply Kd.F_alloc | refine Kd.F_far ?_ ?_ _)); all_goals (intro j_ hj_; (try dsimp only at hj_); (try dsimp only); (try simp only [sz_alloc, sz_drew, sz_drewN, sz_set] at hj_); omega)))).mono ?_); rintro e_ w3 ⟨rfl, hb_⟩; have HB_ : Aside0 (Below w.heap.size w w3) := Aside0.mk (below_step (by repeat (first | (with_reducible first | exact HB.out | exact Below.refl _ _ | apply below_alloc | apply pw_below_drewN | apply below_drew | refine below_set ?_ (by omega)) | exact HB.out)) hb_); have hzw3 := hb_.size; (try simp at hzw3); have oc_ := Aside0.mk (box_below hb_ (by repeat (with_reducible first | exact oc.out | apply ext_drew | apply ext_drewN | apply ext_alloc | refine blk_far ?_ (by show _ ≠ _; dsimp only; omega) _))); have r0_ := Aside0.mk (Kd.F_below (by (repeat (with_reducible first | exact r0.out | apply Kd.F_drew | apply Kd.F_drewN | apply Kd.F_alloc | refine Kd.F_far ?_ ?_ _)); all_goals (intro j_ hj_; (try dsimp only at hj_); (try dsimp only); (try simp only [sz_alloc, sz_drew, sz_drewN, sz_set] at hj_); omega)) hb_); clear r0; have r0 := r0_; clear r0_; have r3_ := Aside0.mk (Kd.F_below (by (repeat (with_reducible first | exact r3.out | apply Kd.F_drew | apply Kd.F_drewN | apply Kd.F_alloc | refine Kd.F_far ?_ ?_ _)); all_goals (intro j_ hj_; (try dsimp only at hj_); (try dsimp only); (try simp only [sz_alloc, sz_drew, sz_drewN, sz_set] at hj_); omega)) hb_); clear r3; have r3 := r3_; clear r3_; have r4_ := Aside0.mk (Kd.F_below (by (repeat (with_reducible first | exact r4.out | apply Kd.F_drew | apply Kd.F_drewN | apply Kd.F_alloc | refine Kd.F_far ?_ ?_ _)); all_goals (intro j_ hj_; (try dsimp only at hj_); (try dsimp only); (try simp only [sz_alloc, sz_drew, sz_drewN, sz_set] at hj_); omega)) hb_); clear r4; have r4 := r4_; clear r4_; (try clear oc occ ocf ocl); have oc := oc_; clear oc_; obtain ⟨occ, ocf, ocl⟩ := cells_of oc.out; clear HB hb_; have HB := HB_; clear HB_)
        cases h2 : l4.any greatZ
        · have H2 := Aside0.mk h2
          clear h2
          go_wp2_with fail
          (go_at_call 23; (with_reducible refine (contains_odd _ _ l3 _ (Kd.F_now (by (repeat (with_reducible first | exact r3.out | apply Kd.F_drew | apply Kd.F_drewN | apply Kd.F_alloc | refine Kd.F_far ?_ ?_ _)); all_goals (intro j_ hj_; (try dsimp only at hj_); (try dsimp only); (try simp only [sz_alloc, sz_drew, sz_drewN, sz_set] at hj_); omega)))).mono ?_); rintro e_ w4 ⟨rfl, hb_⟩; have HB_ : Aside0 (Below w.heap.size w w4) := Aside0.mk (below_step (by repeat (first | (with_reducible first | exact HB.out | exact Below.refl _ _ | apply below_alloc | apply pw_below_drewN | apply below_drew | refine below_set ?_ (by omega)) | exact HB.out)) hb_); have hzw4 := hb_.size; (try simp at hzw4); have oc_ := Aside0.mk (box_below hb_ (by repeat (with_reducible first | exact oc.out | apply ext_drew | apply ext_drewN | apply ext_alloc | refine blk_far ?_ (by show _ ≠ _; dsimp only; omega) _))); have r0_ := Aside0.mk (Kd.F_below (by (repeat (with_reducible first | exact r0.out | apply Kd.F_drew | apply Kd.F_drewN | apply Kd.F_alloc | refine Kd.F_far ?_ ?_ _)); all_goals (intro j_ hj_; (try dsimp only at hj_); (try dsimp only); (try simp only [sz_alloc, sz_drew, sz_drewN, sz_set] at hj_); omega)) hb_); clear r0; have r0 := r0_; clear r0_; have r3_ := Aside0.mk (Kd.F_below (by (repeat (with_reducible first | exact r3.out | apply Kd.F_drew | apply Kd.F_drewN | apply Kd.F_alloc | refine Kd.F_far ?_ ?_ _)); all_goals (intro j_ hj_; (try dsimp only at hj_); (try dsimp only); (try simp only [sz_alloc, sz_drew, sz_drewN, sz_set] at hj_); omega)) hb_); clear r3; have r3 := r3_; clear r3_; have r4_ := Aside0.mk (Kd.F_below (by (repeat (with_reducible first | exact r4.out | apply Kd.F_drew | apply Kd.F_drewN | apply Kd.F_alloc | refine Kd.F_far ?_ ?_ _)); all_goals (intro j_ hj_; (try dsimp only at hj_); (try dsimp only); (try simp only [sz_alloc, sz_drew, sz_drewN, sz_set] at hj_); omega)) hb_); clear r4; have r4 := r4_; clear r4_; (try clear oc occ ocf ocl); have oc := oc_; clear oc_; obtain ⟨occ, ocf, ocl⟩ := cells_of oc.out; clear HB hb_; have HB := HB_; clear HB_)
          go_wp2_with fail
          go_ret
          exact ⟨by rw [HS.out, HS2.out, H1.out, H2.out]; rfl, HB.out⟩
        · have H2 := Aside0.mk h2
          clear h2
          go_wp2_with fail
          go_ret
          exact ⟨by rw [HS.out, HS2.out, H1.out, H2.out]; rfl, HB.out⟩
      · have H1 := Aside0.mk h1
        clear h1
        go_wp2_with fail
        go_ret
        exact ⟨by rw [HS.out, HS2.out, H1.out]; rfl, HB.out⟩
end
def plic_Check.f (l0_0 : List Int) (a0_1 : Int) (a0_2 : Int) (l0_3 : List Int) (l0_4 : List Int) : Option Bool := some (checkZ l0_0 a0_1 a0_2 l0_3 l0_4)
theorem plic_Check.calls (A0_0 : Option Addr) (c0_0 : Nat) (l0_0 : List Int) (a0_1 : Int) (a0_2 : Int) (A0_3 : Option Addr) (c0_3 : Nat) (l0_3 : List Int) (A0_4 : Option Addr) (c0_4 : Nat) (l0_4 : List Int) (r : Bool) (w : World) (hr0_0 : Kd.C (Kd.int .i64) w A0_0 l0_0.length l0_0) (hc0_0 : l0_0.length ≤ c0_0) (hr0_3 : Kd.C (Kd.int .i64) w A0_3 l0_3.length l0_3) (hc0_3 : l0_3.length ≤ c0_3) (hr0_4 : Kd.C (Kd.int .i64) w A0_4 l0_4.length l0_4) (hc0_4 : l0_4.length ≤ c0_4) (h : plic_Check.f l0_0 a0_1 a0_2 l0_3 l0_4 = some r) :
    Calls Try.prog 7 #[.agg #[.slice A0_0 l0_0.length c0_0, .int .i64 a0_1, .int .i64 a0_2, .slice A0_3 l0_3.length c0_3, .slice A0_4 l0_4.length c0_4]] w fun e w' => e = .returned (.bool r) ∧ Below w.heap.size w w' := by
  injection h with h; subst h
  exact check_runs _ _ _ _ _ _ _ _ _ _ _ _ hr0_0 hr0_3 hr0_4
end Go.Proofs.Ytmlpnjoejdpblaa.Q
