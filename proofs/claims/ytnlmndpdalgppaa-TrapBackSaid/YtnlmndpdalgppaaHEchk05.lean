import Derived.Test.YtnlmndpdalgppaaKt
import Derived.Test.YtnlmndpdalgppaaHFs
import Derived.Test.YtnlmndpdalgppaaPm
import Derived.Test.YtnlmndpdalgppaaQx2
import Derived.Deep.DrawnRows
import Derived.Deep.DeepCutAuto
import Derived.Deep.QuietTactic
import Derived.BigQuiet
/- The document's Check of the registers (layer 5), as those who call it have it. -/
namespace Go.Proofs.Ytnlmndpdalgppaa.Q
open Go.RowKit Go.Proofs.YtnlmndpdalgppaaW.PrintWords Go.Proofs.YtnlmndpdalgppaaW.PrintLast Go.Proofs.YtnlmndpdalgppaaW.PrintMore Go.Proofs.Ytnlmndpdalgppaa.L
attribute [local go_sem] Instr.field part asAgg lt_step max2_int min2_int max_two min_two max_three min_three max_four min_four lt_0_1 lt_0_2 lt_1_2 lt_0_3 lt_1_3 lt_2_3 lt_0_4 lt_1_4 lt_2_4 lt_3_4 lt_0_5 lt_1_5 lt_2_5 lt_3_5 lt_4_5 lt_0_6 lt_1_6 lt_2_6 lt_3_6 lt_4_6 lt_5_6 lt_0_7 lt_1_7 lt_2_7 lt_3_7 lt_4_7 lt_5_7 lt_6_7 lt_0_8 lt_1_8 lt_2_8 lt_3_8 lt_4_8 lt_5_8 lt_6_8 lt_7_8
set_option linter.unusedVariables false
set_option linter.unusedSimpArgs false
attribute [local go_sem ↓] Go.wp_at_zero Go.wp_at_succ
def statusZ (s : Int) : Int := (drawbridgeref05_Status.f s).getD 0
theorem status_is (s : Int) : drawbridgeref05_Status.f s = some (statusZ s) := by
  unfold statusZ
  have h : ∃ r, drawbridgeref05_Status.f s = some r := by unfold drawbridgeref05_Status.f; split <;> exact ⟨_, rfl⟩
  obtain ⟨r, hr⟩ := h
  rw [hr]; rfl
section
variable (s a1 a2 a3 a4 a5 a6 a7 a8 a9 a10 a11 a12 a13 a14 a15 a16 : Int)
def chkA (s a1 a2 a3 a4 : Int) : Bool := ((s == statusZ s) && ((Go.bits .andNot .u64 a1 46079 == 0) && ((Go.bits .andNot .u64 a2 546 == 0) && ((Go.bits .andNot .u64 a3 2730 == 0) && (Go.bits .andNot .u64 a4 2730 == 0)))))
def chkB (a5 a7 a10 a12 a15 : Int) : Bool := ((Go.bits .and .u64 a5 2 == 0) && ((Go.bits .and .u64 a10 2 == 0) && ((Go.bits .and .u64 a7 1 == 0) && ((Go.bits .and .u64 a12 1 == 0) && ((a15 / 1152921504606846976 == 0) || (a15 / 1152921504606846976 == 8))))))
def chkZ (s a1 a2 a3 a4 a5 a7 a10 a12 a15 : Int) : Bool := chkA s a1 a2 a3 a4 && chkB a5 a7 a10 a12 a15
set_option maxHeartbeats 1600000 in
set_option maxRecDepth 100000 in
theorem chk05_runs (w : World) : Calls Try.prog 17 #[.agg #[.int .u64 s, .int .u64 a1, .int .u64 a2, .int .u64 a3, .int .u64 a4, .int .u64 a5, .int .u64 a6, .int .u64 a7, .int .u64 a8, .int .u64 a9, .int .u64 a10, .int .u64 a11, .int .u64 a12, .int .u64 a13, .int .u64 a14, .int .u64 a15, .int .u64 a16]] w fun e w' => e = .returned (.bool (chkZ s a1 a2 a3 a4 a5 a7 a10 a12 a15)) ∧ Below w.heap.size w w' := by
  have HB := Aside0.mk (Below.refl w.heap.size w)
  go_enter Try.func17, Try.ntmps17
  go_upto_region 1 with fail
  obtain ⟨wa, hwa, oc0, hb_, hz0⟩ := letter1 w (.cells #[.int .u64 s, .int .u64 a1, .int .u64 a2, .int .u64 a3, .int .u64 a4, .int .u64 a5, .int .u64 a6, .int .u64 a7, .int .u64 a8, .int .u64 a9, .int .u64 a10, .int .u64 a11, .int .u64 a12, .int .u64 a13, .int .u64 a14, .int .u64 a15, .int .u64 a16] 24 (0, 0))
  rw [hwa]
  clear hwa
  have oc := Aside0.mk oc0
  clear oc0
  obtain ⟨occ, ocf, ocl⟩ := cells_of oc.out
  have HB_ : Aside0 (Below w.heap.size w wa) := ⟨hb_⟩
  clear HB hb_; have HB := HB_; clear HB_
  go_cut [32] (fun c wx => c = .bool (!chkA s a1 a2 a3 a4) ∧ ∃ n, wx = wa.drewN n)
  case first =>
    have HS : Aside0 (chkA s a1 a2 a3 a4 = ((s == statusZ s) && ((Go.bits .andNot .u64 a1 46079 == 0) && ((Go.bits .andNot .u64 a2 546 == 0) && ((Go.bits .andNot .u64 a3 2730 == 0) && (Go.bits .andNot .u64 a4 2730 == 0)))))) := ⟨rfl⟩
    by_cases h0 : s = statusZ s
    · have k0 : (s != statusZ s) = false := bne_eq_false_iff_eq.mpr h0
      have K0 := Aside0.mk (beq_iff_eq.mpr h0)
      clear h0
      by_cases h1 : Go.bits .andNot .u64 a1 46079 = 0
      · have k1 : (Go.bits .andNot .u64 a1 46079 != 0) = false := bne_eq_false_iff_eq.mpr h1
        have K1 := Aside0.mk (beq_iff_eq.mpr h1)
        clear h1
        by_cases h2 : Go.bits .andNot .u64 a2 546 = 0
        · have k2 : (Go.bits .andNot .u64 a2 546 != 0) = false := bne_eq_false_iff_eq.mpr h2
          have K2 := Aside0.mk (beq_iff_eq.mpr h2)
          clear h2
          by_cases h3 : Go.bits .andNot .u64 a3 2730 = 0
          · have k3 : (Go.bits .andNot .u64 a3 2730 != 0) = false := bne_eq_false_iff_eq.mpr h3
            have K3 := Aside0.mk (beq_iff_eq.mpr h3)
            clear h3
            by_cases h4 : Go.bits .andNot .u64 a4 2730 = 0
            · have k4 : (Go.bits .andNot .u64 a4 2730 != 0) = false := bne_eq_false_iff_eq.mpr h4
              have K4 := Aside0.mk (beq_iff_eq.mpr h4)
              clear h4
              go_quiet ((go_at_call 26; exact Calls.quiet_of ((drawbridgeref05_Status.calls s (statusZ s) _ (status_is s)).mono fun _ _ ⟨he_, hd_⟩ => ⟨he_, hd_.out⟩)))
              all_goals (go_wp2_with fail; go_meet)
              all_goals exact ⟨by rw [HS.out, show (s == statusZ s) = true from K0.out, show (Go.bits .andNot .u64 a1 46079 == 0) = true from K1.out, show (Go.bits .andNot .u64 a2 546 == 0) = true from K2.out, show (Go.bits .andNot .u64 a3 2730 == 0) = true from K3.out, show (Go.bits .andNot .u64 a4 2730 == 0) = true from K4.out]; first | rfl | simp, _, rfl⟩
            · have k4 : (Go.bits .andNot .u64 a4 2730 != 0) = true := bne_iff_ne.mpr h4
              have K4 := Aside0.mk (beq_eq_false_iff_ne.mpr h4)
              clear h4
              go_quiet ((go_at_call 26; exact Calls.quiet_of ((drawbridgeref05_Status.calls s (statusZ s) _ (status_is s)).mono fun _ _ ⟨he_, hd_⟩ => ⟨he_, hd_.out⟩)))
              all_goals (go_wp2_with fail; go_meet)
              all_goals exact ⟨by rw [HS.out, show (s == statusZ s) = true from K0.out, show (Go.bits .andNot .u64 a1 46079 == 0) = true from K1.out, show (Go.bits .andNot .u64 a2 546 == 0) = true from K2.out, show (Go.bits .andNot .u64 a3 2730 == 0) = true from K3.out, show (Go.bits .andNot .u64 a4 2730 == 0) = false from K4.out]; first | rfl | simp, _, rfl⟩
          · have k3 : (Go.bits .andNot .u64 a3 2730 != 0) = true := bne_iff_ne.mpr h3
            have K3 := Aside0.mk (beq_eq_false_iff_ne.mpr h3)
            clear h3
            go_quiet ((go_at_call 26; exact Calls.quiet_of ((drawbridgeref05_Status.calls s (statusZ s) _ (status_is s)).mono fun _ _ ⟨he_, hd_⟩ => ⟨he_, hd_.out⟩)))
            all_goals (go_wp2_with fail; go_meet)
            all_goals exact ⟨by rw [HS.out, show (s == statusZ s) = true from K0.out, show (Go.bits .andNot .u64 a1 46079 == 0) = true from K1.out, show (Go.bits .andNot .u64 a2 546 == 0) = true from K2.out, show (Go.bits .andNot .u64 a3 2730 == 0) = false from K3.out]; first | rfl | simp, _, rfl⟩
        · have k2 : (Go.bits .andNot .u64 a2 546 != 0) = true := bne_iff_ne.mpr h2
          have K2 := Aside0.mk (beq_eq_false_iff_ne.mpr h2)
          clear h2
          go_quiet ((go_at_call 26; exact Calls.quiet_of ((drawbridgeref05_Status.calls s (statusZ s) _ (status_is s)).mono fun _ _ ⟨he_, hd_⟩ => ⟨he_, hd_.out⟩)))
          all_goals (go_wp2_with fail; go_meet)
          all_goals exact ⟨by rw [HS.out, show (s == statusZ s) = true from K0.out, show (Go.bits .andNot .u64 a1 46079 == 0) = true from K1.out, show (Go.bits .andNot .u64 a2 546 == 0) = false from K2.out]; first | rfl | simp, _, rfl⟩
      · have k1 : (Go.bits .andNot .u64 a1 46079 != 0) = true := bne_iff_ne.mpr h1
        have K1 := Aside0.mk (beq_eq_false_iff_ne.mpr h1)
        clear h1
        go_quiet ((go_at_call 26; exact Calls.quiet_of ((drawbridgeref05_Status.calls s (statusZ s) _ (status_is s)).mono fun _ _ ⟨he_, hd_⟩ => ⟨he_, hd_.out⟩)))
        all_goals (go_wp2_with fail; go_meet)
        all_goals exact ⟨by rw [HS.out, show (s == statusZ s) = true from K0.out, show (Go.bits .andNot .u64 a1 46079 == 0) = false from K1.out]; first | rfl | simp, _, rfl⟩
    · have k0 : (s != statusZ s) = true := bne_iff_ne.mpr h0
      have K0 := Aside0.mk (beq_eq_false_iff_ne.mpr h0)
      clear h0
      go_quiet ((go_at_call 26; exact Calls.quiet_of ((drawbridgeref05_Status.calls s (statusZ s) _ (status_is s)).mono fun _ _ ⟨he_, hd_⟩ => ⟨he_, hd_.out⟩)))
      all_goals (go_wp2_with fail; go_meet)
      all_goals exact ⟨by rw [HS.out, show (s == statusZ s) = false from K0.out]; first | rfl | simp, _, rfl⟩
  case rest =>
    obtain ⟨rfl, n1, rfl⟩ := hcut
    have HZ : Aside0 (chkZ s a1 a2 a3 a4 a5 a7 a10 a12 a15 = (chkA s a1 a2 a3 a4 && ((Go.bits .and .u64 a5 2 == 0) && ((Go.bits .and .u64 a10 2 == 0) && ((Go.bits .and .u64 a7 1 == 0) && ((Go.bits .and .u64 a12 1 == 0) && ((a15 / 1152921504606846976 == 0) || (a15 / 1152921504606846976 == 8)))))))) := ⟨rfl⟩
    cases hA : chkA s a1 a2 a3 a4
    · have HA := Aside0.mk hA
      clear hA
      go_wp2
      go_ret
      exact ⟨by rw [HZ.out, HA.out]; rfl, (by repeat (first | (with_reducible first | exact HB.out | exact Below.refl _ _ | apply below_alloc | apply pw_below_drewN | apply below_drew | refine below_set ?_ (by omega)) | exact HB.out))⟩
    · have HA := Aside0.mk hA
      clear hA
      by_cases h0 : Go.bits .and .u64 a5 2 = 0
      · have k0 : (Go.bits .and .u64 a5 2 == 0) = true := beq_iff_eq.mpr h0
        have K0 := Aside0.mk k0
        clear h0
        by_cases h1 : Go.bits .and .u64 a10 2 = 0
        · have k1 : (Go.bits .and .u64 a10 2 == 0) = true := beq_iff_eq.mpr h1
          have K1 := Aside0.mk k1
          clear h1
          by_cases h2 : Go.bits .and .u64 a7 1 = 0
          · have k2 : (Go.bits .and .u64 a7 1 == 0) = true := beq_iff_eq.mpr h2
            have K2 := Aside0.mk k2
            clear h2
            by_cases h3 : Go.bits .and .u64 a12 1 = 0
            · have k3 : (Go.bits .and .u64 a12 1 == 0) = true := beq_iff_eq.mpr h3
              have K3 := Aside0.mk k3
              clear h3
              by_cases h8 : a15 / 1152921504606846976 = 0
              · have k8 : (a15 / 1152921504606846976 == 0) = true := beq_iff_eq.mpr h8
                have K8 := Aside0.mk k8
                clear h8
                go_wp2
                go_ret
                exact ⟨by rw [HZ.out, HA.out, K0.out, K1.out, K2.out, K3.out, K8.out]; first | rfl | simp, (by repeat (first | (with_reducible first | exact HB.out | exact Below.refl _ _ | apply below_alloc | apply pw_below_drewN | apply below_drew | refine below_set ?_ (by omega)) | exact HB.out))⟩
              · have k8 : (a15 / 1152921504606846976 == 0) = false := beq_eq_false_iff_ne.mpr h8
                have K8 := Aside0.mk k8
                clear h8
                go_wp2
                go_ret
                exact ⟨by rw [HZ.out, HA.out, K0.out, K1.out, K2.out, K3.out, K8.out]; first | rfl | simp, (by repeat (first | (with_reducible first | exact HB.out | exact Below.refl _ _ | apply below_alloc | apply pw_below_drewN | apply below_drew | refine below_set ?_ (by omega)) | exact HB.out))⟩
            · have k3 : (Go.bits .and .u64 a12 1 == 0) = false := beq_eq_false_iff_ne.mpr h3
              have K3 := Aside0.mk k3
              clear h3
              go_wp2
              go_ret
              exact ⟨by rw [HZ.out, HA.out, K0.out, K1.out, K2.out, K3.out]; first | rfl | simp, (by repeat (first | (with_reducible first | exact HB.out | exact Below.refl _ _ | apply below_alloc | apply pw_below_drewN | apply below_drew | refine below_set ?_ (by omega)) | exact HB.out))⟩
          · have k2 : (Go.bits .and .u64 a7 1 == 0) = false := beq_eq_false_iff_ne.mpr h2
            have K2 := Aside0.mk k2
            clear h2
            go_wp2
            go_ret
            exact ⟨by rw [HZ.out, HA.out, K0.out, K1.out, K2.out]; first | rfl | simp, (by repeat (first | (with_reducible first | exact HB.out | exact Below.refl _ _ | apply below_alloc | apply pw_below_drewN | apply below_drew | refine below_set ?_ (by omega)) | exact HB.out))⟩
        · have k1 : (Go.bits .and .u64 a10 2 == 0) = false := beq_eq_false_iff_ne.mpr h1
          have K1 := Aside0.mk k1
          clear h1
          go_wp2
          go_ret
          exact ⟨by rw [HZ.out, HA.out, K0.out, K1.out]; first | rfl | simp, (by repeat (first | (with_reducible first | exact HB.out | exact Below.refl _ _ | apply below_alloc | apply pw_below_drewN | apply below_drew | refine below_set ?_ (by omega)) | exact HB.out))⟩
      · have k0 : (Go.bits .and .u64 a5 2 == 0) = false := beq_eq_false_iff_ne.mpr h0
        have K0 := Aside0.mk k0
        clear h0
        go_wp2
        go_ret
        exact ⟨by rw [HZ.out, HA.out, K0.out]; first | rfl | simp, (by repeat (first | (with_reducible first | exact HB.out | exact Below.refl _ _ | apply below_alloc | apply pw_below_drewN | apply below_drew | refine below_set ?_ (by omega)) | exact HB.out))⟩
end
end Go.Proofs.Ytnlmndpdalgppaa.Q
