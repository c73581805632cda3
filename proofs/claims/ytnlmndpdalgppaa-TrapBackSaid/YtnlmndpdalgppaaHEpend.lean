import Derived.Test.YtnlmndpdalgppaaHZ2
import Derived.Test.YtnlmndpdalgppaaWf
import Derived.Deep.DrawnRows
import Derived.Deep.DeepCutAuto
/- trap.Pending, as those who call it have it. -/
namespace Go.Proofs.Ytnlmndpdalgppaa.Q
open Go.RowKit Go.Proofs.YtnlmndpdalgppaaW.PrintWords Go.Proofs.YtnlmndpdalgppaaW.PrintLast Go.Proofs.YtnlmndpdalgppaaW.PrintMore Go.Proofs.Ytnlmndpdalgppaa.L
attribute [local go_sem] Instr.field part asAgg lt_step max2_int min2_int max_two min_two max_three min_three max_four min_four lt_0_1 lt_0_2 lt_1_2 lt_0_3 lt_1_3 lt_2_3 lt_0_4 lt_1_4 lt_2_4 lt_3_4 lt_0_5 lt_1_5 lt_2_5 lt_3_5 lt_4_5 lt_0_6 lt_1_6 lt_2_6 lt_3_6 lt_4_6 lt_5_6 lt_0_7 lt_1_7 lt_2_7 lt_3_7 lt_4_7 lt_5_7 lt_6_7 lt_0_8 lt_1_8 lt_2_8 lt_3_8 lt_4_8 lt_5_8 lt_6_8 lt_7_8
set_option linter.unusedVariables false
set_option linter.unusedSimpArgs false
set_option maxHeartbeats 1600000 in
set_option maxRecDepth 100000 in
theorem order_runs (w : World) : Calls Try.prog 19 #[] w fun e w' => e = .returned (.agg #[.int .i64 11, .int .i64 3, .int .i64 7, .int .i64 9, .int .i64 1, .int .i64 5]) ∧ Below w.heap.size w w' := by
  have HB := Aside0.mk (Below.refl w.heap.size w)
  go_enter Try.func19, Try.ntmps19
  go_wp2
  refine bodyPost_ret (v := .agg #[.int .i64 11, .int .i64 3, .int .i64 7, .int .i64 9, .int .i64 1, .int .i64 5]) (by simp [results, Try.results19, go_sem] <;> first | assumption | omega | (symm; assumption)) rfl ?_
  exact ⟨rfl, (by repeat (first | (with_reducible first | exact HB.out | exact Below.refl _ _ | apply below_alloc | apply pw_below_drewN | apply below_drew | refine below_set ?_ (by omega)) | exact HB.out))⟩
/-- Which interrupts may come. -/
def may1Z (s d priv : Int) : Int := if (decide (priv < 3) || (bitZ s 3 == 1)) = true then Go.bits .or .u64 0 (Go.bits .xor .u64 IntKind.u64.max d) else 0
def may2Z (s d priv : Int) : Int := if (decide (priv < 1) || (decide (priv = 1) && (bitZ s 1 == 1))) = true then Go.bits .or .u64 (may1Z s d priv) d else may1Z s d priv
def innZ (x : Int) (r : Int × Bool) : List Int → Int × Bool
  | [] => r
  | n :: l => if bitZ x n = 1 then (n, true) else innZ x r l
def ordL : List Int := [11, 3, 7, 9, 1, 5]
def remZ (x y : Int) : Nat → Int × Bool
  | 0 => innZ x (innZ y (0, false) ordL) ordL
  | 1 => innZ y (0, false) ordL
  | _ => (0, false)
def pendZ (s d ie ip priv : Int) : Int × Bool := remZ (Go.bits .andNot .u64 (Go.bits .and .u64 (Go.bits .and .u64 ip ie) (may2Z s d priv)) d) (Go.bits .and .u64 (Go.bits .and .u64 (Go.bits .and .u64 ip ie) (may2Z s d priv)) d) 0
section
variable (s a1 a2 a3 a4 a5 a6 a7 a8 a9 a10 a11 a12 a13 a14 a15 a16 priv : Int) (w : World)
set_option maxHeartbeats 1600000 in
set_option maxRecDepth 100000 in
theorem pending_runs (R : Int × Bool) (hR : pendZ s a2 a3 a4 priv = R) : Calls Try.prog 8 #[.agg #[.int .u64 s, .int .u64 a1, .int .u64 a2, .int .u64 a3, .int .u64 a4, .int .u64 a5, .int .u64 a6, .int .u64 a7, .int .u64 a8, .int .u64 a9, .int .u64 a10, .int .u64 a11, .int .u64 a12, .int .u64 a13, .int .u64 a14, .int .u64 a15, .int .u64 a16], .int .i64 priv] w fun e w' => e = .returned (.tuple #[.int .i64 R.1, .bool R.2]) ∧ Below w.heap.size w w' := by
  have HB := Aside0.mk (Below.refl w.heap.size w)
  have HR := Aside0.mk hR
  clear hR
  go_enter Try.func8, Try.ntmps8
  go_upto_region 1 with fail
  go_cut [6] (fun c wx => c = .int .u64 (Go.bits .and .u64 a4 a3) ∧ Aside0 (wx.heap[w.heap.size]? = some (.cells #[.int .u64 s, .int .u64 a1, .int .u64 a2, .int .u64 a3, .int .u64 a4, .int .u64 a5, .int .u64 a6, .int .u64 a7, .int .u64 a8, .int .u64 a9, .int .u64 a10, .int .u64 a11, .int .u64 a12, .int .u64 a13, .int .u64 a14, .int .u64 a15, .int .u64 a16] 24 (0, 0))) ∧ Aside0 (Below w.heap.size w wx))
  case first =>
    go_wp2
    go_meet
    exact ⟨rfl, ⟨(by repeat (with_reducible first | exact nbk _ _ _ (by simp only [sz_alloc, sz_drew, sz_drewN]) | apply ext_drew | apply ext_drewN | apply ext_alloc))⟩, ⟨(by repeat (first | (with_reducible first | exact HB.out | exact Below.refl _ _ | apply below_alloc | apply pw_below_drewN | apply below_drew | refine below_set ?_ (by omega)) | exact HB.out))⟩⟩
  case rest =>
    clear HB
    obtain ⟨rfl, oc, HB⟩ := hcut
    rename World => w1
    obtain ⟨occ, ocf, ocl⟩ := cells_of oc.out
    go_upto_region 3 with fail
    go_cut [24] (fun c wx => c = .bool (decide (priv < 3) || (bitZ s 3 == 1)) ∧ ∃ n, wx = w1.drewN n)
    case first =>
      by_cases hp1 : priv < 3
      · go_wp2_with fail
        go_meet
        exact ⟨by rw [show decide (priv < 3) = true from decide_eq_true hp1]; rfl, 0, rfl⟩
      · go_wp2_with fail
        (go_at_call 18; (with_reducible refine (bit_c _ _ _ (by decide)).mono ?_); rintro e_ w_ ⟨rfl, hd_⟩; obtain ⟨n_, rfl⟩ := hd_.out; clear hd_)
        go_wp2_with fail
        go_meet
        exact ⟨by rw [show decide (priv < 3) = false from decide_eq_false (by omega)]; rfl, _, rfl⟩
    case rest =>
      obtain ⟨rfl, n1, rfl⟩ := hcut
      go_upto_if 24 with fail
      go_cut [7] (fun c wx => c = .int .u64 (may1Z s a2 priv) ∧ ∃ n, wx = w1.drewN n)
      case first =>
        have hm : may1Z s a2 priv = if (decide (priv < 3) || (bitZ s 3 == 1)) = true then Go.bits .or .u64 0 (Go.bits .xor .u64 IntKind.u64.max a2) else 0 := rfl
        have HM := Aside0.mk hm
        clear hm
        cases hc : (decide (priv < 3) || (bitZ s 3 == 1))
        · go_wp2_with fail
          go_meet
          exact ⟨by rw [HM.out, hc]; rfl, _, rfl⟩
        · go_wp2_with fail
          go_meet
          exact ⟨by rw [HM.out, hc]; rfl, _, rfl⟩
      case rest =>
        obtain ⟨rfl, n2, rfl⟩ := hcut
        go_upto_region 5 with fail
        go_cut [41] (fun c wx => c = .bool (decide (priv < 1) || (decide (priv = 1) && (bitZ s 1 == 1))) ∧ ∃ n, wx = w1.drewN n)
        case first =>
          by_cases hp1 : priv < 1
          · go_wp2_with fail
            go_meet
            exact ⟨by rw [show decide (priv < 1) = true from decide_eq_true hp1]; rfl, _, rfl⟩
          · by_cases hp2 : priv = 1
            · have hp3 : (priv == 1) = true := beq_iff_eq.mpr hp2
              subst hp2
              clear hp3
              go_wp2_with fail
              (go_at_call 18; (with_reducible refine (bit_c _ _ _ (by decide)).mono ?_); rintro e_ w_ ⟨rfl, hd_⟩; obtain ⟨n_, rfl⟩ := hd_.out; clear hd_)
              go_wp2_with fail
              go_meet
              exact ⟨rfl, _, rfl⟩
            · have hp3 : (priv == 1) = false := beq_eq_false_iff_ne.mpr hp2
              go_wp2_with fail
              go_meet
              exact ⟨by rw [show decide (priv < 1) = false from decide_eq_false (by omega), show decide (priv = 1) = false from decide_eq_false hp2]; rfl, _, rfl⟩
        case rest =>
          obtain ⟨rfl, n3, rfl⟩ := hcut
          go_upto_if 41 with fail
          go_cut [7] (fun c wx => c = .int .u64 (may2Z s a2 priv) ∧ ∃ n, wx = w1.drewN n)
          case first =>
            have hm : may2Z s a2 priv = if (decide (priv < 1) || (decide (priv = 1) && (bitZ s 1 == 1))) = true then Go.bits .or .u64 (may1Z s a2 priv) a2 else may1Z s a2 priv := rfl
            have HM := Aside0.mk hm
            clear hm
            cases hc : (decide (priv < 1) || (decide (priv = 1) && (bitZ s 1 == 1)))
            · go_wp2_with fail
              go_meet
              exact ⟨by rw [HM.out, hc]; rfl, _, rfl⟩
            · go_wp2_with fail
              go_meet
              exact ⟨by rw [HM.out, hc]; rfl, _, rfl⟩
          case rest =>
            obtain ⟨rfl, n4, rfl⟩ := hcut
            have hR := HR.out
            unfold pendZ at hR
            clear HR
            obtain ⟨x, hx⟩ : ∃ x, Go.bits .andNot .u64 (Go.bits .and .u64 (Go.bits .and .u64 a4 a3) (may2Z s a2 priv)) a2 = x := ⟨_, rfl⟩
            obtain ⟨y, hy⟩ : ∃ y, Go.bits .and .u64 (Go.bits .and .u64 (Go.bits .and .u64 a4 a3) (may2Z s a2 priv)) a2 = y := ⟨_, rfl⟩
            rw [hx, hy] at hR
            have HR := Aside0.mk hR
            have HX := Aside0.mk hx
            have HY := Aside0.mk hy
            clear hR hx hy
            go_upto_block 0 with fail
            rw [HX.out, HY.out]
            clear HX HY
            clear oc occ ocf ocl
            have HB1 : Aside0 (Below w.heap.size w (w1.drewN n4)) := ⟨(by repeat (first | (with_reducible first | exact HB.out | exact Below.refl _ _ | apply below_alloc | apply pw_below_drewN | apply below_drew | refine below_set ?_ (by omega)) | exact HB.out))⟩
            clear HB
            have i0 : ∀ w, (Instr.index 37 (.agg #[.int .u64 x, .int .u64 y]) (.int .i64 0)).run Try.prog w = .ok (.int .u64 x) w := fun _ => by kernel_rfl
            have i1 : ∀ w, (Instr.index 37 (.agg #[.int .u64 x, .int .u64 y]) (.int .i64 1)).run Try.prog w = .ok (.int .u64 y) w := fun _ => by kernel_rfl
            have j0 : ∀ w, (Instr.index 38 (.agg #[.int .i64 11, .int .i64 3, .int .i64 7, .int .i64 9, .int .i64 1, .int .i64 5]) (.int .i64 0)).run Try.prog w = .ok (.int .i64 11) w := fun _ => by kernel_rfl
            have j1 : ∀ w, (Instr.index 38 (.agg #[.int .i64 11, .int .i64 3, .int .i64 7, .int .i64 9, .int .i64 1, .int .i64 5]) (.int .i64 1)).run Try.prog w = .ok (.int .i64 3) w := fun _ => by kernel_rfl
            have j2 : ∀ w, (Instr.index 38 (.agg #[.int .i64 11, .int .i64 3, .int .i64 7, .int .i64 9, .int .i64 1, .int .i64 5]) (.int .i64 2)).run Try.prog w = .ok (.int .i64 7) w := fun _ => by kernel_rfl
            have j3 : ∀ w, (Instr.index 38 (.agg #[.int .i64 11, .int .i64 3, .int .i64 7, .int .i64 9, .int .i64 1, .int .i64 5]) (.int .i64 3)).run Try.prog w = .ok (.int .i64 9) w := fun _ => by kernel_rfl
            have j4 : ∀ w, (Instr.index 38 (.agg #[.int .i64 11, .int .i64 3, .int .i64 7, .int .i64 9, .int .i64 1, .int .i64 5]) (.int .i64 4)).run Try.prog w = .ok (.int .i64 1) w := fun _ => by kernel_rfl
            have j5 : ∀ w, (Instr.index 38 (.agg #[.int .i64 11, .int .i64 3, .int .i64 7, .int .i64 9, .int .i64 1, .int .i64 5]) (.int .i64 5)).run Try.prog w = .ok (.int .i64 5) w := fun _ => by kernel_rfl
            go_wp2_with fail
            go_loopw [59] (fun i wr => ∃ k : Nat, k ≤ 2 ∧ i = .int .i64 k ∧ Aside0 (remZ x y k = R) ∧ Aside0 (Below w.heap.size w wr)) (fun i _ => 2 - (intOf i).toNat)
            case atStart => exact ⟨0, by omega, rfl, HR, HB1⟩
            case round =>
              clear HR HB1
              obtain ⟨k, hk, rfl, HK, HB⟩ := hrel
              rcases (show k = 0 ∨ k = 1 ∨ k = 2 by omega) with rfl | rfl | rfl
              · clear hk
                go_wp2_with fail
                (go_at_call 19; (with_reducible refine (order_runs _).mono ?_); rintro e_ w5 ⟨rfl, hb_⟩; have HB_ : Aside0 (Below w.heap.size w w5) := Aside0.mk (below_step (by repeat (first | (with_reducible first | exact HB.out | exact Below.refl _ _ | apply below_alloc | apply pw_below_drewN | apply below_drew | refine below_set ?_ (by omega)) | exact HB.out)) hb_); have hzw5 := hb_.size; (try simp at hzw5); clear HB hb_; have HB := HB_; clear HB_)
                go_wp2_with fail
                have HI : Aside0 (innZ x (innZ y (0, false) ordL) (ordL.drop 0) = R) := ⟨HK.out⟩
                clear HK
                obtain ⟨wo, hwo⟩ : ∃ wo : World, wo = wr := ⟨_, rfl⟩
                clear hwo
                go_loopw [63] (fun j wq => ∃ m : Nat, m ≤ 6 ∧ j = .int .i64 m ∧ Aside0 (innZ x (innZ y (0, false) ordL) (ordL.drop m) = R) ∧ Aside0 (Below w.heap.size w wq)) (fun j _ => 6 - (intOf j).toNat)
                case atStart => exact ⟨0, by omega, rfl, HI, HB⟩
                case round =>
                  clear HI HB
                  obtain ⟨m, hm, rfl, HM, HB⟩ := hrel
                  rcases (show m = 0 ∨ m = 1 ∨ m = 2 ∨ m = 3 ∨ m = 4 ∨ m = 5 ∨ m = 6 by omega) with rfl | rfl | rfl | rfl | rfl | rfl | rfl
                  · clear hm
                    have hI := HM.out
                    rw [show ordL.drop 0 = 11 :: ordL.drop 1 from rfl, innZ] at hI
                    clear HM
                    by_cases hb : bitZ x 11 = 1
                    · rw [if_pos hb] at hI
                      have HI := Aside0.mk hI
                      have hbb : (bitZ x 11 == 1) = true := beq_iff_eq.mpr hb
                      clear hI hb
                      go_wp2_with fail
                      (go_at_call 18; (with_reducible refine (bit_c _ _ _ (by decide)).mono ?_); rintro e_ w_ ⟨rfl, hd_⟩; obtain ⟨n_, rfl⟩ := hd_.out; clear hd_)
                      go_wp2
                      refine bodyPost_ret (v := .tuple #[.int .i64 11, .bool true]) (by simp [results, Try.results8, go_sem] <;> first | assumption | omega | (symm; assumption)) rfl ?_
                      exact ⟨by rw [← HI.out], (by repeat (first | (with_reducible first | exact HB.out | exact Below.refl _ _ | apply below_alloc | apply pw_below_drewN | apply below_drew | refine below_set ?_ (by omega)) | exact HB.out))⟩
                    · rw [if_neg hb] at hI
                      have HI := Aside0.mk hI
                      have hbb : (bitZ x 11 == 1) = false := beq_eq_false_iff_ne.mpr hb
                      clear hI hb
                      go_wp2_with fail
                      (go_at_call 18; (with_reducible refine (bit_c _ _ _ (by decide)).mono ?_); rintro e_ w_ ⟨rfl, hd_⟩; obtain ⟨n_, rfl⟩ := hd_.out; clear hd_)
                      go_wp2_with fail
                      go_roundw
                      case rel => exact ⟨1, by omega, rfl, HI, ⟨(by repeat (first | (with_reducible first | exact HB.out | exact Below.refl _ _ | apply below_alloc | apply pw_below_drewN | apply below_drew | refine below_set ?_ (by omega)) | exact HB.out))⟩⟩
                      case measure => simp [intOf]
                  · clear hm
                    have hI := HM.out
                    rw [show ordL.drop 1 = 3 :: ordL.drop 2 from rfl, innZ] at hI
                    clear HM
                    by_cases hb : bitZ x 3 = 1
                    · rw [if_pos hb] at hI
                      have HI := Aside0.mk hI
                      have hbb : (bitZ x 3 == 1) = true := beq_iff_eq.mpr hb
                      clear hI hb
                      go_wp2_with fail
                      (go_at_call 18; (with_reducible refine (bit_c _ _ _ (by decide)).mono ?_); rintro e_ w_ ⟨rfl, hd_⟩; obtain ⟨n_, rfl⟩ := hd_.out; clear hd_)
                      go_wp2
                      refine bodyPost_ret (v := .tuple #[.int .i64 3, .bool true]) (by simp [results, Try.results8, go_sem] <;> first | assumption | omega | (symm; assumption)) rfl ?_
                      exact ⟨by rw [← HI.out], (by repeat (first | (with_reducible first | exact HB.out | exact Below.refl _ _ | apply below_alloc | apply pw_below_drewN | apply below_drew | refine below_set ?_ (by omega)) | exact HB.out))⟩
                    · rw [if_neg hb] at hI
                      have HI := Aside0.mk hI
                      have hbb : (bitZ x 3 == 1) = false := beq_eq_false_iff_ne.mpr hb
                      clear hI hb
                      go_wp2_with fail
                      (go_at_call 18; (with_reducible refine (bit_c _ _ _ (by decide)).mono ?_); rintro e_ w_ ⟨rfl, hd_⟩; obtain ⟨n_, rfl⟩ := hd_.out; clear hd_)
                      go_wp2_with fail
                      go_roundw
                      case rel => exact ⟨2, by omega, rfl, HI, ⟨(by repeat (first | (with_reducible first | exact HB.out | exact Below.refl _ _ | apply below_alloc | apply pw_below_drewN | apply below_drew | refine below_set ?_ (by omega)) | exact HB.out))⟩⟩
                      case measure => simp [intOf]
                  · clear hm
                    have hI := HM.out
                    rw [show ordL.drop 2 = 7 :: ordL.drop 3 from rfl, innZ] at hI
                    clear HM
                    by_cases hb : bitZ x 7 = 1
                    · rw [if_pos hb] at hI
                      have HI := Aside0.mk hI
                      have hbb : (bitZ x 7 == 1) = true := beq_iff_eq.mpr hb
                      clear hI hb
                      go_wp2_with fail
                      (go_at_call 18; (with_reducible refine (bit_c _ _ _ (by decide)).mono ?_); rintro e_ w_ ⟨rfl, hd_⟩; obtain ⟨n_, rfl⟩ := hd_.out; clear hd_)
                      go_wp2
                      refine bodyPost_ret (v := .tuple #[.int .i64 7, .bool true]) (by simp [results, Try.results8, go_sem] <;> first | assumption | omega | (symm; assumption)) rfl ?_
                      exact ⟨by rw [← HI.out], (by repeat (first | (with_reducible first | exact HB.out | exact Below.refl _ _ | apply below_alloc | apply pw_below_drewN | apply below_drew | refine below_set ?_ (by omega)) | exact HB.out))⟩
                    · rw [if_neg hb] at hI
                      have HI := Aside0.mk hI
                      have hbb : (bitZ x 7 == 1) = false := beq_eq_false_iff_ne.mpr hb
                      clear hI hb
                      go_wp2_with fail
                      (go_at_call 18; (with_reducible refine (bit_c _ _ _ (by decide)).mono ?_); rintro e_ w_ ⟨rfl, hd_⟩; obtain ⟨n_, rfl⟩ := hd_.out; clear hd_)
                      go_wp2_with fail
                      go_roundw
                      case rel => exact ⟨3, by omega, rfl, HI, ⟨(by repeat (first | (with_reducible first | exact HB.out | exact Below.refl _ _ | apply below_alloc | apply pw_below_drewN | apply below_drew | refine below_set ?_ (by omega)) | exact HB.out))⟩⟩
                      case measure => simp [intOf]
                  · clear hm
                    have hI := HM.out
                    rw [show ordL.drop 3 = 9 :: ordL.drop 4 from rfl, innZ] at hI
                    clear HM
                    by_cases hb : bitZ x 9 = 1
                    · rw [if_pos hb] at hI
                      have HI := Aside0.mk hI
                      have hbb : (bitZ x 9 == 1) = true := beq_iff_eq.mpr hb
                      clear hI hb
                      go_wp2_with fail
                      (go_at_call 18; (with_reducible refine (bit_c _ _ _ (by decide)).mono ?_); rintro e_ w_ ⟨rfl, hd_⟩; obtain ⟨n_, rfl⟩ := hd_.out; clear hd_)
                      go_wp2
                      refine bodyPost_ret (v := .tuple #[.int .i64 9, .bool true]) (by simp [results, Try.results8, go_sem] <;> first | assumption | omega | (symm; assumption)) rfl ?_
                      exact ⟨by rw [← HI.out], (by repeat (first | (with_reducible first | exact HB.out | exact Below.refl _ _ | apply below_alloc | apply pw_below_drewN | apply below_drew | refine below_set ?_ (by omega)) | exact HB.out))⟩
                    · rw [if_neg hb] at hI
                      have HI := Aside0.mk hI
                      have hbb : (bitZ x 9 == 1) = false := beq_eq_false_iff_ne.mpr hb
                      clear hI hb
                      go_wp2_with fail
                      (go_at_call 18; (with_reducible refine (bit_c _ _ _ (by decide)).mono ?_); rintro e_ w_ ⟨rfl, hd_⟩; obtain ⟨n_, rfl⟩ := hd_.out; clear hd_)
                      go_wp2_with fail
                      go_roundw
                      case rel => exact ⟨4, by omega, rfl, HI, ⟨(by repeat (first | (with_reducible first | exact HB.out | exact Below.refl _ _ | apply below_alloc | apply pw_below_drewN | apply below_drew | refine below_set ?_ (by omega)) | exact HB.out))⟩⟩
                      case measure => simp [intOf]
                  · clear hm
                    have hI := HM.out
                    rw [show ordL.drop 4 = 1 :: ordL.drop 5 from rfl, innZ] at hI
                    clear HM
                    by_cases hb : bitZ x 1 = 1
                    · rw [if_pos hb] at hI
                      have HI := Aside0.mk hI
                      have hbb : (bitZ x 1 == 1) = true := beq_iff_eq.mpr hb
                      clear hI hb
                      go_wp2_with fail
                      (go_at_call 18; (with_reducible refine (bit_c _ _ _ (by decide)).mono ?_); rintro e_ w_ ⟨rfl, hd_⟩; obtain ⟨n_, rfl⟩ := hd_.out; clear hd_)
                      go_wp2
                      refine bodyPost_ret (v := .tuple #[.int .i64 1, .bool true]) (by simp [results, Try.results8, go_sem] <;> first | assumption | omega | (symm; assumption)) rfl ?_
                      exact ⟨by rw [← HI.out], (by repeat (first | (with_reducible first | exact HB.out | exact Below.refl _ _ | apply below_alloc | apply pw_below_drewN | apply below_drew | refine below_set ?_ (by omega)) | exact HB.out))⟩
                    · rw [if_neg hb] at hI
                      have HI := Aside0.mk hI
                      have hbb : (bitZ x 1 == 1) = false := beq_eq_false_iff_ne.mpr hb
                      clear hI hb
                      go_wp2_with fail
                      (go_at_call 18; (with_reducible refine (bit_c _ _ _ (by decide)).mono ?_); rintro e_ w_ ⟨rfl, hd_⟩; obtain ⟨n_, rfl⟩ := hd_.out; clear hd_)
                      go_wp2_with fail
                      go_roundw
                      case rel => exact ⟨5, by omega, rfl, HI, ⟨(by repeat (first | (with_reducible first | exact HB.out | exact Below.refl _ _ | apply below_alloc | apply pw_below_drewN | apply below_drew | refine below_set ?_ (by omega)) | exact HB.out))⟩⟩
                      case measure => simp [intOf]
                  · clear hm
                    have hI := HM.out
                    rw [show ordL.drop 5 = 5 :: ordL.drop 6 from rfl, innZ] at hI
                    clear HM
                    by_cases hb : bitZ x 5 = 1
                    · rw [if_pos hb] at hI
                      have HI := Aside0.mk hI
                      have hbb : (bitZ x 5 == 1) = true := beq_iff_eq.mpr hb
                      clear hI hb
                      go_wp2_with fail
                      (go_at_call 18; (with_reducible refine (bit_c _ _ _ (by decide)).mono ?_); rintro e_ w_ ⟨rfl, hd_⟩; obtain ⟨n_, rfl⟩ := hd_.out; clear hd_)
                      go_wp2
                      refine bodyPost_ret (v := .tuple #[.int .i64 5, .bool true]) (by simp [results, Try.results8, go_sem] <;> first | assumption | omega | (symm; assumption)) rfl ?_
                      exact ⟨by rw [← HI.out], (by repeat (first | (with_reducible first | exact HB.out | exact Below.refl _ _ | apply below_alloc | apply pw_below_drewN | apply below_drew | refine below_set ?_ (by omega)) | exact HB.out))⟩
                    · rw [if_neg hb] at hI
                      have HI := Aside0.mk hI
                      have hbb : (bitZ x 5 == 1) = false := beq_eq_false_iff_ne.mpr hb
                      clear hI hb
                      go_wp2_with fail
                      (go_at_call 18; (with_reducible refine (bit_c _ _ _ (by decide)).mono ?_); rintro e_ w_ ⟨rfl, hd_⟩; obtain ⟨n_, rfl⟩ := hd_.out; clear hd_)
                      go_wp2_with fail
                      go_roundw
                      case rel => exact ⟨6, by omega, rfl, HI, ⟨(by repeat (first | (with_reducible first | exact HB.out | exact Below.refl _ _ | apply below_alloc | apply pw_below_drewN | apply below_drew | refine below_set ?_ (by omega)) | exact HB.out))⟩⟩
                      case measure => simp [intOf]
                  · clear hm
                    have HI : Aside0 ((innZ y (0, false) ordL) = R) := ⟨HM.out⟩
                    clear HM
                    go_wp2_with fail
                    go_roundw
                    case rel => exact ⟨1, by omega, rfl, HI, HB⟩
                    case measure => simp [intOf]
              · clear hk
                go_wp2_with fail
                (go_at_call 19; (with_reducible refine (order_runs _).mono ?_); rintro e_ w5 ⟨rfl, hb_⟩; have HB_ : Aside0 (Below w.heap.size w w5) := Aside0.mk (below_step (by repeat (first | (with_reducible first | exact HB.out | exact Below.refl _ _ | apply below_alloc | apply pw_below_drewN | apply below_drew | refine below_set ?_ (by omega)) | exact HB.out)) hb_); have hzw5 := hb_.size; (try simp at hzw5); clear HB hb_; have HB := HB_; clear HB_)
                go_wp2_with fail
                have HI : Aside0 (innZ y (0, false) (ordL.drop 0) = R) := ⟨HK.out⟩
                clear HK
                obtain ⟨wo, hwo⟩ : ∃ wo : World, wo = wr := ⟨_, rfl⟩
                clear hwo
                go_loopw [63] (fun j wq => ∃ m : Nat, m ≤ 6 ∧ j = .int .i64 m ∧ Aside0 (innZ y (0, false) (ordL.drop m) = R) ∧ Aside0 (Below w.heap.size w wq)) (fun j _ => 6 - (intOf j).toNat)
                case atStart => exact ⟨0, by omega, rfl, HI, HB⟩
                case round =>
                  clear HI HB
                  obtain ⟨m, hm, rfl, HM, HB⟩ := hrel
                  rcases (show m = 0 ∨ m = 1 ∨ m = 2 ∨ m = 3 ∨ m = 4 ∨ m = 5 ∨ m = 6 by omega) with rfl | rfl | rfl | rfl | rfl | rfl | rfl
                  · clear hm
                    have hI := HM.out
                    rw [show ordL.drop 0 = 11 :: ordL.drop 1 from rfl, innZ] at hI
                    clear HM
                    by_cases hb : bitZ y 11 = 1
                    · rw [if_pos hb] at hI
                      have HI := Aside0.mk hI
                      have hbb : (bitZ y 11 == 1) = true := beq_iff_eq.mpr hb
                      clear hI hb
                      go_wp2_with fail
                      (go_at_call 18; (with_reducible refine (bit_c _ _ _ (by decide)).mono ?_); rintro e_ w_ ⟨rfl, hd_⟩; obtain ⟨n_, rfl⟩ := hd_.out; clear hd_)
                      go_wp2
                      refine bodyPost_ret (v := .tuple #[.int .i64 11, .bool true]) (by simp [results, Try.results8, go_sem] <;> first | assumption | omega | (symm; assumption)) rfl ?_
                      exact ⟨by rw [← HI.out], (by repeat (first | (with_reducible first | exact HB.out | exact Below.refl _ _ | apply below_alloc | apply pw_below_drewN | apply below_drew | refine below_set ?_ (by omega)) | exact HB.out))⟩
                    · rw [if_neg hb] at hI
                      have HI := Aside0.mk hI
                      have hbb : (bitZ y 11 == 1) = false := beq_eq_false_iff_ne.mpr hb
                      clear hI hb
                      go_wp2_with fail
                      (go_at_call 18; (with_reducible refine (bit_c _ _ _ (by decide)).mono ?_); rintro e_ w_ ⟨rfl, hd_⟩; obtain ⟨n_, rfl⟩ := hd_.out; clear hd_)
                      go_wp2_with fail
                      go_roundw
                      case rel => exact ⟨1, by omega, rfl, HI, ⟨(by repeat (first | (with_reducible first | exact HB.out | exact Below.refl _ _ | apply below_alloc | apply pw_below_drewN | apply below_drew | refine below_set ?_ (by omega)) | exact HB.out))⟩⟩
                      case measure => simp [intOf]
                  · clear hm
                    have hI := HM.out
                    rw [show ordL.drop 1 = 3 :: ordL.drop 2 from rfl, innZ] at hI
                    clear HM
                    by_cases hb : bitZ y 3 = 1
                    · rw [if_pos hb] at hI
                      have HI := Aside0.mk hI
                      have hbb : (bitZ y 3 == 1) = true := beq_iff_eq.mpr hb
                      clear hI hb
                      go_wp2_with fail
                      (go_at_call 18; (with_reducible refine (bit_c _ _ _ (by decide)).mono ?_); rintro e_ w_ ⟨rfl, hd_⟩; obtain ⟨n_, rfl⟩ := hd_.out; clear hd_)
                      go_wp2
                      refine bodyPost_ret (v := .tuple #[.int .i64 3, .bool true]) (by simp [results, Try.results8, go_sem] <;> first | assumption | omega | (symm; assumption)) rfl ?_
                      exact ⟨by rw [← HI.out], (by repeat (first | (with_reducible first | exact HB.out | exact Below.refl _ _ | apply below_alloc | apply pw_below_drewN | apply below_drew | refine below_set ?_ (by omega)) | exact HB.out))⟩
                    · rw [if_neg hb] at hI
                      have HI := Aside0.mk hI
                      have hbb : (bitZ y 3 == 1) = false := beq_eq_false_iff_ne.mpr hb
                      clear hI hb
                      go_wp2_with fail
                      (go_at_call 18; (with_reducible refine (bit_c _ _ _ (by decide)).mono ?_); rintro e_ w_ ⟨rfl, hd_⟩; obtain ⟨n_, rfl⟩ := hd_.out; clear hd_)
                      go_wp2_with fail
                      go_roundw
                      case rel => exact ⟨2, by omega, rfl, HI, ⟨(by repeat (first | (with_reducible first | exact HB.out | exact Below.refl _ _ | apply below_alloc | apply pw_below_drewN | apply below_drew | refine below_set ?_ (by omega)) | exact HB.out))⟩⟩
                      case measure => simp [intOf]
                  · clear hm
                    have hI := HM.out
                    rw [show ordL.drop 2 = 7 :: ordL.drop 3 from rfl, innZ] at hI
                    clear HM
                    by_cases hb : bitZ y 7 = 1
                    · rw [if_pos hb] at hI
                      have HI := Aside0.mk hI
                      have hbb : (bitZ y 7 == 1) = true := beq_iff_eq.mpr hb
                      clear hI hb
                      go_wp2_with fail
                      (go_at_call 18; (with_reducible refine (bit_c _ _ _ (by decide)).mono ?_); rintro e_ w_ ⟨rfl, hd_⟩; obtain ⟨n_, rfl⟩ := hd_.out; clear hd_)
                      go_wp2
                      refine bodyPost_ret (v := .tuple #[.int .i64 7, .bool true]) (by simp [results, Try.results8, go_sem] <;> first | assumption | omega | (symm; assumption)) rfl ?_
                      exact ⟨by rw [← HI.out], (by repeat (first | (with_reducible first | exact HB.out | exact Below.refl _ _ | apply below_alloc | apply pw_below_drewN | apply below_drew | refine below_set ?_ (by omega)) | exact HB.out))⟩
                    · rw [if_neg hb] at hI
                      have HI := Aside0.mk hI
                      have hbb : (bitZ y 7 == 1) = false := beq_eq_false_iff_ne.mpr hb
                      clear hI hb
                      go_wp2_with fail
                      (go_at_call 18; (with_reducible refine (bit_c _ _ _ (by decide)).mono ?_); rintro e_ w_ ⟨rfl, hd_⟩; obtain ⟨n_, rfl⟩ := hd_.out; clear hd_)
                      go_wp2_with fail
                      go_roundw
                      case rel => exact ⟨3, by omega, rfl, HI, ⟨(by repeat (first | (with_reducible first | exact HB.out | exact Below.refl _ _ | apply below_alloc | apply pw_below_drewN | apply below_drew | refine below_set ?_ (by omega)) | exact HB.out))⟩⟩
                      case measure => simp [intOf]
                  · clear hm
                    have hI := HM.out
                    rw [show ordL.drop 3 = 9 :: ordL.drop 4 from rfl, innZ] at hI
                    clear HM
                    by_cases hb : bitZ y 9 = 1
                    · rw [if_pos hb] at hI
                      have HI := Aside0.mk hI
                      have hbb : (bitZ y 9 == 1) = true := beq_iff_eq.mpr hb
                      clear hI hb
                      go_wp2_with fail
                      (go_at_call 18; (with_reducible refine (bit_c _ _ _ (by decide)).mono ?_); rintro e_ w_ ⟨rfl, hd_⟩; obtain ⟨n_, rfl⟩ := hd_.out; clear hd_)
                      go_wp2
                      refine bodyPost_ret (v := .tuple #[.int .i64 9, .bool true]) (by simp [results, Try.results8, go_sem] <;> first | assumption | omega | (symm; assumption)) rfl ?_
                      exact ⟨by rw [← HI.out], (by repeat (first | (with_reducible first | exact HB.out | exact Below.refl _ _ | apply below_alloc | apply pw_below_drewN | apply below_drew | refine below_set ?_ (by omega)) | exact HB.out))⟩
                    · rw [if_neg hb] at hI
                      have HI := Aside0.mk hI
                      have hbb : (bitZ y 9 == 1) = false := beq_eq_false_iff_ne.mpr hb
                      clear hI hb
                      go_wp2_with fail
                      (go_at_call 18; (with_reducible refine (bit_c _ _ _ (by decide)).mono ?_); rintro e_ w_ ⟨rfl, hd_⟩; obtain ⟨n_, rfl⟩ := hd_.out; clear hd_)
                      go_wp2_with fail
                      go_roundw
                      case rel => exact ⟨4, by omega, rfl, HI, ⟨(by repeat (first | (with_reducible first | exact HB.out | exact Below.refl _ _ | apply below_alloc | apply pw_below_drewN | apply below_drew | refine below_set ?_ (by omega)) | exact HB.out))⟩⟩
                      case measure => simp [intOf]
                  · clear hm
                    have hI := HM.out
                    rw [show ordL.drop 4 = 1 :: ordL.drop 5 from rfl, innZ] at hI
                    clear HM
                    by_cases hb : bitZ y 1 = 1
                    · rw [if_pos hb] at hI
                      have HI := Aside0.mk hI
                      have hbb : (bitZ y 1 == 1) = true := beq_iff_eq.mpr hb
                      clear hI hb
                      go_wp2_with fail
                      (go_at_call 18; (with_reducible refine (bit_c _ _ _ (by decide)).mono ?_); rintro e_ w_ ⟨rfl, hd_⟩; obtain ⟨n_, rfl⟩ := hd_.out; clear hd_)
                      go_wp2
                      refine bodyPost_ret (v := .tuple #[.int .i64 1, .bool true]) (by simp [results, Try.results8, go_sem] <;> first | assumption | omega | (symm; assumption)) rfl ?_
                      exact ⟨by rw [← HI.out], (by repeat (first | (with_reducible first | exact HB.out | exact Below.refl _ _ | apply below_alloc | apply pw_below_drewN | apply below_drew | refine below_set ?_ (by omega)) | exact HB.out))⟩
                    · rw [if_neg hb] at hI
                      have HI := Aside0.mk hI
                      have hbb : (bitZ y 1 == 1) = false := beq_eq_false_iff_ne.mpr hb
                      clear hI hb
                      go_wp2_with fail
                      (go_at_call 18; (with_reducible refine (bit_c _ _ _ (by decide)).mono ?_); rintro e_ w_ ⟨rfl, hd_⟩; obtain ⟨n_, rfl⟩ := hd_.out; clear hd_)
                      go_wp2_with fail
                      go_roundw
                      case rel => exact ⟨5, by omega, rfl, HI, ⟨(by repeat (first | (with_reducible first | exact HB.out | exact Below.refl _ _ | apply below_alloc | apply pw_below_drewN | apply below_drew | refine below_set ?_ (by omega)) | exact HB.out))⟩⟩
                      case measure => simp [intOf]
                  · clear hm
                    have hI := HM.out
                    rw [show ordL.drop 5 = 5 :: ordL.drop 6 from rfl, innZ] at hI
                    clear HM
                    by_cases hb : bitZ y 5 = 1
                    · rw [if_pos hb] at hI
                      have HI := Aside0.mk hI
                      have hbb : (bitZ y 5 == 1) = true := beq_iff_eq.mpr hb
                      clear hI hb
                      go_wp2_with fail
                      (go_at_call 18; (with_reducible refine (bit_c _ _ _ (by decide)).mono ?_); rintro e_ w_ ⟨rfl, hd_⟩; obtain ⟨n_, rfl⟩ := hd_.out; clear hd_)
                      go_wp2
                      refine bodyPost_ret (v := .tuple #[.int .i64 5, .bool true]) (by simp [results, Try.results8, go_sem] <;> first | assumption | omega | (symm; assumption)) rfl ?_
                      exact ⟨by rw [← HI.out], (by repeat (first | (with_reducible first | exact HB.out | exact Below.refl _ _ | apply below_alloc | apply pw_below_drewN | apply below_drew | refine below_set ?_ (by omega)) | exact HB.out))⟩
                    · rw [if_neg hb] at hI
                      have HI := Aside0.mk hI
                      have hbb : (bitZ y 5 == 1) = false := beq_eq_false_iff_ne.mpr hb
                      clear hI hb
                      go_wp2_with fail
                      (go_at_call 18; (with_reducible refine (bit_c _ _ _ (by decide)).mono ?_); rintro e_ w_ ⟨rfl, hd_⟩; obtain ⟨n_, rfl⟩ := hd_.out; clear hd_)
                      go_wp2_with fail
                      go_roundw
                      case rel => exact ⟨6, by omega, rfl, HI, ⟨(by repeat (first | (with_reducible first | exact HB.out | exact Below.refl _ _ | apply below_alloc | apply pw_below_drewN | apply below_drew | refine below_set ?_ (by omega)) | exact HB.out))⟩⟩
                      case measure => simp [intOf]
                  · clear hm
                    have HI : Aside0 ((0, false) = R) := ⟨HM.out⟩
                    clear HM
                    go_wp2_with fail
                    go_roundw
                    case rel => exact ⟨2, by omega, rfl, HI, HB⟩
                    case measure => simp [intOf]
              · clear hk
                have HI : Aside0 ((0, false) = R) := ⟨HK.out⟩
                clear HK
                go_wp2
                refine bodyPost_ret (v := .tuple #[.int .i64 0, .bool false]) (by simp [results, Try.results8, go_sem] <;> first | assumption | omega | (symm; assumption)) rfl ?_
                exact ⟨by rw [← HI.out], HB.out⟩
end
def trap_Pending.f (a0_0 : Int) (a0_1 : Int) (a0_2 : Int) (a0_3 : Int) (a0_4 : Int) (a0_5 : Int) (a0_6 : Int) (a0_7 : Int) (a0_8 : Int) (a0_9 : Int) (a0_10 : Int) (a0_11 : Int) (a0_12 : Int) (a0_13 : Int) (a0_14 : Int) (a0_15 : Int) (a0_16 : Int) (a1 : Int) : Option (Int × Bool) := some (pendZ a0_0 a0_2 a0_3 a0_4 a1)
theorem trap_Pending.calls (a0_0 : Int) (a0_1 : Int) (a0_2 : Int) (a0_3 : Int) (a0_4 : Int) (a0_5 : Int) (a0_6 : Int) (a0_7 : Int) (a0_8 : Int) (a0_9 : Int) (a0_10 : Int) (a0_11 : Int) (a0_12 : Int) (a0_13 : Int) (a0_14 : Int) (a0_15 : Int) (a0_16 : Int) (a1 : Int) (r1 : Int) (r2 : Bool) (w : World) (h : trap_Pending.f a0_0 a0_1 a0_2 a0_3 a0_4 a0_5 a0_6 a0_7 a0_8 a0_9 a0_10 a0_11 a0_12 a0_13 a0_14 a0_15 a0_16 a1 = some (r1, r2)) :
    Calls Try.prog 8 #[.agg #[.int .u64 a0_0, .int .u64 a0_1, .int .u64 a0_2, .int .u64 a0_3, .int .u64 a0_4, .int .u64 a0_5, .int .u64 a0_6, .int .u64 a0_7, .int .u64 a0_8, .int .u64 a0_9, .int .u64 a0_10, .int .u64 a0_11, .int .u64 a0_12, .int .u64 a0_13, .int .u64 a0_14, .int .u64 a0_15, .int .u64 a0_16], .int .i64 a1] w fun e w' => e = .returned (.tuple #[.int .i64 r1, .bool r2]) ∧ Below w.heap.size w w' :=
  pending_runs a0_0 a0_1 a0_2 a0_3 a0_4 a0_5 a0_6 a0_7 a0_8 a0_9 a0_10 a0_11 a0_12 a0_13 a0_14 a0_15 a0_16 a1 w (r1, r2) (Option.some.inj h)
end Go.Proofs.Ytnlmndpdalgppaa.Q
