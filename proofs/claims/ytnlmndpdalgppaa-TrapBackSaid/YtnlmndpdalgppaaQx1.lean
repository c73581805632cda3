-- Ytnlmndpdalgppaa: written by a program for this claim (several laws of one seat at once)
import Derived.Test.YtnlmndpdalgppaaQx0
namespace Go.Proofs.Ytnlmndpdalgppaa.Q
open Go.RowKit Go.Proofs.YtnlmndpdalgppaaW.PrintWords Go.Proofs.YtnlmndpdalgppaaW.PrintLast Go.Proofs.YtnlmndpdalgppaaW.PrintMore
attribute [local go_sem] max2_int min2_int max_two min_two max_three min_three max_four min_four   -- for this text's walks alone
set_option linter.unusedVariables false
set_option linter.unusedSimpArgs false

/-! ### drawbridgeref06_bit: function 22 -/
def drawbridgeref06_bit.f (a0 : Int) (a1 : Int) : Option (Int) := if 0 ≤ (IntKind.u64.wrap (a1)) then (some (Int.tmod (shr .u64 a0 (IntKind.u64.wrap (a1))) 2)) else (none)
set_option maxHeartbeats 8000000 in
set_option maxRecDepth 100000 in
theorem drawbridgeref06_bit.calls (a0 : Int) (a1 : Int) (r : Int) (w : World) (h : drawbridgeref06_bit.f a0 a1 = some r) :
    Calls Try.prog 22 #[.int .u64 a0, .int .i64 a1] w fun e w' => e = .returned (.int .u64 r) ∧ Drawn0 w w' := by
  have H : (if 0 ≤ (IntKind.u64.wrap (a1)) then (some (Int.tmod (shr .u64 a0 (IntKind.u64.wrap (a1))) 2)) else (none)) = some r := h
  clear h
  obtain ⟨ji3, hji3⟩ : ∃ j_ : Int, (IntKind.u64.wrap (a1)) = j_ := ⟨_, rfl⟩
  replace H : (if 0 ≤ (ji3) then (some (Int.tmod (shr .u64 a0 (ji3)) 2)) else (none)) = some r := by first | (rw [hji3] at H; exact H) | (simp only [hji3] at H ⊢; exact H)
  by_cases c4 : 0 ≤ (ji3)
  · rw [if_pos c4] at H
    have c4b0 := eq_true c4
    have c4b1 : decide (0 ≤ (ji3)) = true := decide_eq_true c4
    clear c4
    obtain ⟨ji5, hji5⟩ : ∃ j_ : Int, (shr .u64 a0 (ji3)) = j_ := ⟨_, rfl⟩
    replace H : (some (Int.tmod (ji5) 2)) = some r := by first | (rw [hji5] at H; exact H) | (simp only [hji5] at H ⊢; exact H)
    have hji5_ : (a0 / 2 ^ min (ji3).toNat 64) = ji5 := hji5
    have hji5z : (ji3) ≤ 64 → (a0 / 2 ^ (ji3).toNat) = ji5 := shr_small hji5
    obtain rfl := Option.some.inj H
    go_enter Try.func22, Try.ntmps22
    go_wp2
    go_ret
    exact ⟨by first | rfl | (simp; done) | (simp only [← hji3, ← hji5] <;> (first | rfl | simp)) | (simp [*]; done), by repeat (first | exact Drawn0.refl _ | apply Drawn0.step)⟩
  · rw [if_neg c4] at H
    exact absurd H (by simp)

/-! ### drawbridgeref06_with: function 23 -/
def drawbridgeref06_with.f (a0 : Int) (a1 : Int) (a2 : Int) : Option (Int) := if 0 ≤ (IntKind.u64.wrap (a1)) then (some (Go.bits .or .u64 (Go.bits .andNot .u64 a0 (shl .u64 1 (IntKind.u64.wrap (a1)))) (shl .u64 a2 (IntKind.u64.wrap (a1))))) else (none)
set_option maxHeartbeats 8000000 in
set_option maxRecDepth 100000 in
theorem drawbridgeref06_with.calls (a0 : Int) (a1 : Int) (a2 : Int) (r : Int) (w : World) (h : drawbridgeref06_with.f a0 a1 a2 = some r) :
    Calls Try.prog 23 #[.int .u64 a0, .int .i64 a1, .int .u64 a2] w fun e w' => e = .returned (.int .u64 r) ∧ Drawn0 w w' := by
  have H : (if 0 ≤ (IntKind.u64.wrap (a1)) then (some (Go.bits .or .u64 (Go.bits .andNot .u64 a0 (shl .u64 1 (IntKind.u64.wrap (a1)))) (shl .u64 a2 (IntKind.u64.wrap (a1))))) else (none)) = some r := h
  clear h
  obtain ⟨ji4, hji4⟩ : ∃ j_ : Int, (IntKind.u64.wrap (a1)) = j_ := ⟨_, rfl⟩
  replace H : (if 0 ≤ (ji4) then (some (Go.bits .or .u64 (Go.bits .andNot .u64 a0 (shl .u64 1 (ji4))) (shl .u64 a2 (ji4)))) else (none)) = some r := by first | (rw [hji4] at H; exact H) | (simp only [hji4] at H ⊢; exact H)
  by_cases c5 : 0 ≤ (ji4)
  · rw [if_pos c5] at H
    have c5b0 := eq_true c5
    have c5b1 : decide (0 ≤ (ji4)) = true := decide_eq_true c5
    clear c5
    obtain ⟨ji6, hji6⟩ : ∃ j_ : Int, (shl .u64 1 (ji4)) = j_ := ⟨_, rfl⟩
    replace H : (some (Go.bits .or .u64 (Go.bits .andNot .u64 a0 (ji6)) (shl .u64 a2 (ji4)))) = some r := by first | (rw [hji6] at H; exact H) | (simp only [hji6] at H ⊢; exact H)
    have hji6_ : (IntKind.u64.wrap (1 * 2 ^ min (ji4).toNat 64)) = ji6 := hji6
    have hji6z : (ji4) ≤ 64 → (IntKind.u64.wrap (1 * 2 ^ (ji4).toNat)) = ji6 := shl_small hji6
    have hji6u : (IntKind.u64.wrap (2 ^ min (ji4).toNat 64)) = ji6 := by have h_ := hji6_; rw [Int.one_mul] at h_; exact h_
    have hji6v : (ji4) ≤ 64 → (IntKind.u64.wrap (2 ^ (ji4).toNat)) = ji6 := fun hle_ => by have h_ := hji6z hle_; rw [Int.one_mul] at h_; exact h_
    have c7b0 := eq_true (of_decide_eq_true (by first | (with_reducible assumption) | assumption) : 0 ≤ (ji4))
    obtain ⟨ji8, hji8⟩ : ∃ j_ : Int, (shl .u64 a2 (ji4)) = j_ := ⟨_, rfl⟩
    replace H : (some (Go.bits .or .u64 (Go.bits .andNot .u64 a0 (ji6)) (ji8))) = some r := by first | (rw [hji8] at H; exact H) | (simp only [hji8] at H ⊢; exact H)
    have hji8_ : (IntKind.u64.wrap (a2 * 2 ^ min (ji4).toNat 64)) = ji8 := hji8
    have hji8z : (ji4) ≤ 64 → (IntKind.u64.wrap (a2 * 2 ^ (ji4).toNat)) = ji8 := shl_small hji8
    obtain rfl := Option.some.inj H
    go_enter Try.func23, Try.ntmps23
    go_wp2
    go_ret
    exact ⟨by first | rfl | (simp; done) | (simp only [← hji4, ← hji6, ← hji8] <;> (first | rfl | simp)) | (simp [*]; done), by repeat (first | exact Drawn0.refl _ | apply Drawn0.step)⟩
  · rw [if_neg c5] at H
    exact absurd H (by simp)

/-! ### drawbridgeref06_place: function 24 -/
def drawbridgeref06_place.f (a0 : Int) (a1 : Int) (a2 : Bool) : Option (Int) := if a2 = true then (if (Int.tmod a0 2) = 1 then (some (IntKind.u64.wrap ((Go.bits .andNot .u64 a0 3) + (IntKind.u64.wrap (4 * a1))))) else (some (Go.bits .andNot .u64 a0 3))) else (some (Go.bits .andNot .u64 a0 3))
set_option maxHeartbeats 8000000 in
set_option maxRecDepth 100000 in
theorem drawbridgeref06_place.calls (a0 : Int) (a1 : Int) (a2 : Bool) (r : Int) (w : World) (h : drawbridgeref06_place.f a0 a1 a2 = some r) :
    Calls Try.prog 24 #[.int .u64 a0, .int .u64 a1, .bool a2] w fun e w' => e = .returned (.int .u64 r) ∧ Drawn0 w w' := by
  have H : (if a2 = true then (if (Int.tmod a0 2) = 1 then (some (IntKind.u64.wrap ((Go.bits .andNot .u64 a0 3) + (IntKind.u64.wrap (4 * a1))))) else (some (Go.bits .andNot .u64 a0 3))) else (some (Go.bits .andNot .u64 a0 3))) = some r := h
  clear h
  by_cases c4 : a2 = true
  · subst c4
    have H1 : (if (Int.tmod a0 2) = 1 then (some (IntKind.u64.wrap ((Go.bits .andNot .u64 a0 3) + (IntKind.u64.wrap (4 * a1))))) else (some (Go.bits .andNot .u64 a0 3))) = some r := by rw [if_pos rfl] at H; exact H
    clear H
    have H := H1
    clear H1
    by_cases c5 : (Int.tmod a0 2) = 1
    · rw [if_pos c5] at H
      have c5b0 : ((Int.tmod a0 2) == 1) = true := beq_iff_eq.mpr c5
      have c5b1 : ((Int.tmod a0 2) != 1) = false := bne_eq_false_iff_eq.mpr c5
      clear c5
      obtain rfl := Option.some.inj H
      go_enter Try.func24, Try.ntmps24
      go_wp2
      go_ret
      exact ⟨by first | rfl | (simp; done) | (simp [*]; done), by repeat (first | exact Drawn0.refl _ | apply Drawn0.step)⟩
    · rw [if_neg c5] at H
      have c5b0 : ((Int.tmod a0 2) == 1) = false := beq_eq_false_iff_ne.mpr c5
      have c5b1 : ((Int.tmod a0 2) != 1) = true := bne_iff_ne.mpr c5
      obtain rfl := Option.some.inj H
      go_enter Try.func24, Try.ntmps24
      go_wp2
      go_ret
      exact ⟨by first | rfl | (simp; done) | (simp [*]; done), by repeat (first | exact Drawn0.refl _ | apply Drawn0.step)⟩
  · replace c4 := Bool.eq_false_iff.mpr c4
    subst c4
    have H1 : (some (Go.bits .andNot .u64 a0 3)) = some r := by rw [if_neg (show ¬ (false = true) by decide)] at H; exact H
    clear H
    have H := H1
    clear H1
    obtain rfl := Option.some.inj H
    go_enter Try.func24, Try.ntmps24
    go_wp2
    go_ret
    exact ⟨by first | rfl | (simp; done) | (simp [*]; done), by repeat (first | exact Drawn0.refl _ | apply Drawn0.step)⟩

/-! ### drawbridgeref06_first: function 25 -/
def drawbridgeref06_first.l0 : Nat → Int → List Int → Int → Option (Int × Bool)
  | 0, _, _, _ => none
  | k + 1, x0, x4, x5 => if x5 < (x4.length : Int) then (if 0 ≤ x5 then ((drawbridgeref06_bit.f x0 (rd x4 x5)).bind fun t105 => (if t105 = 1 then (some (rd x4 x5, true)) else (drawbridgeref06_first.l0 k x0 x4 (wrap64 (x5 + 1))))) else (none)) else (some (0, false))
def drawbridgeref06_first.f (k : Nat) (a0 : Int) : Option (Int × Bool) := drawbridgeref06_first.l0 k a0 (([11, 3, 7, 9, 1, 5] : List Int)) 0
theorem drawbridgeref06_first.mono_l : ∀ k, (∀ y0 y1 y2, LeO (drawbridgeref06_first.l0 k y0 y1 y2) (drawbridgeref06_first.l0 (k + 1) y0 y1 y2))
  | 0 => fun _ _ _ r h => by simp [drawbridgeref06_first.l0] at h
  | k + 1 => by
    have ih0 := drawbridgeref06_first.mono_l k
    · intro y0 y1 y2
      unfold drawbridgeref06_first.l0
      repeat' first
      | (with_reducible exact ih0 _ _ _)
      | (with_reducible exact LeO.refl _)
      | (with_reducible exact LeO.none _)
      | (with_reducible refine LeO.ite ?_ ?_)
      | (with_reducible refine LeO.bind ?_ (fun _ => ?_))
      | exact ih0 _ _ _
      | exact LeO.none _
      | refine LeO.ite ?_ ?_
      | refine LeO.bind ?_ (fun _ => ?_)
theorem drawbridgeref06_first.mono : ∀ a0 k, LeO (drawbridgeref06_first.f k a0) (drawbridgeref06_first.f (k + 1) a0) := by
  intro a0 k
  have ih0 := drawbridgeref06_first.mono_l k
  unfold drawbridgeref06_first.f
  repeat' first
      | (with_reducible exact ih0 _ _ _)
      | (with_reducible exact LeO.refl _)
      | (with_reducible exact LeO.none _)
      | (with_reducible refine LeO.ite ?_ ?_)
      | (with_reducible refine LeO.bind ?_ (fun _ => ?_))
      | exact ih0 _ _ _
      | exact LeO.none _
      | refine LeO.ite ?_ ?_
      | refine LeO.bind ?_ (fun _ => ?_)
set_option maxHeartbeats 8000000 in
set_option maxRecDepth 100000 in
theorem drawbridgeref06_first.calls (k : Nat) (a0 : Int) (r1 : Int) (r2 : Bool) (w : World) (h : drawbridgeref06_first.f k a0 = some (r1, r2)) :
    Calls Try.prog 25 #[.int .u64 a0] w fun e w' => e = .returned (.tuple #[.int .i64 r1, .bool r2]) ∧ Below w.heap.size w w' := by
  have HB := Aside0.mk (Below.refl w.heap.size w)
  have H : (drawbridgeref06_first.l0 k a0 (([11, 3, 7, 9, 1, 5] : List Int)) 0) = some (r1, r2) := h
  clear h
  obtain ⟨y101, hy101⟩ : ∃ y_ : List Int, y_ = (([11, 3, 7, 9, 1, 5] : List Int)) := ⟨_, rfl⟩
  replace H : (drawbridgeref06_first.l0 k a0 y101 0) = some (r1, r2) := by first | (rw [hy101]; with_reducible exact H) | (have H2_ := (Option.bind_some _ _).symm.trans H; rw [hy101]; with_reducible exact H2_) | (have H2_ := (Option.bind_some _ _).symm.trans H; with_reducible exact H2_) | with_reducible exact H | (rw [hy101]; exact H) | exact H
  have Ny101 := Aside0.mk hy101
  clear hy101
  have H' := Aside0.mk H
  clear H
  go_enter Try.func25, Try.ntmps25
  go_wp2_with (first | ((with_reducible refine gate_dst (N := 6) rfl ?_); refine Kd.R_lit (Kd.int .i64) _ 3 ?hg (N := 6) ?hd (xs := ([11, 3, 7, 9, 1, 5] : List Int)) (inner := [.int .i64 11, .int .i64 3, .int .i64 7, .int .i64 9, .int .i64 1, .int .i64 5]) (ok := fun _ => True) (okp := fun _ => True) ?hr ?hp (fun _ hk => hk) trivial (Below.refl _ _) (Nat.le_refl _) (by simp) ?_; (case hd => rfl); (case hg => rfl); (case hr => first | (go_simp; done) | (go_simp; rfl)); (case hp => exact (Reps.one (show Kd.M (Kd.int .i64) _ _ _ 11 [.int .i64 11] from rfl) (Reps.one (show Kd.M (Kd.int .i64) _ _ _ 3 [.int .i64 3] from rfl) (Reps.one (show Kd.M (Kd.int .i64) _ _ _ 7 [.int .i64 7] from rfl) (Reps.one (show Kd.M (Kd.int .i64) _ _ _ 9 [.int .i64 9] from rfl) (Reps.one (show Kd.M (Kd.int .i64) _ _ _ 1 [.int .i64 1] from rfl) (Reps.one (show Kd.M (Kd.int .i64) _ _ _ 5 [.int .i64 5] from rfl) (Reps.none _ _)))))))); intro v102 w2 ho3 hb hg_ hnew_; clear hg_ hnew_; (first | rw [← Ny101.out] at ho3 | (simp only [Int.reduceToNat] at ho3; rw [← Ny101.out] at ho3)); have n0_ := Aside0.mk (Kd.R_lower ho3 (below_size (by repeat (first | (with_reducible first | exact HB.out | apply below_alloc | apply pw_below_drewN | apply below_drew1) | exact HB.out)))); have n1_ := Aside0.mk (below_step (by repeat (first | (with_reducible first | exact HB.out | apply below_alloc | apply pw_below_drewN | apply below_drew1) | exact HB.out)) hb); clear HB; have HO103 := n0_; have HB := n1_; clear n0_ n1_; clear hb ho3))
  go_loopg [5] k (fun kq v5 w' => ∃ (x5_1 : Int), v5 = .int .i64 x5_1 ∧ Aside0 (drawbridgeref06_first.l0 kq a0 y101 x5_1 = some (r1, r2)) ∧ Aside0 (kq ≤ k) ∧ Aside0 (Kd.R (Kd.int .i64) 3 w' w.heap.size (fun _ => True) v102 y101) ∧ Aside0 (Below w.heap.size w w'))
  case atStart => exact ⟨(0), (by first | rfl | (simp; done) | (simp [*]; done)), H', ⟨Nat.le_refl _⟩, ⟨by (with_reducible repeat (first | apply Kd.R_alloc | apply Kd.R_drewN | apply Kd.R_drew)); exact HO103.out⟩, ⟨by repeat (first | (with_reducible first | exact HB.out | apply below_alloc | apply pw_below_drewN | apply below_drew1) | exact HB.out)⟩⟩
  case round =>
    clear H'
    try clear c2
    try clear p2
    obtain ⟨x5_1, rfl, HA, HK1, HO_4, HB⟩ := hrel
    cases gk with
    | zero => exact absurd HA.out (by simp [drawbridgeref06_first.l0])
    | succ k1 =>
      have H := HA.out
      clear HA
      simp only [drawbridgeref06_first.l0] at H
      by_cases c4 : x5_1 < (y101.length : Int)
      · rw [if_pos c4] at H
        have c4b0 : decide (x5_1 < (y101.length : Int)) = true := decide_eq_true c4
        clear c4
        by_cases c5 : 0 ≤ x5_1
        · rw [if_pos c5] at H
          have c5b0 : decide (0 ≤ x5_1) = true := decide_eq_true c5
          clear c5
          replace H := Option.bind_eq_some_iff.mp H
          obtain ⟨t105, A60, H⟩ := H
          replace H : (if t105 = 1 then (some (rd y101 x5_1, true)) else (drawbridgeref06_first.l0 k1 a0 y101 (wrap64 (x5_1 + 1)))) = some (r1, r2) := H
          have A6 := Aside0.mk A60
          clear A60
          by_cases c7 : t105 = 1
          · rw [if_pos c7] at H
            have c7b0 : (t105 == 1) = true := beq_iff_eq.mpr c7
            have c7b1 : (t105 != 1) = false := bne_eq_false_iff_eq.mpr c7
            clear c7
            simp only [Option.some.injEq, Prod.mk.injEq] at H
            obtain ⟨rfl, rfl⟩ := H
            obtain ⟨Ao8, co8, eo8⟩ := Kd.R_slice HO_4.out
            subst eo8
            have p104 : 0 ≤ (x5_1 : Int) := of_decide_eq_true (by first | (with_reducible assumption) | assumption)
            have q104 : x5_1 < (y101.length : Int) := of_decide_eq_true (by first | (with_reducible assumption) | assumption)
            obtain ⟨ad104, e104, hx104_0⟩ := Kd.at_int (Kd.R_reads' HO_4.out).2.2 x5_1 p104 q104
            cases e104
            replace p104 := eq_true p104
            replace q104 := eq_true q104
            go_wp2_with (first | ((with_reducible refine gate_callee (f := 22) rfl ?_); refine goesL_ (some 18) rfl rfl Try.func22 (by kernel_rfl) rfl #[.int .u64 a0, .int .i64 (rd y101 x5_1)] rfl (by (try simp only [List.map_toArray, List.map_cons, List.map_nil]); first | done | rfl | (simp only [List.length_drop, List.length_take]; rfl)) ?_; (with_reducible refine (drawbridgeref06_bit.calls a0 (rd y101 x5_1) t105 _ A6.out).mono ?_); rintro e w' ⟨rfl, ⟨nd, rfl⟩⟩; refine ⟨_, rfl, ?_⟩; have p106 : 0 ≤ (x5_1 : Int) := of_decide_eq_true (by first | (with_reducible assumption) | assumption); have q106 : x5_1 < (y101.length : Int) := of_decide_eq_true (by first | (with_reducible assumption) | assumption); obtain ⟨ad106, e106, hx106_0⟩ := Kd.at_int (Kd.R_reads' HO_4.out).2.2 x5_1 p106 q106; obtain rfl : ad104 = ad106 := (by injection e106); replace p106 := eq_true p106; replace q106 := eq_true q106))
            go_ret2
            exact ⟨by first | rfl | (simp [errW_none, errW_some] <;> rfl) | (simp [*, errW_none, errW_some] <;> rfl), by repeat (first | (with_reducible first | exact HB.out | apply below_alloc | apply pw_below_drewN | apply below_drew1) | exact HB.out)⟩
          · rw [if_neg c7] at H
            have c7b0 : (t105 == 1) = false := beq_eq_false_iff_ne.mpr c7
            have c7b1 : (t105 != 1) = true := bne_iff_ne.mpr c7
            have H' := Aside0.mk H
            clear H
            obtain ⟨Ao9, co9, eo9⟩ := Kd.R_slice HO_4.out
            subst eo9
            have p104 : 0 ≤ (x5_1 : Int) := of_decide_eq_true (by first | (with_reducible assumption) | assumption)
            have q104 : x5_1 < (y101.length : Int) := of_decide_eq_true (by first | (with_reducible assumption) | assumption)
            obtain ⟨ad104, e104, hx104_0⟩ := Kd.at_int (Kd.R_reads' HO_4.out).2.2 x5_1 p104 q104
            cases e104
            replace p104 := eq_true p104
            replace q104 := eq_true q104
            go_wp2_with (first | ((with_reducible refine gate_callee (f := 22) rfl ?_); refine goesL_ (some 18) rfl rfl Try.func22 (by kernel_rfl) rfl #[.int .u64 a0, .int .i64 (rd y101 x5_1)] rfl (by (try simp only [List.map_toArray, List.map_cons, List.map_nil]); first | done | rfl | (simp only [List.length_drop, List.length_take]; rfl)) ?_; (with_reducible refine (drawbridgeref06_bit.calls a0 (rd y101 x5_1) t105 _ A6.out).mono ?_); rintro e w' ⟨rfl, ⟨nd, rfl⟩⟩; refine ⟨_, rfl, ?_⟩))
            go_roundg k1
            case measure => have := HK1.out; omega
            case rel => exact ⟨(wrap64 (x5_1 + 1)), (by first | rfl | (simp; done) | (simp [*]; done)), H', ⟨by have := HK1.out; omega⟩, ⟨by (with_reducible repeat (first | apply Kd.R_alloc | apply Kd.R_drewN | apply Kd.R_drew)); exact HO_4.out⟩, ⟨by repeat (first | (with_reducible first | exact HB.out | apply below_alloc | apply pw_below_drewN | apply below_drew1) | exact HB.out)⟩⟩
        · rw [if_neg c5] at H
          exact absurd H (by simp)
      · rw [if_neg c4] at H
        have c4b0 : decide (x5_1 < (y101.length : Int)) = false := decide_eq_false c4
        clear c4
        simp only [Option.some.injEq, Prod.mk.injEq] at H
        obtain ⟨rfl, rfl⟩ := H
        obtain ⟨Ao10, co10, eo10⟩ := Kd.R_slice HO_4.out
        subst eo10
        go_wp2
        go_ret2
        exact ⟨by first | rfl | (simp [errW_none, errW_some] <;> rfl) | (simp [*, errW_none, errW_some] <;> rfl), by repeat (first | (with_reducible first | exact HB.out | apply below_alloc | apply pw_below_drewN | apply below_drew1) | exact HB.out)⟩

/-! ### drawbridgeref06_Pending: function 16 -/
mutual
def drawbridgeref06_Pending.j0 : Nat → Int → Int → Bool → Int → Int → Int → Int → Int → Int → Int → Int → Int → Int → Int → Int → Int → Int → Int → Int → Int → Option (Int × Bool)
  | 0, _, _, _, _, _, _, _, _, _, _, _, _, _, _, _, _, _, _, _, _ => none
  | k + 1, x1, x6, x21, x108000, x108001, x108002, x108003, x108004, x108005, x108006, x108007, x108008, x108009, x108010, x108011, x108012, x108013, x108014, x108015, x108016 => if x21 = true then ((drawbridgeref06_first.f k (Go.bits .andNot .u64 x6 x108002)).bind fun bt109 => (if bt109.2 = true then (some (bt109.1, true)) else (drawbridgeref06_Pending.j1 k x1 x6 x108000 x108001 x108002 x108003 x108004 x108005 x108006 x108007 x108008 x108009 x108010 x108011 x108012 x108013 x108014 x108015 x108016))) else (drawbridgeref06_Pending.j1 k x1 x6 x108000 x108001 x108002 x108003 x108004 x108005 x108006 x108007 x108008 x108009 x108010 x108011 x108012 x108013 x108014 x108015 x108016)
def drawbridgeref06_Pending.j1 : Nat → Int → Int → Int → Int → Int → Int → Int → Int → Int → Int → Int → Int → Int → Int → Int → Int → Int → Int → Int → Option (Int × Bool)
  | 0, _, _, _, _, _, _, _, _, _, _, _, _, _, _, _, _, _, _, _ => none
  | k + 1, x1, x6, x108000, x108001, x108002, x108003, x108004, x108005, x108006, x108007, x108008, x108009, x108010, x108011, x108012, x108013, x108014, x108015, x108016 => if x1 < 1 then ((drawbridgeref06_first.f k (Go.bits .and .u64 x6 x108002)).bind fun bt111 => (some (bt111.1, bt111.2))) else (if x1 = 1 then ((drawbridgeref06_bit.f x108000 1).bind fun t113 => (if t113 = 1 then ((drawbridgeref06_first.f k (Go.bits .and .u64 x6 x108002)).bind fun bt114 => (some (bt114.1, bt114.2))) else (some (0, false)))) else (some (0, false)))
end
def drawbridgeref06_Pending.f (k : Nat) (a0_0 : Int) (a0_1 : Int) (a0_2 : Int) (a0_3 : Int) (a0_4 : Int) (a0_5 : Int) (a0_6 : Int) (a0_7 : Int) (a0_8 : Int) (a0_9 : Int) (a0_10 : Int) (a0_11 : Int) (a0_12 : Int) (a0_13 : Int) (a0_14 : Int) (a0_15 : Int) (a0_16 : Int) (a1 : Int) : Option (Int × Bool) := if a1 < 3 then (drawbridgeref06_Pending.j0 k a1 (Go.bits .and .u64 a0_4 a0_3) true a0_0 a0_1 a0_2 a0_3 a0_4 a0_5 a0_6 a0_7 a0_8 a0_9 a0_10 a0_11 a0_12 a0_13 a0_14 a0_15 a0_16) else ((drawbridgeref06_bit.f a0_0 3).bind fun t108 => (drawbridgeref06_Pending.j0 k a1 (Go.bits .and .u64 a0_4 a0_3) (t108 == 1) a0_0 a0_1 a0_2 a0_3 a0_4 a0_5 a0_6 a0_7 a0_8 a0_9 a0_10 a0_11 a0_12 a0_13 a0_14 a0_15 a0_16))
theorem drawbridgeref06_Pending.mono_l : ∀ k, (∀ y0 y1 y2 y3 y4 y5 y6 y7 y8 y9 y10 y11 y12 y13 y14 y15 y16 y17 y18 y19, LeO (drawbridgeref06_Pending.j0 k y0 y1 y2 y3 y4 y5 y6 y7 y8 y9 y10 y11 y12 y13 y14 y15 y16 y17 y18 y19) (drawbridgeref06_Pending.j0 (k + 1) y0 y1 y2 y3 y4 y5 y6 y7 y8 y9 y10 y11 y12 y13 y14 y15 y16 y17 y18 y19)) ∧ (∀ y0 y1 y2 y3 y4 y5 y6 y7 y8 y9 y10 y11 y12 y13 y14 y15 y16 y17 y18, LeO (drawbridgeref06_Pending.j1 k y0 y1 y2 y3 y4 y5 y6 y7 y8 y9 y10 y11 y12 y13 y14 y15 y16 y17 y18) (drawbridgeref06_Pending.j1 (k + 1) y0 y1 y2 y3 y4 y5 y6 y7 y8 y9 y10 y11 y12 y13 y14 y15 y16 y17 y18))
  | 0 => ⟨fun _ _ _ _ _ _ _ _ _ _ _ _ _ _ _ _ _ _ _ _ r h => by simp [drawbridgeref06_Pending.j0] at h, fun _ _ _ _ _ _ _ _ _ _ _ _ _ _ _ _ _ _ _ r h => by simp [drawbridgeref06_Pending.j1] at h⟩
  | k + 1 => by
    obtain ⟨ih0, ih1⟩ := drawbridgeref06_Pending.mono_l k
    refine ⟨?_, ?_⟩
    · intro y0 y1 y2 y3 y4 y5 y6 y7 y8 y9 y10 y11 y12 y13 y14 y15 y16 y17 y18 y19
      unfold drawbridgeref06_Pending.j0
      repeat' first
      | (with_reducible exact ih0 _ _ _ _ _ _ _ _ _ _ _ _ _ _ _ _ _ _ _ _)
      | (with_reducible exact ih1 _ _ _ _ _ _ _ _ _ _ _ _ _ _ _ _ _ _ _)
      | (with_reducible exact drawbridgeref06_first.mono _ _)
      | (with_reducible exact LeO.refl _)
      | (with_reducible exact LeO.none _)
      | (with_reducible refine LeO.ite ?_ ?_)
      | (with_reducible refine LeO.bind ?_ (fun _ => ?_))
      | exact ih0 _ _ _ _ _ _ _ _ _ _ _ _ _ _ _ _ _ _ _ _
      | exact ih1 _ _ _ _ _ _ _ _ _ _ _ _ _ _ _ _ _ _ _
      | exact drawbridgeref06_first.mono _ _
      | exact LeO.none _
      | refine LeO.ite ?_ ?_
      | refine LeO.bind ?_ (fun _ => ?_)
    · intro y0 y1 y2 y3 y4 y5 y6 y7 y8 y9 y10 y11 y12 y13 y14 y15 y16 y17 y18
      unfold drawbridgeref06_Pending.j1
      repeat' first
      | (with_reducible exact ih0 _ _ _ _ _ _ _ _ _ _ _ _ _ _ _ _ _ _ _ _)
      | (with_reducible exact ih1 _ _ _ _ _ _ _ _ _ _ _ _ _ _ _ _ _ _ _)
      | (with_reducible exact drawbridgeref06_first.mono _ _)
      | (with_reducible exact LeO.refl _)
      | (with_reducible exact LeO.none _)
      | (with_reducible refine LeO.ite ?_ ?_)
      | (with_reducible refine LeO.bind ?_ (fun _ => ?_))
      | exact ih0 _ _ _ _ _ _ _ _ _ _ _ _ _ _ _ _ _ _ _ _
      | exact ih1 _ _ _ _ _ _ _ _ _ _ _ _ _ _ _ _ _ _ _
      | exact drawbridgeref06_first.mono _ _
      | exact LeO.none _
      | refine LeO.ite ?_ ?_
      | refine LeO.bind ?_ (fun _ => ?_)
theorem drawbridgeref06_Pending.mono : ∀ a0 a1 a2 a3 a4 a5 a6 a7 a8 a9 a10 a11 a12 a13 a14 a15 a16 a17 k, LeO (drawbridgeref06_Pending.f k a0 a1 a2 a3 a4 a5 a6 a7 a8 a9 a10 a11 a12 a13 a14 a15 a16 a17) (drawbridgeref06_Pending.f (k + 1) a0 a1 a2 a3 a4 a5 a6 a7 a8 a9 a10 a11 a12 a13 a14 a15 a16 a17) := by
  intro a0 a1 a2 a3 a4 a5 a6 a7 a8 a9 a10 a11 a12 a13 a14 a15 a16 a17 k
  obtain ⟨ih0, ih1⟩ := drawbridgeref06_Pending.mono_l k
  unfold drawbridgeref06_Pending.f
  repeat' first
      | (with_reducible exact ih0 _ _ _ _ _ _ _ _ _ _ _ _ _ _ _ _ _ _ _ _)
      | (with_reducible exact ih1 _ _ _ _ _ _ _ _ _ _ _ _ _ _ _ _ _ _ _)
      | (with_reducible exact drawbridgeref06_first.mono _ _)
      | (with_reducible exact LeO.refl _)
      | (with_reducible exact LeO.none _)
      | (with_reducible refine LeO.ite ?_ ?_)
      | (with_reducible refine LeO.bind ?_ (fun _ => ?_))
      | exact ih0 _ _ _ _ _ _ _ _ _ _ _ _ _ _ _ _ _ _ _ _
      | exact ih1 _ _ _ _ _ _ _ _ _ _ _ _ _ _ _ _ _ _ _
      | exact drawbridgeref06_first.mono _ _
      | exact LeO.none _
      | refine LeO.ite ?_ ?_
      | refine LeO.bind ?_ (fun _ => ?_)
set_option maxHeartbeats 8000000 in
set_option maxRecDepth 100000 in
theorem drawbridgeref06_Pending.calls (k : Nat) (a0_0 : Int) (a0_1 : Int) (a0_2 : Int) (a0_3 : Int) (a0_4 : Int) (a0_5 : Int) (a0_6 : Int) (a0_7 : Int) (a0_8 : Int) (a0_9 : Int) (a0_10 : Int) (a0_11 : Int) (a0_12 : Int) (a0_13 : Int) (a0_14 : Int) (a0_15 : Int) (a0_16 : Int) (a1 : Int) (r1 : Int) (r2 : Bool) (w : World) (h : drawbridgeref06_Pending.f k a0_0 a0_1 a0_2 a0_3 a0_4 a0_5 a0_6 a0_7 a0_8 a0_9 a0_10 a0_11 a0_12 a0_13 a0_14 a0_15 a0_16 a1 = some (r1, r2)) :
    Calls Try.prog 16 #[.agg #[.int .u64 a0_0, .int .u64 a0_1, .int .u64 a0_2, .int .u64 a0_3, .int .u64 a0_4, .int .u64 a0_5, .int .u64 a0_6, .int .u64 a0_7, .int .u64 a0_8, .int .u64 a0_9, .int .u64 a0_10, .int .u64 a0_11, .int .u64 a0_12, .int .u64 a0_13, .int .u64 a0_14, .int .u64 a0_15, .int .u64 a0_16], .int .i64 a1] w fun e w' => e = .returned (.tuple #[.int .i64 r1, .bool r2]) ∧ Below w.heap.size w w' := by
  have hu24 := Try.underlying24
  have HB := Aside0.mk (Below.refl w.heap.size w)
  have H : (if a1 < 3 then (drawbridgeref06_Pending.j0 k a1 (Go.bits .and .u64 a0_4 a0_3) true a0_0 a0_1 a0_2 a0_3 a0_4 a0_5 a0_6 a0_7 a0_8 a0_9 a0_10 a0_11 a0_12 a0_13 a0_14 a0_15 a0_16) else ((drawbridgeref06_bit.f a0_0 3).bind fun t108 => (drawbridgeref06_Pending.j0 k a1 (Go.bits .and .u64 a0_4 a0_3) (t108 == 1) a0_0 a0_1 a0_2 a0_3 a0_4 a0_5 a0_6 a0_7 a0_8 a0_9 a0_10 a0_11 a0_12 a0_13 a0_14 a0_15 a0_16))) = some (r1, r2) := h
  clear h
  have HC3 := Aside0.mk H
  clear H
  go_enter Try.func16, Try.ntmps16
  go_upto_region 2 with (first | ((with_reducible refine gate_dst (N := 2) rfl ?_); refine box_event ?hg (N := 2) ?hd (cs := #[.int .u64 a0_0, .int .u64 a0_1, .int .u64 a0_2, .int .u64 a0_3, .int .u64 a0_4, .int .u64 a0_5, .int .u64 a0_6, .int .u64 a0_7, .int .u64 a0_8, .int .u64 a0_9, .int .u64 a0_10, .int .u64 a0_11, .int .u64 a0_12, .int .u64 a0_13, .int .u64 a0_14, .int .u64 a0_15, .int .u64 a0_16]) (t := 24) ?hr ?_; (case hd => rfl); (case hg => rfl); (case hr => first | (go_simp; done) | (go_simp; rfl)); intro gb107 hg w4 hbox hb; have n0_ := Aside0.mk (below_step (by repeat (first | (with_reducible first | exact HB.out | apply below_alloc | apply pw_below_drewN | apply below_drew1) | exact HB.out)) hb); have n1_ := Aside0.mk (hbox); have n2_ := Aside0.mk ((by rw [hg]; exact (below_size (by repeat (first | (with_reducible first | exact HB.out | apply below_alloc | apply pw_below_drewN | apply below_drew1) | exact HB.out))) : w.heap.size ≤ gb107)); have n3_ := Aside0.mk ((by rw [hg]; exact (below_size (by repeat (first | (with_reducible first | exact HB.out | apply below_alloc | apply pw_below_drewN | apply below_drew1) | exact HB.out))) : w.heap.size ≤ gb107)); clear HB; have HB := n0_; have BK107 := n1_; have GW107 := n2_; have GE107 := n3_; clear n0_ n1_ n2_ n3_; clear hb hbox hg; have hcz5_0 : w4.cell? ⟨gb107, 0, none⟩ = some (.int .u64 a0_0) := (blk_cell BK107.out 0).trans rfl; have hcz5_1 : w4.cell? ⟨gb107, 1, none⟩ = some (.int .u64 a0_1) := (blk_cell BK107.out 1).trans rfl; have hcz5_2 : w4.cell? ⟨gb107, 2, none⟩ = some (.int .u64 a0_2) := (blk_cell BK107.out 2).trans rfl; have hcz5_3 : w4.cell? ⟨gb107, 3, none⟩ = some (.int .u64 a0_3) := (blk_cell BK107.out 3).trans rfl; have hcz5_4 : w4.cell? ⟨gb107, 4, none⟩ = some (.int .u64 a0_4) := (blk_cell BK107.out 4).trans rfl; have hcz5_5 : w4.cell? ⟨gb107, 5, none⟩ = some (.int .u64 a0_5) := (blk_cell BK107.out 5).trans rfl; have hcz5_6 : w4.cell? ⟨gb107, 6, none⟩ = some (.int .u64 a0_6) := (blk_cell BK107.out 6).trans rfl; have hcz5_7 : w4.cell? ⟨gb107, 7, none⟩ = some (.int .u64 a0_7) := (blk_cell BK107.out 7).trans rfl; have hcz5_8 : w4.cell? ⟨gb107, 8, none⟩ = some (.int .u64 a0_8) := (blk_cell BK107.out 8).trans rfl; have hcz5_9 : w4.cell? ⟨gb107, 9, none⟩ = some (.int .u64 a0_9) := (blk_cell BK107.out 9).trans rfl; have hcz5_10 : w4.cell? ⟨gb107, 10, none⟩ = some (.int .u64 a0_10) := (blk_cell BK107.out 10).trans rfl; have hcz5_11 : w4.cell? ⟨gb107, 11, none⟩ = some (.int .u64 a0_11) := (blk_cell BK107.out 11).trans rfl; have hcz5_12 : w4.cell? ⟨gb107, 12, none⟩ = some (.int .u64 a0_12) := (blk_cell BK107.out 12).trans rfl; have hcz5_13 : w4.cell? ⟨gb107, 13, none⟩ = some (.int .u64 a0_13) := (blk_cell BK107.out 13).trans rfl; have hcz5_14 : w4.cell? ⟨gb107, 14, none⟩ = some (.int .u64 a0_14) := (blk_cell BK107.out 14).trans rfl; have hcz5_15 : w4.cell? ⟨gb107, 15, none⟩ = some (.int .u64 a0_15) := (blk_cell BK107.out 15).trans rfl; have hcz5_16 : w4.cell? ⟨gb107, 16, none⟩ = some (.int .u64 a0_16) := (blk_cell BK107.out 16).trans rfl; have hfz5_0 := blk_frozen BK107.out 0; have hfz5_1 := blk_frozen BK107.out 1; have hfz5_2 := blk_frozen BK107.out 2; have hfz5_3 := blk_frozen BK107.out 3; have hfz5_4 := blk_frozen BK107.out 4; have hfz5_5 := blk_frozen BK107.out 5; have hfz5_6 := blk_frozen BK107.out 6; have hfz5_7 := blk_frozen BK107.out 7; have hfz5_8 := blk_frozen BK107.out 8; have hfz5_9 := blk_frozen BK107.out 9; have hfz5_10 := blk_frozen BK107.out 10; have hfz5_11 := blk_frozen BK107.out 11; have hfz5_12 := blk_frozen BK107.out 12; have hfz5_13 := blk_frozen BK107.out 13; have hfz5_14 := blk_frozen BK107.out 14; have hfz5_15 := blk_frozen BK107.out 15; have hfz5_16 := blk_frozen BK107.out 16))
  (try simp only [Act.put, List.setIfInBounds_toArray, List.set_cons_zero, List.set_cons_succ])
  go_cut [21] (fun v21 wc => ∃ (kq : Nat) (x21_2 : Bool), v21 = .bool x21_2 ∧ Aside0 (drawbridgeref06_Pending.j0 kq a1 (Go.bits .and .u64 a0_4 a0_3) x21_2 a0_0 a0_1 a0_2 a0_3 a0_4 a0_5 a0_6 a0_7 a0_8 a0_9 a0_10 a0_11 a0_12 a0_13 a0_14 a0_15 a0_16 = some (r1, r2)) ∧ Aside0 (kq ≤ k) ∧ Aside0 (wc.heap[gb107]? = some (.cells #[.int .u64 a0_0, .int .u64 a0_1, .int .u64 a0_2, .int .u64 a0_3, .int .u64 a0_4, .int .u64 a0_5, .int .u64 a0_6, .int .u64 a0_7, .int .u64 a0_8, .int .u64 a0_9, .int .u64 a0_10, .int .u64 a0_11, .int .u64 a0_12, .int .u64 a0_13, .int .u64 a0_14, .int .u64 a0_15, .int .u64 a0_16] 24 (0, 0))) ∧ Aside0 (Below w.heap.size w wc))
  case first =>
    have H := HC3.out
    clear HC3
    by_cases c6 : a1 < 3
    · rw [if_pos c6] at H
      have c6b0 : decide (a1 < 3) = true := decide_eq_true c6
      clear c6
      (first | rw [c6b0] | (simp only [i64_w, i32_w]; rw [c6b0]) | skip)
      have H' := Aside0.mk H
      clear H
      go_wp2
      go_meet
      case rel => exact ⟨_, (true), (by first | rfl | (simp; done) | (simp [*]; done)), H', ⟨by first | omega | exact Nat.le_refl _⟩, ⟨by (with_reducible repeat (first | refine blk_drewN ?_ _ | refine blk_drew ?_ | refine blk_alloc ?_ _)); exact BK107.out⟩, ⟨by repeat (first | (with_reducible first | exact HB.out | apply below_alloc | apply pw_below_drewN | apply below_drew1 | refine below_set ?_ GE107.out) | exact HB.out)⟩⟩
    · rw [if_neg c6] at H
      have c6b0 : decide (a1 < 3) = false := decide_eq_false c6
      clear c6
      (first | rw [c6b0] | (simp only [i64_w, i32_w]; rw [c6b0]) | skip)
      replace H := Option.bind_eq_some_iff.mp H
      obtain ⟨t108, A70, H⟩ := H
      replace H : (drawbridgeref06_Pending.j0 k a1 (Go.bits .and .u64 a0_4 a0_3) (t108 == 1) a0_0 a0_1 a0_2 a0_3 a0_4 a0_5 a0_6 a0_7 a0_8 a0_9 a0_10 a0_11 a0_12 a0_13 a0_14 a0_15 a0_16) = some (r1, r2) := H
      have A7 := Aside0.mk A70
      clear A70
      have H' := Aside0.mk H
      clear H
      have hcz8_0 : w4.cell? ⟨gb107, 0, none⟩ = some (.int .u64 a0_0) := (blk_cell BK107.out 0).trans rfl
      have hcz8_1 : w4.cell? ⟨gb107, 1, none⟩ = some (.int .u64 a0_1) := (blk_cell BK107.out 1).trans rfl
      have hcz8_2 : w4.cell? ⟨gb107, 2, none⟩ = some (.int .u64 a0_2) := (blk_cell BK107.out 2).trans rfl
      have hcz8_3 : w4.cell? ⟨gb107, 3, none⟩ = some (.int .u64 a0_3) := (blk_cell BK107.out 3).trans rfl
      have hcz8_4 : w4.cell? ⟨gb107, 4, none⟩ = some (.int .u64 a0_4) := (blk_cell BK107.out 4).trans rfl
      have hcz8_5 : w4.cell? ⟨gb107, 5, none⟩ = some (.int .u64 a0_5) := (blk_cell BK107.out 5).trans rfl
      have hcz8_6 : w4.cell? ⟨gb107, 6, none⟩ = some (.int .u64 a0_6) := (blk_cell BK107.out 6).trans rfl
      have hcz8_7 : w4.cell? ⟨gb107, 7, none⟩ = some (.int .u64 a0_7) := (blk_cell BK107.out 7).trans rfl
      have hcz8_8 : w4.cell? ⟨gb107, 8, none⟩ = some (.int .u64 a0_8) := (blk_cell BK107.out 8).trans rfl
      have hcz8_9 : w4.cell? ⟨gb107, 9, none⟩ = some (.int .u64 a0_9) := (blk_cell BK107.out 9).trans rfl
      have hcz8_10 : w4.cell? ⟨gb107, 10, none⟩ = some (.int .u64 a0_10) := (blk_cell BK107.out 10).trans rfl
      have hcz8_11 : w4.cell? ⟨gb107, 11, none⟩ = some (.int .u64 a0_11) := (blk_cell BK107.out 11).trans rfl
      have hcz8_12 : w4.cell? ⟨gb107, 12, none⟩ = some (.int .u64 a0_12) := (blk_cell BK107.out 12).trans rfl
      have hcz8_13 : w4.cell? ⟨gb107, 13, none⟩ = some (.int .u64 a0_13) := (blk_cell BK107.out 13).trans rfl
      have hcz8_14 : w4.cell? ⟨gb107, 14, none⟩ = some (.int .u64 a0_14) := (blk_cell BK107.out 14).trans rfl
      have hcz8_15 : w4.cell? ⟨gb107, 15, none⟩ = some (.int .u64 a0_15) := (blk_cell BK107.out 15).trans rfl
      have hcz8_16 : w4.cell? ⟨gb107, 16, none⟩ = some (.int .u64 a0_16) := (blk_cell BK107.out 16).trans rfl
      have hfz8_0 := blk_frozen BK107.out 0
      have hfz8_1 := blk_frozen BK107.out 1
      have hfz8_2 := blk_frozen BK107.out 2
      have hfz8_3 := blk_frozen BK107.out 3
      have hfz8_4 := blk_frozen BK107.out 4
      have hfz8_5 := blk_frozen BK107.out 5
      have hfz8_6 := blk_frozen BK107.out 6
      have hfz8_7 := blk_frozen BK107.out 7
      have hfz8_8 := blk_frozen BK107.out 8
      have hfz8_9 := blk_frozen BK107.out 9
      have hfz8_10 := blk_frozen BK107.out 10
      have hfz8_11 := blk_frozen BK107.out 11
      have hfz8_12 := blk_frozen BK107.out 12
      have hfz8_13 := blk_frozen BK107.out 13
      have hfz8_14 := blk_frozen BK107.out 14
      have hfz8_15 := blk_frozen BK107.out 15
      have hfz8_16 := blk_frozen BK107.out 16
      go_wp2_with (first | (go_at_call 22; (with_reducible refine (drawbridgeref06_bit.calls a0_0 3 t108 _ A7.out).mono ?_); rintro e w' ⟨rfl, ⟨nd, rfl⟩⟩))
      go_meet
      case rel => exact ⟨_, ((t108 == 1)), (by first | rfl | (simp; done) | (simp [*]; done)), H', ⟨by first | omega | exact Nat.le_refl _⟩, ⟨by (with_reducible repeat (first | refine blk_drewN ?_ _ | refine blk_drew ?_ | refine blk_alloc ?_ _)); exact BK107.out⟩, ⟨by repeat (first | (with_reducible first | exact HB.out | apply below_alloc | apply pw_below_drewN | apply below_drew1 | refine below_set ?_ GE107.out) | exact HB.out)⟩⟩
  case rest =>
    clear HC3
    try clear c1
    try clear p2
    try clear c6
    try clear c6b0
    try clear hcz5_0
    try clear hcz5_1
    try clear hcz5_10
    try clear hcz5_11
    try clear hcz5_12
    try clear hcz5_13
    try clear hcz5_14
    try clear hcz5_15
    try clear hcz5_16
    try clear hcz5_2
    try clear hcz5_3
    try clear hcz5_4
    try clear hcz5_5
    try clear hcz5_6
    try clear hcz5_7
    try clear hcz5_8
    try clear hcz5_9
    try clear hcz8_0
    try clear hcz8_1
    try clear hcz8_10
    try clear hcz8_11
    try clear hcz8_12
    try clear hcz8_13
    try clear hcz8_14
    try clear hcz8_15
    try clear hcz8_16
    try clear hcz8_2
    try clear hcz8_3
    try clear hcz8_4
    try clear hcz8_5
    try clear hcz8_6
    try clear hcz8_7
    try clear hcz8_8
    try clear hcz8_9
    try clear hfz5_0
    try clear hfz5_1
    try clear hfz5_10
    try clear hfz5_11
    try clear hfz5_12
    try clear hfz5_13
    try clear hfz5_14
    try clear hfz5_15
    try clear hfz5_16
    try clear hfz5_2
    try clear hfz5_3
    try clear hfz5_4
    try clear hfz5_5
    try clear hfz5_6
    try clear hfz5_7
    try clear hfz5_8
    try clear hfz5_9
    try clear hfz8_0
    try clear hfz8_1
    try clear hfz8_10
    try clear hfz8_11
    try clear hfz8_12
    try clear hfz8_13
    try clear hfz8_14
    try clear hfz8_15
    try clear hfz8_16
    try clear hfz8_2
    try clear hfz8_3
    try clear hfz8_4
    try clear hfz8_5
    try clear hfz8_6
    try clear hfz8_7
    try clear hfz8_8
    try clear hfz8_9
    obtain ⟨kq, x21_2, rfl, HA, HJ2, BK107, HB⟩ := hcut
    cases kq with
    | zero => exact absurd HA.out (by simp [drawbridgeref06_Pending.j0])
    | succ kj2 =>
      have H := HA.out
      clear HA
      simp only [drawbridgeref06_Pending.j0] at H
      have HC9 := Aside0.mk H
      clear H
      go_upto_if 21 with (fail)
      go_cut [] (fun wc => ∃ (kq : Nat), Aside0 (drawbridgeref06_Pending.j1 kq a1 (Go.bits .and .u64 a0_4 a0_3) a0_0 a0_1 a0_2 a0_3 a0_4 a0_5 a0_6 a0_7 a0_8 a0_9 a0_10 a0_11 a0_12 a0_13 a0_14 a0_15 a0_16 = some (r1, r2)) ∧ Aside0 (kq ≤ kj2) ∧ Aside0 (wc.heap[gb107]? = some (.cells #[.int .u64 a0_0, .int .u64 a0_1, .int .u64 a0_2, .int .u64 a0_3, .int .u64 a0_4, .int .u64 a0_5, .int .u64 a0_6, .int .u64 a0_7, .int .u64 a0_8, .int .u64 a0_9, .int .u64 a0_10, .int .u64 a0_11, .int .u64 a0_12, .int .u64 a0_13, .int .u64 a0_14, .int .u64 a0_15, .int .u64 a0_16] 24 (0, 0))) ∧ Aside0 (Below w.heap.size w wc))
      case first =>
        have H := HC9.out
        clear HC9
        by_cases c10 : x21_2 = true
        · subst c10
          have H1 : ((drawbridgeref06_first.f kj2 (Go.bits .andNot .u64 (Go.bits .and .u64 a0_4 a0_3) a0_2)).bind fun bt109 => (if bt109.2 = true then (some (bt109.1, true)) else (drawbridgeref06_Pending.j1 kj2 a1 (Go.bits .and .u64 a0_4 a0_3) a0_0 a0_1 a0_2 a0_3 a0_4 a0_5 a0_6 a0_7 a0_8 a0_9 a0_10 a0_11 a0_12 a0_13 a0_14 a0_15 a0_16))) = some (r1, r2) := by rw [if_pos rfl] at H; exact H
          clear H
          have H := H1
          clear H1
          replace H := Option.bind_eq_some_iff.mp H
          obtain ⟨⟨t109, t110⟩, A110, H⟩ := H
          replace H : (if t110 = true then (some (t109, true)) else (drawbridgeref06_Pending.j1 kj2 a1 (Go.bits .and .u64 a0_4 a0_3) a0_0 a0_1 a0_2 a0_3 a0_4 a0_5 a0_6 a0_7 a0_8 a0_9 a0_10 a0_11 a0_12 a0_13 a0_14 a0_15 a0_16)) = some (r1, r2) := H
          have A11 := Aside0.mk A110
          clear A110
          by_cases c12 : t110 = true
          · subst c12
            have H1 : (some (t109, true)) = some (r1, r2) := by rw [if_pos rfl] at H; exact H
            clear H
            have H := H1
            clear H1
            simp only [Option.some.injEq, Prod.mk.injEq] at H
            obtain ⟨rfl, rfl⟩ := H
            have hcz13_0 : wc.cell? ⟨gb107, 0, none⟩ = some (.int .u64 a0_0) := (blk_cell BK107.out 0).trans rfl
            have hcz13_1 : wc.cell? ⟨gb107, 1, none⟩ = some (.int .u64 a0_1) := (blk_cell BK107.out 1).trans rfl
            have hcz13_2 : wc.cell? ⟨gb107, 2, none⟩ = some (.int .u64 a0_2) := (blk_cell BK107.out 2).trans rfl
            have hcz13_3 : wc.cell? ⟨gb107, 3, none⟩ = some (.int .u64 a0_3) := (blk_cell BK107.out 3).trans rfl
            have hcz13_4 : wc.cell? ⟨gb107, 4, none⟩ = some (.int .u64 a0_4) := (blk_cell BK107.out 4).trans rfl
            have hcz13_5 : wc.cell? ⟨gb107, 5, none⟩ = some (.int .u64 a0_5) := (blk_cell BK107.out 5).trans rfl
            have hcz13_6 : wc.cell? ⟨gb107, 6, none⟩ = some (.int .u64 a0_6) := (blk_cell BK107.out 6).trans rfl
            have hcz13_7 : wc.cell? ⟨gb107, 7, none⟩ = some (.int .u64 a0_7) := (blk_cell BK107.out 7).trans rfl
            have hcz13_8 : wc.cell? ⟨gb107, 8, none⟩ = some (.int .u64 a0_8) := (blk_cell BK107.out 8).trans rfl
            have hcz13_9 : wc.cell? ⟨gb107, 9, none⟩ = some (.int .u64 a0_9) := (blk_cell BK107.out 9).trans rfl
            have hcz13_10 : wc.cell? ⟨gb107, 10, none⟩ = some (.int .u64 a0_10) := (blk_cell BK107.out 10).trans rfl
            have hcz13_11 : wc.cell? ⟨gb107, 11, none⟩ = some (.int .u64 a0_11) := (blk_cell BK107.out 11).trans rfl
            have hcz13_12 : wc.cell? ⟨gb107, 12, none⟩ = some (.int .u64 a0_12) := (blk_cell BK107.out 12).trans rfl
            have hcz13_13 : wc.cell? ⟨gb107, 13, none⟩ = some (.int .u64 a0_13) := (blk_cell BK107.out 13).trans rfl
            have hcz13_14 : wc.cell? ⟨gb107, 14, none⟩ = some (.int .u64 a0_14) := (blk_cell BK107.out 14).trans rfl
            have hcz13_15 : wc.cell? ⟨gb107, 15, none⟩ = some (.int .u64 a0_15) := (blk_cell BK107.out 15).trans rfl
            have hcz13_16 : wc.cell? ⟨gb107, 16, none⟩ = some (.int .u64 a0_16) := (blk_cell BK107.out 16).trans rfl
            have hfz13_0 := blk_frozen BK107.out 0
            have hfz13_1 := blk_frozen BK107.out 1
            have hfz13_2 := blk_frozen BK107.out 2
            have hfz13_3 := blk_frozen BK107.out 3
            have hfz13_4 := blk_frozen BK107.out 4
            have hfz13_5 := blk_frozen BK107.out 5
            have hfz13_6 := blk_frozen BK107.out 6
            have hfz13_7 := blk_frozen BK107.out 7
            have hfz13_8 := blk_frozen BK107.out 8
            have hfz13_9 := blk_frozen BK107.out 9
            have hfz13_10 := blk_frozen BK107.out 10
            have hfz13_11 := blk_frozen BK107.out 11
            have hfz13_12 := blk_frozen BK107.out 12
            have hfz13_13 := blk_frozen BK107.out 13
            have hfz13_14 := blk_frozen BK107.out 14
            have hfz13_15 := blk_frozen BK107.out 15
            have hfz13_16 := blk_frozen BK107.out 16
            go_wp2_with (first | ((with_reducible refine gate_callee (f := 25) rfl ?_); refine goesL_ (some 27) rfl rfl Try.func25 (by kernel_rfl) rfl #[.int .u64 (Go.bits .andNot .u64 (Go.bits .and .u64 a0_4 a0_3) a0_2)] rfl (by (try simp only [List.map_toArray, List.map_cons, List.map_nil]); first | done | rfl | (simp only [List.length_drop, List.length_take]; rfl)) ?_; (with_reducible refine (drawbridgeref06_first.calls kj2 (Go.bits .andNot .u64 (Go.bits .and .u64 a0_4 a0_3) a0_2) t109 true _ A11.out).mono ?_); rintro e w14 ⟨rfl, hb⟩; refine ⟨_, rfl, ?_⟩; have n0_ := Aside0.mk (blk_below (g := gb107) (o := .cells #[.int .u64 a0_0, .int .u64 a0_1, .int .u64 a0_2, .int .u64 a0_3, .int .u64 a0_4, .int .u64 a0_5, .int .u64 a0_6, .int .u64 a0_7, .int .u64 a0_8, .int .u64 a0_9, .int .u64 a0_10, .int .u64 a0_11, .int .u64 a0_12, .int .u64 a0_13, .int .u64 a0_14, .int .u64 a0_15, .int .u64 a0_16] 24 (0, 0)) (by (with_reducible repeat (first | refine blk_drewN ?_ _ | refine blk_drew ?_ | refine blk_alloc ?_ _)); exact BK107.out) hb); have n1_ := Aside0.mk (below_step (by repeat (first | (with_reducible first | exact HB.out | apply below_alloc | apply pw_below_drewN | apply below_drew1 | refine below_set ?_ GE107.out) | exact HB.out)) hb); clear BK107; clear HB; have BK107 := n0_; have HB := n1_; clear n0_ n1_; (try clear hb); (try clear hb2); (try clear hk); (try clear hi)))
            go_ret2
            exact ⟨by first | rfl | (simp [errW_none, errW_some] <;> rfl) | (simp [*, errW_none, errW_some] <;> rfl), by repeat (first | (with_reducible first | exact HB.out | apply below_alloc | apply pw_below_drewN | apply below_drew1 | refine below_set ?_ GE107.out) | exact HB.out)⟩
          · replace c12 := Bool.eq_false_iff.mpr c12
            subst c12
            have H1 : (drawbridgeref06_Pending.j1 kj2 a1 (Go.bits .and .u64 a0_4 a0_3) a0_0 a0_1 a0_2 a0_3 a0_4 a0_5 a0_6 a0_7 a0_8 a0_9 a0_10 a0_11 a0_12 a0_13 a0_14 a0_15 a0_16) = some (r1, r2) := by rw [if_neg (show ¬ (false = true) by decide)] at H; exact H
            clear H
            have H := H1
            clear H1
            have H' := Aside0.mk H
            clear H
            have hcz15_0 : wc.cell? ⟨gb107, 0, none⟩ = some (.int .u64 a0_0) := (blk_cell BK107.out 0).trans rfl
            have hcz15_1 : wc.cell? ⟨gb107, 1, none⟩ = some (.int .u64 a0_1) := (blk_cell BK107.out 1).trans rfl
            have hcz15_2 : wc.cell? ⟨gb107, 2, none⟩ = some (.int .u64 a0_2) := (blk_cell BK107.out 2).trans rfl
            have hcz15_3 : wc.cell? ⟨gb107, 3, none⟩ = some (.int .u64 a0_3) := (blk_cell BK107.out 3).trans rfl
            have hcz15_4 : wc.cell? ⟨gb107, 4, none⟩ = some (.int .u64 a0_4) := (blk_cell BK107.out 4).trans rfl
            have hcz15_5 : wc.cell? ⟨gb107, 5, none⟩ = some (.int .u64 a0_5) := (blk_cell BK107.out 5).trans rfl
            have hcz15_6 : wc.cell? ⟨gb107, 6, none⟩ = some (.int .u64 a0_6) := (blk_cell BK107.out 6).trans rfl
            have hcz15_7 : wc.cell? ⟨gb107, 7, none⟩ = some (.int .u64 a0_7) := (blk_cell BK107.out 7).trans rfl
            have hcz15_8 : wc.cell? ⟨gb107, 8, none⟩ = some (.int .u64 a0_8) := (blk_cell BK107.out 8).trans rfl
            have hcz15_9 : wc.cell? ⟨gb107, 9, none⟩ = some (.int .u64 a0_9) := (blk_cell BK107.out 9).trans rfl
            have hcz15_10 : wc.cell? ⟨gb107, 10, none⟩ = some (.int .u64 a0_10) := (blk_cell BK107.out 10).trans rfl
            have hcz15_11 : wc.cell? ⟨gb107, 11, none⟩ = some (.int .u64 a0_11) := (blk_cell BK107.out 11).trans rfl
            have hcz15_12 : wc.cell? ⟨gb107, 12, none⟩ = some (.int .u64 a0_12) := (blk_cell BK107.out 12).trans rfl
            have hcz15_13 : wc.cell? ⟨gb107, 13, none⟩ = some (.int .u64 a0_13) := (blk_cell BK107.out 13).trans rfl
            have hcz15_14 : wc.cell? ⟨gb107, 14, none⟩ = some (.int .u64 a0_14) := (blk_cell BK107.out 14).trans rfl
            have hcz15_15 : wc.cell? ⟨gb107, 15, none⟩ = some (.int .u64 a0_15) := (blk_cell BK107.out 15).trans rfl
            have hcz15_16 : wc.cell? ⟨gb107, 16, none⟩ = some (.int .u64 a0_16) := (blk_cell BK107.out 16).trans rfl
            have hfz15_0 := blk_frozen BK107.out 0
            have hfz15_1 := blk_frozen BK107.out 1
            have hfz15_2 := blk_frozen BK107.out 2
            have hfz15_3 := blk_frozen BK107.out 3
            have hfz15_4 := blk_frozen BK107.out 4
            have hfz15_5 := blk_frozen BK107.out 5
            have hfz15_6 := blk_frozen BK107.out 6
            have hfz15_7 := blk_frozen BK107.out 7
            have hfz15_8 := blk_frozen BK107.out 8
            have hfz15_9 := blk_frozen BK107.out 9
            have hfz15_10 := blk_frozen BK107.out 10
            have hfz15_11 := blk_frozen BK107.out 11
            have hfz15_12 := blk_frozen BK107.out 12
            have hfz15_13 := blk_frozen BK107.out 13
            have hfz15_14 := blk_frozen BK107.out 14
            have hfz15_15 := blk_frozen BK107.out 15
            have hfz15_16 := blk_frozen BK107.out 16
            go_wp2_with (first | ((with_reducible refine gate_callee (f := 25) rfl ?_); refine goesL_ (some 27) rfl rfl Try.func25 (by kernel_rfl) rfl #[.int .u64 (Go.bits .andNot .u64 (Go.bits .and .u64 a0_4 a0_3) a0_2)] rfl (by (try simp only [List.map_toArray, List.map_cons, List.map_nil]); first | done | rfl | (simp only [List.length_drop, List.length_take]; rfl)) ?_; (with_reducible refine (drawbridgeref06_first.calls kj2 (Go.bits .andNot .u64 (Go.bits .and .u64 a0_4 a0_3) a0_2) t109 false _ A11.out).mono ?_); rintro e w16 ⟨rfl, hb⟩; refine ⟨_, rfl, ?_⟩; have n0_ := Aside0.mk (blk_below (g := gb107) (o := .cells #[.int .u64 a0_0, .int .u64 a0_1, .int .u64 a0_2, .int .u64 a0_3, .int .u64 a0_4, .int .u64 a0_5, .int .u64 a0_6, .int .u64 a0_7, .int .u64 a0_8, .int .u64 a0_9, .int .u64 a0_10, .int .u64 a0_11, .int .u64 a0_12, .int .u64 a0_13, .int .u64 a0_14, .int .u64 a0_15, .int .u64 a0_16] 24 (0, 0)) (by (with_reducible repeat (first | refine blk_drewN ?_ _ | refine blk_drew ?_ | refine blk_alloc ?_ _)); exact BK107.out) hb); have n1_ := Aside0.mk (below_step (by repeat (first | (with_reducible first | exact HB.out | apply below_alloc | apply pw_below_drewN | apply below_drew1 | refine below_set ?_ GE107.out) | exact HB.out)) hb); clear BK107; clear HB; have BK107 := n0_; have HB := n1_; clear n0_ n1_; (try clear hb); (try clear hb2); (try clear hk); (try clear hi)))
            go_meet
            case rel => exact ⟨_, H', ⟨by have := HJ2.out; first | omega | exact Nat.le_refl _⟩, ⟨by (with_reducible repeat (first | refine blk_drewN ?_ _ | refine blk_drew ?_ | refine blk_alloc ?_ _)); exact BK107.out⟩, ⟨by repeat (first | (with_reducible first | exact HB.out | apply below_alloc | apply pw_below_drewN | apply below_drew1 | refine below_set ?_ GE107.out) | exact HB.out)⟩⟩
        · replace c10 := Bool.eq_false_iff.mpr c10
          subst c10
          have H1 : (drawbridgeref06_Pending.j1 kj2 a1 (Go.bits .and .u64 a0_4 a0_3) a0_0 a0_1 a0_2 a0_3 a0_4 a0_5 a0_6 a0_7 a0_8 a0_9 a0_10 a0_11 a0_12 a0_13 a0_14 a0_15 a0_16) = some (r1, r2) := by rw [if_neg (show ¬ (false = true) by decide)] at H; exact H
          clear H
          have H := H1
          clear H1
          have H' := Aside0.mk H
          clear H
          go_wp2
          go_meet
          case rel => exact ⟨_, H', ⟨by have := HJ2.out; first | omega | exact Nat.le_refl _⟩, ⟨by (with_reducible repeat (first | refine blk_drewN ?_ _ | refine blk_drew ?_ | refine blk_alloc ?_ _)); exact BK107.out⟩, ⟨by repeat (first | (with_reducible first | exact HB.out | apply below_alloc | apply pw_below_drewN | apply below_drew1 | refine below_set ?_ GE107.out) | exact HB.out)⟩⟩
      case rest =>
        clear HC9
        try clear c1
        try clear c2
        try clear p2
        try clear c6
        try clear c6b0
        try clear c10
        try clear c12
        try clear c16
        try clear hcz13_0
        try clear hcz13_1
        try clear hcz13_10
        try clear hcz13_11
        try clear hcz13_12
        try clear hcz13_13
        try clear hcz13_14
        try clear hcz13_15
        try clear hcz13_16
        try clear hcz13_2
        try clear hcz13_3
        try clear hcz13_4
        try clear hcz13_5
        try clear hcz13_6
        try clear hcz13_7
        try clear hcz13_8
        try clear hcz13_9
        try clear hcz15_0
        try clear hcz15_1
        try clear hcz15_10
        try clear hcz15_11
        try clear hcz15_12
        try clear hcz15_13
        try clear hcz15_14
        try clear hcz15_15
        try clear hcz15_16
        try clear hcz15_2
        try clear hcz15_3
        try clear hcz15_4
        try clear hcz15_5
        try clear hcz15_6
        try clear hcz15_7
        try clear hcz15_8
        try clear hcz15_9
        try clear hcz5_0
        try clear hcz5_1
        try clear hcz5_10
        try clear hcz5_11
        try clear hcz5_12
        try clear hcz5_13
        try clear hcz5_14
        try clear hcz5_15
        try clear hcz5_16
        try clear hcz5_2
        try clear hcz5_3
        try clear hcz5_4
        try clear hcz5_5
        try clear hcz5_6
        try clear hcz5_7
        try clear hcz5_8
        try clear hcz5_9
        try clear hcz8_0
        try clear hcz8_1
        try clear hcz8_10
        try clear hcz8_11
        try clear hcz8_12
        try clear hcz8_13
        try clear hcz8_14
        try clear hcz8_15
        try clear hcz8_16
        try clear hcz8_2
        try clear hcz8_3
        try clear hcz8_4
        try clear hcz8_5
        try clear hcz8_6
        try clear hcz8_7
        try clear hcz8_8
        try clear hcz8_9
        try clear hfz13_0
        try clear hfz13_1
        try clear hfz13_10
        try clear hfz13_11
        try clear hfz13_12
        try clear hfz13_13
        try clear hfz13_14
        try clear hfz13_15
        try clear hfz13_16
        try clear hfz13_2
        try clear hfz13_3
        try clear hfz13_4
        try clear hfz13_5
        try clear hfz13_6
        try clear hfz13_7
        try clear hfz13_8
        try clear hfz13_9
        try clear hfz15_0
        try clear hfz15_1
        try clear hfz15_10
        try clear hfz15_11
        try clear hfz15_12
        try clear hfz15_13
        try clear hfz15_14
        try clear hfz15_15
        try clear hfz15_16
        try clear hfz15_2
        try clear hfz15_3
        try clear hfz15_4
        try clear hfz15_5
        try clear hfz15_6
        try clear hfz15_7
        try clear hfz15_8
        try clear hfz15_9
        try clear hfz5_0
        try clear hfz5_1
        try clear hfz5_10
        try clear hfz5_11
        try clear hfz5_12
        try clear hfz5_13
        try clear hfz5_14
        try clear hfz5_15
        try clear hfz5_16
        try clear hfz5_2
        try clear hfz5_3
        try clear hfz5_4
        try clear hfz5_5
        try clear hfz5_6
        try clear hfz5_7
        try clear hfz5_8
        try clear hfz5_9
        try clear hfz8_0
        try clear hfz8_1
        try clear hfz8_10
        try clear hfz8_11
        try clear hfz8_12
        try clear hfz8_13
        try clear hfz8_14
        try clear hfz8_15
        try clear hfz8_16
        try clear hfz8_2
        try clear hfz8_3
        try clear hfz8_4
        try clear hfz8_5
        try clear hfz8_6
        try clear hfz8_7
        try clear hfz8_8
        try clear hfz8_9
        try clear p2
        obtain ⟨kq, HA, HJ8, BK107, HB⟩ := hcut
        cases kq with
        | zero => exact absurd HA.out (by simp [drawbridgeref06_Pending.j1])
        | succ kj8 =>
          have H := HA.out
          clear HA
          simp only [drawbridgeref06_Pending.j1] at H
          by_cases c17 : a1 < 1
          · rw [if_pos c17] at H
            have c17b0 : decide (a1 < 1) = true := decide_eq_true c17
            clear c17
            replace H := Option.bind_eq_some_iff.mp H
            obtain ⟨⟨t111, t112⟩, A180, H⟩ := H
            replace H : (some (t111, t112)) = some (r1, r2) := H
            have A18 := Aside0.mk A180
            clear A180
            simp only [Option.some.injEq, Prod.mk.injEq] at H
            obtain ⟨rfl, rfl⟩ := H
            have hcz19_0 : wc.cell? ⟨gb107, 0, none⟩ = some (.int .u64 a0_0) := (blk_cell BK107.out 0).trans rfl
            have hcz19_1 : wc.cell? ⟨gb107, 1, none⟩ = some (.int .u64 a0_1) := (blk_cell BK107.out 1).trans rfl
            have hcz19_2 : wc.cell? ⟨gb107, 2, none⟩ = some (.int .u64 a0_2) := (blk_cell BK107.out 2).trans rfl
            have hcz19_3 : wc.cell? ⟨gb107, 3, none⟩ = some (.int .u64 a0_3) := (blk_cell BK107.out 3).trans rfl
            have hcz19_4 : wc.cell? ⟨gb107, 4, none⟩ = some (.int .u64 a0_4) := (blk_cell BK107.out 4).trans rfl
            have hcz19_5 : wc.cell? ⟨gb107, 5, none⟩ = some (.int .u64 a0_5) := (blk_cell BK107.out 5).trans rfl
            have hcz19_6 : wc.cell? ⟨gb107, 6, none⟩ = some (.int .u64 a0_6) := (blk_cell BK107.out 6).trans rfl
            have hcz19_7 : wc.cell? ⟨gb107, 7, none⟩ = some (.int .u64 a0_7) := (blk_cell BK107.out 7).trans rfl
            have hcz19_8 : wc.cell? ⟨gb107, 8, none⟩ = some (.int .u64 a0_8) := (blk_cell BK107.out 8).trans rfl
            have hcz19_9 : wc.cell? ⟨gb107, 9, none⟩ = some (.int .u64 a0_9) := (blk_cell BK107.out 9).trans rfl
            have hcz19_10 : wc.cell? ⟨gb107, 10, none⟩ = some (.int .u64 a0_10) := (blk_cell BK107.out 10).trans rfl
            have hcz19_11 : wc.cell? ⟨gb107, 11, none⟩ = some (.int .u64 a0_11) := (blk_cell BK107.out 11).trans rfl
            have hcz19_12 : wc.cell? ⟨gb107, 12, none⟩ = some (.int .u64 a0_12) := (blk_cell BK107.out 12).trans rfl
            have hcz19_13 : wc.cell? ⟨gb107, 13, none⟩ = some (.int .u64 a0_13) := (blk_cell BK107.out 13).trans rfl
            have hcz19_14 : wc.cell? ⟨gb107, 14, none⟩ = some (.int .u64 a0_14) := (blk_cell BK107.out 14).trans rfl
            have hcz19_15 : wc.cell? ⟨gb107, 15, none⟩ = some (.int .u64 a0_15) := (blk_cell BK107.out 15).trans rfl
            have hcz19_16 : wc.cell? ⟨gb107, 16, none⟩ = some (.int .u64 a0_16) := (blk_cell BK107.out 16).trans rfl
            have hfz19_0 := blk_frozen BK107.out 0
            have hfz19_1 := blk_frozen BK107.out 1
            have hfz19_2 := blk_frozen BK107.out 2
            have hfz19_3 := blk_frozen BK107.out 3
            have hfz19_4 := blk_frozen BK107.out 4
            have hfz19_5 := blk_frozen BK107.out 5
            have hfz19_6 := blk_frozen BK107.out 6
            have hfz19_7 := blk_frozen BK107.out 7
            have hfz19_8 := blk_frozen BK107.out 8
            have hfz19_9 := blk_frozen BK107.out 9
            have hfz19_10 := blk_frozen BK107.out 10
            have hfz19_11 := blk_frozen BK107.out 11
            have hfz19_12 := blk_frozen BK107.out 12
            have hfz19_13 := blk_frozen BK107.out 13
            have hfz19_14 := blk_frozen BK107.out 14
            have hfz19_15 := blk_frozen BK107.out 15
            have hfz19_16 := blk_frozen BK107.out 16
            go_wp2_with (first | ((with_reducible refine gate_callee (f := 25) rfl ?_); refine goesL_ (some 48) rfl rfl Try.func25 (by kernel_rfl) rfl #[.int .u64 (Go.bits .and .u64 (Go.bits .and .u64 a0_4 a0_3) a0_2)] rfl (by (try simp only [List.map_toArray, List.map_cons, List.map_nil]); first | done | rfl | (simp only [List.length_drop, List.length_take]; rfl)) ?_; (with_reducible refine (drawbridgeref06_first.calls kj8 (Go.bits .and .u64 (Go.bits .and .u64 a0_4 a0_3) a0_2) t111 t112 _ A18.out).mono ?_); rintro e w20 ⟨rfl, hb⟩; refine ⟨_, rfl, ?_⟩; have n0_ := Aside0.mk (blk_below (g := gb107) (o := .cells #[.int .u64 a0_0, .int .u64 a0_1, .int .u64 a0_2, .int .u64 a0_3, .int .u64 a0_4, .int .u64 a0_5, .int .u64 a0_6, .int .u64 a0_7, .int .u64 a0_8, .int .u64 a0_9, .int .u64 a0_10, .int .u64 a0_11, .int .u64 a0_12, .int .u64 a0_13, .int .u64 a0_14, .int .u64 a0_15, .int .u64 a0_16] 24 (0, 0)) (by (with_reducible repeat (first | refine blk_drewN ?_ _ | refine blk_drew ?_ | refine blk_alloc ?_ _)); exact BK107.out) hb); have n1_ := Aside0.mk (below_step (by repeat (first | (with_reducible first | exact HB.out | apply below_alloc | apply pw_below_drewN | apply below_drew1 | refine below_set ?_ GE107.out) | exact HB.out)) hb); clear BK107; clear HB; have BK107 := n0_; have HB := n1_; clear n0_ n1_; (try clear hb); (try clear hb2); (try clear hk); (try clear hi)))
            go_ret2
            exact ⟨by first | rfl | (simp [errW_none, errW_some] <;> rfl) | (simp [*, errW_none, errW_some] <;> rfl), by repeat (first | (with_reducible first | exact HB.out | apply below_alloc | apply pw_below_drewN | apply below_drew1 | refine below_set ?_ GE107.out) | exact HB.out)⟩
          · rw [if_neg c17] at H
            have c17b0 : decide (a1 < 1) = false := decide_eq_false c17
            clear c17
            by_cases c21 : a1 = 1
            · rw [if_pos c21] at H
              have c21b0 : (a1 == 1) = true := beq_iff_eq.mpr c21
              have c21b1 : (a1 != 1) = false := bne_eq_false_iff_eq.mpr c21
              clear c21
              replace H := Option.bind_eq_some_iff.mp H
              obtain ⟨t113, A220, H⟩ := H
              replace H : (if t113 = 1 then ((drawbridgeref06_first.f kj8 (Go.bits .and .u64 (Go.bits .and .u64 a0_4 a0_3) a0_2)).bind fun bt114 => (some (bt114.1, bt114.2))) else (some (0, false))) = some (r1, r2) := H
              have A22 := Aside0.mk A220
              clear A220
              by_cases c23 : t113 = 1
              · rw [if_pos c23] at H
                have c23b0 : (t113 == 1) = true := beq_iff_eq.mpr c23
                have c23b1 : (t113 != 1) = false := bne_eq_false_iff_eq.mpr c23
                clear c23
                replace H := Option.bind_eq_some_iff.mp H
                obtain ⟨⟨t114, t115⟩, A240, H⟩ := H
                replace H : (some (t114, t115)) = some (r1, r2) := H
                have A24 := Aside0.mk A240
                clear A240
                simp only [Option.some.injEq, Prod.mk.injEq] at H
                obtain ⟨rfl, rfl⟩ := H
                have hcz25_0 : wc.cell? ⟨gb107, 0, none⟩ = some (.int .u64 a0_0) := (blk_cell BK107.out 0).trans rfl
                have hcz25_1 : wc.cell? ⟨gb107, 1, none⟩ = some (.int .u64 a0_1) := (blk_cell BK107.out 1).trans rfl
                have hcz25_2 : wc.cell? ⟨gb107, 2, none⟩ = some (.int .u64 a0_2) := (blk_cell BK107.out 2).trans rfl
                have hcz25_3 : wc.cell? ⟨gb107, 3, none⟩ = some (.int .u64 a0_3) := (blk_cell BK107.out 3).trans rfl
                have hcz25_4 : wc.cell? ⟨gb107, 4, none⟩ = some (.int .u64 a0_4) := (blk_cell BK107.out 4).trans rfl
                have hcz25_5 : wc.cell? ⟨gb107, 5, none⟩ = some (.int .u64 a0_5) := (blk_cell BK107.out 5).trans rfl
                have hcz25_6 : wc.cell? ⟨gb107, 6, none⟩ = some (.int .u64 a0_6) := (blk_cell BK107.out 6).trans rfl
                have hcz25_7 : wc.cell? ⟨gb107, 7, none⟩ = some (.int .u64 a0_7) := (blk_cell BK107.out 7).trans rfl
                have hcz25_8 : wc.cell? ⟨gb107, 8, none⟩ = some (.int .u64 a0_8) := (blk_cell BK107.out 8).trans rfl
                have hcz25_9 : wc.cell? ⟨gb107, 9, none⟩ = some (.int .u64 a0_9) := (blk_cell BK107.out 9).trans rfl
                have hcz25_10 : wc.cell? ⟨gb107, 10, none⟩ = some (.int .u64 a0_10) := (blk_cell BK107.out 10).trans rfl
                have hcz25_11 : wc.cell? ⟨gb107, 11, none⟩ = some (.int .u64 a0_11) := (blk_cell BK107.out 11).trans rfl
                have hcz25_12 : wc.cell? ⟨gb107, 12, none⟩ = some (.int .u64 a0_12) := (blk_cell BK107.out 12).trans rfl
                have hcz25_13 : wc.cell? ⟨gb107, 13, none⟩ = some (.int .u64 a0_13) := (blk_cell BK107.out 13).trans rfl
                have hcz25_14 : wc.cell? ⟨gb107, 14, none⟩ = some (.int .u64 a0_14) := (blk_cell BK107.out 14).trans rfl
                have hcz25_15 : wc.cell? ⟨gb107, 15, none⟩ = some (.int .u64 a0_15) := (blk_cell BK107.out 15).trans rfl
                have hcz25_16 : wc.cell? ⟨gb107, 16, none⟩ = some (.int .u64 a0_16) := (blk_cell BK107.out 16).trans rfl
                have hfz25_0 := blk_frozen BK107.out 0
                have hfz25_1 := blk_frozen BK107.out 1
                have hfz25_2 := blk_frozen BK107.out 2
                have hfz25_3 := blk_frozen BK107.out 3
                have hfz25_4 := blk_frozen BK107.out 4
                have hfz25_5 := blk_frozen BK107.out 5
                have hfz25_6 := blk_frozen BK107.out 6
                have hfz25_7 := blk_frozen BK107.out 7
                have hfz25_8 := blk_frozen BK107.out 8
                have hfz25_9 := blk_frozen BK107.out 9
                have hfz25_10 := blk_frozen BK107.out 10
                have hfz25_11 := blk_frozen BK107.out 11
                have hfz25_12 := blk_frozen BK107.out 12
                have hfz25_13 := blk_frozen BK107.out 13
                have hfz25_14 := blk_frozen BK107.out 14
                have hfz25_15 := blk_frozen BK107.out 15
                have hfz25_16 := blk_frozen BK107.out 16
                go_wp2_with (first | (go_at_call 22; (with_reducible refine (drawbridgeref06_bit.calls a0_0 1 t113 _ A22.out).mono ?_); rintro e w' ⟨rfl, ⟨nd, rfl⟩⟩) | ((with_reducible refine gate_callee (f := 25) rfl ?_); refine goesL_ (some 48) rfl rfl Try.func25 (by kernel_rfl) rfl #[.int .u64 (Go.bits .and .u64 (Go.bits .and .u64 a0_4 a0_3) a0_2)] rfl (by (try simp only [List.map_toArray, List.map_cons, List.map_nil]); first | done | rfl | (simp only [List.length_drop, List.length_take]; rfl)) ?_; (with_reducible refine (drawbridgeref06_first.calls kj8 (Go.bits .and .u64 (Go.bits .and .u64 a0_4 a0_3) a0_2) t114 t115 _ A24.out).mono ?_); rintro e w26 ⟨rfl, hb⟩; refine ⟨_, rfl, ?_⟩; have n0_ := Aside0.mk (blk_below (g := gb107) (o := .cells #[.int .u64 a0_0, .int .u64 a0_1, .int .u64 a0_2, .int .u64 a0_3, .int .u64 a0_4, .int .u64 a0_5, .int .u64 a0_6, .int .u64 a0_7, .int .u64 a0_8, .int .u64 a0_9, .int .u64 a0_10, .int .u64 a0_11, .int .u64 a0_12, .int .u64 a0_13, .int .u64 a0_14, .int .u64 a0_15, .int .u64 a0_16] 24 (0, 0)) (by (with_reducible repeat (first | refine blk_drewN ?_ _ | refine blk_drew ?_ | refine blk_alloc ?_ _)); exact BK107.out) hb); have n1_ := Aside0.mk (below_step (by repeat (first | (with_reducible first | exact HB.out | apply below_alloc | apply pw_below_drewN | apply below_drew1 | refine below_set ?_ GE107.out) | exact HB.out)) hb); clear BK107; clear HB; have BK107 := n0_; have HB := n1_; clear n0_ n1_; (try clear hb); (try clear hb2); (try clear hk); (try clear hi)))
                go_ret2
                exact ⟨by first | rfl | (simp [errW_none, errW_some] <;> rfl) | (simp [*, errW_none, errW_some] <;> rfl), by repeat (first | (with_reducible first | exact HB.out | apply below_alloc | apply pw_below_drewN | apply below_drew1 | refine below_set ?_ GE107.out) | exact HB.out)⟩
              · rw [if_neg c23] at H
                have c23b0 : (t113 == 1) = false := beq_eq_false_iff_ne.mpr c23
                have c23b1 : (t113 != 1) = true := bne_iff_ne.mpr c23
                simp only [Option.some.injEq, Prod.mk.injEq] at H
                obtain ⟨rfl, rfl⟩ := H
                have hcz27_0 : wc.cell? ⟨gb107, 0, none⟩ = some (.int .u64 a0_0) := (blk_cell BK107.out 0).trans rfl
                have hcz27_1 : wc.cell? ⟨gb107, 1, none⟩ = some (.int .u64 a0_1) := (blk_cell BK107.out 1).trans rfl
                have hcz27_2 : wc.cell? ⟨gb107, 2, none⟩ = some (.int .u64 a0_2) := (blk_cell BK107.out 2).trans rfl
                have hcz27_3 : wc.cell? ⟨gb107, 3, none⟩ = some (.int .u64 a0_3) := (blk_cell BK107.out 3).trans rfl
                have hcz27_4 : wc.cell? ⟨gb107, 4, none⟩ = some (.int .u64 a0_4) := (blk_cell BK107.out 4).trans rfl
                have hcz27_5 : wc.cell? ⟨gb107, 5, none⟩ = some (.int .u64 a0_5) := (blk_cell BK107.out 5).trans rfl
                have hcz27_6 : wc.cell? ⟨gb107, 6, none⟩ = some (.int .u64 a0_6) := (blk_cell BK107.out 6).trans rfl
                have hcz27_7 : wc.cell? ⟨gb107, 7, none⟩ = some (.int .u64 a0_7) := (blk_cell BK107.out 7).trans rfl
                have hcz27_8 : wc.cell? ⟨gb107, 8, none⟩ = some (.int .u64 a0_8) := (blk_cell BK107.out 8).trans rfl
                have hcz27_9 : wc.cell? ⟨gb107, 9, none⟩ = some (.int .u64 a0_9) := (blk_cell BK107.out 9).trans rfl
                have hcz27_10 : wc.cell? ⟨gb107, 10, none⟩ = some (.int .u64 a0_10) := (blk_cell BK107.out 10).trans rfl
                have hcz27_11 : wc.cell? ⟨gb107, 11, none⟩ = some (.int .u64 a0_11) := (blk_cell BK107.out 11).trans rfl
                have hcz27_12 : wc.cell? ⟨gb107, 12, none⟩ = some (.int .u64 a0_12) := (blk_cell BK107.out 12).trans rfl
                have hcz27_13 : wc.cell? ⟨gb107, 13, none⟩ = some (.int .u64 a0_13) := (blk_cell BK107.out 13).trans rfl
                have hcz27_14 : wc.cell? ⟨gb107, 14, none⟩ = some (.int .u64 a0_14) := (blk_cell BK107.out 14).trans rfl
                have hcz27_15 : wc.cell? ⟨gb107, 15, none⟩ = some (.int .u64 a0_15) := (blk_cell BK107.out 15).trans rfl
                have hcz27_16 : wc.cell? ⟨gb107, 16, none⟩ = some (.int .u64 a0_16) := (blk_cell BK107.out 16).trans rfl
                have hfz27_0 := blk_frozen BK107.out 0
                have hfz27_1 := blk_frozen BK107.out 1
                have hfz27_2 := blk_frozen BK107.out 2
                have hfz27_3 := blk_frozen BK107.out 3
                have hfz27_4 := blk_frozen BK107.out 4
                have hfz27_5 := blk_frozen BK107.out 5
                have hfz27_6 := blk_frozen BK107.out 6
                have hfz27_7 := blk_frozen BK107.out 7
                have hfz27_8 := blk_frozen BK107.out 8
                have hfz27_9 := blk_frozen BK107.out 9
                have hfz27_10 := blk_frozen BK107.out 10
                have hfz27_11 := blk_frozen BK107.out 11
                have hfz27_12 := blk_frozen BK107.out 12
                have hfz27_13 := blk_frozen BK107.out 13
                have hfz27_14 := blk_frozen BK107.out 14
                have hfz27_15 := blk_frozen BK107.out 15
                have hfz27_16 := blk_frozen BK107.out 16
                go_wp2_with (first | (go_at_call 22; (with_reducible refine (drawbridgeref06_bit.calls a0_0 1 t113 _ A22.out).mono ?_); rintro e w' ⟨rfl, ⟨nd, rfl⟩⟩))
                go_ret2
                exact ⟨by first | rfl | (simp [errW_none, errW_some] <;> rfl) | (simp [*, errW_none, errW_some] <;> rfl), by repeat (first | (with_reducible first | exact HB.out | apply below_alloc | apply pw_below_drewN | apply below_drew1 | refine below_set ?_ GE107.out) | exact HB.out)⟩
            · rw [if_neg c21] at H
              have c21b0 : (a1 == 1) = false := beq_eq_false_iff_ne.mpr c21
              have c21b1 : (a1 != 1) = true := bne_iff_ne.mpr c21
              simp only [Option.some.injEq, Prod.mk.injEq] at H
              obtain ⟨rfl, rfl⟩ := H
              go_wp2
              go_ret2
              exact ⟨by first | rfl | (simp [errW_none, errW_some] <;> rfl) | (simp [*, errW_none, errW_some] <;> rfl), by repeat (first | (with_reducible first | exact HB.out | apply below_alloc | apply pw_below_drewN | apply below_drew1 | refine below_set ?_ GE107.out) | exact HB.out)⟩

end Go.Proofs.Ytnlmndpdalgppaa.Q
