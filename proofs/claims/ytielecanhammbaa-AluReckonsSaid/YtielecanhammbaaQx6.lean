-- Ytielecanhammbaa: written by a program for this claim (several laws of one seat at once)
import Derived.Test.YtielecanhammbaaQx0
import Derived.Test.YtielecanhammbaaQx2
import Derived.Test.YtielecanhammbaaQx3
import Derived.Test.YtielecanhammbaaQx5
import Derived.Test.YtielecanhammbaaEalu
import Derived.Test.YtielecanhammbaaErx
namespace Go.Proofs.Ytielecanhammbaa.Q
open Go.RowKit Go.Proofs.YtielecanhammbaaW.PrintWords Go.Proofs.YtielecanhammbaaW.PrintLast Go.Proofs.YtielecanhammbaaW.PrintMore
attribute [local go_sem] max2_int min2_int max_two min_two max_three min_three max_four min_four   -- for this text's walks alone
set_option linter.unusedVariables false
set_option linter.unusedSimpArgs false

/-! ### drawbridgeref04_Amo: function 15 -/
def drawbridgeref04_Amo.j0 : Nat → Int → Bool → Int → Int → Option (Int)
  | 0, _, _, _, _ => none
  | k + 1, x0, x1, x9, x10 => if x0 = 0 then (if x1 = true then (some (Int.tmod (IntKind.u64.wrap (x9 + x10)) 4294967296)) else (some (IntKind.u64.wrap (x9 + x10)))) else (if x0 = 1 then (if x1 = true then (some (Int.tmod x10 4294967296)) else (some x10)) else (if x0 = 4 then (if x1 = true then (some (Int.tmod (Go.bits .xor .u64 x9 x10) 4294967296)) else (some (Go.bits .xor .u64 x9 x10))) else (if x0 = 8 then (if x1 = true then (some (Int.tmod (Go.bits .or .u64 x9 x10) 4294967296)) else (some (Go.bits .or .u64 x9 x10))) else (if x0 = 12 then (if x1 = true then (some (Int.tmod (Go.bits .and .u64 x9 x10) 4294967296)) else (some (Go.bits .and .u64 x9 x10))) else (if x0 = 16 then ((drawbridgeref04_Less.f x10 x9).bind fun t162 => (if t162 = true then (if x1 = true then (some (Int.tmod x10 4294967296)) else (some x10)) else (if x1 = true then (some (Int.tmod x9 4294967296)) else (some x9)))) else (if x0 = 20 then ((drawbridgeref04_Less.f x9 x10).bind fun t163 => (if t163 = true then (if x1 = true then (some (Int.tmod x10 4294967296)) else (some x10)) else (if x1 = true then (some (Int.tmod x9 4294967296)) else (some x9)))) else (if x0 = 24 then (if x10 < x9 then (if x1 = true then (some (Int.tmod x10 4294967296)) else (some x10)) else (if x1 = true then (some (Int.tmod x9 4294967296)) else (some x9))) else (if x0 = 28 then (if x9 < x10 then (if x1 = true then (some (Int.tmod x10 4294967296)) else (some x10)) else (if x1 = true then (some (Int.tmod x9 4294967296)) else (some x9))) else (if x1 = true then (some (Int.tmod x9 4294967296)) else (some x9))))))))))
def drawbridgeref04_Amo.f (k : Nat) (a0 : Int) (a1 : Bool) (a2 : Int) (a3 : Int) : Option (Int) := if a1 = true then ((drawbridgeref01_Sext.f a2 32).bind fun t160 => ((drawbridgeref01_Sext.f a3 32).bind fun t161 => (drawbridgeref04_Amo.j0 k a0 a1 t160 t161))) else (drawbridgeref04_Amo.j0 k a0 a1 a2 a3)
theorem drawbridgeref04_Amo.mono_l : ∀ k, (∀ y0 y1 y2 y3, LeO (drawbridgeref04_Amo.j0 k y0 y1 y2 y3) (drawbridgeref04_Amo.j0 (k + 1) y0 y1 y2 y3))
  | 0 => fun _ _ _ _ r h => by simp [drawbridgeref04_Amo.j0] at h
  | k + 1 => by
    have ih0 := drawbridgeref04_Amo.mono_l k
    · intro y0 y1 y2 y3
      unfold drawbridgeref04_Amo.j0
      repeat' first
      | (with_reducible exact ih0 _ _ _ _)
      | (with_reducible exact LeO.refl _)
      | (with_reducible exact LeO.none _)
      | (with_reducible refine LeO.ite ?_ ?_)
      | (with_reducible refine LeO.bind ?_ (fun _ => ?_))
      | exact ih0 _ _ _ _
      | exact LeO.none _
      | refine LeO.ite ?_ ?_
      | refine LeO.bind ?_ (fun _ => ?_)
theorem drawbridgeref04_Amo.mono : ∀ a0 a1 a2 a3 k, LeO (drawbridgeref04_Amo.f k a0 a1 a2 a3) (drawbridgeref04_Amo.f (k + 1) a0 a1 a2 a3) := by
  intro a0 a1 a2 a3 k
  have ih0 := drawbridgeref04_Amo.mono_l k
  unfold drawbridgeref04_Amo.f
  repeat' first
      | (with_reducible exact ih0 _ _ _ _)
      | (with_reducible exact LeO.refl _)
      | (with_reducible exact LeO.none _)
      | (with_reducible refine LeO.ite ?_ ?_)
      | (with_reducible refine LeO.bind ?_ (fun _ => ?_))
      | exact ih0 _ _ _ _
      | exact LeO.none _
      | refine LeO.ite ?_ ?_
      | refine LeO.bind ?_ (fun _ => ?_)
set_option maxHeartbeats 8000000 in
set_option maxRecDepth 100000 in
theorem drawbridgeref04_Amo.calls (k : Nat) (a0 : Int) (a1 : Bool) (a2 : Int) (a3 : Int) (r : Int) (w : World) (h : drawbridgeref04_Amo.f k a0 a1 a2 a3 = some r) :
    Calls Try.prog 15 #[.int .i64 a0, .bool a1, .int .u64 a2, .int .u64 a3] w fun e w' => e = .returned (.int .u64 r) ∧ Drawn0 w w' := by
  have H : (if a1 = true then ((drawbridgeref01_Sext.f a2 32).bind fun t160 => ((drawbridgeref01_Sext.f a3 32).bind fun t161 => (drawbridgeref04_Amo.j0 k a0 a1 t160 t161))) else (drawbridgeref04_Amo.j0 k a0 a1 a2 a3)) = some r := h
  clear h
  have HC5 := Aside0.mk H
  clear H
  go_enter Try.func15, Try.ntmps15
  go_upto_if 14 with (fail)
  go_cut [9, 10] (fun v9 v10 wc => ∃ (kq : Nat) (x9_4 : Int) (x10_4 : Int), v9 = .int .u64 x9_4 ∧ v10 = .int .u64 x10_4 ∧ Aside0 (drawbridgeref04_Amo.j0 kq a0 a1 x9_4 x10_4 = some r) ∧ Aside0 (kq ≤ k) ∧ Drawn0 w wc)
  case first =>
    have H := HC5.out
    clear HC5
    by_cases c6 : a1 = true
    · subst c6
      have H1 : ((drawbridgeref01_Sext.f a2 32).bind fun t160 => ((drawbridgeref01_Sext.f a3 32).bind fun t161 => (drawbridgeref04_Amo.j0 k a0 true t160 t161))) = some r := by rw [if_pos rfl] at H; exact H
      clear H
      have H := H1
      clear H1
      replace H := Option.bind_eq_some_iff.mp H
      obtain ⟨t160, A70, H⟩ := H
      replace H : ((drawbridgeref01_Sext.f a3 32).bind fun t161 => (drawbridgeref04_Amo.j0 k a0 true t160 t161)) = some r := H
      have A7 := Aside0.mk A70
      clear A70
      replace H := Option.bind_eq_some_iff.mp H
      obtain ⟨t161, A80, H⟩ := H
      replace H : (drawbridgeref04_Amo.j0 k a0 true t160 t161) = some r := H
      have A8 := Aside0.mk A80
      clear A80
      have H' := Aside0.mk H
      clear H
      go_wp2_with (first | ((with_reducible refine gate_callee (f := 22) rfl ?_); refine goesL_ (some 16) rfl rfl Try.func22 (by kernel_rfl) rfl #[.int .u64 a2, .int .i64 32] rfl (by (try simp only [List.map_toArray, List.map_cons, List.map_nil]); first | done | rfl | (simp only [List.length_drop, List.length_take]; rfl)) ?_; (with_reducible refine (drawbridgeref01_Sext.calls a2 32 t160 _ A7.out).mono ?_); rintro e w' ⟨rfl, ⟨nd, rfl⟩⟩; refine ⟨_, rfl, ?_⟩) | ((with_reducible refine gate_callee (f := 22) rfl ?_); refine goesL_ (some 18) rfl rfl Try.func22 (by kernel_rfl) rfl #[.int .u64 a3, .int .i64 32] rfl (by (try simp only [List.map_toArray, List.map_cons, List.map_nil]); first | done | rfl | (simp only [List.length_drop, List.length_take]; rfl)) ?_; (with_reducible refine (drawbridgeref01_Sext.calls a3 32 t161 _ A8.out).mono ?_); rintro e w' ⟨rfl, ⟨nd, rfl⟩⟩; refine ⟨_, rfl, ?_⟩))
      go_meet
      case rel => exact ⟨_, (t160), (t161), (by first | rfl | (simp; done) | (simp [*]; done)), (by first | rfl | (simp; done) | (simp [*]; done)), H', ⟨by first | omega | exact Nat.le_refl _⟩, by repeat (first | exact Drawn0.refl _ | apply Drawn0.step)⟩
    · replace c6 := Bool.eq_false_iff.mpr c6
      subst c6
      have H1 : (drawbridgeref04_Amo.j0 k a0 false a2 a3) = some r := by rw [if_neg (show ¬ (false = true) by decide)] at H; exact H
      clear H
      have H := H1
      clear H1
      have H' := Aside0.mk H
      clear H
      go_wp2
      go_meet
      case rel => exact ⟨_, (a2), (a3), (by first | rfl | (simp; done) | (simp [*]; done)), (by first | rfl | (simp; done) | (simp [*]; done)), H', ⟨by first | omega | exact Nat.le_refl _⟩, by repeat (first | exact Drawn0.refl _ | apply Drawn0.step)⟩
  case rest =>
    clear HC5
    try clear c1
    try clear c2
    try clear p2
    try clear c6
    obtain ⟨kq, x9_4, x10_4, rfl, rfl, HA, HJ4, ⟨mc4, rfl⟩⟩ := hcut
    cases kq with
    | zero => exact absurd HA.out (by simp [drawbridgeref04_Amo.j0])
    | succ kj4 =>
      have H := HA.out
      clear HA
      simp only [drawbridgeref04_Amo.j0] at H
      by_cases c9 : a0 = 0
      · rw [if_pos c9] at H
        have c9b0 : (a0 == 0) = true := beq_iff_eq.mpr c9
        have c9b1 : (a0 != 0) = false := bne_eq_false_iff_eq.mpr c9
        clear c9
        by_cases c10 : a1 = true
        · subst c10
          have H1 : (some (Int.tmod (IntKind.u64.wrap (x9_4 + x10_4)) 4294967296)) = some r := by rw [if_pos rfl] at H; exact H
          clear H
          have H := H1
          clear H1
          obtain rfl := Option.some.inj H
          go_wp2
          go_ret
          exact ⟨by first | rfl | (simp; done) | (simp [*]; done), by repeat (first | exact Drawn0.refl _ | apply Drawn0.step)⟩
        · replace c10 := Bool.eq_false_iff.mpr c10
          subst c10
          have H1 : (some (IntKind.u64.wrap (x9_4 + x10_4))) = some r := by rw [if_neg (show ¬ (false = true) by decide)] at H; exact H
          clear H
          have H := H1
          clear H1
          obtain rfl := Option.some.inj H
          go_wp2
          go_ret
          exact ⟨by first | rfl | (simp; done) | (simp [*]; done), by repeat (first | exact Drawn0.refl _ | apply Drawn0.step)⟩
      · rw [if_neg c9] at H
        have c9b0 : (a0 == 0) = false := beq_eq_false_iff_ne.mpr c9
        have c9b1 : (a0 != 0) = true := bne_iff_ne.mpr c9
        by_cases c11 : a0 = 1
        · rw [if_pos c11] at H
          have c11b0 : (a0 == 1) = true := beq_iff_eq.mpr c11
          have c11b1 : (a0 != 1) = false := bne_eq_false_iff_eq.mpr c11
          clear c11
          by_cases c12 : a1 = true
          · subst c12
            have H1 : (some (Int.tmod x10_4 4294967296)) = some r := by rw [if_pos rfl] at H; exact H
            clear H
            have H := H1
            clear H1
            obtain rfl := Option.some.inj H
            go_wp2
            go_ret
            exact ⟨by first | rfl | (simp; done) | (simp [*]; done), by repeat (first | exact Drawn0.refl _ | apply Drawn0.step)⟩
          · replace c12 := Bool.eq_false_iff.mpr c12
            subst c12
            have H1 : (some x10_4) = some r := by rw [if_neg (show ¬ (false = true) by decide)] at H; exact H
            clear H
            have H := H1
            clear H1
            obtain rfl := Option.some.inj H
            go_wp2
            go_ret
            exact ⟨by first | rfl | (simp; done) | (simp [*]; done), by repeat (first | exact Drawn0.refl _ | apply Drawn0.step)⟩
        · rw [if_neg c11] at H
          have c11b0 : (a0 == 1) = false := beq_eq_false_iff_ne.mpr c11
          have c11b1 : (a0 != 1) = true := bne_iff_ne.mpr c11
          by_cases c13 : a0 = 4
          · rw [if_pos c13] at H
            have c13b0 : (a0 == 4) = true := beq_iff_eq.mpr c13
            have c13b1 : (a0 != 4) = false := bne_eq_false_iff_eq.mpr c13
            clear c13
            by_cases c14 : a1 = true
            · subst c14
              have H1 : (some (Int.tmod (Go.bits .xor .u64 x9_4 x10_4) 4294967296)) = some r := by rw [if_pos rfl] at H; exact H
              clear H
              have H := H1
              clear H1
              obtain rfl := Option.some.inj H
              go_wp2
              go_ret
              exact ⟨by first | rfl | (simp; done) | (simp [*]; done), by repeat (first | exact Drawn0.refl _ | apply Drawn0.step)⟩
            · replace c14 := Bool.eq_false_iff.mpr c14
              subst c14
              have H1 : (some (Go.bits .xor .u64 x9_4 x10_4)) = some r := by rw [if_neg (show ¬ (false = true) by decide)] at H; exact H
              clear H
              have H := H1
              clear H1
              obtain rfl := Option.some.inj H
              go_wp2
              go_ret
              exact ⟨by first | rfl | (simp; done) | (simp [*]; done), by repeat (first | exact Drawn0.refl _ | apply Drawn0.step)⟩
          · rw [if_neg c13] at H
            have c13b0 : (a0 == 4) = false := beq_eq_false_iff_ne.mpr c13
            have c13b1 : (a0 != 4) = true := bne_iff_ne.mpr c13
            by_cases c15 : a0 = 8
            · rw [if_pos c15] at H
              have c15b0 : (a0 == 8) = true := beq_iff_eq.mpr c15
              have c15b1 : (a0 != 8) = false := bne_eq_false_iff_eq.mpr c15
              clear c15
              by_cases c16 : a1 = true
              · subst c16
                have H1 : (some (Int.tmod (Go.bits .or .u64 x9_4 x10_4) 4294967296)) = some r := by rw [if_pos rfl] at H; exact H
                clear H
                have H := H1
                clear H1
                obtain rfl := Option.some.inj H
                go_wp2
                go_ret
                exact ⟨by first | rfl | (simp; done) | (simp [*]; done), by repeat (first | exact Drawn0.refl _ | apply Drawn0.step)⟩
              · replace c16 := Bool.eq_false_iff.mpr c16
                subst c16
                have H1 : (some (Go.bits .or .u64 x9_4 x10_4)) = some r := by rw [if_neg (show ¬ (false = true) by decide)] at H; exact H
                clear H
                have H := H1
                clear H1
                obtain rfl := Option.some.inj H
                go_wp2
                go_ret
                exact ⟨by first | rfl | (simp; done) | (simp [*]; done), by repeat (first | exact Drawn0.refl _ | apply Drawn0.step)⟩
            · rw [if_neg c15] at H
              have c15b0 : (a0 == 8) = false := beq_eq_false_iff_ne.mpr c15
              have c15b1 : (a0 != 8) = true := bne_iff_ne.mpr c15
              by_cases c17 : a0 = 12
              · rw [if_pos c17] at H
                have c17b0 : (a0 == 12) = true := beq_iff_eq.mpr c17
                have c17b1 : (a0 != 12) = false := bne_eq_false_iff_eq.mpr c17
                clear c17
                by_cases c18 : a1 = true
                · subst c18
                  have H1 : (some (Int.tmod (Go.bits .and .u64 x9_4 x10_4) 4294967296)) = some r := by rw [if_pos rfl] at H; exact H
                  clear H
                  have H := H1
                  clear H1
                  obtain rfl := Option.some.inj H
                  go_wp2
                  go_ret
                  exact ⟨by first | rfl | (simp; done) | (simp [*]; done), by repeat (first | exact Drawn0.refl _ | apply Drawn0.step)⟩
                · replace c18 := Bool.eq_false_iff.mpr c18
                  subst c18
                  have H1 : (some (Go.bits .and .u64 x9_4 x10_4)) = some r := by rw [if_neg (show ¬ (false = true) by decide)] at H; exact H
                  clear H
                  have H := H1
                  clear H1
                  obtain rfl := Option.some.inj H
                  go_wp2
                  go_ret
                  exact ⟨by first | rfl | (simp; done) | (simp [*]; done), by repeat (first | exact Drawn0.refl _ | apply Drawn0.step)⟩
              · rw [if_neg c17] at H
                have c17b0 : (a0 == 12) = false := beq_eq_false_iff_ne.mpr c17
                have c17b1 : (a0 != 12) = true := bne_iff_ne.mpr c17
                by_cases c19 : a0 = 16
                · rw [if_pos c19] at H
                  have c19b0 : (a0 == 16) = true := beq_iff_eq.mpr c19
                  have c19b1 : (a0 != 16) = false := bne_eq_false_iff_eq.mpr c19
                  clear c19
                  replace H := Option.bind_eq_some_iff.mp H
                  obtain ⟨t162, A200, H⟩ := H
                  replace H : (if t162 = true then (if a1 = true then (some (Int.tmod x10_4 4294967296)) else (some x10_4)) else (if a1 = true then (some (Int.tmod x9_4 4294967296)) else (some x9_4))) = some r := H
                  have A20 := Aside0.mk A200
                  clear A200
                  by_cases c21 : t162 = true
                  · subst c21
                    have H1 : (if a1 = true then (some (Int.tmod x10_4 4294967296)) else (some x10_4)) = some r := by rw [if_pos rfl] at H; exact H
                    clear H
                    have H := H1
                    clear H1
                    by_cases c22 : a1 = true
                    · subst c22
                      have H1 : (some (Int.tmod x10_4 4294967296)) = some r := by rw [if_pos rfl] at H; exact H
                      clear H
                      have H := H1
                      clear H1
                      obtain rfl := Option.some.inj H
                      go_wp2_with (first | ((with_reducible refine gate_callee (f := 23) rfl ?_); refine goesL_ (some 48) rfl rfl Try.func23 (by kernel_rfl) rfl #[.int .u64 x10_4, .int .u64 x9_4] rfl (by (try simp only [List.map_toArray, List.map_cons, List.map_nil]); first | done | rfl | (simp only [List.length_drop, List.length_take]; rfl)) ?_; (with_reducible refine (drawbridgeref04_Less.calls x10_4 x9_4 true _ A20.out).mono ?_); rintro e w' ⟨rfl, ⟨nd, rfl⟩⟩; refine ⟨_, rfl, ?_⟩))
                      go_ret
                      exact ⟨by first | rfl | (simp; done) | (simp [*]; done), by repeat (first | exact Drawn0.refl _ | apply Drawn0.step)⟩
                    · replace c22 := Bool.eq_false_iff.mpr c22
                      subst c22
                      have H1 : (some x10_4) = some r := by rw [if_neg (show ¬ (false = true) by decide)] at H; exact H
                      clear H
                      have H := H1
                      clear H1
                      obtain rfl := Option.some.inj H
                      go_wp2_with (first | ((with_reducible refine gate_callee (f := 23) rfl ?_); refine goesL_ (some 48) rfl rfl Try.func23 (by kernel_rfl) rfl #[.int .u64 x10_4, .int .u64 x9_4] rfl (by (try simp only [List.map_toArray, List.map_cons, List.map_nil]); first | done | rfl | (simp only [List.length_drop, List.length_take]; rfl)) ?_; (with_reducible refine (drawbridgeref04_Less.calls x10_4 x9_4 true _ A20.out).mono ?_); rintro e w' ⟨rfl, ⟨nd, rfl⟩⟩; refine ⟨_, rfl, ?_⟩))
                      go_ret
                      exact ⟨by first | rfl | (simp; done) | (simp [*]; done), by repeat (first | exact Drawn0.refl _ | apply Drawn0.step)⟩
                  · replace c21 := Bool.eq_false_iff.mpr c21
                    subst c21
                    have H1 : (if a1 = true then (some (Int.tmod x9_4 4294967296)) else (some x9_4)) = some r := by rw [if_neg (show ¬ (false = true) by decide)] at H; exact H
                    clear H
                    have H := H1
                    clear H1
                    by_cases c23 : a1 = true
                    · subst c23
                      have H1 : (some (Int.tmod x9_4 4294967296)) = some r := by rw [if_pos rfl] at H; exact H
                      clear H
                      have H := H1
                      clear H1
                      obtain rfl := Option.some.inj H
                      go_wp2_with (first | ((with_reducible refine gate_callee (f := 23) rfl ?_); refine goesL_ (some 48) rfl rfl Try.func23 (by kernel_rfl) rfl #[.int .u64 x10_4, .int .u64 x9_4] rfl (by (try simp only [List.map_toArray, List.map_cons, List.map_nil]); first | done | rfl | (simp only [List.length_drop, List.length_take]; rfl)) ?_; (with_reducible refine (drawbridgeref04_Less.calls x10_4 x9_4 false _ A20.out).mono ?_); rintro e w' ⟨rfl, ⟨nd, rfl⟩⟩; refine ⟨_, rfl, ?_⟩))
                      go_ret
                      exact ⟨by first | rfl | (simp; done) | (simp [*]; done), by repeat (first | exact Drawn0.refl _ | apply Drawn0.step)⟩
                    · replace c23 := Bool.eq_false_iff.mpr c23
                      subst c23
                      have H1 : (some x9_4) = some r := by rw [if_neg (show ¬ (false = true) by decide)] at H; exact H
                      clear H
                      have H := H1
                      clear H1
                      obtain rfl := Option.some.inj H
                      go_wp2_with (first | ((with_reducible refine gate_callee (f := 23) rfl ?_); refine goesL_ (some 48) rfl rfl Try.func23 (by kernel_rfl) rfl #[.int .u64 x10_4, .int .u64 x9_4] rfl (by (try simp only [List.map_toArray, List.map_cons, List.map_nil]); first | done | rfl | (simp only [List.length_drop, List.length_take]; rfl)) ?_; (with_reducible refine (drawbridgeref04_Less.calls x10_4 x9_4 false _ A20.out).mono ?_); rintro e w' ⟨rfl, ⟨nd, rfl⟩⟩; refine ⟨_, rfl, ?_⟩))
                      go_ret
                      exact ⟨by first | rfl | (simp; done) | (simp [*]; done), by repeat (first | exact Drawn0.refl _ | apply Drawn0.step)⟩
                · rw [if_neg c19] at H
                  have c19b0 : (a0 == 16) = false := beq_eq_false_iff_ne.mpr c19
                  have c19b1 : (a0 != 16) = true := bne_iff_ne.mpr c19
                  by_cases c24 : a0 = 20
                  · rw [if_pos c24] at H
                    have c24b0 : (a0 == 20) = true := beq_iff_eq.mpr c24
                    have c24b1 : (a0 != 20) = false := bne_eq_false_iff_eq.mpr c24
                    clear c24
                    replace H := Option.bind_eq_some_iff.mp H
                    obtain ⟨t163, A250, H⟩ := H
                    replace H : (if t163 = true then (if a1 = true then (some (Int.tmod x10_4 4294967296)) else (some x10_4)) else (if a1 = true then (some (Int.tmod x9_4 4294967296)) else (some x9_4))) = some r := H
                    have A25 := Aside0.mk A250
                    clear A250
                    by_cases c26 : t163 = true
                    · subst c26
                      have H1 : (if a1 = true then (some (Int.tmod x10_4 4294967296)) else (some x10_4)) = some r := by rw [if_pos rfl] at H; exact H
                      clear H
                      have H := H1
                      clear H1
                      by_cases c27 : a1 = true
                      · subst c27
                        have H1 : (some (Int.tmod x10_4 4294967296)) = some r := by rw [if_pos rfl] at H; exact H
                        clear H
                        have H := H1
                        clear H1
                        obtain rfl := Option.some.inj H
                        go_wp2_with (first | ((with_reducible refine gate_callee (f := 23) rfl ?_); refine goesL_ (some 54) rfl rfl Try.func23 (by kernel_rfl) rfl #[.int .u64 x9_4, .int .u64 x10_4] rfl (by (try simp only [List.map_toArray, List.map_cons, List.map_nil]); first | done | rfl | (simp only [List.length_drop, List.length_take]; rfl)) ?_; (with_reducible refine (drawbridgeref04_Less.calls x9_4 x10_4 true _ A25.out).mono ?_); rintro e w' ⟨rfl, ⟨nd, rfl⟩⟩; refine ⟨_, rfl, ?_⟩))
                        go_ret
                        exact ⟨by first | rfl | (simp; done) | (simp [*]; done), by repeat (first | exact Drawn0.refl _ | apply Drawn0.step)⟩
                      · replace c27 := Bool.eq_false_iff.mpr c27
                        subst c27
                        have H1 : (some x10_4) = some r := by rw [if_neg (show ¬ (false = true) by decide)] at H; exact H
                        clear H
                        have H := H1
                        clear H1
                        obtain rfl := Option.some.inj H
                        go_wp2_with (first | ((with_reducible refine gate_callee (f := 23) rfl ?_); refine goesL_ (some 54) rfl rfl Try.func23 (by kernel_rfl) rfl #[.int .u64 x9_4, .int .u64 x10_4] rfl (by (try simp only [List.map_toArray, List.map_cons, List.map_nil]); first | done | rfl | (simp only [List.length_drop, List.length_take]; rfl)) ?_; (with_reducible refine (drawbridgeref04_Less.calls x9_4 x10_4 true _ A25.out).mono ?_); rintro e w' ⟨rfl, ⟨nd, rfl⟩⟩; refine ⟨_, rfl, ?_⟩))
                        go_ret
                        exact ⟨by first | rfl | (simp; done) | (simp [*]; done), by repeat (first | exact Drawn0.refl _ | apply Drawn0.step)⟩
                    · replace c26 := Bool.eq_false_iff.mpr c26
                      subst c26
                      have H1 : (if a1 = true then (some (Int.tmod x9_4 4294967296)) else (some x9_4)) = some r := by rw [if_neg (show ¬ (false = true) by decide)] at H; exact H
                      clear H
                      have H := H1
                      clear H1
                      by_cases c28 : a1 = true
                      · subst c28
                        have H1 : (some (Int.tmod x9_4 4294967296)) = some r := by rw [if_pos rfl] at H; exact H
                        clear H
                        have H := H1
                        clear H1
                        obtain rfl := Option.some.inj H
                        go_wp2_with (first | ((with_reducible refine gate_callee (f := 23) rfl ?_); refine goesL_ (some 54) rfl rfl Try.func23 (by kernel_rfl) rfl #[.int .u64 x9_4, .int .u64 x10_4] rfl (by (try simp only [List.map_toArray, List.map_cons, List.map_nil]); first | done | rfl | (simp only [List.length_drop, List.length_take]; rfl)) ?_; (with_reducible refine (drawbridgeref04_Less.calls x9_4 x10_4 false _ A25.out).mono ?_); rintro e w' ⟨rfl, ⟨nd, rfl⟩⟩; refine ⟨_, rfl, ?_⟩))
                        go_ret
                        exact ⟨by first | rfl | (simp; done) | (simp [*]; done), by repeat (first | exact Drawn0.refl _ | apply Drawn0.step)⟩
                      · replace c28 := Bool.eq_false_iff.mpr c28
                        subst c28
                        have H1 : (some x9_4) = some r := by rw [if_neg (show ¬ (false = true) by decide)] at H; exact H
                        clear H
                        have H := H1
                        clear H1
                        obtain rfl := Option.some.inj H
                        go_wp2_with (first | ((with_reducible refine gate_callee (f := 23) rfl ?_); refine goesL_ (some 54) rfl rfl Try.func23 (by kernel_rfl) rfl #[.int .u64 x9_4, .int .u64 x10_4] rfl (by (try simp only [List.map_toArray, List.map_cons, List.map_nil]); first | done | rfl | (simp only [List.length_drop, List.length_take]; rfl)) ?_; (with_reducible refine (drawbridgeref04_Less.calls x9_4 x10_4 false _ A25.out).mono ?_); rintro e w' ⟨rfl, ⟨nd, rfl⟩⟩; refine ⟨_, rfl, ?_⟩))
                        go_ret
                        exact ⟨by first | rfl | (simp; done) | (simp [*]; done), by repeat (first | exact Drawn0.refl _ | apply Drawn0.step)⟩
                  · rw [if_neg c24] at H
                    have c24b0 : (a0 == 20) = false := beq_eq_false_iff_ne.mpr c24
                    have c24b1 : (a0 != 20) = true := bne_iff_ne.mpr c24
                    by_cases c29 : a0 = 24
                    · rw [if_pos c29] at H
                      have c29b0 : (a0 == 24) = true := beq_iff_eq.mpr c29
                      have c29b1 : (a0 != 24) = false := bne_eq_false_iff_eq.mpr c29
                      clear c29
                      by_cases c30 : x10_4 < x9_4
                      · rw [if_pos c30] at H
                        have c30b0 : decide (x10_4 < x9_4) = true := decide_eq_true c30
                        clear c30
                        by_cases c31 : a1 = true
                        · subst c31
                          have H1 : (some (Int.tmod x10_4 4294967296)) = some r := by rw [if_pos rfl] at H; exact H
                          clear H
                          have H := H1
                          clear H1
                          obtain rfl := Option.some.inj H
                          go_wp2
                          go_ret
                          exact ⟨by first | rfl | (simp; done) | (simp [*]; done), by repeat (first | exact Drawn0.refl _ | apply Drawn0.step)⟩
                        · replace c31 := Bool.eq_false_iff.mpr c31
                          subst c31
                          have H1 : (some x10_4) = some r := by rw [if_neg (show ¬ (false = true) by decide)] at H; exact H
                          clear H
                          have H := H1
                          clear H1
                          obtain rfl := Option.some.inj H
                          go_wp2
                          go_ret
                          exact ⟨by first | rfl | (simp; done) | (simp [*]; done), by repeat (first | exact Drawn0.refl _ | apply Drawn0.step)⟩
                      · rw [if_neg c30] at H
                        have c30b0 : decide (x10_4 < x9_4) = false := decide_eq_false c30
                        clear c30
                        by_cases c32 : a1 = true
                        · subst c32
                          have H1 : (some (Int.tmod x9_4 4294967296)) = some r := by rw [if_pos rfl] at H; exact H
                          clear H
                          have H := H1
                          clear H1
                          obtain rfl := Option.some.inj H
                          go_wp2
                          go_ret
                          exact ⟨by first | rfl | (simp; done) | (simp [*]; done), by repeat (first | exact Drawn0.refl _ | apply Drawn0.step)⟩
                        · replace c32 := Bool.eq_false_iff.mpr c32
                          subst c32
                          have H1 : (some x9_4) = some r := by rw [if_neg (show ¬ (false = true) by decide)] at H; exact H
                          clear H
                          have H := H1
                          clear H1
                          obtain rfl := Option.some.inj H
                          go_wp2
                          go_ret
                          exact ⟨by first | rfl | (simp; done) | (simp [*]; done), by repeat (first | exact Drawn0.refl _ | apply Drawn0.step)⟩
                    · rw [if_neg c29] at H
                      have c29b0 : (a0 == 24) = false := beq_eq_false_iff_ne.mpr c29
                      have c29b1 : (a0 != 24) = true := bne_iff_ne.mpr c29
                      by_cases c33 : a0 = 28
                      · rw [if_pos c33] at H
                        have c33b0 : (a0 == 28) = true := beq_iff_eq.mpr c33
                        have c33b1 : (a0 != 28) = false := bne_eq_false_iff_eq.mpr c33
                        clear c33
                        by_cases c34 : x9_4 < x10_4
                        · rw [if_pos c34] at H
                          have c34b0 : decide (x9_4 < x10_4) = true := decide_eq_true c34
                          clear c34
                          by_cases c35 : a1 = true
                          · subst c35
                            have H1 : (some (Int.tmod x10_4 4294967296)) = some r := by rw [if_pos rfl] at H; exact H
                            clear H
                            have H := H1
                            clear H1
                            obtain rfl := Option.some.inj H
                            go_wp2
                            go_ret
                            exact ⟨by first | rfl | (simp; done) | (simp [*]; done), by repeat (first | exact Drawn0.refl _ | apply Drawn0.step)⟩
                          · replace c35 := Bool.eq_false_iff.mpr c35
                            subst c35
                            have H1 : (some x10_4) = some r := by rw [if_neg (show ¬ (false = true) by decide)] at H; exact H
                            clear H
                            have H := H1
                            clear H1
                            obtain rfl := Option.some.inj H
                            go_wp2
                            go_ret
                            exact ⟨by first | rfl | (simp; done) | (simp [*]; done), by repeat (first | exact Drawn0.refl _ | apply Drawn0.step)⟩
                        · rw [if_neg c34] at H
                          have c34b0 : decide (x9_4 < x10_4) = false := decide_eq_false c34
                          clear c34
                          by_cases c36 : a1 = true
                          · subst c36
                            have H1 : (some (Int.tmod x9_4 4294967296)) = some r := by rw [if_pos rfl] at H; exact H
                            clear H
                            have H := H1
                            clear H1
                            obtain rfl := Option.some.inj H
                            go_wp2
                            go_ret
                            exact ⟨by first | rfl | (simp; done) | (simp [*]; done), by repeat (first | exact Drawn0.refl _ | apply Drawn0.step)⟩
                          · replace c36 := Bool.eq_false_iff.mpr c36
                            subst c36
                            have H1 : (some x9_4) = some r := by rw [if_neg (show ¬ (false = true) by decide)] at H; exact H
                            clear H
                            have H := H1
                            clear H1
                            obtain rfl := Option.some.inj H
                            go_wp2
                            go_ret
                            exact ⟨by first | rfl | (simp; done) | (simp [*]; done), by repeat (first | exact Drawn0.refl _ | apply Drawn0.step)⟩
                      · rw [if_neg c33] at H
                        have c33b0 : (a0 == 28) = false := beq_eq_false_iff_ne.mpr c33
                        have c33b1 : (a0 != 28) = true := bne_iff_ne.mpr c33
                        by_cases c37 : a1 = true
                        · subst c37
                          have H1 : (some (Int.tmod x9_4 4294967296)) = some r := by rw [if_pos rfl] at H; exact H
                          clear H
                          have H := H1
                          clear H1
                          obtain rfl := Option.some.inj H
                          go_wp2
                          go_ret
                          exact ⟨by first | rfl | (simp; done) | (simp [*]; done), by repeat (first | exact Drawn0.refl _ | apply Drawn0.step)⟩
                        · replace c37 := Bool.eq_false_iff.mpr c37
                          subst c37
                          have H1 : (some x9_4) = some r := by rw [if_neg (show ¬ (false = true) by decide)] at H; exact H
                          clear H
                          have H := H1
                          clear H1
                          obtain rfl := Option.some.inj H
                          go_wp2
                          go_ret
                          exact ⟨by first | rfl | (simp; done) | (simp [*]; done), by repeat (first | exact Drawn0.refl _ | apply Drawn0.step)⟩

/-! ### drawbridgelaw04_AluReckons: function 4 -/
def drawbridgelaw04_AluReckons.f (k : Nat) (a0 : Int) (a1 : Bool) (a2 : Int) (a3 : Int) : Option (Bool) := (alu_Do.f a0 a1 a2 a3).bind fun t164 => ((drawbridgeref04_Do.f k a0 a1 a2 a3).bind fun t165 => (if t164 = t165 then ((alu_Cond.f k a0 a2 a3).bind fun t166 => ((drawbridgeref04_Cond.f a0 a2 a3).bind fun t167 => (if (t166 == t167) = true then ((alu_Amo.f a0 a1 a2 a3).bind fun t168 => ((drawbridgeref04_Amo.f k a0 a1 a2 a3).bind fun t169 => (if t168 = t169 then ((drawbridgelaw04_heads.f k).bind fun t170 => (some t170)) else (some false)))) else (some false)))) else (some false)))
theorem drawbridgelaw04_AluReckons.mono : ∀ a0 a1 a2 a3 k, LeO (drawbridgelaw04_AluReckons.f k a0 a1 a2 a3) (drawbridgelaw04_AluReckons.f (k + 1) a0 a1 a2 a3) := by
  intro a0 a1 a2 a3 k
  unfold drawbridgelaw04_AluReckons.f
  repeat' first
      | (with_reducible exact alu_Cond.mono _ _ _ _)
      | (with_reducible exact drawbridgelaw04_heads.mono _)
      | (with_reducible exact drawbridgeref04_Amo.mono _ _ _ _ _)
      | (with_reducible exact drawbridgeref04_Do.mono _ _ _ _ _)
      | (with_reducible exact LeO.refl _)
      | (with_reducible exact LeO.none _)
      | (with_reducible refine LeO.ite ?_ ?_)
      | (with_reducible refine LeO.bind ?_ (fun _ => ?_))
      | exact alu_Cond.mono _ _ _ _
      | exact drawbridgelaw04_heads.mono _
      | exact drawbridgeref04_Amo.mono _ _ _ _ _
      | exact drawbridgeref04_Do.mono _ _ _ _ _
      | exact LeO.none _
      | refine LeO.ite ?_ ?_
      | refine LeO.bind ?_ (fun _ => ?_)
set_option maxHeartbeats 8000000 in
set_option maxRecDepth 100000 in
theorem drawbridgelaw04_AluReckons.calls (k : Nat) (a0 : Int) (a1 : Bool) (a2 : Int) (a3 : Int) (r : Bool) (w : World) (h : drawbridgelaw04_AluReckons.f k a0 a1 a2 a3 = some r) :
    Calls Try.prog 4 #[.int .i64 a0, .bool a1, .int .u64 a2, .int .u64 a3] w fun e w' => e = .returned (.bool r) ∧ Drawn0 w w' := by
  have H : ((alu_Do.f a0 a1 a2 a3).bind fun t164 => ((drawbridgeref04_Do.f k a0 a1 a2 a3).bind fun t165 => (if t164 = t165 then ((alu_Cond.f k a0 a2 a3).bind fun t166 => ((drawbridgeref04_Cond.f a0 a2 a3).bind fun t167 => (if (t166 == t167) = true then ((alu_Amo.f a0 a1 a2 a3).bind fun t168 => ((drawbridgeref04_Amo.f k a0 a1 a2 a3).bind fun t169 => (if t168 = t169 then ((drawbridgelaw04_heads.f k).bind fun t170 => (some t170)) else (some false)))) else (some false)))) else (some false)))) = some r := h
  clear h
  replace H := Option.bind_eq_some_iff.mp H
  obtain ⟨t164, A50, H⟩ := H
  replace H : ((drawbridgeref04_Do.f k a0 a1 a2 a3).bind fun t165 => (if t164 = t165 then ((alu_Cond.f k a0 a2 a3).bind fun t166 => ((drawbridgeref04_Cond.f a0 a2 a3).bind fun t167 => (if (t166 == t167) = true then ((alu_Amo.f a0 a1 a2 a3).bind fun t168 => ((drawbridgeref04_Amo.f k a0 a1 a2 a3).bind fun t169 => (if t168 = t169 then ((drawbridgelaw04_heads.f k).bind fun t170 => (some t170)) else (some false)))) else (some false)))) else (some false))) = some r := H
  have A5 := Aside0.mk A50
  clear A50
  replace H := Option.bind_eq_some_iff.mp H
  obtain ⟨t165, A60, H⟩ := H
  replace H : (if t164 = t165 then ((alu_Cond.f k a0 a2 a3).bind fun t166 => ((drawbridgeref04_Cond.f a0 a2 a3).bind fun t167 => (if (t166 == t167) = true then ((alu_Amo.f a0 a1 a2 a3).bind fun t168 => ((drawbridgeref04_Amo.f k a0 a1 a2 a3).bind fun t169 => (if t168 = t169 then ((drawbridgelaw04_heads.f k).bind fun t170 => (some t170)) else (some false)))) else (some false)))) else (some false)) = some r := H
  have A6 := Aside0.mk A60
  clear A60
  by_cases c7 : t164 = t165
  · rw [if_pos c7] at H
    have c7b0 : (t164 == t165) = true := beq_iff_eq.mpr c7
    have c7b1 : (t164 != t165) = false := bne_eq_false_iff_eq.mpr c7
    clear c7
    replace H := Option.bind_eq_some_iff.mp H
    obtain ⟨t166, A80, H⟩ := H
    replace H : ((drawbridgeref04_Cond.f a0 a2 a3).bind fun t167 => (if (t166 == t167) = true then ((alu_Amo.f a0 a1 a2 a3).bind fun t168 => ((drawbridgeref04_Amo.f k a0 a1 a2 a3).bind fun t169 => (if t168 = t169 then ((drawbridgelaw04_heads.f k).bind fun t170 => (some t170)) else (some false)))) else (some false))) = some r := H
    have A8 := Aside0.mk A80
    clear A80
    replace H := Option.bind_eq_some_iff.mp H
    obtain ⟨t167, A90, H⟩ := H
    replace H : (if (t166 == t167) = true then ((alu_Amo.f a0 a1 a2 a3).bind fun t168 => ((drawbridgeref04_Amo.f k a0 a1 a2 a3).bind fun t169 => (if t168 = t169 then ((drawbridgelaw04_heads.f k).bind fun t170 => (some t170)) else (some false)))) else (some false)) = some r := H
    have A9 := Aside0.mk A90
    clear A90
    by_cases c10 : (t166 == t167) = true
    · rw [if_pos c10] at H
      have c10b0 : (t166 == t167) = true := c10
      (try (have c10b1 : decide (t166 = t167) = true := by simpa using c10))
      (try (have c10b2 : (t166 == t167) = true := by simpa using c10))
      clear c10
      replace H := Option.bind_eq_some_iff.mp H
      obtain ⟨t168, A110, H⟩ := H
      replace H : ((drawbridgeref04_Amo.f k a0 a1 a2 a3).bind fun t169 => (if t168 = t169 then ((drawbridgelaw04_heads.f k).bind fun t170 => (some t170)) else (some false))) = some r := H
      have A11 := Aside0.mk A110
      clear A110
      replace H := Option.bind_eq_some_iff.mp H
      obtain ⟨t169, A120, H⟩ := H
      replace H : (if t168 = t169 then ((drawbridgelaw04_heads.f k).bind fun t170 => (some t170)) else (some false)) = some r := H
      have A12 := Aside0.mk A120
      clear A120
      by_cases c13 : t168 = t169
      · rw [if_pos c13] at H
        have c13b0 : (t168 == t169) = true := beq_iff_eq.mpr c13
        have c13b1 : (t168 != t169) = false := bne_eq_false_iff_eq.mpr c13
        clear c13
        replace H := Option.bind_eq_some_iff.mp H
        obtain ⟨t170, A140, H⟩ := H
        replace H : (some t170) = some r := H
        have A14 := Aside0.mk A140
        clear A140
        obtain rfl := Option.some.inj H
        go_enter Try.func4, Try.ntmps4
        go_wp2_with (first | ((with_reducible refine gate_callee (f := 10) rfl ?_); refine goesL_ (some 13) rfl rfl Try.func10 (by kernel_rfl) rfl #[.int .i64 a0, .bool a1, .int .u64 a2, .int .u64 a3] rfl (by (try simp only [List.map_toArray, List.map_cons, List.map_nil]); first | done | rfl | (simp only [List.length_drop, List.length_take]; rfl)) ?_; (with_reducible refine (alu_Do.calls a0 a1 a2 a3 t164 _ A5.out).mono ?_); rintro e w' ⟨rfl, ⟨nd, rfl⟩⟩; refine ⟨_, rfl, ?_⟩) | ((with_reducible refine gate_callee (f := 11) rfl ?_); refine goesL_ (some 18) rfl rfl Try.func11 (by kernel_rfl) rfl #[.int .i64 a0, .bool a1, .int .u64 a2, .int .u64 a3] rfl (by (try simp only [List.map_toArray, List.map_cons, List.map_nil]); first | done | rfl | (simp only [List.length_drop, List.length_take]; rfl)) ?_; (with_reducible refine (drawbridgeref04_Do.calls k a0 a1 a2 a3 t165 _ A6.out).mono ?_); rintro e w' ⟨rfl, ⟨nd, rfl⟩⟩; refine ⟨_, rfl, ?_⟩) | (go_at_call 12; (with_reducible refine (alu_Cond.calls k a0 a2 a3 t166 _ A8.out).mono ?_); rintro e w' ⟨rfl, ⟨nd, rfl⟩⟩) | (go_at_call 13; (with_reducible refine (drawbridgeref04_Cond.calls a0 a2 a3 t167 _ A9.out).mono ?_); rintro e w' ⟨rfl, ⟨nd, rfl⟩⟩) | (go_at_call 14; (with_reducible refine (alu_Amo.calls a0 a1 a2 a3 t168 _ A11.out).mono ?_); rintro e w' ⟨rfl, ⟨nd, rfl⟩⟩) | (go_at_call 15; (with_reducible refine (drawbridgeref04_Amo.calls k a0 a1 a2 a3 t169 _ A12.out).mono ?_); rintro e w' ⟨rfl, ⟨nd, rfl⟩⟩) | (go_at_call 9; (with_reducible refine (drawbridgelaw04_heads.calls k  t170 _ A14.out).mono ?_); rintro e w' ⟨rfl, ⟨nd, rfl⟩⟩))
        go_ret
        exact ⟨by first | rfl | (simp; done) | (simp [*]; done), by repeat (first | exact Drawn0.refl _ | apply Drawn0.step)⟩
      · rw [if_neg c13] at H
        have c13b0 : (t168 == t169) = false := beq_eq_false_iff_ne.mpr c13
        have c13b1 : (t168 != t169) = true := bne_iff_ne.mpr c13
        obtain rfl := Option.some.inj H
        go_enter Try.func4, Try.ntmps4
        go_wp2_with (first | ((with_reducible refine gate_callee (f := 10) rfl ?_); refine goesL_ (some 13) rfl rfl Try.func10 (by kernel_rfl) rfl #[.int .i64 a0, .bool a1, .int .u64 a2, .int .u64 a3] rfl (by (try simp only [List.map_toArray, List.map_cons, List.map_nil]); first | done | rfl | (simp only [List.length_drop, List.length_take]; rfl)) ?_; (with_reducible refine (alu_Do.calls a0 a1 a2 a3 t164 _ A5.out).mono ?_); rintro e w' ⟨rfl, ⟨nd, rfl⟩⟩; refine ⟨_, rfl, ?_⟩) | ((with_reducible refine gate_callee (f := 11) rfl ?_); refine goesL_ (some 18) rfl rfl Try.func11 (by kernel_rfl) rfl #[.int .i64 a0, .bool a1, .int .u64 a2, .int .u64 a3] rfl (by (try simp only [List.map_toArray, List.map_cons, List.map_nil]); first | done | rfl | (simp only [List.length_drop, List.length_take]; rfl)) ?_; (with_reducible refine (drawbridgeref04_Do.calls k a0 a1 a2 a3 t165 _ A6.out).mono ?_); rintro e w' ⟨rfl, ⟨nd, rfl⟩⟩; refine ⟨_, rfl, ?_⟩) | (go_at_call 12; (with_reducible refine (alu_Cond.calls k a0 a2 a3 t166 _ A8.out).mono ?_); rintro e w' ⟨rfl, ⟨nd, rfl⟩⟩) | (go_at_call 13; (with_reducible refine (drawbridgeref04_Cond.calls a0 a2 a3 t167 _ A9.out).mono ?_); rintro e w' ⟨rfl, ⟨nd, rfl⟩⟩) | (go_at_call 14; (with_reducible refine (alu_Amo.calls a0 a1 a2 a3 t168 _ A11.out).mono ?_); rintro e w' ⟨rfl, ⟨nd, rfl⟩⟩) | (go_at_call 15; (with_reducible refine (drawbridgeref04_Amo.calls k a0 a1 a2 a3 t169 _ A12.out).mono ?_); rintro e w' ⟨rfl, ⟨nd, rfl⟩⟩))
        go_ret
        exact ⟨by first | rfl | (simp; done) | (simp [*]; done), by repeat (first | exact Drawn0.refl _ | apply Drawn0.step)⟩
    · rw [if_neg c10] at H
      have c10b0 : (t166 == t167) = false := by simpa using c10
      (try (have c10b1 : decide (t166 = t167) = false := by simpa using c10))
      (try (have c10b2 : (t166 == t167) = false := by simpa using c10))
      (try (have c10b3 : ¬ (t166 = t167) := by simpa using c10))
      clear c10
      obtain rfl := Option.some.inj H
      go_enter Try.func4, Try.ntmps4
      go_wp2_with (first | ((with_reducible refine gate_callee (f := 10) rfl ?_); refine goesL_ (some 13) rfl rfl Try.func10 (by kernel_rfl) rfl #[.int .i64 a0, .bool a1, .int .u64 a2, .int .u64 a3] rfl (by (try simp only [List.map_toArray, List.map_cons, List.map_nil]); first | done | rfl | (simp only [List.length_drop, List.length_take]; rfl)) ?_; (with_reducible refine (alu_Do.calls a0 a1 a2 a3 t164 _ A5.out).mono ?_); rintro e w' ⟨rfl, ⟨nd, rfl⟩⟩; refine ⟨_, rfl, ?_⟩) | ((with_reducible refine gate_callee (f := 11) rfl ?_); refine goesL_ (some 18) rfl rfl Try.func11 (by kernel_rfl) rfl #[.int .i64 a0, .bool a1, .int .u64 a2, .int .u64 a3] rfl (by (try simp only [List.map_toArray, List.map_cons, List.map_nil]); first | done | rfl | (simp only [List.length_drop, List.length_take]; rfl)) ?_; (with_reducible refine (drawbridgeref04_Do.calls k a0 a1 a2 a3 t165 _ A6.out).mono ?_); rintro e w' ⟨rfl, ⟨nd, rfl⟩⟩; refine ⟨_, rfl, ?_⟩) | (go_at_call 12; (with_reducible refine (alu_Cond.calls k a0 a2 a3 t166 _ A8.out).mono ?_); rintro e w' ⟨rfl, ⟨nd, rfl⟩⟩) | (go_at_call 13; (with_reducible refine (drawbridgeref04_Cond.calls a0 a2 a3 t167 _ A9.out).mono ?_); rintro e w' ⟨rfl, ⟨nd, rfl⟩⟩))
      go_ret
      exact ⟨by first | rfl | (simp; done) | (simp [*]; done), by repeat (first | exact Drawn0.refl _ | apply Drawn0.step)⟩
  · rw [if_neg c7] at H
    have c7b0 : (t164 == t165) = false := beq_eq_false_iff_ne.mpr c7
    have c7b1 : (t164 != t165) = true := bne_iff_ne.mpr c7
    obtain rfl := Option.some.inj H
    go_enter Try.func4, Try.ntmps4
    go_wp2_with (first | ((with_reducible refine gate_callee (f := 10) rfl ?_); refine goesL_ (some 13) rfl rfl Try.func10 (by kernel_rfl) rfl #[.int .i64 a0, .bool a1, .int .u64 a2, .int .u64 a3] rfl (by (try simp only [List.map_toArray, List.map_cons, List.map_nil]); first | done | rfl | (simp only [List.length_drop, List.length_take]; rfl)) ?_; (with_reducible refine (alu_Do.calls a0 a1 a2 a3 t164 _ A5.out).mono ?_); rintro e w' ⟨rfl, ⟨nd, rfl⟩⟩; refine ⟨_, rfl, ?_⟩) | ((with_reducible refine gate_callee (f := 11) rfl ?_); refine goesL_ (some 18) rfl rfl Try.func11 (by kernel_rfl) rfl #[.int .i64 a0, .bool a1, .int .u64 a2, .int .u64 a3] rfl (by (try simp only [List.map_toArray, List.map_cons, List.map_nil]); first | done | rfl | (simp only [List.length_drop, List.length_take]; rfl)) ?_; (with_reducible refine (drawbridgeref04_Do.calls k a0 a1 a2 a3 t165 _ A6.out).mono ?_); rintro e w' ⟨rfl, ⟨nd, rfl⟩⟩; refine ⟨_, rfl, ?_⟩))
    go_ret
    exact ⟨by first | rfl | (simp; done) | (simp [*]; done), by repeat (first | exact Drawn0.refl _ | apply Drawn0.step)⟩

/-- THE ONE PURE STATEMENT of drawbridgelaw04_AluReckons: yours. -/
def drawbridgelaw04_AluReckons.Pure : Prop := ∀ (a0 : Int) (a1 : Bool) (a2 : Int) (a3 : Int), (Lit.int .i64 a0).wf = true → (Lit.int .u64 a2).wf = true → (Lit.int .u64 a3).wf = true → ∃ k, drawbridgelaw04_AluReckons.f k a0 a1 a2 a3 = some true
theorem drawbridgelaw04_AluReckons.walk (P : drawbridgelaw04_AluReckons.Pure) (a0 : Int) (a1 : Bool) (a2 : Int) (a3 : Int) (w : World) (w0 : (Lit.int .i64 a0).wf = true) (w2 : (Lit.int .u64 a2).wf = true) (w3 : (Lit.int .u64 a3).wf = true) :
    Calls Try.prog 4 #[.int .i64 a0, .bool a1, .int .u64 a2, .int .u64 a3] w fun e w' => e = .returned (.bool true) ∧ Below w.heap.size w w' := by
  obtain ⟨k, h⟩ := P a0 a1 a2 a3 w0 w2 w3
  refine (drawbridgelaw04_AluReckons.calls k a0 a1 a2 a3 true w h).mono ?_
  rintro e w' ⟨rfl, hd⟩
  exact ⟨rfl, hd.below⟩

/-! ### drawbridgelaw04_AluDivides: function 5 -/
def drawbridgelaw04_AluDivides.j0 : Nat → Int → Int → Bool → Option (Bool)
  | 0, _, _, _ => none
  | k + 1, x0, x8, x62 => if x62 = true then (some false) else (if x8 = 0 then ((drawbridgelaw04_heads.f k).bind fun t176 => (some t176)) else ((drawbridgeref04_Neg.f x8).bind fun t177 => ((drawbridgeref04_Neg.f x0).bind fun t178 => (if (t177 == t178) = true then ((drawbridgelaw04_heads.f k).bind fun t179 => (some t179)) else (some false)))))
def drawbridgelaw04_AluDivides.f (k : Nat) (a0 : Int) (a1 : Int) : Option (Bool) := (alu_Do.f 21 false a0 a1).bind fun t171 => ((alu_Do.f 23 false a0 a1).bind fun t172 => ((alu_Do.f 20 false a0 a1).bind fun t173 => ((alu_Do.f 22 false a0 a1).bind fun t174 => (if a1 = 0 then (if t171 = 18446744073709551615 then (if t172 = a0 then (if t173 = 18446744073709551615 then (if t174 = a0 then ((drawbridgelaw04_heads.f k).bind fun t175 => (some t175)) else (some false)) else (some false)) else (some false)) else (some false)) else (if (IntKind.u64.wrap ((IntKind.u64.wrap (t171 * a1)) + t172)) = a0 then (if t172 ≥ a1 then (drawbridgelaw04_AluDivides.j0 k a0 t174 true) else (drawbridgelaw04_AluDivides.j0 k a0 t174 ((IntKind.u64.wrap ((IntKind.u64.wrap (t173 * a1)) + t174)) != a0))) else (drawbridgelaw04_AluDivides.j0 k a0 t174 true))))))
theorem drawbridgelaw04_AluDivides.mono_l : ∀ k, (∀ y0 y1 y2, LeO (drawbridgelaw04_AluDivides.j0 k y0 y1 y2) (drawbridgelaw04_AluDivides.j0 (k + 1) y0 y1 y2))
  | 0 => fun _ _ _ r h => by simp [drawbridgelaw04_AluDivides.j0] at h
  | k + 1 => by
    have ih0 := drawbridgelaw04_AluDivides.mono_l k
    · intro y0 y1 y2
      unfold drawbridgelaw04_AluDivides.j0
      repeat' first
      | (with_reducible exact ih0 _ _ _)
      | (with_reducible exact drawbridgelaw04_heads.mono _)
      | (with_reducible exact LeO.refl _)
      | (with_reducible exact LeO.none _)
      | (with_reducible refine LeO.ite ?_ ?_)
      | (with_reducible refine LeO.bind ?_ (fun _ => ?_))
      | exact ih0 _ _ _
      | exact drawbridgelaw04_heads.mono _
      | exact LeO.none _
      | refine LeO.ite ?_ ?_
      | refine LeO.bind ?_ (fun _ => ?_)
theorem drawbridgelaw04_AluDivides.mono : ∀ a0 a1 k, LeO (drawbridgelaw04_AluDivides.f k a0 a1) (drawbridgelaw04_AluDivides.f (k + 1) a0 a1) := by
  intro a0 a1 k
  have ih0 := drawbridgelaw04_AluDivides.mono_l k
  unfold drawbridgelaw04_AluDivides.f
  repeat' first
      | (with_reducible exact ih0 _ _ _)
      | (with_reducible exact drawbridgelaw04_heads.mono _)
      | (with_reducible exact LeO.refl _)
      | (with_reducible exact LeO.none _)
      | (with_reducible refine LeO.ite ?_ ?_)
      | (with_reducible refine LeO.bind ?_ (fun _ => ?_))
      | exact ih0 _ _ _
      | exact drawbridgelaw04_heads.mono _
      | exact LeO.none _
      | refine LeO.ite ?_ ?_
      | refine LeO.bind ?_ (fun _ => ?_)
set_option maxHeartbeats 8000000 in
set_option maxRecDepth 100000 in
theorem drawbridgelaw04_AluDivides.calls (k : Nat) (a0 : Int) (a1 : Int) (r : Bool) (w : World) (h : drawbridgelaw04_AluDivides.f k a0 a1 = some r) :
    Calls Try.prog 5 #[.int .u64 a0, .int .u64 a1] w fun e w' => e = .returned (.bool r) ∧ Drawn0 w w' := by
  have H : ((alu_Do.f 21 false a0 a1).bind fun t171 => ((alu_Do.f 23 false a0 a1).bind fun t172 => ((alu_Do.f 20 false a0 a1).bind fun t173 => ((alu_Do.f 22 false a0 a1).bind fun t174 => (if a1 = 0 then (if t171 = 18446744073709551615 then (if t172 = a0 then (if t173 = 18446744073709551615 then (if t174 = a0 then ((drawbridgelaw04_heads.f k).bind fun t175 => (some t175)) else (some false)) else (some false)) else (some false)) else (some false)) else (if (IntKind.u64.wrap ((IntKind.u64.wrap (t171 * a1)) + t172)) = a0 then (if t172 ≥ a1 then (drawbridgelaw04_AluDivides.j0 k a0 t174 true) else (drawbridgelaw04_AluDivides.j0 k a0 t174 ((IntKind.u64.wrap ((IntKind.u64.wrap (t173 * a1)) + t174)) != a0))) else (drawbridgelaw04_AluDivides.j0 k a0 t174 true))))))) = some r := h
  clear h
  replace H := Option.bind_eq_some_iff.mp H
  obtain ⟨t171, A30, H⟩ := H
  replace H : ((alu_Do.f 23 false a0 a1).bind fun t172 => ((alu_Do.f 20 false a0 a1).bind fun t173 => ((alu_Do.f 22 false a0 a1).bind fun t174 => (if a1 = 0 then (if t171 = 18446744073709551615 then (if t172 = a0 then (if t173 = 18446744073709551615 then (if t174 = a0 then ((drawbridgelaw04_heads.f k).bind fun t175 => (some t175)) else (some false)) else (some false)) else (some false)) else (some false)) else (if (IntKind.u64.wrap ((IntKind.u64.wrap (t171 * a1)) + t172)) = a0 then (if t172 ≥ a1 then (drawbridgelaw04_AluDivides.j0 k a0 t174 true) else (drawbridgelaw04_AluDivides.j0 k a0 t174 ((IntKind.u64.wrap ((IntKind.u64.wrap (t173 * a1)) + t174)) != a0))) else (drawbridgelaw04_AluDivides.j0 k a0 t174 true)))))) = some r := H
  have A3 := Aside0.mk A30
  clear A30
  replace H := Option.bind_eq_some_iff.mp H
  obtain ⟨t172, A40, H⟩ := H
  replace H : ((alu_Do.f 20 false a0 a1).bind fun t173 => ((alu_Do.f 22 false a0 a1).bind fun t174 => (if a1 = 0 then (if t171 = 18446744073709551615 then (if t172 = a0 then (if t173 = 18446744073709551615 then (if t174 = a0 then ((drawbridgelaw04_heads.f k).bind fun t175 => (some t175)) else (some false)) else (some false)) else (some false)) else (some false)) else (if (IntKind.u64.wrap ((IntKind.u64.wrap (t171 * a1)) + t172)) = a0 then (if t172 ≥ a1 then (drawbridgelaw04_AluDivides.j0 k a0 t174 true) else (drawbridgelaw04_AluDivides.j0 k a0 t174 ((IntKind.u64.wrap ((IntKind.u64.wrap (t173 * a1)) + t174)) != a0))) else (drawbridgelaw04_AluDivides.j0 k a0 t174 true))))) = some r := H
  have A4 := Aside0.mk A40
  clear A40
  replace H := Option.bind_eq_some_iff.mp H
  obtain ⟨t173, A50, H⟩ := H
  replace H : ((alu_Do.f 22 false a0 a1).bind fun t174 => (if a1 = 0 then (if t171 = 18446744073709551615 then (if t172 = a0 then (if t173 = 18446744073709551615 then (if t174 = a0 then ((drawbridgelaw04_heads.f k).bind fun t175 => (some t175)) else (some false)) else (some false)) else (some false)) else (some false)) else (if (IntKind.u64.wrap ((IntKind.u64.wrap (t171 * a1)) + t172)) = a0 then (if t172 ≥ a1 then (drawbridgelaw04_AluDivides.j0 k a0 t174 true) else (drawbridgelaw04_AluDivides.j0 k a0 t174 ((IntKind.u64.wrap ((IntKind.u64.wrap (t173 * a1)) + t174)) != a0))) else (drawbridgelaw04_AluDivides.j0 k a0 t174 true)))) = some r := H
  have A5 := Aside0.mk A50
  clear A50
  replace H := Option.bind_eq_some_iff.mp H
  obtain ⟨t174, A60, H⟩ := H
  replace H : (if a1 = 0 then (if t171 = 18446744073709551615 then (if t172 = a0 then (if t173 = 18446744073709551615 then (if t174 = a0 then ((drawbridgelaw04_heads.f k).bind fun t175 => (some t175)) else (some false)) else (some false)) else (some false)) else (some false)) else (if (IntKind.u64.wrap ((IntKind.u64.wrap (t171 * a1)) + t172)) = a0 then (if t172 ≥ a1 then (drawbridgelaw04_AluDivides.j0 k a0 t174 true) else (drawbridgelaw04_AluDivides.j0 k a0 t174 ((IntKind.u64.wrap ((IntKind.u64.wrap (t173 * a1)) + t174)) != a0))) else (drawbridgelaw04_AluDivides.j0 k a0 t174 true))) = some r := H
  have A6 := Aside0.mk A60
  clear A60
  by_cases c7 : a1 = 0
  · rw [if_pos c7] at H
    have c7b0 : (a1 == 0) = true := beq_iff_eq.mpr c7
    have c7b1 : (a1 != 0) = false := bne_eq_false_iff_eq.mpr c7
    clear c7
    by_cases c8 : t171 = 18446744073709551615
    · rw [if_pos c8] at H
      have c8b0 : (t171 == 18446744073709551615) = true := beq_iff_eq.mpr c8
      have c8b1 : (t171 != 18446744073709551615) = false := bne_eq_false_iff_eq.mpr c8
      clear c8
      by_cases c9 : t172 = a0
      · rw [if_pos c9] at H
        have c9b0 : (t172 == a0) = true := beq_iff_eq.mpr c9
        have c9b1 : (t172 != a0) = false := bne_eq_false_iff_eq.mpr c9
        clear c9
        by_cases c10 : t173 = 18446744073709551615
        · rw [if_pos c10] at H
          have c10b0 : (t173 == 18446744073709551615) = true := beq_iff_eq.mpr c10
          have c10b1 : (t173 != 18446744073709551615) = false := bne_eq_false_iff_eq.mpr c10
          clear c10
          by_cases c11 : t174 = a0
          · rw [if_pos c11] at H
            have c11b0 : (t174 == a0) = true := beq_iff_eq.mpr c11
            have c11b1 : (t174 != a0) = false := bne_eq_false_iff_eq.mpr c11
            clear c11
            replace H := Option.bind_eq_some_iff.mp H
            obtain ⟨t175, A120, H⟩ := H
            replace H : (some t175) = some r := H
            have A12 := Aside0.mk A120
            clear A120
            obtain rfl := Option.some.inj H
            go_enter Try.func5, Try.ntmps5
            go_wp2_with (first | ((with_reducible refine gate_callee (f := 10) rfl ?_); refine goesL_ (some 11) rfl rfl Try.func10 (by kernel_rfl) rfl #[.int .i64 21, .bool false, .int .u64 a0, .int .u64 a1] rfl (by (try simp only [List.map_toArray, List.map_cons, List.map_nil]); first | done | rfl | (simp only [List.length_drop, List.length_take]; rfl)) ?_; (with_reducible refine (alu_Do.calls 21 false a0 a1 t171 _ A3.out).mono ?_); rintro e w' ⟨rfl, ⟨nd, rfl⟩⟩; refine ⟨_, rfl, ?_⟩) | ((with_reducible refine gate_callee (f := 10) rfl ?_); refine goesL_ (some 14) rfl rfl Try.func10 (by kernel_rfl) rfl #[.int .i64 23, .bool false, .int .u64 a0, .int .u64 a1] rfl (by (try simp only [List.map_toArray, List.map_cons, List.map_nil]); first | done | rfl | (simp only [List.length_drop, List.length_take]; rfl)) ?_; (with_reducible refine (alu_Do.calls 23 false a0 a1 t172 _ A4.out).mono ?_); rintro e w' ⟨rfl, ⟨nd, rfl⟩⟩; refine ⟨_, rfl, ?_⟩) | ((with_reducible refine gate_callee (f := 10) rfl ?_); refine goesL_ (some 17) rfl rfl Try.func10 (by kernel_rfl) rfl #[.int .i64 20, .bool false, .int .u64 a0, .int .u64 a1] rfl (by (try simp only [List.map_toArray, List.map_cons, List.map_nil]); first | done | rfl | (simp only [List.length_drop, List.length_take]; rfl)) ?_; (with_reducible refine (alu_Do.calls 20 false a0 a1 t173 _ A5.out).mono ?_); rintro e w' ⟨rfl, ⟨nd, rfl⟩⟩; refine ⟨_, rfl, ?_⟩) | ((with_reducible refine gate_callee (f := 10) rfl ?_); refine goesL_ (some 20) rfl rfl Try.func10 (by kernel_rfl) rfl #[.int .i64 22, .bool false, .int .u64 a0, .int .u64 a1] rfl (by (try simp only [List.map_toArray, List.map_cons, List.map_nil]); first | done | rfl | (simp only [List.length_drop, List.length_take]; rfl)) ?_; (with_reducible refine (alu_Do.calls 22 false a0 a1 t174 _ A6.out).mono ?_); rintro e w' ⟨rfl, ⟨nd, rfl⟩⟩; refine ⟨_, rfl, ?_⟩) | (go_at_call 9; (with_reducible refine (drawbridgelaw04_heads.calls k  t175 _ A12.out).mono ?_); rintro e w' ⟨rfl, ⟨nd, rfl⟩⟩))
            go_ret
            exact ⟨by first | rfl | (simp; done) | (simp [*]; done), by repeat (first | exact Drawn0.refl _ | apply Drawn0.step)⟩
          · rw [if_neg c11] at H
            have c11b0 : (t174 == a0) = false := beq_eq_false_iff_ne.mpr c11
            have c11b1 : (t174 != a0) = true := bne_iff_ne.mpr c11
            obtain rfl := Option.some.inj H
            go_enter Try.func5, Try.ntmps5
            go_wp2_with (first | ((with_reducible refine gate_callee (f := 10) rfl ?_); refine goesL_ (some 11) rfl rfl Try.func10 (by kernel_rfl) rfl #[.int .i64 21, .bool false, .int .u64 a0, .int .u64 a1] rfl (by (try simp only [List.map_toArray, List.map_cons, List.map_nil]); first | done | rfl | (simp only [List.length_drop, List.length_take]; rfl)) ?_; (with_reducible refine (alu_Do.calls 21 false a0 a1 t171 _ A3.out).mono ?_); rintro e w' ⟨rfl, ⟨nd, rfl⟩⟩; refine ⟨_, rfl, ?_⟩) | ((with_reducible refine gate_callee (f := 10) rfl ?_); refine goesL_ (some 14) rfl rfl Try.func10 (by kernel_rfl) rfl #[.int .i64 23, .bool false, .int .u64 a0, .int .u64 a1] rfl (by (try simp only [List.map_toArray, List.map_cons, List.map_nil]); first | done | rfl | (simp only [List.length_drop, List.length_take]; rfl)) ?_; (with_reducible refine (alu_Do.calls 23 false a0 a1 t172 _ A4.out).mono ?_); rintro e w' ⟨rfl, ⟨nd, rfl⟩⟩; refine ⟨_, rfl, ?_⟩) | ((with_reducible refine gate_callee (f := 10) rfl ?_); refine goesL_ (some 17) rfl rfl Try.func10 (by kernel_rfl) rfl #[.int .i64 20, .bool false, .int .u64 a0, .int .u64 a1] rfl (by (try simp only [List.map_toArray, List.map_cons, List.map_nil]); first | done | rfl | (simp only [List.length_drop, List.length_take]; rfl)) ?_; (with_reducible refine (alu_Do.calls 20 false a0 a1 t173 _ A5.out).mono ?_); rintro e w' ⟨rfl, ⟨nd, rfl⟩⟩; refine ⟨_, rfl, ?_⟩) | ((with_reducible refine gate_callee (f := 10) rfl ?_); refine goesL_ (some 20) rfl rfl Try.func10 (by kernel_rfl) rfl #[.int .i64 22, .bool false, .int .u64 a0, .int .u64 a1] rfl (by (try simp only [List.map_toArray, List.map_cons, List.map_nil]); first | done | rfl | (simp only [List.length_drop, List.length_take]; rfl)) ?_; (with_reducible refine (alu_Do.calls 22 false a0 a1 t174 _ A6.out).mono ?_); rintro e w' ⟨rfl, ⟨nd, rfl⟩⟩; refine ⟨_, rfl, ?_⟩))
            go_ret
            exact ⟨by first | rfl | (simp; done) | (simp [*]; done), by repeat (first | exact Drawn0.refl _ | apply Drawn0.step)⟩
        · rw [if_neg c10] at H
          have c10b0 : (t173 == 18446744073709551615) = false := beq_eq_false_iff_ne.mpr c10
          have c10b1 : (t173 != 18446744073709551615) = true := bne_iff_ne.mpr c10
          obtain rfl := Option.some.inj H
          go_enter Try.func5, Try.ntmps5
          go_wp2_with (first | ((with_reducible refine gate_callee (f := 10) rfl ?_); refine goesL_ (some 11) rfl rfl Try.func10 (by kernel_rfl) rfl #[.int .i64 21, .bool false, .int .u64 a0, .int .u64 a1] rfl (by (try simp only [List.map_toArray, List.map_cons, List.map_nil]); first | done | rfl | (simp only [List.length_drop, List.length_take]; rfl)) ?_; (with_reducible refine (alu_Do.calls 21 false a0 a1 t171 _ A3.out).mono ?_); rintro e w' ⟨rfl, ⟨nd, rfl⟩⟩; refine ⟨_, rfl, ?_⟩) | ((with_reducible refine gate_callee (f := 10) rfl ?_); refine goesL_ (some 14) rfl rfl Try.func10 (by kernel_rfl) rfl #[.int .i64 23, .bool false, .int .u64 a0, .int .u64 a1] rfl (by (try simp only [List.map_toArray, List.map_cons, List.map_nil]); first | done | rfl | (simp only [List.length_drop, List.length_take]; rfl)) ?_; (with_reducible refine (alu_Do.calls 23 false a0 a1 t172 _ A4.out).mono ?_); rintro e w' ⟨rfl, ⟨nd, rfl⟩⟩; refine ⟨_, rfl, ?_⟩) | ((with_reducible refine gate_callee (f := 10) rfl ?_); refine goesL_ (some 17) rfl rfl Try.func10 (by kernel_rfl) rfl #[.int .i64 20, .bool false, .int .u64 a0, .int .u64 a1] rfl (by (try simp only [List.map_toArray, List.map_cons, List.map_nil]); first | done | rfl | (simp only [List.length_drop, List.length_take]; rfl)) ?_; (with_reducible refine (alu_Do.calls 20 false a0 a1 t173 _ A5.out).mono ?_); rintro e w' ⟨rfl, ⟨nd, rfl⟩⟩; refine ⟨_, rfl, ?_⟩) | ((with_reducible refine gate_callee (f := 10) rfl ?_); refine goesL_ (some 20) rfl rfl Try.func10 (by kernel_rfl) rfl #[.int .i64 22, .bool false, .int .u64 a0, .int .u64 a1] rfl (by (try simp only [List.map_toArray, List.map_cons, List.map_nil]); first | done | rfl | (simp only [List.length_drop, List.length_take]; rfl)) ?_; (with_reducible refine (alu_Do.calls 22 false a0 a1 t174 _ A6.out).mono ?_); rintro e w' ⟨rfl, ⟨nd, rfl⟩⟩; refine ⟨_, rfl, ?_⟩))
          go_ret
          exact ⟨by first | rfl | (simp; done) | (simp [*]; done), by repeat (first | exact Drawn0.refl _ | apply Drawn0.step)⟩
      · rw [if_neg c9] at H
        have c9b0 : (t172 == a0) = false := beq_eq_false_iff_ne.mpr c9
        have c9b1 : (t172 != a0) = true := bne_iff_ne.mpr c9
        obtain rfl := Option.some.inj H
        go_enter Try.func5, Try.ntmps5
        go_wp2_with (first | ((with_reducible refine gate_callee (f := 10) rfl ?_); refine goesL_ (some 11) rfl rfl Try.func10 (by kernel_rfl) rfl #[.int .i64 21, .bool false, .int .u64 a0, .int .u64 a1] rfl (by (try simp only [List.map_toArray, List.map_cons, List.map_nil]); first | done | rfl | (simp only [List.length_drop, List.length_take]; rfl)) ?_; (with_reducible refine (alu_Do.calls 21 false a0 a1 t171 _ A3.out).mono ?_); rintro e w' ⟨rfl, ⟨nd, rfl⟩⟩; refine ⟨_, rfl, ?_⟩) | ((with_reducible refine gate_callee (f := 10) rfl ?_); refine goesL_ (some 14) rfl rfl Try.func10 (by kernel_rfl) rfl #[.int .i64 23, .bool false, .int .u64 a0, .int .u64 a1] rfl (by (try simp only [List.map_toArray, List.map_cons, List.map_nil]); first | done | rfl | (simp only [List.length_drop, List.length_take]; rfl)) ?_; (with_reducible refine (alu_Do.calls 23 false a0 a1 t172 _ A4.out).mono ?_); rintro e w' ⟨rfl, ⟨nd, rfl⟩⟩; refine ⟨_, rfl, ?_⟩) | ((with_reducible refine gate_callee (f := 10) rfl ?_); refine goesL_ (some 17) rfl rfl Try.func10 (by kernel_rfl) rfl #[.int .i64 20, .bool false, .int .u64 a0, .int .u64 a1] rfl (by (try simp only [List.map_toArray, List.map_cons, List.map_nil]); first | done | rfl | (simp only [List.length_drop, List.length_take]; rfl)) ?_; (with_reducible refine (alu_Do.calls 20 false a0 a1 t173 _ A5.out).mono ?_); rintro e w' ⟨rfl, ⟨nd, rfl⟩⟩; refine ⟨_, rfl, ?_⟩) | ((with_reducible refine gate_callee (f := 10) rfl ?_); refine goesL_ (some 20) rfl rfl Try.func10 (by kernel_rfl) rfl #[.int .i64 22, .bool false, .int .u64 a0, .int .u64 a1] rfl (by (try simp only [List.map_toArray, List.map_cons, List.map_nil]); first | done | rfl | (simp only [List.length_drop, List.length_take]; rfl)) ?_; (with_reducible refine (alu_Do.calls 22 false a0 a1 t174 _ A6.out).mono ?_); rintro e w' ⟨rfl, ⟨nd, rfl⟩⟩; refine ⟨_, rfl, ?_⟩))
        go_ret
        exact ⟨by first | rfl | (simp; done) | (simp [*]; done), by repeat (first | exact Drawn0.refl _ | apply Drawn0.step)⟩
    · rw [if_neg c8] at H
      have c8b0 : (t171 == 18446744073709551615) = false := beq_eq_false_iff_ne.mpr c8
      have c8b1 : (t171 != 18446744073709551615) = true := bne_iff_ne.mpr c8
      obtain rfl := Option.some.inj H
      go_enter Try.func5, Try.ntmps5
      go_wp2_with (first | ((with_reducible refine gate_callee (f := 10) rfl ?_); refine goesL_ (some 11) rfl rfl Try.func10 (by kernel_rfl) rfl #[.int .i64 21, .bool false, .int .u64 a0, .int .u64 a1] rfl (by (try simp only [List.map_toArray, List.map_cons, List.map_nil]); first | done | rfl | (simp only [List.length_drop, List.length_take]; rfl)) ?_; (with_reducible refine (alu_Do.calls 21 false a0 a1 t171 _ A3.out).mono ?_); rintro e w' ⟨rfl, ⟨nd, rfl⟩⟩; refine ⟨_, rfl, ?_⟩) | ((with_reducible refine gate_callee (f := 10) rfl ?_); refine goesL_ (some 14) rfl rfl Try.func10 (by kernel_rfl) rfl #[.int .i64 23, .bool false, .int .u64 a0, .int .u64 a1] rfl (by (try simp only [List.map_toArray, List.map_cons, List.map_nil]); first | done | rfl | (simp only [List.length_drop, List.length_take]; rfl)) ?_; (with_reducible refine (alu_Do.calls 23 false a0 a1 t172 _ A4.out).mono ?_); rintro e w' ⟨rfl, ⟨nd, rfl⟩⟩; refine ⟨_, rfl, ?_⟩) | ((with_reducible refine gate_callee (f := 10) rfl ?_); refine goesL_ (some 17) rfl rfl Try.func10 (by kernel_rfl) rfl #[.int .i64 20, .bool false, .int .u64 a0, .int .u64 a1] rfl (by (try simp only [List.map_toArray, List.map_cons, List.map_nil]); first | done | rfl | (simp only [List.length_drop, List.length_take]; rfl)) ?_; (with_reducible refine (alu_Do.calls 20 false a0 a1 t173 _ A5.out).mono ?_); rintro e w' ⟨rfl, ⟨nd, rfl⟩⟩; refine ⟨_, rfl, ?_⟩) | ((with_reducible refine gate_callee (f := 10) rfl ?_); refine goesL_ (some 20) rfl rfl Try.func10 (by kernel_rfl) rfl #[.int .i64 22, .bool false, .int .u64 a0, .int .u64 a1] rfl (by (try simp only [List.map_toArray, List.map_cons, List.map_nil]); first | done | rfl | (simp only [List.length_drop, List.length_take]; rfl)) ?_; (with_reducible refine (alu_Do.calls 22 false a0 a1 t174 _ A6.out).mono ?_); rintro e w' ⟨rfl, ⟨nd, rfl⟩⟩; refine ⟨_, rfl, ?_⟩))
      go_ret
      exact ⟨by first | rfl | (simp; done) | (simp [*]; done), by repeat (first | exact Drawn0.refl _ | apply Drawn0.step)⟩
  · rw [if_neg c7] at H
    have c7b0 : (a1 == 0) = false := beq_eq_false_iff_ne.mpr c7
    have c7b1 : (a1 != 0) = true := bne_iff_ne.mpr c7
    have HC13 := Aside0.mk H
    clear H
    go_enter Try.func5, Try.ntmps5
    go_upto_region 5 with (first | ((with_reducible refine gate_callee (f := 10) rfl ?_); refine goesL_ (some 11) rfl rfl Try.func10 (by kernel_rfl) rfl #[.int .i64 21, .bool false, .int .u64 a0, .int .u64 a1] rfl (by (try simp only [List.map_toArray, List.map_cons, List.map_nil]); first | done | rfl | (simp only [List.length_drop, List.length_take]; rfl)) ?_; (with_reducible refine (alu_Do.calls 21 false a0 a1 t171 _ A3.out).mono ?_); rintro e w' ⟨rfl, ⟨nd, rfl⟩⟩; refine ⟨_, rfl, ?_⟩) | ((with_reducible refine gate_callee (f := 10) rfl ?_); refine goesL_ (some 14) rfl rfl Try.func10 (by kernel_rfl) rfl #[.int .i64 23, .bool false, .int .u64 a0, .int .u64 a1] rfl (by (try simp only [List.map_toArray, List.map_cons, List.map_nil]); first | done | rfl | (simp only [List.length_drop, List.length_take]; rfl)) ?_; (with_reducible refine (alu_Do.calls 23 false a0 a1 t172 _ A4.out).mono ?_); rintro e w' ⟨rfl, ⟨nd, rfl⟩⟩; refine ⟨_, rfl, ?_⟩) | ((with_reducible refine gate_callee (f := 10) rfl ?_); refine goesL_ (some 17) rfl rfl Try.func10 (by kernel_rfl) rfl #[.int .i64 20, .bool false, .int .u64 a0, .int .u64 a1] rfl (by (try simp only [List.map_toArray, List.map_cons, List.map_nil]); first | done | rfl | (simp only [List.length_drop, List.length_take]; rfl)) ?_; (with_reducible refine (alu_Do.calls 20 false a0 a1 t173 _ A5.out).mono ?_); rintro e w' ⟨rfl, ⟨nd, rfl⟩⟩; refine ⟨_, rfl, ?_⟩) | ((with_reducible refine gate_callee (f := 10) rfl ?_); refine goesL_ (some 20) rfl rfl Try.func10 (by kernel_rfl) rfl #[.int .i64 22, .bool false, .int .u64 a0, .int .u64 a1] rfl (by (try simp only [List.map_toArray, List.map_cons, List.map_nil]); first | done | rfl | (simp only [List.length_drop, List.length_take]; rfl)) ?_; (with_reducible refine (alu_Do.calls 22 false a0 a1 t174 _ A6.out).mono ?_); rintro e w' ⟨rfl, ⟨nd, rfl⟩⟩; refine ⟨_, rfl, ?_⟩))
    (try simp only [Act.put, List.setIfInBounds_toArray, List.set_cons_zero, List.set_cons_succ])
    go_cut [62] (fun v62 wc => ∃ (kq : Nat) (x62_12 : Bool), v62 = .bool x62_12 ∧ Aside0 (drawbridgelaw04_AluDivides.j0 kq a0 t174 x62_12 = some r) ∧ Aside0 (kq ≤ k) ∧ Drawn0 w wc)
    case first =>
      have H := HC13.out
      clear HC13
      by_cases c14 : (IntKind.u64.wrap ((IntKind.u64.wrap (t171 * a1)) + t172)) = a0
      · rw [if_pos c14] at H
        have c14b0 : ((IntKind.u64.wrap ((IntKind.u64.wrap (t171 * a1)) + t172)) == a0) = true := beq_iff_eq.mpr c14
        have c14b1 : ((IntKind.u64.wrap ((IntKind.u64.wrap (t171 * a1)) + t172)) != a0) = false := bne_eq_false_iff_eq.mpr c14
        clear c14
        (first | rw [c14b0] | (simp only [i64_w, i32_w]; rw [c14b0]) | skip)
        by_cases c15 : t172 ≥ a1
        · rw [if_pos c15] at H
          have c15b0 : decide (a1 ≤ t172) = true := decide_eq_true c15
          clear c15
          have H' := Aside0.mk H
          clear H
          go_wp2
          go_meet
          case rel => exact ⟨_, (true), (by first | rfl | (simp; done) | (simp [*]; done)), H', ⟨by first | omega | exact Nat.le_refl _⟩, by repeat (first | exact Drawn0.refl _ | apply Drawn0.step)⟩
        · rw [if_neg c15] at H
          have c15b0 : decide (a1 ≤ t172) = false := decide_eq_false c15
          clear c15
          have H' := Aside0.mk H
          clear H
          go_wp2
          go_meet
          case rel => exact ⟨_, (((IntKind.u64.wrap ((IntKind.u64.wrap (t173 * a1)) + t174)) != a0)), (by first | rfl | (simp; done) | (simp [*]; done)), H', ⟨by first | omega | exact Nat.le_refl _⟩, by repeat (first | exact Drawn0.refl _ | apply Drawn0.step)⟩
      · rw [if_neg c14] at H
        have c14b0 : ((IntKind.u64.wrap ((IntKind.u64.wrap (t171 * a1)) + t172)) == a0) = false := beq_eq_false_iff_ne.mpr c14
        have c14b1 : ((IntKind.u64.wrap ((IntKind.u64.wrap (t171 * a1)) + t172)) != a0) = true := bne_iff_ne.mpr c14
        (first | rw [c14b0] | (simp only [i64_w, i32_w]; rw [c14b0]) | skip)
        have H' := Aside0.mk H
        clear H
        go_wp2
        go_meet
        case rel => exact ⟨_, (true), (by first | rfl | (simp; done) | (simp [*]; done)), H', ⟨by first | omega | exact Nat.le_refl _⟩, by repeat (first | exact Drawn0.refl _ | apply Drawn0.step)⟩
    case rest =>
      clear HC13
      try clear c1
      try clear p2
      try clear c5
      try clear c7
      try clear c7b0
      try clear c7b1
      try clear c8
      try clear c8b0
      try clear c8b1
      try clear c9
      try clear c9b0
      try clear c9b1
      try clear c10
      try clear c10b0
      try clear c10b1
      try clear c11
      try clear c11b0
      try clear c11b1
      try clear c14
      try clear c14b0
      try clear c14b1
      try clear c15
      try clear c15b0
      obtain ⟨kq, x62_12, rfl, HA, HJ12, ⟨mc12, rfl⟩⟩ := hcut
      cases kq with
      | zero => exact absurd HA.out (by simp [drawbridgelaw04_AluDivides.j0])
      | succ kj12 =>
        have H := HA.out
        clear HA
        simp only [drawbridgelaw04_AluDivides.j0] at H
        by_cases c16 : x62_12 = true
        · subst c16
          have H1 : (some false) = some r := by rw [if_pos rfl] at H; exact H
          clear H
          have H := H1
          clear H1
          obtain rfl := Option.some.inj H
          go_wp2
          go_ret
          exact ⟨by first | rfl | (simp; done) | (simp [*]; done), by repeat (first | exact Drawn0.refl _ | apply Drawn0.step)⟩
        · replace c16 := Bool.eq_false_iff.mpr c16
          subst c16
          have H1 : (if t174 = 0 then ((drawbridgelaw04_heads.f kj12).bind fun t176 => (some t176)) else ((drawbridgeref04_Neg.f t174).bind fun t177 => ((drawbridgeref04_Neg.f a0).bind fun t178 => (if (t177 == t178) = true then ((drawbridgelaw04_heads.f kj12).bind fun t179 => (some t179)) else (some false))))) = some r := by rw [if_neg (show ¬ (false = true) by decide)] at H; exact H
          clear H
          have H := H1
          clear H1
          by_cases c17 : t174 = 0
          · rw [if_pos c17] at H
            have c17b0 : (t174 == 0) = true := beq_iff_eq.mpr c17
            have c17b1 : (t174 != 0) = false := bne_eq_false_iff_eq.mpr c17
            clear c17
            replace H := Option.bind_eq_some_iff.mp H
            obtain ⟨t176, A180, H⟩ := H
            replace H : (some t176) = some r := H
            have A18 := Aside0.mk A180
            clear A180
            obtain rfl := Option.some.inj H
            go_wp2_with (first | (go_at_call 9; (with_reducible refine (drawbridgelaw04_heads.calls kj12  t176 _ A18.out).mono ?_); rintro e w' ⟨rfl, ⟨nd, rfl⟩⟩))
            go_ret
            exact ⟨by first | rfl | (simp; done) | (simp [*]; done), by repeat (first | exact Drawn0.refl _ | apply Drawn0.step)⟩
          · rw [if_neg c17] at H
            have c17b0 : (t174 == 0) = false := beq_eq_false_iff_ne.mpr c17
            have c17b1 : (t174 != 0) = true := bne_iff_ne.mpr c17
            replace H := Option.bind_eq_some_iff.mp H
            obtain ⟨t177, A190, H⟩ := H
            replace H : ((drawbridgeref04_Neg.f a0).bind fun t178 => (if (t177 == t178) = true then ((drawbridgelaw04_heads.f kj12).bind fun t179 => (some t179)) else (some false))) = some r := H
            have A19 := Aside0.mk A190
            clear A190
            replace H := Option.bind_eq_some_iff.mp H
            obtain ⟨t178, A200, H⟩ := H
            replace H : (if (t177 == t178) = true then ((drawbridgelaw04_heads.f kj12).bind fun t179 => (some t179)) else (some false)) = some r := H
            have A20 := Aside0.mk A200
            clear A200
            by_cases c21 : (t177 == t178) = true
            · rw [if_pos c21] at H
              have c21b0 : (t177 == t178) = true := c21
              (try (have c21b1 : decide (t177 = t178) = true := by simpa using c21))
              (try (have c21b2 : (t177 == t178) = true := by simpa using c21))
              clear c21
              replace H := Option.bind_eq_some_iff.mp H
              obtain ⟨t179, A220, H⟩ := H
              replace H : (some t179) = some r := H
              have A22 := Aside0.mk A220
              clear A220
              obtain rfl := Option.some.inj H
              go_wp2_with (first | (go_at_call 16; (with_reducible refine (drawbridgeref04_Neg.calls t174 t177 _ A19.out).mono ?_); rintro e w' ⟨rfl, ⟨nd, rfl⟩⟩) | (go_at_call 16; (with_reducible refine (drawbridgeref04_Neg.calls a0 t178 _ A20.out).mono ?_); rintro e w' ⟨rfl, ⟨nd, rfl⟩⟩) | (go_at_call 9; (with_reducible refine (drawbridgelaw04_heads.calls kj12  t179 _ A22.out).mono ?_); rintro e w' ⟨rfl, ⟨nd, rfl⟩⟩))
              go_ret
              exact ⟨by first | rfl | (simp; done) | (simp [*]; done), by repeat (first | exact Drawn0.refl _ | apply Drawn0.step)⟩
            · rw [if_neg c21] at H
              have c21b0 : (t177 == t178) = false := by simpa using c21
              (try (have c21b1 : decide (t177 = t178) = false := by simpa using c21))
              (try (have c21b2 : (t177 == t178) = false := by simpa using c21))
              (try (have c21b3 : ¬ (t177 = t178) := by simpa using c21))
              clear c21
              obtain rfl := Option.some.inj H
              go_wp2_with (first | (go_at_call 16; (with_reducible refine (drawbridgeref04_Neg.calls t174 t177 _ A19.out).mono ?_); rintro e w' ⟨rfl, ⟨nd, rfl⟩⟩) | (go_at_call 16; (with_reducible refine (drawbridgeref04_Neg.calls a0 t178 _ A20.out).mono ?_); rintro e w' ⟨rfl, ⟨nd, rfl⟩⟩))
              go_ret
              exact ⟨by first | rfl | (simp; done) | (simp [*]; done), by repeat (first | exact Drawn0.refl _ | apply Drawn0.step)⟩

/-- THE ONE PURE STATEMENT of drawbridgelaw04_AluDivides: yours. -/
def drawbridgelaw04_AluDivides.Pure : Prop := ∀ (a0 : Int) (a1 : Int), (Lit.int .u64 a0).wf = true → (Lit.int .u64 a1).wf = true → ∃ k, drawbridgelaw04_AluDivides.f k a0 a1 = some true
theorem drawbridgelaw04_AluDivides.walk (P : drawbridgelaw04_AluDivides.Pure) (a0 : Int) (a1 : Int) (w : World) (w0 : (Lit.int .u64 a0).wf = true) (w1 : (Lit.int .u64 a1).wf = true) :
    Calls Try.prog 5 #[.int .u64 a0, .int .u64 a1] w fun e w' => e = .returned (.bool true) ∧ Below w.heap.size w w' := by
  obtain ⟨k, h⟩ := P a0 a1 w0 w1
  refine (drawbridgelaw04_AluDivides.calls k a0 a1 true w h).mono ?_
  rintro e w' ⟨rfl, hd⟩
  exact ⟨rfl, hd.below⟩

end Go.Proofs.Ytielecanhammbaa.Q
