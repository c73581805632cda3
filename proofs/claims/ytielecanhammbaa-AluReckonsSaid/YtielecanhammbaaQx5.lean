-- Ytielecanhammbaa: written by a program for this claim (several laws of one seat at once)
import Derived.Test.YtielecanhammbaaQx0
import Derived.Test.YtielecanhammbaaQx3
import Derived.Test.YtielecanhammbaaQx4
import Derived.Test.YtielecanhammbaaErx
namespace Go.Proofs.Ytielecanhammbaa.Q
open Go.RowKit Go.Proofs.YtielecanhammbaaW.PrintWords Go.Proofs.YtielecanhammbaaW.PrintLast Go.Proofs.YtielecanhammbaaW.PrintMore
attribute [local go_sem] max2_int min2_int max_two min_two max_three min_three max_four min_four   -- for this text's walks alone
set_option linter.unusedVariables false
set_option linter.unusedSimpArgs false

/-! ### drawbridgeref04_Do: function 11 -/
mutual
def drawbridgeref04_Do.j0 : Nat → Int → Int → Int → Int → Int → Int → Bool → Option (Int)
  | 0, _, _, _, _, _, _, _ => none
  | k + 1, x0, x2, x3, x9, x10, x21, x22 => if x22 = true then ((drawbridgeref01_Sext.f x2 32).bind fun t152 => ((drawbridgeref01_Sext.f x3 32).bind fun t153 => ((drawbridgeref04_do.f k x0 32 t152 t153).bind fun t154 => ((drawbridgeref01_Sext.f t154 32).bind fun t155 => (some t155))))) else (if x21 = 0 then (drawbridgeref04_Do.j1 k x0 x9 x10 (x21 == 0)) else (if x21 = 1 then (drawbridgeref04_Do.j1 k x0 x9 x10 (x21 == 1)) else (if x21 = 5 then (drawbridgeref04_Do.j1 k x0 x9 x10 (x21 == 5)) else (if x21 = 8 then (drawbridgeref04_Do.j1 k x0 x9 x10 (x21 == 8)) else (if x21 = 16 then (drawbridgeref04_Do.j1 k x0 x9 x10 (x21 == 16)) else (if x21 = 21 then (drawbridgeref04_Do.j1 k x0 x9 x10 (x21 == 21)) else (drawbridgeref04_Do.j1 k x0 x9 x10 (x21 == 23))))))))
def drawbridgeref04_Do.j1 : Nat → Int → Int → Int → Bool → Option (Int)
  | 0, _, _, _, _ => none
  | k + 1, x0, x9, x10, x30 => if x30 = true then ((drawbridgeref04_do.f k x0 32 x9 x10).bind fun t156 => ((drawbridgeref01_Sext.f t156 32).bind fun t157 => (some t157))) else (some 0)
end
def drawbridgeref04_Do.f (k : Nat) (a0 : Int) (a1 : Bool) (a2 : Int) (a3 : Int) : Option (Int) := if a1 = true then (if a0 = 13 then (drawbridgeref04_Do.j0 k a0 a2 a3 (Int.tmod a2 4294967296) (Int.tmod a3 4294967296) a0 (a0 == 13)) else (if a0 = 20 then (drawbridgeref04_Do.j0 k a0 a2 a3 (Int.tmod a2 4294967296) (Int.tmod a3 4294967296) a0 (a0 == 20)) else (drawbridgeref04_Do.j0 k a0 a2 a3 (Int.tmod a2 4294967296) (Int.tmod a3 4294967296) a0 (a0 == 22)))) else ((drawbridgeref04_do.f k a0 64 a2 a3).bind fun t151 => (some t151))
theorem drawbridgeref04_Do.mono_l : ∀ k, (∀ y0 y1 y2 y3 y4 y5 y6, LeO (drawbridgeref04_Do.j0 k y0 y1 y2 y3 y4 y5 y6) (drawbridgeref04_Do.j0 (k + 1) y0 y1 y2 y3 y4 y5 y6)) ∧ (∀ y0 y1 y2 y3, LeO (drawbridgeref04_Do.j1 k y0 y1 y2 y3) (drawbridgeref04_Do.j1 (k + 1) y0 y1 y2 y3))
  | 0 => ⟨fun _ _ _ _ _ _ _ r h => by simp [drawbridgeref04_Do.j0] at h, fun _ _ _ _ r h => by simp [drawbridgeref04_Do.j1] at h⟩
  | k + 1 => by
    obtain ⟨ih0, ih1⟩ := drawbridgeref04_Do.mono_l k
    refine ⟨?_, ?_⟩
    · intro y0 y1 y2 y3 y4 y5 y6
      unfold drawbridgeref04_Do.j0
      repeat' first
      | (with_reducible exact ih0 _ _ _ _ _ _ _)
      | (with_reducible exact ih1 _ _ _ _)
      | (with_reducible exact drawbridgeref04_do.mono _ _ _ _ _)
      | (with_reducible exact LeO.refl _)
      | (with_reducible exact LeO.none _)
      | (with_reducible refine LeO.ite ?_ ?_)
      | (with_reducible refine LeO.bind ?_ (fun _ => ?_))
      | exact ih0 _ _ _ _ _ _ _
      | exact ih1 _ _ _ _
      | exact drawbridgeref04_do.mono _ _ _ _ _
      | exact LeO.none _
      | refine LeO.ite ?_ ?_
      | refine LeO.bind ?_ (fun _ => ?_)
    · intro y0 y1 y2 y3
      unfold drawbridgeref04_Do.j1
      repeat' first
      | (with_reducible exact ih0 _ _ _ _ _ _ _)
      | (with_reducible exact ih1 _ _ _ _)
      | (with_reducible exact drawbridgeref04_do.mono _ _ _ _ _)
      | (with_reducible exact LeO.refl _)
      | (with_reducible exact LeO.none _)
      | (with_reducible refine LeO.ite ?_ ?_)
      | (with_reducible refine LeO.bind ?_ (fun _ => ?_))
      | exact ih0 _ _ _ _ _ _ _
      | exact ih1 _ _ _ _
      | exact drawbridgeref04_do.mono _ _ _ _ _
      | exact LeO.none _
      | refine LeO.ite ?_ ?_
      | refine LeO.bind ?_ (fun _ => ?_)
theorem drawbridgeref04_Do.mono : ∀ a0 a1 a2 a3 k, LeO (drawbridgeref04_Do.f k a0 a1 a2 a3) (drawbridgeref04_Do.f (k + 1) a0 a1 a2 a3) := by
  intro a0 a1 a2 a3 k
  obtain ⟨ih0, ih1⟩ := drawbridgeref04_Do.mono_l k
  unfold drawbridgeref04_Do.f
  repeat' first
      | (with_reducible exact ih0 _ _ _ _ _ _ _)
      | (with_reducible exact ih1 _ _ _ _)
      | (with_reducible exact drawbridgeref04_do.mono _ _ _ _ _)
      | (with_reducible exact LeO.refl _)
      | (with_reducible exact LeO.none _)
      | (with_reducible refine LeO.ite ?_ ?_)
      | (with_reducible refine LeO.bind ?_ (fun _ => ?_))
      | exact ih0 _ _ _ _ _ _ _
      | exact ih1 _ _ _ _
      | exact drawbridgeref04_do.mono _ _ _ _ _
      | exact LeO.none _
      | refine LeO.ite ?_ ?_
      | refine LeO.bind ?_ (fun _ => ?_)
set_option maxHeartbeats 8000000 in
set_option maxRecDepth 100000 in
theorem drawbridgeref04_Do.calls (k : Nat) (a0 : Int) (a1 : Bool) (a2 : Int) (a3 : Int) (r : Int) (w : World) (h : drawbridgeref04_Do.f k a0 a1 a2 a3 = some r) :
    Calls Try.prog 11 #[.int .i64 a0, .bool a1, .int .u64 a2, .int .u64 a3] w fun e w' => e = .returned (.int .u64 r) ∧ Drawn0 w w' := by
  have H : (if a1 = true then (if a0 = 13 then (drawbridgeref04_Do.j0 k a0 a2 a3 (Int.tmod a2 4294967296) (Int.tmod a3 4294967296) a0 (a0 == 13)) else (if a0 = 20 then (drawbridgeref04_Do.j0 k a0 a2 a3 (Int.tmod a2 4294967296) (Int.tmod a3 4294967296) a0 (a0 == 20)) else (drawbridgeref04_Do.j0 k a0 a2 a3 (Int.tmod a2 4294967296) (Int.tmod a3 4294967296) a0 (a0 == 22)))) else ((drawbridgeref04_do.f k a0 64 a2 a3).bind fun t151 => (some t151))) = some r := h
  clear h
  by_cases c5 : a1 = true
  · subst c5
    have H1 : (if a0 = 13 then (drawbridgeref04_Do.j0 k a0 a2 a3 (Int.tmod a2 4294967296) (Int.tmod a3 4294967296) a0 (a0 == 13)) else (if a0 = 20 then (drawbridgeref04_Do.j0 k a0 a2 a3 (Int.tmod a2 4294967296) (Int.tmod a3 4294967296) a0 (a0 == 20)) else (drawbridgeref04_Do.j0 k a0 a2 a3 (Int.tmod a2 4294967296) (Int.tmod a3 4294967296) a0 (a0 == 22)))) = some r := by rw [if_pos rfl] at H; exact H
    clear H
    have H := H1
    clear H1
    have HC6 := Aside0.mk H
    clear H
    go_enter Try.func11, Try.ntmps11
    go_upto_if 22 with (fail)
    go_cut [22] (fun v22 wc => ∃ (kq : Nat) (x22_5 : Bool), v22 = .bool x22_5 ∧ Aside0 (drawbridgeref04_Do.j0 kq a0 a2 a3 (Int.tmod a2 4294967296) (Int.tmod a3 4294967296) a0 x22_5 = some r) ∧ Aside0 (kq ≤ k) ∧ Drawn0 w wc)
    case first =>
      have H := HC6.out
      clear HC6
      by_cases c7 : a0 = 13
      · rw [if_pos c7] at H
        have c7b0 : (a0 == 13) = true := beq_iff_eq.mpr c7
        have c7b1 : (a0 != 13) = false := bne_eq_false_iff_eq.mpr c7
        clear c7
        (first | rw [c7b0] | (simp only [i64_w, i32_w]; rw [c7b0]) | skip)
        have H' := Aside0.mk H
        clear H
        go_wp2
        go_meet
        case rel => exact ⟨_, ((a0 == 13)), (by first | rfl | (simp; done) | (simp [*]; done)), H', ⟨by first | omega | exact Nat.le_refl _⟩, by repeat (first | exact Drawn0.refl _ | apply Drawn0.step)⟩
      · rw [if_neg c7] at H
        have c7b0 : (a0 == 13) = false := beq_eq_false_iff_ne.mpr c7
        have c7b1 : (a0 != 13) = true := bne_iff_ne.mpr c7
        (first | rw [c7b0] | (simp only [i64_w, i32_w]; rw [c7b0]) | skip)
        by_cases c8 : a0 = 20
        · rw [if_pos c8] at H
          have c8b0 : (a0 == 20) = true := beq_iff_eq.mpr c8
          have c8b1 : (a0 != 20) = false := bne_eq_false_iff_eq.mpr c8
          clear c8
          have H' := Aside0.mk H
          clear H
          go_wp2
          go_meet
          case rel => exact ⟨_, ((a0 == 20)), (by first | rfl | (simp; done) | (simp [*]; done)), H', ⟨by first | omega | exact Nat.le_refl _⟩, by repeat (first | exact Drawn0.refl _ | apply Drawn0.step)⟩
        · rw [if_neg c8] at H
          have c8b0 : (a0 == 20) = false := beq_eq_false_iff_ne.mpr c8
          have c8b1 : (a0 != 20) = true := bne_iff_ne.mpr c8
          have H' := Aside0.mk H
          clear H
          go_wp2
          go_meet
          case rel => exact ⟨_, ((a0 == 22)), (by first | rfl | (simp; done) | (simp [*]; done)), H', ⟨by first | omega | exact Nat.le_refl _⟩, by repeat (first | exact Drawn0.refl _ | apply Drawn0.step)⟩
    case rest =>
      clear HC6
      try clear c1
      try clear p2
      try clear c5
      try clear c7
      try clear c7b0
      try clear c7b1
      try clear c8
      try clear c8b0
      try clear c8b1
      obtain ⟨kq, x22_5, rfl, HA, HJ5, ⟨mc5, rfl⟩⟩ := hcut
      cases kq with
      | zero => exact absurd HA.out (by simp [drawbridgeref04_Do.j0])
      | succ kj5 =>
        have H := HA.out
        clear HA
        simp only [drawbridgeref04_Do.j0] at H
        by_cases c9 : x22_5 = true
        · subst c9
          have H1 : ((drawbridgeref01_Sext.f a2 32).bind fun t152 => ((drawbridgeref01_Sext.f a3 32).bind fun t153 => ((drawbridgeref04_do.f kj5 a0 32 t152 t153).bind fun t154 => ((drawbridgeref01_Sext.f t154 32).bind fun t155 => (some t155))))) = some r := by rw [if_pos rfl] at H; exact H
          clear H
          have H := H1
          clear H1
          replace H := Option.bind_eq_some_iff.mp H
          obtain ⟨t152, A100, H⟩ := H
          replace H : ((drawbridgeref01_Sext.f a3 32).bind fun t153 => ((drawbridgeref04_do.f kj5 a0 32 t152 t153).bind fun t154 => ((drawbridgeref01_Sext.f t154 32).bind fun t155 => (some t155)))) = some r := H
          have A10 := Aside0.mk A100
          clear A100
          replace H := Option.bind_eq_some_iff.mp H
          obtain ⟨t153, A110, H⟩ := H
          replace H : ((drawbridgeref04_do.f kj5 a0 32 t152 t153).bind fun t154 => ((drawbridgeref01_Sext.f t154 32).bind fun t155 => (some t155))) = some r := H
          have A11 := Aside0.mk A110
          clear A110
          replace H := Option.bind_eq_some_iff.mp H
          obtain ⟨t154, A120, H⟩ := H
          replace H : ((drawbridgeref01_Sext.f t154 32).bind fun t155 => (some t155)) = some r := H
          have A12 := Aside0.mk A120
          clear A120
          replace H := Option.bind_eq_some_iff.mp H
          obtain ⟨t155, A130, H⟩ := H
          replace H : (some t155) = some r := H
          have A13 := Aside0.mk A130
          clear A130
          obtain rfl := Option.some.inj H
          go_wp2_with (first | ((with_reducible refine gate_callee (f := 22) rfl ?_); refine goesL_ (some 27) rfl rfl Try.func22 (by kernel_rfl) rfl #[.int .u64 a2, .int .i64 32] rfl (by (try simp only [List.map_toArray, List.map_cons, List.map_nil]); first | done | rfl | (simp only [List.length_drop, List.length_take]; rfl)) ?_; (with_reducible refine (drawbridgeref01_Sext.calls a2 32 t152 _ A10.out).mono ?_); rintro e w' ⟨rfl, ⟨nd, rfl⟩⟩; refine ⟨_, rfl, ?_⟩) | ((with_reducible refine gate_callee (f := 22) rfl ?_); refine goesL_ (some 29) rfl rfl Try.func22 (by kernel_rfl) rfl #[.int .u64 a3, .int .i64 32] rfl (by (try simp only [List.map_toArray, List.map_cons, List.map_nil]); first | done | rfl | (simp only [List.length_drop, List.length_take]; rfl)) ?_; (with_reducible refine (drawbridgeref01_Sext.calls a3 32 t153 _ A11.out).mono ?_); rintro e w' ⟨rfl, ⟨nd, rfl⟩⟩; refine ⟨_, rfl, ?_⟩) | ((with_reducible refine gate_callee (f := 21) rfl ?_); refine goesL_ (some 41) rfl rfl Try.func21 (by kernel_rfl) rfl #[.int .i64 a0, .int .u64 32, .int .u64 t152, .int .u64 t153] rfl (by (try simp only [List.map_toArray, List.map_cons, List.map_nil]); first | done | rfl | (simp only [List.length_drop, List.length_take]; rfl)) ?_; (with_reducible refine (drawbridgeref04_do.calls kj5 a0 32 t152 t153 t154 _ A12.out).mono ?_); rintro e w' ⟨rfl, ⟨nd, rfl⟩⟩; refine ⟨_, rfl, ?_⟩) | ((with_reducible refine gate_callee (f := 22) rfl ?_); refine goesL_ (some 42) rfl rfl Try.func22 (by kernel_rfl) rfl #[.int .u64 t154, .int .i64 32] rfl (by (try simp only [List.map_toArray, List.map_cons, List.map_nil]); first | done | rfl | (simp only [List.length_drop, List.length_take]; rfl)) ?_; (with_reducible refine (drawbridgeref01_Sext.calls t154 32 t155 _ A13.out).mono ?_); rintro e w' ⟨rfl, ⟨nd, rfl⟩⟩; refine ⟨_, rfl, ?_⟩))
          go_ret
          exact ⟨by first | rfl | (simp; done) | (simp [*]; done), by repeat (first | exact Drawn0.refl _ | apply Drawn0.step)⟩
        · replace c9 := Bool.eq_false_iff.mpr c9
          subst c9
          have H1 : (if a0 = 0 then (drawbridgeref04_Do.j1 kj5 a0 (Int.tmod a2 4294967296) (Int.tmod a3 4294967296) (a0 == 0)) else (if a0 = 1 then (drawbridgeref04_Do.j1 kj5 a0 (Int.tmod a2 4294967296) (Int.tmod a3 4294967296) (a0 == 1)) else (if a0 = 5 then (drawbridgeref04_Do.j1 kj5 a0 (Int.tmod a2 4294967296) (Int.tmod a3 4294967296) (a0 == 5)) else (if a0 = 8 then (drawbridgeref04_Do.j1 kj5 a0 (Int.tmod a2 4294967296) (Int.tmod a3 4294967296) (a0 == 8)) else (if a0 = 16 then (drawbridgeref04_Do.j1 kj5 a0 (Int.tmod a2 4294967296) (Int.tmod a3 4294967296) (a0 == 16)) else (if a0 = 21 then (drawbridgeref04_Do.j1 kj5 a0 (Int.tmod a2 4294967296) (Int.tmod a3 4294967296) (a0 == 21)) else (drawbridgeref04_Do.j1 kj5 a0 (Int.tmod a2 4294967296) (Int.tmod a3 4294967296) (a0 == 23)))))))) = some r := by rw [if_neg (show ¬ (false = true) by decide)] at H; exact H
          clear H
          have H := H1
          clear H1
          have HC14 := Aside0.mk H
          clear H
          go_upto_if 30 with (fail)
          go_cut [30] (fun v30 wc => ∃ (kq : Nat) (x30_13 : Bool), v30 = .bool x30_13 ∧ Aside0 (drawbridgeref04_Do.j1 kq a0 (Int.tmod a2 4294967296) (Int.tmod a3 4294967296) x30_13 = some r) ∧ Aside0 (kq ≤ kj5) ∧ Drawn0 w wc)
          case first =>
            have H := HC14.out
            clear HC14
            by_cases c15 : a0 = 0
            · rw [if_pos c15] at H
              have c15b0 : (a0 == 0) = true := beq_iff_eq.mpr c15
              have c15b1 : (a0 != 0) = false := bne_eq_false_iff_eq.mpr c15
              clear c15
              (first | rw [c15b0] | (simp only [i64_w, i32_w]; rw [c15b0]) | skip)
              have H' := Aside0.mk H
              clear H
              go_wp2
              go_meet
              case rel => exact ⟨_, ((a0 == 0)), (by first | rfl | (simp; done) | (simp [*]; done)), H', ⟨by have := HJ5.out; first | omega | exact Nat.le_refl _⟩, by repeat (first | exact Drawn0.refl _ | apply Drawn0.step)⟩
            · rw [if_neg c15] at H
              have c15b0 : (a0 == 0) = false := beq_eq_false_iff_ne.mpr c15
              have c15b1 : (a0 != 0) = true := bne_iff_ne.mpr c15
              (first | rw [c15b0] | (simp only [i64_w, i32_w]; rw [c15b0]) | skip)
              by_cases c16 : a0 = 1
              · rw [if_pos c16] at H
                have c16b0 : (a0 == 1) = true := beq_iff_eq.mpr c16
                have c16b1 : (a0 != 1) = false := bne_eq_false_iff_eq.mpr c16
                clear c16
                have H' := Aside0.mk H
                clear H
                go_wp2
                go_meet
                case rel => exact ⟨_, ((a0 == 1)), (by first | rfl | (simp; done) | (simp [*]; done)), H', ⟨by have := HJ5.out; first | omega | exact Nat.le_refl _⟩, by repeat (first | exact Drawn0.refl _ | apply Drawn0.step)⟩
              · rw [if_neg c16] at H
                have c16b0 : (a0 == 1) = false := beq_eq_false_iff_ne.mpr c16
                have c16b1 : (a0 != 1) = true := bne_iff_ne.mpr c16
                by_cases c17 : a0 = 5
                · rw [if_pos c17] at H
                  have c17b0 : (a0 == 5) = true := beq_iff_eq.mpr c17
                  have c17b1 : (a0 != 5) = false := bne_eq_false_iff_eq.mpr c17
                  clear c17
                  have H' := Aside0.mk H
                  clear H
                  go_wp2
                  go_meet
                  case rel => exact ⟨_, ((a0 == 5)), (by first | rfl | (simp; done) | (simp [*]; done)), H', ⟨by have := HJ5.out; first | omega | exact Nat.le_refl _⟩, by repeat (first | exact Drawn0.refl _ | apply Drawn0.step)⟩
                · rw [if_neg c17] at H
                  have c17b0 : (a0 == 5) = false := beq_eq_false_iff_ne.mpr c17
                  have c17b1 : (a0 != 5) = true := bne_iff_ne.mpr c17
                  by_cases c18 : a0 = 8
                  · rw [if_pos c18] at H
                    have c18b0 : (a0 == 8) = true := beq_iff_eq.mpr c18
                    have c18b1 : (a0 != 8) = false := bne_eq_false_iff_eq.mpr c18
                    clear c18
                    have H' := Aside0.mk H
                    clear H
                    go_wp2
                    go_meet
                    case rel => exact ⟨_, ((a0 == 8)), (by first | rfl | (simp; done) | (simp [*]; done)), H', ⟨by have := HJ5.out; first | omega | exact Nat.le_refl _⟩, by repeat (first | exact Drawn0.refl _ | apply Drawn0.step)⟩
                  · rw [if_neg c18] at H
                    have c18b0 : (a0 == 8) = false := beq_eq_false_iff_ne.mpr c18
                    have c18b1 : (a0 != 8) = true := bne_iff_ne.mpr c18
                    by_cases c19 : a0 = 16
                    · rw [if_pos c19] at H
                      have c19b0 : (a0 == 16) = true := beq_iff_eq.mpr c19
                      have c19b1 : (a0 != 16) = false := bne_eq_false_iff_eq.mpr c19
                      clear c19
                      have H' := Aside0.mk H
                      clear H
                      go_wp2
                      go_meet
                      case rel => exact ⟨_, ((a0 == 16)), (by first | rfl | (simp; done) | (simp [*]; done)), H', ⟨by have := HJ5.out; first | omega | exact Nat.le_refl _⟩, by repeat (first | exact Drawn0.refl _ | apply Drawn0.step)⟩
                    · rw [if_neg c19] at H
                      have c19b0 : (a0 == 16) = false := beq_eq_false_iff_ne.mpr c19
                      have c19b1 : (a0 != 16) = true := bne_iff_ne.mpr c19
                      by_cases c20 : a0 = 21
                      · rw [if_pos c20] at H
                        have c20b0 : (a0 == 21) = true := beq_iff_eq.mpr c20
                        have c20b1 : (a0 != 21) = false := bne_eq_false_iff_eq.mpr c20
                        clear c20
                        have H' := Aside0.mk H
                        clear H
                        go_wp2
                        go_meet
                        case rel => exact ⟨_, ((a0 == 21)), (by first | rfl | (simp; done) | (simp [*]; done)), H', ⟨by have := HJ5.out; first | omega | exact Nat.le_refl _⟩, by repeat (first | exact Drawn0.refl _ | apply Drawn0.step)⟩
                      · rw [if_neg c20] at H
                        have c20b0 : (a0 == 21) = false := beq_eq_false_iff_ne.mpr c20
                        have c20b1 : (a0 != 21) = true := bne_iff_ne.mpr c20
                        have H' := Aside0.mk H
                        clear H
                        go_wp2
                        go_meet
                        case rel => exact ⟨_, ((a0 == 23)), (by first | rfl | (simp; done) | (simp [*]; done)), H', ⟨by have := HJ5.out; first | omega | exact Nat.le_refl _⟩, by repeat (first | exact Drawn0.refl _ | apply Drawn0.step)⟩
          case rest =>
            clear HC14
            try clear c1
            try clear c2
            try clear p2
            try clear c5
            try clear c7
            try clear c7b0
            try clear c7b1
            try clear c8
            try clear c8b0
            try clear c8b1
            try clear c9
            try clear c11
            try clear c15
            try clear c15b0
            try clear c15b1
            try clear c16
            try clear c16b0
            try clear c16b1
            try clear c17
            try clear c17b0
            try clear c17b1
            try clear c18
            try clear c18b0
            try clear c18b1
            try clear c19
            try clear c19b0
            try clear c19b1
            try clear c20
            try clear c20b0
            try clear c20b1
            try clear p2
            obtain ⟨kq, x30_13, rfl, HA, HJ13, ⟨mc13, rfl⟩⟩ := hcut
            cases kq with
            | zero => exact absurd HA.out (by simp [drawbridgeref04_Do.j1])
            | succ kj13 =>
              have H := HA.out
              clear HA
              simp only [drawbridgeref04_Do.j1] at H
              by_cases c21 : x30_13 = true
              · subst c21
                have H1 : ((drawbridgeref04_do.f kj13 a0 32 (Int.tmod a2 4294967296) (Int.tmod a3 4294967296)).bind fun t156 => ((drawbridgeref01_Sext.f t156 32).bind fun t157 => (some t157))) = some r := by rw [if_pos rfl] at H; exact H
                clear H
                have H := H1
                clear H1
                replace H := Option.bind_eq_some_iff.mp H
                obtain ⟨t156, A220, H⟩ := H
                replace H : ((drawbridgeref01_Sext.f t156 32).bind fun t157 => (some t157)) = some r := H
                have A22 := Aside0.mk A220
                clear A220
                replace H := Option.bind_eq_some_iff.mp H
                obtain ⟨t157, A230, H⟩ := H
                replace H : (some t157) = some r := H
                have A23 := Aside0.mk A230
                clear A230
                obtain rfl := Option.some.inj H
                go_wp2_with (first | ((with_reducible refine gate_callee (f := 21) rfl ?_); refine goesL_ (some 41) rfl rfl Try.func21 (by kernel_rfl) rfl #[.int .i64 a0, .int .u64 32, .int .u64 (Int.tmod a2 4294967296), .int .u64 (Int.tmod a3 4294967296)] rfl (by (try simp only [List.map_toArray, List.map_cons, List.map_nil]); first | done | rfl | (simp only [List.length_drop, List.length_take]; rfl)) ?_; (with_reducible refine (drawbridgeref04_do.calls kj13 a0 32 (Int.tmod a2 4294967296) (Int.tmod a3 4294967296) t156 _ A22.out).mono ?_); rintro e w' ⟨rfl, ⟨nd, rfl⟩⟩; refine ⟨_, rfl, ?_⟩) | ((with_reducible refine gate_callee (f := 22) rfl ?_); refine goesL_ (some 42) rfl rfl Try.func22 (by kernel_rfl) rfl #[.int .u64 t156, .int .i64 32] rfl (by (try simp only [List.map_toArray, List.map_cons, List.map_nil]); first | done | rfl | (simp only [List.length_drop, List.length_take]; rfl)) ?_; (with_reducible refine (drawbridgeref01_Sext.calls t156 32 t157 _ A23.out).mono ?_); rintro e w' ⟨rfl, ⟨nd, rfl⟩⟩; refine ⟨_, rfl, ?_⟩))
                go_ret
                exact ⟨by first | rfl | (simp; done) | (simp [*]; done), by repeat (first | exact Drawn0.refl _ | apply Drawn0.step)⟩
              · replace c21 := Bool.eq_false_iff.mpr c21
                subst c21
                have H1 : (some 0) = some r := by rw [if_neg (show ¬ (false = true) by decide)] at H; exact H
                clear H
                have H := H1
                clear H1
                obtain rfl := Option.some.inj H
                go_wp2
                go_ret
                exact ⟨by first | rfl | (simp; done) | (simp [*]; done), by repeat (first | exact Drawn0.refl _ | apply Drawn0.step)⟩
  · replace c5 := Bool.eq_false_iff.mpr c5
    subst c5
    have H1 : ((drawbridgeref04_do.f k a0 64 a2 a3).bind fun t151 => (some t151)) = some r := by rw [if_neg (show ¬ (false = true) by decide)] at H; exact H
    clear H
    have H := H1
    clear H1
    replace H := Option.bind_eq_some_iff.mp H
    obtain ⟨t151, A240, H⟩ := H
    replace H : (some t151) = some r := H
    have A24 := Aside0.mk A240
    clear A240
    obtain rfl := Option.some.inj H
    go_enter Try.func11, Try.ntmps11
    go_wp2_with (first | ((with_reducible refine gate_callee (f := 21) rfl ?_); refine goesL_ (some 16) rfl rfl Try.func21 (by kernel_rfl) rfl #[.int .i64 a0, .int .u64 64, .int .u64 a2, .int .u64 a3] rfl (by (try simp only [List.map_toArray, List.map_cons, List.map_nil]); first | done | rfl | (simp only [List.length_drop, List.length_take]; rfl)) ?_; (with_reducible refine (drawbridgeref04_do.calls k a0 64 a2 a3 t151 _ A24.out).mono ?_); rintro e w' ⟨rfl, ⟨nd, rfl⟩⟩; refine ⟨_, rfl, ?_⟩))
    go_ret
    exact ⟨by first | rfl | (simp; done) | (simp [*]; done), by repeat (first | exact Drawn0.refl _ | apply Drawn0.step)⟩

/-! ### drawbridgeref04_Cond: function 13 -/
def drawbridgeref04_Cond.f (a0 : Int) (a1 : Int) (a2 : Int) : Option (Bool) := if a0 = 0 then (some (a1 == a2)) else (if a0 = 1 then (some (a1 != a2)) else (if a0 = 4 then ((drawbridgeref04_Less.f a1 a2).bind fun t158 => (some t158)) else (if a0 = 5 then ((drawbridgeref04_Less.f a1 a2).bind fun t159 => (some (!t159))) else (if a0 = 6 then (some (decide (a1 < a2))) else (if a0 = 7 then (some (decide (a1 ≥ a2))) else (some false))))))
set_option maxHeartbeats 8000000 in
set_option maxRecDepth 100000 in
theorem drawbridgeref04_Cond.calls (a0 : Int) (a1 : Int) (a2 : Int) (r : Bool) (w : World) (h : drawbridgeref04_Cond.f a0 a1 a2 = some r) :
    Calls Try.prog 13 #[.int .i64 a0, .int .u64 a1, .int .u64 a2] w fun e w' => e = .returned (.bool r) ∧ Drawn0 w w' := by
  have H : (if a0 = 0 then (some (a1 == a2)) else (if a0 = 1 then (some (a1 != a2)) else (if a0 = 4 then ((drawbridgeref04_Less.f a1 a2).bind fun t158 => (some t158)) else (if a0 = 5 then ((drawbridgeref04_Less.f a1 a2).bind fun t159 => (some (!t159))) else (if a0 = 6 then (some (decide (a1 < a2))) else (if a0 = 7 then (some (decide (a1 ≥ a2))) else (some false))))))) = some r := h
  clear h
  by_cases c4 : a0 = 0
  · rw [if_pos c4] at H
    have c4b0 : (a0 == 0) = true := beq_iff_eq.mpr c4
    have c4b1 : (a0 != 0) = false := bne_eq_false_iff_eq.mpr c4
    clear c4
    obtain rfl := Option.some.inj H
    go_enter Try.func13, Try.ntmps13
    go_wp2
    go_ret
    exact ⟨by first | rfl | (simp; done) | (simp [*]; done), by repeat (first | exact Drawn0.refl _ | apply Drawn0.step)⟩
  · rw [if_neg c4] at H
    have c4b0 : (a0 == 0) = false := beq_eq_false_iff_ne.mpr c4
    have c4b1 : (a0 != 0) = true := bne_iff_ne.mpr c4
    by_cases c5 : a0 = 1
    · rw [if_pos c5] at H
      have c5b0 : (a0 == 1) = true := beq_iff_eq.mpr c5
      have c5b1 : (a0 != 1) = false := bne_eq_false_iff_eq.mpr c5
      clear c5
      obtain rfl := Option.some.inj H
      go_enter Try.func13, Try.ntmps13
      go_wp2
      go_ret
      exact ⟨by first | rfl | (simp; done) | (simp [*]; done), by repeat (first | exact Drawn0.refl _ | apply Drawn0.step)⟩
    · rw [if_neg c5] at H
      have c5b0 : (a0 == 1) = false := beq_eq_false_iff_ne.mpr c5
      have c5b1 : (a0 != 1) = true := bne_iff_ne.mpr c5
      by_cases c6 : a0 = 4
      · rw [if_pos c6] at H
        have c6b0 : (a0 == 4) = true := beq_iff_eq.mpr c6
        have c6b1 : (a0 != 4) = false := bne_eq_false_iff_eq.mpr c6
        clear c6
        replace H := Option.bind_eq_some_iff.mp H
        obtain ⟨t158, A70, H⟩ := H
        replace H : (some t158) = some r := H
        have A7 := Aside0.mk A70
        clear A70
        obtain rfl := Option.some.inj H
        go_enter Try.func13, Try.ntmps13
        go_wp2_with (first | ((with_reducible refine gate_callee (f := 23) rfl ?_); refine goesL_ (some 22) rfl rfl Try.func23 (by kernel_rfl) rfl #[.int .u64 a1, .int .u64 a2] rfl (by (try simp only [List.map_toArray, List.map_cons, List.map_nil]); first | done | rfl | (simp only [List.length_drop, List.length_take]; rfl)) ?_; (with_reducible refine (drawbridgeref04_Less.calls a1 a2 t158 _ A7.out).mono ?_); rintro e w' ⟨rfl, ⟨nd, rfl⟩⟩; refine ⟨_, rfl, ?_⟩))
        go_ret
        exact ⟨by first | rfl | (simp; done) | (simp [*]; done), by repeat (first | exact Drawn0.refl _ | apply Drawn0.step)⟩
      · rw [if_neg c6] at H
        have c6b0 : (a0 == 4) = false := beq_eq_false_iff_ne.mpr c6
        have c6b1 : (a0 != 4) = true := bne_iff_ne.mpr c6
        by_cases c8 : a0 = 5
        · rw [if_pos c8] at H
          have c8b0 : (a0 == 5) = true := beq_iff_eq.mpr c8
          have c8b1 : (a0 != 5) = false := bne_eq_false_iff_eq.mpr c8
          clear c8
          replace H := Option.bind_eq_some_iff.mp H
          obtain ⟨t159, A90, H⟩ := H
          replace H : (some (!t159)) = some r := H
          have A9 := Aside0.mk A90
          clear A90
          obtain rfl := Option.some.inj H
          go_enter Try.func13, Try.ntmps13
          go_wp2_with (first | ((with_reducible refine gate_callee (f := 23) rfl ?_); refine goesL_ (some 27) rfl rfl Try.func23 (by kernel_rfl) rfl #[.int .u64 a1, .int .u64 a2] rfl (by (try simp only [List.map_toArray, List.map_cons, List.map_nil]); first | done | rfl | (simp only [List.length_drop, List.length_take]; rfl)) ?_; (with_reducible refine (drawbridgeref04_Less.calls a1 a2 t159 _ A9.out).mono ?_); rintro e w' ⟨rfl, ⟨nd, rfl⟩⟩; refine ⟨_, rfl, ?_⟩))
          go_ret
          exact ⟨by first | rfl | (simp; done) | (simp [*]; done), by repeat (first | exact Drawn0.refl _ | apply Drawn0.step)⟩
        · rw [if_neg c8] at H
          have c8b0 : (a0 == 5) = false := beq_eq_false_iff_ne.mpr c8
          have c8b1 : (a0 != 5) = true := bne_iff_ne.mpr c8
          by_cases c10 : a0 = 6
          · rw [if_pos c10] at H
            have c10b0 : (a0 == 6) = true := beq_iff_eq.mpr c10
            have c10b1 : (a0 != 6) = false := bne_eq_false_iff_eq.mpr c10
            clear c10
            obtain rfl := Option.some.inj H
            go_enter Try.func13, Try.ntmps13
            go_wp2
            go_ret
            exact ⟨by first | rfl | (simp; done) | (simp [*]; done), by repeat (first | exact Drawn0.refl _ | apply Drawn0.step)⟩
          · rw [if_neg c10] at H
            have c10b0 : (a0 == 6) = false := beq_eq_false_iff_ne.mpr c10
            have c10b1 : (a0 != 6) = true := bne_iff_ne.mpr c10
            by_cases c11 : a0 = 7
            · rw [if_pos c11] at H
              have c11b0 : (a0 == 7) = true := beq_iff_eq.mpr c11
              have c11b1 : (a0 != 7) = false := bne_eq_false_iff_eq.mpr c11
              clear c11
              obtain rfl := Option.some.inj H
              go_enter Try.func13, Try.ntmps13
              go_wp2
              go_ret
              exact ⟨by first | rfl | (simp; done) | (simp [*]; done), by repeat (first | exact Drawn0.refl _ | apply Drawn0.step)⟩
            · rw [if_neg c11] at H
              have c11b0 : (a0 == 7) = false := beq_eq_false_iff_ne.mpr c11
              have c11b1 : (a0 != 7) = true := bne_iff_ne.mpr c11
              obtain rfl := Option.some.inj H
              go_enter Try.func13, Try.ntmps13
              go_wp2
              go_ret
              exact ⟨by first | rfl | (simp; done) | (simp [*]; done), by repeat (first | exact Drawn0.refl _ | apply Drawn0.step)⟩

end Go.Proofs.Ytielecanhammbaa.Q
