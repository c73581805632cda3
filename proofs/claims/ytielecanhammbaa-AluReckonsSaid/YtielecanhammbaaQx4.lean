-- Ytielecanhammbaa: written by a program for this claim (several laws of one seat at once)
import Derived.Test.YtielecanhammbaaQx0
import Derived.Test.YtielecanhammbaaQx3
namespace Go.Proofs.Ytielecanhammbaa.Q
open Go.RowKit Go.Proofs.YtielecanhammbaaW.PrintWords Go.Proofs.YtielecanhammbaaW.PrintLast Go.Proofs.YtielecanhammbaaW.PrintMore
attribute [local go_sem] max2_int min2_int max_two min_two max_three min_three max_four min_four   -- for this text's walks alone
set_option linter.unusedVariables false
set_option linter.unusedSimpArgs false

/-! ### drawbridgeref04_quotient: function 44 -/
mutual
def drawbridgeref04_quotient.j0 : Nat → Int → Int → Int → Bool → Option (Int)
  | 0, _, _, _, _ => none
  | k + 1, x0, x1, x2, x7 => if x2 = 0 then (drawbridgeref04_quotient.j1 k x0 x1 x2 x7 x7) else (drawbridgeref04_quotient.j1 k x0 x1 x2 x7 false)
def drawbridgeref04_quotient.j1 : Nat → Int → Int → Int → Bool → Bool → Option (Int)
  | 0, _, _, _, _, _ => none
  | k + 1, x0, x1, x2, x7, x19 => if x19 = true then (some x1) else (if x2 = 0 then (some 18446744073709551615) else (if x0 = 20 then (drawbridgeref04_quotient.j2 k x1 x2 x7 (IntKind.u64.wrap (Int.tdiv x1 x2)) true) else (drawbridgeref04_quotient.j2 k x1 x2 x7 (IntKind.u64.wrap (Int.tdiv x1 x2)) (x0 == 22))))
def drawbridgeref04_quotient.j2 : Nat → Int → Int → Bool → Int → Bool → Option (Int)
  | 0, _, _, _, _, _ => none
  | k + 1, x1, x2, x7, x8, x31 => if x31 = true then ((drawbridgeref04_div.f x1 x2).bind fun t133 => (if x7 = true then (some (IntKind.u64.wrap (x1 - (IntKind.u64.wrap (t133 * x2))))) else (some t133))) else (if x7 = true then (some (IntKind.u64.wrap (x1 - (IntKind.u64.wrap (x8 * x2))))) else (some x8))
end
def drawbridgeref04_quotient.f (k : Nat) (a0 : Int) (a1 : Int) (a2 : Int) : Option (Int) := if a0 = 22 then (drawbridgeref04_quotient.j0 k a0 a1 a2 true) else (drawbridgeref04_quotient.j0 k a0 a1 a2 (a0 == 23))
theorem drawbridgeref04_quotient.mono_l : ∀ k, (∀ y0 y1 y2 y3, LeO (drawbridgeref04_quotient.j0 k y0 y1 y2 y3) (drawbridgeref04_quotient.j0 (k + 1) y0 y1 y2 y3)) ∧ (∀ y0 y1 y2 y3 y4, LeO (drawbridgeref04_quotient.j1 k y0 y1 y2 y3 y4) (drawbridgeref04_quotient.j1 (k + 1) y0 y1 y2 y3 y4)) ∧ (∀ y0 y1 y2 y3 y4, LeO (drawbridgeref04_quotient.j2 k y0 y1 y2 y3 y4) (drawbridgeref04_quotient.j2 (k + 1) y0 y1 y2 y3 y4))
  | 0 => ⟨fun _ _ _ _ r h => by simp [drawbridgeref04_quotient.j0] at h, fun _ _ _ _ _ r h => by simp [drawbridgeref04_quotient.j1] at h, fun _ _ _ _ _ r h => by simp [drawbridgeref04_quotient.j2] at h⟩
  | k + 1 => by
    obtain ⟨ih0, ih1, ih2⟩ := drawbridgeref04_quotient.mono_l k
    refine ⟨?_, ?_, ?_⟩
    · intro y0 y1 y2 y3
      unfold drawbridgeref04_quotient.j0
      repeat' first
      | (with_reducible exact ih0 _ _ _ _)
      | (with_reducible exact ih1 _ _ _ _ _)
      | (with_reducible exact ih2 _ _ _ _ _)
      | (with_reducible exact LeO.refl _)
      | (with_reducible exact LeO.none _)
      | (with_reducible refine LeO.ite ?_ ?_)
      | (with_reducible refine LeO.bind ?_ (fun _ => ?_))
      | exact ih0 _ _ _ _
      | exact ih1 _ _ _ _ _
      | exact ih2 _ _ _ _ _
      | exact LeO.none _
      | refine LeO.ite ?_ ?_
      | refine LeO.bind ?_ (fun _ => ?_)
    · intro y0 y1 y2 y3 y4
      unfold drawbridgeref04_quotient.j1
      repeat' first
      | (with_reducible exact ih0 _ _ _ _)
      | (with_reducible exact ih1 _ _ _ _ _)
      | (with_reducible exact ih2 _ _ _ _ _)
      | (with_reducible exact LeO.refl _)
      | (with_reducible exact LeO.none _)
      | (with_reducible refine LeO.ite ?_ ?_)
      | (with_reducible refine LeO.bind ?_ (fun _ => ?_))
      | exact ih0 _ _ _ _
      | exact ih1 _ _ _ _ _
      | exact ih2 _ _ _ _ _
      | exact LeO.none _
      | refine LeO.ite ?_ ?_
      | refine LeO.bind ?_ (fun _ => ?_)
    · intro y0 y1 y2 y3 y4
      unfold drawbridgeref04_quotient.j2
      repeat' first
      | (with_reducible exact ih0 _ _ _ _)
      | (with_reducible exact ih1 _ _ _ _ _)
      | (with_reducible exact ih2 _ _ _ _ _)
      | (with_reducible exact LeO.refl _)
      | (with_reducible exact LeO.none _)
      | (with_reducible refine LeO.ite ?_ ?_)
      | (with_reducible refine LeO.bind ?_ (fun _ => ?_))
      | exact ih0 _ _ _ _
      | exact ih1 _ _ _ _ _
      | exact ih2 _ _ _ _ _
      | exact LeO.none _
      | refine LeO.ite ?_ ?_
      | refine LeO.bind ?_ (fun _ => ?_)
theorem drawbridgeref04_quotient.mono : ∀ a0 a1 a2 k, LeO (drawbridgeref04_quotient.f k a0 a1 a2) (drawbridgeref04_quotient.f (k + 1) a0 a1 a2) := by
  intro a0 a1 a2 k
  obtain ⟨ih0, ih1, ih2⟩ := drawbridgeref04_quotient.mono_l k
  unfold drawbridgeref04_quotient.f
  repeat' first
      | (with_reducible exact ih0 _ _ _ _)
      | (with_reducible exact ih1 _ _ _ _ _)
      | (with_reducible exact ih2 _ _ _ _ _)
      | (with_reducible exact LeO.refl _)
      | (with_reducible exact LeO.none _)
      | (with_reducible refine LeO.ite ?_ ?_)
      | (with_reducible refine LeO.bind ?_ (fun _ => ?_))
      | exact ih0 _ _ _ _
      | exact ih1 _ _ _ _ _
      | exact ih2 _ _ _ _ _
      | exact LeO.none _
      | refine LeO.ite ?_ ?_
      | refine LeO.bind ?_ (fun _ => ?_)
set_option maxHeartbeats 8000000 in
set_option maxRecDepth 100000 in
theorem drawbridgeref04_quotient.calls (k : Nat) (a0 : Int) (a1 : Int) (a2 : Int) (r : Int) (w : World) (h : drawbridgeref04_quotient.f k a0 a1 a2 = some r) :
    Calls Try.prog 44 #[.int .i64 a0, .int .u64 a1, .int .u64 a2] w fun e w' => e = .returned (.int .u64 r) ∧ Drawn0 w w' := by
  have H : (if a0 = 22 then (drawbridgeref04_quotient.j0 k a0 a1 a2 true) else (drawbridgeref04_quotient.j0 k a0 a1 a2 (a0 == 23))) = some r := h
  clear h
  have HC4 := Aside0.mk H
  clear H
  go_enter Try.func44, Try.ntmps44
  go_upto_region 1 with (fail)
  go_cut [7] (fun v7 wc => ∃ (kq : Nat) (x7_3 : Bool), v7 = .bool x7_3 ∧ Aside0 (drawbridgeref04_quotient.j0 kq a0 a1 a2 x7_3 = some r) ∧ Aside0 (kq ≤ k) ∧ Drawn0 w wc)
  case first =>
    have H := HC4.out
    clear HC4
    by_cases c5 : a0 = 22
    · rw [if_pos c5] at H
      have c5b0 : (a0 == 22) = true := beq_iff_eq.mpr c5
      have c5b1 : (a0 != 22) = false := bne_eq_false_iff_eq.mpr c5
      clear c5
      (first | rw [c5b0] | (simp only [i64_w, i32_w]; rw [c5b0]) | skip)
      have H' := Aside0.mk H
      clear H
      go_wp2
      go_meet
      case rel => exact ⟨_, (true), (by first | rfl | (simp; done) | (simp [*]; done)), H', ⟨by first | omega | exact Nat.le_refl _⟩, by repeat (first | exact Drawn0.refl _ | apply Drawn0.step)⟩
    · rw [if_neg c5] at H
      have c5b0 : (a0 == 22) = false := beq_eq_false_iff_ne.mpr c5
      have c5b1 : (a0 != 22) = true := bne_iff_ne.mpr c5
      (first | rw [c5b0] | (simp only [i64_w, i32_w]; rw [c5b0]) | skip)
      have H' := Aside0.mk H
      clear H
      go_wp2
      go_meet
      case rel => exact ⟨_, ((a0 == 23)), (by first | rfl | (simp; done) | (simp [*]; done)), H', ⟨by first | omega | exact Nat.le_refl _⟩, by repeat (first | exact Drawn0.refl _ | apply Drawn0.step)⟩
  case rest =>
    clear HC4
    try clear p2
    try clear c4
    try clear c5
    try clear c5b0
    try clear c5b1
    obtain ⟨kq, x7_3, rfl, HA, HJ3, ⟨mc3, rfl⟩⟩ := hcut
    cases kq with
    | zero => exact absurd HA.out (by simp [drawbridgeref04_quotient.j0])
    | succ kj3 =>
      have H := HA.out
      clear HA
      simp only [drawbridgeref04_quotient.j0] at H
      have HC6 := Aside0.mk H
      clear H
      go_upto_region 2 with (fail)
      go_cut [19] (fun v19 wc => ∃ (kq : Nat) (x19_5 : Bool), v19 = .bool x19_5 ∧ Aside0 (drawbridgeref04_quotient.j1 kq a0 a1 a2 x7_3 x19_5 = some r) ∧ Aside0 (kq ≤ kj3) ∧ Drawn0 w wc)
      case first =>
        have H := HC6.out
        clear HC6
        by_cases c7 : a2 = 0
        · rw [if_pos c7] at H
          have c7b0 : (a2 == 0) = true := beq_iff_eq.mpr c7
          have c7b1 : (a2 != 0) = false := bne_eq_false_iff_eq.mpr c7
          clear c7
          (first | rw [c7b0] | (simp only [i64_w, i32_w]; rw [c7b0]) | skip)
          have H' := Aside0.mk H
          clear H
          go_wp2
          go_meet
          case rel => exact ⟨_, (x7_3), (by first | rfl | (simp; done) | (simp [*]; done)), H', ⟨by have := HJ3.out; first | omega | exact Nat.le_refl _⟩, by repeat (first | exact Drawn0.refl _ | apply Drawn0.step)⟩
        · rw [if_neg c7] at H
          have c7b0 : (a2 == 0) = false := beq_eq_false_iff_ne.mpr c7
          have c7b1 : (a2 != 0) = true := bne_iff_ne.mpr c7
          (first | rw [c7b0] | (simp only [i64_w, i32_w]; rw [c7b0]) | skip)
          have H' := Aside0.mk H
          clear H
          go_wp2
          go_meet
          case rel => exact ⟨_, (false), (by first | rfl | (simp; done) | (simp [*]; done)), H', ⟨by have := HJ3.out; first | omega | exact Nat.le_refl _⟩, by repeat (first | exact Drawn0.refl _ | apply Drawn0.step)⟩
      case rest =>
        clear HC6
        try clear p2
        try clear c3
        try clear c4
        try clear c5
        try clear c5b0
        try clear c5b1
        try clear c7
        try clear c7b0
        try clear c7b1
        try clear p2
        obtain ⟨kq, x19_5, rfl, HA, HJ5, ⟨mc5, rfl⟩⟩ := hcut
        cases kq with
        | zero => exact absurd HA.out (by simp [drawbridgeref04_quotient.j1])
        | succ kj5 =>
          have H := HA.out
          clear HA
          simp only [drawbridgeref04_quotient.j1] at H
          by_cases c8 : x19_5 = true
          · subst c8
            have H1 : (some a1) = some r := by rw [if_pos rfl] at H; exact H
            clear H
            have H := H1
            clear H1
            obtain rfl := Option.some.inj H
            go_wp2
            go_ret
            exact ⟨by first | rfl | (simp; done) | (simp [*]; done), by repeat (first | exact Drawn0.refl _ | apply Drawn0.step)⟩
          · replace c8 := Bool.eq_false_iff.mpr c8
            subst c8
            have H1 : (if a2 = 0 then (some 18446744073709551615) else (if a0 = 20 then (drawbridgeref04_quotient.j2 kj5 a1 a2 x7_3 (IntKind.u64.wrap (Int.tdiv a1 a2)) true) else (drawbridgeref04_quotient.j2 kj5 a1 a2 x7_3 (IntKind.u64.wrap (Int.tdiv a1 a2)) (a0 == 22)))) = some r := by rw [if_neg (show ¬ (false = true) by decide)] at H; exact H
            clear H
            have H := H1
            clear H1
            by_cases c9 : a2 = 0
            · rw [if_pos c9] at H
              have c9b0 : (a2 == 0) = true := beq_iff_eq.mpr c9
              have c9b1 : (a2 != 0) = false := bne_eq_false_iff_eq.mpr c9
              clear c9
              obtain rfl := Option.some.inj H
              go_wp2
              go_ret
              exact ⟨by first | rfl | (simp; done) | (simp [*]; done), by repeat (first | exact Drawn0.refl _ | apply Drawn0.step)⟩
            · rw [if_neg c9] at H
              have c9b0 : (a2 == 0) = false := beq_eq_false_iff_ne.mpr c9
              have c9b1 : (a2 != 0) = true := bne_iff_ne.mpr c9
              have HC10 := Aside0.mk H
              clear H
              go_upto_region 7 with (fail)
              go_cut [31] (fun v31 wc => ∃ (kq : Nat) (x31_9 : Bool), v31 = .bool x31_9 ∧ Aside0 (drawbridgeref04_quotient.j2 kq a1 a2 x7_3 (IntKind.u64.wrap (Int.tdiv a1 a2)) x31_9 = some r) ∧ Aside0 (kq ≤ kj5) ∧ Drawn0 w wc)
              case first =>
                have H := HC10.out
                clear HC10
                by_cases c11 : a0 = 20
                · rw [if_pos c11] at H
                  have c11b0 : (a0 == 20) = true := beq_iff_eq.mpr c11
                  have c11b1 : (a0 != 20) = false := bne_eq_false_iff_eq.mpr c11
                  clear c11
                  (first | rw [c11b0] | (simp only [i64_w, i32_w]; rw [c11b0]) | skip)
                  have H' := Aside0.mk H
                  clear H
                  go_wp2
                  go_meet
                  case rel => exact ⟨_, (true), (by first | rfl | (simp; done) | (simp [*]; done)), H', ⟨by have := HJ3.out; have := HJ5.out; first | omega | exact Nat.le_refl _⟩, by repeat (first | exact Drawn0.refl _ | apply Drawn0.step)⟩
                · rw [if_neg c11] at H
                  have c11b0 : (a0 == 20) = false := beq_eq_false_iff_ne.mpr c11
                  have c11b1 : (a0 != 20) = true := bne_iff_ne.mpr c11
                  (first | rw [c11b0] | (simp only [i64_w, i32_w]; rw [c11b0]) | skip)
                  have H' := Aside0.mk H
                  clear H
                  go_wp2
                  go_meet
                  case rel => exact ⟨_, ((a0 == 22)), (by first | rfl | (simp; done) | (simp [*]; done)), H', ⟨by have := HJ3.out; have := HJ5.out; first | omega | exact Nat.le_refl _⟩, by repeat (first | exact Drawn0.refl _ | apply Drawn0.step)⟩
              case rest =>
                clear HC10
                try clear c1
                try clear p2
                try clear c3
                try clear c4
                try clear c5
                try clear c5b0
                try clear c5b1
                try clear c7
                try clear c7b0
                try clear c7b1
                try clear c8
                try clear c9
                try clear c9b0
                try clear c9b1
                try clear c11
                try clear c11b0
                try clear c11b1
                try clear p2
                obtain ⟨kq, x31_9, rfl, HA, HJ9, ⟨mc9, rfl⟩⟩ := hcut
                cases kq with
                | zero => exact absurd HA.out (by simp [drawbridgeref04_quotient.j2])
                | succ kj9 =>
                  have H := HA.out
                  clear HA
                  simp only [drawbridgeref04_quotient.j2] at H
                  by_cases c12 : x31_9 = true
                  · subst c12
                    have H1 : ((drawbridgeref04_div.f a1 a2).bind fun t133 => (if x7_3 = true then (some (IntKind.u64.wrap (a1 - (IntKind.u64.wrap (t133 * a2))))) else (some t133))) = some r := by rw [if_pos rfl] at H; exact H
                    clear H
                    have H := H1
                    clear H1
                    replace H := Option.bind_eq_some_iff.mp H
                    obtain ⟨t133, A130, H⟩ := H
                    replace H : (if x7_3 = true then (some (IntKind.u64.wrap (a1 - (IntKind.u64.wrap (t133 * a2))))) else (some t133)) = some r := H
                    have A13 := Aside0.mk A130
                    clear A130
                    by_cases c14 : x7_3 = true
                    · subst c14
                      have H1 : (some (IntKind.u64.wrap (a1 - (IntKind.u64.wrap (t133 * a2))))) = some r := by rw [if_pos rfl] at H; exact H
                      clear H
                      have H := H1
                      clear H1
                      obtain rfl := Option.some.inj H
                      go_wp2_with (first | ((with_reducible refine gate_callee (f := 49) rfl ?_); refine goesL_ (some 34) rfl rfl Try.func49 (by kernel_rfl) rfl #[.int .u64 a1, .int .u64 a2] rfl (by (try simp only [List.map_toArray, List.map_cons, List.map_nil]); first | done | rfl | (simp only [List.length_drop, List.length_take]; rfl)) ?_; (with_reducible refine (drawbridgeref04_div.calls a1 a2 t133 _ A13.out).mono ?_); rintro e w' ⟨rfl, ⟨nd, rfl⟩⟩; refine ⟨_, rfl, ?_⟩))
                      go_ret
                      exact ⟨by first | rfl | (simp; done) | (simp [*]; done), by repeat (first | exact Drawn0.refl _ | apply Drawn0.step)⟩
                    · replace c14 := Bool.eq_false_iff.mpr c14
                      subst c14
                      have H1 : (some t133) = some r := by rw [if_neg (show ¬ (false = true) by decide)] at H; exact H
                      clear H
                      have H := H1
                      clear H1
                      obtain rfl := Option.some.inj H
                      go_wp2_with (first | ((with_reducible refine gate_callee (f := 49) rfl ?_); refine goesL_ (some 34) rfl rfl Try.func49 (by kernel_rfl) rfl #[.int .u64 a1, .int .u64 a2] rfl (by (try simp only [List.map_toArray, List.map_cons, List.map_nil]); first | done | rfl | (simp only [List.length_drop, List.length_take]; rfl)) ?_; (with_reducible refine (drawbridgeref04_div.calls a1 a2 t133 _ A13.out).mono ?_); rintro e w' ⟨rfl, ⟨nd, rfl⟩⟩; refine ⟨_, rfl, ?_⟩))
                      go_ret
                      exact ⟨by first | rfl | (simp; done) | (simp [*]; done), by repeat (first | exact Drawn0.refl _ | apply Drawn0.step)⟩
                  · replace c12 := Bool.eq_false_iff.mpr c12
                    subst c12
                    have H1 : (if x7_3 = true then (some (IntKind.u64.wrap (a1 - (IntKind.u64.wrap ((IntKind.u64.wrap (Int.tdiv a1 a2)) * a2))))) else (some (IntKind.u64.wrap (Int.tdiv a1 a2)))) = some r := by rw [if_neg (show ¬ (false = true) by decide)] at H; exact H
                    clear H
                    have H := H1
                    clear H1
                    by_cases c15 : x7_3 = true
                    · subst c15
                      have H1 : (some (IntKind.u64.wrap (a1 - (IntKind.u64.wrap ((IntKind.u64.wrap (Int.tdiv a1 a2)) * a2))))) = some r := by rw [if_pos rfl] at H; exact H
                      clear H
                      have H := H1
                      clear H1
                      obtain rfl := Option.some.inj H
                      go_wp2
                      go_ret
                      exact ⟨by first | rfl | (simp; done) | (simp [*]; done), by repeat (first | exact Drawn0.refl _ | apply Drawn0.step)⟩
                    · replace c15 := Bool.eq_false_iff.mpr c15
                      subst c15
                      have H1 : (some (IntKind.u64.wrap (Int.tdiv a1 a2))) = some r := by rw [if_neg (show ¬ (false = true) by decide)] at H; exact H
                      clear H
                      have H := H1
                      clear H1
                      obtain rfl := Option.some.inj H
                      go_wp2
                      go_ret
                      exact ⟨by first | rfl | (simp; done) | (simp [*]; done), by repeat (first | exact Drawn0.refl _ | apply Drawn0.step)⟩

/-! ### drawbridgeref04_do: function 21 -/
def drawbridgeref04_do.f (k : Nat) (a0 : Int) (a1 : Int) (a2 : Int) (a3 : Int) : Option (Int) := if a0 = 0 then (some (IntKind.u64.wrap (a2 + a3))) else (if a0 = 8 then (some (IntKind.u64.wrap (a2 - a3))) else (if a0 = 1 then (if a1 = 0 then (none) else (if 0 ≤ (Int.tmod a3 a1) then (some (shl .u64 a2 (Int.tmod a3 a1))) else (none))) else (if a0 = 5 then (if a1 = 0 then (none) else (if 0 ≤ (Int.tmod a3 a1) then (some (shr .u64 a2 (Int.tmod a3 a1))) else (none))) else (if a0 = 13 then (if a1 = 0 then (none) else ((drawbridgeref04_sra.f a2 (Int.tmod a3 a1)).bind fun t134 => (some t134))) else (if a0 = 2 then ((drawbridgeref04_Less.f a2 a3).bind fun t135 => ((drawbridgeref04_one.f t135).bind fun t136 => (some t136))) else (if a0 = 3 then ((drawbridgeref04_one.f (decide (a2 < a3))).bind fun t137 => (some t137)) else (if a0 = 4 then (some (Go.bits .xor .u64 a2 a3)) else (if a0 = 6 then (some (Go.bits .or .u64 a2 a3)) else (if a0 = 7 then (some (Go.bits .and .u64 a2 a3)) else (if a0 = 16 then (some (IntKind.u64.wrap (a2 * a3))) else (if a0 = 17 then ((drawbridgeref04_high.f a2 a3).bind fun t138 => ((drawbridgeref04_Neg.f a2).bind fun t139 => ((drawbridgeref04_one.f t139).bind fun t140 => ((drawbridgeref04_Neg.f a3).bind fun t141 => ((drawbridgeref04_one.f t141).bind fun t142 => (some (IntKind.u64.wrap ((IntKind.u64.wrap (t138 - (IntKind.u64.wrap (t140 * a3)))) - (IntKind.u64.wrap (t142 * a2)))))))))) else (if a0 = 18 then ((drawbridgeref04_high.f a2 a3).bind fun t143 => ((drawbridgeref04_Neg.f a2).bind fun t144 => ((drawbridgeref04_one.f t144).bind fun t145 => (some (IntKind.u64.wrap (t143 - (IntKind.u64.wrap (t145 * a3)))))))) else (if a0 = 19 then ((drawbridgeref04_high.f a2 a3).bind fun t146 => (some t146)) else (if a0 = 20 then ((drawbridgeref04_quotient.f k a0 a2 a3).bind fun t147 => (some t147)) else (if a0 = 21 then ((drawbridgeref04_quotient.f k a0 a2 a3).bind fun t148 => (some t148)) else (if a0 = 22 then ((drawbridgeref04_quotient.f k a0 a2 a3).bind fun t149 => (some t149)) else (if a0 = 23 then ((drawbridgeref04_quotient.f k a0 a2 a3).bind fun t150 => (some t150)) else (some 0))))))))))))))))))
theorem drawbridgeref04_do.mono : ∀ a0 a1 a2 a3 k, LeO (drawbridgeref04_do.f k a0 a1 a2 a3) (drawbridgeref04_do.f (k + 1) a0 a1 a2 a3) := by
  intro a0 a1 a2 a3 k
  unfold drawbridgeref04_do.f
  repeat' first
      | (with_reducible exact drawbridgeref04_quotient.mono _ _ _ _)
      | (with_reducible exact LeO.refl _)
      | (with_reducible exact LeO.none _)
      | (with_reducible refine LeO.ite ?_ ?_)
      | (with_reducible refine LeO.bind ?_ (fun _ => ?_))
      | exact drawbridgeref04_quotient.mono _ _ _ _
      | exact LeO.none _
      | refine LeO.ite ?_ ?_
      | refine LeO.bind ?_ (fun _ => ?_)
set_option maxHeartbeats 8000000 in
set_option maxRecDepth 100000 in
theorem drawbridgeref04_do.calls (k : Nat) (a0 : Int) (a1 : Int) (a2 : Int) (a3 : Int) (r : Int) (w : World) (h : drawbridgeref04_do.f k a0 a1 a2 a3 = some r) :
    Calls Try.prog 21 #[.int .i64 a0, .int .u64 a1, .int .u64 a2, .int .u64 a3] w fun e w' => e = .returned (.int .u64 r) ∧ Drawn0 w w' := by
  have H : (if a0 = 0 then (some (IntKind.u64.wrap (a2 + a3))) else (if a0 = 8 then (some (IntKind.u64.wrap (a2 - a3))) else (if a0 = 1 then (if a1 = 0 then (none) else (if 0 ≤ (Int.tmod a3 a1) then (some (shl .u64 a2 (Int.tmod a3 a1))) else (none))) else (if a0 = 5 then (if a1 = 0 then (none) else (if 0 ≤ (Int.tmod a3 a1) then (some (shr .u64 a2 (Int.tmod a3 a1))) else (none))) else (if a0 = 13 then (if a1 = 0 then (none) else ((drawbridgeref04_sra.f a2 (Int.tmod a3 a1)).bind fun t134 => (some t134))) else (if a0 = 2 then ((drawbridgeref04_Less.f a2 a3).bind fun t135 => ((drawbridgeref04_one.f t135).bind fun t136 => (some t136))) else (if a0 = 3 then ((drawbridgeref04_one.f (decide (a2 < a3))).bind fun t137 => (some t137)) else (if a0 = 4 then (some (Go.bits .xor .u64 a2 a3)) else (if a0 = 6 then (some (Go.bits .or .u64 a2 a3)) else (if a0 = 7 then (some (Go.bits .and .u64 a2 a3)) else (if a0 = 16 then (some (IntKind.u64.wrap (a2 * a3))) else (if a0 = 17 then ((drawbridgeref04_high.f a2 a3).bind fun t138 => ((drawbridgeref04_Neg.f a2).bind fun t139 => ((drawbridgeref04_one.f t139).bind fun t140 => ((drawbridgeref04_Neg.f a3).bind fun t141 => ((drawbridgeref04_one.f t141).bind fun t142 => (some (IntKind.u64.wrap ((IntKind.u64.wrap (t138 - (IntKind.u64.wrap (t140 * a3)))) - (IntKind.u64.wrap (t142 * a2)))))))))) else (if a0 = 18 then ((drawbridgeref04_high.f a2 a3).bind fun t143 => ((drawbridgeref04_Neg.f a2).bind fun t144 => ((drawbridgeref04_one.f t144).bind fun t145 => (some (IntKind.u64.wrap (t143 - (IntKind.u64.wrap (t145 * a3)))))))) else (if a0 = 19 then ((drawbridgeref04_high.f a2 a3).bind fun t146 => (some t146)) else (if a0 = 20 then ((drawbridgeref04_quotient.f k a0 a2 a3).bind fun t147 => (some t147)) else (if a0 = 21 then ((drawbridgeref04_quotient.f k a0 a2 a3).bind fun t148 => (some t148)) else (if a0 = 22 then ((drawbridgeref04_quotient.f k a0 a2 a3).bind fun t149 => (some t149)) else (if a0 = 23 then ((drawbridgeref04_quotient.f k a0 a2 a3).bind fun t150 => (some t150)) else (some 0))))))))))))))))))) = some r := h
  clear h
  by_cases c5 : a0 = 0
  · rw [if_pos c5] at H
    have c5b0 : (a0 == 0) = true := beq_iff_eq.mpr c5
    have c5b1 : (a0 != 0) = false := bne_eq_false_iff_eq.mpr c5
    clear c5
    obtain rfl := Option.some.inj H
    go_enter Try.func21, Try.ntmps21
    go_wp2
    go_ret
    exact ⟨by first | rfl | (simp; done) | (simp [*]; done), by repeat (first | exact Drawn0.refl _ | apply Drawn0.step)⟩
  · rw [if_neg c5] at H
    have c5b0 : (a0 == 0) = false := beq_eq_false_iff_ne.mpr c5
    have c5b1 : (a0 != 0) = true := bne_iff_ne.mpr c5
    by_cases c6 : a0 = 8
    · rw [if_pos c6] at H
      have c6b0 : (a0 == 8) = true := beq_iff_eq.mpr c6
      have c6b1 : (a0 != 8) = false := bne_eq_false_iff_eq.mpr c6
      clear c6
      obtain rfl := Option.some.inj H
      go_enter Try.func21, Try.ntmps21
      go_wp2
      go_ret
      exact ⟨by first | rfl | (simp; done) | (simp [*]; done), by repeat (first | exact Drawn0.refl _ | apply Drawn0.step)⟩
    · rw [if_neg c6] at H
      have c6b0 : (a0 == 8) = false := beq_eq_false_iff_ne.mpr c6
      have c6b1 : (a0 != 8) = true := bne_iff_ne.mpr c6
      by_cases c7 : a0 = 1
      · rw [if_pos c7] at H
        have c7b0 : (a0 == 1) = true := beq_iff_eq.mpr c7
        have c7b1 : (a0 != 1) = false := bne_eq_false_iff_eq.mpr c7
        clear c7
        by_cases c8 : a1 = 0
        · rw [if_pos c8] at H
          exact absurd H (by simp)
        · rw [if_neg c8] at H
          have c8b0 : (a1 == 0) = false := beq_eq_false_iff_ne.mpr c8
          have c8b1 : (a1 != 0) = true := bne_iff_ne.mpr c8
          obtain ⟨ji9, hji9⟩ : ∃ j_ : Int, (Int.tmod a3 a1) = j_ := ⟨_, rfl⟩
          replace H : (if 0 ≤ (ji9) then (some (shl .u64 a2 (ji9))) else (none)) = some r := by first | (rw [hji9] at H; exact H) | (simp only [hji9] at H ⊢; exact H)
          by_cases c10 : 0 ≤ (ji9)
          · rw [if_pos c10] at H
            have c10b0 := eq_true c10
            have c10b1 : decide (0 ≤ (ji9)) = true := decide_eq_true c10
            clear c10
            obtain ⟨ji11, hji11⟩ : ∃ j_ : Int, (shl .u64 a2 (ji9)) = j_ := ⟨_, rfl⟩
            replace H : (some ji11) = some r := by first | (rw [hji11] at H; exact H) | (simp only [hji11] at H ⊢; exact H)
            have hji11_ : (IntKind.u64.wrap (a2 * 2 ^ min (ji9).toNat 64)) = ji11 := hji11
            have hji11z : (ji9) ≤ 64 → (IntKind.u64.wrap (a2 * 2 ^ (ji9).toNat)) = ji11 := shl_small hji11
            obtain rfl := Option.some.inj H
            go_enter Try.func21, Try.ntmps21
            go_wp2
            go_ret
            exact ⟨by first | rfl | (simp; done) | (simp only [← hji9, ← hji11] <;> (first | rfl | simp)) | (simp [*]; done), by repeat (first | exact Drawn0.refl _ | apply Drawn0.step)⟩
          · rw [if_neg c10] at H
            exact absurd H (by simp)
      · rw [if_neg c7] at H
        have c7b0 : (a0 == 1) = false := beq_eq_false_iff_ne.mpr c7
        have c7b1 : (a0 != 1) = true := bne_iff_ne.mpr c7
        by_cases c12 : a0 = 5
        · rw [if_pos c12] at H
          have c12b0 : (a0 == 5) = true := beq_iff_eq.mpr c12
          have c12b1 : (a0 != 5) = false := bne_eq_false_iff_eq.mpr c12
          clear c12
          by_cases c13 : a1 = 0
          · rw [if_pos c13] at H
            exact absurd H (by simp)
          · rw [if_neg c13] at H
            have c13b0 : (a1 == 0) = false := beq_eq_false_iff_ne.mpr c13
            have c13b1 : (a1 != 0) = true := bne_iff_ne.mpr c13
            obtain ⟨ji14, hji14⟩ : ∃ j_ : Int, (Int.tmod a3 a1) = j_ := ⟨_, rfl⟩
            replace H : (if 0 ≤ (ji14) then (some (shr .u64 a2 (ji14))) else (none)) = some r := by first | (rw [hji14] at H; exact H) | (simp only [hji14] at H ⊢; exact H)
            by_cases c15 : 0 ≤ (ji14)
            · rw [if_pos c15] at H
              have c15b0 := eq_true c15
              have c15b1 : decide (0 ≤ (ji14)) = true := decide_eq_true c15
              clear c15
              obtain ⟨ji16, hji16⟩ : ∃ j_ : Int, (shr .u64 a2 (ji14)) = j_ := ⟨_, rfl⟩
              replace H : (some ji16) = some r := by first | (rw [hji16] at H; exact H) | (simp only [hji16] at H ⊢; exact H)
              have hji16_ : (a2 / 2 ^ min (ji14).toNat 64) = ji16 := hji16
              have hji16z : (ji14) ≤ 64 → (a2 / 2 ^ (ji14).toNat) = ji16 := shr_small hji16
              obtain rfl := Option.some.inj H
              go_enter Try.func21, Try.ntmps21
              go_wp2
              go_ret
              exact ⟨by first | rfl | (simp; done) | (simp only [← hji14, ← hji16] <;> (first | rfl | simp)) | (simp [*]; done), by repeat (first | exact Drawn0.refl _ | apply Drawn0.step)⟩
            · rw [if_neg c15] at H
              exact absurd H (by simp)
        · rw [if_neg c12] at H
          have c12b0 : (a0 == 5) = false := beq_eq_false_iff_ne.mpr c12
          have c12b1 : (a0 != 5) = true := bne_iff_ne.mpr c12
          by_cases c17 : a0 = 13
          · rw [if_pos c17] at H
            have c17b0 : (a0 == 13) = true := beq_iff_eq.mpr c17
            have c17b1 : (a0 != 13) = false := bne_eq_false_iff_eq.mpr c17
            clear c17
            by_cases c18 : a1 = 0
            · rw [if_pos c18] at H
              exact absurd H (by simp)
            · rw [if_neg c18] at H
              have c18b0 : (a1 == 0) = false := beq_eq_false_iff_ne.mpr c18
              have c18b1 : (a1 != 0) = true := bne_iff_ne.mpr c18
              replace H := Option.bind_eq_some_iff.mp H
              obtain ⟨t134, A190, H⟩ := H
              replace H : (some t134) = some r := H
              have A19 := Aside0.mk A190
              clear A190
              obtain rfl := Option.some.inj H
              go_enter Try.func21, Try.ntmps21
              go_wp2_with (first | ((with_reducible refine gate_callee (f := 41) rfl ?_); refine goesL_ (some 40) rfl rfl Try.func41 (by kernel_rfl) rfl #[.int .u64 a2, .int .u64 (Int.tmod a3 a1)] rfl (by (try simp only [List.map_toArray, List.map_cons, List.map_nil]); first | done | rfl | (simp only [List.length_drop, List.length_take]; rfl)) ?_; (with_reducible refine (drawbridgeref04_sra.calls a2 (Int.tmod a3 a1) t134 _ A19.out).mono ?_); rintro e w' ⟨rfl, ⟨nd, rfl⟩⟩; refine ⟨_, rfl, ?_⟩))
              go_ret
              exact ⟨by first | rfl | (simp; done) | (simp [*]; done), by repeat (first | exact Drawn0.refl _ | apply Drawn0.step)⟩
          · rw [if_neg c17] at H
            have c17b0 : (a0 == 13) = false := beq_eq_false_iff_ne.mpr c17
            have c17b1 : (a0 != 13) = true := bne_iff_ne.mpr c17
            by_cases c20 : a0 = 2
            · rw [if_pos c20] at H
              have c20b0 : (a0 == 2) = true := beq_iff_eq.mpr c20
              have c20b1 : (a0 != 2) = false := bne_eq_false_iff_eq.mpr c20
              clear c20
              replace H := Option.bind_eq_some_iff.mp H
              obtain ⟨t135, A210, H⟩ := H
              replace H : ((drawbridgeref04_one.f t135).bind fun t136 => (some t136)) = some r := H
              have A21 := Aside0.mk A210
              clear A210
              replace H := Option.bind_eq_some_iff.mp H
              obtain ⟨t136, A220, H⟩ := H
              replace H : (some t136) = some r := H
              have A22 := Aside0.mk A220
              clear A220
              obtain rfl := Option.some.inj H
              go_enter Try.func21, Try.ntmps21
              go_wp2_with (first | ((with_reducible refine gate_callee (f := 23) rfl ?_); refine goesL_ (some 45) rfl rfl Try.func23 (by kernel_rfl) rfl #[.int .u64 a2, .int .u64 a3] rfl (by (try simp only [List.map_toArray, List.map_cons, List.map_nil]); first | done | rfl | (simp only [List.length_drop, List.length_take]; rfl)) ?_; (with_reducible refine (drawbridgeref04_Less.calls a2 a3 t135 _ A21.out).mono ?_); rintro e w' ⟨rfl, ⟨nd, rfl⟩⟩; refine ⟨_, rfl, ?_⟩) | ((with_reducible refine gate_callee (f := 42) rfl ?_); refine goesL_ (some 46) rfl rfl Try.func42 (by kernel_rfl) rfl #[.bool t135] rfl (by (try simp only [List.map_toArray, List.map_cons, List.map_nil]); first | done | rfl | (simp only [List.length_drop, List.length_take]; rfl)) ?_; (with_reducible refine (drawbridgeref04_one.calls t135 t136 _ A22.out).mono ?_); rintro e w' ⟨rfl, ⟨nd, rfl⟩⟩; refine ⟨_, rfl, ?_⟩))
              go_ret
              exact ⟨by first | rfl | (simp; done) | (simp [*]; done), by repeat (first | exact Drawn0.refl _ | apply Drawn0.step)⟩
            · rw [if_neg c20] at H
              have c20b0 : (a0 == 2) = false := beq_eq_false_iff_ne.mpr c20
              have c20b1 : (a0 != 2) = true := bne_iff_ne.mpr c20
              by_cases c23 : a0 = 3
              · rw [if_pos c23] at H
                have c23b0 : (a0 == 3) = true := beq_iff_eq.mpr c23
                have c23b1 : (a0 != 3) = false := bne_eq_false_iff_eq.mpr c23
                clear c23
                replace H := Option.bind_eq_some_iff.mp H
                obtain ⟨t137, A240, H⟩ := H
                replace H : (some t137) = some r := H
                have A24 := Aside0.mk A240
                clear A240
                obtain rfl := Option.some.inj H
                go_enter Try.func21, Try.ntmps21
                go_wp2_with (first | ((with_reducible refine gate_callee (f := 42) rfl ?_); refine goesL_ (some 52) rfl rfl Try.func42 (by kernel_rfl) rfl #[.bool (decide (a2 < a3))] rfl (by (try simp only [List.map_toArray, List.map_cons, List.map_nil]); first | done | rfl | (simp only [List.length_drop, List.length_take]; rfl)) ?_; (with_reducible refine (drawbridgeref04_one.calls (decide (a2 < a3)) t137 _ A24.out).mono ?_); rintro e w' ⟨rfl, ⟨nd, rfl⟩⟩; refine ⟨_, rfl, ?_⟩))
                go_ret
                exact ⟨by first | rfl | (simp; done) | (simp [*]; done), by repeat (first | exact Drawn0.refl _ | apply Drawn0.step)⟩
              · rw [if_neg c23] at H
                have c23b0 : (a0 == 3) = false := beq_eq_false_iff_ne.mpr c23
                have c23b1 : (a0 != 3) = true := bne_iff_ne.mpr c23
                by_cases c25 : a0 = 4
                · rw [if_pos c25] at H
                  have c25b0 : (a0 == 4) = true := beq_iff_eq.mpr c25
                  have c25b1 : (a0 != 4) = false := bne_eq_false_iff_eq.mpr c25
                  clear c25
                  obtain rfl := Option.some.inj H
                  go_enter Try.func21, Try.ntmps21
                  go_wp2
                  go_ret
                  exact ⟨by first | rfl | (simp; done) | (simp [*]; done), by repeat (first | exact Drawn0.refl _ | apply Drawn0.step)⟩
                · rw [if_neg c25] at H
                  have c25b0 : (a0 == 4) = false := beq_eq_false_iff_ne.mpr c25
                  have c25b1 : (a0 != 4) = true := bne_iff_ne.mpr c25
                  by_cases c26 : a0 = 6
                  · rw [if_pos c26] at H
                    have c26b0 : (a0 == 6) = true := beq_iff_eq.mpr c26
                    have c26b1 : (a0 != 6) = false := bne_eq_false_iff_eq.mpr c26
                    clear c26
                    obtain rfl := Option.some.inj H
                    go_enter Try.func21, Try.ntmps21
                    go_wp2
                    go_ret
                    exact ⟨by first | rfl | (simp; done) | (simp [*]; done), by repeat (first | exact Drawn0.refl _ | apply Drawn0.step)⟩
                  · rw [if_neg c26] at H
                    have c26b0 : (a0 == 6) = false := beq_eq_false_iff_ne.mpr c26
                    have c26b1 : (a0 != 6) = true := bne_iff_ne.mpr c26
                    by_cases c27 : a0 = 7
                    · rw [if_pos c27] at H
                      have c27b0 : (a0 == 7) = true := beq_iff_eq.mpr c27
                      have c27b1 : (a0 != 7) = false := bne_eq_false_iff_eq.mpr c27
                      clear c27
                      obtain rfl := Option.some.inj H
                      go_enter Try.func21, Try.ntmps21
                      go_wp2
                      go_ret
                      exact ⟨by first | rfl | (simp; done) | (simp [*]; done), by repeat (first | exact Drawn0.refl _ | apply Drawn0.step)⟩
                    · rw [if_neg c27] at H
                      have c27b0 : (a0 == 7) = false := beq_eq_false_iff_ne.mpr c27
                      have c27b1 : (a0 != 7) = true := bne_iff_ne.mpr c27
                      by_cases c28 : a0 = 16
                      · rw [if_pos c28] at H
                        have c28b0 : (a0 == 16) = true := beq_iff_eq.mpr c28
                        have c28b1 : (a0 != 16) = false := bne_eq_false_iff_eq.mpr c28
                        clear c28
                        obtain rfl := Option.some.inj H
                        go_enter Try.func21, Try.ntmps21
                        go_wp2
                        go_ret
                        exact ⟨by first | rfl | (simp; done) | (simp [*]; done), by repeat (first | exact Drawn0.refl _ | apply Drawn0.step)⟩
                      · rw [if_neg c28] at H
                        have c28b0 : (a0 == 16) = false := beq_eq_false_iff_ne.mpr c28
                        have c28b1 : (a0 != 16) = true := bne_iff_ne.mpr c28
                        by_cases c29 : a0 = 17
                        · rw [if_pos c29] at H
                          have c29b0 : (a0 == 17) = true := beq_iff_eq.mpr c29
                          have c29b1 : (a0 != 17) = false := bne_eq_false_iff_eq.mpr c29
                          clear c29
                          replace H := Option.bind_eq_some_iff.mp H
                          obtain ⟨t138, A300, H⟩ := H
                          replace H : ((drawbridgeref04_Neg.f a2).bind fun t139 => ((drawbridgeref04_one.f t139).bind fun t140 => ((drawbridgeref04_Neg.f a3).bind fun t141 => ((drawbridgeref04_one.f t141).bind fun t142 => (some (IntKind.u64.wrap ((IntKind.u64.wrap (t138 - (IntKind.u64.wrap (t140 * a3)))) - (IntKind.u64.wrap (t142 * a2))))))))) = some r := H
                          have A30 := Aside0.mk A300
                          clear A300
                          replace H := Option.bind_eq_some_iff.mp H
                          obtain ⟨t139, A310, H⟩ := H
                          replace H : ((drawbridgeref04_one.f t139).bind fun t140 => ((drawbridgeref04_Neg.f a3).bind fun t141 => ((drawbridgeref04_one.f t141).bind fun t142 => (some (IntKind.u64.wrap ((IntKind.u64.wrap (t138 - (IntKind.u64.wrap (t140 * a3)))) - (IntKind.u64.wrap (t142 * a2)))))))) = some r := H
                          have A31 := Aside0.mk A310
                          clear A310
                          replace H := Option.bind_eq_some_iff.mp H
                          obtain ⟨t140, A320, H⟩ := H
                          replace H : ((drawbridgeref04_Neg.f a3).bind fun t141 => ((drawbridgeref04_one.f t141).bind fun t142 => (some (IntKind.u64.wrap ((IntKind.u64.wrap (t138 - (IntKind.u64.wrap (t140 * a3)))) - (IntKind.u64.wrap (t142 * a2))))))) = some r := H
                          have A32 := Aside0.mk A320
                          clear A320
                          replace H := Option.bind_eq_some_iff.mp H
                          obtain ⟨t141, A330, H⟩ := H
                          replace H : ((drawbridgeref04_one.f t141).bind fun t142 => (some (IntKind.u64.wrap ((IntKind.u64.wrap (t138 - (IntKind.u64.wrap (t140 * a3)))) - (IntKind.u64.wrap (t142 * a2)))))) = some r := H
                          have A33 := Aside0.mk A330
                          clear A330
                          replace H := Option.bind_eq_some_iff.mp H
                          obtain ⟨t142, A340, H⟩ := H
                          replace H : (some (IntKind.u64.wrap ((IntKind.u64.wrap (t138 - (IntKind.u64.wrap (t140 * a3)))) - (IntKind.u64.wrap (t142 * a2))))) = some r := H
                          have A34 := Aside0.mk A340
                          clear A340
                          obtain rfl := Option.some.inj H
                          go_enter Try.func21, Try.ntmps21
                          go_wp2_with (first | ((with_reducible refine gate_callee (f := 43) rfl ?_); refine goesL_ (some 77) rfl rfl Try.func43 (by kernel_rfl) rfl #[.int .u64 a2, .int .u64 a3] rfl (by (try simp only [List.map_toArray, List.map_cons, List.map_nil]); first | done | rfl | (simp only [List.length_drop, List.length_take]; rfl)) ?_; (with_reducible refine (drawbridgeref04_high.calls a2 a3 t138 _ A30.out).mono ?_); rintro e w' ⟨rfl, ⟨nd, rfl⟩⟩; refine ⟨_, rfl, ?_⟩) | ((with_reducible refine gate_callee (f := 16) rfl ?_); refine goesL_ (some 79) rfl rfl Try.func16 (by kernel_rfl) rfl #[.int .u64 a2] rfl (by (try simp only [List.map_toArray, List.map_cons, List.map_nil]); first | done | rfl | (simp only [List.length_drop, List.length_take]; rfl)) ?_; (with_reducible refine (drawbridgeref04_Neg.calls a2 t139 _ A31.out).mono ?_); rintro e w' ⟨rfl, ⟨nd, rfl⟩⟩; refine ⟨_, rfl, ?_⟩) | ((with_reducible refine gate_callee (f := 42) rfl ?_); refine goesL_ (some 80) rfl rfl Try.func42 (by kernel_rfl) rfl #[.bool t139] rfl (by (try simp only [List.map_toArray, List.map_cons, List.map_nil]); first | done | rfl | (simp only [List.length_drop, List.length_take]; rfl)) ?_; (with_reducible refine (drawbridgeref04_one.calls t139 t140 _ A32.out).mono ?_); rintro e w' ⟨rfl, ⟨nd, rfl⟩⟩; refine ⟨_, rfl, ?_⟩) | ((with_reducible refine gate_callee (f := 16) rfl ?_); refine goesL_ (some 85) rfl rfl Try.func16 (by kernel_rfl) rfl #[.int .u64 a3] rfl (by (try simp only [List.map_toArray, List.map_cons, List.map_nil]); first | done | rfl | (simp only [List.length_drop, List.length_take]; rfl)) ?_; (with_reducible refine (drawbridgeref04_Neg.calls a3 t141 _ A33.out).mono ?_); rintro e w' ⟨rfl, ⟨nd, rfl⟩⟩; refine ⟨_, rfl, ?_⟩) | ((with_reducible refine gate_callee (f := 42) rfl ?_); refine goesL_ (some 86) rfl rfl Try.func42 (by kernel_rfl) rfl #[.bool t141] rfl (by (try simp only [List.map_toArray, List.map_cons, List.map_nil]); first | done | rfl | (simp only [List.length_drop, List.length_take]; rfl)) ?_; (with_reducible refine (drawbridgeref04_one.calls t141 t142 _ A34.out).mono ?_); rintro e w' ⟨rfl, ⟨nd, rfl⟩⟩; refine ⟨_, rfl, ?_⟩))
                          go_ret
                          exact ⟨by first | rfl | (simp; done) | (simp [*]; done), by repeat (first | exact Drawn0.refl _ | apply Drawn0.step)⟩
                        · rw [if_neg c29] at H
                          have c29b0 : (a0 == 17) = false := beq_eq_false_iff_ne.mpr c29
                          have c29b1 : (a0 != 17) = true := bne_iff_ne.mpr c29
                          by_cases c35 : a0 = 18
                          · rw [if_pos c35] at H
                            have c35b0 : (a0 == 18) = true := beq_iff_eq.mpr c35
                            have c35b1 : (a0 != 18) = false := bne_eq_false_iff_eq.mpr c35
                            clear c35
                            replace H := Option.bind_eq_some_iff.mp H
                            obtain ⟨t143, A360, H⟩ := H
                            replace H : ((drawbridgeref04_Neg.f a2).bind fun t144 => ((drawbridgeref04_one.f t144).bind fun t145 => (some (IntKind.u64.wrap (t143 - (IntKind.u64.wrap (t145 * a3))))))) = some r := H
                            have A36 := Aside0.mk A360
                            clear A360
                            replace H := Option.bind_eq_some_iff.mp H
                            obtain ⟨t144, A370, H⟩ := H
                            replace H : ((drawbridgeref04_one.f t144).bind fun t145 => (some (IntKind.u64.wrap (t143 - (IntKind.u64.wrap (t145 * a3)))))) = some r := H
                            have A37 := Aside0.mk A370
                            clear A370
                            replace H := Option.bind_eq_some_iff.mp H
                            obtain ⟨t145, A380, H⟩ := H
                            replace H : (some (IntKind.u64.wrap (t143 - (IntKind.u64.wrap (t145 * a3))))) = some r := H
                            have A38 := Aside0.mk A380
                            clear A380
                            obtain rfl := Option.some.inj H
                            go_enter Try.func21, Try.ntmps21
                            go_wp2_with (first | ((with_reducible refine gate_callee (f := 43) rfl ?_); refine goesL_ (some 94) rfl rfl Try.func43 (by kernel_rfl) rfl #[.int .u64 a2, .int .u64 a3] rfl (by (try simp only [List.map_toArray, List.map_cons, List.map_nil]); first | done | rfl | (simp only [List.length_drop, List.length_take]; rfl)) ?_; (with_reducible refine (drawbridgeref04_high.calls a2 a3 t143 _ A36.out).mono ?_); rintro e w' ⟨rfl, ⟨nd, rfl⟩⟩; refine ⟨_, rfl, ?_⟩) | ((with_reducible refine gate_callee (f := 16) rfl ?_); refine goesL_ (some 96) rfl rfl Try.func16 (by kernel_rfl) rfl #[.int .u64 a2] rfl (by (try simp only [List.map_toArray, List.map_cons, List.map_nil]); first | done | rfl | (simp only [List.length_drop, List.length_take]; rfl)) ?_; (with_reducible refine (drawbridgeref04_Neg.calls a2 t144 _ A37.out).mono ?_); rintro e w' ⟨rfl, ⟨nd, rfl⟩⟩; refine ⟨_, rfl, ?_⟩) | ((with_reducible refine gate_callee (f := 42) rfl ?_); refine goesL_ (some 97) rfl rfl Try.func42 (by kernel_rfl) rfl #[.bool t144] rfl (by (try simp only [List.map_toArray, List.map_cons, List.map_nil]); first | done | rfl | (simp only [List.length_drop, List.length_take]; rfl)) ?_; (with_reducible refine (drawbridgeref04_one.calls t144 t145 _ A38.out).mono ?_); rintro e w' ⟨rfl, ⟨nd, rfl⟩⟩; refine ⟨_, rfl, ?_⟩))
                            go_ret
                            exact ⟨by first | rfl | (simp; done) | (simp [*]; done), by repeat (first | exact Drawn0.refl _ | apply Drawn0.step)⟩
                          · rw [if_neg c35] at H
                            have c35b0 : (a0 == 18) = false := beq_eq_false_iff_ne.mpr c35
                            have c35b1 : (a0 != 18) = true := bne_iff_ne.mpr c35
                            by_cases c39 : a0 = 19
                            · rw [if_pos c39] at H
                              have c39b0 : (a0 == 19) = true := beq_iff_eq.mpr c39
                              have c39b1 : (a0 != 19) = false := bne_eq_false_iff_eq.mpr c39
                              clear c39
                              replace H := Option.bind_eq_some_iff.mp H
                              obtain ⟨t146, A400, H⟩ := H
                              replace H : (some t146) = some r := H
                              have A40 := Aside0.mk A400
                              clear A400
                              obtain rfl := Option.some.inj H
                              go_enter Try.func21, Try.ntmps21
                              go_wp2_with (first | ((with_reducible refine gate_callee (f := 43) rfl ?_); refine goesL_ (some 105) rfl rfl Try.func43 (by kernel_rfl) rfl #[.int .u64 a2, .int .u64 a3] rfl (by (try simp only [List.map_toArray, List.map_cons, List.map_nil]); first | done | rfl | (simp only [List.length_drop, List.length_take]; rfl)) ?_; (with_reducible refine (drawbridgeref04_high.calls a2 a3 t146 _ A40.out).mono ?_); rintro e w' ⟨rfl, ⟨nd, rfl⟩⟩; refine ⟨_, rfl, ?_⟩))
                              go_ret
                              exact ⟨by first | rfl | (simp; done) | (simp [*]; done), by repeat (first | exact Drawn0.refl _ | apply Drawn0.step)⟩
                            · rw [if_neg c39] at H
                              have c39b0 : (a0 == 19) = false := beq_eq_false_iff_ne.mpr c39
                              have c39b1 : (a0 != 19) = true := bne_iff_ne.mpr c39
                              by_cases c41 : a0 = 20
                              · rw [if_pos c41] at H
                                have c41b0 : (a0 == 20) = true := beq_iff_eq.mpr c41
                                have c41b1 : (a0 != 20) = false := bne_eq_false_iff_eq.mpr c41
                                clear c41
                                replace H := Option.bind_eq_some_iff.mp H
                                obtain ⟨t147, A420, H⟩ := H
                                replace H : (some t147) = some r := H
                                have A42 := Aside0.mk A420
                                clear A420
                                obtain rfl := Option.some.inj H
                                go_enter Try.func21, Try.ntmps21
                                go_wp2_with (first | ((with_reducible refine gate_callee (f := 44) rfl ?_); refine goesL_ (some 114) rfl rfl Try.func44 (by kernel_rfl) rfl #[.int .i64 a0, .int .u64 a2, .int .u64 a3] rfl (by (try simp only [List.map_toArray, List.map_cons, List.map_nil]); first | done | rfl | (simp only [List.length_drop, List.length_take]; rfl)) ?_; (with_reducible refine (drawbridgeref04_quotient.calls k a0 a2 a3 t147 _ A42.out).mono ?_); rintro e w' ⟨rfl, ⟨nd, rfl⟩⟩; refine ⟨_, rfl, ?_⟩))
                                go_ret
                                exact ⟨by first | rfl | (simp; done) | (simp [*]; done), by repeat (first | exact Drawn0.refl _ | apply Drawn0.step)⟩
                              · rw [if_neg c41] at H
                                have c41b0 : (a0 == 20) = false := beq_eq_false_iff_ne.mpr c41
                                have c41b1 : (a0 != 20) = true := bne_iff_ne.mpr c41
                                by_cases c43 : a0 = 21
                                · rw [if_pos c43] at H
                                  have c43b0 : (a0 == 21) = true := beq_iff_eq.mpr c43
                                  have c43b1 : (a0 != 21) = false := bne_eq_false_iff_eq.mpr c43
                                  clear c43
                                  replace H := Option.bind_eq_some_iff.mp H
                                  obtain ⟨t148, A440, H⟩ := H
                                  replace H : (some t148) = some r := H
                                  have A44 := Aside0.mk A440
                                  clear A440
                                  obtain rfl := Option.some.inj H
                                  go_enter Try.func21, Try.ntmps21
                                  go_wp2_with (first | ((with_reducible refine gate_callee (f := 44) rfl ?_); refine goesL_ (some 114) rfl rfl Try.func44 (by kernel_rfl) rfl #[.int .i64 a0, .int .u64 a2, .int .u64 a3] rfl (by (try simp only [List.map_toArray, List.map_cons, List.map_nil]); first | done | rfl | (simp only [List.length_drop, List.length_take]; rfl)) ?_; (with_reducible refine (drawbridgeref04_quotient.calls k a0 a2 a3 t148 _ A44.out).mono ?_); rintro e w' ⟨rfl, ⟨nd, rfl⟩⟩; refine ⟨_, rfl, ?_⟩))
                                  go_ret
                                  exact ⟨by first | rfl | (simp; done) | (simp [*]; done), by repeat (first | exact Drawn0.refl _ | apply Drawn0.step)⟩
                                · rw [if_neg c43] at H
                                  have c43b0 : (a0 == 21) = false := beq_eq_false_iff_ne.mpr c43
                                  have c43b1 : (a0 != 21) = true := bne_iff_ne.mpr c43
                                  by_cases c45 : a0 = 22
                                  · rw [if_pos c45] at H
                                    have c45b0 : (a0 == 22) = true := beq_iff_eq.mpr c45
                                    have c45b1 : (a0 != 22) = false := bne_eq_false_iff_eq.mpr c45
                                    clear c45
                                    replace H := Option.bind_eq_some_iff.mp H
                                    obtain ⟨t149, A460, H⟩ := H
                                    replace H : (some t149) = some r := H
                                    have A46 := Aside0.mk A460
                                    clear A460
                                    obtain rfl := Option.some.inj H
                                    go_enter Try.func21, Try.ntmps21
                                    go_wp2_with (first | ((with_reducible refine gate_callee (f := 44) rfl ?_); refine goesL_ (some 114) rfl rfl Try.func44 (by kernel_rfl) rfl #[.int .i64 a0, .int .u64 a2, .int .u64 a3] rfl (by (try simp only [List.map_toArray, List.map_cons, List.map_nil]); first | done | rfl | (simp only [List.length_drop, List.length_take]; rfl)) ?_; (with_reducible refine (drawbridgeref04_quotient.calls k a0 a2 a3 t149 _ A46.out).mono ?_); rintro e w' ⟨rfl, ⟨nd, rfl⟩⟩; refine ⟨_, rfl, ?_⟩))
                                    go_ret
                                    exact ⟨by first | rfl | (simp; done) | (simp [*]; done), by repeat (first | exact Drawn0.refl _ | apply Drawn0.step)⟩
                                  · rw [if_neg c45] at H
                                    have c45b0 : (a0 == 22) = false := beq_eq_false_iff_ne.mpr c45
                                    have c45b1 : (a0 != 22) = true := bne_iff_ne.mpr c45
                                    by_cases c47 : a0 = 23
                                    · rw [if_pos c47] at H
                                      have c47b0 : (a0 == 23) = true := beq_iff_eq.mpr c47
                                      have c47b1 : (a0 != 23) = false := bne_eq_false_iff_eq.mpr c47
                                      clear c47
                                      replace H := Option.bind_eq_some_iff.mp H
                                      obtain ⟨t150, A480, H⟩ := H
                                      replace H : (some t150) = some r := H
                                      have A48 := Aside0.mk A480
                                      clear A480
                                      obtain rfl := Option.some.inj H
                                      go_enter Try.func21, Try.ntmps21
                                      go_wp2_with (first | ((with_reducible refine gate_callee (f := 44) rfl ?_); refine goesL_ (some 114) rfl rfl Try.func44 (by kernel_rfl) rfl #[.int .i64 a0, .int .u64 a2, .int .u64 a3] rfl (by (try simp only [List.map_toArray, List.map_cons, List.map_nil]); first | done | rfl | (simp only [List.length_drop, List.length_take]; rfl)) ?_; (with_reducible refine (drawbridgeref04_quotient.calls k a0 a2 a3 t150 _ A48.out).mono ?_); rintro e w' ⟨rfl, ⟨nd, rfl⟩⟩; refine ⟨_, rfl, ?_⟩))
                                      go_ret
                                      exact ⟨by first | rfl | (simp; done) | (simp [*]; done), by repeat (first | exact Drawn0.refl _ | apply Drawn0.step)⟩
                                    · rw [if_neg c47] at H
                                      have c47b0 : (a0 == 23) = false := beq_eq_false_iff_ne.mpr c47
                                      have c47b1 : (a0 != 23) = true := bne_iff_ne.mpr c47
                                      obtain rfl := Option.some.inj H
                                      go_enter Try.func21, Try.ntmps21
                                      go_wp2
                                      go_ret
                                      exact ⟨by first | rfl | (simp; done) | (simp [*]; done), by repeat (first | exact Drawn0.refl _ | apply Drawn0.step)⟩

end Go.Proofs.Ytielecanhammbaa.Q
