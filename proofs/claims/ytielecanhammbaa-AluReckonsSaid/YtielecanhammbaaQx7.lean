-- Ytielecanhammbaa: written by a program for this claim (several laws of one seat at once)
import Derived.Test.YtielecanhammbaaQx0
import Derived.Test.YtielecanhammbaaQx2
import Derived.Test.YtielecanhammbaaQx3
import Derived.Test.YtielecanhammbaaEalu
namespace Go.Proofs.Ytielecanhammbaa.Q
open Go.RowKit Go.Proofs.YtielecanhammbaaW.PrintWords Go.Proofs.YtielecanhammbaaW.PrintLast Go.Proofs.YtielecanhammbaaW.PrintMore
attribute [local go_sem] max2_int min2_int max_two min_two max_three min_three max_four min_four   -- for this text's walks alone
set_option linter.unusedVariables false
set_option linter.unusedSimpArgs false

/-! ### drawbridgelaw04_AluHigh: function 6 -/
def drawbridgelaw04_AluHigh.j0 : Nat → Int → Int → Bool → Option (Bool)
  | 0, _, _, _ => none
  | k + 1, x0, x1, x11 => if x11 = true then ((drawbridgelaw04_heads.f k).bind fun t180 => (some t180)) else (if 0 ≤ (IntKind.u64.wrap (x1)) then ((alu_Do.f 19 false x0 (shl .u64 1 (IntKind.u64.wrap (x1)))).bind fun t181 => (if 0 ≤ (IntKind.u64.wrap (wrap64 (64 - x1))) then (if t181 = (shr .u64 x0 (IntKind.u64.wrap (wrap64 (64 - x1)))) then ((alu_Do.f 16 false x0 (shl .u64 1 (IntKind.u64.wrap (x1)))).bind fun t182 => (if t182 = (shl .u64 x0 (IntKind.u64.wrap (x1))) then ((alu_Do.f 19 false x0 (shl .u64 1 (IntKind.u64.wrap (x1)))).bind fun t183 => ((alu_Do.f 19 false (shl .u64 1 (IntKind.u64.wrap (x1))) x0).bind fun t184 => (if t183 = t184 then ((alu_Do.f 17 false x0 18446744073709551615).bind fun t185 => ((alu_Do.f 17 false 18446744073709551615 x0).bind fun t186 => (if t185 = t186 then ((drawbridgelaw04_heads.f k).bind fun t187 => (some t187)) else (some false)))) else (some false)))) else (some false))) else (some false)) else (none))) else (none))
def drawbridgelaw04_AluHigh.f (k : Nat) (a0 : Int) (a1 : Int) : Option (Bool) := if a1 < 1 then (drawbridgelaw04_AluHigh.j0 k a0 a1 true) else (drawbridgelaw04_AluHigh.j0 k a0 a1 (decide (a1 > 63)))
theorem drawbridgelaw04_AluHigh.mono_l : ∀ k, (∀ y0 y1 y2, LeO (drawbridgelaw04_AluHigh.j0 k y0 y1 y2) (drawbridgelaw04_AluHigh.j0 (k + 1) y0 y1 y2))
  | 0 => fun _ _ _ r h => by simp [drawbridgelaw04_AluHigh.j0] at h
  | k + 1 => by
    have ih0 := drawbridgelaw04_AluHigh.mono_l k
    · intro y0 y1 y2
      unfold drawbridgelaw04_AluHigh.j0
      repeat' first
      | (with_reducible exact ih0 _ _ _)
      | (with_reducible exact drawbridgelaw04_heads.mono _)
      | (with_reducible exact LeO.refl _)
      | (with_reducible exact LeO.none _)
      | (with_reducible refine LeO.ite ?_ ?_)
      | (with_reducible refine LeO.bind ?_ (fun _ => ?_))
      | exact ih0 _ _ _
      | exact drawbridgelaw04_heads.mono _
      | exact LeO.none _
      | refine LeO.ite ?_ ?_
      | refine LeO.bind ?_ (fun _ => ?_)
theorem drawbridgelaw04_AluHigh.mono : ∀ a0 a1 k, LeO (drawbridgelaw04_AluHigh.f k a0 a1) (drawbridgelaw04_AluHigh.f (k + 1) a0 a1) := by
  intro a0 a1 k
  have ih0 := drawbridgelaw04_AluHigh.mono_l k
  unfold drawbridgelaw04_AluHigh.f
  repeat' first
      | (with_reducible exact ih0 _ _ _)
      | (with_reducible exact drawbridgelaw04_heads.mono _)
      | (with_reducible exact LeO.refl _)
      | (with_reducible exact LeO.none _)
      | (with_reducible refine LeO.ite ?_ ?_)
      | (with_reducible refine LeO.bind ?_ (fun _ => ?_))
      | exact ih0 _ _ _
      | exact drawbridgelaw04_heads.mono _
      | exact LeO.none _
      | refine LeO.ite ?_ ?_
      | refine LeO.bind ?_ (fun _ => ?_)
set_option maxHeartbeats 8000000 in
set_option maxRecDepth 100000 in
theorem drawbridgelaw04_AluHigh.calls (k : Nat) (a0 : Int) (a1 : Int) (r : Bool) (w : World) (h : drawbridgelaw04_AluHigh.f k a0 a1 = some r) :
    Calls Try.prog 6 #[.int .u64 a0, .int .i64 a1] w fun e w' => e = .returned (.bool r) ∧ Drawn0 w w' := by
  have H : (if a1 < 1 then (drawbridgelaw04_AluHigh.j0 k a0 a1 true) else (drawbridgelaw04_AluHigh.j0 k a0 a1 (decide (a1 > 63)))) = some r := h
  clear h
  have HC3 := Aside0.mk H
  clear H
  go_enter Try.func6, Try.ntmps6
  go_upto_region 1 with (fail)
  go_cut [11] (fun v11 wc => ∃ (kq : Nat) (x11_2 : Bool), v11 = .bool x11_2 ∧ Aside0 (drawbridgelaw04_AluHigh.j0 kq a0 a1 x11_2 = some r) ∧ Aside0 (kq ≤ k) ∧ Drawn0 w wc)
  case first =>
    have H := HC3.out
    clear HC3
    by_cases c4 : a1 < 1
    · rw [if_pos c4] at H
      have c4b0 : decide (a1 < 1) = true := decide_eq_true c4
      clear c4
      (first | rw [c4b0] | (simp only [i64_w, i32_w]; rw [c4b0]) | skip)
      have H' := Aside0.mk H
      clear H
      go_wp2
      go_meet
      case rel => exact ⟨_, (true), (by first | rfl | (simp; done) | (simp [*]; done)), H', ⟨by first | omega | exact Nat.le_refl _⟩, by repeat (first | exact Drawn0.refl _ | apply Drawn0.step)⟩
    · rw [if_neg c4] at H
      have c4b0 : decide (a1 < 1) = false := decide_eq_false c4
      clear c4
      (first | rw [c4b0] | (simp only [i64_w, i32_w]; rw [c4b0]) | skip)
      have H' := Aside0.mk H
      clear H
      go_wp2
      go_meet
      case rel => exact ⟨_, (decide (a1 > 63)), (by first | rfl | (simp; done) | (simp [*]; done)), H', ⟨by first | omega | exact Nat.le_refl _⟩, by repeat (first | exact Drawn0.refl _ | apply Drawn0.step)⟩
  case rest =>
    clear HC3
    try clear p2
    try clear c4
    try clear c4b0
    obtain ⟨kq, x11_2, rfl, HA, HJ2, ⟨mc2, rfl⟩⟩ := hcut
    cases kq with
    | zero => exact absurd HA.out (by simp [drawbridgelaw04_AluHigh.j0])
    | succ kj2 =>
      have H := HA.out
      clear HA
      simp only [drawbridgelaw04_AluHigh.j0] at H
      by_cases c5 : x11_2 = true
      · subst c5
        have H1 : ((drawbridgelaw04_heads.f kj2).bind fun t180 => (some t180)) = some r := by rw [if_pos rfl] at H; exact H
        clear H
        have H := H1
        clear H1
        replace H := Option.bind_eq_some_iff.mp H
        obtain ⟨t180, A60, H⟩ := H
        replace H : (some t180) = some r := H
        have A6 := Aside0.mk A60
        clear A60
        obtain rfl := Option.some.inj H
        go_wp2_with (first | ((with_reducible refine gate_callee (f := 9) rfl ?_); refine goesL_ (some 12) rfl rfl Try.func9 (by kernel_rfl) rfl #[] rfl (by (try simp only [List.map_toArray, List.map_cons, List.map_nil]); first | done | rfl | (simp only [List.length_drop, List.length_take]; rfl)) ?_; (with_reducible refine (drawbridgelaw04_heads.calls kj2  t180 _ A6.out).mono ?_); rintro e w' ⟨rfl, ⟨nd, rfl⟩⟩; refine ⟨_, rfl, ?_⟩))
        go_ret
        exact ⟨by first | rfl | (simp; done) | (simp [*]; done), by repeat (first | exact Drawn0.refl _ | apply Drawn0.step)⟩
      · replace c5 := Bool.eq_false_iff.mpr c5
        subst c5
        have H1 : (if 0 ≤ (IntKind.u64.wrap (a1)) then ((alu_Do.f 19 false a0 (shl .u64 1 (IntKind.u64.wrap (a1)))).bind fun t181 => (if 0 ≤ (IntKind.u64.wrap (wrap64 (64 - a1))) then (if t181 = (shr .u64 a0 (IntKind.u64.wrap (wrap64 (64 - a1)))) then ((alu_Do.f 16 false a0 (shl .u64 1 (IntKind.u64.wrap (a1)))).bind fun t182 => (if t182 = (shl .u64 a0 (IntKind.u64.wrap (a1))) then ((alu_Do.f 19 false a0 (shl .u64 1 (IntKind.u64.wrap (a1)))).bind fun t183 => ((alu_Do.f 19 false (shl .u64 1 (IntKind.u64.wrap (a1))) a0).bind fun t184 => (if t183 = t184 then ((alu_Do.f 17 false a0 18446744073709551615).bind fun t185 => ((alu_Do.f 17 false 18446744073709551615 a0).bind fun t186 => (if t185 = t186 then ((drawbridgelaw04_heads.f kj2).bind fun t187 => (some t187)) else (some false)))) else (some false)))) else (some false))) else (some false)) else (none))) else (none)) = some r := by rw [if_neg (show ¬ (false = true) by decide)] at H; exact H
        clear H
        have H := H1
        clear H1
        obtain ⟨ji7, hji7⟩ : ∃ j_ : Int, (IntKind.u64.wrap (a1)) = j_ := ⟨_, rfl⟩
        replace H : (if 0 ≤ (ji7) then ((alu_Do.f 19 false a0 (shl .u64 1 (ji7))).bind fun t181 => (if 0 ≤ (IntKind.u64.wrap (wrap64 (64 - a1))) then (if t181 = (shr .u64 a0 (IntKind.u64.wrap (wrap64 (64 - a1)))) then ((alu_Do.f 16 false a0 (shl .u64 1 (ji7))).bind fun t182 => (if t182 = (shl .u64 a0 (ji7)) then ((alu_Do.f 19 false a0 (shl .u64 1 (ji7))).bind fun t183 => ((alu_Do.f 19 false (shl .u64 1 (ji7)) a0).bind fun t184 => (if t183 = t184 then ((alu_Do.f 17 false a0 18446744073709551615).bind fun t185 => ((alu_Do.f 17 false 18446744073709551615 a0).bind fun t186 => (if t185 = t186 then ((drawbridgelaw04_heads.f kj2).bind fun t187 => (some t187)) else (some false)))) else (some false)))) else (some false))) else (some false)) else (none))) else (none)) = some r := by first | (rw [hji7] at H; exact H) | (simp only [hji7] at H ⊢; exact H)
        by_cases c8 : 0 ≤ (ji7)
        · rw [if_pos c8] at H
          have c8b0 := eq_true c8
          have c8b1 : decide (0 ≤ (ji7)) = true := decide_eq_true c8
          clear c8
          obtain ⟨ji9, hji9⟩ : ∃ j_ : Int, (shl .u64 1 (ji7)) = j_ := ⟨_, rfl⟩
          replace H : ((alu_Do.f 19 false a0 (ji9)).bind fun t181 => (if 0 ≤ (IntKind.u64.wrap (wrap64 (64 - a1))) then (if t181 = (shr .u64 a0 (IntKind.u64.wrap (wrap64 (64 - a1)))) then ((alu_Do.f 16 false a0 (ji9)).bind fun t182 => (if t182 = (shl .u64 a0 (ji7)) then ((alu_Do.f 19 false a0 (ji9)).bind fun t183 => ((alu_Do.f 19 false (ji9) a0).bind fun t184 => (if t183 = t184 then ((alu_Do.f 17 false a0 18446744073709551615).bind fun t185 => ((alu_Do.f 17 false 18446744073709551615 a0).bind fun t186 => (if t185 = t186 then ((drawbridgelaw04_heads.f kj2).bind fun t187 => (some t187)) else (some false)))) else (some false)))) else (some false))) else (some false)) else (none))) = some r := by first | (rw [hji9] at H; exact H) | (simp only [hji9] at H ⊢; exact H)
          have hji9_ : (IntKind.u64.wrap (1 * 2 ^ min (ji7).toNat 64)) = ji9 := hji9
          have hji9z : (ji7) ≤ 64 → (IntKind.u64.wrap (1 * 2 ^ (ji7).toNat)) = ji9 := shl_small hji9
          have hji9u : (IntKind.u64.wrap (2 ^ min (ji7).toNat 64)) = ji9 := by have h_ := hji9_; rw [Int.one_mul] at h_; exact h_
          have hji9v : (ji7) ≤ 64 → (IntKind.u64.wrap (2 ^ (ji7).toNat)) = ji9 := fun hle_ => by have h_ := hji9z hle_; rw [Int.one_mul] at h_; exact h_
          replace H := Option.bind_eq_some_iff.mp H
          obtain ⟨t181, A100, H⟩ := H
          replace H : (if 0 ≤ (IntKind.u64.wrap (wrap64 (64 - a1))) then (if t181 = (shr .u64 a0 (IntKind.u64.wrap (wrap64 (64 - a1)))) then ((alu_Do.f 16 false a0 (ji9)).bind fun t182 => (if t182 = (shl .u64 a0 (ji7)) then ((alu_Do.f 19 false a0 (ji9)).bind fun t183 => ((alu_Do.f 19 false (ji9) a0).bind fun t184 => (if t183 = t184 then ((alu_Do.f 17 false a0 18446744073709551615).bind fun t185 => ((alu_Do.f 17 false 18446744073709551615 a0).bind fun t186 => (if t185 = t186 then ((drawbridgelaw04_heads.f kj2).bind fun t187 => (some t187)) else (some false)))) else (some false)))) else (some false))) else (some false)) else (none)) = some r := H
          have A10 := Aside0.mk A100
          clear A100
          obtain ⟨ji11, hji11⟩ : ∃ j_ : Int, (IntKind.u64.wrap (wrap64 (64 - a1))) = j_ := ⟨_, rfl⟩
          replace H : (if 0 ≤ (ji11) then (if t181 = (shr .u64 a0 (ji11)) then ((alu_Do.f 16 false a0 (ji9)).bind fun t182 => (if t182 = (shl .u64 a0 (ji7)) then ((alu_Do.f 19 false a0 (ji9)).bind fun t183 => ((alu_Do.f 19 false (ji9) a0).bind fun t184 => (if t183 = t184 then ((alu_Do.f 17 false a0 18446744073709551615).bind fun t185 => ((alu_Do.f 17 false 18446744073709551615 a0).bind fun t186 => (if t185 = t186 then ((drawbridgelaw04_heads.f kj2).bind fun t187 => (some t187)) else (some false)))) else (some false)))) else (some false))) else (some false)) else (none)) = some r := by first | (rw [hji11] at H; exact H) | (simp only [hji11] at H ⊢; exact H)
          (try rw [hji11] at A10)
          by_cases c12 : 0 ≤ (ji11)
          · rw [if_pos c12] at H
            have c12b0 := eq_true c12
            have c12b1 : decide (0 ≤ (ji11)) = true := decide_eq_true c12
            clear c12
            obtain ⟨ji13, hji13⟩ : ∃ j_ : Int, (shr .u64 a0 (ji11)) = j_ := ⟨_, rfl⟩
            replace H : (if t181 = (ji13) then ((alu_Do.f 16 false a0 (ji9)).bind fun t182 => (if t182 = (shl .u64 a0 (ji7)) then ((alu_Do.f 19 false a0 (ji9)).bind fun t183 => ((alu_Do.f 19 false (ji9) a0).bind fun t184 => (if t183 = t184 then ((alu_Do.f 17 false a0 18446744073709551615).bind fun t185 => ((alu_Do.f 17 false 18446744073709551615 a0).bind fun t186 => (if t185 = t186 then ((drawbridgelaw04_heads.f kj2).bind fun t187 => (some t187)) else (some false)))) else (some false)))) else (some false))) else (some false)) = some r := by first | (rw [hji13] at H; exact H) | (simp only [hji13] at H ⊢; exact H)
            (try rw [hji13] at A10)
            have hji13_ : (a0 / 2 ^ min (ji11).toNat 64) = ji13 := hji13
            have hji13z : (ji11) ≤ 64 → (a0 / 2 ^ (ji11).toNat) = ji13 := shr_small hji13
            by_cases c14 : t181 = (ji13)
            · rw [if_pos c14] at H
              have c14b0 : (t181 == (ji13)) = true := beq_iff_eq.mpr c14
              have c14b1 : (t181 != (ji13)) = false := bne_eq_false_iff_eq.mpr c14
              clear c14
              replace H := Option.bind_eq_some_iff.mp H
              obtain ⟨t182, A150, H⟩ := H
              replace H : (if t182 = (shl .u64 a0 (ji7)) then ((alu_Do.f 19 false a0 (ji9)).bind fun t183 => ((alu_Do.f 19 false (ji9) a0).bind fun t184 => (if t183 = t184 then ((alu_Do.f 17 false a0 18446744073709551615).bind fun t185 => ((alu_Do.f 17 false 18446744073709551615 a0).bind fun t186 => (if t185 = t186 then ((drawbridgelaw04_heads.f kj2).bind fun t187 => (some t187)) else (some false)))) else (some false)))) else (some false)) = some r := H
              have A15 := Aside0.mk A150
              clear A150
              have c16b0 := eq_true (of_decide_eq_true (by first | (with_reducible assumption) | assumption) : 0 ≤ (ji7))
              obtain ⟨ji17, hji17⟩ : ∃ j_ : Int, (shl .u64 a0 (ji7)) = j_ := ⟨_, rfl⟩
              replace H : (if t182 = (ji17) then ((alu_Do.f 19 false a0 (ji9)).bind fun t183 => ((alu_Do.f 19 false (ji9) a0).bind fun t184 => (if t183 = t184 then ((alu_Do.f 17 false a0 18446744073709551615).bind fun t185 => ((alu_Do.f 17 false 18446744073709551615 a0).bind fun t186 => (if t185 = t186 then ((drawbridgelaw04_heads.f kj2).bind fun t187 => (some t187)) else (some false)))) else (some false)))) else (some false)) = some r := by first | (rw [hji17] at H; exact H) | (simp only [hji17] at H ⊢; exact H)
              (try rw [hji17] at A10)
              (try rw [hji17] at A15)
              have hji17_ : (IntKind.u64.wrap (a0 * 2 ^ min (ji7).toNat 64)) = ji17 := hji17
              have hji17z : (ji7) ≤ 64 → (IntKind.u64.wrap (a0 * 2 ^ (ji7).toNat)) = ji17 := shl_small hji17
              by_cases c18 : t182 = (ji17)
              · rw [if_pos c18] at H
                have c18b0 : (t182 == (ji17)) = true := beq_iff_eq.mpr c18
                have c18b1 : (t182 != (ji17)) = false := bne_eq_false_iff_eq.mpr c18
                clear c18
                replace H := Option.bind_eq_some_iff.mp H
                obtain ⟨t183, A190, H⟩ := H
                replace H : ((alu_Do.f 19 false (ji9) a0).bind fun t184 => (if t183 = t184 then ((alu_Do.f 17 false a0 18446744073709551615).bind fun t185 => ((alu_Do.f 17 false 18446744073709551615 a0).bind fun t186 => (if t185 = t186 then ((drawbridgelaw04_heads.f kj2).bind fun t187 => (some t187)) else (some false)))) else (some false))) = some r := H
                have A19 := Aside0.mk A190
                clear A190
                replace H := Option.bind_eq_some_iff.mp H
                obtain ⟨t184, A200, H⟩ := H
                replace H : (if t183 = t184 then ((alu_Do.f 17 false a0 18446744073709551615).bind fun t185 => ((alu_Do.f 17 false 18446744073709551615 a0).bind fun t186 => (if t185 = t186 then ((drawbridgelaw04_heads.f kj2).bind fun t187 => (some t187)) else (some false)))) else (some false)) = some r := H
                have A20 := Aside0.mk A200
                clear A200
                by_cases c21 : t183 = t184
                · rw [if_pos c21] at H
                  have c21b0 : (t183 == t184) = true := beq_iff_eq.mpr c21
                  have c21b1 : (t183 != t184) = false := bne_eq_false_iff_eq.mpr c21
                  clear c21
                  replace H := Option.bind_eq_some_iff.mp H
                  obtain ⟨t185, A220, H⟩ := H
                  replace H : ((alu_Do.f 17 false 18446744073709551615 a0).bind fun t186 => (if t185 = t186 then ((drawbridgelaw04_heads.f kj2).bind fun t187 => (some t187)) else (some false))) = some r := H
                  have A22 := Aside0.mk A220
                  clear A220
                  replace H := Option.bind_eq_some_iff.mp H
                  obtain ⟨t186, A230, H⟩ := H
                  replace H : (if t185 = t186 then ((drawbridgelaw04_heads.f kj2).bind fun t187 => (some t187)) else (some false)) = some r := H
                  have A23 := Aside0.mk A230
                  clear A230
                  by_cases c24 : t185 = t186
                  · rw [if_pos c24] at H
                    have c24b0 : (t185 == t186) = true := beq_iff_eq.mpr c24
                    have c24b1 : (t185 != t186) = false := bne_eq_false_iff_eq.mpr c24
                    clear c24
                    replace H := Option.bind_eq_some_iff.mp H
                    obtain ⟨t187, A250, H⟩ := H
                    replace H : (some t187) = some r := H
                    have A25 := Aside0.mk A250
                    clear A250
                    obtain rfl := Option.some.inj H
                    go_wp2_with (first | ((with_reducible refine gate_callee (f := 10) rfl ?_); refine goesL_ (some 18) rfl rfl Try.func10 (by kernel_rfl) rfl #[.int .i64 19, .bool false, .int .u64 a0, .int .u64 ji9] rfl (by (try simp only [List.map_toArray, List.map_cons, List.map_nil]); first | done | (simp only [hji9]; rfl) | rfl | (simp only [List.length_drop, List.length_take]; rfl)) ?_; (with_reducible refine (alu_Do.calls 19 false a0 ji9 t181 _ A10.out).mono ?_); rintro e w' ⟨rfl, ⟨nd, rfl⟩⟩; refine ⟨_, rfl, ?_⟩) | (go_at_call 10; (with_reducible refine (alu_Do.calls 16 false a0 ji9 t182 _ A15.out).mono ?_); rintro e w' ⟨rfl, ⟨nd, rfl⟩⟩) | (go_at_call 10; (with_reducible refine (alu_Do.calls 19 false a0 ji9 t183 _ A19.out).mono ?_); rintro e w' ⟨rfl, ⟨nd, rfl⟩⟩) | (go_at_call 10; (with_reducible refine (alu_Do.calls 19 false ji9 a0 t184 _ A20.out).mono ?_); rintro e w' ⟨rfl, ⟨nd, rfl⟩⟩) | (go_at_call 10; (with_reducible refine (alu_Do.calls 17 false a0 18446744073709551615 t185 _ A22.out).mono ?_); rintro e w' ⟨rfl, ⟨nd, rfl⟩⟩) | (go_at_call 10; (with_reducible refine (alu_Do.calls 17 false 18446744073709551615 a0 t186 _ A23.out).mono ?_); rintro e w' ⟨rfl, ⟨nd, rfl⟩⟩) | (go_at_call 9; (with_reducible refine (drawbridgelaw04_heads.calls kj2  t187 _ A25.out).mono ?_); rintro e w' ⟨rfl, ⟨nd, rfl⟩⟩))
                    go_ret
                    exact ⟨by first | rfl | (simp; done) | (simp only [← hji7, ← hji9, ← hji11, ← hji13, ← hji17] <;> (first | rfl | simp)) | (simp [*]; done), by repeat (first | exact Drawn0.refl _ | apply Drawn0.step)⟩
                  · rw [if_neg c24] at H
                    have c24b0 : (t185 == t186) = false := beq_eq_false_iff_ne.mpr c24
                    have c24b1 : (t185 != t186) = true := bne_iff_ne.mpr c24
                    obtain rfl := Option.some.inj H
                    go_wp2_with (first | ((with_reducible refine gate_callee (f := 10) rfl ?_); refine goesL_ (some 18) rfl rfl Try.func10 (by kernel_rfl) rfl #[.int .i64 19, .bool false, .int .u64 a0, .int .u64 ji9] rfl (by (try simp only [List.map_toArray, List.map_cons, List.map_nil]); first | done | (simp only [hji9]; rfl) | rfl | (simp only [List.length_drop, List.length_take]; rfl)) ?_; (with_reducible refine (alu_Do.calls 19 false a0 ji9 t181 _ A10.out).mono ?_); rintro e w' ⟨rfl, ⟨nd, rfl⟩⟩; refine ⟨_, rfl, ?_⟩) | (go_at_call 10; (with_reducible refine (alu_Do.calls 16 false a0 ji9 t182 _ A15.out).mono ?_); rintro e w' ⟨rfl, ⟨nd, rfl⟩⟩) | (go_at_call 10; (with_reducible refine (alu_Do.calls 19 false a0 ji9 t183 _ A19.out).mono ?_); rintro e w' ⟨rfl, ⟨nd, rfl⟩⟩) | (go_at_call 10; (with_reducible refine (alu_Do.calls 19 false ji9 a0 t184 _ A20.out).mono ?_); rintro e w' ⟨rfl, ⟨nd, rfl⟩⟩) | (go_at_call 10; (with_reducible refine (alu_Do.calls 17 false a0 18446744073709551615 t185 _ A22.out).mono ?_); rintro e w' ⟨rfl, ⟨nd, rfl⟩⟩) | (go_at_call 10; (with_reducible refine (alu_Do.calls 17 false 18446744073709551615 a0 t186 _ A23.out).mono ?_); rintro e w' ⟨rfl, ⟨nd, rfl⟩⟩))
                    go_ret
                    exact ⟨by first | rfl | (simp; done) | (simp only [← hji7, ← hji9, ← hji11, ← hji13, ← hji17] <;> (first | rfl | simp)) | (simp [*]; done), by repeat (first | exact Drawn0.refl _ | apply Drawn0.step)⟩
                · rw [if_neg c21] at H
                  have c21b0 : (t183 == t184) = false := beq_eq_false_iff_ne.mpr c21
                  have c21b1 : (t183 != t184) = true := bne_iff_ne.mpr c21
                  obtain rfl := Option.some.inj H
                  go_wp2_with (first | ((with_reducible refine gate_callee (f := 10) rfl ?_); refine goesL_ (some 18) rfl rfl Try.func10 (by kernel_rfl) rfl #[.int .i64 19, .bool false, .int .u64 a0, .int .u64 ji9] rfl (by (try simp only [List.map_toArray, List.map_cons, List.map_nil]); first | done | (simp only [hji9]; rfl) | rfl | (simp only [List.length_drop, List.length_take]; rfl)) ?_; (with_reducible refine (alu_Do.calls 19 false a0 ji9 t181 _ A10.out).mono ?_); rintro e w' ⟨rfl, ⟨nd, rfl⟩⟩; refine ⟨_, rfl, ?_⟩) | (go_at_call 10; (with_reducible refine (alu_Do.calls 16 false a0 ji9 t182 _ A15.out).mono ?_); rintro e w' ⟨rfl, ⟨nd, rfl⟩⟩) | (go_at_call 10; (with_reducible refine (alu_Do.calls 19 false a0 ji9 t183 _ A19.out).mono ?_); rintro e w' ⟨rfl, ⟨nd, rfl⟩⟩) | (go_at_call 10; (with_reducible refine (alu_Do.calls 19 false ji9 a0 t184 _ A20.out).mono ?_); rintro e w' ⟨rfl, ⟨nd, rfl⟩⟩))
                  go_ret
                  exact ⟨by first | rfl | (simp; done) | (simp only [← hji7, ← hji9, ← hji11, ← hji13, ← hji17] <;> (first | rfl | simp)) | (simp [*]; done), by repeat (first | exact Drawn0.refl _ | apply Drawn0.step)⟩
              · rw [if_neg c18] at H
                have c18b0 : (t182 == (ji17)) = false := beq_eq_false_iff_ne.mpr c18
                have c18b1 : (t182 != (ji17)) = true := bne_iff_ne.mpr c18
                obtain rfl := Option.some.inj H
                go_wp2_with (first | ((with_reducible refine gate_callee (f := 10) rfl ?_); refine goesL_ (some 18) rfl rfl Try.func10 (by kernel_rfl) rfl #[.int .i64 19, .bool false, .int .u64 a0, .int .u64 ji9] rfl (by (try simp only [List.map_toArray, List.map_cons, List.map_nil]); first | done | (simp only [hji9]; rfl) | rfl | (simp only [List.length_drop, List.length_take]; rfl)) ?_; (with_reducible refine (alu_Do.calls 19 false a0 ji9 t181 _ A10.out).mono ?_); rintro e w' ⟨rfl, ⟨nd, rfl⟩⟩; refine ⟨_, rfl, ?_⟩) | (go_at_call 10; (with_reducible refine (alu_Do.calls 16 false a0 ji9 t182 _ A15.out).mono ?_); rintro e w' ⟨rfl, ⟨nd, rfl⟩⟩))
                go_ret
                exact ⟨by first | rfl | (simp; done) | (simp only [← hji7, ← hji9, ← hji11, ← hji13, ← hji17] <;> (first | rfl | simp)) | (simp [*]; done), by repeat (first | exact Drawn0.refl _ | apply Drawn0.step)⟩
            · rw [if_neg c14] at H
              have c14b0 : (t181 == (ji13)) = false := beq_eq_false_iff_ne.mpr c14
              have c14b1 : (t181 != (ji13)) = true := bne_iff_ne.mpr c14
              obtain rfl := Option.some.inj H
              go_wp2_with (first | ((with_reducible refine gate_callee (f := 10) rfl ?_); refine goesL_ (some 18) rfl rfl Try.func10 (by kernel_rfl) rfl #[.int .i64 19, .bool false, .int .u64 a0, .int .u64 ji9] rfl (by (try simp only [List.map_toArray, List.map_cons, List.map_nil]); first | done | (simp only [hji9]; rfl) | rfl | (simp only [List.length_drop, List.length_take]; rfl)) ?_; (with_reducible refine (alu_Do.calls 19 false a0 ji9 t181 _ A10.out).mono ?_); rintro e w' ⟨rfl, ⟨nd, rfl⟩⟩; refine ⟨_, rfl, ?_⟩))
              go_ret
              exact ⟨by first | rfl | (simp; done) | (simp only [← hji7, ← hji9, ← hji11, ← hji13] <;> (first | rfl | simp)) | (simp [*]; done), by repeat (first | exact Drawn0.refl _ | apply Drawn0.step)⟩
          · rw [if_neg c12] at H
            exact absurd H (by simp)
        · rw [if_neg c8] at H
          exact absurd H (by simp)

/-- THE ONE PURE STATEMENT of drawbridgelaw04_AluHigh: yours. -/
def drawbridgelaw04_AluHigh.Pure : Prop := ∀ (a0 : Int) (a1 : Int), (Lit.int .u64 a0).wf = true → (Lit.int .i64 a1).wf = true → ∃ k, drawbridgelaw04_AluHigh.f k a0 a1 = some true
theorem drawbridgelaw04_AluHigh.walk (P : drawbridgelaw04_AluHigh.Pure) (a0 : Int) (a1 : Int) (w : World) (w0 : (Lit.int .u64 a0).wf = true) (w1 : (Lit.int .i64 a1).wf = true) :
    Calls Try.prog 6 #[.int .u64 a0, .int .i64 a1] w fun e w' => e = .returned (.bool true) ∧ Below w.heap.size w w' := by
  obtain ⟨k, h⟩ := P a0 a1 w0 w1
  refine (drawbridgelaw04_AluHigh.calls k a0 a1 true w h).mono ?_
  rintro e w' ⟨rfl, hd⟩
  exact ⟨rfl, hd.below⟩

/-! ### drawbridgelaw04_AluTurns: function 7 -/
mutual
def drawbridgelaw04_AluTurns.j0 : Nat → Int → Int → Bool → Option (Bool)
  | 0, _, _, _ => none
  | k + 1, x0, x1, x29 => if x29 = true then (some false) else ((alu_Cond.f k 4 x0 x1).bind fun t194 => (if t194 = true then (if (true != (x0 != x1)) = true then (drawbridgelaw04_AluTurns.j1 k x0 x1 true) else ((alu_Cond.f k 0 x0 x1).bind fun t195 => (drawbridgelaw04_AluTurns.j1 k x0 x1 (t195 != (x0 == x1))))) else ((alu_Cond.f k 4 x1 x0).bind fun t196 => (if (t196 != (x0 != x1)) = true then (drawbridgelaw04_AluTurns.j1 k x0 x1 true) else ((alu_Cond.f k 0 x0 x1).bind fun t197 => (drawbridgelaw04_AluTurns.j1 k x0 x1 (t197 != (x0 == x1))))))))
def drawbridgelaw04_AluTurns.j1 : Nat → Int → Int → Bool → Option (Bool)
  | 0, _, _, _ => none
  | k + 1, x0, x1, x50 => if x50 = true then (some false) else ((alu_Amo.f 16 false x0 x1).bind fun t198 => ((alu_Amo.f 20 false x0 x1).bind fun t199 => (if (IntKind.u64.wrap (t198 + t199)) = (IntKind.u64.wrap (x0 + x1)) then ((alu_Amo.f 24 false x0 x1).bind fun t200 => ((alu_Amo.f 28 false x0 x1).bind fun t201 => (if (IntKind.u64.wrap (t200 + t201)) = (IntKind.u64.wrap (x0 + x1)) then ((drawbridgelaw04_heads.f k).bind fun t202 => (some t202)) else (some false)))) else (some false))))
end
def drawbridgelaw04_AluTurns.f (k : Nat) (a0 : Int) (a1 : Int) : Option (Bool) := (alu_Cond.f k 0 a0 a1).bind fun t188 => ((alu_Cond.f k 1 a0 a1).bind fun t189 => (if (t188 == t189) = true then (drawbridgelaw04_AluTurns.j0 k a0 a1 true) else ((alu_Cond.f k 4 a0 a1).bind fun t190 => ((alu_Cond.f k 5 a0 a1).bind fun t191 => (if (t190 == t191) = true then (drawbridgelaw04_AluTurns.j0 k a0 a1 true) else ((alu_Cond.f k 6 a0 a1).bind fun t192 => ((alu_Cond.f k 7 a0 a1).bind fun t193 => (drawbridgelaw04_AluTurns.j0 k a0 a1 (t192 == t193)))))))))
theorem drawbridgelaw04_AluTurns.mono_l : ∀ k, (∀ y0 y1 y2, LeO (drawbridgelaw04_AluTurns.j0 k y0 y1 y2) (drawbridgelaw04_AluTurns.j0 (k + 1) y0 y1 y2)) ∧ (∀ y0 y1 y2, LeO (drawbridgelaw04_AluTurns.j1 k y0 y1 y2) (drawbridgelaw04_AluTurns.j1 (k + 1) y0 y1 y2))
  | 0 => ⟨fun _ _ _ r h => by simp [drawbridgelaw04_AluTurns.j0] at h, fun _ _ _ r h => by simp [drawbridgelaw04_AluTurns.j1] at h⟩
  | k + 1 => by
    obtain ⟨ih0, ih1⟩ := drawbridgelaw04_AluTurns.mono_l k
    refine ⟨?_, ?_⟩
    · intro y0 y1 y2
      unfold drawbridgelaw04_AluTurns.j0
      repeat' first
      | (with_reducible exact ih0 _ _ _)
      | (with_reducible exact ih1 _ _ _)
      | (with_reducible exact alu_Cond.mono _ _ _ _)
      | (with_reducible exact drawbridgelaw04_heads.mono _)
      | (with_reducible exact LeO.refl _)
      | (with_reducible exact LeO.none _)
      | (with_reducible refine LeO.ite ?_ ?_)
      | (with_reducible refine LeO.bind ?_ (fun _ => ?_))
      | exact ih0 _ _ _
      | exact ih1 _ _ _
      | exact alu_Cond.mono _ _ _ _
      | exact drawbridgelaw04_heads.mono _
      | exact LeO.none _
      | refine LeO.ite ?_ ?_
      | refine LeO.bind ?_ (fun _ => ?_)
    · intro y0 y1 y2
      unfold drawbridgelaw04_AluTurns.j1
      repeat' first
      | (with_reducible exact ih0 _ _ _)
      | (with_reducible exact ih1 _ _ _)
      | (with_reducible exact alu_Cond.mono _ _ _ _)
      | (with_reducible exact drawbridgelaw04_heads.mono _)
      | (with_reducible exact LeO.refl _)
      | (with_reducible exact LeO.none _)
      | (with_reducible refine LeO.ite ?_ ?_)
      | (with_reducible refine LeO.bind ?_ (fun _ => ?_))
      | exact ih0 _ _ _
      | exact ih1 _ _ _
      | exact alu_Cond.mono _ _ _ _
      | exact drawbridgelaw04_heads.mono _
      | exact LeO.none _
      | refine LeO.ite ?_ ?_
      | refine LeO.bind ?_ (fun _ => ?_)
theorem drawbridgelaw04_AluTurns.mono : ∀ a0 a1 k, LeO (drawbridgelaw04_AluTurns.f k a0 a1) (drawbridgelaw04_AluTurns.f (k + 1) a0 a1) := by
  intro a0 a1 k
  obtain ⟨ih0, ih1⟩ := drawbridgelaw04_AluTurns.mono_l k
  unfold drawbridgelaw04_AluTurns.f
  repeat' first
      | (with_reducible exact ih0 _ _ _)
      | (with_reducible exact ih1 _ _ _)
      | (with_reducible exact alu_Cond.mono _ _ _ _)
      | (with_reducible exact drawbridgelaw04_heads.mono _)
      | (with_reducible exact LeO.refl _)
      | (with_reducible exact LeO.none _)
      | (with_reducible refine LeO.ite ?_ ?_)
      | (with_reducible refine LeO.bind ?_ (fun _ => ?_))
      | exact ih0 _ _ _
      | exact ih1 _ _ _
      | exact alu_Cond.mono _ _ _ _
      | exact drawbridgelaw04_heads.mono _
      | exact LeO.none _
      | refine LeO.ite ?_ ?_
      | refine LeO.bind ?_ (fun _ => ?_)
set_option maxHeartbeats 8000000 in
set_option maxRecDepth 100000 in
theorem drawbridgelaw04_AluTurns.calls (k : Nat) (a0 : Int) (a1 : Int) (r : Bool) (w : World) (h : drawbridgelaw04_AluTurns.f k a0 a1 = some r) :
    Calls Try.prog 7 #[.int .u64 a0, .int .u64 a1] w fun e w' => e = .returned (.bool r) ∧ Drawn0 w w' := by
  have H : ((alu_Cond.f k 0 a0 a1).bind fun t188 => ((alu_Cond.f k 1 a0 a1).bind fun t189 => (if (t188 == t189) = true then (drawbridgelaw04_AluTurns.j0 k a0 a1 true) else ((alu_Cond.f k 4 a0 a1).bind fun t190 => ((alu_Cond.f k 5 a0 a1).bind fun t191 => (if (t190 == t191) = true then (drawbridgelaw04_AluTurns.j0 k a0 a1 true) else ((alu_Cond.f k 6 a0 a1).bind fun t192 => ((alu_Cond.f k 7 a0 a1).bind fun t193 => (drawbridgelaw04_AluTurns.j0 k a0 a1 (t192 == t193)))))))))) = some r := h
  clear h
  have HC3 := Aside0.mk H
  clear H
  go_enter Try.func7, Try.ntmps7
  go_upto_region 1 with (fail)
  go_cut [29] (fun v29 wc => ∃ (kq : Nat) (x29_2 : Bool), v29 = .bool x29_2 ∧ Aside0 (drawbridgelaw04_AluTurns.j0 kq a0 a1 x29_2 = some r) ∧ Aside0 (kq ≤ k) ∧ Drawn0 w wc)
  case first =>
    have H := HC3.out
    clear HC3
    replace H := Option.bind_eq_some_iff.mp H
    obtain ⟨t188, A40, H⟩ := H
    replace H : ((alu_Cond.f k 1 a0 a1).bind fun t189 => (if (t188 == t189) = true then (drawbridgelaw04_AluTurns.j0 k a0 a1 true) else ((alu_Cond.f k 4 a0 a1).bind fun t190 => ((alu_Cond.f k 5 a0 a1).bind fun t191 => (if (t190 == t191) = true then (drawbridgelaw04_AluTurns.j0 k a0 a1 true) else ((alu_Cond.f k 6 a0 a1).bind fun t192 => ((alu_Cond.f k 7 a0 a1).bind fun t193 => (drawbridgelaw04_AluTurns.j0 k a0 a1 (t192 == t193))))))))) = some r := H
    have A4 := Aside0.mk A40
    clear A40
    replace H := Option.bind_eq_some_iff.mp H
    obtain ⟨t189, A50, H⟩ := H
    replace H : (if (t188 == t189) = true then (drawbridgelaw04_AluTurns.j0 k a0 a1 true) else ((alu_Cond.f k 4 a0 a1).bind fun t190 => ((alu_Cond.f k 5 a0 a1).bind fun t191 => (if (t190 == t191) = true then (drawbridgelaw04_AluTurns.j0 k a0 a1 true) else ((alu_Cond.f k 6 a0 a1).bind fun t192 => ((alu_Cond.f k 7 a0 a1).bind fun t193 => (drawbridgelaw04_AluTurns.j0 k a0 a1 (t192 == t193)))))))) = some r := H
    have A5 := Aside0.mk A50
    clear A50
    by_cases c6 : (t188 == t189) = true
    · rw [if_pos c6] at H
      have c6b0 : (t188 == t189) = true := c6
      (try (have c6b1 : decide (t188 = t189) = true := by simpa using c6))
      (try (have c6b2 : (t188 == t189) = true := by simpa using c6))
      clear c6
      (first | rw [c6b0] | (simp only [i64_w, i32_w]; rw [c6b0]) | skip)
      have H' := Aside0.mk H
      clear H
      go_wp2_with (first | ((with_reducible refine gate_callee (f := 12) rfl ?_); refine goesL_ (some 7) rfl rfl Try.func12 (by kernel_rfl) rfl #[.int .i64 0, .int .u64 a0, .int .u64 a1] rfl (by (try simp only [List.map_toArray, List.map_cons, List.map_nil]); first | done | rfl | (simp only [List.length_drop, List.length_take]; rfl)) ?_; (with_reducible refine (alu_Cond.calls k 0 a0 a1 t188 _ A4.out).mono ?_); rintro e w' ⟨rfl, ⟨nd, rfl⟩⟩; refine ⟨_, rfl, ?_⟩) | ((with_reducible refine gate_callee (f := 12) rfl ?_); refine goesL_ (some 10) rfl rfl Try.func12 (by kernel_rfl) rfl #[.int .i64 1, .int .u64 a0, .int .u64 a1] rfl (by (try simp only [List.map_toArray, List.map_cons, List.map_nil]); first | done | rfl | (simp only [List.length_drop, List.length_take]; rfl)) ?_; (with_reducible refine (alu_Cond.calls k 1 a0 a1 t189 _ A5.out).mono ?_); rintro e w' ⟨rfl, ⟨nd, rfl⟩⟩; refine ⟨_, rfl, ?_⟩))
      go_meet
      case rel => exact ⟨_, (true), (by first | rfl | (simp; done) | (simp [*]; done)), H', ⟨by first | omega | exact Nat.le_refl _⟩, by repeat (first | exact Drawn0.refl _ | apply Drawn0.step)⟩
    · rw [if_neg c6] at H
      have c6b0 : (t188 == t189) = false := by simpa using c6
      (try (have c6b1 : decide (t188 = t189) = false := by simpa using c6))
      (try (have c6b2 : (t188 == t189) = false := by simpa using c6))
      (try (have c6b3 : ¬ (t188 = t189) := by simpa using c6))
      clear c6
      (first | rw [c6b0] | (simp only [i64_w, i32_w]; rw [c6b0]) | skip)
      replace H := Option.bind_eq_some_iff.mp H
      obtain ⟨t190, A70, H⟩ := H
      replace H : ((alu_Cond.f k 5 a0 a1).bind fun t191 => (if (t190 == t191) = true then (drawbridgelaw04_AluTurns.j0 k a0 a1 true) else ((alu_Cond.f k 6 a0 a1).bind fun t192 => ((alu_Cond.f k 7 a0 a1).bind fun t193 => (drawbridgelaw04_AluTurns.j0 k a0 a1 (t192 == t193)))))) = some r := H
      have A7 := Aside0.mk A70
      clear A70
      replace H := Option.bind_eq_some_iff.mp H
      obtain ⟨t191, A80, H⟩ := H
      replace H : (if (t190 == t191) = true then (drawbridgelaw04_AluTurns.j0 k a0 a1 true) else ((alu_Cond.f k 6 a0 a1).bind fun t192 => ((alu_Cond.f k 7 a0 a1).bind fun t193 => (drawbridgelaw04_AluTurns.j0 k a0 a1 (t192 == t193))))) = some r := H
      have A8 := Aside0.mk A80
      clear A80
      by_cases c9 : (t190 == t191) = true
      · rw [if_pos c9] at H
        have c9b0 : (t190 == t191) = true := c9
        (try (have c9b1 : decide (t190 = t191) = true := by simpa using c9))
        (try (have c9b2 : (t190 == t191) = true := by simpa using c9))
        clear c9
        have H' := Aside0.mk H
        clear H
        go_wp2_with (first | ((with_reducible refine gate_callee (f := 12) rfl ?_); refine goesL_ (some 7) rfl rfl Try.func12 (by kernel_rfl) rfl #[.int .i64 0, .int .u64 a0, .int .u64 a1] rfl (by (try simp only [List.map_toArray, List.map_cons, List.map_nil]); first | done | rfl | (simp only [List.length_drop, List.length_take]; rfl)) ?_; (with_reducible refine (alu_Cond.calls k 0 a0 a1 t188 _ A4.out).mono ?_); rintro e w' ⟨rfl, ⟨nd, rfl⟩⟩; refine ⟨_, rfl, ?_⟩) | ((with_reducible refine gate_callee (f := 12) rfl ?_); refine goesL_ (some 10) rfl rfl Try.func12 (by kernel_rfl) rfl #[.int .i64 1, .int .u64 a0, .int .u64 a1] rfl (by (try simp only [List.map_toArray, List.map_cons, List.map_nil]); first | done | rfl | (simp only [List.length_drop, List.length_take]; rfl)) ?_; (with_reducible refine (alu_Cond.calls k 1 a0 a1 t189 _ A5.out).mono ?_); rintro e w' ⟨rfl, ⟨nd, rfl⟩⟩; refine ⟨_, rfl, ?_⟩) | (go_at_call 12; (with_reducible refine (alu_Cond.calls k 4 a0 a1 t190 _ A7.out).mono ?_); rintro e w' ⟨rfl, ⟨nd, rfl⟩⟩) | (go_at_call 12; (with_reducible refine (alu_Cond.calls k 5 a0 a1 t191 _ A8.out).mono ?_); rintro e w' ⟨rfl, ⟨nd, rfl⟩⟩))
        go_meet
        case rel => exact ⟨_, (true), (by first | rfl | (simp; done) | (simp [*]; done)), H', ⟨by first | omega | exact Nat.le_refl _⟩, by repeat (first | exact Drawn0.refl _ | apply Drawn0.step)⟩
      · rw [if_neg c9] at H
        have c9b0 : (t190 == t191) = false := by simpa using c9
        (try (have c9b1 : decide (t190 = t191) = false := by simpa using c9))
        (try (have c9b2 : (t190 == t191) = false := by simpa using c9))
        (try (have c9b3 : ¬ (t190 = t191) := by simpa using c9))
        clear c9
        replace H := Option.bind_eq_some_iff.mp H
        obtain ⟨t192, A100, H⟩ := H
        replace H : ((alu_Cond.f k 7 a0 a1).bind fun t193 => (drawbridgelaw04_AluTurns.j0 k a0 a1 (t192 == t193))) = some r := H
        have A10 := Aside0.mk A100
        clear A100
        replace H := Option.bind_eq_some_iff.mp H
        obtain ⟨t193, A110, H⟩ := H
        replace H : (drawbridgelaw04_AluTurns.j0 k a0 a1 (t192 == t193)) = some r := H
        have A11 := Aside0.mk A110
        clear A110
        have H' := Aside0.mk H
        clear H
        go_wp2_with (first | ((with_reducible refine gate_callee (f := 12) rfl ?_); refine goesL_ (some 7) rfl rfl Try.func12 (by kernel_rfl) rfl #[.int .i64 0, .int .u64 a0, .int .u64 a1] rfl (by (try simp only [List.map_toArray, List.map_cons, List.map_nil]); first | done | rfl | (simp only [List.length_drop, List.length_take]; rfl)) ?_; (with_reducible refine (alu_Cond.calls k 0 a0 a1 t188 _ A4.out).mono ?_); rintro e w' ⟨rfl, ⟨nd, rfl⟩⟩; refine ⟨_, rfl, ?_⟩) | ((with_reducible refine gate_callee (f := 12) rfl ?_); refine goesL_ (some 10) rfl rfl Try.func12 (by kernel_rfl) rfl #[.int .i64 1, .int .u64 a0, .int .u64 a1] rfl (by (try simp only [List.map_toArray, List.map_cons, List.map_nil]); first | done | rfl | (simp only [List.length_drop, List.length_take]; rfl)) ?_; (with_reducible refine (alu_Cond.calls k 1 a0 a1 t189 _ A5.out).mono ?_); rintro e w' ⟨rfl, ⟨nd, rfl⟩⟩; refine ⟨_, rfl, ?_⟩) | (go_at_call 12; (with_reducible refine (alu_Cond.calls k 4 a0 a1 t190 _ A7.out).mono ?_); rintro e w' ⟨rfl, ⟨nd, rfl⟩⟩) | (go_at_call 12; (with_reducible refine (alu_Cond.calls k 5 a0 a1 t191 _ A8.out).mono ?_); rintro e w' ⟨rfl, ⟨nd, rfl⟩⟩) | (go_at_call 12; (with_reducible refine (alu_Cond.calls k 6 a0 a1 t192 _ A10.out).mono ?_); rintro e w' ⟨rfl, ⟨nd, rfl⟩⟩) | (go_at_call 12; (with_reducible refine (alu_Cond.calls k 7 a0 a1 t193 _ A11.out).mono ?_); rintro e w' ⟨rfl, ⟨nd, rfl⟩⟩))
        go_meet
        case rel => exact ⟨_, ((t192 == t193)), (by first | rfl | (simp; done) | (simp [*]; done)), H', ⟨by first | omega | exact Nat.le_refl _⟩, by repeat (first | exact Drawn0.refl _ | apply Drawn0.step)⟩
  case rest =>
    clear HC3
    try clear c1
    try clear p2
    try clear c6
    try clear c6b0
    try clear c6b1
    try clear c6b2
    try clear c7
    try clear c9
    try clear c9b0
    try clear c9b1
    try clear c9b2
    obtain ⟨kq, x29_2, rfl, HA, HJ2, ⟨mc2, rfl⟩⟩ := hcut
    cases kq with
    | zero => exact absurd HA.out (by simp [drawbridgelaw04_AluTurns.j0])
    | succ kj2 =>
      have H := HA.out
      clear HA
      simp only [drawbridgelaw04_AluTurns.j0] at H
      by_cases c12 : x29_2 = true
      · subst c12
        have H1 : (some false) = some r := by rw [if_pos rfl] at H; exact H
        clear H
        have H := H1
        clear H1
        obtain rfl := Option.some.inj H
        go_wp2
        go_ret
        exact ⟨by first | rfl | (simp; done) | (simp [*]; done), by repeat (first | exact Drawn0.refl _ | apply Drawn0.step)⟩
      · replace c12 := Bool.eq_false_iff.mpr c12
        subst c12
        have H1 : ((alu_Cond.f kj2 4 a0 a1).bind fun t194 => (if t194 = true then (if (true != (a0 != a1)) = true then (drawbridgelaw04_AluTurns.j1 kj2 a0 a1 true) else ((alu_Cond.f kj2 0 a0 a1).bind fun t195 => (drawbridgelaw04_AluTurns.j1 kj2 a0 a1 (t195 != (a0 == a1))))) else ((alu_Cond.f kj2 4 a1 a0).bind fun t196 => (if (t196 != (a0 != a1)) = true then (drawbridgelaw04_AluTurns.j1 kj2 a0 a1 true) else ((alu_Cond.f kj2 0 a0 a1).bind fun t197 => (drawbridgelaw04_AluTurns.j1 kj2 a0 a1 (t197 != (a0 == a1)))))))) = some r := by rw [if_neg (show ¬ (false = true) by decide)] at H; exact H
        clear H
        have H := H1
        clear H1
        have HC13 := Aside0.mk H
        clear H
        go_upto_region 3 with (fail)
        go_cut [50] (fun v50 wc => ∃ (kq : Nat) (x50_12 : Bool), v50 = .bool x50_12 ∧ Aside0 (drawbridgelaw04_AluTurns.j1 kq a0 a1 x50_12 = some r) ∧ Aside0 (kq ≤ kj2) ∧ Drawn0 w wc)
        case first =>
          have H := HC13.out
          clear HC13
          replace H := Option.bind_eq_some_iff.mp H
          obtain ⟨t194, A140, H⟩ := H
          replace H : (if t194 = true then (if (true != (a0 != a1)) = true then (drawbridgelaw04_AluTurns.j1 kj2 a0 a1 true) else ((alu_Cond.f kj2 0 a0 a1).bind fun t195 => (drawbridgelaw04_AluTurns.j1 kj2 a0 a1 (t195 != (a0 == a1))))) else ((alu_Cond.f kj2 4 a1 a0).bind fun t196 => (if (t196 != (a0 != a1)) = true then (drawbridgelaw04_AluTurns.j1 kj2 a0 a1 true) else ((alu_Cond.f kj2 0 a0 a1).bind fun t197 => (drawbridgelaw04_AluTurns.j1 kj2 a0 a1 (t197 != (a0 == a1))))))) = some r := H
          have A14 := Aside0.mk A140
          clear A140
          by_cases c15 : t194 = true
          · subst c15
            have H1 : (if (true != (a0 != a1)) = true then (drawbridgelaw04_AluTurns.j1 kj2 a0 a1 true) else ((alu_Cond.f kj2 0 a0 a1).bind fun t195 => (drawbridgelaw04_AluTurns.j1 kj2 a0 a1 (t195 != (a0 == a1))))) = some r := by rw [if_pos rfl] at H; exact H
            clear H
            have H := H1
            clear H1
            by_cases c16 : (true != (a0 != a1)) = true
            · rw [if_pos c16] at H
              have c16b0 : (true != (a0 != a1)) = true := c16
              (try (have c16b1 : decide (true = (a0 != a1)) = false := by simpa using c16))
              (try (have c16b2 : (true == (a0 != a1)) = false := by simpa using c16))
              (try (have c16b3 : ¬ (true = (a0 != a1)) := by simpa using c16))
              clear c16
              (first | rw [c16b0] | (simp only [i64_w, i32_w]; rw [c16b0]) | skip)
              have H' := Aside0.mk H
              clear H
              go_wp2_with (first | ((with_reducible refine gate_callee (f := 12) rfl ?_); refine goesL_ (some 32) rfl rfl Try.func12 (by kernel_rfl) rfl #[.int .i64 4, .int .u64 a0, .int .u64 a1] rfl (by (try simp only [List.map_toArray, List.map_cons, List.map_nil]); first | done | rfl | (simp only [List.length_drop, List.length_take]; rfl)) ?_; (with_reducible refine (alu_Cond.calls kj2 4 a0 a1 true _ A14.out).mono ?_); rintro e w' ⟨rfl, ⟨nd, rfl⟩⟩; refine ⟨_, rfl, ?_⟩))
              go_meet
              case rel => exact ⟨_, (true), (by first | rfl | (simp; done) | (simp [*]; done)), H', ⟨by have := HJ2.out; first | omega | exact Nat.le_refl _⟩, by repeat (first | exact Drawn0.refl _ | apply Drawn0.step)⟩
            · rw [if_neg c16] at H
              have c16b0 : (true != (a0 != a1)) = false := by simpa using c16
              (try (have c16b1 : decide (true = (a0 != a1)) = true := by simpa using c16))
              (try (have c16b2 : (true == (a0 != a1)) = true := by simpa using c16))
              clear c16
              (first | rw [c16b0] | (simp only [i64_w, i32_w]; rw [c16b0]) | skip)
              replace H := Option.bind_eq_some_iff.mp H
              obtain ⟨t195, A170, H⟩ := H
              replace H : (drawbridgelaw04_AluTurns.j1 kj2 a0 a1 (t195 != (a0 == a1))) = some r := H
              have A17 := Aside0.mk A170
              clear A170
              have H' := Aside0.mk H
              clear H
              go_wp2_with (first | ((with_reducible refine gate_callee (f := 12) rfl ?_); refine goesL_ (some 32) rfl rfl Try.func12 (by kernel_rfl) rfl #[.int .i64 4, .int .u64 a0, .int .u64 a1] rfl (by (try simp only [List.map_toArray, List.map_cons, List.map_nil]); first | done | rfl | (simp only [List.length_drop, List.length_take]; rfl)) ?_; (with_reducible refine (alu_Cond.calls kj2 4 a0 a1 true _ A14.out).mono ?_); rintro e w' ⟨rfl, ⟨nd, rfl⟩⟩; refine ⟨_, rfl, ?_⟩) | (go_at_call 12; (with_reducible refine (alu_Cond.calls kj2 0 a0 a1 t195 _ A17.out).mono ?_); rintro e w' ⟨rfl, ⟨nd, rfl⟩⟩))
              go_meet
              case rel => exact ⟨_, ((t195 != (a0 == a1))), (by first | rfl | (simp; done) | (simp [*]; done)), H', ⟨by have := HJ2.out; first | omega | exact Nat.le_refl _⟩, by repeat (first | exact Drawn0.refl _ | apply Drawn0.step)⟩
          · replace c15 := Bool.eq_false_iff.mpr c15
            subst c15
            have H1 : ((alu_Cond.f kj2 4 a1 a0).bind fun t196 => (if (t196 != (a0 != a1)) = true then (drawbridgelaw04_AluTurns.j1 kj2 a0 a1 true) else ((alu_Cond.f kj2 0 a0 a1).bind fun t197 => (drawbridgelaw04_AluTurns.j1 kj2 a0 a1 (t197 != (a0 == a1)))))) = some r := by rw [if_neg (show ¬ (false = true) by decide)] at H; exact H
            clear H
            have H := H1
            clear H1
            replace H := Option.bind_eq_some_iff.mp H
            obtain ⟨t196, A180, H⟩ := H
            replace H : (if (t196 != (a0 != a1)) = true then (drawbridgelaw04_AluTurns.j1 kj2 a0 a1 true) else ((alu_Cond.f kj2 0 a0 a1).bind fun t197 => (drawbridgelaw04_AluTurns.j1 kj2 a0 a1 (t197 != (a0 == a1))))) = some r := H
            have A18 := Aside0.mk A180
            clear A180
            by_cases c19 : (t196 != (a0 != a1)) = true
            · rw [if_pos c19] at H
              have c19b0 : (t196 != (a0 != a1)) = true := c19
              (try (have c19b1 : decide (t196 = (a0 != a1)) = false := by simpa using c19))
              (try (have c19b2 : (t196 == (a0 != a1)) = false := by simpa using c19))
              (try (have c19b3 : ¬ (t196 = (a0 != a1)) := by simpa using c19))
              clear c19
              have H' := Aside0.mk H
              clear H
              go_wp2_with (first | ((with_reducible refine gate_callee (f := 12) rfl ?_); refine goesL_ (some 32) rfl rfl Try.func12 (by kernel_rfl) rfl #[.int .i64 4, .int .u64 a0, .int .u64 a1] rfl (by (try simp only [List.map_toArray, List.map_cons, List.map_nil]); first | done | rfl | (simp only [List.length_drop, List.length_take]; rfl)) ?_; (with_reducible refine (alu_Cond.calls kj2 4 a0 a1 false _ A14.out).mono ?_); rintro e w' ⟨rfl, ⟨nd, rfl⟩⟩; refine ⟨_, rfl, ?_⟩) | (go_at_call 12; (with_reducible refine (alu_Cond.calls kj2 4 a1 a0 t196 _ A18.out).mono ?_); rintro e w' ⟨rfl, ⟨nd, rfl⟩⟩))
              go_meet
              case rel => exact ⟨_, (true), (by first | rfl | (simp; done) | (simp [*]; done)), H', ⟨by have := HJ2.out; first | omega | exact Nat.le_refl _⟩, by repeat (first | exact Drawn0.refl _ | apply Drawn0.step)⟩
            · rw [if_neg c19] at H
              have c19b0 : (t196 != (a0 != a1)) = false := by simpa using c19
              (try (have c19b1 : decide (t196 = (a0 != a1)) = true := by simpa using c19))
              (try (have c19b2 : (t196 == (a0 != a1)) = true := by simpa using c19))
              clear c19
              replace H := Option.bind_eq_some_iff.mp H
              obtain ⟨t197, A200, H⟩ := H
              replace H : (drawbridgelaw04_AluTurns.j1 kj2 a0 a1 (t197 != (a0 == a1))) = some r := H
              have A20 := Aside0.mk A200
              clear A200
              have H' := Aside0.mk H
              clear H
              go_wp2_with (first | ((with_reducible refine gate_callee (f := 12) rfl ?_); refine goesL_ (some 32) rfl rfl Try.func12 (by kernel_rfl) rfl #[.int .i64 4, .int .u64 a0, .int .u64 a1] rfl (by (try simp only [List.map_toArray, List.map_cons, List.map_nil]); first | done | rfl | (simp only [List.length_drop, List.length_take]; rfl)) ?_; (with_reducible refine (alu_Cond.calls kj2 4 a0 a1 false _ A14.out).mono ?_); rintro e w' ⟨rfl, ⟨nd, rfl⟩⟩; refine ⟨_, rfl, ?_⟩) | (go_at_call 12; (with_reducible refine (alu_Cond.calls kj2 4 a1 a0 t196 _ A18.out).mono ?_); rintro e w' ⟨rfl, ⟨nd, rfl⟩⟩) | (go_at_call 12; (with_reducible refine (alu_Cond.calls kj2 0 a0 a1 t197 _ A20.out).mono ?_); rintro e w' ⟨rfl, ⟨nd, rfl⟩⟩))
              go_meet
              case rel => exact ⟨_, ((t197 != (a0 == a1))), (by first | rfl | (simp; done) | (simp [*]; done)), H', ⟨by have := HJ2.out; first | omega | exact Nat.le_refl _⟩, by repeat (first | exact Drawn0.refl _ | apply Drawn0.step)⟩
        case rest =>
          clear HC13
          try clear c1
          try clear c2
          try clear p2
          try clear c6
          try clear c6b0
          try clear c6b1
          try clear c6b2
          try clear c7
          try clear c9
          try clear c9b0
          try clear c9b1
          try clear c9b2
          try clear c12
          try clear c15
          try clear c16
          try clear c16b0
          try clear c16b1
          try clear c16b2
          try clear c19
          try clear c19b0
          try clear c19b1
          try clear c19b2
          try clear p2
          obtain ⟨kq, x50_12, rfl, HA, HJ12, ⟨mc12, rfl⟩⟩ := hcut
          cases kq with
          | zero => exact absurd HA.out (by simp [drawbridgelaw04_AluTurns.j1])
          | succ kj12 =>
            have H := HA.out
            clear HA
            simp only [drawbridgelaw04_AluTurns.j1] at H
            by_cases c21 : x50_12 = true
            · subst c21
              have H1 : (some false) = some r := by rw [if_pos rfl] at H; exact H
              clear H
              have H := H1
              clear H1
              obtain rfl := Option.some.inj H
              go_wp2
              go_ret
              exact ⟨by first | rfl | (simp; done) | (simp [*]; done), by repeat (first | exact Drawn0.refl _ | apply Drawn0.step)⟩
            · replace c21 := Bool.eq_false_iff.mpr c21
              subst c21
              have H1 : ((alu_Amo.f 16 false a0 a1).bind fun t198 => ((alu_Amo.f 20 false a0 a1).bind fun t199 => (if (IntKind.u64.wrap (t198 + t199)) = (IntKind.u64.wrap (a0 + a1)) then ((alu_Amo.f 24 false a0 a1).bind fun t200 => ((alu_Amo.f 28 false a0 a1).bind fun t201 => (if (IntKind.u64.wrap (t200 + t201)) = (IntKind.u64.wrap (a0 + a1)) then ((drawbridgelaw04_heads.f kj12).bind fun t202 => (some t202)) else (some false)))) else (some false)))) = some r := by rw [if_neg (show ¬ (false = true) by decide)] at H; exact H
              clear H
              have H := H1
              clear H1
              replace H := Option.bind_eq_some_iff.mp H
              obtain ⟨t198, A220, H⟩ := H
              replace H : ((alu_Amo.f 20 false a0 a1).bind fun t199 => (if (IntKind.u64.wrap (t198 + t199)) = (IntKind.u64.wrap (a0 + a1)) then ((alu_Amo.f 24 false a0 a1).bind fun t200 => ((alu_Amo.f 28 false a0 a1).bind fun t201 => (if (IntKind.u64.wrap (t200 + t201)) = (IntKind.u64.wrap (a0 + a1)) then ((drawbridgelaw04_heads.f kj12).bind fun t202 => (some t202)) else (some false)))) else (some false))) = some r := H
              have A22 := Aside0.mk A220
              clear A220
              replace H := Option.bind_eq_some_iff.mp H
              obtain ⟨t199, A230, H⟩ := H
              replace H : (if (IntKind.u64.wrap (t198 + t199)) = (IntKind.u64.wrap (a0 + a1)) then ((alu_Amo.f 24 false a0 a1).bind fun t200 => ((alu_Amo.f 28 false a0 a1).bind fun t201 => (if (IntKind.u64.wrap (t200 + t201)) = (IntKind.u64.wrap (a0 + a1)) then ((drawbridgelaw04_heads.f kj12).bind fun t202 => (some t202)) else (some false)))) else (some false)) = some r := H
              have A23 := Aside0.mk A230
              clear A230
              by_cases c24 : (IntKind.u64.wrap (t198 + t199)) = (IntKind.u64.wrap (a0 + a1))
              · rw [if_pos c24] at H
                have c24b0 : ((IntKind.u64.wrap (t198 + t199)) == (IntKind.u64.wrap (a0 + a1))) = true := beq_iff_eq.mpr c24
                have c24b1 : ((IntKind.u64.wrap (t198 + t199)) != (IntKind.u64.wrap (a0 + a1))) = false := bne_eq_false_iff_eq.mpr c24
                clear c24
                replace H := Option.bind_eq_some_iff.mp H
                obtain ⟨t200, A250, H⟩ := H
                replace H : ((alu_Amo.f 28 false a0 a1).bind fun t201 => (if (IntKind.u64.wrap (t200 + t201)) = (IntKind.u64.wrap (a0 + a1)) then ((drawbridgelaw04_heads.f kj12).bind fun t202 => (some t202)) else (some false))) = some r := H
                have A25 := Aside0.mk A250
                clear A250
                replace H := Option.bind_eq_some_iff.mp H
                obtain ⟨t201, A260, H⟩ := H
                replace H : (if (IntKind.u64.wrap (t200 + t201)) = (IntKind.u64.wrap (a0 + a1)) then ((drawbridgelaw04_heads.f kj12).bind fun t202 => (some t202)) else (some false)) = some r := H
                have A26 := Aside0.mk A260
                clear A260
                by_cases c27 : (IntKind.u64.wrap (t200 + t201)) = (IntKind.u64.wrap (a0 + a1))
                · rw [if_pos c27] at H
                  have c27b0 : ((IntKind.u64.wrap (t200 + t201)) == (IntKind.u64.wrap (a0 + a1))) = true := beq_iff_eq.mpr c27
                  have c27b1 : ((IntKind.u64.wrap (t200 + t201)) != (IntKind.u64.wrap (a0 + a1))) = false := bne_eq_false_iff_eq.mpr c27
                  clear c27
                  replace H := Option.bind_eq_some_iff.mp H
                  obtain ⟨t202, A280, H⟩ := H
                  replace H : (some t202) = some r := H
                  have A28 := Aside0.mk A280
                  clear A280
                  obtain rfl := Option.some.inj H
                  go_wp2_with (first | ((with_reducible refine gate_callee (f := 14) rfl ?_); refine goesL_ (some 53) rfl rfl Try.func14 (by kernel_rfl) rfl #[.int .i64 16, .bool false, .int .u64 a0, .int .u64 a1] rfl (by (try simp only [List.map_toArray, List.map_cons, List.map_nil]); first | done | rfl | (simp only [List.length_drop, List.length_take]; rfl)) ?_; (with_reducible refine (alu_Amo.calls 16 false a0 a1 t198 _ A22.out).mono ?_); rintro e w' ⟨rfl, ⟨nd, rfl⟩⟩; refine ⟨_, rfl, ?_⟩) | ((with_reducible refine gate_callee (f := 14) rfl ?_); refine goesL_ (some 56) rfl rfl Try.func14 (by kernel_rfl) rfl #[.int .i64 20, .bool false, .int .u64 a0, .int .u64 a1] rfl (by (try simp only [List.map_toArray, List.map_cons, List.map_nil]); first | done | rfl | (simp only [List.length_drop, List.length_take]; rfl)) ?_; (with_reducible refine (alu_Amo.calls 20 false a0 a1 t199 _ A23.out).mono ?_); rintro e w' ⟨rfl, ⟨nd, rfl⟩⟩; refine ⟨_, rfl, ?_⟩) | (go_at_call 14; (with_reducible refine (alu_Amo.calls 24 false a0 a1 t200 _ A25.out).mono ?_); rintro e w' ⟨rfl, ⟨nd, rfl⟩⟩) | (go_at_call 14; (with_reducible refine (alu_Amo.calls 28 false a0 a1 t201 _ A26.out).mono ?_); rintro e w' ⟨rfl, ⟨nd, rfl⟩⟩) | (go_at_call 9; (with_reducible refine (drawbridgelaw04_heads.calls kj12  t202 _ A28.out).mono ?_); rintro e w' ⟨rfl, ⟨nd, rfl⟩⟩))
                  go_ret
                  exact ⟨by first | rfl | (simp; done) | (simp [*]; done), by repeat (first | exact Drawn0.refl _ | apply Drawn0.step)⟩
                · rw [if_neg c27] at H
                  have c27b0 : ((IntKind.u64.wrap (t200 + t201)) == (IntKind.u64.wrap (a0 + a1))) = false := beq_eq_false_iff_ne.mpr c27
                  have c27b1 : ((IntKind.u64.wrap (t200 + t201)) != (IntKind.u64.wrap (a0 + a1))) = true := bne_iff_ne.mpr c27
                  obtain rfl := Option.some.inj H
                  go_wp2_with (first | ((with_reducible refine gate_callee (f := 14) rfl ?_); refine goesL_ (some 53) rfl rfl Try.func14 (by kernel_rfl) rfl #[.int .i64 16, .bool false, .int .u64 a0, .int .u64 a1] rfl (by (try simp only [List.map_toArray, List.map_cons, List.map_nil]); first | done | rfl | (simp only [List.length_drop, List.length_take]; rfl)) ?_; (with_reducible refine (alu_Amo.calls 16 false a0 a1 t198 _ A22.out).mono ?_); rintro e w' ⟨rfl, ⟨nd, rfl⟩⟩; refine ⟨_, rfl, ?_⟩) | ((with_reducible refine gate_callee (f := 14) rfl ?_); refine goesL_ (some 56) rfl rfl Try.func14 (by kernel_rfl) rfl #[.int .i64 20, .bool false, .int .u64 a0, .int .u64 a1] rfl (by (try simp only [List.map_toArray, List.map_cons, List.map_nil]); first | done | rfl | (simp only [List.length_drop, List.length_take]; rfl)) ?_; (with_reducible refine (alu_Amo.calls 20 false a0 a1 t199 _ A23.out).mono ?_); rintro e w' ⟨rfl, ⟨nd, rfl⟩⟩; refine ⟨_, rfl, ?_⟩) | (go_at_call 14; (with_reducible refine (alu_Amo.calls 24 false a0 a1 t200 _ A25.out).mono ?_); rintro e w' ⟨rfl, ⟨nd, rfl⟩⟩) | (go_at_call 14; (with_reducible refine (alu_Amo.calls 28 false a0 a1 t201 _ A26.out).mono ?_); rintro e w' ⟨rfl, ⟨nd, rfl⟩⟩))
                  go_ret
                  exact ⟨by first | rfl | (simp; done) | (simp [*]; done), by repeat (first | exact Drawn0.refl _ | apply Drawn0.step)⟩
              · rw [if_neg c24] at H
                have c24b0 : ((IntKind.u64.wrap (t198 + t199)) == (IntKind.u64.wrap (a0 + a1))) = false := beq_eq_false_iff_ne.mpr c24
                have c24b1 : ((IntKind.u64.wrap (t198 + t199)) != (IntKind.u64.wrap (a0 + a1))) = true := bne_iff_ne.mpr c24
                obtain rfl := Option.some.inj H
                go_wp2_with (first | ((with_reducible refine gate_callee (f := 14) rfl ?_); refine goesL_ (some 53) rfl rfl Try.func14 (by kernel_rfl) rfl #[.int .i64 16, .bool false, .int .u64 a0, .int .u64 a1] rfl (by (try simp only [List.map_toArray, List.map_cons, List.map_nil]); first | done | rfl | (simp only [List.length_drop, List.length_take]; rfl)) ?_; (with_reducible refine (alu_Amo.calls 16 false a0 a1 t198 _ A22.out).mono ?_); rintro e w' ⟨rfl, ⟨nd, rfl⟩⟩; refine ⟨_, rfl, ?_⟩) | ((with_reducible refine gate_callee (f := 14) rfl ?_); refine goesL_ (some 56) rfl rfl Try.func14 (by kernel_rfl) rfl #[.int .i64 20, .bool false, .int .u64 a0, .int .u64 a1] rfl (by (try simp only [List.map_toArray, List.map_cons, List.map_nil]); first | done | rfl | (simp only [List.length_drop, List.length_take]; rfl)) ?_; (with_reducible refine (alu_Amo.calls 20 false a0 a1 t199 _ A23.out).mono ?_); rintro e w' ⟨rfl, ⟨nd, rfl⟩⟩; refine ⟨_, rfl, ?_⟩))
                go_ret
                exact ⟨by first | rfl | (simp; done) | (simp [*]; done), by repeat (first | exact Drawn0.refl _ | apply Drawn0.step)⟩

/-- THE ONE PURE STATEMENT of drawbridgelaw04_AluTurns: yours. -/
def drawbridgelaw04_AluTurns.Pure : Prop := ∀ (a0 : Int) (a1 : Int), (Lit.int .u64 a0).wf = true → (Lit.int .u64 a1).wf = true → ∃ k, drawbridgelaw04_AluTurns.f k a0 a1 = some true
theorem drawbridgelaw04_AluTurns.walk (P : drawbridgelaw04_AluTurns.Pure) (a0 : Int) (a1 : Int) (w : World) (w0 : (Lit.int .u64 a0).wf = true) (w1 : (Lit.int .u64 a1).wf = true) :
    Calls Try.prog 7 #[.int .u64 a0, .int .u64 a1] w fun e w' => e = .returned (.bool true) ∧ Below w.heap.size w w' := by
  obtain ⟨k, h⟩ := P a0 a1 w0 w1
  refine (drawbridgelaw04_AluTurns.calls k a0 a1 true w h).mono ?_
  rintro e w' ⟨rfl, hd⟩
  exact ⟨rfl, hd.below⟩

/-! ### drawbridgelaw04_AluWords: function 8 -/
def drawbridgelaw04_AluWords.f (k : Nat) (a0 : Int) (a1 : Int) (a2 : Int) (a3 : Int) (a4 : Int) : Option (Bool) := (alu_Do.f a0 true (Int.tmod a1 4294967296) (Int.tmod a2 4294967296)).bind fun t203 => ((alu_Do.f a0 true (Go.bits .or .u64 (Int.tmod a1 4294967296) (IntKind.u64.wrap (a3 * 4294967296))) (Go.bits .or .u64 (Int.tmod a2 4294967296) (IntKind.u64.wrap (a4 * 4294967296)))).bind fun t204 => (if t204 = t203 then (if t203 < 2147483648 then ((drawbridgelaw04_heads.f k).bind fun t205 => (some t205)) else (if t203 ≥ 18446744071562067968 then ((drawbridgelaw04_heads.f k).bind fun t206 => (some t206)) else (some false))) else (some false)))
theorem drawbridgelaw04_AluWords.mono : ∀ a0 a1 a2 a3 a4 k, LeO (drawbridgelaw04_AluWords.f k a0 a1 a2 a3 a4) (drawbridgelaw04_AluWords.f (k + 1) a0 a1 a2 a3 a4) := by
  intro a0 a1 a2 a3 a4 k
  unfold drawbridgelaw04_AluWords.f
  repeat' first
      | (with_reducible exact drawbridgelaw04_heads.mono _)
      | (with_reducible exact LeO.refl _)
      | (with_reducible exact LeO.none _)
      | (with_reducible refine LeO.ite ?_ ?_)
      | (with_reducible refine LeO.bind ?_ (fun _ => ?_))
      | exact drawbridgelaw04_heads.mono _
      | exact LeO.none _
      | refine LeO.ite ?_ ?_
      | refine LeO.bind ?_ (fun _ => ?_)
set_option maxHeartbeats 8000000 in
set_option maxRecDepth 100000 in
theorem drawbridgelaw04_AluWords.calls (k : Nat) (a0 : Int) (a1 : Int) (a2 : Int) (a3 : Int) (a4 : Int) (r : Bool) (w : World) (h : drawbridgelaw04_AluWords.f k a0 a1 a2 a3 a4 = some r) :
    Calls Try.prog 8 #[.int .i64 a0, .int .u64 a1, .int .u64 a2, .int .u64 a3, .int .u64 a4] w fun e w' => e = .returned (.bool r) ∧ Drawn0 w w' := by
  have H : ((alu_Do.f a0 true (Int.tmod a1 4294967296) (Int.tmod a2 4294967296)).bind fun t203 => ((alu_Do.f a0 true (Go.bits .or .u64 (Int.tmod a1 4294967296) (IntKind.u64.wrap (a3 * 4294967296))) (Go.bits .or .u64 (Int.tmod a2 4294967296) (IntKind.u64.wrap (a4 * 4294967296)))).bind fun t204 => (if t204 = t203 then (if t203 < 2147483648 then ((drawbridgelaw04_heads.f k).bind fun t205 => (some t205)) else (if t203 ≥ 18446744071562067968 then ((drawbridgelaw04_heads.f k).bind fun t206 => (some t206)) else (some false))) else (some false)))) = some r := h
  clear h
  replace H := Option.bind_eq_some_iff.mp H
  obtain ⟨t203, A60, H⟩ := H
  replace H : ((alu_Do.f a0 true (Go.bits .or .u64 (Int.tmod a1 4294967296) (IntKind.u64.wrap (a3 * 4294967296))) (Go.bits .or .u64 (Int.tmod a2 4294967296) (IntKind.u64.wrap (a4 * 4294967296)))).bind fun t204 => (if t204 = t203 then (if t203 < 2147483648 then ((drawbridgelaw04_heads.f k).bind fun t205 => (some t205)) else (if t203 ≥ 18446744071562067968 then ((drawbridgelaw04_heads.f k).bind fun t206 => (some t206)) else (some false))) else (some false))) = some r := H
  have A6 := Aside0.mk A60
  clear A60
  replace H := Option.bind_eq_some_iff.mp H
  obtain ⟨t204, A70, H⟩ := H
  replace H : (if t204 = t203 then (if t203 < 2147483648 then ((drawbridgelaw04_heads.f k).bind fun t205 => (some t205)) else (if t203 ≥ 18446744071562067968 then ((drawbridgelaw04_heads.f k).bind fun t206 => (some t206)) else (some false))) else (some false)) = some r := H
  have A7 := Aside0.mk A70
  clear A70
  by_cases c8 : t204 = t203
  · rw [if_pos c8] at H
    have c8b0 : (t204 == t203) = true := beq_iff_eq.mpr c8
    have c8b1 : (t204 != t203) = false := bne_eq_false_iff_eq.mpr c8
    clear c8
    by_cases c9 : t203 < 2147483648
    · rw [if_pos c9] at H
      have c9b0 : decide (t203 < 2147483648) = true := decide_eq_true c9
      clear c9
      replace H := Option.bind_eq_some_iff.mp H
      obtain ⟨t205, A100, H⟩ := H
      replace H : (some t205) = some r := H
      have A10 := Aside0.mk A100
      clear A100
      obtain rfl := Option.some.inj H
      go_enter Try.func8, Try.ntmps8
      go_wp2_with (first | ((with_reducible refine gate_callee (f := 10) rfl ?_); refine goesL_ (some 17) rfl rfl Try.func10 (by kernel_rfl) rfl #[.int .i64 a0, .bool true, .int .u64 (Int.tmod a1 4294967296), .int .u64 (Int.tmod a2 4294967296)] rfl (by (try simp only [List.map_toArray, List.map_cons, List.map_nil]); first | done | rfl | (simp only [List.length_drop, List.length_take]; rfl)) ?_; (with_reducible refine (alu_Do.calls a0 true (Int.tmod a1 4294967296) (Int.tmod a2 4294967296) t203 _ A6.out).mono ?_); rintro e w' ⟨rfl, ⟨nd, rfl⟩⟩; refine ⟨_, rfl, ?_⟩) | ((with_reducible refine gate_callee (f := 10) rfl ?_); refine goesL_ (some 29) rfl rfl Try.func10 (by kernel_rfl) rfl #[.int .i64 a0, .bool true, .int .u64 (Go.bits .or .u64 (Int.tmod a1 4294967296) (IntKind.u64.wrap (a3 * 4294967296))), .int .u64 (Go.bits .or .u64 (Int.tmod a2 4294967296) (IntKind.u64.wrap (a4 * 4294967296)))] rfl (by (try simp only [List.map_toArray, List.map_cons, List.map_nil]); first | done | rfl | (simp only [List.length_drop, List.length_take]; rfl)) ?_; (with_reducible refine (alu_Do.calls a0 true (Go.bits .or .u64 (Int.tmod a1 4294967296) (IntKind.u64.wrap (a3 * 4294967296))) (Go.bits .or .u64 (Int.tmod a2 4294967296) (IntKind.u64.wrap (a4 * 4294967296))) t204 _ A7.out).mono ?_); rintro e w' ⟨rfl, ⟨nd, rfl⟩⟩; refine ⟨_, rfl, ?_⟩) | (go_at_call 9; (with_reducible refine (drawbridgelaw04_heads.calls k  t205 _ A10.out).mono ?_); rintro e w' ⟨rfl, ⟨nd, rfl⟩⟩))
      go_ret
      exact ⟨by first | rfl | (simp; done) | (simp [*]; done), by repeat (first | exact Drawn0.refl _ | apply Drawn0.step)⟩
    · rw [if_neg c9] at H
      have c9b0 : decide (t203 < 2147483648) = false := decide_eq_false c9
      clear c9
      by_cases c11 : t203 ≥ 18446744071562067968
      · rw [if_pos c11] at H
        have c11b0 : decide (18446744071562067968 ≤ t203) = true := decide_eq_true c11
        clear c11
        replace H := Option.bind_eq_some_iff.mp H
        obtain ⟨t206, A120, H⟩ := H
        replace H : (some t206) = some r := H
        have A12 := Aside0.mk A120
        clear A120
        obtain rfl := Option.some.inj H
        go_enter Try.func8, Try.ntmps8
        go_wp2_with (first | ((with_reducible refine gate_callee (f := 10) rfl ?_); refine goesL_ (some 17) rfl rfl Try.func10 (by kernel_rfl) rfl #[.int .i64 a0, .bool true, .int .u64 (Int.tmod a1 4294967296), .int .u64 (Int.tmod a2 4294967296)] rfl (by (try simp only [List.map_toArray, List.map_cons, List.map_nil]); first | done | rfl | (simp only [List.length_drop, List.length_take]; rfl)) ?_; (with_reducible refine (alu_Do.calls a0 true (Int.tmod a1 4294967296) (Int.tmod a2 4294967296) t203 _ A6.out).mono ?_); rintro e w' ⟨rfl, ⟨nd, rfl⟩⟩; refine ⟨_, rfl, ?_⟩) | ((with_reducible refine gate_callee (f := 10) rfl ?_); refine goesL_ (some 29) rfl rfl Try.func10 (by kernel_rfl) rfl #[.int .i64 a0, .bool true, .int .u64 (Go.bits .or .u64 (Int.tmod a1 4294967296) (IntKind.u64.wrap (a3 * 4294967296))), .int .u64 (Go.bits .or .u64 (Int.tmod a2 4294967296) (IntKind.u64.wrap (a4 * 4294967296)))] rfl (by (try simp only [List.map_toArray, List.map_cons, List.map_nil]); first | done | rfl | (simp only [List.length_drop, List.length_take]; rfl)) ?_; (with_reducible refine (alu_Do.calls a0 true (Go.bits .or .u64 (Int.tmod a1 4294967296) (IntKind.u64.wrap (a3 * 4294967296))) (Go.bits .or .u64 (Int.tmod a2 4294967296) (IntKind.u64.wrap (a4 * 4294967296))) t204 _ A7.out).mono ?_); rintro e w' ⟨rfl, ⟨nd, rfl⟩⟩; refine ⟨_, rfl, ?_⟩) | (go_at_call 9; (with_reducible refine (drawbridgelaw04_heads.calls k  t206 _ A12.out).mono ?_); rintro e w' ⟨rfl, ⟨nd, rfl⟩⟩))
        go_ret
        exact ⟨by first | rfl | (simp; done) | (simp [*]; done), by repeat (first | exact Drawn0.refl _ | apply Drawn0.step)⟩
      · rw [if_neg c11] at H
        have c11b0 : decide (18446744071562067968 ≤ t203) = false := decide_eq_false c11
        clear c11
        obtain rfl := Option.some.inj H
        go_enter Try.func8, Try.ntmps8
        go_wp2_with (first | ((with_reducible refine gate_callee (f := 10) rfl ?_); refine goesL_ (some 17) rfl rfl Try.func10 (by kernel_rfl) rfl #[.int .i64 a0, .bool true, .int .u64 (Int.tmod a1 4294967296), .int .u64 (Int.tmod a2 4294967296)] rfl (by (try simp only [List.map_toArray, List.map_cons, List.map_nil]); first | done | rfl | (simp only [List.length_drop, List.length_take]; rfl)) ?_; (with_reducible refine (alu_Do.calls a0 true (Int.tmod a1 4294967296) (Int.tmod a2 4294967296) t203 _ A6.out).mono ?_); rintro e w' ⟨rfl, ⟨nd, rfl⟩⟩; refine ⟨_, rfl, ?_⟩) | ((with_reducible refine gate_callee (f := 10) rfl ?_); refine goesL_ (some 29) rfl rfl Try.func10 (by kernel_rfl) rfl #[.int .i64 a0, .bool true, .int .u64 (Go.bits .or .u64 (Int.tmod a1 4294967296) (IntKind.u64.wrap (a3 * 4294967296))), .int .u64 (Go.bits .or .u64 (Int.tmod a2 4294967296) (IntKind.u64.wrap (a4 * 4294967296)))] rfl (by (try simp only [List.map_toArray, List.map_cons, List.map_nil]); first | done | rfl | (simp only [List.length_drop, List.length_take]; rfl)) ?_; (with_reducible refine (alu_Do.calls a0 true (Go.bits .or .u64 (Int.tmod a1 4294967296) (IntKind.u64.wrap (a3 * 4294967296))) (Go.bits .or .u64 (Int.tmod a2 4294967296) (IntKind.u64.wrap (a4 * 4294967296))) t204 _ A7.out).mono ?_); rintro e w' ⟨rfl, ⟨nd, rfl⟩⟩; refine ⟨_, rfl, ?_⟩))
        go_ret
        exact ⟨by first | rfl | (simp; done) | (simp [*]; done), by repeat (first | exact Drawn0.refl _ | apply Drawn0.step)⟩
  · rw [if_neg c8] at H
    have c8b0 : (t204 == t203) = false := beq_eq_false_iff_ne.mpr c8
    have c8b1 : (t204 != t203) = true := bne_iff_ne.mpr c8
    obtain rfl := Option.some.inj H
    go_enter Try.func8, Try.ntmps8
    go_wp2_with (first | ((with_reducible refine gate_callee (f := 10) rfl ?_); refine goesL_ (some 17) rfl rfl Try.func10 (by kernel_rfl) rfl #[.int .i64 a0, .bool true, .int .u64 (Int.tmod a1 4294967296), .int .u64 (Int.tmod a2 4294967296)] rfl (by (try simp only [List.map_toArray, List.map_cons, List.map_nil]); first | done | rfl | (simp only [List.length_drop, List.length_take]; rfl)) ?_; (with_reducible refine (alu_Do.calls a0 true (Int.tmod a1 4294967296) (Int.tmod a2 4294967296) t203 _ A6.out).mono ?_); rintro e w' ⟨rfl, ⟨nd, rfl⟩⟩; refine ⟨_, rfl, ?_⟩) | ((with_reducible refine gate_callee (f := 10) rfl ?_); refine goesL_ (some 29) rfl rfl Try.func10 (by kernel_rfl) rfl #[.int .i64 a0, .bool true, .int .u64 (Go.bits .or .u64 (Int.tmod a1 4294967296) (IntKind.u64.wrap (a3 * 4294967296))), .int .u64 (Go.bits .or .u64 (Int.tmod a2 4294967296) (IntKind.u64.wrap (a4 * 4294967296)))] rfl (by (try simp only [List.map_toArray, List.map_cons, List.map_nil]); first | done | rfl | (simp only [List.length_drop, List.length_take]; rfl)) ?_; (with_reducible refine (alu_Do.calls a0 true (Go.bits .or .u64 (Int.tmod a1 4294967296) (IntKind.u64.wrap (a3 * 4294967296))) (Go.bits .or .u64 (Int.tmod a2 4294967296) (IntKind.u64.wrap (a4 * 4294967296))) t204 _ A7.out).mono ?_); rintro e w' ⟨rfl, ⟨nd, rfl⟩⟩; refine ⟨_, rfl, ?_⟩))
    go_ret
    exact ⟨by first | rfl | (simp; done) | (simp [*]; done), by repeat (first | exact Drawn0.refl _ | apply Drawn0.step)⟩

/-- THE ONE PURE STATEMENT of drawbridgelaw04_AluWords: yours. -/
def drawbridgelaw04_AluWords.Pure : Prop := ∀ (a0 : Int) (a1 : Int) (a2 : Int) (a3 : Int) (a4 : Int), (Lit.int .i64 a0).wf = true → (Lit.int .u64 a1).wf = true → (Lit.int .u64 a2).wf = true → (Lit.int .u64 a3).wf = true → (Lit.int .u64 a4).wf = true → ∃ k, drawbridgelaw04_AluWords.f k a0 a1 a2 a3 a4 = some true
theorem drawbridgelaw04_AluWords.walk (P : drawbridgelaw04_AluWords.Pure) (a0 : Int) (a1 : Int) (a2 : Int) (a3 : Int) (a4 : Int) (w : World) (w0 : (Lit.int .i64 a0).wf = true) (w1 : (Lit.int .u64 a1).wf = true) (w2 : (Lit.int .u64 a2).wf = true) (w3 : (Lit.int .u64 a3).wf = true) (w4 : (Lit.int .u64 a4).wf = true) :
    Calls Try.prog 8 #[.int .i64 a0, .int .u64 a1, .int .u64 a2, .int .u64 a3, .int .u64 a4] w fun e w' => e = .returned (.bool true) ∧ Below w.heap.size w w' := by
  obtain ⟨k, h⟩ := P a0 a1 a2 a3 a4 w0 w1 w2 w3 w4
  refine (drawbridgelaw04_AluWords.calls k a0 a1 a2 a3 a4 true w h).mono ?_
  rintro e w' ⟨rfl, hd⟩
  exact ⟨rfl, hd.below⟩

end Go.Proofs.Ytielecanhammbaa.Q
