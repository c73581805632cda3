import Derived.Test.YtgcpedenlbcdgaaHZ6
/- Layer 3, plain facts: what was taken apart is put together. -/
set_option linter.unusedVariables false
set_option linter.unusedSimpArgs false
namespace Go.Proofs.Ytgcpedenlbcdgaa.Q
open Go.RowKit Go.Proofs.YtgcpedenlbcdgaaW.PrintWords Go.Proofs.YtgcpedenlbcdgaaW.PrintLast Go.Proofs.YtgcpedenlbcdgaaW.PrintMore Go.Proofs.Ytgcpedenlbcdgaa.L
theorem fB (x h l : Int) (hx : u32B x) (n : Nat) (h0 : 0 ≤ l) (h1 : l ≤ h) (h2 : h ≤ 63) (hn : (h - l + 1).toNat = n) (hm : n ≤ 5) : 0 ≤ fieldZ x h l ∧ fieldZ x h l ≤ 31 := by
  have hb := fieldZ_B x h l hx n h0 h1 h2 hn
  have : (2 : Int) ^ n ≤ 2 ^ 5 := two_pow_mono hm
  exact ⟨hb.1, by have := hb.2; omega⟩
theorem regs_of {c f : Int} {b : Bool} {rd r1 r2 m : Int} (h0 : 0 ≤ rd ∧ rd ≤ 31) (h1 : 0 ≤ r1 ∧ r1 ≤ 31) (h2 : 0 ≤ r2 ∧ r2 ≤ 31) : regs ⟨c, f, b, rd, r1, r2, m⟩ := ⟨h0, h1, h2⟩
/-- What is put together again. -/
def Back (x : Int) : Prop := regs (takeI x) ∧ (takeK (wordV (takeI x)) = true ∧ takeI (wordV (takeI x)) = takeI x) ∧ (wordV (takeI x) = x ∨ (takeI x).c = 10 ∨ (takeI x).c = 13)
theorem back_same {x : Int} (hk : takeK x = true) (hr : regs (takeI x)) (h : wordV (takeI x) = x) : Back x := ⟨hr, by rw [h]; exact ⟨hk, rfl⟩, .inl h⟩
section
variable (x : Int) (hx : u32B x)
include hx
theorem back55 (o : fieldZ x 6 0 = 55) (hk : takeK x = true) : Back x := by
  have r_d := fB x 11 7 hx 5 (by decide) (by decide) (by decide) rfl (by decide)
  have r_1 := fB x 19 15 hx 5 (by decide) (by decide) (by decide) rfl (by decide)
  have r_2 := fB x 24 20 hx 5 (by decide) (by decide) (by decide) rfl (by decide)
  have r_z : (0 : Int) ≤ 0 ∧ (0 : Int) ≤ 31 := ⟨by decide, by decide⟩
  obtain ⟨ei, ek⟩ := at55 x o
  refine back_same hk ?_ ?_
  · rw [ei]; exact regs_of (by first | exact r_d | exact r_1 | exact r_2 | exact r_z) (by first | exact r_d | exact r_1 | exact r_2 | exact r_z) (by first | exact r_d | exact r_1 | exact r_2 | exact r_z)
  · rw [ei]; exact w55 x hx o
theorem back23 (o : fieldZ x 6 0 = 23) (hk : takeK x = true) : Back x := by
  have r_d := fB x 11 7 hx 5 (by decide) (by decide) (by decide) rfl (by decide)
  have r_1 := fB x 19 15 hx 5 (by decide) (by decide) (by decide) rfl (by decide)
  have r_2 := fB x 24 20 hx 5 (by decide) (by decide) (by decide) rfl (by decide)
  have r_z : (0 : Int) ≤ 0 ∧ (0 : Int) ≤ 31 := ⟨by decide, by decide⟩
  obtain ⟨ei, ek⟩ := at23 x o
  refine back_same hk ?_ ?_
  · rw [ei]; exact regs_of (by first | exact r_d | exact r_1 | exact r_2 | exact r_z) (by first | exact r_d | exact r_1 | exact r_2 | exact r_z) (by first | exact r_d | exact r_1 | exact r_2 | exact r_z)
  · rw [ei]; exact w23 x hx o
theorem back111 (o : fieldZ x 6 0 = 111) (hk : takeK x = true) : Back x := by
  have r_d := fB x 11 7 hx 5 (by decide) (by decide) (by decide) rfl (by decide)
  have r_1 := fB x 19 15 hx 5 (by decide) (by decide) (by decide) rfl (by decide)
  have r_2 := fB x 24 20 hx 5 (by decide) (by decide) (by decide) rfl (by decide)
  have r_z : (0 : Int) ≤ 0 ∧ (0 : Int) ≤ 31 := ⟨by decide, by decide⟩
  obtain ⟨ei, ek⟩ := at111 x o
  refine back_same hk ?_ ?_
  · rw [ei]; exact regs_of (by first | exact r_d | exact r_1 | exact r_2 | exact r_z) (by first | exact r_d | exact r_1 | exact r_2 | exact r_z) (by first | exact r_d | exact r_1 | exact r_2 | exact r_z)
  · rw [ei]; exact w111 x hx o
theorem back99 (o : fieldZ x 6 0 = 99) (hk : takeK x = true) : Back x := by
  have r_d := fB x 11 7 hx 5 (by decide) (by decide) (by decide) rfl (by decide)
  have r_1 := fB x 19 15 hx 5 (by decide) (by decide) (by decide) rfl (by decide)
  have r_2 := fB x 24 20 hx 5 (by decide) (by decide) (by decide) rfl (by decide)
  have r_z : (0 : Int) ≤ 0 ∧ (0 : Int) ≤ 31 := ⟨by decide, by decide⟩
  obtain ⟨ei, ek⟩ := at99 x o
  refine back_same hk ?_ ?_
  · rw [ei]; exact regs_of (by first | exact r_d | exact r_1 | exact r_2 | exact r_z) (by first | exact r_d | exact r_1 | exact r_2 | exact r_z) (by first | exact r_d | exact r_1 | exact r_2 | exact r_z)
  · rw [ei]; exact w99 x hx o
theorem back3 (o : fieldZ x 6 0 = 3) (hk : takeK x = true) : Back x := by
  have r_d := fB x 11 7 hx 5 (by decide) (by decide) (by decide) rfl (by decide)
  have r_1 := fB x 19 15 hx 5 (by decide) (by decide) (by decide) rfl (by decide)
  have r_2 := fB x 24 20 hx 5 (by decide) (by decide) (by decide) rfl (by decide)
  have r_z : (0 : Int) ≤ 0 ∧ (0 : Int) ≤ 31 := ⟨by decide, by decide⟩
  obtain ⟨ei, ek⟩ := at3 x o
  refine back_same hk ?_ ?_
  · rw [ei]; exact regs_of (by first | exact r_d | exact r_1 | exact r_2 | exact r_z) (by first | exact r_d | exact r_1 | exact r_2 | exact r_z) (by first | exact r_d | exact r_1 | exact r_2 | exact r_z)
  · rw [ei]; exact w3 x hx o
theorem back35 (o : fieldZ x 6 0 = 35) (hk : takeK x = true) : Back x := by
  have r_d := fB x 11 7 hx 5 (by decide) (by decide) (by decide) rfl (by decide)
  have r_1 := fB x 19 15 hx 5 (by decide) (by decide) (by decide) rfl (by decide)
  have r_2 := fB x 24 20 hx 5 (by decide) (by decide) (by decide) rfl (by decide)
  have r_z : (0 : Int) ≤ 0 ∧ (0 : Int) ≤ 31 := ⟨by decide, by decide⟩
  obtain ⟨ei, ek⟩ := at35 x o
  refine back_same hk ?_ ?_
  · rw [ei]; exact regs_of (by first | exact r_d | exact r_1 | exact r_2 | exact r_z) (by first | exact r_d | exact r_1 | exact r_2 | exact r_z) (by first | exact r_d | exact r_1 | exact r_2 | exact r_z)
  · rw [ei]; exact w35 x hx o
theorem back103 (o : fieldZ x 6 0 = 103) (hk : takeK x = true) : Back x := by
  have r_d := fB x 11 7 hx 5 (by decide) (by decide) (by decide) rfl (by decide)
  have r_1 := fB x 19 15 hx 5 (by decide) (by decide) (by decide) rfl (by decide)
  have r_2 := fB x 24 20 hx 5 (by decide) (by decide) (by decide) rfl (by decide)
  have r_z : (0 : Int) ≤ 0 ∧ (0 : Int) ≤ 31 := ⟨by decide, by decide⟩
  obtain ⟨ei, ek⟩ := at103 x o
  refine back_same hk ?_ ?_
  · rw [ei]; exact regs_of (by first | exact r_d | exact r_1 | exact r_2 | exact r_z) (by first | exact r_d | exact r_1 | exact r_2 | exact r_z) (by first | exact r_d | exact r_1 | exact r_2 | exact r_z)
  · rw [ei]; rw [ek] at hk; exact w103 x hx o (eq_of_beq hk)
theorem back19 (o : fieldZ x 6 0 = 19) (hk : takeK x = true) : Back x := by
  have r_d := fB x 11 7 hx 5 (by decide) (by decide) (by decide) rfl (by decide)
  have r_1 := fB x 19 15 hx 5 (by decide) (by decide) (by decide) rfl (by decide)
  have r_2 := fB x 24 20 hx 5 (by decide) (by decide) (by decide) rfl (by decide)
  have r_z : (0 : Int) ≤ 0 ∧ (0 : Int) ≤ 31 := ⟨by decide, by decide⟩
  obtain ⟨ei, ek⟩ := at19 x o
  have hk0 := hk
  rw [ek] at hk
  cases hs : (fieldZ x 14 12 == 1 || fieldZ x 14 12 == 5) with
  | false =>
    rw [hs] at ei
    refine back_same hk0 ?_ ?_
    · rw [ei]; exact regs_of (by first | exact r_d | exact r_1 | exact r_2 | exact r_z) (by first | exact r_d | exact r_1 | exact r_2 | exact r_z) (by first | exact r_d | exact r_1 | exact r_2 | exact r_z)
    · rw [ei]; exact w19c x hx o
  | true =>
    rw [hs] at ei hk
    have ei' : takeI x = (⟨8, shiftF x (fieldZ x 14 12) false, false, (fieldZ x 11 7), (fieldZ x 19 15), 0, fieldZ x 25 20⟩ : Ins) := ei
    have hk' : shiftK x (fieldZ x 14 12) false = true := hk
    refine back_same hk0 ?_ ?_
    · rw [ei']; exact regs_of (by first | exact r_d | exact r_1 | exact r_2 | exact r_z) (by first | exact r_d | exact r_1 | exact r_2 | exact r_z) (by first | exact r_d | exact r_1 | exact r_2 | exact r_z)
    · rw [ei']
      have eF : shiftF x (fieldZ x 14 12) false = if (fieldZ x 14 12) == 5 then (if (fieldZ x 31 26) == 16 then 13 else (fieldZ x 14 12)) else (fieldZ x 14 12) := rfl
      have eK : shiftK x (fieldZ x 14 12) false = if (fieldZ x 14 12) == 5 then (if (fieldZ x 31 26) == 16 then true else (fieldZ x 31 26) == 0) else (fieldZ x 31 26) == 0 := rfl
      rw [eF]
      rw [eK] at hk'
      cases h5 : (fieldZ x 14 12) == 5
      · rw [h5] at hk'
        exact w19z x hx o (eq_of_beq hk')
      · rw [h5] at hk'
        cases hh : (fieldZ x 31 26) == 16
        · rw [hh] at hk'; exact w19z x hx o (eq_of_beq hk')
        · exact w19s x hx o (eq_of_beq h5) (eq_of_beq hh)
theorem back27 (o : fieldZ x 6 0 = 27) (hk : takeK x = true) : Back x := by
  have r_d := fB x 11 7 hx 5 (by decide) (by decide) (by decide) rfl (by decide)
  have r_1 := fB x 19 15 hx 5 (by decide) (by decide) (by decide) rfl (by decide)
  have r_2 := fB x 24 20 hx 5 (by decide) (by decide) (by decide) rfl (by decide)
  have r_z : (0 : Int) ≤ 0 ∧ (0 : Int) ≤ 31 := ⟨by decide, by decide⟩
  obtain ⟨ei, ek⟩ := at27 x o
  have hk0 := hk
  rw [ek] at hk
  cases hs : (fieldZ x 14 12 == 1 || fieldZ x 14 12 == 5) with
  | false =>
    rw [hs] at ei
    refine back_same hk0 ?_ ?_
    · rw [ei]; exact regs_of (by first | exact r_d | exact r_1 | exact r_2 | exact r_z) (by first | exact r_d | exact r_1 | exact r_2 | exact r_z) (by first | exact r_d | exact r_1 | exact r_2 | exact r_z)
    · rw [ei]; exact w27c x hx o
  | true =>
    rw [hs] at ei hk
    have ei' : takeI x = (⟨8, shiftF x (fieldZ x 14 12) true, true, (fieldZ x 11 7), (fieldZ x 19 15), 0, fieldZ x 24 20⟩ : Ins) := ei
    have hk' : shiftK x (fieldZ x 14 12) true = true := hk
    refine back_same hk0 ?_ ?_
    · rw [ei']; exact regs_of (by first | exact r_d | exact r_1 | exact r_2 | exact r_z) (by first | exact r_d | exact r_1 | exact r_2 | exact r_z) (by first | exact r_d | exact r_1 | exact r_2 | exact r_z)
    · rw [ei']
      have eF : shiftF x (fieldZ x 14 12) true = if (fieldZ x 14 12) == 5 then (if (fieldZ x 31 25) == 32 then 13 else (fieldZ x 14 12)) else (fieldZ x 14 12) := rfl
      have eK : shiftK x (fieldZ x 14 12) true = if (fieldZ x 14 12) == 5 then (if (fieldZ x 31 25) == 32 then true else (fieldZ x 31 25) == 0) else (fieldZ x 31 25) == 0 := rfl
      rw [eF]
      rw [eK] at hk'
      cases h5 : (fieldZ x 14 12) == 5
      · rw [h5] at hk'
        exact w27z x hx o (eq_of_beq hk')
      · rw [h5] at hk'
        cases hh : (fieldZ x 31 25) == 32
        · rw [hh] at hk'; exact w27z x hx o (eq_of_beq hk')
        · exact w27s x hx o (eq_of_beq h5) (eq_of_beq hh)
theorem back51 (o : fieldZ x 6 0 = 51) (hk : takeK x = true) : Back x := by
  have r_d := fB x 11 7 hx 5 (by decide) (by decide) (by decide) rfl (by decide)
  have r_1 := fB x 19 15 hx 5 (by decide) (by decide) (by decide) rfl (by decide)
  have r_2 := fB x 24 20 hx 5 (by decide) (by decide) (by decide) rfl (by decide)
  have r_z : (0 : Int) ≤ 0 ∧ (0 : Int) ≤ 31 := ⟨by decide, by decide⟩
  obtain ⟨ei, ek⟩ := at51 x o
  refine back_same hk ?_ ?_
  · rw [ei]; exact regs_of (by first | exact r_d | exact r_1 | exact r_2 | exact r_z) (by first | exact r_d | exact r_1 | exact r_2 | exact r_z) (by first | exact r_d | exact r_1 | exact r_2 | exact r_z)
  rw [ek] at hk
  rw [ei]
  have eF : sumF x (fieldZ x 14 12) = if (fieldZ x 31 25) == 0 then (fieldZ x 14 12) else if (fieldZ x 31 25) == 1 then 16 + (fieldZ x 14 12) else if (fieldZ x 31 25) == 32 then (fieldZ x 14 12) + 8 else (fieldZ x 14 12) := rfl
  rw [eF]
  unfold sumK at hk
  cases q0 : (fieldZ x 31 25) == 0
  · cases q1 : (fieldZ x 31 25) == 1
    · cases q2 : (fieldZ x 31 25) == 32
      · rw [q0, q1, q2] at hk; cases hk
      · rw [q0, q1, q2] at hk
        have hk' : (if (fieldZ x 14 12) == 0 then true else (fieldZ x 14 12) == 5) = true := hk
        refine w51_2 x hx o (eq_of_beq q2) ?_
        cases k0 : (fieldZ x 14 12) == 0
        · rw [k0] at hk'; exact .inr (eq_of_beq hk')
        · exact .inl (eq_of_beq k0)
    · exact w51_1 x hx o (eq_of_beq q1)
  · exact w51_0 x hx o (eq_of_beq q0)
theorem back59 (o : fieldZ x 6 0 = 59) (hk : takeK x = true) : Back x := by
  have r_d := fB x 11 7 hx 5 (by decide) (by decide) (by decide) rfl (by decide)
  have r_1 := fB x 19 15 hx 5 (by decide) (by decide) (by decide) rfl (by decide)
  have r_2 := fB x 24 20 hx 5 (by decide) (by decide) (by decide) rfl (by decide)
  have r_z : (0 : Int) ≤ 0 ∧ (0 : Int) ≤ 31 := ⟨by decide, by decide⟩
  obtain ⟨ei, ek⟩ := at59 x o
  refine back_same hk ?_ ?_
  · rw [ei]; exact regs_of (by first | exact r_d | exact r_1 | exact r_2 | exact r_z) (by first | exact r_d | exact r_1 | exact r_2 | exact r_z) (by first | exact r_d | exact r_1 | exact r_2 | exact r_z)
  rw [ek] at hk
  rw [ei]
  have eF : sumF x (fieldZ x 14 12) = if (fieldZ x 31 25) == 0 then (fieldZ x 14 12) else if (fieldZ x 31 25) == 1 then 16 + (fieldZ x 14 12) else if (fieldZ x 31 25) == 32 then (fieldZ x 14 12) + 8 else (fieldZ x 14 12) := rfl
  rw [eF]
  unfold sumK at hk
  cases q0 : (fieldZ x 31 25) == 0
  · cases q1 : (fieldZ x 31 25) == 1
    · cases q2 : (fieldZ x 31 25) == 32
      · rw [q0, q1, q2] at hk; cases hk
      · rw [q0, q1, q2] at hk
        have hk' : (if (fieldZ x 14 12) == 0 then true else (fieldZ x 14 12) == 5) = true := hk
        refine w59_2 x hx o (eq_of_beq q2) ?_
        cases k0 : (fieldZ x 14 12) == 0
        · rw [k0] at hk'; exact .inr (eq_of_beq hk')
        · exact .inl (eq_of_beq k0)
    · exact w59_1 x hx o (eq_of_beq q1)
  · exact w59_0 x hx o (eq_of_beq q0)
theorem back15 (o : fieldZ x 6 0 = 15) (hk : takeK x = true) : Back x := by
  have r_d := fB x 11 7 hx 5 (by decide) (by decide) (by decide) rfl (by decide)
  have r_1 := fB x 19 15 hx 5 (by decide) (by decide) (by decide) rfl (by decide)
  have r_2 := fB x 24 20 hx 5 (by decide) (by decide) (by decide) rfl (by decide)
  have r_z : (0 : Int) ≤ 0 ∧ (0 : Int) ≤ 31 := ⟨by decide, by decide⟩
  obtain ⟨ei, ek⟩ := at15 x o
  rw [ek] at hk
  have hk' := of_decide_eq_true hk
  have hb := (fieldZ_B x 14 12 hx 3 (by decide) (by decide) (by decide) rfl).1
  unfold Back
  rw [ei]
  have hq : (fieldZ x 14 12) = 0 ∨ (fieldZ x 14 12) = 1 := by omega
  rcases hq with hq | hq <;> rw [hq]
  · exact ⟨regs_of r_z r_z r_z, ⟨by kernel_rfl, by kernel_rfl⟩, .inr (.inl rfl)⟩
  · exact ⟨regs_of r_z r_z r_z, ⟨by kernel_rfl, by kernel_rfl⟩, .inr (.inl rfl)⟩
theorem back115 (o : fieldZ x 6 0 = 115) (hk : takeK x = true) : Back x := by
  have r_d := fB x 11 7 hx 5 (by decide) (by decide) (by decide) rfl (by decide)
  have r_1 := fB x 19 15 hx 5 (by decide) (by decide) (by decide) rfl (by decide)
  have r_2 := fB x 24 20 hx 5 (by decide) (by decide) (by decide) rfl (by decide)
  have r_z : (0 : Int) ≤ 0 ∧ (0 : Int) ≤ 31 := ⟨by decide, by decide⟩
  obtain ⟨ei, ek⟩ := at115 x o
  have hk0 := hk
  rw [ek] at hk
  unfold sysI at ei
  unfold sysK at hk
  by_cases hi : 0 ≤ idxZ x
  · rw [if_pos hi] at ei
    refine back_same hk0 (by rw [ei]; exact regs_of r_z r_z r_z) ?_
    rw [ei]
    unfold idxZ at hi ⊢
    by_cases v0 : x = 115
    · subst v0; kernel_rfl
    rw [if_neg v0] at hi ⊢
    by_cases v1 : x = 1048691
    · subst v1; kernel_rfl
    rw [if_neg v1] at hi ⊢
    by_cases v2 : x = 270532723
    · subst v2; kernel_rfl
    rw [if_neg v2] at hi ⊢
    by_cases v3 : x = 807403635
    · subst v3; kernel_rfl
    rw [if_neg v3] at hi ⊢
    by_cases v4 : x = 273678451
    · subst v4; kernel_rfl
    rw [if_neg v4] at hi ⊢
    exact absurd hi (by decide)
  · rw [if_neg hi] at ei hk
    cases f0 : (fieldZ x 14 12) == 0
    · rw [f0] at ei hk
      cases f4 : (fieldZ x 14 12) == 4
      · rw [f4] at ei
        refine back_same hk0 (by rw [ei]; exact regs_of r_d r_1 r_z) ?_
        rw [ei]
        exact wcsr x hx o
      · rw [f4] at hk; cases hk
    · rw [f0] at ei hk
      refine back_same hk0 (by rw [ei]; exact regs_of r_z r_1 r_2) ?_
      rw [ei]
      have hk' : (if (fieldZ x 31 25) == 9 then (fieldZ x 11 7) == 0 else false) = true := hk
      cases h9 : (fieldZ x 31 25) == 9
      · rw [h9] at hk'; cases hk'
      · rw [h9] at hk'
        exact wsf x hx o (eq_of_beq f0) (eq_of_beq h9) (eq_of_beq hk')
theorem back47 (o : fieldZ x 6 0 = 47) (hk : takeK x = true) : Back x := by
  have r_d := fB x 11 7 hx 5 (by decide) (by decide) (by decide) rfl (by decide)
  have r_1 := fB x 19 15 hx 5 (by decide) (by decide) (by decide) rfl (by decide)
  have r_2 := fB x 24 20 hx 5 (by decide) (by decide) (by decide) rfl (by decide)
  have r_z : (0 : Int) ≤ 0 ∧ (0 : Int) ≤ 31 := ⟨by decide, by decide⟩
  obtain ⟨ei, ek⟩ := at47 x o
  rw [ek] at hk
  have hg := fB x 31 27 hx 5 (by decide) (by decide) (by decide) rfl (by decide)
  obtain ⟨p0, p1⟩ := fieldZ_B x 14 12 hx 3 (by decide) (by decide) (by decide) rfl
  unfold Back
  rw [ei]
  have hs : (fieldZ x 14 12) = 2 ∨ (fieldZ x 14 12) = 3 := by
    unfold amoK at hk
    rw [Bool.and_eq_true, Bool.and_eq_true] at hk
    have h2 := hk.2.2
    cases e2 : (fieldZ x 14 12) == 2
    · rw [e2] at h2; exact .inr (eq_of_beq h2)
    · exact .inl (eq_of_beq e2)
  generalize (fieldZ x 31 27) = g at *
  generalize (fieldZ x 14 12) = q at *
  generalize (fieldZ x 11 7) = d at *
  generalize (fieldZ x 19 15) = r at *
  generalize (fieldZ x 24 20) = s at *
  clear ei ek o hx p0 p1
  have A0 := r_d.1; have A1 := r_d.2; have B0 := r_1.1; have B1 := r_1.2; have C0 := r_2.1; have C1 := r_2.2; have D0 := hg.1; have D1 := hg.2
  have k1 : msk (d * 128) 3968 := by have := msk_mul d 5 7 (by omega) (by omega); simpa using this
  have k3 : msk (r * 32768) 1015808 := by have := msk_mul r 5 15 (by omega) (by omega); simpa using this
  have k4 : msk (s * 1048576) 32505856 := by have := msk_mul s 5 20 (by omega) (by omega); simpa using this
  have k5 : msk (g * 4 * 33554432) 4160749568 := by have := msk_mul g 5 27 (by omega) (by omega); rw [show g * 4 * 33554432 = g * 134217728 by omega]; simpa using this
  rcases hs with rfl | rfl
  · obtain ⟨e1, m1⟩ := put_sum (op := 47) (k := 2) (hi := g * 4) (rd := d) (r1 := r) (r2 := s) (A0 := 127) (show msk _ _ from ⟨by decide, by decide⟩) k1 (A2 := 8192) (show msk _ _ from ⟨by decide, by decide⟩) k3 k4 k5 (by decide)
    have ew : wordV ⟨13, g, (2 : Int) == 2, d, r, s, 0⟩ = 47 + d * 128 + 2 * 4096 + r * 32768 + s * 1048576 + g * 4 * 33554432 := by
      show putZ 47 2 (g % 4294967296 * 4 % 4294967296) d r s = _
      rw [show g % 4294967296 * 4 % 4294967296 = g * 4 by omega, e1]
    refine ⟨regs_of r_d r_1 r_2, ?_, .inr (.inr rfl)⟩
    rw [ew]
    clear e1 m1 k1 k3 k4 k5 ew
    obtain ⟨v, hv⟩ : ∃ v, v = 47 + d * 128 + 2 * 4096 + r * 32768 + s * 1048576 + g * 4 * 33554432 := ⟨_, rfl⟩
    rw [← hv]
    have u0 : fieldZ v 6 0 = 47 := by rw [f6_0]; omega
    have u1 : fieldZ v 14 12 = 2 := by rw [f14_12]; omega
    have u2 : fieldZ v 11 7 = d := by rw [f11_7]; omega
    have u3 : fieldZ v 19 15 = r := by rw [f19_15]; omega
    have u4 : fieldZ v 24 20 = s := by rw [f24_20]; omega
    have u5 : fieldZ v 31 27 = g := by rw [f31_27]; omega
    obtain ⟨fi, fk⟩ := at47 v u0
    rw [fi, fk, u1, u2, u3, u4, u5]
    exact ⟨hk, rfl⟩
  · obtain ⟨e1, m1⟩ := put_sum (op := 47) (k := 3) (hi := g * 4) (rd := d) (r1 := r) (r2 := s) (A0 := 127) (show msk _ _ from ⟨by decide, by decide⟩) k1 (A2 := 12288) (show msk _ _ from ⟨by decide, by decide⟩) k3 k4 k5 (by decide)
    have ew : wordV ⟨13, g, (3 : Int) == 2, d, r, s, 0⟩ = 47 + d * 128 + 3 * 4096 + r * 32768 + s * 1048576 + g * 4 * 33554432 := by
      show putZ 47 3 (g % 4294967296 * 4 % 4294967296) d r s = _
      rw [show g % 4294967296 * 4 % 4294967296 = g * 4 by omega, e1]
    refine ⟨regs_of r_d r_1 r_2, ?_, .inr (.inr rfl)⟩
    rw [ew]
    clear e1 m1 k1 k3 k4 k5 ew
    obtain ⟨v, hv⟩ : ∃ v, v = 47 + d * 128 + 3 * 4096 + r * 32768 + s * 1048576 + g * 4 * 33554432 := ⟨_, rfl⟩
    rw [← hv]
    have u0 : fieldZ v 6 0 = 47 := by rw [f6_0]; omega
    have u1 : fieldZ v 14 12 = 3 := by rw [f14_12]; omega
    have u2 : fieldZ v 11 7 = d := by rw [f11_7]; omega
    have u3 : fieldZ v 19 15 = r := by rw [f19_15]; omega
    have u4 : fieldZ v 24 20 = s := by rw [f24_20]; omega
    have u5 : fieldZ v 31 27 = g := by rw [f31_27]; omega
    obtain ⟨fi, fk⟩ := at47 v u0
    rw [fi, fk, u1, u2, u3, u4, u5]
    exact ⟨hk, rfl⟩
theorem back_all (hk : takeK x = true) : Back x := by
  by_cases o55 : fieldZ x 6 0 = 55
  · exact back55 x hx o55 hk
  by_cases o23 : fieldZ x 6 0 = 23
  · exact back23 x hx o23 hk
  by_cases o111 : fieldZ x 6 0 = 111
  · exact back111 x hx o111 hk
  by_cases o103 : fieldZ x 6 0 = 103
  · exact back103 x hx o103 hk
  by_cases o99 : fieldZ x 6 0 = 99
  · exact back99 x hx o99 hk
  by_cases o3 : fieldZ x 6 0 = 3
  · exact back3 x hx o3 hk
  by_cases o35 : fieldZ x 6 0 = 35
  · exact back35 x hx o35 hk
  by_cases o19 : fieldZ x 6 0 = 19
  · exact back19 x hx o19 hk
  by_cases o27 : fieldZ x 6 0 = 27
  · exact back27 x hx o27 hk
  by_cases o51 : fieldZ x 6 0 = 51
  · exact back51 x hx o51 hk
  by_cases o59 : fieldZ x 6 0 = 59
  · exact back59 x hx o59 hk
  by_cases o15 : fieldZ x 6 0 = 15
  · exact back15 x hx o15 hk
  by_cases o115 : fieldZ x 6 0 = 115
  · exact back115 x hx o115 hk
  by_cases o47 : fieldZ x 6 0 = 47
  · exact back47 x hx o47 hk
  rw [(at_none x o55 o23 o111 o103 o99 o3 o35 o19 o27 o51 o59 o15 o115 o47).2] at hk
  cases hk
end
end Go.Proofs.Ytgcpedenlbcdgaa.Q
