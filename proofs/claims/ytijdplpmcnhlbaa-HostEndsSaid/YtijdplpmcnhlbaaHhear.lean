/- host.Hear, as its callers have it. -/
import Derived.Test.YtijdplpmcnhlbaaHhw
namespace Go.Proofs.Ytijdplpmcnhlbaa.Q
open Go.RowKit Go.Proofs.YtijdplpmcnhlbaaW.PrintWords Go.Proofs.YtijdplpmcnhlbaaW.PrintLast Go.Proofs.YtijdplpmcnhlbaaW.PrintMore Go.Proofs.Ytijdplpmcnhlbaa.L
attribute [local go_sem] Instr.field part asAgg lt_step max2_int min2_int max_two min_two max_three min_three max_four min_four lt_0_1 lt_0_2 lt_1_2 lt_0_3 lt_1_3 lt_2_3 lt_0_4 lt_1_4 lt_2_4 lt_3_4 lt_0_5 lt_1_5 lt_2_5 lt_3_5 lt_4_5 lt_0_6 lt_1_6 lt_2_6 lt_3_6 lt_4_6 lt_5_6 lt_0_7 lt_1_7 lt_2_7 lt_3_7 lt_4_7 lt_5_7 lt_6_7 lt_0_8 lt_1_8 lt_2_8 lt_3_8 lt_4_8 lt_5_8 lt_6_8 lt_7_8
set_option linter.unusedVariables false
set_option linter.unusedSimpArgs false
def hearZ (l : List S34) (i kind dl n : Int) : List S34 × Bool :=
  if kind = 1 then (if ((rd_T34 l i).f1 == 2) = true then (l, false) else (setS l i 1, true))
  else if kind = 3 then (l, ((rd_T34 l i).f1 == 2) && (!(rd_T34 l i).f4 && decide (dl > 0)))
  else if kind = 4 then (if ((rd_T34 l i).f1 == 2) = true ∧ (rd_T34 l i).f4 = false then (setS l i 4, true) else (l, false))
  else if kind = 5 then (l, ((rd_T34 l i).f1 == 2) && (!(rd_T34 l i).f5 && decide (n ≥ 1)))
  else (l, false)
def host_Hear.f (l0 : List S34) (a1_0 : Int) (a1_1 : Int) (l1_2 : List Int) (a1_3 : Int) : Option (List S34 × Bool) :=
  if l0.length * 40 < 140737488355328 then (host_place.f l0 a1_1).bind (fun i => if i < 0 then some (l0, false) else if a1_0 = 2 then host_Close.f l0 a1_1 else some (hearZ l0 i a1_0 l1_2.length a1_3)) else none
theorem host_Hear.calls (P0_ : Nat → Prop) (A0 : Option Addr) (c0 : Nat) (l0 : List (S34)) (a1_0 : Int) (a1_1 : Int) (A1_2 : Option Addr) (c1_2 : Nat) (l1_2 : List Int) (a1_3 : Int) (r1 : List (S34)) (r2 : Bool) (w : World) (hs0 : Kd.V k34 34 w w.heap.size (fun k_ => P0_ k_) (.slice A0 l0.length c0) l0) (hr1_2 : Kd.C (Kd.int .u8) w A1_2 l1_2.length l1_2) (hc1_2 : l1_2.length ≤ c1_2) (h : host_Hear.f l0 a1_0 a1_1 l1_2 a1_3 = some (r1, r2)) :
    Calls Try.prog 9 #[.slice A0 l0.length c0, .agg #[.int .i64 a1_0, .int .i64 a1_1, .slice A1_2 l1_2.length c1_2, .int .i64 a1_3]] w fun e w' => ∃ v0_ : Value, e = .returned (.tuple #[v0_, .bool r2]) ∧ Kd.V k34 34 w' w.heap.size (fun k_ => (P0_ k_ ∨ w.heap.size ≤ k_)) v0_ r1 ∧ Below w.heap.size w w' := by
  unfold host_Hear.f at h
  split at h
  case isFalse => cases h
  case isTrue hl =>
  obtain ⟨i, hi, h⟩ := Option.bind_eq_some_iff.1 h
  have hst : ∀ {b : Bool} {e : Ending} {w' : World}, (e = .returned (.tuple #[.slice A0 l0.length c0, .bool b]) ∧ Below w.heap.size w w') → ∃ v0_ : Value, e = .returned (.tuple #[v0_, .bool b]) ∧ Kd.V k34 34 w' w.heap.size (fun k_ => (P0_ k_ ∨ w.heap.size ≤ k_)) v0_ l0 ∧ Below w.heap.size w w' := fun h => ⟨_, h.1, V_stay hs0 h.2, h.2⟩
  rcases place_range hi with h1 | ⟨h0, h1⟩
  · rw [if_pos h1] at h
    obtain ⟨rfl, rfl⟩ : l0 = r1 ∧ false = r2 := by simpa using h
    exact (hear_no P0_ A0 c0 l0 a1_1 i l1_2.length a1_3 w A1_2 c1_2 a1_0 hl hs0 hi h1).mono fun _ _ h => hst h
  rw [if_neg (by omega)] at h
  by_cases k2 : a1_0 = 2
  · subst k2
    rw [if_pos rfl] at h
    exact hear_reset P0_ A0 c0 l0 a1_1 i l1_2.length a1_3 w A1_2 c1_2 hl hs0 hi h0 h1 r1 r2 h
  rw [if_neg k2] at h
  have h := Option.some.inj h
  unfold hearZ at h
  by_cases k1 : a1_0 = 1
  · subst k1
    rw [if_pos rfl] at h
    by_cases ho : ((rd_T34 l0 i).f1 == 2) = true
    · rw [if_pos ho] at h
      obtain ⟨rfl, rfl⟩ : l0 = r1 ∧ false = r2 := by simpa using h
      exact (hear_openx P0_ A0 c0 l0 a1_1 i l1_2.length a1_3 w A1_2 c1_2 true hl hs0 hi h0 h1 rfl ho).mono fun _ _ h => hst h
    · rw [if_neg ho] at h
      obtain ⟨rfl, rfl⟩ : setS l0 i 1 = r1 ∧ true = r2 := by simpa using h
      exact (hear_open P0_ A0 c0 l0 a1_1 i l1_2.length a1_3 w A1_2 c1_2 hl hs0 hi h0 h1 (by simpa using ho)).mono fun _ _ ⟨v, he, hR, hb⟩ => ⟨v, he, V_new hR, hb⟩
  rw [if_neg k1] at h
  by_cases k3 : a1_0 = 3
  · subst k3
    rw [if_pos rfl] at h
    obtain ⟨rfl, rfl⟩ := Prod.mk.inj h
    exact (hear_data P0_ A0 c0 l0 a1_1 i l1_2.length a1_3 w A1_2 c1_2 _ _ _ hl hs0 hi h0 h1 rfl rfl rfl).mono fun _ _ h => hst h
  rw [if_neg k3] at h
  by_cases k4 : a1_0 = 4
  · subst k4
    rw [if_pos rfl] at h
    by_cases ho : ((rd_T34 l0 i).f1 == 2) = true ∧ (rd_T34 l0 i).f4 = false
    · rw [if_pos ho] at h
      obtain ⟨rfl, rfl⟩ : setS l0 i 4 = r1 ∧ true = r2 := by simpa using h
      exact (hear_eof P0_ A0 c0 l0 a1_1 i l1_2.length a1_3 w A1_2 c1_2 hl hs0 hi h0 h1 ho.1 ho.2).mono fun _ _ ⟨v, he, hR, hb⟩ => ⟨v, he, V_new hR, hb⟩
    · rw [if_neg ho] at h
      obtain ⟨rfl, rfl⟩ : l0 = r1 ∧ false = r2 := by simpa using h
      exact (hear_eofx P0_ A0 c0 l0 a1_1 i l1_2.length a1_3 w A1_2 c1_2 _ _ hl hs0 hi h0 h1 (fun h => by cases he : (rd_T34 l0 i).f4; exact absurd ⟨h, he⟩ ho; rfl) rfl rfl).mono fun _ _ h => hst h
  rw [if_neg k4] at h
  by_cases k5 : a1_0 = 5
  · subst k5
    rw [if_pos rfl] at h
    obtain ⟨rfl, rfl⟩ := Prod.mk.inj h
    exact (hear_took P0_ A0 c0 l0 a1_1 i l1_2.length a1_3 w A1_2 c1_2 _ _ _ hl hs0 hi h0 h1 rfl rfl rfl).mono fun _ _ h => hst h
  rw [if_neg k5] at h
  obtain ⟨rfl, rfl⟩ := Prod.mk.inj h
  exact (hear_other P0_ A0 c0 l0 a1_1 i l1_2.length a1_3 w A1_2 c1_2 a1_0 _ hl hs0 hi h0 h1 (beq_eq_false_iff_ne.2 k1) (beq_eq_false_iff_ne.2 k2) (beq_eq_false_iff_ne.2 k3) (beq_eq_false_iff_ne.2 k4) (beq_eq_false_iff_ne.2 k5) rfl).mono fun _ _ h => hst h
end Go.Proofs.Ytijdplpmcnhlbaa.Q
