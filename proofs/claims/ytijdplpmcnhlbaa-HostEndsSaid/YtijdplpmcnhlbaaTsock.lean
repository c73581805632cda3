/- Sockets, plain facts: what the checks, the places, the changes are. -/
import Derived.Test.YtijdplpmcnhlbaaHshut
set_option linter.unusedVariables false
set_option linter.unusedSimpArgs false
namespace Go.Proofs.Ytijdplpmcnhlbaa.Q
open Go.RowKit Go.Proofs.YtijdplpmcnhlbaaW.PrintWords Go.Proofs.YtijdplpmcnhlbaaW.PrintLast Go.Proofs.YtijdplpmcnhlbaaW.PrintMore
def okI (x : S34) : Bool := decide (1 ≤ x.f0) && (decide (x.f0 ≤ 8) && (((x.f1 == 1 && (!x.f4 && !x.f5)) || x.f1 == 2) && x.f3 / 65536 == 0))
def okR : Int → List S34 → Bool
  | _, [] => true
  | last, x :: l => okI x && (decide (last < x.f0) && okR x.f0 l)
def okL (l : List S34) : Bool := okR 0 l && decide ((l.length : Int) ≤ 8)
theorem right_is (x : S34) : host_rightp.f x.f0 x.f1 x.f2 x.f3 x.f4 x.f5 = some (okI x) := by
  obtain ⟨a, b, c, d, e, f⟩ := x
  unfold host_rightp.f okI
  dsimp only
  by_cases h1 : b = 1
  · subst h1
    by_cases h0 : a ≥ 1 <;> by_cases h8 : a ≤ 8 <;> cases e <;> cases f <;> simp [h0, h8]
  · by_cases h2 : b = 2
    · subst h2
      by_cases h0 : a ≥ 1 <;> by_cases h8 : a ≤ 8 <;> cases e <;> cases f <;> simp [h0, h8]
    · by_cases h0 : a ≥ 1 <;> by_cases h8 : a ≤ 8 <;> cases e <;> cases f <;> simp [h0, h8, h1, h2]
theorem rd_at {l : List S34} {i : Nat} (h : i < l.length) : rd_T34 l (i : Int) = l[i] := by
  unfold rd_T34; rw [Int.toNat_natCast, List.getD_eq_getElem?_getD, List.getElem?_eq_getElem h]; rfl
theorem w64 {n : Nat} (h : n ≤ 1000) : wrap64 ((n : Int) + 1) = ((n + 1 : Nat) : Int) := by
  rw [show ((n + 1 : Nat) : Int) = (n : Int) + 1 by omega]
  unfold wrap64
  first | (rw [IntKind.wrap_i64]; omega) | omega
theorem hc_l0 (l : List S34) (hl : l.length ≤ 100) : ∀ (k i : Nat) (last : Int), i ≤ l.length → l.length - i < k → host_Chkp.l0 k l last l (l.length : Int) (i : Int) = some (okR last (l.drop i) && decide ((l.length : Int) ≤ 8))
  | 0, i, last, hi, hk => absurd hk (by omega)
  | k + 1, i, last, hi, hk => by
    unfold host_Chkp.l0
    by_cases h : i < l.length
    · rw [if_pos (by omega), if_pos (by omega), if_pos (by omega), right_is, Option.bind_some, rd_at h, List.drop_eq_getElem_cons h, okR]
      cases ho : okI l[i] with
      | false => rw [if_neg Bool.false_ne_true]; rfl
      | true =>
        rw [if_pos rfl]
        by_cases hlt : last < l[i].f0
        · rw [if_neg (by omega), w64 (by omega), hc_l0 l hl k (i + 1) _ (by omega) (by omega), decide_eq_true hlt, Bool.true_and, Bool.true_and]
        · rw [if_pos (by omega), decide_eq_false hlt]; rfl
    · rw [if_neg (by omega), List.drop_of_length_le (by omega)]; rfl
theorem hostCheck_is {l : List S34} (hl : l.length ≤ 100) {k : Nat} (hk : l.length < k) : host_Chkp.f k l = some (okL l) := hc_l0 l hl k 0 0 (by omega) (by omega)
theorem okS_is {l : List S34} (hl : l.length ≤ 100) : okS l = some (okL l) := hostCheck_is hl (by omega)
theorem okI_no {x : S34} : okI x = false ↔ (x.f0 < 1 ∨ x.f0 > 8 ∨ ¬ (x.f1 = 1 ∨ x.f1 = 2) ∨ (x.f3 < 0 ∨ x.f3 > 65535) ∨ (x.f1 = 1 ∧ (x.f4 = true ∨ x.f5 = true))) := by
  obtain ⟨a, b, c, d, e, f⟩ := x
  unfold okI
  dsimp only
  by_cases h1 : b = 1
  · subst h1
    cases e <;> cases f <;> simp <;> omega
  · by_cases h2 : b = 2
    · subst h2
      cases e <;> cases f <;> simp <;> omega
    · simp [h1, h2]
theorem okI_yes {x : S34} (h : okI x = true) : 1 ≤ x.f0 ∧ x.f0 ≤ 8 ∧ (x.f1 = 1 ∨ x.f1 = 2) ∧ (0 ≤ x.f3 ∧ x.f3 ≤ 65535) ∧ (x.f1 = 1 → x.f4 = false ∧ x.f5 = false) := by
  have hn : ¬ okI x = false := by rw [h]; exact Bool.noConfusion
  rw [okI_no] at hn
  refine ⟨by omega, by omega, by omega, ⟨by omega, by omega⟩, fun h1 => ?_⟩
  constructor
  · cases h4 : x.f4; rfl; exact absurd (.inr (.inr (.inr (.inr ⟨h1, .inl h4⟩)))) hn
  · cases h5 : x.f5; rfl; exact absurd (.inr (.inr (.inr (.inr ⟨h1, .inr h5⟩)))) hn
end Go.Proofs.Ytijdplpmcnhlbaa.Q
