/- RamKeeps: what was written is read, every other byte is as it was; for every memory, place and bytes. No condition beyond the statement's own. -/
import Derived.Test.YtkkkmkjlchfafaaSaidRamKeeps
import Derived.Test.YtkkkmkjlchfafaaPref07
namespace Go.Proofs.Ytkkkmkjlchfafaa.Pure
open Go.RowKit Go.Proofs.Ytkkkmkjlchfafaa.Q Go.Proofs.YtkkkmkjlchfafaaW.PrintWords Go.Proofs.YtkkkmkjlchfafaaW.PrintLast Go.Proofs.YtkkkmkjlchfafaaW.PrintMore Go.Proofs.Ytkkkmkjlchfafaa.L
set_option linter.unusedVariables false
theorem cut_fill (l : List Int) (a : Int) (b : List Int) (h1 : 2147483648 ≤ a) (h3 : a - 2147483648 + (b.length : Int) ≤ l.length) : cutL (splice l (a - 2147483648).toNat b) a b.length = b := by
  unfold cutL splice
  obtain ⟨i, hi⟩ := Int.eq_ofNat_of_zero_le (show 0 ≤ a - 2147483648 by omega)
  rw [hi, Int.toNat_natCast, show ((i : Int) + (b.length : Int)).toNat = i + b.length by omega]
  have t : (l.take i).length = i := by rw [List.length_take]; omega
  rw [← List.append_assoc, List.take_append_of_le_length (by rw [List.length_append, t]; omega), List.take_of_length_le (by rw [List.length_append, t]; omega), List.drop_append_of_le_length (by rw [t]; omega), List.drop_of_length_le (by rw [t]; omega), List.nil_append]
theorem fill_byte (l b : List Int) (i : Nat) (hl : ∀ z ∈ l, byte z) (hb : ∀ z ∈ b, byte z) : ∀ z ∈ splice l i b, byte z := by
  intro z hz
  unfold splice at hz
  rcases List.mem_append.1 hz with h | h
  · exact hl z (List.mem_of_mem_take h)
  · rcases List.mem_append.1 h with h | h
    · exact hb z h
    · exact hl z (List.mem_of_mem_drop h)
theorem splice_at (l b : List Int) (i j : Nat) (hi : i + b.length ≤ l.length) (hj : j < i ∨ i + b.length ≤ j) : (splice l i b)[j]? = l[j]? := by
  unfold splice
  have t : (l.take i).length = i := by rw [List.length_take]; omega
  rcases hj with hj | hj
  · rw [List.getElem?_append_left (by rw [t]; exact hj), List.getElem?_take_of_lt hj]
  · rw [List.getElem?_append_right (by rw [t]; omega), List.getElem?_append_right (by rw [t]; omega), t, List.getElem?_drop, show i + b.length + (j - i - b.length) = j by omega]
theorem take1 (l : List Int) (j : Nat) : (l.take (j + 1)).drop j = l[j]?.toList := by
  rw [List.drop_take, show j + 1 - j = 1 by omega]
  by_cases h : j < l.length
  · rw [List.drop_eq_getElem_cons h, List.getElem?_eq_getElem h]; rfl
  · rw [List.drop_of_length_le (by omega), List.getElem?_eq_none (by omega)]; rfl
theorem RamKeeps : RamKeeps.Said := by
  intro l a b o hl hlb ha hb hbb ho
  have hA := u64_wf ha
  have hO := u64_wf ho
  have hB : ∀ z ∈ l, byte z := fun z hz => byte_wf (hlb z hz)
  have hBB : ∀ z ∈ b, byte z := fun z hz => byte_wf (hbb z hz)
  have hbl : (b.length : Int) ≤ 9223372036854775807 := by unfold maxLen at hb; omega
  have hN : i64B (b.length : Int) := ⟨by omega, hbl⟩
  refine ⟨5, ?_⟩
  unfold drawbridgelaw07_RamKeeps.f
  by_cases h : (l.length : Int) > 70000
  · rw [if_pos h]; rfl
  have hL : (l.length : Int) ≤ 70000 := by omega
  rw [if_neg h, fill_is l a b hA hbl hL, Option.bind_some]
  rcases placeZ_cases l.length a b.length with ⟨h1, h2, h3, e⟩ | ⟨_, e⟩
  · have ef : fillL l a b = splice l (a - 2147483648).toNat b := by unfold fillL; rw [e, if_pos rfl]
    have el := fillL_length l a b
    rw [ef] at el ⊢
    have hsl : ((splice l (a - 2147483648).toNat b).length : Int) ≤ 70000 := by rw [el]; exact hL
    have eb : bytesZ (splice l (a - 2147483648).toNat b) a b.length = (b, true) := by
      unfold bytesZ; rw [el, e, if_pos rfl, cut_fill l a b h1 h3]
    rw [e]
    simp only [if_true]
    rw [bytes_is _ a b.length hA hN hsl 2, Option.bind_some, eb]
    simp only [if_true]
    rw [same_self, Option.bind_some, if_pos rfl, el, bne_self_eq_false]
    rw [drawbridgelaw07_RamKeeps.j0]
    rw [if_neg (by decide)]
    obtain ⟨a0, a1⟩ := hA
    obtain ⟨o0, o1⟩ := hO
    have main : ∀ x, (x = true ∨ (x = false ∧ (o < a ∨ (b.length : Int) ≤ o - a))) → drawbridgelaw07_RamKeeps.j1 4 o x l (splice l (a - 2147483648).toNat b) = some true := by
      intro x hx
      rw [drawbridgelaw07_RamKeeps.j1]
      rcases hx with rfl | ⟨rfl, hx⟩
      · rfl
      · rw [if_neg (by decide), read_is _ o 1 ⟨o0, o1⟩ ⟨by decide, by decide⟩ hsl (fill_byte _ _ _ hB hBB) 0, Option.bind_some, read_is l o 1 ⟨o0, o1⟩ ⟨by decide, by decide⟩ hL hB 0, Option.bind_some]
        have er : readZ (splice l (a - 2147483648).toNat b) o 1 = readZ l o 1 := by
          unfold readZ
          rw [el]
          rcases placeZ_cases l.length o 1 with ⟨g1, g2, g3, g⟩ | ⟨_, g⟩
          · rw [g]
            have ec : cutL (splice l (a - 2147483648).toNat b) o 1 = cutL l o 1 := by
              unfold cutL
              obtain ⟨j, hj⟩ := Int.eq_ofNat_of_zero_le (show 0 ≤ o - 2147483648 by omega)
              rw [hj, show ((j : Int) + 1).toNat = j + 1 by omega, Int.toNat_natCast, take1, take1, splice_at l b _ j (by omega) (by omega)]
            rw [ec]
          · rw [g]; simp
        rw [er, if_pos rfl, beq_self_eq_true, if_pos rfl]; rfl
    by_cases hoa : o ≥ a
    · rw [if_pos hoa]
      have w1 : IntKind.u64.wrap (o - a) = o - a := by rw [IntKind.wrap_u64]; omega
      have w2 : IntKind.u64.wrap (b.length : Int) = b.length := by rw [IntKind.wrap_u64]; omega
      rw [w1, w2]
      by_cases hlt : o - a < (b.length : Int)
      · rw [decide_eq_true hlt]; exact main true (.inl rfl)
      · rw [decide_eq_false hlt]; exact main false (.inr ⟨rfl, .inr (by omega)⟩)
    · rw [if_neg hoa]; exact main false (.inr ⟨rfl, .inl (by omega)⟩)
  · have ef : fillL l a b = l := by unfold fillL; rw [e, if_neg (by decide)]
    rw [e, ef]
    simp only [Bool.false_eq_true, if_false, same07_self, Option.bind_some, if_true]
    rw [inside_is l a b.length hA hN hL 2, Option.bind_some, e]
    rfl
end Go.Proofs.Ytkkkmkjlchfafaa.Pure
