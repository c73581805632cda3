import Derived.Test.YtbidnolopbjlaaaHSaidSv39Offset
import Derived.Test.YtbidnolopbjlaaaHZ4
import Derived.Test.YtbidnolopbjlaaaHZ3
/- Sv39Offset: two addresses of one page lead into one page, as far apart as they are; for every memory, registers, privilege, address, offsets and kind. No condition beyond the statement's own. -/
set_option linter.unusedVariables false
set_option linter.unusedSimpArgs false
namespace Go.Proofs.Ytbidnolopbjlaaa.Pure
open Go.RowKit Go.Proofs.Ytbidnolopbjlaaa.Q Go.Proofs.YtbidnolopbjlaaaW.PrintWords Go.Proofs.YtbidnolopbjlaaaW.PrintLast Go.Proofs.YtbidnolopbjlaaaW.PrintMore Go.Proofs.Ytbidnolopbjlaaa.L
theorem page_is (a : Int) (ha : u64B a) : Go.bits .andNot .u64 a 4095 = a - a % 4096 := by
  obtain ⟨A, rfl⟩ := Int.eq_ofNat_of_zero_le ha.1
  have hA : A < 18446744073709551616 := by have := ha.2; omega
  have e1 : Go.bits .andNot .u64 (A : Int) 4095 = ((A &&& (18446744073709551615 - 4095) : Nat) : Int) := u64_andNot_nat A 4095 hA (by decide)
  have e2 : A &&& (18446744073709551615 - 4095) = A / 4096 * 4096 := by
    apply Nat.eq_of_testBit_eq
    intro j
    rw [Nat.testBit_and, show (18446744073709551615 - 4095 : Nat) = (2 ^ 52 - 1) * 2 ^ 12 by decide +kernel, Nat.testBit_mul_two_pow, Nat.testBit_two_pow_sub_one, show A / 4096 * 4096 = A / 2 ^ 12 * 2 ^ 12 by rfl, Nat.testBit_mul_two_pow, Nat.testBit_div_two_pow]
    by_cases h : 12 ≤ j
    · simp only [h, decide_true, Bool.true_and]
      rw [show j - 12 + 12 = j by omega]
      by_cases h2 : j - 12 < 52
      · simp only [h2, decide_true, Bool.and_true]
      · simp only [h2, decide_false, Bool.and_false]
        exact (Nat.testBit_lt_two_pow (Nat.lt_of_lt_of_le hA (show 2 ^ 64 ≤ 2 ^ j from Nat.pow_le_pow_right (n := 2) (by decide) (by omega)))).symm
    · simp only [h, decide_false, Bool.false_and, Bool.and_false]
  rw [e1, e2]; omega
theorem sext_page (g x : Int) (h0 : u64B (g + x)) (hg : g % 4096 = 0) (hg0 : 0 ≤ g) (hx : 0 ≤ x ∧ x ≤ 4095) : sextZ (g + x) 39 = g + x ↔ sextZ g 39 = g := by
  have a1 := h0.2
  unfold sextZ
  rw [if_neg (show ¬ (39 : Int) ≤ 0 by decide), if_neg (show ¬ (63 : Int) < 39 by decide), if_neg (show ¬ (39 : Int) ≤ 0 by decide), if_neg (show ¬ (63 : Int) < 39 by decide)]
  show (if (g + x) % 549755813888 < 274877906944 then (g + x) % 549755813888 else (g + x) % 549755813888 - 549755813888 + 18446744073709551616) = g + x ↔ (if g % 549755813888 < 274877906944 then g % 549755813888 else g % 549755813888 - 549755813888 + 18446744073709551616) = g
  split <;> split <;> omega
theorem field_page (g x : Int) (n : Nat) (hn : n < 3) (hg : g % 4096 = 0) (hx : 0 ≤ x ∧ x ≤ 4095) : fieldZ (g + x) (lowZ (2 - (n : Int)) + 9 - 1) (lowZ (2 - (n : Int))) = fieldZ g (lowZ (2 - (n : Int)) + 9 - 1) (lowZ (2 - (n : Int))) := by
  rcases (show n = 0 ∨ n = 1 ∨ n = 2 by omega) with rfl | rfl | rfl
  · rw [fieldZ_in _ _ _ (by decide) (by decide) (by decide), fieldZ_in _ _ _ (by decide) (by decide) (by decide)]
    show (g + x) / 4096 % 512 = g / 4096 % 512
    omega
  · rw [fieldZ_in _ _ _ (by decide) (by decide) (by decide), fieldZ_in _ _ _ (by decide) (by decide) (by decide)]
    show (g + x) / 2097152 % 512 = g / 2097152 % 512
    omega
  · rw [fieldZ_in _ _ _ (by decide) (by decide) (by decide), fieldZ_in _ _ _ (by decide) (by decide) (by decide)]
    show (g + x) / 1073741824 % 512 = g / 1073741824 % 512
    omega
theorem leaf_page (l : List Int) (g x : Int) (h0 : u64B (g + x)) (hg : g % 4096 = 0) (hg0 : 0 ≤ g) (hx : 0 ≤ x ∧ x ≤ 4095) : ∀ (n : Nat) (T : Int), n ≤ 3 → leafZ l (g + x) n T = leafZ l g n T := by
  intro n
  induction n with
  | zero => intro T _; rfl
  | succ n ih =>
    intro T hn
    have hp : placeT T (g + x) (2 - (n : Int)) = placeT T g (2 - (n : Int)) := by unfold placeT; rw [field_page g x n (by omega) hg hx]
    rw [leafZ, leafZ, hp, ih _ (by omega)]
    by_cases h : sextZ g 39 = g
    · rw [if_pos h, if_pos ((sext_page g x h0 hg hg0 hx).2 h)]
    · rw [if_neg h, if_neg (fun h2 => h ((sext_page g x h0 hg hg0 hx).1 h2))]
/-- One page leads to one page, or nowhere. -/
theorem offsets (l : List Int) (satp status priv g kind : Int) (hb : ∀ z ∈ l, byte z) (hg : g % 4096 = 0) (hg0 : 0 ≤ g) (hg1 : g + 4095 ≤ 18446744073709551615) :
    (∃ f s, ∀ x, 0 ≤ x → x ≤ 4095 → transZ l satp status priv (g + x) kind = (0, s, f, false)) ∨
    (∃ B s, B % 4096 = 0 ∧ 0 ≤ B ∧ B + 4095 ≤ 18446744073709551615 ∧ ∀ x, 0 ≤ x → x ≤ 4095 → transZ l satp status priv (g + x) kind = (B + x, s, 0, true)) := by
  by_cases ht : 3 ≤ priv ∨ satp / 1152921504606846976 ≠ 8
  · refine .inr ⟨g, l, hg, hg0, hg1, fun x _ _ => ?_⟩
    rw [trans_fin, if_pos ht]
  · have hL : ∀ x, 0 ≤ x → x ≤ 4095 → transZ l satp status priv (g + x) kind = finZ l status priv (g + x) kind (leafZ l g 3 (T0Z satp)) := fun x h0 h1 => by
      rw [trans_fin, if_neg ht, leaf_page l g x ⟨by omega, by omega⟩ hg hg0 ⟨h0, h1⟩ 3 _ (Nat.le_refl _)]
    cases hR : leafZ l g 3 (T0Z satp) with
    | mk c r =>
      obtain ⟨p, e, i⟩ := r
      rw [hR] at hL
      by_cases h2 : c = 2
      · subst h2
        obtain ⟨_, _, _, _, hi⟩ := leaf_is l g 3 _ (T0_8 satp) p e i hR
        have he := leaf_u64 hb (T0_8 satp) hR
        by_cases hm : mayZ e status priv kind = true
        · by_cases hk : maskZ e i > 0
          · refine .inl ⟨faultZ kind true, l, fun x h0 h1 => ?_⟩
            rw [hL x h0 h1]
            unfold finZ
            rw [if_pos rfl, if_pos hm, if_pos hk]
          · obtain ⟨M, hM, hlt⟩ := num_nat e he
            obtain ⟨_, hz⟩ := addr_is e g i he ⟨hg0, by omega⟩ hi hk
            rw [hM] at hz
            refine .inr ⟨(M : Int) * 4096 + g % 2 ^ (12 + 9 * i), writeL l p 8 (markZ e kind), ?_, ?_, ?_, fun x h0 h1 => ?_⟩
            · rcases (show i = 0 ∨ i = 1 ∨ i = 2 by omega) with rfl | rfl | rfl <;> omega
            · rcases (show i = 0 ∨ i = 1 ∨ i = 2 by omega) with rfl | rfl | rfl <;> omega
            · rcases (show i = 0 ∨ i = 1 ∨ i = 2 by omega) with rfl | rfl | rfl <;> omega
            · rw [hL x h0 h1]
              unfold finZ
              rw [if_pos rfl, if_pos hm, if_neg hk]
              obtain ⟨ha, _⟩ := addr_is e (g + x) i he ⟨by omega, by omega⟩ hi hk
              have : addrZ e (g + x) i = (M : Int) * 4096 + g % 2 ^ (12 + 9 * i) + x := by
                rw [ha, hM]
                rcases (show i = 0 ∨ i = 1 ∨ i = 2 by omega) with rfl | rfl | rfl <;> omega
              rw [this]
        · refine .inl ⟨faultZ kind true, l, fun x h0 h1 => ?_⟩
          rw [hL x h0 h1]
          unfold finZ
          rw [if_pos rfl, if_neg hm]
      · by_cases h1 : c = 1
        · refine .inl ⟨faultZ kind false, l, fun x h0 h3 => ?_⟩
          rw [hL x h0 h3]
          unfold finZ
          rw [if_neg h2, if_pos h1]
        · refine .inl ⟨faultZ kind true, l, fun x h0 h3 => ?_⟩
          rw [hL x h0 h3]
          unfold finZ
          rw [if_neg h2, if_neg h1]
theorem Sv39Offset : Sv39Offset.Said := by
  intro l satp status priv at_ x y kind hl hlb hs hst hp hat hx hy hk
  have hS := u64_wf hs
  have hST := u64_wf hst
  have hAT := u64_wf hat
  have hB : ∀ z ∈ l, byte z := fun z hz => byte_wf (hlb z hz)
  refine ⟨3, ?_⟩
  unfold drawbridgelaw08_Sv39Offset.f
  by_cases h : (l.length : Int) > 70000
  · rw [if_pos h]; rfl
  have hL : (l.length : Int) ≤ 70000 := by omega
  rw [if_neg h]
  by_cases h1 : x < 0
  · rw [if_pos h1]; rfl
  by_cases h2 : x > 4095
  · rw [if_neg h1, if_pos h2]; rfl
  by_cases h3 : y < 0
  · rw [if_neg h1, if_neg h2, if_pos h3]; rfl
  by_cases h4 : y > 4095
  · rw [if_neg h1, if_neg h2, if_neg h3, decide_eq_true h4]; rfl
  rw [if_neg h1, if_neg h2, if_neg h3, decide_eq_false h4, drawbridgelaw08_Sv39Offset.j0, if_neg (by decide), page_is at_ hAT]
  obtain ⟨a0, a1⟩ := hAT
  have wx : IntKind.u64.wrap x = x := by rw [IntKind.wrap_u64]; omega
  have wy : IntKind.u64.wrap y = y := by rw [IntKind.wrap_u64]; omega
  have wgx : IntKind.u64.wrap (at_ - at_ % 4096 + x) = at_ - at_ % 4096 + x := by rw [IntKind.wrap_u64]; omega
  have wgy : IntKind.u64.wrap (at_ - at_ % 4096 + y) = at_ - at_ % 4096 + y := by rw [IntKind.wrap_u64]; omega
  rw [wx, wy, wgx, wgy, trans_is l satp status priv _ kind hS hST ⟨by omega, by omega⟩ hL hB, Option.bind_some, trans_is l satp status priv _ kind hS hST ⟨by omega, by omega⟩ hL hB, Option.bind_some]
  rcases offsets l satp status priv (at_ - at_ % 4096) kind hB (by omega) (by omega) (by omega) with ⟨f, s, e⟩ | ⟨B, s, hB1, hB2, hB3, e⟩
  · rw [e x (by omega) (by omega), e y (by omega) (by omega)]
    rfl
  · rw [e x (by omega) (by omega), e y (by omega) (by omega)]
    have w1 : IntKind.u64.wrap (B + x - x) = B := by rw [IntKind.wrap_u64]; omega
    have w2 : IntKind.u64.wrap (B + y - y) = B := by rw [IntKind.wrap_u64]; omega
    simp only [if_true, Bool.not_true, drawbridgelaw08_Sv39Offset.j1, wx, wy, w1, w2, Bool.false_eq_true, if_false, same07_self, Option.bind_some]
    rw [if_pos (by rw [Int.tmod_eq_emod_of_nonneg (by omega)]; omega)]
    rfl
end Go.Proofs.Ytbidnolopbjlaaa.Pure
