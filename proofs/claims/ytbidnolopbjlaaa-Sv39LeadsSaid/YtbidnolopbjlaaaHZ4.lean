import Derived.Test.YtbidnolopbjlaaaHPs8
import Derived.Laws.BitsAllLaws
section
/- The marks A and D of an entry change nothing else of it (layer 8). -/
set_option linter.unusedVariables false
set_option linter.unusedSimpArgs false
namespace Go.Proofs.Ytbidnolopbjlaaa.Q
open Go.RowKit Go.Proofs.YtbidnolopbjlaaaW.PrintWords Go.Proofs.YtbidnolopbjlaaaW.PrintLast Go.Proofs.YtbidnolopbjlaaaW.PrintMore Go.Proofs.Ytbidnolopbjlaaa.L
def markC (kind : Int) : Nat := if kind = 2 then 192 else 64
theorem markC_lt (kind : Int) : markC kind < 256 := by unfold markC; split <;> omega
theorem mark_nat (E : Nat) (kind : Int) (hE : E < 18446744073709551616) : markZ (E : Int) kind = ((E ||| markC kind : Nat) : Int) := by
  have h1 : E ||| 64 < 18446744073709551616 := Nat.or_lt_two_pow (n := 64) hE (by decide)
  have e1 : Go.bits .or .u64 (E : Int) 64 = ((E ||| 64 : Nat) : Int) := u64_or_nat E 64 hE (by decide)
  have e2 : Go.bits .or .u64 ((E ||| 64 : Nat) : Int) 128 = (((E ||| 64) ||| 128 : Nat) : Int) := u64_or_nat (E ||| 64) 128 h1 (by decide)
  unfold markZ markC
  rw [e1]
  split
  · rw [e2, Nat.or_assoc, show 64 ||| 128 = 192 by decide]
  · rfl
theorem mark_lt (E : Nat) (kind : Int) (hE : E < 18446744073709551616) : E ||| markC kind < 18446744073709551616 := Nat.or_lt_two_pow (n := 64) hE (Nat.lt_trans (markC_lt kind) (by decide))
theorem mark_u64 (e kind : Int) (he : u64B e) : u64B (markZ e kind) := by
  obtain ⟨E, rfl⟩ := Int.eq_ofNat_of_zero_le he.1
  have hE : E < 18446744073709551616 := by have := he.2; omega
  rw [mark_nat E kind hE]
  exact ⟨by omega, by have := mark_lt E kind hE; omega⟩
theorem mark_and (e kind : Int) (m : Nat) (he : u64B e) (hm : m < 18446744073709551616) (h6 : 64 &&& m = 0) (h7 : 192 &&& m = 0) : Go.bits .and .u64 (markZ e kind) (m : Int) = Go.bits .and .u64 e (m : Int) := by
  obtain ⟨E, rfl⟩ := Int.eq_ofNat_of_zero_le he.1
  have hE : E < 18446744073709551616 := by have := he.2; omega
  rw [mark_nat E kind hE, u64_and_nat _ _ (mark_lt E kind hE) hm, u64_and_nat _ _ hE hm, Nat.and_or_distrib_right]
  have : markC kind &&& m = 0 := by unfold markC; split <;> assumption
  rw [this, Nat.or_zero]
theorem mark_shift (E : Nat) (kind : Int) (l : Nat) (hl : 8 ≤ l) : (E ||| markC kind) / 2 ^ l = E / 2 ^ l := by
  rw [← Nat.shiftRight_eq_div_pow, ← Nat.shiftRight_eq_div_pow, Nat.shiftRight_or_distrib]
  have : markC kind >>> l = 0 := by
    rw [Nat.shiftRight_eq_div_pow]
    exact Nat.div_eq_of_lt (Nat.lt_of_lt_of_le (markC_lt kind) (Nat.pow_le_pow_right (n := 2) (by decide) hl))
  rw [this, Nat.or_zero]
theorem mark_field (e kind : Int) (H L : Nat) (he : u64B e) (hl : 8 ≤ L) (hlh : L ≤ H) (hh : H ≤ 63) : fieldZ (markZ e kind) H L = fieldZ e H L := by
  obtain ⟨E, rfl⟩ := Int.eq_ofNat_of_zero_le he.1
  have hE : E < 18446744073709551616 := by have := he.2; omega
  rw [mark_nat E kind hE, fieldZ_in _ _ _ (by omega) (by omega) (by omega), fieldZ_in _ _ _ (by omega) (by omega) (by omega), Int.toNat_natCast]
  have e1 : (((E ||| markC kind : Nat) : Int) / 2 ^ L) = (((E ||| markC kind) / 2 ^ L : Nat) : Int) := by simp
  have e2 : ((E : Int) / 2 ^ L) = ((E / 2 ^ L : Nat) : Int) := by simp
  rw [e1, e2, mark_shift E kind L hl]
theorem mark_mark (e kind : Int) (he : u64B e) : markZ (markZ e kind) kind = markZ e kind := by
  obtain ⟨E, rfl⟩ := Int.eq_ofNat_of_zero_le he.1
  have hE : E < 18446744073709551616 := by have := he.2; omega
  rw [mark_nat E kind hE, mark_nat _ kind (mark_lt E kind hE), Nat.or_assoc, Nat.or_self]
theorem mark_odd (e kind : Int) (he : u64B e) : oddZ (markZ e kind) = oddZ e := by
  unfold oddZ sv39_odd.f
  have h1 := mark_and e kind 1 he (by decide) (by decide) (by decide)
  have h6 := mark_and e kind 6 he (by decide) (by decide) (by decide)
  have hf := mark_field e kind 63 54 he (by decide) (by decide) (by decide)
  rw [field_tells _ 63 54 (mark_u64 e kind he) (by decide) (by decide), field_tells _ 63 54 he (by decide) (by decide)]
  have g1 : Go.bits .and .u64 (markZ e kind) 1 = Go.bits .and .u64 e 1 := h1
  have g6 : Go.bits .and .u64 (markZ e kind) 6 = Go.bits .and .u64 e 6 := h6
  have gf : fieldZ (markZ e kind) 63 54 = fieldZ e 63 54 := hf
  rw [g1, g6, gf]
theorem mark_may (e status priv kind k2 : Int) (he : u64B e) : mayZ (markZ e kind) status priv k2 = mayZ e status priv k2 := by
  have h16 : Go.bits .and .u64 (markZ e kind) 16 = Go.bits .and .u64 e 16 := mark_and e kind 16 he (by decide) (by decide) (by decide)
  have h8 : Go.bits .and .u64 (markZ e kind) 8 = Go.bits .and .u64 e 8 := mark_and e kind 8 he (by decide) (by decide) (by decide)
  have h4 : Go.bits .and .u64 (markZ e kind) 4 = Go.bits .and .u64 e 4 := mark_and e kind 4 he (by decide) (by decide) (by decide)
  have h2 : Go.bits .and .u64 (markZ e kind) 2 = Go.bits .and .u64 e 2 := mark_and e kind 2 he (by decide) (by decide) (by decide)
  have h10 : Go.bits .and .u64 (markZ e kind) 10 = Go.bits .and .u64 e 10 := mark_and e kind 10 he (by decide) (by decide) (by decide)
  unfold mayZ sv39_may.f
  rw [h16, h8, h4, h2, h10]
theorem mark_num (e kind : Int) (he : u64B e) : fieldZ (markZ e kind) 53 10 = fieldZ e 53 10 := mark_field e kind 53 10 he (by decide) (by decide) (by decide)
theorem fault_pos (kind : Int) (b : Bool) : faultZ kind b > 0 := by unfold faultZ; (repeat' split) <;> decide
/-! ### what it comes to -/
def T0Z (satp : Int) : Int := IntKind.u64.wrap (fieldZ satp 43 0 * 4096)
theorem trans_fin (l : List Int) (satp status priv at_ kind : Int) : transZ l satp status priv at_ kind = if 3 ≤ priv ∨ satp / 1152921504606846976 ≠ 8 then (at_, l, 0, true) else finZ l status priv at_ kind (leafZ l at_ 3 (T0Z satp)) := by
  unfold transZ; rw [walk_leaf]; rfl
theorem T0_8 (satp : Int) : T0Z satp % 8 = 0 := wrap8 _
theorem fin_cases (l : List Int) (status priv at_ kind : Int) (r : Int × Int × Int × Nat) :
    (∃ f, f > 0 ∧ finZ l status priv at_ kind r = (0, l, f, false) ∧ (r.1 = 2 → mayZ r.2.2.1 status priv kind = true → maskZ r.2.2.1 r.2.2.2 > 0)) ∨
    (∃ p e i, r = (2, p, e, i) ∧ mayZ e status priv kind = true ∧ ¬ maskZ e i > 0 ∧ finZ l status priv at_ kind r = (addrZ e at_ i, writeL l p 8 (markZ e kind), 0, true)) := by
  obtain ⟨c, p, e, i⟩ := r
  unfold finZ
  by_cases h2 : c = 2
  · subst h2
    rw [if_pos rfl]
    cases hm : mayZ e status priv kind
    · exact .inl ⟨faultZ kind true, fault_pos _ _, by simp [hm], fun _ h => by simp at h⟩
    · simp only [hm, if_true]
      by_cases hk : maskZ e i > 0
      · exact .inl ⟨_, fault_pos _ _, by rw [if_pos hk], fun _ _ => hk⟩
      · exact .inr ⟨p, e, i, rfl, hm, hk, by rw [if_neg hk]⟩
  · rw [if_neg h2]
    by_cases h1 : c = 1
    · exact .inl ⟨_, fault_pos _ _, by rw [if_pos h1], fun h => absurd h h2⟩
    · exact .inl ⟨_, fault_pos _ _, by rw [if_neg h1], fun h => absurd h h2⟩
theorem trans_is (l : List Int) (satp status priv at_ kind : Int) (h1 : u64B satp) (h2 : u64B status) (h3 : u64B at_) (h4 : (l.length : Int) ≤ 70000) (h5 : ∀ z ∈ l, byte z) : sv39_Translate.f l satp status priv at_ kind = some (transZ l satp status priv at_ kind) := by
  unfold sv39_Translate.f; rw [if_pos ⟨h1, h2, h3, h4, h5⟩]
end Go.Proofs.Ytbidnolopbjlaaa.Q
end
section
/- Where a leaf leads: its number and the offset (layer 8). Plain facts. -/
set_option linter.unusedVariables false
set_option linter.unusedSimpArgs false
namespace Go.Proofs.Ytbidnolopbjlaaa.Q
open Go.RowKit Go.Proofs.YtbidnolopbjlaaaW.PrintWords Go.Proofs.YtbidnolopbjlaaaW.PrintLast Go.Proofs.YtbidnolopbjlaaaW.PrintMore Go.Proofs.Ytbidnolopbjlaaa.L
theorem num_nat (e : Int) (he : u64B e) : ∃ M : Nat, fieldZ e 53 10 = (M : Int) ∧ M < 17592186044416 := by
  have h0 := he.1
  have h1 := he.2
  have h : fieldZ e 53 10 = e / 1024 % 17592186044416 := by
    rw [fieldZ_in _ _ _ (by decide) (by decide) (by decide)]; rfl
  exact ⟨(fieldZ e 53 10).toNat, by rw [h]; omega, by rw [h]; omega⟩
theorem mask_mod (e : Int) (i : Nat) (he : u64B e) (hi : i < 3) : maskZ e i = fieldZ e 53 10 % 2 ^ (9 * i) := by
  obtain ⟨M, hM, hlt⟩ := num_nat e he
  unfold maskZ
  have hw : IntKind.u64.wrap (IntKind.u64.wrap (2 ^ (9 * i)) - 1) = ((2 ^ (9 * i) - 1 : Nat) : Int) := by
    rcases (show i = 0 ∨ i = 1 ∨ i = 2 by omega) with rfl | rfl | rfl <;> decide +kernel
  have hs : 2 ^ (9 * i) - 1 < 18446744073709551616 := by
    rcases (show i = 0 ∨ i = 1 ∨ i = 2 by omega) with rfl | rfl | rfl <;> decide +kernel
  rw [hM, hw, u64_and_nat M _ (by omega) hs, Nat.and_two_pow_sub_one_eq_mod]
  simp
theorem u64_or_swap (a b : Int) (ha : u64B a) (hb : u64B b) : Go.bits .or .u64 a b = Go.bits .or .u64 b a := by
  obtain ⟨a0, a1⟩ := ha
  obtain ⟨b0, b1⟩ := hb
  rw [u64_or a b a0 (by omega) b0 (by omega), u64_or b a b0 (by omega) a0 (by omega), Nat.or_comm]
theorem low_field (a : Int) (i : Nat) (hi : i < 3) : fieldZ a (lowZ (2 - (i : Int)) - 1) 0 = a % 2 ^ (12 + 9 * i) := by
  rcases (show i = 0 ∨ i = 1 ∨ i = 2 by omega) with rfl | rfl | rfl
  all_goals
    rw [fieldZ_in _ _ _ (by decide) (by decide) (by decide)]
    have : a / 2 ^ (0 : Int).toNat = a := by simp
    rw [this]; rfl
theorem addr_is (e a : Int) (i : Nat) (he : u64B e) (ha : u64B a) (hi : i < 3) (hm : ¬ maskZ e i > 0) : addrZ e a i = fieldZ e 53 10 * 4096 + a % 2 ^ (12 + 9 * i) ∧ fieldZ e 53 10 * 4096 % 2 ^ (12 + 9 * i) = 0 := by
  have a0 := ha.1
  have a1 := ha.2
  rw [mask_mod e i he hi] at hm
  unfold addrZ
  rw [low_field a i hi]
  obtain ⟨M, hM, hlt⟩ := num_nat e he
  rw [hM] at hm ⊢
  have hw : IntKind.u64.wrap ((M : Int) * 4096) = (M : Int) * 4096 := by rw [IntKind.wrap_u64]; omega
  rw [hw]
  rcases (show i = 0 ∨ i = 1 ∨ i = 2 by omega) with rfl | rfl | rfl
  · refine ⟨?_, by omega⟩
    rw [u64_or_swap _ _ ⟨by omega, by omega⟩ ⟨by omega, by omega⟩]
    have hR : 0 ≤ a % 2 ^ (12 + 9 * 0) ∧ a % 2 ^ (12 + 9 * 0) < 4096 := by omega
    generalize a % 2 ^ (12 + 9 * 0) = R at hR ⊢
    have := u64_or_add R (M : Int) 12 (by omega) (by omega) (by omega) (by omega)
    rw [show (2 : Int) ^ 12 = 4096 by decide] at this
    rw [this]; omega
  · refine ⟨?_, by omega⟩
    obtain ⟨Q, hQ⟩ : ∃ Q : Int, (M : Int) * 4096 = Q * 2097152 := ⟨(M : Int) / 512, by omega⟩
    rw [u64_or_swap _ _ ⟨by omega, by omega⟩ ⟨by omega, by omega⟩, hQ]
    have hR : 0 ≤ a % 2 ^ (12 + 9 * 1) ∧ a % 2 ^ (12 + 9 * 1) < 2097152 := by omega
    generalize a % 2 ^ (12 + 9 * 1) = R at hR ⊢
    have := u64_or_add R Q 21 (by omega) (by omega) (by omega) (by omega)
    rw [show (2 : Int) ^ 21 = 2097152 by decide] at this
    rw [this]; omega
  · refine ⟨?_, by omega⟩
    obtain ⟨Q, hQ⟩ : ∃ Q : Int, (M : Int) * 4096 = Q * 1073741824 := ⟨(M : Int) / 262144, by omega⟩
    rw [u64_or_swap _ _ ⟨by omega, by omega⟩ ⟨by omega, by omega⟩, hQ]
    have hR : 0 ≤ a % 2 ^ (12 + 9 * 2) ∧ a % 2 ^ (12 + 9 * 2) < 1073741824 := by omega
    generalize a % 2 ^ (12 + 9 * 2) = R at hR ⊢
    have := u64_or_add R Q 30 (by omega) (by omega) (by omega) (by omega)
    rw [show (2 : Int) ^ 30 = 1073741824 by decide] at this
    rw [this]; omega
theorem leaf_u64 {l : List Int} {at_ T p e : Int} {i : Nat} (hb : ∀ z ∈ l, byte z) (hT : T % 8 = 0) {n : Nat} (h : leafZ l at_ n T = (2, p, e, i)) : u64B e := by
  obtain ⟨hr, _⟩ := leaf_is l at_ n T hT p e i h
  have := readZ_u64 l p 8 hb
  rw [hr] at this; exact this
end Go.Proofs.Ytbidnolopbjlaaa.Q
end
