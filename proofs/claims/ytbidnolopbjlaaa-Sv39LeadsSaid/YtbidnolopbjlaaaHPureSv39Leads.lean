import Derived.Test.YtbidnolopbjlaaaHSaidSv39Leads
import Derived.Test.YtbidnolopbjlaaaHZ4
import Derived.Test.YtbidnolopbjlaaaHZ3
/- Sv39Leads: the translation, its memory and its faults are the reference's; for every memory, registers, privilege, address and kind. No condition beyond the statement's own. -/
set_option linter.unusedVariables false
set_option linter.unusedSimpArgs false
namespace Go.Proofs.Ytbidnolopbjlaaa.Pure
open Go.RowKit Go.Proofs.Ytbidnolopbjlaaa.Q Go.Proofs.YtbidnolopbjlaaaW.PrintWords Go.Proofs.YtbidnolopbjlaaaW.PrintLast Go.Proofs.YtbidnolopbjlaaaW.PrintMore Go.Proofs.Ytbidnolopbjlaaa.L
theorem rf (k : Nat) (x h l : Int) (hx : u64B x) (hh : -9223372036854775808 ≤ h ∧ h ≤ 9223372036854775807) (hl : -9223372036854775808 ≤ l ∧ l ≤ 9223372036854775807) : drawbridgeref08_f.f (k + 1) x h l = some (fieldZ x h l) := by
  unfold drawbridgeref08_f.f; rw [reffield_tells k x h l hx hh hl]; rfl
theorem rfault (k : Nat) (kind : Int) (b : Bool) : drawbridgeref08_Fault.f (k + 2) kind b = some (faultZ kind b) := by
  unfold drawbridgeref08_Fault.f faultZ
  simp only [drawbridgeref08_Fault.j0, drawbridgeref08_Fault.j1]
  by_cases h0 : kind = 0
  · subst h0; cases b <;> rfl
  · by_cases h2 : kind = 2
    · subst h2; cases b <;> rfl
    · rw [if_neg h0, if_neg h0, if_neg h2, if_neg h2, if_neg h0, if_neg h2]
      cases b <;> rfl
theorem bits8 : ∀ y : Nat, y < 256 → ((y &&& 1) = y % 2) ∧ ((y &&& 6) = 4 ↔ y / 2 % 4 = 2) ∧ ((y &&& 10) = 0 ↔ ¬ y / 2 % 2 = 1 ∧ ¬ y / 8 % 2 = 1) ∧ ((y &&& 208) = 0 ↔ ¬ y / 16 % 2 = 1 ∧ y / 64 % 4 = 0) ∧ ((y &&& 16) = 0 ↔ ¬ y / 16 % 2 = 1) ∧ ((y &&& 8) = 0 ↔ ¬ y / 8 % 2 = 1) ∧ ((y &&& 4) = 0 ↔ ¬ y / 4 % 2 = 1) ∧ ((y &&& 2) = 0 ↔ ¬ y / 2 % 2 = 1) := by decide +kernel
theorem and_low (E m : Nat) (hE : E < 18446744073709551616) (hm : m < 256) (hm2 : 255 &&& m = m) : Go.bits .and .u64 (E : Int) (m : Int) = ((E % 256 &&& m : Nat) : Int) := by
  have h8 : E &&& 255 = E % 256 := Nat.and_two_pow_sub_one_eq_mod E 8
  have h : E &&& m = E % 256 &&& m := by
    rw [← h8, Nat.and_assoc, hm2]
  rw [u64_and_nat E m hE (by omega), h]
/-- The entry's own marks, told by masks and by fields. -/
structure Told (e : Int) : Prop where
  v : Go.bits .and .u64 e 1 = 0 ↔ fieldZ e 0 0 = 0
  w : Go.bits .and .u64 e 6 = 4 ↔ fieldZ e 2 1 = 2
  l : Go.bits .and .u64 e 10 = 0 ↔ ¬ fieldZ e 1 1 = 1 ∧ ¬ fieldZ e 3 3 = 1
  p : Go.bits .and .u64 e 208 > 0 ↔ fieldZ e 4 4 = 1 ∨ fieldZ e 7 6 ≠ 0
  u : Go.bits .and .u64 e 16 > 0 ↔ fieldZ e 4 4 = 1
  x : Go.bits .and .u64 e 8 > 0 ↔ fieldZ e 3 3 = 1
  t : Go.bits .and .u64 e 4 > 0 ↔ fieldZ e 2 2 = 1
  r : Go.bits .and .u64 e 2 > 0 ↔ fieldZ e 1 1 = 1
  m : Go.bits .and .u64 e 10 > 0 ↔ fieldZ e 1 1 = 1 ∨ fieldZ e 3 3 = 1
theorem told (e : Int) (he : u64B e) : Told e := by
  obtain ⟨E, rfl⟩ := Int.eq_ofNat_of_zero_le he.1
  have hE : E < 18446744073709551616 := by have := he.2; omega
  have hy : E % 256 < 256 := Nat.mod_lt _ (by decide)
  have f00 : fieldZ (E : Int) 0 0 = ((E % 256 % 2 : Nat) : Int) := by
    rw [fieldZ_in _ _ _ (by decide) (by decide) (by decide)]; show (E : Int) / 1 % 2 = _; omega
  have f21 : fieldZ (E : Int) 2 1 = ((E % 256 / 2 % 4 : Nat) : Int) := by
    rw [fieldZ_in _ _ _ (by decide) (by decide) (by decide)]; show (E : Int) / 2 % 4 = _; omega
  have f11 : fieldZ (E : Int) 1 1 = ((E % 256 / 2 % 2 : Nat) : Int) := by
    rw [fieldZ_in _ _ _ (by decide) (by decide) (by decide)]; show (E : Int) / 2 % 2 = _; omega
  have f22 : fieldZ (E : Int) 2 2 = ((E % 256 / 4 % 2 : Nat) : Int) := by
    rw [fieldZ_in _ _ _ (by decide) (by decide) (by decide)]; show (E : Int) / 4 % 2 = _; omega
  have f33 : fieldZ (E : Int) 3 3 = ((E % 256 / 8 % 2 : Nat) : Int) := by
    rw [fieldZ_in _ _ _ (by decide) (by decide) (by decide)]; show (E : Int) / 8 % 2 = _; omega
  have f44 : fieldZ (E : Int) 4 4 = ((E % 256 / 16 % 2 : Nat) : Int) := by
    rw [fieldZ_in _ _ _ (by decide) (by decide) (by decide)]; show (E : Int) / 16 % 2 = _; omega
  have f76 : fieldZ (E : Int) 7 6 = ((E % 256 / 64 % 4 : Nat) : Int) := by
    rw [fieldZ_in _ _ _ (by decide) (by decide) (by decide)]; show (E : Int) / 64 % 4 = _; omega
  have a1 : Go.bits .and .u64 (E : Int) 1 = ((E % 256 &&& 1 : Nat) : Int) := and_low E 1 hE (by decide) (by decide)
  have a6 : Go.bits .and .u64 (E : Int) 6 = ((E % 256 &&& 6 : Nat) : Int) := and_low E 6 hE (by decide) (by decide)
  have a10 : Go.bits .and .u64 (E : Int) 10 = ((E % 256 &&& 10 : Nat) : Int) := and_low E 10 hE (by decide) (by decide)
  have a208 : Go.bits .and .u64 (E : Int) 208 = ((E % 256 &&& 208 : Nat) : Int) := and_low E 208 hE (by decide) (by decide)
  have a16 : Go.bits .and .u64 (E : Int) 16 = ((E % 256 &&& 16 : Nat) : Int) := and_low E 16 hE (by decide) (by decide)
  have a8 : Go.bits .and .u64 (E : Int) 8 = ((E % 256 &&& 8 : Nat) : Int) := and_low E 8 hE (by decide) (by decide)
  have a4 : Go.bits .and .u64 (E : Int) 4 = ((E % 256 &&& 4 : Nat) : Int) := and_low E 4 hE (by decide) (by decide)
  have a2 : Go.bits .and .u64 (E : Int) 2 = ((E % 256 &&& 2 : Nat) : Int) := and_low E 2 hE (by decide) (by decide)
  obtain ⟨h1, h6, h10, h208, h16, h8, h4, h2⟩ := bits8 (E % 256) hy
  clear hE he
  generalize E % 256 = y at *
  refine ⟨?_, ?_, ?_, ?_, ?_, ?_, ?_, ?_, ?_⟩
  · rw [a1, f00]; omega
  · rw [a6, f21]; omega
  · rw [a10, f11, f33]; omega
  · rw [a208, f44, f76]; omega
  · rw [a16, f44]; omega
  · rw [a8, f33]; omega
  · rw [a4, f22]; omega
  · rw [a2, f11]; omega
  · rw [a10, f11, f33]; omega
theorem one_bit (S j : Nat) (hS : S < 18446744073709551616) (hj : j < 64) : (Go.bits .and .u64 (S : Int) ((2 ^ j : Nat) : Int) > 0) ↔ S / 2 ^ j % 2 = 1 := by
  have hp : 2 ^ j < 18446744073709551616 := show 2 ^ j < 2 ^ 64 from Nat.pow_lt_pow_right (by decide) hj
  have hq : 0 < 2 ^ j := Nat.pow_pos (by decide)
  have hb : S &&& 2 ^ j = if S / 2 ^ j % 2 = 1 then 2 ^ j else 0 := by
    apply Nat.eq_of_testBit_eq
    intro i
    rw [Nat.testBit_and, Nat.testBit_two_pow]
    by_cases hij : j = i
    · subst hij
      rw [Nat.testBit_eq_decide_div_mod_eq]
      by_cases h : S / 2 ^ j % 2 = 1
      · rw [if_pos h, Nat.testBit_two_pow]; simp [h]
      · rw [if_neg h]; simp [h]
    · by_cases h : S / 2 ^ j % 2 = 1
      · rw [if_pos h, Nat.testBit_two_pow]; simp [hij]
      · rw [if_neg h]; simp [hij]
  rw [u64_and_nat S _ hS hp, hb]
  by_cases h : S / 2 ^ j % 2 = 1
  · rw [if_pos h]; exact ⟨fun _ => h, fun _ => by omega⟩
  · rw [if_neg h]; exact ⟨fun h2 => by omega, fun h2 => absurd h2 h⟩
theorem odd_is (e : Int) (he : u64B e) : oddZ e = (fieldZ e 0 0 == 0 || fieldZ e 2 1 == 2 || fieldZ e 63 54 != 0) := by
  have hT := told e he
  unfold oddZ sv39_odd.f
  rw [field_tells e 63 54 he (by decide) (by decide)]
  have h63 : 0 ≤ fieldZ e 63 54 := by
    rw [fieldZ_in _ _ _ (by decide) (by decide) (by decide)]; exact Int.emod_nonneg _ (by decide)
  by_cases h1 : fieldZ e 0 0 = 0
  · rw [if_pos (hT.v.2 h1), h1]; rfl
  · rw [if_neg (fun h => h1 (hT.v.1 h)), show (fieldZ e 0 0 == 0) = false from beq_false_of_ne h1]
    by_cases h2 : fieldZ e 2 1 = 2
    · rw [if_pos (hT.w.2 h2), h2]; rfl
    · rw [if_neg (fun h => h2 (hT.w.1 h)), show (fieldZ e 2 1 == 2) = false from beq_false_of_ne h2, Option.bind_some, Option.getD_some]
      by_cases h3 : fieldZ e 63 54 = 0
      · rw [h3]; rfl
      · rw [decide_eq_true (by omega), bne_iff_ne.2 h3]; rfl
theorem beq_dec (a b : Int) : (a == b) = decide (a = b) := rfl
theorem allowed_is (e status priv kind : Int) (i : Nat) (he : u64B e) (hs : u64B status) (hi : i < 3) : allowedZ e status priv kind i = (mayZ e status priv kind && decide (¬ maskZ e i > 0)) := by
  have hT := told e he
  have e18 : (Go.bits .and .u64 status 262144 > 0) ↔ ¬ fieldZ status 18 18 = 0 := by
    obtain ⟨S, rfl⟩ := Int.eq_ofNat_of_zero_le hs.1
    have hS : S < 18446744073709551616 := by have := hs.2; omega
    have := one_bit S 18 hS (by decide)
    rw [show (2 ^ 18 : Nat) = 262144 by decide] at this
    refine Iff.trans this ?_
    rw [fieldZ_in _ _ _ (by decide) (by decide) (by decide)]; show _ ↔ ¬ (S : Int) / 262144 % 2 = 0; omega
  have e19 : (Go.bits .and .u64 status 524288 > 0) ↔ fieldZ status 19 19 = 1 := by
    obtain ⟨S, rfl⟩ := Int.eq_ofNat_of_zero_le hs.1
    have hS : S < 18446744073709551616 := by have := hs.2; omega
    have := one_bit S 19 hS (by decide)
    rw [show (2 ^ 19 : Nat) = 524288 by decide] at this
    refine Iff.trans this ?_
    rw [fieldZ_in _ _ _ (by decide) (by decide) (by decide)]; show _ ↔ (S : Int) / 524288 % 2 = 1; omega
  have hm : (((i : Int) == 0) || (fieldZ e (10 + 9 * (i : Int) - 1) 10 == 0)) = decide (¬ maskZ e i > 0) := by
    rw [mask_mod e i he hi]
    have h0 := he.1
    have hf : fieldZ e 53 10 = e / 1024 % 17592186044416 := by rw [fieldZ_in _ _ _ (by decide) (by decide) (by decide)]; rfl
    rw [hf]
    rcases (show i = 0 ∨ i = 1 ∨ i = 2 by omega) with rfl | rfl | rfl
    · have : ¬ e / 1024 % 17592186044416 % 2 ^ (9 * 0) > 0 := by omega
      rw [decide_eq_true this]; rfl
    · have hg : fieldZ e (10 + 9 * ((1 : Nat) : Int) - 1) 10 = e / 1024 % 512 := by rw [fieldZ_in _ _ _ (by decide) (by decide) (by decide)]; rfl
      rw [hg, show (((1 : Nat) : Int) == 0) = false by decide, Bool.false_or, beq_dec]
      exact decide_eq_decide.2 (by omega)
    · have hg : fieldZ e (10 + 9 * ((2 : Nat) : Int) - 1) 10 = e / 1024 % 262144 := by rw [fieldZ_in _ _ _ (by decide) (by decide) (by decide)]; rfl
      rw [hg, show (((2 : Nat) : Int) == 0) = false by decide, Bool.false_or, beq_dec]
      exact decide_eq_decide.2 (by omega)
  unfold allowedZ allowedB
  rw [hm]
  generalize decide (¬ maskZ e i > 0) = g
  unfold mayZ sv39_may.f
  simp only [hT.u, hT.x, hT.t, hT.r, hT.m, e18, e19, beq_dec]
  by_cases c4 : fieldZ e 4 4 = 1 <;> by_cases c3 : fieldZ e 3 3 = 1 <;> by_cases c2 : fieldZ e 2 2 = 1 <;> by_cases c1 : fieldZ e 1 1 = 1 <;> by_cases s8 : fieldZ status 18 18 = 0 <;> by_cases s9 : fieldZ status 19 19 = 1 <;> by_cases hp : priv ≥ 1 <;>
    by_cases k0 : kind = 0 <;> by_cases k2 : kind = 2 <;> simp [*, show (priv < 1) = ¬ (priv ≥ 1) from propext (by omega)] <;> omega
section
variable (l : List Int) (status priv at_ kind : Int) (hst : u64B status) (hat : u64B at_) (hL : (l.length : Int) ≤ 70000) (hb : ∀ z ∈ l, byte z) (hx : sextZ at_ 39 = at_)
include hst hat hL hb hx
theorem loop_is : ∀ (n k : Nat) (T : Int), n ≤ 3 → 4 * n + 4 ≤ k → drawbridgeref08_Translate.l0 k status priv at_ kind T ((n : Int) - 1) l = some (walkZ l status priv at_ kind n T) := by
  intro n
  induction n with
  | zero =>
    intro k T _ hk
    obtain ⟨k, rfl⟩ : ∃ m, k = m + 3 := ⟨k - 3, by omega⟩
    rw [drawbridgeref08_Translate.l0, if_neg (by omega), rfault]; rfl
  | succ n ih =>
    intro k T hn hk
    obtain ⟨k, rfl⟩ : ∃ m, k = m + 6 := ⟨k - 6, by omega⟩
    have en : ((n + 1 : Nat) : Int) - 1 = (n : Int) := by omega
    have w1 : wrap64 (20 + wrap64 (9 * (n : Int))) = lowZ (2 - (n : Int)) + 9 - 1 := by unfold lowZ; rw [w64 (x := 9 * (n : Int)) (by omega) (by omega), w64 (by omega) (by omega)]; omega
    have w2 : wrap64 (12 + wrap64 (9 * (n : Int))) = lowZ (2 - (n : Int)) := by unfold lowZ; rw [w64 (x := 9 * (n : Int)) (by omega) (by omega), w64 (by omega) (by omega)]; omega
    have w3 : wrap64 (11 + wrap64 (9 * (n : Int))) = lowZ (2 - (n : Int)) - 1 := by unfold lowZ; rw [w64 (x := 9 * (n : Int)) (by omega) (by omega), w64 (by omega) (by omega)]; omega
    have hlow : lowZ (2 - (n : Int)) = 12 + 9 * (n : Int) := by unfold lowZ; omega
    rw [en, drawbridgeref08_Translate.l0, if_pos (by omega), w1, w2, rf _ at_ _ _ hat (by omega) (by omega), Option.bind_some, walkZ, if_pos hx]
    have hP : u64B (placeT T at_ (2 - (n : Int))) := u64_wrapB _
    change (drawbridgeref07_Read.f l (placeT T at_ (2 - (n : Int))) 8).bind _ = _
    rw [refRead_is l _ 8 hP ⟨by decide, by decide⟩ hL hb, Option.bind_some]
    have he : u64B (readZ l (placeT T at_ (2 - (n : Int))) 8).1 := readZ_u64 l _ 8 hb
    have hPd : IntKind.u64.wrap (T + IntKind.u64.wrap (8 * fieldZ at_ (lowZ (2 - (n : Int)) + 9 - 1) (lowZ (2 - (n : Int))))) = placeT T at_ (2 - (n : Int)) := rfl
    rw [hPd]
    cases hr : (readZ l (placeT T at_ (2 - (n : Int))) 8).2
    · rw [if_neg (by decide), if_neg (by decide), rfault]; rfl
    rw [if_pos rfl, if_pos rfl]
    generalize (readZ l (placeT T at_ (2 - (n : Int))) 8).1 = e at he ⊢
    generalize placeT T at_ (2 - (n : Int)) = p at hP ⊢
    have hT := told e he
    have ho := odd_is e he
    rw [rf _ e 0 0 he (by decide) (by decide), Option.bind_some, rf _ e 2 1 he (by decide) (by decide), Option.bind_some, rf _ e 63 54 he (by decide) (by decide), Option.bind_some]
    have hodd : ∀ x, x = true → drawbridgeref08_Translate.j2 (k + 5) status priv at_ kind (n : Int) p e x l = some (0, l, faultZ kind true, false) := fun x h => by
      rw [h, drawbridgeref08_Translate.j2, if_pos rfl, rfault]; rfl
    by_cases h1 : fieldZ e 0 0 = 0
    · rw [if_pos h1, hodd _ rfl, ho, h1]; rfl
    rw [if_neg h1]
    by_cases h2 : fieldZ e 2 1 = 2
    · rw [if_pos h2, hodd _ rfl, ho, h2, show (fieldZ e 0 0 == 0) = false from beq_false_of_ne h1]; rfl
    rw [if_neg h2]
    by_cases h3 : fieldZ e 63 54 = 0
    rotate_left
    · rw [hodd _ (bne_iff_ne.2 h3), ho, bne_iff_ne.2 h3, Bool.or_true]; rfl
    have ho2 : oddZ e = false := by rw [ho, h3, show (fieldZ e 0 0 == 0) = false from beq_false_of_ne h1, show (fieldZ e 2 1 == 2) = false from beq_false_of_ne h2]; rfl
    rw [ho2, h3, bne_self_eq_false, drawbridgeref08_Translate.j2, if_neg (by decide), if_neg (by decide), rf _ e 1 1 he (by decide) (by decide), Option.bind_some, rf _ e 3 3 he (by decide) (by decide), Option.bind_some]
    by_cases h10 : Go.bits .and .u64 e 10 = 0
    · obtain ⟨g1, g3⟩ := hT.l.1 h10
      rw [if_neg g1, if_pos h10, show (fieldZ e 3 3 == 1) = false from beq_false_of_ne g3, drawbridgeref08_Translate.j3, if_neg (by decide), rf _ e 4 4 he (by decide) (by decide), Option.bind_some, rf _ e 7 6 he (by decide) (by decide), Option.bind_some]
      by_cases h208 : Go.bits .and .u64 e 208 > 0
      · rw [if_pos h208]
        have hpt : ∀ x, x = true → drawbridgeref08_Translate.j4 (k + 3) status priv at_ kind (n : Int) e x l = some (0, l, faultZ kind true, false) := fun x h => by
          rw [h, drawbridgeref08_Translate.j4, if_pos rfl, rfault]; rfl
        by_cases h4 : fieldZ e 4 4 = 1
        · rw [if_pos h4]; exact hpt _ rfl
        · rw [if_neg h4]
          exact hpt _ (bne_iff_ne.2 ((hT.p.1 h208).resolve_left h4))
      · have g4 : ¬ fieldZ e 4 4 = 1 := fun h => h208 (hT.p.2 (.inl h))
        have g6 : fieldZ e 7 6 = 0 := Decidable.byContradiction fun h => h208 (hT.p.2 (.inr h))
        rw [if_neg h208, if_neg g4, g6, bne_self_eq_false, drawbridgeref08_Translate.j4, if_neg (by decide), rf _ e 53 10 he (by decide) (by decide), Option.bind_some, w64 (x := (n : Int) - 1) (by omega) (by omega)]
        exact ih (k + 2) _ (by omega) (by omega)
    · have hleaf : ∀ x, x = true → drawbridgeref08_Translate.j3 (k + 4) status priv at_ kind (n : Int) p e x l = some (if mayZ e status priv kind = true then (if maskZ e n > 0 then (0, l, faultZ kind true, false) else (addrZ e at_ n, writeL l p 8 (markZ e kind), 0, true)) else (0, l, faultZ kind true, false)) := fun x h => by
        rw [h, drawbridgeref08_Translate.j3, if_pos rfl]
        unfold drawbridgeref08_allowed.f
        rw [if_pos ⟨he, hst, by omega, by omega⟩, Option.bind_some, allowed_is e status priv kind n he hst (by omega), w3]
        cases hm : mayZ e status priv kind
        · rw [Bool.false_and, if_neg (by decide), if_neg (by decide), rfault]; rfl
        · by_cases hk2 : maskZ e n > 0
          · rw [decide_eq_false (fun h => h hk2), Bool.and_false, if_neg (by decide), if_pos rfl, if_pos hk2, rfault]; rfl
          · rw [decide_eq_true hk2, Bool.and_true, if_pos rfl, if_pos rfl, if_neg hk2]
            obtain ⟨ha, hz⟩ := addr_is e at_ n he hat (by omega) hk2
            have hmk := mark_u64 e kind he
            have hnum := mark_num e kind he
            obtain ⟨M, hM, hlt⟩ := num_nat e he
            have hlf := low_field at_ n (by omega)
            have hadd : IntKind.u64.wrap (IntKind.u64.wrap (fieldZ (markZ e kind) 53 10 * 4096) + fieldZ at_ (lowZ (2 - (n : Int)) - 1) 0) = addrZ e at_ n := by
              rw [ha, hnum, hlf, hM, IntKind.wrap_u64, IntKind.wrap_u64]
              rcases (show n = 0 ∨ n = 1 ∨ n = 2 by omega) with rfl | rfl | rfl <;> omega
            have hlz : -9223372036854775808 ≤ lowZ (2 - (n : Int)) - 1 ∧ lowZ (2 - (n : Int)) - 1 ≤ 9223372036854775807 := by omega
            by_cases h2k : kind = 2
            · have em : markZ e kind = Go.bits .or .u64 (Go.bits .or .u64 e 64) 128 := by unfold markZ; rw [if_pos h2k]
              rw [if_pos h2k, ← em, refWrite_is l p 8 _ hP ⟨by decide, by decide⟩ hL, Option.bind_some, rf _ _ 53 10 hmk (by decide) (by decide), Option.bind_some, rf _ at_ _ 0 hat hlz (by decide), Option.bind_some, hadd]
            · have em : markZ e kind = Go.bits .or .u64 e 64 := by unfold markZ; rw [if_neg h2k]
              rw [if_neg h2k, ← em, refWrite_is l p 8 _ hP ⟨by decide, by decide⟩ hL, Option.bind_some, rf _ _ 53 10 hmk (by decide) (by decide), Option.bind_some, rf _ at_ _ 0 hat hlz (by decide), Option.bind_some, hadd]
      rw [if_neg h10]
      by_cases g1 : fieldZ e 1 1 = 1
      · rw [if_pos g1]; exact hleaf _ rfl
      · rw [if_neg g1]
        refine hleaf _ (beq_iff_eq.2 ?_)
        exact Decidable.byContradiction fun h => h10 (hT.l.2 ⟨g1, h⟩)
end
theorem walk_else (l : List Int) (status priv at_ kind : Int) (n : Nat) (T : Int) (hx : ¬ sextZ at_ 39 = at_) : walkZ l status priv at_ kind n T = (0, l, faultZ kind true, false) := by
  cases n with
  | zero => rfl
  | succ n => rw [walkZ, if_neg hx]
theorem ref_is (l : List Int) (satp status priv at_ kind : Int) (hs : u64B satp) (hst : u64B status) (hat : u64B at_) (hL : (l.length : Int) ≤ 70000) (hb : ∀ z ∈ l, byte z) : drawbridgeref08_Translate.f 40 l satp status priv at_ kind = some (transZ l satp status priv at_ kind) := by
  unfold drawbridgeref08_Translate.f transZ
  have hf : fieldZ satp 63 60 = satp / 1152921504606846976 := by
    have := hs.1
    have := hs.2
    rw [fieldZ_in _ _ _ (by decide) (by decide) (by decide)]; show satp / 1152921504606846976 % 16 = _; omega
  by_cases h3 : priv ≥ 3
  · rw [if_pos h3, if_pos (.inl h3), drawbridgeref08_Translate.j0, if_pos rfl]
  · rw [if_neg h3, rf _ satp 63 60 hs (by decide) (by decide), Option.bind_some, hf]
    by_cases h8 : satp / 1152921504606846976 = 8
    · rw [if_neg (by omega), h8, bne_self_eq_false, drawbridgeref08_Translate.j0, if_neg (by decide)]
      unfold drawbridgeref01_Sext.f
      rw [if_pos hat, Option.bind_some]
      by_cases hx : sextZ at_ 39 = at_
      · rw [if_pos hx, rf _ satp 43 0 hs (by decide) (by decide), Option.bind_some]
        exact loop_is l status priv at_ kind hst hat hL hb hx 3 39 _ (by decide) (by decide)
      · rw [if_neg hx, rfault, walk_else l status priv at_ kind 3 _ hx]; rfl
    · rw [if_pos (.inr h8), bne_iff_ne.2 h8, drawbridgeref08_Translate.j0, if_pos rfl]
theorem Sv39Leads : Sv39Leads.Said := by
  intro l satp status priv at_ kind hl hlb hs hst hp hat hk
  have hS := u64_wf hs
  have hST := u64_wf hst
  have hAT := u64_wf hat
  have hB : ∀ z ∈ l, byte z := fun z hz => byte_wf (hlb z hz)
  refine ⟨40, ?_⟩
  unfold drawbridgelaw08_Sv39Leads.f
  by_cases h : (l.length : Int) > 70000
  · rw [if_pos h]; rfl
  have hL : (l.length : Int) ≤ 70000 := by omega
  rw [if_neg h, Option.bind_some, if_pos (by simp; omega), List.nil_append, Option.bind_some, trans_is l satp status priv at_ kind hS hST hAT hL hB, Option.bind_some, ref_is l satp status priv at_ kind hS hST hAT hL hB, Option.bind_some, if_pos rfl, same07_self, Option.bind_some, if_pos rfl, if_pos rfl, if_pos (beq_self_eq_true _)]
  unfold sv39_Fault.f
  rw [Option.bind_some, rfault, Option.bind_some, if_pos rfl, same07_self, Option.bind_some, if_pos rfl]
  rfl
end Go.Proofs.Ytbidnolopbjlaaa.Pure
