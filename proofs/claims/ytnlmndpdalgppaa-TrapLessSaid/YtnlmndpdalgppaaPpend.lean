/- Layer 6, plain facts: which interrupt comes. -/
import Derived.Test.YtnlmndpdalgppaaPtr
set_option linter.unusedVariables false
set_option linter.unusedSimpArgs false
namespace Go.Proofs.Ytnlmndpdalgppaa.Q
open Go.RowKit Go.Proofs.YtnlmndpdalgppaaW.PrintWords Go.Proofs.YtnlmndpdalgppaaW.PrintLast Go.Proofs.YtnlmndpdalgppaaW.PrintMore Go.Proofs.Ytnlmndpdalgppaa.L
theorem max_B : u64B IntKind.u64.max := by decide
theorem tb_max : ∀ i, i < 64 → tb IntKind.u64.max i = true := by decide +kernel
def c1Z (s priv : Int) : Bool := decide (priv < 3) || (bitZ s 3 == 1)
def c2Z (s priv : Int) : Bool := decide (priv < 1) || (decide (priv = 1) && (bitZ s 1 == 1))
theorem may1_B (s d priv : Int) (hd : u64B d) : u64B (may1Z s d priv) := by
  unfold may1Z; split
  · exact or_B B_0 (xor_B max_B hd)
  · exact B_0
theorem may2_B (s d priv : Int) (hd : u64B d) : u64B (may2Z s d priv) := by
  unfold may2Z; split
  · exact or_B (may1_B s d priv hd) hd
  · exact may1_B s d priv hd
theorem tb_may1 (s d priv : Int) (hd : u64B d) (i : Nat) (hi : i < 64) : tb (may1Z s d priv) i = (c1Z s priv && !tb d i) := by
  unfold may1Z
  cases h : c1Z s priv
  · rw [if_neg (by unfold c1Z at h; rw [h]; decide), tb_zero, Bool.false_and]
  · rw [if_pos (by unfold c1Z at h; exact h), tb_or B_0 (xor_B max_B hd), tb_zero, tb_xor max_B hd, tb_max i hi]
    cases tb d i <;> rfl
theorem tb_may2 (s d priv : Int) (hd : u64B d) (i : Nat) (hi : i < 64) : tb (may2Z s d priv) i = ((c1Z s priv && !tb d i) || (c2Z s priv && tb d i)) := by
  unfold may2Z
  cases h : c2Z s priv
  · rw [if_neg (by unfold c2Z at h; rw [h]; decide), tb_may1 s d priv hd i hi]; simp
  · rw [if_pos (by unfold c2Z at h; exact h), tb_or (may1_B s d priv hd) hd, tb_may1 s d priv hd i hi]; simp
section
variable (s d ie ip priv : Int) (hd : u64B d) (he : u64B ie) (hp : u64B ip)
include hd he hp
theorem x1_is : Go.bits .andNot .u64 (Go.bits .and .u64 (Go.bits .and .u64 ip ie) (may2Z s d priv)) d = if c1Z s priv = true then Go.bits .andNot .u64 (Go.bits .and .u64 ip ie) d else 0 := by
  have hw := and_B hp he
  have hm := may2_B s d priv hd
  refine tb_ext (andNot_B (and_B hw hm) hd) ?_ (fun i hi => ?_)
  · split
    · exact andNot_B hw hd
    · exact B_0
  · rw [tb_andNot (and_B hw hm) hd, tb_and hw hm, tb_may2 s d priv hd i hi]
    cases h : c1Z s priv
    · rw [if_neg (by decide), tb_zero]; cases tb d i <;> simp
    · rw [if_pos rfl, tb_andNot hw hd]; cases tb d i <;> simp
theorem x2_is : Go.bits .and .u64 (Go.bits .and .u64 (Go.bits .and .u64 ip ie) (may2Z s d priv)) d = if c2Z s priv = true then Go.bits .and .u64 (Go.bits .and .u64 ip ie) d else 0 := by
  have hw := and_B hp he
  have hm := may2_B s d priv hd
  refine tb_ext (and_B (and_B hw hm) hd) ?_ (fun i hi => ?_)
  · split
    · exact and_B hw hd
    · exact B_0
  · rw [tb_and (and_B hw hm) hd, tb_and hw hm, tb_may2 s d priv hd i hi]
    cases h : c2Z s priv
    · rw [if_neg (by decide), tb_zero]; cases tb d i <;> simp
    · rw [if_pos rfl, tb_and hw hd]; cases tb d i <;> simp
end
theorem bit_zero (n : Nat) (z : Int) (hz : z = n) (hn : n < 64) : bitZ 0 z = 0 := by rw [bitZ_is 0 n z B_0 hz hn, tb_zero]; rfl
theorem inn_zero (r : Int × Bool) : innZ 0 r ordL = r := by
  unfold ordL
  simp only [innZ, bit_zero 11 11 rfl (by decide), bit_zero 3 3 rfl (by decide), bit_zero 7 7 rfl (by decide), bit_zero 9 9 rfl (by decide), bit_zero 1 1 rfl (by decide), bit_zero 5 5 rfl (by decide)]
  rfl
theorem pend_is (s d ie ip priv : Int) (hd : u64B d) (he : u64B ie) (hp : u64B ip) : pendZ s d ie ip priv =
    innZ (if c1Z s priv = true then Go.bits .andNot .u64 (Go.bits .and .u64 ip ie) d else 0) (innZ (if c2Z s priv = true then Go.bits .and .u64 (Go.bits .and .u64 ip ie) d else 0) (0, false) ordL) ordL := by
  unfold pendZ remZ
  rw [x1_is s d ie ip priv hd he hp, x2_is s d ie ip priv hd he hp]; rfl
/-- What a search answers: one of the row whose bit is there, or what was said, and no bit of the row. -/
theorem inn_cases (x : Int) (hx : u64B x) (r : Int × Bool) : ∀ l : List Int, (∀ z ∈ l, 0 ≤ z ∧ z < 64) → (∃ n ∈ l, innZ x r l = (n, true) ∧ tb x n.toNat = true) ∨ (innZ x r l = r ∧ ∀ n ∈ l, tb x n.toNat = false)
  | [], _ => .inr ⟨rfl, fun n h => by cases h⟩
  | n :: l, hl => by
    obtain ⟨h0, h1⟩ := hl n List.mem_cons_self
    have hb := bitZ_is x n.toNat n hx (by omega) (by omega)
    unfold innZ
    cases ht : tb x n.toNat
    · rw [if_neg (by rw [hb, ht]; decide)]
      rcases inn_cases x hx r l (fun z hz => hl z (List.mem_cons_of_mem _ hz)) with ⟨m, hm, e, t⟩ | ⟨e, t⟩
      · exact .inl ⟨m, List.mem_cons_of_mem _ hm, e, t⟩
      · exact .inr ⟨e, fun m hm => by
          rcases List.mem_cons.1 hm with rfl | h
          · exact ht
          · exact t m h⟩
    · rw [if_pos (by rw [hb, ht]; rfl)]
      exact .inl ⟨n, List.mem_cons_self, rfl, ht⟩
theorem ordL_small : ∀ z ∈ ordL, 0 ≤ z ∧ z < 64 := by decide
theorem ordL_mem {n : Int} (h : n ∈ ordL) : n = 11 ∨ n = 3 ∨ n = 7 ∨ n = 9 ∨ n = 1 ∨ n = 5 := by
  unfold ordL at h; simpa using h
/-- What comes, in full. -/
theorem pend_cases (s d ie ip priv : Int) (hd : u64B d) (he : u64B ie) (hp : u64B ip) :
    (∃ n ∈ ordL, pendZ s d ie ip priv = (n, true) ∧ tb (Go.bits .and .u64 ip ie) n.toNat = true ∧ ((c1Z s priv = true ∧ tb d n.toNat = false) ∨ (c2Z s priv = true ∧ tb d n.toNat = true ∧ (c1Z s priv = true → ∀ m ∈ ordL, (tb (Go.bits .and .u64 ip ie) m.toNat && !tb d m.toNat) = false)))) ∨
    (pendZ s d ie ip priv = (0, false) ∧ (c1Z s priv = true → ∀ m ∈ ordL, (tb (Go.bits .and .u64 ip ie) m.toNat && !tb d m.toNat) = false)) := by
  have hw := and_B hp he
  rw [pend_is s d ie ip priv hd he hp]
  have hx1 : u64B (if c1Z s priv = true then Go.bits .andNot .u64 (Go.bits .and .u64 ip ie) d else 0) := by
    split
    · exact andNot_B hw hd
    · exact B_0
  have hx2 : u64B (if c2Z s priv = true then Go.bits .and .u64 (Go.bits .and .u64 ip ie) d else 0) := by
    split
    · exact and_B hw hd
    · exact B_0
  have t1 : ∀ i, tb (if c1Z s priv = true then Go.bits .andNot .u64 (Go.bits .and .u64 ip ie) d else 0) i = (c1Z s priv && (tb (Go.bits .and .u64 ip ie) i && !tb d i)) := fun i => by
    cases c1Z s priv
    · rw [if_neg (by decide), tb_zero]; rfl
    · rw [if_pos rfl, tb_andNot hw hd]; rfl
  have t2 : ∀ i, tb (if c2Z s priv = true then Go.bits .and .u64 (Go.bits .and .u64 ip ie) d else 0) i = (c2Z s priv && (tb (Go.bits .and .u64 ip ie) i && tb d i)) := fun i => by
    cases c2Z s priv
    · rw [if_neg (by decide), tb_zero]; rfl
    · rw [if_pos rfl, tb_and hw hd]; rfl
  rcases inn_cases _ hx1 (innZ (if c2Z s priv = true then Go.bits .and .u64 (Go.bits .and .u64 ip ie) d else 0) (0, false) ordL) ordL ordL_small with ⟨n, hn, e, t⟩ | ⟨e, t⟩
  · rw [t1] at t
    simp only [Bool.and_eq_true, Bool.not_eq_true'] at t
    exact .inl ⟨n, hn, e, t.2.1, .inl ⟨t.1, t.2.2⟩⟩
  · have hno : c1Z s priv = true → ∀ m ∈ ordL, (tb (Go.bits .and .u64 ip ie) m.toNat && !tb d m.toNat) = false := fun hc m hm => by
      have := t m hm; rw [t1, hc] at this; exact this
    rcases inn_cases _ hx2 (0, false) ordL ordL_small with ⟨n, hn, e2, t'⟩ | ⟨e2, t'⟩
    · rw [t2] at t'
      simp only [Bool.and_eq_true] at t'
      exact .inl ⟨n, hn, by rw [e, e2], t'.2.1, .inr ⟨t'.1, t'.2.2, hno⟩⟩
    · exact .inr ⟨by rw [e, e2], hno⟩
end Go.Proofs.Ytnlmndpdalgppaa.Q
