import Derived.Test.YtnlmndpdalgppaaHPtr
import Derived.Test.YtnlmndpdalgppaaHEchk05
/- Layer 6, plain facts: behind a trap and its return. -/
set_option linter.unusedVariables false
set_option linter.unusedSimpArgs false
namespace Go.Proofs.Ytnlmndpdalgppaa.Q
open Go.RowKit Go.Proofs.YtnlmndpdalgppaaW.PrintWords Go.Proofs.YtnlmndpdalgppaaW.PrintLast Go.Proofs.YtnlmndpdalgppaaW.PrintMore Go.Proofs.Ytnlmndpdalgppaa.L
theorem mask_B : u64B 8264106 := by decide
theorem tb_div (x : Int) (n : Nat) (hx : u64B x) : tb x n = decide (x / 2 ^ n % 2 = 1) := by
  obtain ⟨X, rfl, hX⟩ := B_nat hx
  rw [tb_nat, Nat.testBit_eq_decide_div_mod_eq]
  have e : (X : Int) / 2 ^ n % 2 = ((X / 2 ^ n % 2 : Nat) : Int) := by rw [Int.natCast_emod, Int.natCast_ediv, Int.natCast_pow]; rfl
  rw [e]
  exact decide_eq_decide.mpr ⟨fun h => by rw [h]; rfl, fun h => by omega⟩
def okS (x : Int) : Prop := (∀ i, i < 64 → tb x i = true → tb 8264106 i = true) ∧ (tb x 12 = true → tb x 11 = true)
theorem mpp_is (x : Int) (hx : u64B x) : x / 2048 % 4 = (if tb x 11 = true then 1 else 0) + (if tb x 12 = true then 2 else 0) := by
  have h1 := tb_div x 11 hx
  have h2 := tb_div x 12 hx
  rw [show (2 : Int) ^ 11 = 2048 by decide] at h1
  rw [show (2 : Int) ^ 12 = 4096 by decide] at h2
  rw [h1, h2]
  have h0 := hx.1
  by_cases a : x / 2048 % 2 = 1
  · by_cases b : x / 4096 % 2 = 1
    · rw [decide_eq_true a, decide_eq_true b, if_pos rfl, if_pos rfl]; omega
    · rw [decide_eq_true a, decide_eq_false b, if_pos rfl, if_neg (by decide)]; omega
  · by_cases b : x / 4096 % 2 = 1
    · rw [decide_eq_false a, decide_eq_true b, if_neg (by decide), if_pos rfl]; omega
    · rw [decide_eq_false a, decide_eq_false b, if_neg (by decide), if_neg (by decide)]; omega
theorem status_ok (x : Int) (hx : u64B x) (h : okS x) : x = statusZ x := by
  have e : Go.bits .and .u64 x 8264106 = x := tb_ext (and_B hx mask_B) hx (fun i hi => by
    rw [tb_and hx mask_B]
    cases ht : tb x i
    · rfl
    · rw [h.1 i hi ht]; rfl)
  unfold statusZ drawbridgeref05_Status.f
  rw [e, tmod_pos _ _ (by have := hx.1; omega), mpp_is x hx, if_neg]
  · rfl
  · cases h11 : tb x 11
    · cases h12 : tb x 12
      · decide
      · exact absurd (h.2 h12) (by rw [h11]; decide)
    · cases h12 : tb x 12 <;> decide
theorem ok_status (x : Int) (hx : u64B x) (h : x = statusZ x) : okS x := by
  have hy := and_B hx mask_B
  have hle : Go.bits .and .u64 x 8264106 ≤ x := by
    rw [u64_and x 8264106 hx.1 hx.2 (by decide) (by decide)]
    have := Nat.and_le_left (n := x.toNat) (m := (8264106 : Int).toNat)
    have := hx.1
    omega
  unfold statusZ drawbridgeref05_Status.f at h
  rw [tmod_pos _ _ (by have := hy.1; omega)] at h
  by_cases h2 : Go.bits .and .u64 x 8264106 / 2048 % 4 = 2
  · exfalso
    rw [if_pos h2] at h
    have h' : x = IntKind.u64.wrap (Go.bits .and .u64 x 8264106 - 4096) := h
    rw [IntKind.wrap_u64] at h'
    have h0 := hy.1
    have h1 := hy.2
    omega
  · rw [if_neg h2] at h
    have e : x = Go.bits .and .u64 x 8264106 := h
    have sub : ∀ i, i < 64 → tb x i = true → tb 8264106 i = true := fun i hi ht => by
      rw [e, tb_and hx mask_B, Bool.and_eq_true] at ht; exact ht.2
    refine ⟨sub, fun h12 => ?_⟩
    rw [← e, mpp_is x hx, h12, if_pos rfl] at h2
    cases h11 : tb x 11
    · rw [h11, if_neg (by decide)] at h2; exact absurd rfl h2
    · rfl
theorem sub_set {x : Int} {n : Nat} {b : Int} (hx : u64B x) (hb : u64B b) (hn : n < 64) (hm : tb 8264106 n = true) (h : ∀ i, i < 64 → tb x i = true → tb 8264106 i = true) : ∀ i, i < 64 → tb (setZ x n b) i = true → tb 8264106 i = true := fun i hi ht => by
  rw [tb_setZ x n b hx hb hn] at ht
  by_cases e : n = i
  · rw [← e]; exact hm
  · rw [if_neg e] at ht; exact h i hi ht
section
variable (s : Int) (hs : u64B s)
include hs
/-- What a trap to the machine makes of the status. -/
theorem enterMs_is (priv : Int) : u64B (enterMs s priv) ∧ (∀ i, tb (enterMs s priv) i = if 12 = i then decide (privZ priv / 2 % 2 = 1) else if 11 = i then decide (privZ priv % 2 = 1) else if 3 = i then false else if 7 = i then tb s 3 else tb s i) := by
  obtain ⟨_, hp⟩ := privZ_is priv
  have hpB : u64B (privZ priv) := by rcases hp with h | h | h <;> rw [h] <;> decide
  have hp2 : u64B (privZ priv / 2) := by rcases hp with h | h | h <;> rw [h] <;> decide
  have g3 := bitZ_B s 3 3 hs rfl (by decide)
  have B1 := setZ_B s 7 _ hs g3 (by decide)
  have B2 := setZ_B _ 3 _ B1 B_0 (by decide)
  have B3 := setZ_B _ 11 _ B2 hpB (by decide)
  have B4 := setZ_B _ 12 _ B3 hp2 (by decide)
  refine ⟨B4, fun i => ?_⟩
  unfold enterMs
  rw [tb_setZ _ 12 _ B3 hp2 (by decide), tb_setZ _ 11 _ B2 hpB (by decide), tb_setZ _ 3 _ B1 B_0 (by decide), tb_setZ _ 7 _ hs g3 (by decide), bitZ_odd s 3 3 hs rfl (by decide)]
  rfl
theorem enterSs_is (priv : Int) : u64B (enterSs s priv) ∧ (∀ i, tb (enterSs s priv) i = if 8 = i then decide (IntKind.u64.wrap priv % 2 = 1) else if 1 = i then false else if 5 = i then tb s 1 else tb s i) := by
  have hw := wrap_B priv
  have g1 := bitZ_B s 1 1 hs rfl (by decide)
  have B1 := setZ_B s 5 _ hs g1 (by decide)
  have B2 := setZ_B _ 1 _ B1 B_0 (by decide)
  have B3 := setZ_B _ 8 _ B2 hw (by decide)
  refine ⟨B3, fun i => ?_⟩
  unfold enterSs
  rw [tb_setZ _ 8 _ B2 hw (by decide), tb_setZ _ 1 _ B1 B_0 (by decide), tb_setZ _ 5 _ hs g1 (by decide), bitZ_odd s 1 1 hs rfl (by decide)]
  rfl
theorem mretB_is : u64B (mretB s) ∧ (∀ i, tb (mretB s) i = if 12 = i then false else if 11 = i then false else if 7 = i then true else if 3 = i then tb s 7 else tb s i) := by
  have g7 := bitZ_B s 7 7 hs rfl (by decide)
  have B1 := setZ_B s 3 _ hs g7 (by decide)
  have B2 := setZ_B _ 7 _ B1 B_1 (by decide)
  have B3 := setZ_B _ 11 _ B2 B_0 (by decide)
  have B4 := setZ_B _ 12 _ B3 B_0 (by decide)
  refine ⟨B4, fun i => ?_⟩
  unfold mretB
  rw [tb_setZ _ 12 _ B3 B_0 (by decide), tb_setZ _ 11 _ B2 B_0 (by decide), tb_setZ _ 7 _ B1 B_1 (by decide), tb_setZ _ 3 _ hs g7 (by decide), bitZ_odd s 7 7 hs rfl (by decide)]
  rfl
theorem mretS_is : u64B (mretS s) ∧ (∀ i, 17 ≠ i → tb (mretS s) i = tb (mretB s) i) ∧ (tb (mretS s) 17 = true → tb (mretB s) 17 = true) := by
  obtain ⟨hB, _⟩ := mretB_is s hs
  unfold mretS
  split
  · refine ⟨setZ_B _ 17 _ hB B_0 (by decide), fun i hi => ?_, fun h => ?_⟩
    · rw [tb_setZ _ 17 _ hB B_0 (by decide), if_neg hi]
    · rw [tb_setZ _ 17 _ hB B_0 (by decide), if_pos rfl] at h; exact absurd h (by decide)
  · exact ⟨hB, fun _ _ => rfl, id⟩
theorem sretS_is : u64B (sretS s) ∧ (∀ i, tb (sretS s) i = if 17 = i then false else if 8 = i then false else if 5 = i then true else if 1 = i then tb s 5 else tb s i) := by
  have g5 := bitZ_B s 5 5 hs rfl (by decide)
  have B1 := setZ_B s 1 _ hs g5 (by decide)
  have B2 := setZ_B _ 5 _ B1 B_1 (by decide)
  have B3 := setZ_B _ 8 _ B2 B_0 (by decide)
  have B4 := setZ_B _ 17 _ B3 B_0 (by decide)
  refine ⟨B4, fun i => ?_⟩
  unfold sretS
  rw [tb_setZ _ 17 _ B3 B_0 (by decide), tb_setZ _ 8 _ B2 B_0 (by decide), tb_setZ _ 5 _ B1 B_1 (by decide), tb_setZ _ 1 _ hs g5 (by decide), bitZ_odd s 5 5 hs rfl (by decide)]
  rfl
theorem ok_enterM (priv : Int) (h : okS s) : okS (enterMs s priv) := by
  obtain ⟨_, t⟩ := enterMs_is s hs priv
  obtain ⟨_, hp⟩ := privZ_is priv
  refine ⟨fun i hi ht => ?_, fun ht => ?_⟩
  · rw [t i] at ht
    by_cases e1 : 12 = i
    · subst e1; decide +kernel
    rw [if_neg e1] at ht
    by_cases e2 : 11 = i
    · subst e2; decide +kernel
    rw [if_neg e2] at ht
    by_cases e3 : 3 = i
    · subst e3; decide +kernel
    rw [if_neg e3] at ht
    by_cases e4 : 7 = i
    · subst e4; decide +kernel
    rw [if_neg e4] at ht
    exact h.1 i hi ht
  · rw [t 12, if_pos rfl] at ht
    rw [t 11, if_neg (by decide), if_pos rfl]
    rcases hp with e | e | e <;> rw [e] at ht ⊢ <;> revert ht <;> decide
theorem ok_enterS (priv : Int) (h : okS s) : okS (enterSs s priv) := by
  obtain ⟨_, t⟩ := enterSs_is s hs priv
  refine ⟨fun i hi ht => ?_, fun ht => ?_⟩
  · rw [t i] at ht
    by_cases e1 : 8 = i
    · subst e1; decide +kernel
    rw [if_neg e1] at ht
    by_cases e2 : 1 = i
    · subst e2; decide +kernel
    rw [if_neg e2] at ht
    by_cases e3 : 5 = i
    · subst e3; decide +kernel
    rw [if_neg e3] at ht
    exact h.1 i hi ht
  · rw [t 12, if_neg (by decide), if_neg (by decide), if_neg (by decide)] at ht
    rw [t 11, if_neg (by decide), if_neg (by decide), if_neg (by decide)]
    exact h.2 ht
theorem ok_mretS (h : okS s) : okS (mretS s) := by
  obtain ⟨_, t⟩ := mretB_is s hs
  obtain ⟨_, u, v⟩ := mretS_is s hs
  have sub : ∀ i, i < 64 → tb (mretB s) i = true → tb 8264106 i = true := fun i hi ht => by
    rw [t i] at ht
    by_cases e1 : 12 = i
    · subst e1; decide +kernel
    rw [if_neg e1] at ht
    by_cases e2 : 11 = i
    · subst e2; decide +kernel
    rw [if_neg e2] at ht
    by_cases e3 : 7 = i
    · subst e3; decide +kernel
    rw [if_neg e3] at ht
    by_cases e4 : 3 = i
    · subst e4; decide +kernel
    rw [if_neg e4] at ht
    exact h.1 i hi ht
  refine ⟨fun i hi ht => ?_, fun ht => ?_⟩
  · by_cases e : 17 = i
    · subst e; exact sub 17 hi (v ht)
    · rw [u i e] at ht; exact sub i hi ht
  · rw [u 12 (by decide), t 12, if_pos rfl] at ht; exact absurd ht (by decide)
theorem ok_sretS (h : okS s) : okS (sretS s) := by
  obtain ⟨_, t⟩ := sretS_is s hs
  refine ⟨fun i hi ht => ?_, fun ht => ?_⟩
  · rw [t i] at ht
    by_cases e1 : 17 = i
    · subst e1; decide +kernel
    rw [if_neg e1] at ht
    by_cases e2 : 8 = i
    · subst e2; decide +kernel
    rw [if_neg e2] at ht
    by_cases e3 : 5 = i
    · subst e3; decide +kernel
    rw [if_neg e3] at ht
    by_cases e4 : 1 = i
    · subst e4; decide +kernel
    rw [if_neg e4] at ht
    exact h.1 i hi ht
  · rw [t 12, if_neg (by decide), if_neg (by decide), if_neg (by decide), if_neg (by decide)] at ht
    rw [t 11, if_neg (by decide), if_neg (by decide), if_neg (by decide), if_neg (by decide)]
    exact h.2 ht
end
theorem let_eq (x y : Int) (n : Nat) (m : Int) (hx : u64B x) (hy : u64B y) (hn : n < 64) (hm : m = 2 ^ n) (h : tb x n = tb y n) : Go.bits .and .u64 x m = Go.bits .and .u64 y m := by
  rw [and_bit x n hx hn m hm, and_bit y n hy hn m hm, h]
theorem let_0 (x : Int) (n : Nat) (m : Int) (hx : u64B x) (hn : n < 64) (hm : m = 2 ^ n) (h : tb x n = false) : Go.bits .and .u64 x m = 0 := by
  rw [and_bit x n hx hn m hm, h]; rfl
theorem place_even (vec code : Int) (irq : Bool) (hv : u64B vec) : Int.tmod (placeZ vec code irq) 2 = 0 := by
  have ha : u64B (Go.bits .andNot .u64 vec 3) := andNot_B hv (by decide)
  have h0 : Go.bits .andNot .u64 vec 3 % 2 = 0 := by
    have := tb_div (Go.bits .andNot .u64 vec 3) 0 ha
    rw [tb_andNot hv (by decide), show tb 3 0 = true by decide, Bool.not_true, Bool.and_false, Int.pow_zero, Int.ediv_one] at this
    have h1 := of_decide_eq_false this.symm
    omega
  unfold placeZ
  have hw := wrap_B (Go.bits .andNot .u64 vec 3 + if irq = true ∧ Go.bits .and .u64 vec 1 = 1 then IntKind.u64.wrap (4 * code) else 0)
  rw [tmod_pos _ _ hw.1, IntKind.wrap_u64]
  split
  · rw [IntKind.wrap_u64]; omega
  · omega
theorem clr0 (x : Int) (hx : u64B x) : Go.bits .and .u64 (Go.bits .andNot .u64 x 1) 1 = 0 := by
  have ha : u64B (Go.bits .andNot .u64 x 1) := andNot_B hx (by decide)
  refine let_0 _ 0 1 ha (by decide) (by decide) ?_
  rw [tb_andNot hx (by decide), show tb 1 0 = true by decide]; simp
theorem mretP_enter (s priv : Int) (hs : u64B s) (h : priv = 0 ∨ priv = 1 ∨ priv = 3) : mretP (enterMs s priv) = priv := by
  obtain ⟨hB, t⟩ := enterMs_is s hs priv
  have hd : u64B (enterMs s priv / 2048) := by have := div_B (enterMs s priv) 11 hB; simpa using this
  have hw : ∀ x, 0 ≤ x → x < 4 → wrap64 x = x := fun x h0 h1 => by unfold wrap64; omega
  unfold mretP
  have t11 := t 11
  have t12 := t 12
  rw [if_neg (by decide), if_pos rfl] at t11
  rw [if_pos rfl] at t12
  rw [and3 _ hd, hw _ (by have := hd.1; omega) (by omega), mpp_is _ hB, t11, t12]
  rcases h with rfl | rfl | rfl <;> decide +kernel
theorem sret_priv (s priv : Int) (hs : u64B s) (h : priv = 0 ∨ priv = 1) : wrap64 (bitZ (enterSs s priv) 8) = priv := by
  obtain ⟨hB, t⟩ := enterSs_is s hs priv
  rw [bitZ_is _ 8 8 hB rfl (by decide), t 8, if_pos rfl]
  rcases h with rfl | rfl <;> decide +kernel
end Go.Proofs.Ytnlmndpdalgppaa.Q
