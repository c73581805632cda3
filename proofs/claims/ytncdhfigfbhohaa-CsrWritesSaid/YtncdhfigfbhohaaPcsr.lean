/- Layer 5, plain facts: what is read and written, bit by bit. -/
import Derived.Test.YtncdhfigfbhohaaEheads05
import Derived.Test.YtncdhfigfbhohaaTb
import Derived.Test.YtncdhfigfbhohaaWf
import Derived.Laws.BitsLemmas
set_option linter.unusedVariables false
set_option linter.unusedSimpArgs false
set_option linter.unusedSectionVars false
namespace Go.Proofs.Ytncdhfigfbhohaa.Q
open Go.RowKit Go.Proofs.YtncdhfigfbhohaaW.PrintWords Go.Proofs.YtncdhfigfbhohaaW.PrintLast Go.Proofs.YtncdhfigfbhohaaW.PrintMore Go.Proofs.Ytncdhfigfbhohaa.L
theorem i64_and3 (n : Int) : Go.bits .and .i64 n 3 = n % 4 := by
  have h3 : (BitVec.ofInt 64 3).toNat = 2 ^ 2 - 1 := by decide
  have key : (BitVec.ofInt 64 n &&& BitVec.ofInt 64 3).toNat = (n % ((2 ^ 64 : Nat) : Int)).toNat % 2 ^ 2 := by
    rw [BitVec.toNat_and, BitVec.toNat_ofInt, h3, Nat.and_two_pow_sub_one_eq_mod]
  show IntKind.i64.wrap ((BitVec.ofInt 64 n &&& BitVec.ofInt 64 3).toNat : Nat) = n % 4
  rw [key, IntKind.wrap_i64]
  omega
/-- A word and its bits. -/
def wd (x : Int) (b : Nat → Bool) : Prop := u64B x ∧ ∀ i, tb x i = b i
theorem wd_var {x : Int} (h : u64B x) : wd x (tb x) := ⟨h, fun _ => rfl⟩
theorem wd_and {x y : Int} {b d : Nat → Bool} (h : wd x b) (k : wd y d) : wd (Go.bits .and .u64 x y) (fun i => b i && d i) := ⟨and_B h.1 k.1, fun i => by rw [tb_and h.1 k.1, h.2, k.2]⟩
theorem wd_or {x y : Int} {b d : Nat → Bool} (h : wd x b) (k : wd y d) : wd (Go.bits .or .u64 x y) (fun i => b i || d i) := ⟨or_B h.1 k.1, fun i => by rw [tb_or h.1 k.1, h.2, k.2]⟩
theorem wd_xor {x y : Int} {b d : Nat → Bool} (h : wd x b) (k : wd y d) : wd (Go.bits .xor .u64 x y) (fun i => b i != d i) := ⟨xor_B h.1 k.1, fun i => by rw [tb_xor h.1 k.1, h.2, k.2]⟩
theorem wd_andNot {x y : Int} {b d : Nat → Bool} (h : wd x b) (k : wd y d) : wd (Go.bits .andNot .u64 x y) (fun i => b i && !d i) := ⟨andNot_B h.1 k.1, fun i => by rw [tb_andNot h.1 k.1, h.2, k.2]⟩
theorem wd_eq {x y : Int} {b d : Nat → Bool} (h : wd x b) (k : wd y d) (e : ∀ i, i < 64 → b i = d i) : x = y := tb_ext h.1 k.1 fun i hi => by rw [h.2, k.2, e i hi]
theorem wd_bit {x y : Int} {b d : Nat → Bool} (h : wd x b) (k : wd y d) (e : x = y) (i : Nat) : b i = d i := by rw [← h.2, ← k.2, e]
theorem wd_B {x : Int} {b : Nat → Bool} (h : wd x b) : u64B x := h.1
/-! ### the status -/
theorem st_def (x : Int) : statusV x = if (Go.bits .and .u64 (Go.bits .and .u64 x 8264106) 6144) = 4096 then Go.bits .andNot .u64 (Go.bits .and .u64 x 8264106) 6144 else Go.bits .and .u64 x 8264106 := by
  unfold statusV csr_status.f
  split <;> rfl
theorem st_B {x : Int} (hx : u64B x) : u64B (statusV x) := by
  rw [st_def]
  split
  · exact wd_B (by repeat (first | (with_reducible first | apply wd_and | apply wd_or | apply wd_andNot | apply wd_xor | exact wd_var (by assumption)) | exact wd_var ⟨by omega, by omega⟩))
  · exact wd_B (by repeat (first | (with_reducible first | apply wd_and | apply wd_or | apply wd_andNot | apply wd_xor | exact wd_var (by assumption)) | exact wd_var ⟨by omega, by omega⟩))
theorem st_mask {x y : Int} (h : Go.bits .and .u64 x 8264106 = Go.bits .and .u64 y 8264106) : statusV x = statusV y := by rw [st_def, st_def, h]
theorem st_fix {x : Int} (hx : u64B x) (h : Go.bits .and .u64 x 8264106 = x) (h2 : ¬ Go.bits .and .u64 x 6144 = 4096) : x = statusV x := by
  rw [st_def, h, if_neg h2]
theorem st_of {x : Int} (hx : u64B x) (h : x = statusV x) : Go.bits .and .u64 x 8264106 = x ∧ ¬ Go.bits .and .u64 x 6144 = 4096 := by
  rw [st_def] at h
  split at h
  · rename_i hq
    exfalso
    have h1 : Go.bits .and .u64 (Go.bits .and .u64 x 8264106) 6144 = 0 := by
      have e : Go.bits .and .u64 x 6144 = Go.bits .and .u64 (Go.bits .andNot .u64 (Go.bits .and .u64 x 8264106) 6144) 6144 := congrArg (fun z => Go.bits .and .u64 z 6144) h
      have e2 : Go.bits .and .u64 (Go.bits .andNot .u64 (Go.bits .and .u64 x 8264106) 6144) 6144 = 0 := by
        refine wd_eq (by repeat (first | (with_reducible first | apply wd_and | apply wd_or | apply wd_andNot | apply wd_xor | exact wd_var (by assumption)) | exact wd_var ⟨by omega, by omega⟩)) (by repeat (first | (with_reducible first | apply wd_and | apply wd_or | apply wd_andNot | apply wd_xor | exact wd_var (by assumption)) | exact wd_var ⟨by omega, by omega⟩)) (fun i hi => ?_)
        try dsimp only
        generalize tb x i = qx
        revert i qx
        decide +kernel
      have e3 : Go.bits .and .u64 x 6144 = 0 := e.trans e2
      refine wd_eq (by repeat (first | (with_reducible first | apply wd_and | apply wd_or | apply wd_andNot | apply wd_xor | exact wd_var (by assumption)) | exact wd_var ⟨by omega, by omega⟩)) (by repeat (first | (with_reducible first | apply wd_and | apply wd_or | apply wd_andNot | apply wd_xor | exact wd_var (by assumption)) | exact wd_var ⟨by omega, by omega⟩)) (fun i hi => ?_)
      have e3b := wd_bit (by repeat (first | (with_reducible first | apply wd_and | apply wd_or | apply wd_andNot | apply wd_xor | exact wd_var (by assumption)) | exact wd_var ⟨by omega, by omega⟩)) (by repeat (first | (with_reducible first | apply wd_and | apply wd_or | apply wd_andNot | apply wd_xor | exact wd_var (by assumption)) | exact wd_var ⟨by omega, by omega⟩)) e3 i
      try dsimp only at e3b
      try dsimp only
      revert e3b
      generalize tb x i = qx
      revert i qx
      decide +kernel
    rw [h1] at hq
    exact absurd hq (by decide)
  · rename_i hq
    refine ⟨h.symm, fun hz => hq ?_⟩
    rw [← h]
    exact hz
theorem st_idem {x : Int} (hx : u64B x) : statusV x = statusV (statusV x) := by
  refine st_fix (st_B hx) ?_ ?_
  · rw [st_def]
    split
    · skip
      refine wd_eq (by repeat (first | (with_reducible first | apply wd_and | apply wd_or | apply wd_andNot | apply wd_xor | exact wd_var (by assumption)) | exact wd_var ⟨by omega, by omega⟩)) (by repeat (first | (with_reducible first | apply wd_and | apply wd_or | apply wd_andNot | apply wd_xor | exact wd_var (by assumption)) | exact wd_var ⟨by omega, by omega⟩)) (fun i hi => ?_)
      try dsimp only
      generalize tb x i = qx
      revert i qx
      decide +kernel
    · skip
      refine wd_eq (by repeat (first | (with_reducible first | apply wd_and | apply wd_or | apply wd_andNot | apply wd_xor | exact wd_var (by assumption)) | exact wd_var ⟨by omega, by omega⟩)) (by repeat (first | (with_reducible first | apply wd_and | apply wd_or | apply wd_andNot | apply wd_xor | exact wd_var (by assumption)) | exact wd_var ⟨by omega, by omega⟩)) (fun i hi => ?_)
      try dsimp only
      generalize tb x i = qx
      revert i qx
      decide +kernel
  · rw [st_def]
    split
    · intro h
      have e2 : Go.bits .and .u64 (Go.bits .andNot .u64 (Go.bits .and .u64 x 8264106) 6144) 6144 = 0 := by
        refine wd_eq (by repeat (first | (with_reducible first | apply wd_and | apply wd_or | apply wd_andNot | apply wd_xor | exact wd_var (by assumption)) | exact wd_var ⟨by omega, by omega⟩)) (by repeat (first | (with_reducible first | apply wd_and | apply wd_or | apply wd_andNot | apply wd_xor | exact wd_var (by assumption)) | exact wd_var ⟨by omega, by omega⟩)) (fun i hi => ?_)
        try dsimp only
        generalize tb x i = qx
        revert i qx
        decide +kernel
      rw [e2] at h
      exact absurd h (by decide)
    · assumption
/-! ### what may be -/
def fld (i : Nat) (v : Int) : Prop := match i with
  | 0 => v = statusV v | 1 => Go.bits .andNot .u64 v 46079 = 0 | 2 => Go.bits .andNot .u64 v 546 = 0 | 3 => Go.bits .andNot .u64 v 2730 = 0 | 4 => Go.bits .andNot .u64 v 2730 = 0
  | 5 => Go.bits .and .u64 v 2 = 0 | 10 => Go.bits .and .u64 v 2 = 0 | 7 => Go.bits .and .u64 v 1 = 0 | 12 => Go.bits .and .u64 v 1 = 0 | 15 => v / 1152921504606846976 = 0 ∨ v / 1152921504606846976 = 8 | _ => True
def bnd (c : Nat → Int) : Prop := ∀ i, u64B (c i)
theorem or_zero {a b : Int} (ha : u64B a) (hb : u64B b) : Go.bits .or .u64 a b = 0 ↔ a = 0 ∧ b = 0 := by
  constructor
  · intro h
    constructor
    · refine wd_eq (wd_var ha) (wd_var ⟨by omega, by omega⟩) (fun i hi => ?_)
      have := wd_bit (wd_or (wd_var ha) (wd_var hb)) (wd_var (x := 0) ⟨by omega, by omega⟩) h i
      rw [tb_zero] at this ⊢
      try dsimp only at this
      cases hz : tb a i
      · rfl
      · rw [hz] at this; cases this
    · refine wd_eq (wd_var hb) (wd_var ⟨by omega, by omega⟩) (fun i hi => ?_)
      have := wd_bit (wd_or (wd_var ha) (wd_var hb)) (wd_var (x := 0) ⟨by omega, by omega⟩) h i
      rw [tb_zero] at this ⊢
      try dsimp only at this
      cases hz : tb b i
      · rfl
      · rw [hz, Bool.or_true] at this; cases this
  · rintro ⟨rfl, rfl⟩; rfl
theorem pos_zero {a : Int} (ha : u64B a) : ¬ a > 0 ↔ a = 0 := ⟨fun h => by have := ha.1; omega, fun h => by omega⟩
theorem dist2730 {a b : Int} (ha : u64B a) (hb : u64B b) : (Go.bits .andNot .u64 (Go.bits .or .u64 a b) 2730) = (Go.bits .or .u64 (Go.bits .andNot .u64 a 2730) (Go.bits .andNot .u64 b 2730)) := by
  refine wd_eq (by repeat (first | (with_reducible first | apply wd_and | apply wd_or | apply wd_andNot | apply wd_xor | exact wd_var (by assumption)) | exact wd_var ⟨by omega, by omega⟩)) (by repeat (first | (with_reducible first | apply wd_and | apply wd_or | apply wd_andNot | apply wd_xor | exact wd_var (by assumption)) | exact wd_var ⟨by omega, by omega⟩)) (fun i hi => ?_)
  try dsimp only
  generalize tb a i = qa
  generalize tb b i = qb
  revert i qa qb
  decide +kernel
theorem dist2 {a b : Int} (ha : u64B a) (hb : u64B b) : (Go.bits .and .u64 (Go.bits .or .u64 a b) 2) = (Go.bits .or .u64 (Go.bits .and .u64 a 2) (Go.bits .and .u64 b 2)) := by
  refine wd_eq (by repeat (first | (with_reducible first | apply wd_and | apply wd_or | apply wd_andNot | apply wd_xor | exact wd_var (by assumption)) | exact wd_var ⟨by omega, by omega⟩)) (by repeat (first | (with_reducible first | apply wd_and | apply wd_or | apply wd_andNot | apply wd_xor | exact wd_var (by assumption)) | exact wd_var ⟨by omega, by omega⟩)) (fun i hi => ?_)
  try dsimp only
  generalize tb a i = qa
  generalize tb b i = qb
  revert i qa qb
  decide +kernel
theorem dist1 {a b : Int} (ha : u64B a) (hb : u64B b) : (Go.bits .and .u64 (Go.bits .or .u64 a b) 1) = (Go.bits .or .u64 (Go.bits .and .u64 a 1) (Go.bits .and .u64 b 1)) := by
  refine wd_eq (by repeat (first | (with_reducible first | apply wd_and | apply wd_or | apply wd_andNot | apply wd_xor | exact wd_var (by assumption)) | exact wd_var ⟨by omega, by omega⟩)) (by repeat (first | (with_reducible first | apply wd_and | apply wd_or | apply wd_andNot | apply wd_xor | exact wd_var (by assumption)) | exact wd_var ⟨by omega, by omega⟩)) (fun i hi => ?_)
  try dsimp only
  generalize tb a i = qa
  generalize tb b i = qb
  revert i qa qb
  decide +kernel
theorem chk_iff {c : Nat → Int} (h : bnd c) : chk c = true ↔ (fld 0 (c 0) ∧ fld 1 (c 1) ∧ fld 2 (c 2) ∧ (fld 3 (c 3) ∧ fld 4 (c 4)) ∧ (fld 5 (c 5) ∧ fld 10 (c 10)) ∧ (fld 7 (c 7) ∧ fld 12 (c 12)) ∧ fld 15 (c 15)) := by
  have e1 : fld 3 (c 3) ∧ fld 4 (c 4) ↔ Go.bits .andNot .u64 (Go.bits .or .u64 (c 3) (c 4)) 2730 = 0 := by rw [dist2730 (h 3) (h 4), or_zero (wd_B (wd_andNot (wd_var (h 3)) (wd_var ⟨by omega, by omega⟩))) (wd_B (wd_andNot (wd_var (h 4)) (wd_var ⟨by omega, by omega⟩)))]; exact Iff.rfl
  have e2 : fld 5 (c 5) ∧ fld 10 (c 10) ↔ Go.bits .and .u64 (Go.bits .or .u64 (c 5) (c 10)) 2 = 0 := by rw [dist2 (h 5) (h 10), or_zero (wd_B (wd_and (wd_var (h 5)) (wd_var ⟨by omega, by omega⟩))) (wd_B (wd_and (wd_var (h 10)) (wd_var ⟨by omega, by omega⟩)))]; exact Iff.rfl
  have e3 : fld 7 (c 7) ∧ fld 12 (c 12) ↔ Go.bits .and .u64 (Go.bits .or .u64 (c 7) (c 12)) 1 = 0 := by rw [dist1 (h 7) (h 12), or_zero (wd_B (wd_and (wd_var (h 7)) (wd_var ⟨by omega, by omega⟩))) (wd_B (wd_and (wd_var (h 12)) (wd_var ⟨by omega, by omega⟩)))]; exact Iff.rfl
  have p1 := pos_zero (wd_B (wd_andNot (wd_var (h 1)) (wd_var (x := 46079) ⟨by omega, by omega⟩)))
  have p2 := pos_zero (wd_B (wd_andNot (wd_var (h 2)) (wd_var (x := 546) ⟨by omega, by omega⟩)))
  have p3 := pos_zero (wd_B (wd_andNot (wd_or (wd_var (h 3)) (wd_var (h 4))) (wd_var (x := 2730) ⟨by omega, by omega⟩)))
  rw [e1, e2, e3]
  show _ ↔ (c 0 = statusV (c 0) ∧ Go.bits .andNot .u64 (c 1) 46079 = 0 ∧ Go.bits .andNot .u64 (c 2) 546 = 0 ∧ _ ∧ _ ∧ _ ∧ (c 15 / 1152921504606846976 = 0 ∨ c 15 / 1152921504606846976 = 8))
  rw [← p1, ← p2, ← p3]
  unfold chk csr_Check.f
  rw [statusV_is]
  simp only [Option.bind_some]
  by_cases q0 : c 0 = statusV (c 0)
  case neg => rw [if_neg q0]; exact ⟨(fun h => by cases h), fun h => absurd h.1 q0⟩
  rw [if_pos q0]
  by_cases q1 : Go.bits .andNot .u64 (c 1) 46079 > 0
  · rw [if_pos q1]; exact ⟨(fun h => by cases h), fun h => absurd q1 h.2.1⟩
  rw [if_neg q1]
  by_cases q2 : Go.bits .andNot .u64 (c 2) 546 > 0
  · rw [if_pos q2]; exact ⟨(fun h => by cases h), fun h => absurd q2 h.2.2.1⟩
  rw [if_neg q2]
  by_cases q3 : Go.bits .andNot .u64 (Go.bits .or .u64 (c 3) (c 4)) 2730 > 0
  · rw [if_pos q3]; exact ⟨(fun h => by cases h), fun h => absurd q3 h.2.2.2.1⟩
  rw [if_neg q3]
  by_cases q4 : Go.bits .and .u64 (Go.bits .or .u64 (c 5) (c 10)) 2 = 0
  case neg => rw [if_neg q4]; exact ⟨(fun h => by cases h), fun h => absurd h.2.2.2.2.1 q4⟩
  rw [if_pos q4]
  by_cases q5 : Go.bits .and .u64 (Go.bits .or .u64 (c 7) (c 12)) 1 = 0
  case neg => rw [if_neg q5]; exact ⟨(fun h => by cases h), fun h => absurd h.2.2.2.2.2.1 q5⟩
  rw [if_pos q5]
  by_cases q6 : c 15 / 1152921504606846976 = 0
  · rw [if_pos q6]; exact ⟨fun _ => ⟨q0, q1, q2, q3, q4, q5, .inl q6⟩, fun _ => rfl⟩
  rw [if_neg q6]
  constructor
  · intro h; exact ⟨q0, q1, q2, q3, q4, q5, .inr (eq_of_beq h)⟩
  · intro h
    rcases h.2.2.2.2.2.2 with h | h
    · exact absurd h q6
    · exact beq_iff_eq.2 h
theorem bnd_upd {c : Nat → Int} (h : bnd c) {v : Int} (hv : u64B v) (i : Nat) : bnd (upd c i v) := fun j => by
  unfold upd; split
  · exact hv
  · exact h j
theorem fld_upd {c : Nat → Int} {i : Nat} {v : Int} (j : Nat) (hc : fld j (c j)) (hv : fld i v) : fld j (upd c i v j) := by
  unfold upd; split
  · rename_i h; subst h; exact hv
  · exact hc
theorem chk_upd {c : Nat → Int} (h : bnd c) {i : Nat} {v : Int} (hv : u64B v) (hc : chk c = true) (hf : fld i v) : chk (upd c i v) = true := by
  obtain ⟨f0, f1, f2, ⟨f3, f4⟩, ⟨f5, f10⟩, ⟨f7, f12⟩, f15⟩ := (chk_iff h).1 hc
  exact (chk_iff (bnd_upd h hv i)).2 ⟨fld_upd 0 f0 hf, fld_upd 1 f1 hf, fld_upd 2 f2 hf, ⟨fld_upd 3 f3 hf, fld_upd 4 f4 hf⟩, ⟨fld_upd 5 f5 hf, fld_upd 10 f10 hf⟩, ⟨fld_upd 7 f7 hf, fld_upd 12 f12 hf⟩, fld_upd 15 f15 hf⟩
theorem ofI_cases {n : Int} {i : Nat} (h : ofI n = some i) : (n = 770 ∧ i = 1) ∨ (n = 771 ∧ i = 2) ∨ (n = 773 ∧ i = 5) ∨ (n = 261 ∧ i = 10) ∨ (n = 832 ∧ i = 6) ∨ (n = 320 ∧ i = 11) ∨ (n = 833 ∧ i = 7) ∨ (n = 321 ∧ i = 12) ∨ (n = 834 ∧ i = 8) ∨ (n = 322 ∧ i = 13) ∨ (n = 835 ∧ i = 9) ∨ (n = 323 ∧ i = 14) ∨ (n = 384 ∧ i = 15) ∨ (n = 2816 ∧ i = 16) ∨ (n = 3072 ∧ i = 16) ∨ (n = 768 ∧ i = 0) ∨ (n = 256 ∧ i = 0) ∨ (n = 772 ∧ i = 3) ∨ (n = 260 ∧ i = 3) ∨ (n = 836 ∧ i = 4) ∨ (n = 324 ∧ i = 4) := by
  by_cases g770 : n = 770
  · subst g770; obtain rfl := Option.some.inj h; simp
  by_cases g771 : n = 771
  · subst g771; obtain rfl := Option.some.inj h; simp
  by_cases g773 : n = 773
  · subst g773; obtain rfl := Option.some.inj h; simp
  by_cases g261 : n = 261
  · subst g261; obtain rfl := Option.some.inj h; simp
  by_cases g832 : n = 832
  · subst g832; obtain rfl := Option.some.inj h; simp
  by_cases g320 : n = 320
  · subst g320; obtain rfl := Option.some.inj h; simp
  by_cases g833 : n = 833
  · subst g833; obtain rfl := Option.some.inj h; simp
  by_cases g321 : n = 321
  · subst g321; obtain rfl := Option.some.inj h; simp
  by_cases g834 : n = 834
  · subst g834; obtain rfl := Option.some.inj h; simp
  by_cases g322 : n = 322
  · subst g322; obtain rfl := Option.some.inj h; simp
  by_cases g835 : n = 835
  · subst g835; obtain rfl := Option.some.inj h; simp
  by_cases g323 : n = 323
  · subst g323; obtain rfl := Option.some.inj h; simp
  by_cases g384 : n = 384
  · subst g384; obtain rfl := Option.some.inj h; simp
  by_cases g2816 : n = 2816
  · subst g2816; obtain rfl := Option.some.inj h; simp
  by_cases g3072 : n = 3072
  · subst g3072; obtain rfl := Option.some.inj h; simp
  by_cases g768 : n = 768
  · subst g768; obtain rfl := Option.some.inj h; simp
  by_cases g256 : n = 256
  · subst g256; obtain rfl := Option.some.inj h; simp
  by_cases g772 : n = 772
  · subst g772; obtain rfl := Option.some.inj h; simp
  by_cases g260 : n = 260
  · subst g260; obtain rfl := Option.some.inj h; simp
  by_cases g836 : n = 836
  · subst g836; obtain rfl := Option.some.inj h; simp
  by_cases g324 : n = 324
  · subst g324; obtain rfl := Option.some.inj h; simp
  exfalso
  unfold ofI at h
  rw [if_neg (by simp; omega), if_neg (by simp; omega), if_neg (by simp; omega), if_neg (by simp; omega), if_neg (by simp; omega), if_neg (by simp; omega), if_neg (by simp; omega), if_neg (by simp; omega), if_neg (by simp; omega), if_neg (by simp; omega), if_neg (by simp; omega), if_neg (by simp; omega), if_neg (by simp; omega), if_neg (by simp; omega), if_neg (by simp; omega), if_neg (by simp; omega), if_neg (by simp; omega)] at h
  cases h
/-- What a write stores. -/
def valZ (c : Nat → Int) (n x : Int) (i : Nat) : Int := mixZ c n (if n == 770 then 0 else if n == 771 then 0 else if n == 772 then 0 else c i) (if n == 768 then statusV x else if n == 773 then Go.bits .andNot .u64 x 2 else if n == 261 then Go.bits .andNot .u64 x 2 else if n == 833 then Go.bits .andNot .u64 x 1 else if n == 321 then Go.bits .andNot .u64 x 1 else x)
def modeBad (n x : Int) : Bool := n == 384 && (x / 1152921504606846976 != 0 && x / 1152921504606846976 != 8)
theorem write_is {c : Nat → Int} {n x : Int} {i : Nat} (h : ofI n = some i) : writeZ c n x = if modeBad n x then c else upd c i (valZ c n x i) := by
  rcases ofI_cases h with ⟨rfl, rfl⟩ | ⟨rfl, rfl⟩ | ⟨rfl, rfl⟩ | ⟨rfl, rfl⟩ | ⟨rfl, rfl⟩ | ⟨rfl, rfl⟩ | ⟨rfl, rfl⟩ | ⟨rfl, rfl⟩ | ⟨rfl, rfl⟩ | ⟨rfl, rfl⟩ | ⟨rfl, rfl⟩ | ⟨rfl, rfl⟩ | ⟨rfl, rfl⟩ | ⟨rfl, rfl⟩ | ⟨rfl, rfl⟩ | ⟨rfl, rfl⟩ | ⟨rfl, rfl⟩ | ⟨rfl, rfl⟩ | ⟨rfl, rfl⟩ | ⟨rfl, rfl⟩ | ⟨rfl, rfl⟩
  · rfl
  · rfl
  · rfl
  · rfl
  · rfl
  · rfl
  · rfl
  · rfl
  · rfl
  · rfl
  · rfl
  · rfl
  · show putZ c 384 x 15 = _
    unfold putZ
    rw [show stepZ c 384 x (c 15) = if x / 1152921504606846976 != 0 then (if x / 1152921504606846976 != 8 then none else some (mixZ c 384 (c 15) x)) else some (mixZ c 384 (c 15) x) from rfl, show modeBad 384 x = (x / 1152921504606846976 != 0 && x / 1152921504606846976 != 8) from rfl]
    cases x / 1152921504606846976 != 0 <;> cases x / 1152921504606846976 != 8 <;> rfl
  · rfl
  · rfl
  · rfl
  · rfl
  · rfl
  · rfl
  · rfl
  · rfl
section
variable {c : Nat → Int} {x : Int} (h : bnd c) (hx : u64B x)
include h hx
theorem val_770 : valZ c 770 x 1 = (Go.bits .or .u64 (Go.bits .andNot .u64 0 46079) (Go.bits .and .u64 x 46079)) := rfl
theorem val_771 : valZ c 771 x 2 = (Go.bits .or .u64 (Go.bits .andNot .u64 0 546) (Go.bits .and .u64 x 546)) := rfl
theorem val_773 : valZ c 773 x 5 = (Go.bits .or .u64 (Go.bits .andNot .u64 (c 5) 18446744073709551615) (Go.bits .and .u64 (Go.bits .andNot .u64 x 2) 18446744073709551615)) := rfl
theorem val_261 : valZ c 261 x 10 = (Go.bits .or .u64 (Go.bits .andNot .u64 (c 10) 18446744073709551615) (Go.bits .and .u64 (Go.bits .andNot .u64 x 2) 18446744073709551615)) := rfl
theorem val_832 : valZ c 832 x 6 = (Go.bits .or .u64 (Go.bits .andNot .u64 (c 6) 18446744073709551615) (Go.bits .and .u64 x 18446744073709551615)) := rfl
theorem val_320 : valZ c 320 x 11 = (Go.bits .or .u64 (Go.bits .andNot .u64 (c 11) 18446744073709551615) (Go.bits .and .u64 x 18446744073709551615)) := rfl
theorem val_833 : valZ c 833 x 7 = (Go.bits .or .u64 (Go.bits .andNot .u64 (c 7) 18446744073709551615) (Go.bits .and .u64 (Go.bits .andNot .u64 x 1) 18446744073709551615)) := rfl
theorem val_321 : valZ c 321 x 12 = (Go.bits .or .u64 (Go.bits .andNot .u64 (c 12) 18446744073709551615) (Go.bits .and .u64 (Go.bits .andNot .u64 x 1) 18446744073709551615)) := rfl
theorem val_834 : valZ c 834 x 8 = (Go.bits .or .u64 (Go.bits .andNot .u64 (c 8) 18446744073709551615) (Go.bits .and .u64 x 18446744073709551615)) := rfl
theorem val_322 : valZ c 322 x 13 = (Go.bits .or .u64 (Go.bits .andNot .u64 (c 13) 18446744073709551615) (Go.bits .and .u64 x 18446744073709551615)) := rfl
theorem val_835 : valZ c 835 x 9 = (Go.bits .or .u64 (Go.bits .andNot .u64 (c 9) 18446744073709551615) (Go.bits .and .u64 x 18446744073709551615)) := rfl
theorem val_323 : valZ c 323 x 14 = (Go.bits .or .u64 (Go.bits .andNot .u64 (c 14) 18446744073709551615) (Go.bits .and .u64 x 18446744073709551615)) := rfl
theorem val_384 : valZ c 384 x 15 = (Go.bits .or .u64 (Go.bits .andNot .u64 (c 15) 18446744073709551615) (Go.bits .and .u64 x 18446744073709551615)) := rfl
theorem val_2816 : valZ c 2816 x 16 = (Go.bits .or .u64 (Go.bits .andNot .u64 (c 16) 18446744073709551615) (Go.bits .and .u64 x 18446744073709551615)) := rfl
theorem val_3072 : valZ c 3072 x 16 = (Go.bits .or .u64 (Go.bits .andNot .u64 (c 16) 18446744073709551615) (Go.bits .and .u64 x 18446744073709551615)) := rfl
theorem val_768 : valZ c 768 x 0 = (Go.bits .or .u64 (Go.bits .andNot .u64 (c 0) 18446744073709551615) (Go.bits .and .u64 (statusV x) 18446744073709551615)) := rfl
theorem val_256 : valZ c 256 x 0 = (Go.bits .or .u64 (Go.bits .andNot .u64 (c 0) 786722) (Go.bits .and .u64 x 786722)) := rfl
theorem val_772 : valZ c 772 x 3 = (Go.bits .or .u64 (Go.bits .andNot .u64 0 2730) (Go.bits .and .u64 x 2730)) := rfl
theorem val_260 : valZ c 260 x 3 = (Go.bits .or .u64 (Go.bits .andNot .u64 (c 3) (Go.bits .and .u64 (c 2) 2730)) (Go.bits .and .u64 x (Go.bits .and .u64 (c 2) 2730))) := rfl
theorem val_836 : valZ c 836 x 4 = (Go.bits .or .u64 (Go.bits .andNot .u64 (c 4) 546) (Go.bits .and .u64 x 546)) := rfl
theorem val_324 : valZ c 324 x 4 = (Go.bits .or .u64 (Go.bits .andNot .u64 (c 4) (Go.bits .and .u64 (c 2) 2)) (Go.bits .and .u64 x (Go.bits .and .u64 (c 2) 2))) := rfl
theorem val_B {n : Int} {i : Nat} (ho : ofI n = some i) : u64B (valZ c n x i) := by
  have hs := st_B hx
  rcases ofI_cases ho with ⟨rfl, rfl⟩ | ⟨rfl, rfl⟩ | ⟨rfl, rfl⟩ | ⟨rfl, rfl⟩ | ⟨rfl, rfl⟩ | ⟨rfl, rfl⟩ | ⟨rfl, rfl⟩ | ⟨rfl, rfl⟩ | ⟨rfl, rfl⟩ | ⟨rfl, rfl⟩ | ⟨rfl, rfl⟩ | ⟨rfl, rfl⟩ | ⟨rfl, rfl⟩ | ⟨rfl, rfl⟩ | ⟨rfl, rfl⟩ | ⟨rfl, rfl⟩ | ⟨rfl, rfl⟩ | ⟨rfl, rfl⟩ | ⟨rfl, rfl⟩ | ⟨rfl, rfl⟩ | ⟨rfl, rfl⟩
  · rw [val_770 h hx]
    exact wd_B (by repeat (first | (with_reducible first | apply wd_and | apply wd_or | apply wd_andNot | apply wd_xor | exact wd_var (by assumption)) | exact wd_var ⟨by omega, by omega⟩))
  · rw [val_771 h hx]
    exact wd_B (by repeat (first | (with_reducible first | apply wd_and | apply wd_or | apply wd_andNot | apply wd_xor | exact wd_var (by assumption)) | exact wd_var ⟨by omega, by omega⟩))
  · rw [val_773 h hx]
    have h5 := h 5
    exact wd_B (by repeat (first | (with_reducible first | apply wd_and | apply wd_or | apply wd_andNot | apply wd_xor | exact wd_var (by assumption)) | exact wd_var ⟨by omega, by omega⟩))
  · rw [val_261 h hx]
    have h10 := h 10
    exact wd_B (by repeat (first | (with_reducible first | apply wd_and | apply wd_or | apply wd_andNot | apply wd_xor | exact wd_var (by assumption)) | exact wd_var ⟨by omega, by omega⟩))
  · rw [val_832 h hx]
    have h6 := h 6
    exact wd_B (by repeat (first | (with_reducible first | apply wd_and | apply wd_or | apply wd_andNot | apply wd_xor | exact wd_var (by assumption)) | exact wd_var ⟨by omega, by omega⟩))
  · rw [val_320 h hx]
    have h11 := h 11
    exact wd_B (by repeat (first | (with_reducible first | apply wd_and | apply wd_or | apply wd_andNot | apply wd_xor | exact wd_var (by assumption)) | exact wd_var ⟨by omega, by omega⟩))
  · rw [val_833 h hx]
    have h7 := h 7
    exact wd_B (by repeat (first | (with_reducible first | apply wd_and | apply wd_or | apply wd_andNot | apply wd_xor | exact wd_var (by assumption)) | exact wd_var ⟨by omega, by omega⟩))
  · rw [val_321 h hx]
    have h12 := h 12
    exact wd_B (by repeat (first | (with_reducible first | apply wd_and | apply wd_or | apply wd_andNot | apply wd_xor | exact wd_var (by assumption)) | exact wd_var ⟨by omega, by omega⟩))
  · rw [val_834 h hx]
    have h8 := h 8
    exact wd_B (by repeat (first | (with_reducible first | apply wd_and | apply wd_or | apply wd_andNot | apply wd_xor | exact wd_var (by assumption)) | exact wd_var ⟨by omega, by omega⟩))
  · rw [val_322 h hx]
    have h13 := h 13
    exact wd_B (by repeat (first | (with_reducible first | apply wd_and | apply wd_or | apply wd_andNot | apply wd_xor | exact wd_var (by assumption)) | exact wd_var ⟨by omega, by omega⟩))
  · rw [val_835 h hx]
    have h9 := h 9
    exact wd_B (by repeat (first | (with_reducible first | apply wd_and | apply wd_or | apply wd_andNot | apply wd_xor | exact wd_var (by assumption)) | exact wd_var ⟨by omega, by omega⟩))
  · rw [val_323 h hx]
    have h14 := h 14
    exact wd_B (by repeat (first | (with_reducible first | apply wd_and | apply wd_or | apply wd_andNot | apply wd_xor | exact wd_var (by assumption)) | exact wd_var ⟨by omega, by omega⟩))
  · rw [val_384 h hx]
    have h15 := h 15
    exact wd_B (by repeat (first | (with_reducible first | apply wd_and | apply wd_or | apply wd_andNot | apply wd_xor | exact wd_var (by assumption)) | exact wd_var ⟨by omega, by omega⟩))
  · rw [val_2816 h hx]
    have h16 := h 16
    exact wd_B (by repeat (first | (with_reducible first | apply wd_and | apply wd_or | apply wd_andNot | apply wd_xor | exact wd_var (by assumption)) | exact wd_var ⟨by omega, by omega⟩))
  · rw [val_3072 h hx]
    have h16 := h 16
    exact wd_B (by repeat (first | (with_reducible first | apply wd_and | apply wd_or | apply wd_andNot | apply wd_xor | exact wd_var (by assumption)) | exact wd_var ⟨by omega, by omega⟩))
  · rw [val_768 h hx]
    have h0 := h 0
    exact wd_B (by repeat (first | (with_reducible first | apply wd_and | apply wd_or | apply wd_andNot | apply wd_xor | exact wd_var (by assumption)) | exact wd_var ⟨by omega, by omega⟩))
  · rw [val_256 h hx]
    have h0 := h 0
    exact wd_B (by repeat (first | (with_reducible first | apply wd_and | apply wd_or | apply wd_andNot | apply wd_xor | exact wd_var (by assumption)) | exact wd_var ⟨by omega, by omega⟩))
  · rw [val_772 h hx]
    exact wd_B (by repeat (first | (with_reducible first | apply wd_and | apply wd_or | apply wd_andNot | apply wd_xor | exact wd_var (by assumption)) | exact wd_var ⟨by omega, by omega⟩))
  · rw [val_260 h hx]
    have h2 := h 2
    have h3 := h 3
    exact wd_B (by repeat (first | (with_reducible first | apply wd_and | apply wd_or | apply wd_andNot | apply wd_xor | exact wd_var (by assumption)) | exact wd_var ⟨by omega, by omega⟩))
  · rw [val_836 h hx]
    have h4 := h 4
    exact wd_B (by repeat (first | (with_reducible first | apply wd_and | apply wd_or | apply wd_andNot | apply wd_xor | exact wd_var (by assumption)) | exact wd_var ⟨by omega, by omega⟩))
  · rw [val_324 h hx]
    have h2 := h 2
    have h4 := h 4
    exact wd_B (by repeat (first | (with_reducible first | apply wd_and | apply wd_or | apply wd_andNot | apply wd_xor | exact wd_var (by assumption)) | exact wd_var ⟨by omega, by omega⟩))
theorem kept {n : Int} {i : Nat} (ho : ofI n = some i) (hc : chk c = true) (hm : modeBad n x = false) : fld i (valZ c n x i) := by
  have hs := st_B hx
  obtain ⟨f0, f1, f2, ⟨f3, f4⟩, ⟨f5, f10⟩, ⟨f7, f12⟩, f15⟩ := (chk_iff h).1 hc
  clear hc
  rcases ofI_cases ho with ⟨rfl, rfl⟩ | ⟨rfl, rfl⟩ | ⟨rfl, rfl⟩ | ⟨rfl, rfl⟩ | ⟨rfl, rfl⟩ | ⟨rfl, rfl⟩ | ⟨rfl, rfl⟩ | ⟨rfl, rfl⟩ | ⟨rfl, rfl⟩ | ⟨rfl, rfl⟩ | ⟨rfl, rfl⟩ | ⟨rfl, rfl⟩ | ⟨rfl, rfl⟩ | ⟨rfl, rfl⟩ | ⟨rfl, rfl⟩ | ⟨rfl, rfl⟩ | ⟨rfl, rfl⟩ | ⟨rfl, rfl⟩ | ⟨rfl, rfl⟩ | ⟨rfl, rfl⟩ | ⟨rfl, rfl⟩
  · rw [val_770 h hx]
    show (Go.bits .andNot .u64 (Go.bits .or .u64 (Go.bits .andNot .u64 0 46079) (Go.bits .and .u64 x 46079)) 46079) = 0
    refine wd_eq (by repeat (first | (with_reducible first | apply wd_and | apply wd_or | apply wd_andNot | apply wd_xor | exact wd_var (by assumption)) | exact wd_var ⟨by omega, by omega⟩)) (by repeat (first | (with_reducible first | apply wd_and | apply wd_or | apply wd_andNot | apply wd_xor | exact wd_var (by assumption)) | exact wd_var ⟨by omega, by omega⟩)) (fun i hi => ?_)
    try dsimp only
    generalize tb x i = qx
    revert i qx
    decide +kernel
  · rw [val_771 h hx]
    show (Go.bits .andNot .u64 (Go.bits .or .u64 (Go.bits .andNot .u64 0 546) (Go.bits .and .u64 x 546)) 546) = 0
    refine wd_eq (by repeat (first | (with_reducible first | apply wd_and | apply wd_or | apply wd_andNot | apply wd_xor | exact wd_var (by assumption)) | exact wd_var ⟨by omega, by omega⟩)) (by repeat (first | (with_reducible first | apply wd_and | apply wd_or | apply wd_andNot | apply wd_xor | exact wd_var (by assumption)) | exact wd_var ⟨by omega, by omega⟩)) (fun i hi => ?_)
    try dsimp only
    generalize tb x i = qx
    revert i qx
    decide +kernel
  · rw [val_773 h hx]
    show (Go.bits .and .u64 (Go.bits .or .u64 (Go.bits .andNot .u64 (c 5) 18446744073709551615) (Go.bits .and .u64 (Go.bits .andNot .u64 x 2) 18446744073709551615)) 2) = 0
    have b5 := h 5
    refine wd_eq (by repeat (first | (with_reducible first | apply wd_and | apply wd_or | apply wd_andNot | apply wd_xor | exact wd_var (by assumption)) | exact wd_var ⟨by omega, by omega⟩)) (by repeat (first | (with_reducible first | apply wd_and | apply wd_or | apply wd_andNot | apply wd_xor | exact wd_var (by assumption)) | exact wd_var ⟨by omega, by omega⟩)) (fun i hi => ?_)
    try dsimp only
    generalize tb (c 5) i = qc5
    generalize tb x i = qx
    revert i qc5 qx
    decide +kernel
  · rw [val_261 h hx]
    show (Go.bits .and .u64 (Go.bits .or .u64 (Go.bits .andNot .u64 (c 10) 18446744073709551615) (Go.bits .and .u64 (Go.bits .andNot .u64 x 2) 18446744073709551615)) 2) = 0
    have b10 := h 10
    refine wd_eq (by repeat (first | (with_reducible first | apply wd_and | apply wd_or | apply wd_andNot | apply wd_xor | exact wd_var (by assumption)) | exact wd_var ⟨by omega, by omega⟩)) (by repeat (first | (with_reducible first | apply wd_and | apply wd_or | apply wd_andNot | apply wd_xor | exact wd_var (by assumption)) | exact wd_var ⟨by omega, by omega⟩)) (fun i hi => ?_)
    try dsimp only
    generalize tb (c 10) i = qc10
    generalize tb x i = qx
    revert i qc10 qx
    decide +kernel
  · trivial
  · trivial
  · rw [val_833 h hx]
    show (Go.bits .and .u64 (Go.bits .or .u64 (Go.bits .andNot .u64 (c 7) 18446744073709551615) (Go.bits .and .u64 (Go.bits .andNot .u64 x 1) 18446744073709551615)) 1) = 0
    have b7 := h 7
    refine wd_eq (by repeat (first | (with_reducible first | apply wd_and | apply wd_or | apply wd_andNot | apply wd_xor | exact wd_var (by assumption)) | exact wd_var ⟨by omega, by omega⟩)) (by repeat (first | (with_reducible first | apply wd_and | apply wd_or | apply wd_andNot | apply wd_xor | exact wd_var (by assumption)) | exact wd_var ⟨by omega, by omega⟩)) (fun i hi => ?_)
    try dsimp only
    generalize tb (c 7) i = qc7
    generalize tb x i = qx
    revert i qc7 qx
    decide +kernel
  · rw [val_321 h hx]
    show (Go.bits .and .u64 (Go.bits .or .u64 (Go.bits .andNot .u64 (c 12) 18446744073709551615) (Go.bits .and .u64 (Go.bits .andNot .u64 x 1) 18446744073709551615)) 1) = 0
    have b12 := h 12
    refine wd_eq (by repeat (first | (with_reducible first | apply wd_and | apply wd_or | apply wd_andNot | apply wd_xor | exact wd_var (by assumption)) | exact wd_var ⟨by omega, by omega⟩)) (by repeat (first | (with_reducible first | apply wd_and | apply wd_or | apply wd_andNot | apply wd_xor | exact wd_var (by assumption)) | exact wd_var ⟨by omega, by omega⟩)) (fun i hi => ?_)
    try dsimp only
    generalize tb (c 12) i = qc12
    generalize tb x i = qx
    revert i qc12 qx
    decide +kernel
  · trivial
  · trivial
  · trivial
  · trivial
  · rw [val_384 h hx]
    have b15 := h 15
    have e : (Go.bits .or .u64 (Go.bits .andNot .u64 (c 15) 18446744073709551615) (Go.bits .and .u64 x 18446744073709551615)) = x := by
      refine wd_eq (by repeat (first | (with_reducible first | apply wd_and | apply wd_or | apply wd_andNot | apply wd_xor | exact wd_var (by assumption)) | exact wd_var ⟨by omega, by omega⟩)) (by repeat (first | (with_reducible first | apply wd_and | apply wd_or | apply wd_andNot | apply wd_xor | exact wd_var (by assumption)) | exact wd_var ⟨by omega, by omega⟩)) (fun i hi => ?_)
      try dsimp only
      generalize tb (c 15) i = qc15
      generalize tb x i = qx
      revert i qc15 qx
      decide +kernel
    rw [e]
    show x / 1152921504606846976 = 0 ∨ x / 1152921504606846976 = 8
    have hm' : (x / 1152921504606846976 != 0 && x / 1152921504606846976 != 8) = false := hm
    by_cases q : x / 1152921504606846976 = 0
    · exact .inl q
    · by_cases r : x / 1152921504606846976 = 8
      · exact .inr r
      · rw [bne_iff_ne.2 q, bne_iff_ne.2 r] at hm'; cases hm'
  · trivial
  · trivial
  · rw [val_768 h hx]
    have b0 := h 0
    have e : (Go.bits .or .u64 (Go.bits .andNot .u64 (c 0) 18446744073709551615) (Go.bits .and .u64 (statusV x) 18446744073709551615)) = statusV x := by
      refine wd_eq (by repeat (first | (with_reducible first | apply wd_and | apply wd_or | apply wd_andNot | apply wd_xor | exact wd_var (by assumption)) | exact wd_var ⟨by omega, by omega⟩)) (by repeat (first | (with_reducible first | apply wd_and | apply wd_or | apply wd_andNot | apply wd_xor | exact wd_var (by assumption)) | exact wd_var ⟨by omega, by omega⟩)) (fun i hi => ?_)
      try dsimp only
      generalize tb (c 0) i = qc0
      generalize tb (statusV x) i = qstatusVx
      revert i qc0 qstatusVx
      decide +kernel
    rw [e]
    exact st_idem hx
  · rw [val_256 h hx]
    have b0 := h 0
    obtain ⟨g1, g2⟩ := st_of b0 f0
    refine st_fix (wd_B (by repeat (first | (with_reducible first | apply wd_and | apply wd_or | apply wd_andNot | apply wd_xor | exact wd_var (by assumption)) | exact wd_var ⟨by omega, by omega⟩))) ?_ ?_
    · skip
      refine wd_eq (by repeat (first | (with_reducible first | apply wd_and | apply wd_or | apply wd_andNot | apply wd_xor | exact wd_var (by assumption)) | exact wd_var ⟨by omega, by omega⟩)) (by repeat (first | (with_reducible first | apply wd_and | apply wd_or | apply wd_andNot | apply wd_xor | exact wd_var (by assumption)) | exact wd_var ⟨by omega, by omega⟩)) (fun i hi => ?_)
      have g1b := wd_bit (by repeat (first | (with_reducible first | apply wd_and | apply wd_or | apply wd_andNot | apply wd_xor | exact wd_var (by assumption)) | exact wd_var ⟨by omega, by omega⟩)) (by repeat (first | (with_reducible first | apply wd_and | apply wd_or | apply wd_andNot | apply wd_xor | exact wd_var (by assumption)) | exact wd_var ⟨by omega, by omega⟩)) g1 i
      try dsimp only at g1b
      try dsimp only
      revert g1b
      generalize tb (c 0) i = qc0
      generalize tb x i = qx
      revert i qc0 qx
      decide +kernel
    · intro hz
      apply g2
      rw [← hz]
      refine wd_eq (by repeat (first | (with_reducible first | apply wd_and | apply wd_or | apply wd_andNot | apply wd_xor | exact wd_var (by assumption)) | exact wd_var ⟨by omega, by omega⟩)) (by repeat (first | (with_reducible first | apply wd_and | apply wd_or | apply wd_andNot | apply wd_xor | exact wd_var (by assumption)) | exact wd_var ⟨by omega, by omega⟩)) (fun i hi => ?_)
      try dsimp only
      generalize tb (c 0) i = qc0
      generalize tb x i = qx
      revert i qc0 qx
      decide +kernel
  · rw [val_772 h hx]
    show (Go.bits .andNot .u64 (Go.bits .or .u64 (Go.bits .andNot .u64 0 2730) (Go.bits .and .u64 x 2730)) 2730) = 0
    refine wd_eq (by repeat (first | (with_reducible first | apply wd_and | apply wd_or | apply wd_andNot | apply wd_xor | exact wd_var (by assumption)) | exact wd_var ⟨by omega, by omega⟩)) (by repeat (first | (with_reducible first | apply wd_and | apply wd_or | apply wd_andNot | apply wd_xor | exact wd_var (by assumption)) | exact wd_var ⟨by omega, by omega⟩)) (fun i hi => ?_)
    try dsimp only
    generalize tb x i = qx
    revert i qx
    decide +kernel
  · rw [val_260 h hx]
    show (Go.bits .andNot .u64 (Go.bits .or .u64 (Go.bits .andNot .u64 (c 3) (Go.bits .and .u64 (c 2) 2730)) (Go.bits .and .u64 x (Go.bits .and .u64 (c 2) 2730))) 2730) = 0
    have b2 := h 2
    have b3 := h 3
    change (Go.bits .andNot .u64 (c 3) 2730) = 0 at f3
    refine wd_eq (by repeat (first | (with_reducible first | apply wd_and | apply wd_or | apply wd_andNot | apply wd_xor | exact wd_var (by assumption)) | exact wd_var ⟨by omega, by omega⟩)) (by repeat (first | (with_reducible first | apply wd_and | apply wd_or | apply wd_andNot | apply wd_xor | exact wd_var (by assumption)) | exact wd_var ⟨by omega, by omega⟩)) (fun i hi => ?_)
    have f3b := wd_bit (by repeat (first | (with_reducible first | apply wd_and | apply wd_or | apply wd_andNot | apply wd_xor | exact wd_var (by assumption)) | exact wd_var ⟨by omega, by omega⟩)) (by repeat (first | (with_reducible first | apply wd_and | apply wd_or | apply wd_andNot | apply wd_xor | exact wd_var (by assumption)) | exact wd_var ⟨by omega, by omega⟩)) f3 i
    try dsimp only at f3b
    try dsimp only
    revert f3b
    generalize tb (c 2) i = qc2
    generalize tb (c 3) i = qc3
    generalize tb x i = qx
    revert i qc2 qc3 qx
    decide +kernel
  · rw [val_836 h hx]
    show (Go.bits .andNot .u64 (Go.bits .or .u64 (Go.bits .andNot .u64 (c 4) 546) (Go.bits .and .u64 x 546)) 2730) = 0
    have b4 := h 4
    change (Go.bits .andNot .u64 (c 4) 2730) = 0 at f4
    refine wd_eq (by repeat (first | (with_reducible first | apply wd_and | apply wd_or | apply wd_andNot | apply wd_xor | exact wd_var (by assumption)) | exact wd_var ⟨by omega, by omega⟩)) (by repeat (first | (with_reducible first | apply wd_and | apply wd_or | apply wd_andNot | apply wd_xor | exact wd_var (by assumption)) | exact wd_var ⟨by omega, by omega⟩)) (fun i hi => ?_)
    have f4b := wd_bit (by repeat (first | (with_reducible first | apply wd_and | apply wd_or | apply wd_andNot | apply wd_xor | exact wd_var (by assumption)) | exact wd_var ⟨by omega, by omega⟩)) (by repeat (first | (with_reducible first | apply wd_and | apply wd_or | apply wd_andNot | apply wd_xor | exact wd_var (by assumption)) | exact wd_var ⟨by omega, by omega⟩)) f4 i
    try dsimp only at f4b
    try dsimp only
    revert f4b
    generalize tb (c 4) i = qc4
    generalize tb x i = qx
    revert i qc4 qx
    decide +kernel
  · rw [val_324 h hx]
    show (Go.bits .andNot .u64 (Go.bits .or .u64 (Go.bits .andNot .u64 (c 4) (Go.bits .and .u64 (c 2) 2)) (Go.bits .and .u64 x (Go.bits .and .u64 (c 2) 2))) 2730) = 0
    have b2 := h 2
    have b4 := h 4
    change (Go.bits .andNot .u64 (c 4) 2730) = 0 at f4
    refine wd_eq (by repeat (first | (with_reducible first | apply wd_and | apply wd_or | apply wd_andNot | apply wd_xor | exact wd_var (by assumption)) | exact wd_var ⟨by omega, by omega⟩)) (by repeat (first | (with_reducible first | apply wd_and | apply wd_or | apply wd_andNot | apply wd_xor | exact wd_var (by assumption)) | exact wd_var ⟨by omega, by omega⟩)) (fun i hi => ?_)
    have f4b := wd_bit (by repeat (first | (with_reducible first | apply wd_and | apply wd_or | apply wd_andNot | apply wd_xor | exact wd_var (by assumption)) | exact wd_var ⟨by omega, by omega⟩)) (by repeat (first | (with_reducible first | apply wd_and | apply wd_or | apply wd_andNot | apply wd_xor | exact wd_var (by assumption)) | exact wd_var ⟨by omega, by omega⟩)) f4 i
    try dsimp only at f4b
    try dsimp only
    revert f4b
    generalize tb (c 2) i = qc2
    generalize tb (c 4) i = qc4
    generalize tb x i = qx
    revert i qc2 qc4 qx
    decide +kernel
theorem twice {n : Int} {i : Nat} (ho : ofI n = some i) : valZ (upd c i (valZ c n x i)) n x i = valZ c n x i := by
  have hs := st_B hx
  rcases ofI_cases ho with ⟨rfl, rfl⟩ | ⟨rfl, rfl⟩ | ⟨rfl, rfl⟩ | ⟨rfl, rfl⟩ | ⟨rfl, rfl⟩ | ⟨rfl, rfl⟩ | ⟨rfl, rfl⟩ | ⟨rfl, rfl⟩ | ⟨rfl, rfl⟩ | ⟨rfl, rfl⟩ | ⟨rfl, rfl⟩ | ⟨rfl, rfl⟩ | ⟨rfl, rfl⟩ | ⟨rfl, rfl⟩ | ⟨rfl, rfl⟩ | ⟨rfl, rfl⟩ | ⟨rfl, rfl⟩ | ⟨rfl, rfl⟩ | ⟨rfl, rfl⟩ | ⟨rfl, rfl⟩ | ⟨rfl, rfl⟩
  · show (Go.bits .or .u64 (Go.bits .andNot .u64 0 46079) (Go.bits .and .u64 x 46079)) = (Go.bits .or .u64 (Go.bits .andNot .u64 0 46079) (Go.bits .and .u64 x 46079))
    rfl
  · show (Go.bits .or .u64 (Go.bits .andNot .u64 0 546) (Go.bits .and .u64 x 546)) = (Go.bits .or .u64 (Go.bits .andNot .u64 0 546) (Go.bits .and .u64 x 546))
    rfl
  · show (Go.bits .or .u64 (Go.bits .andNot .u64 (Go.bits .or .u64 (Go.bits .andNot .u64 (c 5) 18446744073709551615) (Go.bits .and .u64 (Go.bits .andNot .u64 x 2) 18446744073709551615)) 18446744073709551615) (Go.bits .and .u64 (Go.bits .andNot .u64 x 2) 18446744073709551615)) = (Go.bits .or .u64 (Go.bits .andNot .u64 (c 5) 18446744073709551615) (Go.bits .and .u64 (Go.bits .andNot .u64 x 2) 18446744073709551615))
    have b5 := h 5
    refine wd_eq (by repeat (first | (with_reducible first | apply wd_and | apply wd_or | apply wd_andNot | apply wd_xor | exact wd_var (by assumption)) | exact wd_var ⟨by omega, by omega⟩)) (by repeat (first | (with_reducible first | apply wd_and | apply wd_or | apply wd_andNot | apply wd_xor | exact wd_var (by assumption)) | exact wd_var ⟨by omega, by omega⟩)) (fun i hi => ?_)
    try dsimp only
    generalize tb (c 5) i = qc5
    generalize tb x i = qx
    revert i qc5 qx
    decide +kernel
  · show (Go.bits .or .u64 (Go.bits .andNot .u64 (Go.bits .or .u64 (Go.bits .andNot .u64 (c 10) 18446744073709551615) (Go.bits .and .u64 (Go.bits .andNot .u64 x 2) 18446744073709551615)) 18446744073709551615) (Go.bits .and .u64 (Go.bits .andNot .u64 x 2) 18446744073709551615)) = (Go.bits .or .u64 (Go.bits .andNot .u64 (c 10) 18446744073709551615) (Go.bits .and .u64 (Go.bits .andNot .u64 x 2) 18446744073709551615))
    have b10 := h 10
    refine wd_eq (by repeat (first | (with_reducible first | apply wd_and | apply wd_or | apply wd_andNot | apply wd_xor | exact wd_var (by assumption)) | exact wd_var ⟨by omega, by omega⟩)) (by repeat (first | (with_reducible first | apply wd_and | apply wd_or | apply wd_andNot | apply wd_xor | exact wd_var (by assumption)) | exact wd_var ⟨by omega, by omega⟩)) (fun i hi => ?_)
    try dsimp only
    generalize tb (c 10) i = qc10
    generalize tb x i = qx
    revert i qc10 qx
    decide +kernel
  · show (Go.bits .or .u64 (Go.bits .andNot .u64 (Go.bits .or .u64 (Go.bits .andNot .u64 (c 6) 18446744073709551615) (Go.bits .and .u64 x 18446744073709551615)) 18446744073709551615) (Go.bits .and .u64 x 18446744073709551615)) = (Go.bits .or .u64 (Go.bits .andNot .u64 (c 6) 18446744073709551615) (Go.bits .and .u64 x 18446744073709551615))
    have b6 := h 6
    refine wd_eq (by repeat (first | (with_reducible first | apply wd_and | apply wd_or | apply wd_andNot | apply wd_xor | exact wd_var (by assumption)) | exact wd_var ⟨by omega, by omega⟩)) (by repeat (first | (with_reducible first | apply wd_and | apply wd_or | apply wd_andNot | apply wd_xor | exact wd_var (by assumption)) | exact wd_var ⟨by omega, by omega⟩)) (fun i hi => ?_)
    try dsimp only
    generalize tb (c 6) i = qc6
    generalize tb x i = qx
    revert i qc6 qx
    decide +kernel
  · show (Go.bits .or .u64 (Go.bits .andNot .u64 (Go.bits .or .u64 (Go.bits .andNot .u64 (c 11) 18446744073709551615) (Go.bits .and .u64 x 18446744073709551615)) 18446744073709551615) (Go.bits .and .u64 x 18446744073709551615)) = (Go.bits .or .u64 (Go.bits .andNot .u64 (c 11) 18446744073709551615) (Go.bits .and .u64 x 18446744073709551615))
    have b11 := h 11
    refine wd_eq (by repeat (first | (with_reducible first | apply wd_and | apply wd_or | apply wd_andNot | apply wd_xor | exact wd_var (by assumption)) | exact wd_var ⟨by omega, by omega⟩)) (by repeat (first | (with_reducible first | apply wd_and | apply wd_or | apply wd_andNot | apply wd_xor | exact wd_var (by assumption)) | exact wd_var ⟨by omega, by omega⟩)) (fun i hi => ?_)
    try dsimp only
    generalize tb (c 11) i = qc11
    generalize tb x i = qx
    revert i qc11 qx
    decide +kernel
  · show (Go.bits .or .u64 (Go.bits .andNot .u64 (Go.bits .or .u64 (Go.bits .andNot .u64 (c 7) 18446744073709551615) (Go.bits .and .u64 (Go.bits .andNot .u64 x 1) 18446744073709551615)) 18446744073709551615) (Go.bits .and .u64 (Go.bits .andNot .u64 x 1) 18446744073709551615)) = (Go.bits .or .u64 (Go.bits .andNot .u64 (c 7) 18446744073709551615) (Go.bits .and .u64 (Go.bits .andNot .u64 x 1) 18446744073709551615))
    have b7 := h 7
    refine wd_eq (by repeat (first | (with_reducible first | apply wd_and | apply wd_or | apply wd_andNot | apply wd_xor | exact wd_var (by assumption)) | exact wd_var ⟨by omega, by omega⟩)) (by repeat (first | (with_reducible first | apply wd_and | apply wd_or | apply wd_andNot | apply wd_xor | exact wd_var (by assumption)) | exact wd_var ⟨by omega, by omega⟩)) (fun i hi => ?_)
    try dsimp only
    generalize tb (c 7) i = qc7
    generalize tb x i = qx
    revert i qc7 qx
    decide +kernel
  · show (Go.bits .or .u64 (Go.bits .andNot .u64 (Go.bits .or .u64 (Go.bits .andNot .u64 (c 12) 18446744073709551615) (Go.bits .and .u64 (Go.bits .andNot .u64 x 1) 18446744073709551615)) 18446744073709551615) (Go.bits .and .u64 (Go.bits .andNot .u64 x 1) 18446744073709551615)) = (Go.bits .or .u64 (Go.bits .andNot .u64 (c 12) 18446744073709551615) (Go.bits .and .u64 (Go.bits .andNot .u64 x 1) 18446744073709551615))
    have b12 := h 12
    refine wd_eq (by repeat (first | (with_reducible first | apply wd_and | apply wd_or | apply wd_andNot | apply wd_xor | exact wd_var (by assumption)) | exact wd_var ⟨by omega, by omega⟩)) (by repeat (first | (with_reducible first | apply wd_and | apply wd_or | apply wd_andNot | apply wd_xor | exact wd_var (by assumption)) | exact wd_var ⟨by omega, by omega⟩)) (fun i hi => ?_)
    try dsimp only
    generalize tb (c 12) i = qc12
    generalize tb x i = qx
    revert i qc12 qx
    decide +kernel
  · show (Go.bits .or .u64 (Go.bits .andNot .u64 (Go.bits .or .u64 (Go.bits .andNot .u64 (c 8) 18446744073709551615) (Go.bits .and .u64 x 18446744073709551615)) 18446744073709551615) (Go.bits .and .u64 x 18446744073709551615)) = (Go.bits .or .u64 (Go.bits .andNot .u64 (c 8) 18446744073709551615) (Go.bits .and .u64 x 18446744073709551615))
    have b8 := h 8
    refine wd_eq (by repeat (first | (with_reducible first | apply wd_and | apply wd_or | apply wd_andNot | apply wd_xor | exact wd_var (by assumption)) | exact wd_var ⟨by omega, by omega⟩)) (by repeat (first | (with_reducible first | apply wd_and | apply wd_or | apply wd_andNot | apply wd_xor | exact wd_var (by assumption)) | exact wd_var ⟨by omega, by omega⟩)) (fun i hi => ?_)
    try dsimp only
    generalize tb (c 8) i = qc8
    generalize tb x i = qx
    revert i qc8 qx
    decide +kernel
  · show (Go.bits .or .u64 (Go.bits .andNot .u64 (Go.bits .or .u64 (Go.bits .andNot .u64 (c 13) 18446744073709551615) (Go.bits .and .u64 x 18446744073709551615)) 18446744073709551615) (Go.bits .and .u64 x 18446744073709551615)) = (Go.bits .or .u64 (Go.bits .andNot .u64 (c 13) 18446744073709551615) (Go.bits .and .u64 x 18446744073709551615))
    have b13 := h 13
    refine wd_eq (by repeat (first | (with_reducible first | apply wd_and | apply wd_or | apply wd_andNot | apply wd_xor | exact wd_var (by assumption)) | exact wd_var ⟨by omega, by omega⟩)) (by repeat (first | (with_reducible first | apply wd_and | apply wd_or | apply wd_andNot | apply wd_xor | exact wd_var (by assumption)) | exact wd_var ⟨by omega, by omega⟩)) (fun i hi => ?_)
    try dsimp only
    generalize tb (c 13) i = qc13
    generalize tb x i = qx
    revert i qc13 qx
    decide +kernel
  · show (Go.bits .or .u64 (Go.bits .andNot .u64 (Go.bits .or .u64 (Go.bits .andNot .u64 (c 9) 18446744073709551615) (Go.bits .and .u64 x 18446744073709551615)) 18446744073709551615) (Go.bits .and .u64 x 18446744073709551615)) = (Go.bits .or .u64 (Go.bits .andNot .u64 (c 9) 18446744073709551615) (Go.bits .and .u64 x 18446744073709551615))
    have b9 := h 9
    refine wd_eq (by repeat (first | (with_reducible first | apply wd_and | apply wd_or | apply wd_andNot | apply wd_xor | exact wd_var (by assumption)) | exact wd_var ⟨by omega, by omega⟩)) (by repeat (first | (with_reducible first | apply wd_and | apply wd_or | apply wd_andNot | apply wd_xor | exact wd_var (by assumption)) | exact wd_var ⟨by omega, by omega⟩)) (fun i hi => ?_)
    try dsimp only
    generalize tb (c 9) i = qc9
    generalize tb x i = qx
    revert i qc9 qx
    decide +kernel
  · show (Go.bits .or .u64 (Go.bits .andNot .u64 (Go.bits .or .u64 (Go.bits .andNot .u64 (c 14) 18446744073709551615) (Go.bits .and .u64 x 18446744073709551615)) 18446744073709551615) (Go.bits .and .u64 x 18446744073709551615)) = (Go.bits .or .u64 (Go.bits .andNot .u64 (c 14) 18446744073709551615) (Go.bits .and .u64 x 18446744073709551615))
    have b14 := h 14
    refine wd_eq (by repeat (first | (with_reducible first | apply wd_and | apply wd_or | apply wd_andNot | apply wd_xor | exact wd_var (by assumption)) | exact wd_var ⟨by omega, by omega⟩)) (by repeat (first | (with_reducible first | apply wd_and | apply wd_or | apply wd_andNot | apply wd_xor | exact wd_var (by assumption)) | exact wd_var ⟨by omega, by omega⟩)) (fun i hi => ?_)
    try dsimp only
    generalize tb (c 14) i = qc14
    generalize tb x i = qx
    revert i qc14 qx
    decide +kernel
  · show (Go.bits .or .u64 (Go.bits .andNot .u64 (Go.bits .or .u64 (Go.bits .andNot .u64 (c 15) 18446744073709551615) (Go.bits .and .u64 x 18446744073709551615)) 18446744073709551615) (Go.bits .and .u64 x 18446744073709551615)) = (Go.bits .or .u64 (Go.bits .andNot .u64 (c 15) 18446744073709551615) (Go.bits .and .u64 x 18446744073709551615))
    have b15 := h 15
    refine wd_eq (by repeat (first | (with_reducible first | apply wd_and | apply wd_or | apply wd_andNot | apply wd_xor | exact wd_var (by assumption)) | exact wd_var ⟨by omega, by omega⟩)) (by repeat (first | (with_reducible first | apply wd_and | apply wd_or | apply wd_andNot | apply wd_xor | exact wd_var (by assumption)) | exact wd_var ⟨by omega, by omega⟩)) (fun i hi => ?_)
    try dsimp only
    generalize tb (c 15) i = qc15
    generalize tb x i = qx
    revert i qc15 qx
    decide +kernel
  · show (Go.bits .or .u64 (Go.bits .andNot .u64 (Go.bits .or .u64 (Go.bits .andNot .u64 (c 16) 18446744073709551615) (Go.bits .and .u64 x 18446744073709551615)) 18446744073709551615) (Go.bits .and .u64 x 18446744073709551615)) = (Go.bits .or .u64 (Go.bits .andNot .u64 (c 16) 18446744073709551615) (Go.bits .and .u64 x 18446744073709551615))
    have b16 := h 16
    refine wd_eq (by repeat (first | (with_reducible first | apply wd_and | apply wd_or | apply wd_andNot | apply wd_xor | exact wd_var (by assumption)) | exact wd_var ⟨by omega, by omega⟩)) (by repeat (first | (with_reducible first | apply wd_and | apply wd_or | apply wd_andNot | apply wd_xor | exact wd_var (by assumption)) | exact wd_var ⟨by omega, by omega⟩)) (fun i hi => ?_)
    try dsimp only
    generalize tb (c 16) i = qc16
    generalize tb x i = qx
    revert i qc16 qx
    decide +kernel
  · show (Go.bits .or .u64 (Go.bits .andNot .u64 (Go.bits .or .u64 (Go.bits .andNot .u64 (c 16) 18446744073709551615) (Go.bits .and .u64 x 18446744073709551615)) 18446744073709551615) (Go.bits .and .u64 x 18446744073709551615)) = (Go.bits .or .u64 (Go.bits .andNot .u64 (c 16) 18446744073709551615) (Go.bits .and .u64 x 18446744073709551615))
    have b16 := h 16
    refine wd_eq (by repeat (first | (with_reducible first | apply wd_and | apply wd_or | apply wd_andNot | apply wd_xor | exact wd_var (by assumption)) | exact wd_var ⟨by omega, by omega⟩)) (by repeat (first | (with_reducible first | apply wd_and | apply wd_or | apply wd_andNot | apply wd_xor | exact wd_var (by assumption)) | exact wd_var ⟨by omega, by omega⟩)) (fun i hi => ?_)
    try dsimp only
    generalize tb (c 16) i = qc16
    generalize tb x i = qx
    revert i qc16 qx
    decide +kernel
  · show (Go.bits .or .u64 (Go.bits .andNot .u64 (Go.bits .or .u64 (Go.bits .andNot .u64 (c 0) 18446744073709551615) (Go.bits .and .u64 (statusV x) 18446744073709551615)) 18446744073709551615) (Go.bits .and .u64 (statusV x) 18446744073709551615)) = (Go.bits .or .u64 (Go.bits .andNot .u64 (c 0) 18446744073709551615) (Go.bits .and .u64 (statusV x) 18446744073709551615))
    have b0 := h 0
    refine wd_eq (by repeat (first | (with_reducible first | apply wd_and | apply wd_or | apply wd_andNot | apply wd_xor | exact wd_var (by assumption)) | exact wd_var ⟨by omega, by omega⟩)) (by repeat (first | (with_reducible first | apply wd_and | apply wd_or | apply wd_andNot | apply wd_xor | exact wd_var (by assumption)) | exact wd_var ⟨by omega, by omega⟩)) (fun i hi => ?_)
    try dsimp only
    generalize tb (c 0) i = qc0
    generalize tb (statusV x) i = qstatusVx
    revert i qc0 qstatusVx
    decide +kernel
  · show (Go.bits .or .u64 (Go.bits .andNot .u64 (Go.bits .or .u64 (Go.bits .andNot .u64 (c 0) 786722) (Go.bits .and .u64 x 786722)) 786722) (Go.bits .and .u64 x 786722)) = (Go.bits .or .u64 (Go.bits .andNot .u64 (c 0) 786722) (Go.bits .and .u64 x 786722))
    have b0 := h 0
    refine wd_eq (by repeat (first | (with_reducible first | apply wd_and | apply wd_or | apply wd_andNot | apply wd_xor | exact wd_var (by assumption)) | exact wd_var ⟨by omega, by omega⟩)) (by repeat (first | (with_reducible first | apply wd_and | apply wd_or | apply wd_andNot | apply wd_xor | exact wd_var (by assumption)) | exact wd_var ⟨by omega, by omega⟩)) (fun i hi => ?_)
    try dsimp only
    generalize tb (c 0) i = qc0
    generalize tb x i = qx
    revert i qc0 qx
    decide +kernel
  · show (Go.bits .or .u64 (Go.bits .andNot .u64 0 2730) (Go.bits .and .u64 x 2730)) = (Go.bits .or .u64 (Go.bits .andNot .u64 0 2730) (Go.bits .and .u64 x 2730))
    rfl
  · show (Go.bits .or .u64 (Go.bits .andNot .u64 (Go.bits .or .u64 (Go.bits .andNot .u64 (c 3) (Go.bits .and .u64 (c 2) 2730)) (Go.bits .and .u64 x (Go.bits .and .u64 (c 2) 2730))) (Go.bits .and .u64 (c 2) 2730)) (Go.bits .and .u64 x (Go.bits .and .u64 (c 2) 2730))) = (Go.bits .or .u64 (Go.bits .andNot .u64 (c 3) (Go.bits .and .u64 (c 2) 2730)) (Go.bits .and .u64 x (Go.bits .and .u64 (c 2) 2730)))
    have b2 := h 2
    have b3 := h 3
    refine wd_eq (by repeat (first | (with_reducible first | apply wd_and | apply wd_or | apply wd_andNot | apply wd_xor | exact wd_var (by assumption)) | exact wd_var ⟨by omega, by omega⟩)) (by repeat (first | (with_reducible first | apply wd_and | apply wd_or | apply wd_andNot | apply wd_xor | exact wd_var (by assumption)) | exact wd_var ⟨by omega, by omega⟩)) (fun i hi => ?_)
    try dsimp only
    generalize tb (c 2) i = qc2
    generalize tb (c 3) i = qc3
    generalize tb x i = qx
    revert i qc2 qc3 qx
    decide +kernel
  · show (Go.bits .or .u64 (Go.bits .andNot .u64 (Go.bits .or .u64 (Go.bits .andNot .u64 (c 4) 546) (Go.bits .and .u64 x 546)) 546) (Go.bits .and .u64 x 546)) = (Go.bits .or .u64 (Go.bits .andNot .u64 (c 4) 546) (Go.bits .and .u64 x 546))
    have b4 := h 4
    refine wd_eq (by repeat (first | (with_reducible first | apply wd_and | apply wd_or | apply wd_andNot | apply wd_xor | exact wd_var (by assumption)) | exact wd_var ⟨by omega, by omega⟩)) (by repeat (first | (with_reducible first | apply wd_and | apply wd_or | apply wd_andNot | apply wd_xor | exact wd_var (by assumption)) | exact wd_var ⟨by omega, by omega⟩)) (fun i hi => ?_)
    try dsimp only
    generalize tb (c 4) i = qc4
    generalize tb x i = qx
    revert i qc4 qx
    decide +kernel
  · show (Go.bits .or .u64 (Go.bits .andNot .u64 (Go.bits .or .u64 (Go.bits .andNot .u64 (c 4) (Go.bits .and .u64 (c 2) 2)) (Go.bits .and .u64 x (Go.bits .and .u64 (c 2) 2))) (Go.bits .and .u64 (c 2) 2)) (Go.bits .and .u64 x (Go.bits .and .u64 (c 2) 2))) = (Go.bits .or .u64 (Go.bits .andNot .u64 (c 4) (Go.bits .and .u64 (c 2) 2)) (Go.bits .and .u64 x (Go.bits .and .u64 (c 2) 2)))
    have b2 := h 2
    have b4 := h 4
    refine wd_eq (by repeat (first | (with_reducible first | apply wd_and | apply wd_or | apply wd_andNot | apply wd_xor | exact wd_var (by assumption)) | exact wd_var ⟨by omega, by omega⟩)) (by repeat (first | (with_reducible first | apply wd_and | apply wd_or | apply wd_andNot | apply wd_xor | exact wd_var (by assumption)) | exact wd_var ⟨by omega, by omega⟩)) (fun i hi => ?_)
    try dsimp only
    generalize tb (c 2) i = qc2
    generalize tb (c 4) i = qc4
    generalize tb x i = qx
    revert i qc2 qc4 qx
    decide +kernel
end
theorem back {c : Nat → Int} (h : bnd c) {n : Int} {i : Nat} (ho : ofI n = some i) (hc : chk c = true) {v : Int} (hv : seenZ c n = some v) : modeBad n v = false ∧ valZ c n v i = c i := by
  obtain ⟨f0, f1, f2, ⟨f3, f4⟩, ⟨f5, f10⟩, ⟨f7, f12⟩, f15⟩ := (chk_iff h).1 hc
  clear hc
  rcases ofI_cases ho with ⟨rfl, rfl⟩ | ⟨rfl, rfl⟩ | ⟨rfl, rfl⟩ | ⟨rfl, rfl⟩ | ⟨rfl, rfl⟩ | ⟨rfl, rfl⟩ | ⟨rfl, rfl⟩ | ⟨rfl, rfl⟩ | ⟨rfl, rfl⟩ | ⟨rfl, rfl⟩ | ⟨rfl, rfl⟩ | ⟨rfl, rfl⟩ | ⟨rfl, rfl⟩ | ⟨rfl, rfl⟩ | ⟨rfl, rfl⟩ | ⟨rfl, rfl⟩ | ⟨rfl, rfl⟩ | ⟨rfl, rfl⟩ | ⟨rfl, rfl⟩ | ⟨rfl, rfl⟩ | ⟨rfl, rfl⟩
  · obtain rfl : (c 1) = v := Option.some.inj hv
    clear hv
    refine ⟨rfl, ?_⟩
    show (Go.bits .or .u64 (Go.bits .andNot .u64 0 46079) (Go.bits .and .u64 (c 1) 46079)) = c 1
    change (Go.bits .andNot .u64 (c 1) 46079) = 0 at f1
    have b1 := h 1
    refine wd_eq (by repeat (first | (with_reducible first | apply wd_and | apply wd_or | apply wd_andNot | apply wd_xor | exact wd_var (by assumption)) | exact wd_var ⟨by omega, by omega⟩)) (by repeat (first | (with_reducible first | apply wd_and | apply wd_or | apply wd_andNot | apply wd_xor | exact wd_var (by assumption)) | exact wd_var ⟨by omega, by omega⟩)) (fun i hi => ?_)
    have f1b := wd_bit (by repeat (first | (with_reducible first | apply wd_and | apply wd_or | apply wd_andNot | apply wd_xor | exact wd_var (by assumption)) | exact wd_var ⟨by omega, by omega⟩)) (by repeat (first | (with_reducible first | apply wd_and | apply wd_or | apply wd_andNot | apply wd_xor | exact wd_var (by assumption)) | exact wd_var ⟨by omega, by omega⟩)) f1 i
    try dsimp only at f1b
    try dsimp only
    revert f1b
    generalize tb (c 1) i = qc1
    revert i qc1
    decide +kernel
  · obtain rfl : (c 2) = v := Option.some.inj hv
    clear hv
    refine ⟨rfl, ?_⟩
    show (Go.bits .or .u64 (Go.bits .andNot .u64 0 546) (Go.bits .and .u64 (c 2) 546)) = c 2
    change (Go.bits .andNot .u64 (c 2) 546) = 0 at f2
    have b2 := h 2
    refine wd_eq (by repeat (first | (with_reducible first | apply wd_and | apply wd_or | apply wd_andNot | apply wd_xor | exact wd_var (by assumption)) | exact wd_var ⟨by omega, by omega⟩)) (by repeat (first | (with_reducible first | apply wd_and | apply wd_or | apply wd_andNot | apply wd_xor | exact wd_var (by assumption)) | exact wd_var ⟨by omega, by omega⟩)) (fun i hi => ?_)
    have f2b := wd_bit (by repeat (first | (with_reducible first | apply wd_and | apply wd_or | apply wd_andNot | apply wd_xor | exact wd_var (by assumption)) | exact wd_var ⟨by omega, by omega⟩)) (by repeat (first | (with_reducible first | apply wd_and | apply wd_or | apply wd_andNot | apply wd_xor | exact wd_var (by assumption)) | exact wd_var ⟨by omega, by omega⟩)) f2 i
    try dsimp only at f2b
    try dsimp only
    revert f2b
    generalize tb (c 2) i = qc2
    revert i qc2
    decide +kernel
  · obtain rfl : (c 5) = v := Option.some.inj hv
    clear hv
    refine ⟨rfl, ?_⟩
    show (Go.bits .or .u64 (Go.bits .andNot .u64 (c 5) 18446744073709551615) (Go.bits .and .u64 (Go.bits .andNot .u64 (c 5) 2) 18446744073709551615)) = c 5
    change (Go.bits .and .u64 (c 5) 2) = 0 at f5
    have b5 := h 5
    refine wd_eq (by repeat (first | (with_reducible first | apply wd_and | apply wd_or | apply wd_andNot | apply wd_xor | exact wd_var (by assumption)) | exact wd_var ⟨by omega, by omega⟩)) (by repeat (first | (with_reducible first | apply wd_and | apply wd_or | apply wd_andNot | apply wd_xor | exact wd_var (by assumption)) | exact wd_var ⟨by omega, by omega⟩)) (fun i hi => ?_)
    have f5b := wd_bit (by repeat (first | (with_reducible first | apply wd_and | apply wd_or | apply wd_andNot | apply wd_xor | exact wd_var (by assumption)) | exact wd_var ⟨by omega, by omega⟩)) (by repeat (first | (with_reducible first | apply wd_and | apply wd_or | apply wd_andNot | apply wd_xor | exact wd_var (by assumption)) | exact wd_var ⟨by omega, by omega⟩)) f5 i
    try dsimp only at f5b
    try dsimp only
    revert f5b
    generalize tb (c 5) i = qc5
    revert i qc5
    decide +kernel
  · obtain rfl : (c 10) = v := Option.some.inj hv
    clear hv
    refine ⟨rfl, ?_⟩
    show (Go.bits .or .u64 (Go.bits .andNot .u64 (c 10) 18446744073709551615) (Go.bits .and .u64 (Go.bits .andNot .u64 (c 10) 2) 18446744073709551615)) = c 10
    change (Go.bits .and .u64 (c 10) 2) = 0 at f10
    have b10 := h 10
    refine wd_eq (by repeat (first | (with_reducible first | apply wd_and | apply wd_or | apply wd_andNot | apply wd_xor | exact wd_var (by assumption)) | exact wd_var ⟨by omega, by omega⟩)) (by repeat (first | (with_reducible first | apply wd_and | apply wd_or | apply wd_andNot | apply wd_xor | exact wd_var (by assumption)) | exact wd_var ⟨by omega, by omega⟩)) (fun i hi => ?_)
    have f10b := wd_bit (by repeat (first | (with_reducible first | apply wd_and | apply wd_or | apply wd_andNot | apply wd_xor | exact wd_var (by assumption)) | exact wd_var ⟨by omega, by omega⟩)) (by repeat (first | (with_reducible first | apply wd_and | apply wd_or | apply wd_andNot | apply wd_xor | exact wd_var (by assumption)) | exact wd_var ⟨by omega, by omega⟩)) f10 i
    try dsimp only at f10b
    try dsimp only
    revert f10b
    generalize tb (c 10) i = qc10
    revert i qc10
    decide +kernel
  · obtain rfl : (c 6) = v := Option.some.inj hv
    clear hv
    refine ⟨rfl, ?_⟩
    show (Go.bits .or .u64 (Go.bits .andNot .u64 (c 6) 18446744073709551615) (Go.bits .and .u64 (c 6) 18446744073709551615)) = c 6
    have b6 := h 6
    refine wd_eq (by repeat (first | (with_reducible first | apply wd_and | apply wd_or | apply wd_andNot | apply wd_xor | exact wd_var (by assumption)) | exact wd_var ⟨by omega, by omega⟩)) (by repeat (first | (with_reducible first | apply wd_and | apply wd_or | apply wd_andNot | apply wd_xor | exact wd_var (by assumption)) | exact wd_var ⟨by omega, by omega⟩)) (fun i hi => ?_)
    try dsimp only
    generalize tb (c 6) i = qc6
    revert i qc6
    decide +kernel
  · obtain rfl : (c 11) = v := Option.some.inj hv
    clear hv
    refine ⟨rfl, ?_⟩
    show (Go.bits .or .u64 (Go.bits .andNot .u64 (c 11) 18446744073709551615) (Go.bits .and .u64 (c 11) 18446744073709551615)) = c 11
    have b11 := h 11
    refine wd_eq (by repeat (first | (with_reducible first | apply wd_and | apply wd_or | apply wd_andNot | apply wd_xor | exact wd_var (by assumption)) | exact wd_var ⟨by omega, by omega⟩)) (by repeat (first | (with_reducible first | apply wd_and | apply wd_or | apply wd_andNot | apply wd_xor | exact wd_var (by assumption)) | exact wd_var ⟨by omega, by omega⟩)) (fun i hi => ?_)
    try dsimp only
    generalize tb (c 11) i = qc11
    revert i qc11
    decide +kernel
  · obtain rfl : (c 7) = v := Option.some.inj hv
    clear hv
    refine ⟨rfl, ?_⟩
    show (Go.bits .or .u64 (Go.bits .andNot .u64 (c 7) 18446744073709551615) (Go.bits .and .u64 (Go.bits .andNot .u64 (c 7) 1) 18446744073709551615)) = c 7
    change (Go.bits .and .u64 (c 7) 1) = 0 at f7
    have b7 := h 7
    refine wd_eq (by repeat (first | (with_reducible first | apply wd_and | apply wd_or | apply wd_andNot | apply wd_xor | exact wd_var (by assumption)) | exact wd_var ⟨by omega, by omega⟩)) (by repeat (first | (with_reducible first | apply wd_and | apply wd_or | apply wd_andNot | apply wd_xor | exact wd_var (by assumption)) | exact wd_var ⟨by omega, by omega⟩)) (fun i hi => ?_)
    have f7b := wd_bit (by repeat (first | (with_reducible first | apply wd_and | apply wd_or | apply wd_andNot | apply wd_xor | exact wd_var (by assumption)) | exact wd_var ⟨by omega, by omega⟩)) (by repeat (first | (with_reducible first | apply wd_and | apply wd_or | apply wd_andNot | apply wd_xor | exact wd_var (by assumption)) | exact wd_var ⟨by omega, by omega⟩)) f7 i
    try dsimp only at f7b
    try dsimp only
    revert f7b
    generalize tb (c 7) i = qc7
    revert i qc7
    decide +kernel
  · obtain rfl : (c 12) = v := Option.some.inj hv
    clear hv
    refine ⟨rfl, ?_⟩
    show (Go.bits .or .u64 (Go.bits .andNot .u64 (c 12) 18446744073709551615) (Go.bits .and .u64 (Go.bits .andNot .u64 (c 12) 1) 18446744073709551615)) = c 12
    change (Go.bits .and .u64 (c 12) 1) = 0 at f12
    have b12 := h 12
    refine wd_eq (by repeat (first | (with_reducible first | apply wd_and | apply wd_or | apply wd_andNot | apply wd_xor | exact wd_var (by assumption)) | exact wd_var ⟨by omega, by omega⟩)) (by repeat (first | (with_reducible first | apply wd_and | apply wd_or | apply wd_andNot | apply wd_xor | exact wd_var (by assumption)) | exact wd_var ⟨by omega, by omega⟩)) (fun i hi => ?_)
    have f12b := wd_bit (by repeat (first | (with_reducible first | apply wd_and | apply wd_or | apply wd_andNot | apply wd_xor | exact wd_var (by assumption)) | exact wd_var ⟨by omega, by omega⟩)) (by repeat (first | (with_reducible first | apply wd_and | apply wd_or | apply wd_andNot | apply wd_xor | exact wd_var (by assumption)) | exact wd_var ⟨by omega, by omega⟩)) f12 i
    try dsimp only at f12b
    try dsimp only
    revert f12b
    generalize tb (c 12) i = qc12
    revert i qc12
    decide +kernel
  · obtain rfl : (c 8) = v := Option.some.inj hv
    clear hv
    refine ⟨rfl, ?_⟩
    show (Go.bits .or .u64 (Go.bits .andNot .u64 (c 8) 18446744073709551615) (Go.bits .and .u64 (c 8) 18446744073709551615)) = c 8
    have b8 := h 8
    refine wd_eq (by repeat (first | (with_reducible first | apply wd_and | apply wd_or | apply wd_andNot | apply wd_xor | exact wd_var (by assumption)) | exact wd_var ⟨by omega, by omega⟩)) (by repeat (first | (with_reducible first | apply wd_and | apply wd_or | apply wd_andNot | apply wd_xor | exact wd_var (by assumption)) | exact wd_var ⟨by omega, by omega⟩)) (fun i hi => ?_)
    try dsimp only
    generalize tb (c 8) i = qc8
    revert i qc8
    decide +kernel
  · obtain rfl : (c 13) = v := Option.some.inj hv
    clear hv
    refine ⟨rfl, ?_⟩
    show (Go.bits .or .u64 (Go.bits .andNot .u64 (c 13) 18446744073709551615) (Go.bits .and .u64 (c 13) 18446744073709551615)) = c 13
    have b13 := h 13
    refine wd_eq (by repeat (first | (with_reducible first | apply wd_and | apply wd_or | apply wd_andNot | apply wd_xor | exact wd_var (by assumption)) | exact wd_var ⟨by omega, by omega⟩)) (by repeat (first | (with_reducible first | apply wd_and | apply wd_or | apply wd_andNot | apply wd_xor | exact wd_var (by assumption)) | exact wd_var ⟨by omega, by omega⟩)) (fun i hi => ?_)
    try dsimp only
    generalize tb (c 13) i = qc13
    revert i qc13
    decide +kernel
  · obtain rfl : (c 9) = v := Option.some.inj hv
    clear hv
    refine ⟨rfl, ?_⟩
    show (Go.bits .or .u64 (Go.bits .andNot .u64 (c 9) 18446744073709551615) (Go.bits .and .u64 (c 9) 18446744073709551615)) = c 9
    have b9 := h 9
    refine wd_eq (by repeat (first | (with_reducible first | apply wd_and | apply wd_or | apply wd_andNot | apply wd_xor | exact wd_var (by assumption)) | exact wd_var ⟨by omega, by omega⟩)) (by repeat (first | (with_reducible first | apply wd_and | apply wd_or | apply wd_andNot | apply wd_xor | exact wd_var (by assumption)) | exact wd_var ⟨by omega, by omega⟩)) (fun i hi => ?_)
    try dsimp only
    generalize tb (c 9) i = qc9
    revert i qc9
    decide +kernel
  · obtain rfl : (c 14) = v := Option.some.inj hv
    clear hv
    refine ⟨rfl, ?_⟩
    show (Go.bits .or .u64 (Go.bits .andNot .u64 (c 14) 18446744073709551615) (Go.bits .and .u64 (c 14) 18446744073709551615)) = c 14
    have b14 := h 14
    refine wd_eq (by repeat (first | (with_reducible first | apply wd_and | apply wd_or | apply wd_andNot | apply wd_xor | exact wd_var (by assumption)) | exact wd_var ⟨by omega, by omega⟩)) (by repeat (first | (with_reducible first | apply wd_and | apply wd_or | apply wd_andNot | apply wd_xor | exact wd_var (by assumption)) | exact wd_var ⟨by omega, by omega⟩)) (fun i hi => ?_)
    try dsimp only
    generalize tb (c 14) i = qc14
    revert i qc14
    decide +kernel
  · obtain rfl : (c 15) = v := Option.some.inj hv
    clear hv
    refine ⟨?_, ?_⟩
    · show (c 15 / 1152921504606846976 != 0 && c 15 / 1152921504606846976 != 8) = false
      rcases f15 with f | f <;> rw [f] <;> rfl
    · show (Go.bits .or .u64 (Go.bits .andNot .u64 (c 15) 18446744073709551615) (Go.bits .and .u64 (c 15) 18446744073709551615)) = c 15
      have b15 := h 15
      refine wd_eq (by repeat (first | (with_reducible first | apply wd_and | apply wd_or | apply wd_andNot | apply wd_xor | exact wd_var (by assumption)) | exact wd_var ⟨by omega, by omega⟩)) (by repeat (first | (with_reducible first | apply wd_and | apply wd_or | apply wd_andNot | apply wd_xor | exact wd_var (by assumption)) | exact wd_var ⟨by omega, by omega⟩)) (fun i hi => ?_)
      try dsimp only
      generalize tb (c 15) i = qc15
      revert i qc15
      decide +kernel
  · obtain rfl : (c 16) = v := Option.some.inj hv
    clear hv
    refine ⟨rfl, ?_⟩
    show (Go.bits .or .u64 (Go.bits .andNot .u64 (c 16) 18446744073709551615) (Go.bits .and .u64 (c 16) 18446744073709551615)) = c 16
    have b16 := h 16
    refine wd_eq (by repeat (first | (with_reducible first | apply wd_and | apply wd_or | apply wd_andNot | apply wd_xor | exact wd_var (by assumption)) | exact wd_var ⟨by omega, by omega⟩)) (by repeat (first | (with_reducible first | apply wd_and | apply wd_or | apply wd_andNot | apply wd_xor | exact wd_var (by assumption)) | exact wd_var ⟨by omega, by omega⟩)) (fun i hi => ?_)
    try dsimp only
    generalize tb (c 16) i = qc16
    revert i qc16
    decide +kernel
  · obtain rfl : (c 16) = v := Option.some.inj hv
    clear hv
    refine ⟨rfl, ?_⟩
    show (Go.bits .or .u64 (Go.bits .andNot .u64 (c 16) 18446744073709551615) (Go.bits .and .u64 (c 16) 18446744073709551615)) = c 16
    have b16 := h 16
    refine wd_eq (by repeat (first | (with_reducible first | apply wd_and | apply wd_or | apply wd_andNot | apply wd_xor | exact wd_var (by assumption)) | exact wd_var ⟨by omega, by omega⟩)) (by repeat (first | (with_reducible first | apply wd_and | apply wd_or | apply wd_andNot | apply wd_xor | exact wd_var (by assumption)) | exact wd_var ⟨by omega, by omega⟩)) (fun i hi => ?_)
    try dsimp only
    generalize tb (c 16) i = qc16
    revert i qc16
    decide +kernel
  · obtain rfl : (Go.bits .or .u64 (Go.bits .andNot .u64 (c 0) 64424509440) 42949672960) = v := Option.some.inj hv
    clear hv
    refine ⟨rfl, ?_⟩
    have b0 := h 0
    have e : statusV (Go.bits .or .u64 (Go.bits .andNot .u64 (c 0) 64424509440) 42949672960) = c 0 := by
      refine Eq.trans (st_mask ?_) (Eq.symm f0)
      refine wd_eq (by repeat (first | (with_reducible first | apply wd_and | apply wd_or | apply wd_andNot | apply wd_xor | exact wd_var (by assumption)) | exact wd_var ⟨by omega, by omega⟩)) (by repeat (first | (with_reducible first | apply wd_and | apply wd_or | apply wd_andNot | apply wd_xor | exact wd_var (by assumption)) | exact wd_var ⟨by omega, by omega⟩)) (fun i hi => ?_)
      try dsimp only
      generalize tb (c 0) i = qc0
      revert i qc0
      decide +kernel
    show (Go.bits .or .u64 (Go.bits .andNot .u64 (c 0) 18446744073709551615) (Go.bits .and .u64 (statusV (Go.bits .or .u64 (Go.bits .andNot .u64 (c 0) 64424509440) 42949672960)) 18446744073709551615)) = c 0
    rw [e]
    refine wd_eq (by repeat (first | (with_reducible first | apply wd_and | apply wd_or | apply wd_andNot | apply wd_xor | exact wd_var (by assumption)) | exact wd_var ⟨by omega, by omega⟩)) (by repeat (first | (with_reducible first | apply wd_and | apply wd_or | apply wd_andNot | apply wd_xor | exact wd_var (by assumption)) | exact wd_var ⟨by omega, by omega⟩)) (fun i hi => ?_)
    try dsimp only
    generalize tb (c 0) i = qc0
    revert i qc0
    decide +kernel
  · obtain rfl : (Go.bits .or .u64 (Go.bits .and .u64 (c 0) 786722) 8589934592) = v := Option.some.inj hv
    clear hv
    refine ⟨rfl, ?_⟩
    show (Go.bits .or .u64 (Go.bits .andNot .u64 (c 0) 786722) (Go.bits .and .u64 (Go.bits .or .u64 (Go.bits .and .u64 (c 0) 786722) 8589934592) 786722)) = c 0
    have b0 := h 0
    refine wd_eq (by repeat (first | (with_reducible first | apply wd_and | apply wd_or | apply wd_andNot | apply wd_xor | exact wd_var (by assumption)) | exact wd_var ⟨by omega, by omega⟩)) (by repeat (first | (with_reducible first | apply wd_and | apply wd_or | apply wd_andNot | apply wd_xor | exact wd_var (by assumption)) | exact wd_var ⟨by omega, by omega⟩)) (fun i hi => ?_)
    try dsimp only
    generalize tb (c 0) i = qc0
    revert i qc0
    decide +kernel
  · obtain rfl : (c 3) = v := Option.some.inj hv
    clear hv
    refine ⟨rfl, ?_⟩
    show (Go.bits .or .u64 (Go.bits .andNot .u64 0 2730) (Go.bits .and .u64 (c 3) 2730)) = c 3
    change (Go.bits .andNot .u64 (c 3) 2730) = 0 at f3
    have b3 := h 3
    refine wd_eq (by repeat (first | (with_reducible first | apply wd_and | apply wd_or | apply wd_andNot | apply wd_xor | exact wd_var (by assumption)) | exact wd_var ⟨by omega, by omega⟩)) (by repeat (first | (with_reducible first | apply wd_and | apply wd_or | apply wd_andNot | apply wd_xor | exact wd_var (by assumption)) | exact wd_var ⟨by omega, by omega⟩)) (fun i hi => ?_)
    have f3b := wd_bit (by repeat (first | (with_reducible first | apply wd_and | apply wd_or | apply wd_andNot | apply wd_xor | exact wd_var (by assumption)) | exact wd_var ⟨by omega, by omega⟩)) (by repeat (first | (with_reducible first | apply wd_and | apply wd_or | apply wd_andNot | apply wd_xor | exact wd_var (by assumption)) | exact wd_var ⟨by omega, by omega⟩)) f3 i
    try dsimp only at f3b
    try dsimp only
    revert f3b
    generalize tb (c 3) i = qc3
    revert i qc3
    decide +kernel
  · obtain rfl : (Go.bits .and .u64 (c 3) (c 2)) = v := Option.some.inj hv
    clear hv
    refine ⟨rfl, ?_⟩
    show (Go.bits .or .u64 (Go.bits .andNot .u64 (c 3) (Go.bits .and .u64 (c 2) 2730)) (Go.bits .and .u64 (Go.bits .and .u64 (c 3) (c 2)) (Go.bits .and .u64 (c 2) 2730))) = c 3
    change (Go.bits .andNot .u64 (c 3) 2730) = 0 at f3
    have b2 := h 2
    have b3 := h 3
    refine wd_eq (by repeat (first | (with_reducible first | apply wd_and | apply wd_or | apply wd_andNot | apply wd_xor | exact wd_var (by assumption)) | exact wd_var ⟨by omega, by omega⟩)) (by repeat (first | (with_reducible first | apply wd_and | apply wd_or | apply wd_andNot | apply wd_xor | exact wd_var (by assumption)) | exact wd_var ⟨by omega, by omega⟩)) (fun i hi => ?_)
    have f3b := wd_bit (by repeat (first | (with_reducible first | apply wd_and | apply wd_or | apply wd_andNot | apply wd_xor | exact wd_var (by assumption)) | exact wd_var ⟨by omega, by omega⟩)) (by repeat (first | (with_reducible first | apply wd_and | apply wd_or | apply wd_andNot | apply wd_xor | exact wd_var (by assumption)) | exact wd_var ⟨by omega, by omega⟩)) f3 i
    try dsimp only at f3b
    try dsimp only
    revert f3b
    generalize tb (c 2) i = qc2
    generalize tb (c 3) i = qc3
    revert i qc2 qc3
    decide +kernel
  · obtain rfl : (c 4) = v := Option.some.inj hv
    clear hv
    refine ⟨rfl, ?_⟩
    show (Go.bits .or .u64 (Go.bits .andNot .u64 (c 4) 546) (Go.bits .and .u64 (c 4) 546)) = c 4
    change (Go.bits .andNot .u64 (c 4) 2730) = 0 at f4
    have b4 := h 4
    refine wd_eq (by repeat (first | (with_reducible first | apply wd_and | apply wd_or | apply wd_andNot | apply wd_xor | exact wd_var (by assumption)) | exact wd_var ⟨by omega, by omega⟩)) (by repeat (first | (with_reducible first | apply wd_and | apply wd_or | apply wd_andNot | apply wd_xor | exact wd_var (by assumption)) | exact wd_var ⟨by omega, by omega⟩)) (fun i hi => ?_)
    have f4b := wd_bit (by repeat (first | (with_reducible first | apply wd_and | apply wd_or | apply wd_andNot | apply wd_xor | exact wd_var (by assumption)) | exact wd_var ⟨by omega, by omega⟩)) (by repeat (first | (with_reducible first | apply wd_and | apply wd_or | apply wd_andNot | apply wd_xor | exact wd_var (by assumption)) | exact wd_var ⟨by omega, by omega⟩)) f4 i
    try dsimp only at f4b
    try dsimp only
    revert f4b
    generalize tb (c 4) i = qc4
    revert i qc4
    decide +kernel
  · obtain rfl : (Go.bits .and .u64 (c 4) (c 2)) = v := Option.some.inj hv
    clear hv
    refine ⟨rfl, ?_⟩
    show (Go.bits .or .u64 (Go.bits .andNot .u64 (c 4) (Go.bits .and .u64 (c 2) 2)) (Go.bits .and .u64 (Go.bits .and .u64 (c 4) (c 2)) (Go.bits .and .u64 (c 2) 2))) = c 4
    change (Go.bits .andNot .u64 (c 4) 2730) = 0 at f4
    have b2 := h 2
    have b4 := h 4
    refine wd_eq (by repeat (first | (with_reducible first | apply wd_and | apply wd_or | apply wd_andNot | apply wd_xor | exact wd_var (by assumption)) | exact wd_var ⟨by omega, by omega⟩)) (by repeat (first | (with_reducible first | apply wd_and | apply wd_or | apply wd_andNot | apply wd_xor | exact wd_var (by assumption)) | exact wd_var ⟨by omega, by omega⟩)) (fun i hi => ?_)
    have f4b := wd_bit (by repeat (first | (with_reducible first | apply wd_and | apply wd_or | apply wd_andNot | apply wd_xor | exact wd_var (by assumption)) | exact wd_var ⟨by omega, by omega⟩)) (by repeat (first | (with_reducible first | apply wd_and | apply wd_or | apply wd_andNot | apply wd_xor | exact wd_var (by assumption)) | exact wd_var ⟨by omega, by omega⟩)) f4 i
    try dsimp only at f4b
    try dsimp only
    revert f4b
    generalize tb (c 2) i = qc2
    generalize tb (c 4) i = qc4
    revert i qc2 qc4
    decide +kernel
end Go.Proofs.Ytncdhfigfbhohaa.Q
