import Derived.Test.YtdblpflepfcnjaaHZ4
/- How long a controller sends: plain laws. -/
namespace Go.Proofs.Ytdblpflepfcnjaa.Q
open Go.RowKit Go.Proofs.YtdblpflepfcnjaaW.PrintWords Go.Proofs.YtdblpflepfcnjaaW.PrintLast Go.Proofs.YtdblpflepfcnjaaW.PrintMore Go.Proofs.Ytdblpflepfcnjaa.L
set_option linter.unusedVariables false
set_option linter.unusedSimpArgs false
/-! ### bytes stay bytes -/
theorem andNot1_all : ∀ n ∈ List.range 256, 0 ≤ Go.bits .andNot .u8 (n : Int) 1 ∧ Go.bits .andNot .u8 (n : Int) 1 < 256 := by decide +kernel
theorem andNot1_byte (x : Int) (h : byte x) : byte (Go.bits .andNot .u8 x 1) := by
  obtain ⟨n, rfl⟩ := Int.eq_ofNat_of_zero_le h.1
  exact andNot1_all n (List.mem_range.2 (by have := h.2; omega))
theorem odd_all : ∀ n ∈ List.range 256, (Go.bits .and .u8 (n : Int) 1 == 1) = ((n : Int) % 2 == 1) := by decide +kernel
theorem odd_is (x : Int) (h : byte x) : (Go.bits .and .u8 x 1 == 1) = (x % 2 == 1) := by
  obtain ⟨n, rfl⟩ := Int.eq_ofNat_of_zero_le h.1
  exact odd_all n (List.mem_range.2 (by have := h.2; omega))
theorem getD_byte (d : List Int) (h : ∀ z ∈ d, byte z) (i : Nat) : byte (d.getD i 0) := by
  rw [List.getD_eq_getElem?_getD]
  cases e : d[i]? with
  | none => exact ⟨Int.le_refl 0, by decide⟩
  | some x => exact h x (List.mem_of_getElem? e)
theorem doneL_byte (l d : List Int) (a st : Int) (hl : ∀ z ∈ l, byte z) (hd : ∀ z ∈ d, byte z) (hs : byte st) : ∀ z ∈ doneL l d a st, byte z := by
  unfold doneL
  refine fillL_byte _ _ _ hl ?_
  intro z hz
  simp only [List.mem_cons, List.not_mem_nil, or_false] at hz
  rcases hz with rfl | rfl | rfl | rfl
  · exact andNot1_byte _ (getD_byte d hd 10)
  · exact getD_byte d hd 11
  · exact hs
  · exact ⟨Int.le_refl 0, by decide⟩
theorem send_byte (c : Nat → Int) (m : Nat) (l : List Int) (hl : ∀ z ∈ l, byte z) : ∀ z ∈ (sendZ c m l).2.1, byte z := by
  have hd := cut_byte l (atT c) 16 hl
  unfold sendZ frameZ
  repeat' split
  all_goals first | exact hl | exact doneL_byte _ _ _ _ hl hd ⟨by decide, by decide⟩
/-! ### the flags of a descriptor, read by themselves -/
theorem flag_read (l : List Int) (a : Int) (hl : (l.length : Int) ≤ 70000) (hp : (placeZ l.length a 16).2 = true) : readZ l (IntKind.u64.wrap (a + 10)) 1 = (flagD (cutL l a 16), true) := by
  rcases placeZ_cases l.length a 16 with ⟨h1, h2, h3, e⟩ | ⟨_, e⟩
  · have hw : IntKind.u64.wrap (a + 10) = a + 10 := by rw [IntKind.wrap_u64]; omega
    rw [hw]
    unfold readZ
    rcases placeZ_cases l.length (a + 10) 1 with ⟨g1, g2, g3, g⟩ | ⟨hn, _⟩
    · rw [g, if_pos ⟨rfl, rfl⟩]
      have hc : cutL l (a + 10) 1 = [flagD (cutL l a 16)] := by
        unfold flagD cutL
        obtain ⟨i, hi⟩ := Int.eq_ofNat_of_zero_le (show 0 ≤ a - 2147483648 by omega)
        have hi' : a + 10 - 2147483648 = ((i + 10 : Nat) : Int) := by omega
        rw [hi, hi', show ((i + 10 : Nat) : Int) + 1 = ((i + 10 + 1 : Nat) : Int) by omega, show ((i : Int) + 16).toNat = i + 16 by omega, Int.toNat_natCast, Int.toNat_natCast, Int.toNat_natCast]
        have hlt : i + 10 < l.length := by omega
        rw [List.drop_take, show i + 10 + 1 - (i + 10) = 1 by omega, List.drop_eq_getElem_cons hlt, List.getD_eq_getElem?_getD, List.getElem?_drop, List.getElem?_take_of_lt (by omega), List.getElem?_eq_getElem (by omega)]
        rfl
      rw [hc]
      refine Prod.ext ?_ rfl
      show getB [_] false = _
      unfold getB
      simp [getLE]
    · exact absurd ⟨by omega, by omega, by omega⟩ hn
  · rw [e] at hp; cases hp
/-! ### a frame the less -/
def distZ (h t n : Int) : Int := if h ≤ t then t - h else t - h + n
def remZ (c : Nat → Int) : Int := if (Go.bits .and .i64 (c 0) 1 == 0) = true then 0 else distZ (c 5) (c 6) (c 4)
theorem next_is (h n : Int) (hh : 0 ≤ h ∧ h < n) (hn : 1 ≤ n ∧ n ≤ 64) : Int.tmod (wrap64 (h + 1)) n = if h + 1 = n then 0 else h + 1 := by
  rw [w64 (by omega) (by omega), Int.tmod_eq_emod_of_nonneg (by omega)]
  split
  · rename_i e; rw [e, Int.emod_self]
  · exact Int.emod_eq_of_lt (by omega) (by omega)
theorem rem_in {c : Nat → Int} {m : Nat} (k : Ok c m) : 0 ≤ remZ c ∧ remZ c ≤ c 4 - 1 := by
  have h1 := k.tn; have h2 := k.th; have h3 := k.tt
  unfold remZ distZ
  split
  · omega
  · split <;> omega
theorem ctl_all : ∀ n ∈ List.range 8, (Go.bits .and .i64 (n : Int) 1 == 0) = ((n : Int) % 2 == 0) ∧ Go.bits .and .i64 (Go.bits .andNot .i64 (n : Int) 1) 1 = 0 := by decide +kernel
theorem ctl_is (x : Int) (h : 0 ≤ x ∧ x < 8) : (Go.bits .and .i64 x 1 == 0) = (x % 2 == 0) ∧ Go.bits .and .i64 (Go.bits .andNot .i64 x 1) 1 = 0 := by
  obtain ⟨n, rfl⟩ := Int.eq_ofNat_of_zero_le h.1
  exact ctl_all n (List.mem_range.2 (by omega))
theorem rem_next {c d : Nat → Int} {m : Nat} (k : Ok c m) (h0 : d 0 = c 0) (h5 : d 5 = Int.tmod (wrap64 (c 5 + 1)) (c 4)) (h6 : d 6 = c 6) (h4 : d 4 = c 4) (hc : (Go.bits .and .i64 (c 0) 1 == 0) = false) (hn : (c 5 == c 6) = false) : remZ d < remZ c := by
  have h1 := k.tn; have h2 := k.th; have h3 := k.tt
  have hne : c 5 ≠ c 6 := beq_eq_false_iff_ne.1 hn
  unfold remZ distZ
  rw [h0, hc, h5, h6, h4, next_is _ _ h2 h1]
  simp only [Bool.false_eq_true, if_false]
  repeat' split
  all_goals omega
theorem send_more {c : Nat → Int} {m : Nat} (k : Ok c m) (l : List Int) (h : (sendZ c m l).2.2.2 = true) : remZ (sendZ c m l).1 < remZ c ∧ (sendZ c m l).1 4 = c 4 := by
  revert h
  unfold sendZ
  split; intro h; cases h
  split; intro h; cases h
  rename_i hk hb
  split; intro h; cases h
  rename_i hn
  have hb := eq_f hb
  have hn := eq_f hn
  have hpos : 1 ≤ remZ c := by
    have h1 := k.tn; have h2 := k.th; have h3 := k.tt
    have hne : c 5 ≠ c 6 := beq_eq_false_iff_ne.1 hn
    unfold remZ distZ
    rw [hb]
    simp only [Bool.false_eq_true, if_false]
    split <;> omega
  split
  · intro _
    refine ⟨?_, rfl⟩
    have e : remZ (failC (upd c 0 (Go.bits .andNot .i64 (c 0) 1))) = 0 := by
      unfold remZ
      rw [if_pos]
      show (Go.bits .and .i64 (Go.bits .andNot .i64 (c 0) 1) 1 == 0) = true
      rw [(ctl_is (c 0) k.ctrl).2]; rfl
    rw [e]; omega
  split; intro h; cases h
  unfold frameZ
  split; exact fun _ => ⟨rem_next k rfl rfl rfl rfl hb hn, rfl⟩
  split; exact fun _ => ⟨rem_next k rfl rfl rfl rfl hb hn, rfl⟩
  split; exact fun _ => ⟨rem_next k rfl rfl rfl rfl hb hn, rfl⟩
  exact fun _ => ⟨rem_next k rfl rfl rfl rfl hb hn, rfl⟩
theorem send_stop {c : Nat → Int} {m : Nat} (k : Ok c m) (l : List Int) (hl : (l.length : Int) ≤ 70000) (hb : ∀ z ∈ l, byte z) (h : (sendZ c m l).2.2.2 = false) :
    ((c 5 == c 6) = true ∨ ((c 5 == c 6) = false ∧ c 0 % 2 = 0)) ∨ ((c 5 == c 6) = false ∧ c 0 % 2 = 1 ∧ ∃ d, readZ l (IntKind.u64.wrap (atT c + 10)) 1 = (d, true) ∧ d % 2 = 0 ∧ 0 ≤ d ∧ d < 256) := by
  revert h
  unfold sendZ
  rw [if_neg (by rw [(okC_iff c m).2 k]; decide)]
  by_cases h5 : (c 5 == c 6) = true
  · exact fun _ => .inl (.inl h5)
  have h5 := eq_f h5
  have h0 := (ctl_is (c 0) k.ctrl).1
  split
  · rename_i hb0
    rw [h0] at hb0
    exact fun _ => .inl (.inr ⟨h5, eq_of_beq hb0⟩)
  rename_i hb0
  rw [h0] at hb0
  have hc0 : c 0 % 2 = 1 := by
    have := eq_f hb0
    have := beq_eq_false_iff_ne.1 this
    have := k.ctrl
    omega
  split
  · intro h; cases h
  rename_i hp
  have hp := eq_t hp
  have hby := getD_byte _ (cut_byte l (atT c) 16 hb) 10
  split
  · rename_i ho
    unfold flagD at ho
    rw [odd_is _ hby] at ho
    refine fun _ => .inr ⟨h5, hc0, _, flag_read l (atT c) hl hp, ?_, hby.1, hby.2⟩
    have := beq_eq_false_iff_ne.1 ho
    show (cutL l (atT c) 16).getD 10 0 % 2 = 0
    have h2 : (cutL l (atT c) 16).getD 10 0 % 2 ≠ 1 := this
    omega
  · unfold frameZ
    repeat' split
    all_goals (intro h; cases h)
theorem send_same {c : Nat → Int} {m : Nat} (l : List Int) (h : (sendZ c m l).2.2.2 = false) : (sendZ c m l).1 = c ∧ (sendZ c m l).2.1 = l := by
  revert h
  unfold sendZ frameZ
  repeat' split
  all_goals (intro h; first | exact ⟨rfl, rfl⟩ | cases h)
end Go.Proofs.Ytdblpflepfcnjaa.Q
