import Derived.Test.YtdblpflepfcnjaaHNpd
/- What of memory a controller turns: plain laws. -/
namespace Go.Proofs.Ytdblpflepfcnjaa.Q
open Go.RowKit Go.Proofs.YtdblpflepfcnjaaW.PrintWords Go.Proofs.YtdblpflepfcnjaaW.PrintLast Go.Proofs.YtdblpflepfcnjaaW.PrintMore Go.Proofs.Ytdblpflepfcnjaa.L
set_option linter.unusedVariables false
set_option linter.unusedSimpArgs false
def insB (p a n : Int) : Bool := decide (p ≥ a) && decide (IntKind.u64.wrap (p - a) < IntKind.u64.wrap n)
theorem insB_of {p a n : Int} (h0 : 0 ≤ a) (h1 : a ≤ p) (h2 : p < a + n) (h3 : p < 18446744073709551616) (h4 : n < 18446744073709551616) : insB p a n = true := by
  unfold insB
  rw [decide_eq_true h1, Bool.true_and]
  refine decide_eq_true ?_
  rw [IntKind.wrap_u64, IntKind.wrap_u64]
  omega
theorem splice_at' (l b : List Int) (i j : Nat) (hi : i + b.length ≤ l.length) (hj : j < i ∨ i + b.length ≤ j) : (splice l i b)[j]? = l[j]? := by
  unfold splice
  have t : (l.take i).length = i := by rw [List.length_take]; omega
  rcases hj with hj | hj
  · rw [List.getElem?_append_left (by rw [t]; exact hj), List.getElem?_take_of_lt hj]
  · rw [List.getElem?_append_right (by rw [t]; omega), List.getElem?_append_right (by rw [t]; omega), t, List.getElem?_drop, show i + b.length + (j - i - b.length) = j by omega]
theorem fill_diff (l b : List Int) (a : Int) (k : Nat) (h : (fillL l a b).getD k 0 ≠ l.getD k 0) : 2147483648 ≤ a ∧ a ≤ 2147483648 + (k : Int) ∧ 2147483648 + (k : Int) < a + b.length ∧ a - 2147483648 + b.length ≤ l.length := by
  unfold fillL at h
  split at h
  · rename_i hp
    rcases placeZ_cases l.length a b.length with ⟨h1, h2, h3, e⟩ | ⟨_, e⟩
    · rw [e] at h
      refine ⟨h1, ?_⟩
      rcases Classical.em (a ≤ 2147483648 + (k : Int) ∧ 2147483648 + (k : Int) < a + b.length) with hh | hh
      · exact ⟨hh.1, hh.2, h3⟩
      · refine absurd ?_ h
        rw [List.getD_eq_getElem?_getD, List.getD_eq_getElem?_getD, splice_at' l b _ k (by show (a - 2147483648).toNat + b.length ≤ l.length; omega) (by show k < (a - 2147483648).toNat ∨ (a - 2147483648).toNat + b.length ≤ k; omega)]
    · rw [e] at hp; cases hp
  · exact absurd rfl h
theorem done_diff (l d : List Int) (a st : Int) (k : Nat) (h : (doneL l d a st).getD k 0 ≠ l.getD k 0) : IntKind.u64.wrap (a + 10) ≤ 2147483648 + (k : Int) ∧ 2147483648 + (k : Int) < IntKind.u64.wrap (a + 10) + 4 := by
  have := fill_diff _ _ _ _ h
  exact ⟨this.2.1, this.2.2.1⟩
theorem send_within (c : Nat → Int) (m : Nat) (l : List Int) (k : Nat) (hl : (l.length : Int) ≤ 70000) (hk : k < l.length) (h : ((sendZ c m l).2.1.getD k 0 != l.getD k 0) = true) : insB (2147483648 + k) (IntKind.u64.wrap (atT c + 10)) 4 = true := by
  have h := bne_iff_ne.1 h
  have e : ∀ st, (doneL l (cutL l (atT c) 16) (atT c) st).getD k 0 ≠ l.getD k 0 → insB (2147483648 + k) (IntKind.u64.wrap (atT c + 10)) 4 = true := fun st h => by
    have := done_diff _ _ _ _ _ h
    exact insB_of (wrap_u _).1 this.1 this.2 (by omega) (by decide)
  revert h
  unfold sendZ frameZ
  repeat' split
  all_goals first | exact fun h => absurd rfl h | exact e _
theorem cut_sub (l : List Int) (a : Int) (o n : Nat) (ha : 2147483648 ≤ a) (hon : o + n ≤ 16) : cutL l (a + o) n = ((cutL l a 16).drop o).take n := by
  unfold cutL
  obtain ⟨i, hi⟩ := Int.eq_ofNat_of_zero_le (show 0 ≤ a - 2147483648 by omega)
  have e1 : (a + o - 2147483648 + n).toNat = i + o + n := by omega
  have e2 : (a + o - 2147483648).toNat = i + o := by omega
  have e3 : (a - 2147483648 + 16).toNat = i + 16 := by omega
  have e4 : (a - 2147483648).toNat = i := by omega
  rw [e1, e2, e3, e4]
  refine List.ext_getElem? fun j => ?_
  simp only [List.getElem?_drop, List.getElem?_take]
  by_cases h : j < n
  · rw [if_pos (by omega), if_pos h, if_pos (by omega), show i + (o + j) = i + o + j by omega]
  · rw [if_neg (by omega), if_neg h]
theorem read_sub (l : List Int) (a : Int) (o n : Nat) (hl : (l.length : Int) ≤ 70000) (hon : o + n ≤ 16) (hn : knownZ n = true) (hp : (placeZ l.length a 16).2 = true) : readZ l (IntKind.u64.wrap (a + o)) n = (getB (((cutL l a 16).drop o).take n) false, true) := by
  rcases placeZ_cases l.length a 16 with ⟨h1, h2, h3, e⟩ | ⟨_, e⟩
  · have hw : IntKind.u64.wrap (a + o) = a + o := by rw [IntKind.wrap_u64]; omega
    rw [hw]
    unfold readZ
    rcases placeZ_cases l.length (a + o) n with ⟨g1, g2, g3, g⟩ | ⟨hn, _⟩
    · rw [g, if_pos ⟨rfl, hn⟩, cut_sub l a o n h1 hon]
    · exact absurd ⟨by omega, by omega, by omega⟩ hn
  · rw [e] at hp; cases hp
theorem recv_within (c : Nat → Int) (mac l fr : List Int) (k : Nat) (fv bv sv : Int) (f1 b1 s1 : Bool) (hl : (l.length : Int) ≤ 70000) (hby : ∀ z ∈ l, byte z) (hk : k < l.length)
    (hf : readZ l (IntKind.u64.wrap (atR c + 10)) 1 = (fv, f1)) (hb : readZ l (atR c) 8 = (bv, b1)) (hs : readZ l (IntKind.u64.wrap (atR c + 8)) 2 = (sv, s1))
    (h : ((recvZ c mac l fr).2.1.getD k 0 != l.getD k 0) = true) :
    (fv % 2 == 0) = false ∧ 0 ≤ fv ∧ (insB (2147483648 + k) (IntKind.u64.wrap (atR c + 8)) 6 = true ∨ (insB (2147483648 + k) (IntKind.u64.wrap (atR c + 8)) 6 = false ∧ insB (2147483648 + k) bv (wrap64 sv) = true)) := by
  have h := bne_iff_ne.1 h
  revert h
  unfold recvZ
  split; exact fun h => absurd rfl h
  split; exact fun h => absurd rfl h
  split; exact fun h => absurd rfl h
  split; exact fun h => absurd rfl h
  rename_i hp ho
  have hp := eq_t hp
  have ho := eq_t ho
  have hu := wrap_u (c 7 + IntKind.u64.wrap (16 * IntKind.u64.wrap (c 9)))
  have hr : u64B (atR c) := hu
  obtain ⟨hbu, hs0, hs1⟩ := desc_bounds l (atR c) hby hp
  have hby10 := getD_byte _ (cut_byte l (atR c) 16 hby) 10
  have e1 := flag_read l (atR c) hl hp
  rw [hf] at e1
  obtain ⟨rfl, rfl⟩ := Prod.mk.inj e1
  have e2 := read_sub l (atR c) 0 8 hl (by decide) rfl hp
  rw [show IntKind.u64.wrap (atR c + (0 : Nat)) = atR c by rw [IntKind.wrap_u64]; have := hr.1; have := hr.2; omega, show ((8 : Nat) : Int) = 8 from rfl, hb] at e2
  obtain ⟨rfl, rfl⟩ := Prod.mk.inj e2
  have e3 := read_sub l (atR c) 8 2 hl (by decide) rfl hp
  rw [show ((8 : Nat) : Int) = 8 from rfl, show ((2 : Nat) : Int) = 2 from rfl, hs] at e3
  obtain ⟨rfl, rfl⟩ := Prod.mk.inj e3
  unfold flagD at ho
  rw [odd_is _ hby10] at ho
  have hodd : (flagD (cutL l (atR c) 16) % 2 == 0) = false := by
    have h2 : (cutL l (atR c) 16).getD 10 0 % 2 = 1 := eq_of_beq ho
    unfold flagD
    rw [h2]; rfl
  have hpl : 2147483648 ≤ atR c ∧ atR c - 2147483648 + 16 ≤ l.length := by
    rcases placeZ_cases l.length (atR c) 16 with ⟨h1, h2, h3, e⟩ | ⟨_, e⟩
    · exact ⟨h1, h3⟩
    · rw [e] at hp; cases hp
  have w8 : IntKind.u64.wrap (atR c + 8) = atR c + 8 := by rw [IntKind.wrap_u64]; omega
  have w10 : IntKind.u64.wrap (atR c + 10) = atR c + 10 := by rw [IntKind.wrap_u64]; omega
  have in6 : ∀ (L : List Int) (st : Int), (doneL L (cutL l (atR c) 16) (atR c) st).getD k 0 ≠ L.getD k 0 → insB (2147483648 + k) (IntKind.u64.wrap (atR c + 8)) 6 = true := fun L st h => by
    have := done_diff _ _ _ _ _ h
    rw [w10] at this
    rw [w8]
    exact insB_of (by omega) (by omega) (by omega) (by omega) (by decide)
  intro h
  refine ⟨hodd, hby10.1, ?_⟩
  cases hi : insB (2147483648 + k) (IntKind.u64.wrap (atR c + 8)) 6
  case true => exact .inl rfl
  refine .inr ⟨rfl, ?_⟩
  have in6 : ∀ (L : List Int) (st : Int), (doneL L (cutL l (atR c) 16) (atR c) st).getD k 0 = L.getD k 0 := fun L st => Classical.byContradiction fun hn => by
    have := in6 L st hn; rw [hi] at this; cases this
  revert h
  unfold takeZ
  split; exact fun h => absurd (in6 _ _) h
  rename_i hsz
  split; exact fun h => absurd (in6 _ _) h
  rename_i hpl2
  intro h
  replace h : (doneL (fillL (writeL l (IntKind.u64.wrap (atR c + 8)) 2 (fr.length : Int)) (bufD (cutL l (atR c) 16)) fr) (cutL l (atR c) 16) (atR c) 1).getD k 0 ≠ l.getD k 0 := h
  rw [in6] at h
  have hw : (writeL l (IntKind.u64.wrap (atR c + 8)) 2 (fr.length : Int)).getD k 0 = l.getD k 0 := Classical.byContradiction fun hn => by
    unfold writeL at hn
    rw [if_pos (show knownZ 2 = true from rfl)] at hn
    have := fill_diff _ _ _ _ hn
    have hlen : ((putB (fr.length : Int) 2 false).length : Int) ≤ 2 := by
      have hz : ∀ x : Int, (putL x 2).length = 2 := fun x => rfl
      have hz2 : (putB (fr.length : Int) 2 false).length = 2 := hz _
      omega
    rw [w8] at this
    have hi2 : insB (2147483648 + k) (IntKind.u64.wrap (atR c + 8)) 6 = true := by
      rw [w8]
      exact insB_of (by omega) (by omega) (by omega) (by omega) (by decide)
    rw [hi] at hi2; cases hi2
  rw [← hw] at h
  have := fill_diff _ _ _ _ h
  have hws : wrap64 (sizeD (cutL l (atR c) 16)) = sizeD (cutL l (atR c) 16) := w64 (by omega) (by omega)
  have hb8 : getB ((cutL l (atR c) 16).drop 0 |>.take 8) false = bufD (cutL l (atR c) 16) := rfl
  have hs2 : getB ((cutL l (atR c) 16).drop 8 |>.take 2) false = sizeD (cutL l (atR c) 16) := rfl
  rw [hb8, hs2, hws]
  exact insB_of (by have := hbu.1; omega) this.2.1 (by omega) (by omega) (by omega)
end Go.Proofs.Ytdblpflepfcnjaa.Q
