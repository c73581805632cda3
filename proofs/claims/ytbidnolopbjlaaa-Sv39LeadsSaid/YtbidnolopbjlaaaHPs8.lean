import Derived.Test.YtbidnolopbjlaaaHZ3
/- Pages: what a walk of the tables finds, whoever asks (layer 8). Plain facts. -/
set_option linter.unusedVariables false
set_option linter.unusedSimpArgs false
namespace Go.Proofs.Ytbidnolopbjlaaa.Q
open Go.RowKit Go.Proofs.YtbidnolopbjlaaaW.PrintWords Go.Proofs.YtbidnolopbjlaaaW.PrintLast Go.Proofs.YtbidnolopbjlaaaW.PrintMore Go.Proofs.Ytbidnolopbjlaaa.L
/-! ### rows -/
theorem sp_at (l b : List Int) (i j : Nat) (hi : i + b.length ≤ l.length) (hj : j < i ∨ i + b.length ≤ j) : (splice l i b)[j]? = l[j]? := by
  unfold splice
  have t : (l.take i).length = i := by rw [List.length_take]; omega
  rcases hj with hj | hj
  · rw [List.getElem?_append_left (by rw [t]; exact hj), List.getElem?_take_of_lt hj]
  · rw [List.getElem?_append_right (by rw [t]; omega), List.getElem?_append_right (by rw [t]; omega), t, List.getElem?_drop, show i + b.length + (j - i - b.length) = j by omega]
theorem sp_cut (l : List Int) (a : Int) (b : List Int) (h1 : 2147483648 ≤ a) (h3 : a - 2147483648 + (b.length : Int) ≤ l.length) : cutL (splice l (a - 2147483648).toNat b) a b.length = b := by
  unfold cutL splice
  obtain ⟨i, hi⟩ := Int.eq_ofNat_of_zero_le (show 0 ≤ a - 2147483648 by omega)
  rw [hi, Int.toNat_natCast, show ((i : Int) + (b.length : Int)).toNat = i + b.length by omega]
  have t : (l.take i).length = i := by rw [List.length_take]; omega
  rw [← List.append_assoc, List.take_append_of_le_length (by rw [List.length_append, t]; omega), List.take_of_length_le (by rw [List.length_append, t]; omega), List.drop_append_of_le_length (by rw [t]; omega), List.drop_of_length_le (by rw [t]; omega), List.nil_append]
theorem sp_self (l : List Int) (i k : Nat) (h : i + k ≤ l.length) : splice l i ((l.take (i + k)).drop i) = l := by
  unfold splice
  have hl : ((l.take (i + k)).drop i).length = k := by rw [List.length_drop, List.length_take]; omega
  rw [hl, ← List.append_assoc]
  have : l.take i ++ (l.take (i + k)).drop i = l.take (i + k) := by
    have := List.take_append_drop i (l.take (i + k))
    rwa [List.take_take, Nat.min_eq_left (by omega)] at this
  rw [this, List.take_append_drop]
theorem putL_cons (x : Int) (n : Nat) : putL x (n + 1) = (x % 256) :: putL (x / 256) n := by
  unfold putL
  rw [List.range_succ_eq_map, List.map_cons, List.map_map, Nat.mul_zero, Int.pow_zero, Int.ediv_one]
  congr 1
  refine List.map_congr_left fun i _ => ?_
  show x / 2 ^ (8 * (i + 1)) % 256 = x / 256 / 2 ^ (8 * i) % 256
  rw [show 8 * (i + 1) = 8 + 8 * i by omega, Int.pow_add, ← Int.ediv_ediv_of_nonneg (by decide), show (2 : Int) ^ 8 = 256 by decide]
theorem putget : ∀ (n : Nat) (bs : List Int), bs.length = n → (∀ z ∈ bs, byte z) → putL (getLE bs) n = bs := by
  intro n
  induction n with
  | zero => intro bs h _; rw [List.length_eq_zero_iff.1 h]; rfl
  | succ n ih =>
    intro bs h hb
    cases bs with
    | nil => cases h
    | cons b bs =>
      obtain ⟨h0, h1⟩ := hb b List.mem_cons_self
      rw [putL_cons, getLE, show (b + 256 * getLE bs) / 256 = getLE bs by omega, show (b + 256 * getLE bs) % 256 = b by omega, ih bs (by simpa using h) (fun z hz => hb z (List.mem_cons_of_mem _ hz))]
theorem getput : ∀ (n : Nat) (x : Int), 0 ≤ x → x < 256 ^ n → getLE (putL x n) = x := by
  intro n
  induction n with
  | zero => intro x h0 h1; rw [Int.pow_zero] at h1; show (0 : Int) = x; omega
  | succ n ih =>
    intro x h0 h1
    rw [putL_cons, getLE, ih (x / 256) (by omega) (by rw [Int.pow_succ] at h1; omega)]
    omega
/-! ### an entry, written and read -/
theorem placed {l : List Int} {p e : Int} (h : readZ l p 8 = (e, true)) : 2147483648 ≤ p ∧ p - 2147483648 + 8 ≤ l.length ∧ placeZ l.length p 8 = (p - 2147483648, true) ∧ e = getLE (cutL l p 8) := by
  unfold readZ at h
  rcases placeZ_cases l.length p 8 with ⟨h1, h2, h3, g⟩ | ⟨_, g⟩
  · rw [g, if_pos ⟨rfl, by decide⟩] at h
    injection h with h4 h5
    refine ⟨h1, h3, g, ?_⟩
    rw [← h4]
    unfold getB
    rw [if_neg (by decide), List.take_of_length_le]
    unfold cutL
    rw [List.length_drop, List.length_take]; omega
  · rw [g, if_neg (by intro h; cases h.1)] at h
    injection h with _ h5
    cases h5
theorem putB8 (x : Int) : putB x 8 false = putL x 8 := rfl
theorem write8 {l : List Int} {p e : Int} (x : Int) (h : readZ l p 8 = (e, true)) : writeL l p 8 x = splice l (p - 2147483648).toNat (putL x 8) := by
  obtain ⟨h1, h2, h3, _⟩ := placed h
  unfold writeL
  rw [if_pos (by decide), putB8]
  unfold fillL
  rw [show ((putL x 8).length : Int) = 8 by rw [putL_length]; rfl, h3, if_pos rfl]
theorem read_put {l : List Int} {p e x : Int} (h : readZ l p 8 = (e, true)) (hx : u64B x) : readZ (writeL l p 8 x) p 8 = (x, true) := by
  obtain ⟨h1, h2, h3, _⟩ := placed h
  have hc : cutL (splice l (p - 2147483648).toNat (putL x 8)) p 8 = putL x 8 := by
    have := sp_cut l p (putL x 8) h1 (by rw [putL_length]; exact h2)
    rwa [show ((putL x 8).length : Int) = 8 by rw [putL_length]; rfl] at this
  unfold readZ
  rw [writeL_length, h3, if_pos ⟨rfl, by decide⟩, write8 x h, hc]
  unfold getB
  rw [if_neg (by decide), List.take_of_length_le (by rw [putL_length]; exact Nat.le_refl _), getput 8 x hx.1 (by have := hx.2; simpa using this)]
theorem write_same {l : List Int} {p e : Int} (hb : ∀ z ∈ l, byte z) (h : readZ l p 8 = (e, true)) : writeL l p 8 e = l := by
  obtain ⟨h1, h2, h3, he⟩ := placed h
  rw [write8 e h, he]
  obtain ⟨i, hi⟩ := Int.eq_ofNat_of_zero_le (show 0 ≤ p - 2147483648 by omega)
  have ec : cutL l p 8 = (l.take (i + 8)).drop i := by
    unfold cutL; rw [hi, Int.toNat_natCast, show ((i : Int) + 8).toNat = i + 8 by omega]
  have hcl : (cutL l p 8).length = 8 := by rw [ec, List.length_drop, List.length_take]; omega
  rw [putget 8 _ hcl (fun z hz => hb z (List.mem_of_mem_take (List.mem_of_mem_drop hz))), ec, hi, Int.toNat_natCast, sp_self l i 8 (by omega)]
theorem read_other {l : List Int} {p e q : Int} (x : Int) (h : readZ l p 8 = (e, true)) (hp : p % 8 = 0) (hq : q % 8 = 0) (hne : q ≠ p) : readZ (writeL l p 8 x) q 8 = readZ l q 8 := by
  obtain ⟨h1, h2, h3, _⟩ := placed h
  unfold readZ
  rw [writeL_length]
  rcases placeZ_cases l.length q 8 with ⟨g1, g2, g3, g⟩ | ⟨_, g⟩
  · rw [g]
    have ec : cutL (writeL l p 8 x) q 8 = cutL l q 8 := by
      rw [write8 x h]
      unfold cutL
      obtain ⟨i, hi⟩ := Int.eq_ofNat_of_zero_le (show 0 ≤ p - 2147483648 by omega)
      obtain ⟨j, hj⟩ := Int.eq_ofNat_of_zero_le (show 0 ≤ q - 2147483648 by omega)
      rw [hi, hj, Int.toNat_natCast, Int.toNat_natCast, show ((j : Int) + 8).toNat = j + 8 by omega]
      refine List.ext_getElem? fun m => ?_
      rw [List.getElem?_drop, List.getElem?_drop, List.getElem?_take, List.getElem?_take]
      split
      · rename_i hm
        exact sp_at l _ i (j + m) (by rw [putL_length]; omega) (by rw [putL_length]; omega)
      · rfl
    rw [ec]
  · rw [g]; simp
/-! ### what is found -/
def leafZ (l : List Int) (at_ : Int) : Nat → Int → Int × Int × Int × Nat
  | 0, _ => (0, 0, 0, 0)
  | n + 1, table =>
    if sextZ at_ 39 = at_ then
      (if (readZ l (placeT table at_ (2 - n)) 8).2 = true then
        (if oddZ (readZ l (placeT table at_ (2 - n)) 8).1 = true then (0, 0, 0, 0)
         else if Go.bits .and .u64 (readZ l (placeT table at_ (2 - n)) 8).1 10 = 0 then
          (if Go.bits .and .u64 (readZ l (placeT table at_ (2 - n)) 8).1 208 > 0 then (0, 0, 0, 0)
           else leafZ l at_ n (IntKind.u64.wrap (fieldZ (readZ l (placeT table at_ (2 - n)) 8).1 53 10 * 4096)))
         else (2, placeT table at_ (2 - n), (readZ l (placeT table at_ (2 - n)) 8).1, n))
       else (1, 0, 0, 0))
    else (0, 0, 0, 0)
def maskZ (e : Int) (n : Nat) : Int := Go.bits .and .u64 (fieldZ e 53 10) (IntKind.u64.wrap (IntKind.u64.wrap (2 ^ (9 * n)) - 1))
def addrZ (e at_ : Int) (n : Nat) : Int := Go.bits .or .u64 (IntKind.u64.wrap (fieldZ e 53 10 * 4096)) (fieldZ at_ (lowZ (2 - n) - 1) 0)
def finZ (l : List Int) (status priv at_ kind : Int) (r : Int × Int × Int × Nat) : Int × List Int × Int × Bool :=
  if r.1 = 2 then
    (if mayZ r.2.2.1 status priv kind = true then
      (if maskZ r.2.2.1 r.2.2.2 > 0 then (0, l, faultZ kind true, false) else (addrZ r.2.2.1 at_ r.2.2.2, writeL l r.2.1 8 (markZ r.2.2.1 kind), 0, true))
     else (0, l, faultZ kind true, false))
  else if r.1 = 1 then (0, l, faultZ kind false, false) else (0, l, faultZ kind true, false)
theorem walk_leaf (l : List Int) (status priv at_ kind : Int) : ∀ (n : Nat) (T : Int), walkZ l status priv at_ kind n T = finZ l status priv at_ kind (leafZ l at_ n T) := by
  intro n
  induction n with
  | zero => intro T; rfl
  | succ n ih =>
    intro T
    rw [walkZ, leafZ]
    split
    · split
      · split
        · rfl
        · split
          · split
            · rfl
            · exact ih _
          · rfl
      · rfl
    · rfl
theorem wrap8 (x : Int) : IntKind.u64.wrap (x * 4096) % 8 = 0 := by rw [IntKind.wrap_u64]; omega
theorem place8 (T at_ i : Int) (h : T % 8 = 0) : placeT T at_ i % 8 = 0 := by
  unfold placeT; rw [IntKind.wrap_u64, IntKind.wrap_u64]; omega
/-- A leaf: an entry that is read, at a place that is a multiple of eight. -/
theorem leaf_is (l : List Int) (at_ : Int) : ∀ (n : Nat) (T : Int), T % 8 = 0 → ∀ p e i, leafZ l at_ n T = (2, p, e, i) → readZ l p 8 = (e, true) ∧ p % 8 = 0 ∧ oddZ e = false ∧ Go.bits .and .u64 e 10 ≠ 0 ∧ i < n := by
  intro n
  induction n with
  | zero => intro T _ p e i h; cases h
  | succ n ih =>
    intro T hT p e i h
    rw [leafZ] at h
    split at h
    · split at h
      · rename_i hr
        split at h
        · cases h
        · rename_i ho
          split at h
          · split at h
            · cases h
            · obtain ⟨h1, h2, h3, h4, h5⟩ := ih _ (wrap8 _) p e i h
              exact ⟨h1, h2, h3, h4, by omega⟩
          · rename_i h10
            injection h with _ h; injection h with h1 h; injection h with h2 h3
            subst h1; subst h2; subst h3
            exact ⟨Prod.ext rfl hr, place8 _ _ _ hT, by simpa using ho, h10, by omega⟩
      · cases h
    · cases h
/-- Another memory, in which all entries that lead on are as they were. -/
theorem leaf_again (l s : List Int) (at_ p e e' : Int) (i : Nat) (hs : ∀ q, q % 8 = 0 → Go.bits .and .u64 (readZ l q 8).1 10 = 0 → readZ s q 8 = readZ l q 8) (hp : readZ s p 8 = (e', true)) (ho : oddZ e' = false) (h10 : Go.bits .and .u64 e' 10 ≠ 0) :
    ∀ (n : Nat) (T : Int), T % 8 = 0 → leafZ l at_ n T = (2, p, e, i) → leafZ s at_ n T = (2, p, e', i) := by
  intro n
  induction n with
  | zero => intro T _ h; cases h
  | succ n ih =>
    intro T hT h
    rw [leafZ] at h ⊢
    split at h
    · rename_i hx
      rw [if_pos hx]
      split at h
      · rename_i hr
        split at h
        · cases h
        · rename_i ho1
          split at h
          · rename_i h1
            split at h
            · cases h
            · rename_i h2
              rw [hs _ (place8 _ _ _ hT) h1, if_pos hr, if_neg ho1, if_pos h1, if_neg h2]
              exact ih _ (wrap8 _) h
          · injection h with _ h; injection h with g1 h; injection h with g2 g3
            rw [g1, hp]
            simp only [if_true, ho, Bool.false_eq_true, if_false]
            rw [if_neg h10, g3]
      · cases h
    · cases h
end Go.Proofs.Ytbidnolopbjlaaa.Q
