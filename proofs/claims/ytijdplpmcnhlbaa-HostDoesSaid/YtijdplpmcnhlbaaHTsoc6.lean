import Derived.Test.YtijdplpmcnhlbaaHZ3
import Derived.Test.YtijdplpmcnhlbaaHZ4
import Derived.Test.YtijdplpmcnhlbaaHQx8
import Derived.Test.YtijdplpmcnhlbaaHQx9
/- Sockets, plain facts: the document's functions are the program's. -/
set_option linter.unusedVariables false
set_option linter.unusedSimpArgs false
namespace Go.Proofs.Ytijdplpmcnhlbaa.Q
open Go.RowKit Go.Proofs.YtijdplpmcnhlbaaW.PrintWords Go.Proofs.YtijdplpmcnhlbaaW.PrintLast Go.Proofs.YtijdplpmcnhlbaaW.PrintMore
theorem rcheck_is {l : List S34} (hl : l.length ≤ 100) : drawbridgeref27_Check.f l = some (okL l) := if_pos hl
theorem place_of {l : List S34} (hl : l.length ≤ 100) (n : Int) : host_place.f l n = some (if okL l = true then idxS n l 0 else -1) := by
  unfold host_place.f
  rw [okS_is hl]
  cases okL l <;> rfl
theorem rplace_of {l : List S34} (hl : l.length ≤ 100) (n : Int) : drawbridgeref27_place.f l n = some (if okL l = true then idxS n l 0 else -1) := if_pos hl
/-- Where a number is. -/
theorem where_is {l : List S34} (hl : l.length ≤ 100) (n : Int) : (host_place.f l n = some (-1) ∧ drawbridgeref27_place.f l n = some (-1)) ∨ ∃ a x b, l = a ++ x :: b ∧ x.f0 = n ∧ host_place.f l n = some (a.length : Int) ∧ drawbridgeref27_place.f l n = some (a.length : Int) := by
  rw [place_of hl, rplace_of hl]
  cases ho : okL l with
  | false => exact .inl ⟨rfl, rfl⟩
  | true =>
    rw [if_pos rfl]
    rcases idxS_cases n l with ⟨hi, hn⟩ | ⟨a, x, b, e, hx, ha, hi⟩
    · rw [hi]; exact .inl ⟨rfl, rfl⟩
    · rw [hi]; exact .inr ⟨a, x, b, e, hx, rfl, rfl⟩
theorem find_same {l : List S34} (hl : l.length ≤ 100) (n : Int) : drawbridgeref27_Find.f l n = host_Find.f l n := by
  unfold drawbridgeref27_Find.f host_Find.f
  rcases where_is hl n with ⟨h1, h2⟩ | ⟨a, x, b, rfl, hx, h1, h2⟩
  · rw [h1, h2]; rfl
  · rw [h1, h2, Option.bind_some]
    have hlt : ((a.length : Nat) : Int) < ((a ++ x :: b).length : Int) := by rw [List.length_append, List.length_cons]; omega
    rw [if_neg (by omega), if_pos (by omega), if_pos hlt]
    show _ = some (if ((a.length : Nat) : Int) < 0 then _ else _)
    rw [if_neg (by omega)]
theorem close_same {l : List S34} (hl : l.length ≤ 100) (n : Int) : drawbridgeref27_Close.f l n = host_Close.f l n := by
  unfold drawbridgeref27_Close.f host_Close.f
  rw [if_pos (by omega)]
  rcases where_is hl n with ⟨h1, h2⟩ | ⟨a, x, b, rfl, hx, h1, h2⟩
  · rw [h1, h2]; rfl
  · rw [h1, h2, Option.bind_some]
    have hlen : (a ++ x :: b).length = a.length + b.length + 1 := by rw [List.length_append, List.length_cons]; omega
    have hcz : closeZ (a ++ x :: b) (a.length : Int) = (a ++ b, true) := by
      unfold closeZ
      rw [if_neg (by omega), Int.toNat_natCast, Q.cut_mid]
    have ht : (a ++ x :: b).take a.length = a := List.take_left' rfl
    have hd : (a ++ x :: b).drop (a.length + 1) = b := by
      rw [show a.length + 1 = (a ++ [x]).length by simp, show a ++ x :: b = (a ++ [x]) ++ b by simp, List.drop_left' rfl]
    rw [if_neg (by omega), Option.bind_some, if_pos (by omega), if_pos (by omega), Option.bind_some, Int.toNat_natCast, ht]
    rw [if_pos (by rw [List.length_nil]; omega), Option.bind_some, w64 (by omega), if_pos (by omega), if_pos (by omega), Option.bind_some, Int.toNat_natCast, hd, List.nil_append, if_pos (by omega)]
    show _ = some (closeZ (a ++ x :: b) (a.length : Int))
    rw [hcz]
theorem put_mid {a : List S34} {x y : S34} {b : List S34} (hl : (a ++ x :: b).length ≤ 100) (h : drawbridgeref27_place.f (a ++ x :: b) y.f0 = some (a.length : Int)) : drawbridgeref27_put.f (a ++ x :: b) y.f0 y.f1 y.f2 y.f3 y.f4 y.f5 = some (a ++ y :: b) := by
  unfold drawbridgeref27_put.f
  have hlen : (a ++ x :: b).length = a.length + b.length + 1 := by rw [List.length_append, List.length_cons]; omega
  rw [Option.bind_some, if_pos (by rw [List.length_nil]; omega), Option.bind_some, h, Option.bind_some, List.nil_append, if_pos (by omega), if_pos (by omega), Int.toNat_natCast, set_mid]
theorem find_mid {a : List S34} {x : S34} {b : List S34} {n : Int} (hl : (a ++ x :: b).length ≤ 100) (h : drawbridgeref27_place.f (a ++ x :: b) n = some (a.length : Int)) : drawbridgeref27_Find.f (a ++ x :: b) n = some (x.f0, x.f1, x.f2, x.f3, x.f4, x.f5, true) := by
  unfold drawbridgeref27_Find.f
  have hlen : (a ++ x :: b).length = a.length + b.length + 1 := by rw [List.length_append, List.length_cons]; omega
  rw [h, Option.bind_some, if_neg (by omega), if_pos (by omega), if_pos (by omega), rd_mid]
theorem rfind_no {l : List S34} {n : Int} (h : drawbridgeref27_place.f l n = some (-1)) : drawbridgeref27_Find.f l n = some (0, 0, 0, 0, false, false, false) := by
  unfold drawbridgeref27_Find.f
  rw [h]; rfl
theorem shut_same {l : List S34} (hl : l.length ≤ 100) (n : Int) : drawbridgeref27_Shut.f l n = host_Shut.f l n := by
  unfold drawbridgeref27_Shut.f host_Shut.f
  rw [if_pos (by omega)]
  rcases where_is hl n with ⟨h1, h2⟩ | ⟨a, x, b, rfl, hx, h1, h2⟩
  · rw [h1, rfind_no h2]; rfl
  · rw [h1, find_mid hl h2, Option.bind_some]
    show (if x.f1 = 2 then (if x.f5 = true then some (a ++ x :: b, false) else (drawbridgeref27_put.f (a ++ x :: b) x.f0 x.f1 x.f2 x.f3 x.f4 true).bind fun t => some (t, true)) else some (a ++ x :: b, false)) = some (shutZ (a ++ x :: b) (a.length : Int))
    unfold shutZ
    rw [if_neg (show ¬ ((a.length : Int) < 0) by omega), rd_mid, setS_mid]
    by_cases h2' : x.f1 = 2
    · rw [if_pos h2', if_neg (show ¬ ((x.f1 != 2) = true) by rw [h2']; decide)]
      by_cases h5 : x.f5 = true
      · rw [if_pos h5, if_pos h5]
      · rw [if_neg h5, if_neg h5, put_mid (y := { x with f5 := true }) hl (by show drawbridgeref27_place.f _ x.f0 = _; rw [hx]; exact h2)]
        rfl
    · rw [if_neg h2', if_pos (show (x.f1 != 2) = true from bne_iff_ne.2 h2')]
theorem hear_same {l : List S34} (hl : l.length ≤ 100) (kind id : Int) (D : List Int) (n : Int) : drawbridgeref27_Hear.f l kind id D n = host_Hear.f l kind id D n := by
  unfold drawbridgeref27_Hear.f host_Hear.f
  rw [if_pos (by omega)]
  rcases where_is hl id with ⟨h1, h2⟩ | ⟨a, x, b, rfl, hx, h1, h2⟩
  · rw [h1, rfind_no h2]; rfl
  · rw [h1, find_mid hl h2, Option.bind_some, Option.bind_some, if_pos rfl, if_neg (by omega)]
    unfold rhZ hearZ
    rw [rd_mid]
    dsimp only
    have e0 : drawbridgeref27_place.f (a ++ x :: b) x.f0 = some (a.length : Int) := by rw [hx]; exact h2
    by_cases k1 : kind = 1
    · subst k1
      rw [if_pos rfl, if_neg (show ¬ ((1 : Int) = 2) by decide), setS_mid]
      by_cases ho : (x.f1 == 2) = true
      · rw [if_pos ho, if_pos ho]; rfl
      · rw [if_neg ho, if_neg ho, put_mid (y := { x with f1 := 2 }) hl e0]; rfl
    rw [if_neg k1]
    by_cases k2 : kind = 2
    · rw [if_pos k2, if_pos k2]; exact close_same hl id
    rw [if_neg k2, if_neg k2, if_neg k1]
    by_cases k3 : kind = 3
    · rw [if_pos k3, if_pos k3]
    rw [if_neg k3, if_neg k3]
    by_cases k4 : kind = 4
    · rw [if_pos k4, if_pos k4, setS_mid]
      by_cases ho : (x.f1 == 2) = true ∧ x.f4 = false
      · rw [if_pos ho, if_pos ho, put_mid (y := { x with f4 := true }) hl e0]; rfl
      · rw [if_neg ho, if_neg ho]
    rw [if_neg k4, if_neg k4]
    by_cases k5 : kind = 5
    · rw [if_pos k5, if_pos k5]
    · rw [if_neg k5, if_neg k5]
theorem rcon_l0 (l : List S34) (r p : Int) (hl : l.length ≤ 100) : ∀ (k i : Nat), i ≤ l.length → l.length - i < k → drawbridgeref27_Connect.l0 k l r p (i : Int) = some (l.take (atS (l.drop i) i).toNat ++ (newS (atS (l.drop i) i) r p :: l.drop (atS (l.drop i) i).toNat), atS (l.drop i) i + 1, true)
  | 0, i, hi, hk => absurd hk (by omega)
  | k + 1, i, hi, hk => by
    have hfin : ∀ j : Nat, j ≤ l.length → (some (([] : List S34) : List S34)).bind (fun y162 => (if ((j : Nat) : Int) ≤ (l.length : Int) then ((some (l.take ((j : Nat) : Int).toNat : List S34)).bind fun y165 => (if y162.length + y165.length < 3518437208883 then ((some (y162 ++ y165 : List S34)).bind fun y170 => ((some (([(⟨wrap64 ((j : Nat) + 1), 1, r, p, false, false⟩ : S34)] : List S34) : List S34)).bind fun y173 => (if y170.length + y173.length < 3518437208883 then ((some (y170 ++ y173 : List S34)).bind fun y176 => ((some (l.drop ((j : Nat) : Int).toNat : List S34)).bind fun y179 => (if y176.length + y179.length < 3518437208883 then some ((y176 ++ y179), wrap64 ((j : Nat) + 1), true) else none))) else none))) else none)) else none)) = some (l.take j ++ (newS (j : Int) r p :: l.drop j), (j : Int) + 1, true) := by
      intro j hj
      have h1 : (l.take j).length ≤ 100 := by rw [List.length_take]; omega
      have h2 : (l.drop j).length ≤ 100 := by rw [List.length_drop]; omega
      rw [Option.bind_some, if_pos (by omega), Option.bind_some, Int.toNat_natCast, if_pos (by rw [List.length_nil]; omega), Option.bind_some, Option.bind_some, List.nil_append, if_pos (by simp only [List.length_cons, List.length_nil]; omega), Option.bind_some, Option.bind_some, if_pos (by simp only [List.length_append, List.length_cons, List.length_nil]; omega), w64 (by omega)]
      have e : ((j + 1 : Nat) : Int) = (j : Int) + 1 := by omega
      rw [e]
      unfold newS
      simp
    rw [drawbridgeref27_Connect.l0]
    by_cases h : i < l.length
    · rw [if_pos (by omega), if_pos (by omega), w64 (by omega), atS_step h]
      have e : ((i + 1 : Nat) : Int) = (i : Int) + 1 := by omega
      by_cases hp : (rd_T34 l (i : Int)).f0 = (i : Int) + 1
      · rw [if_pos (by rw [hp, e]), if_pos (by simpa using hp), rcon_l0 l r p hl k (i + 1) (by omega) (by omega)]
      · rw [if_neg (by rw [e]; exact hp), if_neg (by simpa using hp), Int.toNat_natCast]
        have := hfin i hi
        rw [w64 (by omega)] at this
        exact this
    · have hd : l.drop i = [] := List.drop_of_length_le (by omega)
      rw [if_neg (by omega), hd]
      have ea : atS [] (i : Int) = (i : Int) := rfl
      rw [ea, Int.toNat_natCast, Option.bind_some, if_pos (by omega)]
      have := hfin i hi
      rw [Option.bind_some] at this
      exact this
theorem con_same {l : List S34} (hl : l.length ≤ 100) (r p : Int) {k : Nat} (hk : l.length + 1 < k) : drawbridgeref27_Connect.f k l r p = host_Connect.f l r p := by
  unfold drawbridgeref27_Connect.f host_Connect.f
  rw [if_pos hl, rcheck_is hl, okS_is hl, Option.bind_some]
  obtain ⟨k, rfl⟩ : ∃ j, k = j + 1 := ⟨k - 1, by omega⟩
  have hT : drawbridgeref27_Connect.j0 (k + 1) l r p true = some (l, 0, false) := by
    rw [drawbridgeref27_Connect.j0, if_pos rfl]
  cases okL l with
  | false => exact (if_neg Bool.false_ne_true).trans hT
  | true =>
    rw [if_pos rfl]
    show _ = some (if (l.length : Int) = 8 then _ else _)
    by_cases h8 : (l.length : Int) = 8
    · rw [if_pos h8, if_pos h8]; exact hT
    rw [if_neg h8, if_neg h8]
    by_cases hp0 : p < 0
    · rw [if_pos hp0, if_neg (by omega)]; exact hT
    rw [if_neg hp0]
    by_cases hp1 : p > 65535
    · rw [decide_eq_true hp1, if_neg (by omega)]; exact hT
    · rw [decide_eq_false hp1, if_pos (by omega), drawbridgeref27_Connect.j0, if_neg Bool.false_ne_true]
      have := rcon_l0 l r p hl k 0 (by omega) (by omega)
      exact this
end Go.Proofs.Ytijdplpmcnhlbaa.Q
