/- Sockets, plain facts: a new one. -/
import Derived.Test.YtijdplpmcnhlbaaTsoc3
import Derived.Test.YtijdplpmcnhlbaaHcon
import Derived.Test.YtijdplpmcnhlbaaHchk
import Derived.Test.YtijdplpmcnhlbaaHfind
import Derived.Test.YtijdplpmcnhlbaaQx2
set_option linter.unusedVariables false
set_option linter.unusedSimpArgs false
namespace Go.Proofs.Ytijdplpmcnhlbaa.Q
open Go.RowKit Go.Proofs.YtijdplpmcnhlbaaW.PrintWords Go.Proofs.YtijdplpmcnhlbaaW.PrintLast Go.Proofs.YtijdplpmcnhlbaaW.PrintMore
theorem atS_spec : ∀ (l : List S34) (k : Int), ∃ n : Nat, n ≤ l.length ∧ atS l k = k + n ∧ lastF k (l.take n) = k + n ∧ (∀ y, l[n]? = some y → y.f0 ≠ k + n + 1)
  | [], k => ⟨0, Nat.le_refl _, by simp [atS], by simp [lastF], fun y h => by simp at h⟩
  | x :: l, k => by
    by_cases hx : x.f0 = k + 1
    · obtain ⟨n, h1, h2, h3, h4⟩ := atS_spec l (k + 1)
      refine ⟨n + 1, by rw [List.length_cons]; omega, ?_, ?_, fun y hy => ?_⟩
      · rw [atS, if_pos (by simpa using hx), h2]; omega
      · rw [List.take_succ_cons, lastF, hx, h3]; omega
      · rw [List.getElem?_cons_succ] at hy
        have := h4 y hy
        intro hh; exact this (by omega)
    · refine ⟨0, Nat.zero_le _, ?_, by simp [lastF], fun y hy => ?_⟩
      · rw [atS, if_neg (by simpa using hx)]; omega
      · have : x = y := by simpa using hy
        rw [← this]; intro hh; exact hx (by omega)
def fvO : Option S34 → Int × Int × Int × Int × Bool × Bool × Bool
  | none => (0, 0, 0, 0, false, false, false)
  | some x => (x.f0, x.f1, x.f2, x.f3, x.f4, x.f5, true)
theorem place_at5 {l : List S34} (h : okL l = true) (n : Int) : host_place.f l n = some (idxS n l 0) := by
  unfold host_place.f
  rw [okS_is (by have := okL_len h; omega), h]; rfl
theorem find_at {l : List S34} (h : okL l = true) (n : Int) : host_Find.f l n = some (fvO (l.find? fun y => y.f0 == n)) := by
  unfold host_Find.f
  rw [place_at5 h]
  rcases idxS_cases n l with ⟨hi, hn⟩ | ⟨a, x, b, rfl, hx, ha, hi⟩
  · have e : l.find? (fun y => y.f0 == n) = none := List.find?_eq_none.2 fun y hy => by simpa using hn y hy
    rw [hi, e]; rfl
  · have e1 : a.find? (fun y => y.f0 == n) = none := List.find?_eq_none.2 fun y hy => by simpa using ha y hy
    have e : (a ++ x :: b).find? (fun y => y.f0 == n) = some x := by
      rw [List.find?_append, e1, List.find?_cons_of_pos (by simpa using hx)]; rfl
    rw [hi, e]
    show some (if ((a.length : Nat) : Int) < 0 then _ else _) = _
    rw [if_neg (by omega), rd_mid]; rfl
/-- What a new socket makes of a row. -/
theorem con_facts {l : List S34} (h : okL l = true) (h8 : ¬ (l.length : Int) = 8) {r p : Int} (hp : p / 65536 = 0) :
    ∃ (n : Nat) (a b : List S34), l = a ++ b ∧ n = a.length ∧ conZ l r p = (a ++ newS (n : Int) r p :: b, (n : Int) + 1, true) ∧ okL (a ++ newS (n : Int) r p :: b) = true ∧ (∀ y ∈ a ++ b, y.f0 ≠ (n : Int) + 1) := by
  obtain ⟨n, h1, h2, h3, h4⟩ := atS_spec l 0
  have h2 : atS l 0 = (n : Int) := by omega
  have h3 : lastF 0 (l.take n) = (n : Int) := by omega
  have hl := okL_len h
  have hr := okL_R h
  have hn8 : n < 8 := by omega
  have hab : l = l.take n ++ l.drop n := (List.take_append_drop n l).symm
  rw [hab, okR_append, h3] at hr
  simp only [Bool.and_eq_true] at hr
  have hb : okR ((n : Int) + 1) (l.drop n) = true := by
    rcases hd : l.drop n with _ | ⟨y, b'⟩
    · rfl
    · have hy : l[n]? = some y := by
        have := congrArg (fun q => q[0]?) hd
        simpa [List.getElem?_drop] using this
      have hne := h4 y hy
      have hr2 := hr.2
      rw [hd] at hr2
      unfold okR at hr2 ⊢
      simp only [Bool.and_eq_true, decide_eq_true_eq] at hr2 ⊢
      exact ⟨hr2.1, by omega, hr2.2.2⟩
  have hnew : okI (newS (n : Int) r p) = true := by
    unfold okI newS
    dsimp only
    have q1 : decide (1 ≤ (n : Int) + 1) = true := decide_eq_true (by omega)
    have q2 : decide ((n : Int) + 1 ≤ 8) = true := decide_eq_true (by omega)
    rw [q1, q2, hp]; rfl
  refine ⟨n, l.take n, l.drop n, hab, by rw [List.length_take]; omega, ?_, ?_, ?_⟩
  · unfold conZ
    rw [h2, Int.toNat_natCast]
  · refine okL_mk ?_ (by rw [List.length_append, List.length_take, List.length_cons, List.length_drop]; omega)
    rw [okR_append, hr.1, h3, okR, hnew]
    have q : decide ((n : Int) < (newS (n : Int) r p).f0) = true := decide_eq_true (by show (n : Int) < (n : Int) + 1; omega)
    rw [q]
    exact hb
  · intro y hy
    rcases List.mem_append.1 hy with hy | hy
    · have := okR_lastF hr.1 y hy
      rw [h3] at this; omega
    · have := okR_gt hb y hy; omega
theorem same_l0 (l : List S34) (hl : l.length ≤ 100) : ∀ (k i : Nat), l.length - i < k → i ≤ l.length → drawbridgeref27_Same.l0 k l l (i : Int) = some true
  | 0, i, hk, hi => absurd hk (by omega)
  | k + 1, i, hk, hi => by
    unfold drawbridgeref27_Same.l0
    by_cases h : i < l.length
    · rw [if_pos (by omega), if_pos (by omega), if_pos (by omega), if_neg (by simp), w64 (by omega)]
      exact same_l0 l hl k (i + 1) (by omega) (by omega)
    · rw [if_neg (by omega)]
theorem same_refl {l : List S34} (hl : l.length ≤ 100) {k : Nat} (hk : l.length < k) : drawbridgeref27_Same.f k l l = some true := by
  unfold drawbridgeref27_Same.f
  rw [if_pos rfl]
  exact same_l0 l hl k 0 (by omega) (by omega)
end Go.Proofs.Ytijdplpmcnhlbaa.Q
