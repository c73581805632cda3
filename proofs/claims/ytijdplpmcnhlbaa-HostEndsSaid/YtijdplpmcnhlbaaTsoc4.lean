/- Sockets, plain facts: what is told, shut, closed. -/
import Derived.Test.YtijdplpmcnhlbaaTsoc3
import Derived.Test.YtijdplpmcnhlbaaHhear
import Derived.Test.YtijdplpmcnhlbaaHchk
set_option linter.unusedVariables false
set_option linter.unusedSimpArgs false
namespace Go.Proofs.Ytijdplpmcnhlbaa.Q
open Go.RowKit Go.Proofs.YtijdplpmcnhlbaaW.PrintWords Go.Proofs.YtijdplpmcnhlbaaW.PrintLast Go.Proofs.YtijdplpmcnhlbaaW.PrintMore
theorem check_ok {l : List S34} (hl : l.length ≤ 100) : host_Check.f l = some (okL l) := okS_is hl
theorem place_at {l : List S34} (h : okL l = true) (n : Int) : host_place.f l n = some (idxS n l 0) := by
  unfold host_place.f
  rw [okS_is (by have := okL_len h; omega), h]; rfl
theorem close_at {l : List S34} (h : okL l = true) (n : Int) : host_Close.f l n = some (closeZ l (idxS n l 0)) := by
  unfold host_Close.f
  rw [if_pos (by have := okL_len h; omega), place_at h]; rfl
theorem shut_at {l : List S34} (h : okL l = true) (n : Int) : host_Shut.f l n = some (shutZ l (idxS n l 0)) := by
  unfold host_Shut.f
  rw [if_pos (by have := okL_len h; omega), place_at h]; rfl
def hearS (l : List S34) (kind id dl n : Int) : List S34 × Bool := if idxS id l 0 < 0 then (l, false) else if kind = 2 then closeZ l (idxS id l 0) else hearZ l (idxS id l 0) kind dl n
theorem hear_at {l : List S34} (h : okL l = true) (kind id : Int) (D : List Int) (n : Int) : host_Hear.f l kind id D n = some (hearS l kind id D.length n) := by
  unfold host_Hear.f hearS
  rw [if_pos (by have := okL_len h; omega), place_at h, Option.bind_some]
  split
  · rfl
  · split
    · exact close_at h id
    · rfl
theorem hearS_none {l : List S34} {id : Int} (hi : idxS id l 0 = -1) (kind dl n : Int) : hearS l kind id dl n = (l, false) := by
  unfold hearS
  rw [hi, if_pos (by decide)]
/-- What an end makes of a socket that is there. -/
theorem eof_mid {a : List S34} {x : S34} {b : List S34} {id : Int} (h : okL (a ++ x :: b) = true) (hx : x.f0 = id) (ha : ∀ y ∈ a, y.f0 ≠ id) (dl n : Int) :
    okL (hearS (a ++ x :: b) 4 id dl n).1 = true ∧ ((hearS (a ++ x :: b) 4 id dl n).2 = true → ∀ kind dl' n', (kind = 3 ∨ kind = 4) → (hearS (hearS (a ++ x :: b) 4 id dl n).1 kind id dl' n').2 = false) := by
  have hi : idxS id (a ++ x :: b) 0 = (a.length : Int) := by rw [idxS_skip id a _ 0 ha, idxS, if_pos (by simpa using hx)]; omega
  have ho := okR_okI (okL_R h) x (by simp)
  have e : hearS (a ++ x :: b) 4 id dl n = if (x.f1 == 2) = true ∧ x.f4 = false then (a ++ mapS 4 x :: b, true) else (a ++ x :: b, false) := by
    unfold hearS hearZ
    rw [hi, if_neg (by omega), if_neg (by decide), if_neg (by decide), if_neg (by decide), if_pos rfl, rd_mid, setS_mid]
  rw [e]
  by_cases hc : (x.f1 == 2) = true ∧ x.f4 = false
  · rw [if_pos hc]
    have h2 : x.f1 = 2 := by simpa using hc.1
    obtain ⟨m1, m2⟩ := map_ok 4 ho (.inr h2)
    refine ⟨ok_mid h m1 m2, fun _ kind dl' n' hk => ?_⟩
    have hi2 : idxS id (a ++ mapS 4 x :: b) 0 = (a.length : Int) := by rw [idxS_skip id a _ 0 ha, idxS, if_pos (by rw [m2]; simpa using hx)]; omega
    show (hearS (a ++ mapS 4 x :: b) kind id dl' n').2 = false
    unfold hearS hearZ
    rw [hi2, if_neg (by omega), if_neg (by omega), rd_mid]
    have f4 : (mapS 4 x).f4 = true := rfl
    rcases hk with rfl | rfl
    · rw [if_neg (by decide), if_pos rfl, f4]; simp
    · rw [if_neg (by decide), if_neg (by decide), if_pos rfl, f4, if_neg (by simp)]
  · rw [if_neg hc]
    exact ⟨h, fun hh => by cases hh⟩
theorem shut_mid {a : List S34} {x : S34} {b : List S34} {id : Int} (h : okL (a ++ x :: b) = true) (hx : x.f0 = id) (ha : ∀ y ∈ a, y.f0 ≠ id) :
    okL (shutZ (a ++ x :: b) (a.length : Int)).1 = true ∧ ((shutZ (a ++ x :: b) (a.length : Int)).2 = true → ∀ dl' n', (hearS (shutZ (a ++ x :: b) (a.length : Int)).1 5 id dl' n').2 = false) := by
  have ho := okR_okI (okL_R h) x (by simp)
  have e : shutZ (a ++ x :: b) (a.length : Int) = if x.f1 ≠ 2 then (a ++ x :: b, false) else if x.f5 = true then (a ++ x :: b, false) else (a ++ mapS 5 x :: b, true) := by
    unfold shutZ
    rw [if_neg (by omega), rd_mid, setS_mid]
    by_cases h2 : x.f1 = 2
    · simp [h2]
    · simp [h2]
  rw [e]
  by_cases h2 : x.f1 = 2
  · rw [if_neg (by simpa using h2)]
    by_cases h5 : x.f5 = true
    · rw [if_pos h5]; exact ⟨h, fun hh => by cases hh⟩
    · rw [if_neg h5]
      obtain ⟨m1, m2⟩ := map_ok 5 ho (.inr h2)
      refine ⟨ok_mid h m1 m2, fun _ dl' n' => ?_⟩
      have hi2 : idxS id (a ++ mapS 5 x :: b) 0 = (a.length : Int) := by rw [idxS_skip id a _ 0 ha, idxS, if_pos (by rw [m2]; simpa using hx)]; omega
      show (hearS (a ++ mapS 5 x :: b) 5 id dl' n').2 = false
      unfold hearS hearZ
      rw [hi2, if_neg (by omega), if_neg (by decide), rd_mid]
      have f5 : (mapS 5 x).f5 = true := rfl
      rw [if_neg (by decide), if_neg (by decide), if_neg (by decide), if_pos rfl, f5]; simp
  · rw [if_pos h2]; exact ⟨h, fun hh => by cases hh⟩
theorem hear_any (l : List S34) (h : okL l = true) (kind id : Int) (D : List Int) (n : Int) : ∃ r, host_Hear.f l kind id D n = some r := ⟨_, hear_at h kind id D n⟩
end Go.Proofs.Ytijdplpmcnhlbaa.Q
