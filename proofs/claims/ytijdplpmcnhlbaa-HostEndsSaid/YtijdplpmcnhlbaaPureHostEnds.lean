import Derived.Test.YtijdplpmcnhlbaaSaidHostEnds
import Derived.Test.YtijdplpmcnhlbaaTsoc4
namespace Go.Proofs.Ytijdplpmcnhlbaa.Pure
open Go.RowKit Go.Proofs.Ytijdplpmcnhlbaa.Q Go.Proofs.YtijdplpmcnhlbaaW.PrintWords Go.Proofs.YtijdplpmcnhlbaaW.PrintLast Go.Proofs.YtijdplpmcnhlbaaW.PrintMore Go.Proofs.Ytijdplpmcnhlbaa.L
set_option linter.unusedVariables false
set_option linter.unusedSimpArgs false
theorem ends_j0 {l : List S34} {id kind z n : Int} {D : List Int} {e r1 s r2 c r3 : List S34 × Bool} (k : Nat) (hH1 : host_Hear.f l 4 id [] 0 = some e) (hH2 : host_Hear.f e.1 kind id D n = some r1) (hS : host_Shut.f l id = some s) (hH3 : host_Hear.f s.1 kind id D n = some r2) (hC : host_Close.f l id = some c) (hH4 : host_Hear.f c.1 kind id D n = some r3)
    (o1 : okL e.1 = true) (o2 : okL s.1 = true) (o3 : okL c.1 = true) (P1 : e.2 = true → r1.2 = true → ¬ kind = 3 ∧ ¬ kind = 4) (P2 : s.2 = true → r2.2 = true → ¬ kind = 5) (P3 : c.2 = true → r3.2 = false) :
    drawbridgelaw27_HostEnds.j0 (k + 2) l id false kind z D n = some true := by
  have J : drawbridgelaw27_HostEnds.j1 (k + 1) e.1 s.1 c.1 false = some true := by
    rw [drawbridgelaw27_HostEnds.j1, if_neg Bool.false_ne_true, check_ok (by have := okL_len o1; omega), check_ok (by have := okL_len o2; omega), check_ok (by have := okL_len o3; omega), o1, o2, o3, drawbridgelaw27_heads.tells]; rfl
  rw [drawbridgelaw27_HostEnds.j0, if_neg Bool.false_ne_true, hH1, Option.bind_some, hH2, Option.bind_some, hS, Option.bind_some, hH3, Option.bind_some, hC, Option.bind_some, hH4, Option.bind_some]
  cases h1 : e.2 <;> cases h2 : r1.2 <;> cases h3 : s.2 <;> cases h4 : r2.2 <;> cases h5 : c.2
  all_goals simp only [h1, h2, h3, h4, h5, if_true, if_false, Bool.false_eq_true]
  all_goals (try rw [P3 h5])
  all_goals (try rw [if_neg (P1 h1 h2).1, if_neg (P1 h1 h2).2])
  all_goals (try rw [if_neg (P2 h3 h4)])
  all_goals exact J
/-- The plain law of HostEnds. -/
theorem HostEnds : HostEnds.Said := by
  intro l id kind z D n _ _ _ _ _ _ _ _
  refine ⟨3, ?_⟩
  have hout : drawbridgelaw27_HostEnds.j0 3 l id true kind z D n = some true := by
    rw [drawbridgelaw27_HostEnds.j0, if_pos rfl, drawbridgelaw27_heads.tells]; rfl
  unfold drawbridgelaw27_HostEnds.f
  by_cases h40 : (l.length : Int) > 40
  · rw [if_pos h40]; exact hout
  rw [if_neg h40]
  by_cases h5 : (D.length : Int) > 5000
  · rw [if_pos h5]; exact hout
  rw [if_neg h5, check_ok (by omega), Option.bind_some]
  cases ho : okL l with
  | false => exact hout
  | true =>
    show drawbridgelaw27_HostEnds.j0 3 l id false kind z D n = some true
    rcases idxS_cases id l with ⟨hi, hn⟩ | ⟨a, x, b, rfl, hx, ha, hi⟩
    · have hs : shutZ l (idxS id l 0) = (l, false) := by unfold shutZ; rw [hi, if_pos (by decide)]
      have hc : closeZ l (idxS id l 0) = (l, false) := by unfold closeZ; rw [hi, if_pos (by decide)]
      have hh := hear_at ho kind id D n
      have h4 := hear_at ho 4 id [] 0
      rw [hearS_none hi] at hh h4
      have hS : host_Shut.f l id = some (l, false) := (shut_at ho id).trans (by rw [hs])
      have hC : host_Close.f l id = some (l, false) := (close_at ho id).trans (by rw [hc])
      exact ends_j0 (e := (l, false)) (r1 := (l, false)) (s := (l, false)) (r2 := (l, false)) (c := (l, false)) (r3 := (l, false)) 1 h4 hh hS hh hC hh ho ho ho (fun h => by cases h) (fun h => by cases h) (fun _ => rfl)
    · obtain ⟨e1, e2⟩ := eof_mid ho hx ha (([] : List Int).length : Int) 0
      obtain ⟨s1, s2⟩ := shut_mid ho hx ha
      have hcz : closeZ (a ++ x :: b) (a.length : Int) = (a ++ b, true) := by
        unfold closeZ
        rw [if_neg (by omega), Int.toNat_natCast, Q.cut_mid]
      obtain ⟨c1, c2⟩ := ok_cut ho
      have hno : idxS id (a ++ b) 0 = -1 := idxS_none (fun y hy => by rw [← hx]; exact c2 y hy)
      have hC := close_at ho id
      rw [hi, hcz] at hC
      have hS := shut_at ho id
      rw [hi] at hS
      have h3 := hear_at c1 kind id D n
      rw [hearS_none hno] at h3
      refine ends_j0 (c := (a ++ b, true)) (r3 := (a ++ b, false)) 1 (hear_at ho 4 id [] 0) (hear_at e1 kind id D n) hS (hear_at s1 kind id D n) hC h3 e1 s1 c1 (fun p q => ?_) (fun p q => ?_) (fun _ => rfl)
      · constructor
        · intro hk; have := e2 p kind D.length n (.inl hk); rw [this] at q; cases q
        · intro hk; have := e2 p kind D.length n (.inr hk); rw [this] at q; cases q
      · intro hk; subst hk; have := s2 p D.length n; rw [this] at q; cases q
end Go.Proofs.Ytijdplpmcnhlbaa.Pure
