import Derived.Test.YtijdplpmcnhlbaaSaidHostFresh
import Derived.Test.YtijdplpmcnhlbaaTsoc5
namespace Go.Proofs.Ytijdplpmcnhlbaa.Pure
open Go.RowKit Go.Proofs.Ytijdplpmcnhlbaa.Q Go.Proofs.YtijdplpmcnhlbaaW.PrintWords Go.Proofs.YtijdplpmcnhlbaaW.PrintLast Go.Proofs.YtijdplpmcnhlbaaW.PrintMore Go.Proofs.Ytijdplpmcnhlbaa.L
set_option linter.unusedVariables false
set_option linter.unusedSimpArgs false
theorem check_ok {l : List S34} (hl : l.length ≤ 100) : host_Check.f l = some (okL l) := okS_is hl
/-- The plain law of HostFresh. -/
theorem HostFresh : HostFresh.Said := by
  intro l r p other _ _ _ _ _
  refine ⟨l.length + 5, ?_⟩
  have hout : drawbridgelaw27_HostFresh.j0 (l.length + 5) l r p other true = some true := by
    rw [drawbridgelaw27_HostFresh.j0, if_pos rfl, drawbridgelaw27_heads.tells]; rfl
  unfold drawbridgelaw27_HostFresh.f
  by_cases h40 : (l.length : Int) > 40
  · rw [if_pos h40]; exact hout
  rw [if_neg h40, check_ok (by omega), Option.bind_some]
  cases ho : okL l with
  | false => exact hout
  | true =>
    show drawbridgelaw27_HostFresh.j0 (l.length + 4 + 1) l r p other false = some true
    have hS := same_refl (l := l) (by omega) (k := l.length + 4) (by omega)
    have hno : ∀ q, q = (l, (0 : Int), false) → host_Connect.f l r p = some q → drawbridgelaw27_HostFresh.j0 (l.length + 4 + 1) l r p other false = some true := by
      intro q hq hc
      subst hq
      rw [drawbridgelaw27_HostFresh.j0, if_neg Bool.false_ne_true, hc, Option.bind_some]
      refine (if_neg Bool.false_ne_true).trans ?_
      refine (if_pos rfl).trans ?_
      show ((drawbridgeref27_Same.f (l.length + 4) l l).bind _) = _
      rw [hS, Option.bind_some, if_pos rfl, drawbridgelaw27_heads.tells]; rfl
    have hcf : host_Connect.f l r p = some (if (l.length : Int) = 8 then (l, 0, false) else if p / 65536 = 0 then conZ l r p else (l, 0, false)) := by
      unfold host_Connect.f
      rw [if_pos (by omega), okS_is (by omega), ho]; rfl
    by_cases h8 : (l.length : Int) = 8
    · exact hno _ rfl (by rw [hcf, if_pos h8])
    by_cases hp : p / 65536 = 0
    · obtain ⟨n, a, b, hab, hn, hcz, hok, hne⟩ := con_facts ho h8 (r := r) hp
      rw [if_neg h8, if_pos hp, hcz] at hcf
      have f1 := find_at ho ((n : Int) + 1)
      have f2 := find_at hok ((n : Int) + 1)
      have f3 := find_at ho other
      have f4 := find_at hok other
      have ea : a.find? (fun y => y.f0 == (n : Int) + 1) = none := List.find?_eq_none.2 fun y hy => by simpa using hne y (List.mem_append_left _ hy)
      have e1 : l.find? (fun y => y.f0 == (n : Int) + 1) = none := List.find?_eq_none.2 fun y hy => by rw [hab] at hy; simpa using hne y hy
      have e2 : (a ++ newS (n : Int) r p :: b).find? (fun y => y.f0 == (n : Int) + 1) = some (newS (n : Int) r p) := by
        rw [List.find?_append, ea, List.find?_cons_of_pos (by simp [newS])]; rfl
      rw [e1] at f1
      rw [e2] at f2
      have hlen : ((a ++ newS (n : Int) r p :: b).length : Int) = wrap64 ((l.length : Int) + 1) := by
        rw [Q.w64 (by omega), hab, List.length_append, List.length_append, List.length_cons]; omega
      have hend : (if ((a ++ newS (n : Int) r p :: b).length : Int) = wrap64 ((l.length : Int) + 1) then ((host_Check.f (a ++ newS (n : Int) r p :: b)).bind fun t394 => (if t394 = true then ((drawbridgelaw27_heads.f).bind fun t395 => (some t395)) else (some false))) else (some false)) = some true := by
        rw [if_pos hlen, check_ok (by have := okL_len hok; omega), hok, Option.bind_some, if_pos rfl, drawbridgelaw27_heads.tells]; rfl
      rw [drawbridgelaw27_HostFresh.j0, if_neg Bool.false_ne_true, hcf, Option.bind_some]
      refine (if_pos rfl).trans ?_
      show ((host_Find.f l ((n : Int) + 1)).bind _) = _
      rw [f1, Option.bind_some]
      show ((host_Find.f (a ++ newS (n : Int) r p :: b) ((n : Int) + 1)).bind _) = _
      rw [f2, Option.bind_some, f3, Option.bind_some]
      show ((host_Find.f (a ++ newS (n : Int) r p :: b) other).bind _) = _
      rw [f4, Option.bind_some]
      refine (if_neg Bool.false_ne_true).trans ?_
      refine (if_pos rfl).trans ?_
      refine (if_pos rfl).trans ?_
      refine (if_pos rfl).trans ?_
      refine (if_pos rfl).trans ?_
      by_cases hoth : other = (n : Int) + 1
      · refine (if_pos hoth).trans ?_
        exact hend
      · refine (if_neg hoth).trans ?_
        have e34 : (a ++ newS (n : Int) r p :: b).find? (fun y => y.f0 == other) = l.find? (fun y => y.f0 == other) := by
          rw [hab, List.find?_append, List.find?_append, List.find?_cons_of_neg (by simp [newS]; omega)]
        rw [e34]
        rw [if_pos (by simp), if_pos (by simp)]
        exact hend
    · exact hno _ rfl (by rw [hcf, if_neg h8, if_neg hp])
end Go.Proofs.Ytijdplpmcnhlbaa.Pure
