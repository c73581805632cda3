-- Ytijdplpmcnhlbaa: written by a program for this claim
import Derived.Test.YtijdplpmcnhlbaaRows
import Derived.Test.YtijdplpmcnhlbaaSaidHostEnds
import Derived.Test.YtijdplpmcnhlbaaPureHostEnds
import Derived.Test.YtijdplpmcnhlbaaOpen
import Derived.WalkKit
import Derived.ProofKit
import Derived.OpenShut
import Derived.ShutString
import Derived.ChangeOld
import Derived.Below
import Derived.SizedLaws
namespace Go.Proofs.Ytijdplpmcnhlbaa.hostEnds
open Go.RowKit Go.Proofs.Ytijdplpmcnhlbaa.Q Go.Proofs.YtijdplpmcnhlbaaW.PrintWords Go.Proofs.YtijdplpmcnhlbaaW.PrintLast Go.Proofs.YtijdplpmcnhlbaaW.PrintMore Go.Proofs.Ytijdplpmcnhlbaa.L Go.Proofs.Ytijdplpmcnhlbaa.Pure
open Go.ChangeShapes Go.WideShapes Go.ChangeAt
set_option linter.unusedVariables false
theorem own : ownKnob Try.prog.godebug = none := by kernel_rfl
theorem laidOut : laidOutB Try.prog = true := by kernel_rfl
theorem list_4 (L : List Value) (h : L.length = 4) : ∃ c0 c1 c2 c3, L = [c0, c1, c2, c3] := by
  match L, h with
  | [c0, c1, c2, c3], _ => exact ⟨c0, c1, c2, c3, rfl⟩
theorem list_6 (L : List Value) (h : L.length = 6) : ∃ c0 c1 c2 c3 c4 c5, L = [c0, c1, c2, c3, c4, c5] := by
  match L, h with
  | [c0, c1, c2, c3, c4, c5], _ => exact ⟨c0, c1, c2, c3, c4, c5, rfl⟩
abbrev wf34 := HostEnds.wf34
theorem open34 {H : Type} {enc : TypeId × Value → H} {W : World} {m : Nat} {cs : List Value} {y : DataW H × List MemPlace} (hcs : cs.length = Try.prog.cellsOf 34) (hf : DataW.trod enc Try.prog W 0 (fun _ => true) true m 34 cs = some y) : ∃ s, k34.K W s cs ∧ wf34 s := by
  replace hcs : cs.length = 6 := hcs.trans (by kernel_rfl)
  obtain ⟨c0, c1, c2, c3, c4, c5, rfl⟩ := list_6 cs hcs
  obtain ⟨m9, g9⟩ := leaf_field Try.underlying34 hf
  obtain ⟨ye9_0, e9_0⟩ := g9 0 _ rfl
  have ze9_0 : Try.prog.cellsOf 3 = 1 := by kernel_rfl
  replace e9_0 : DataW.trod enc Try.prog W 0 (fun _ => true) true m9 3 (([c0, c1, c2, c3, c4, c5].drop 0).take (Try.prog.cellsOf 3)) = some ye9_0 := e9_0
  rw [ze9_0] at e9_0
  replace e9_0 : DataW.trod enc Try.prog W 0 (fun _ => true) true m9 3 [c0] = some ye9_0 := e9_0
  obtain ⟨a9_0, q9_0, w9_0⟩ := leaf_int Try.underlying3 e9_0
  obtain ⟨ye9_1, e9_1⟩ := g9 1 _ rfl
  have ze9_1 : Try.prog.cellsOf 3 = 1 := by kernel_rfl
  replace e9_1 : DataW.trod enc Try.prog W 0 (fun _ => true) true m9 3 (([c0, c1, c2, c3, c4, c5].drop 1).take (Try.prog.cellsOf 3)) = some ye9_1 := e9_1
  rw [ze9_1] at e9_1
  replace e9_1 : DataW.trod enc Try.prog W 0 (fun _ => true) true m9 3 [c1] = some ye9_1 := e9_1
  obtain ⟨a9_1, q9_1, w9_1⟩ := leaf_int Try.underlying3 e9_1
  obtain ⟨ye9_2, e9_2⟩ := g9 2 _ rfl
  have ze9_2 : Try.prog.cellsOf 26 = 1 := by kernel_rfl
  replace e9_2 : DataW.trod enc Try.prog W 0 (fun _ => true) true m9 26 (([c0, c1, c2, c3, c4, c5].drop 2).take (Try.prog.cellsOf 26)) = some ye9_2 := e9_2
  rw [ze9_2] at e9_2
  replace e9_2 : DataW.trod enc Try.prog W 0 (fun _ => true) true m9 26 [c2] = some ye9_2 := e9_2
  obtain ⟨a9_2, q9_2, w9_2⟩ := leaf_int Try.underlying26 e9_2
  obtain ⟨ye9_3, e9_3⟩ := g9 3 _ rfl
  have ze9_3 : Try.prog.cellsOf 3 = 1 := by kernel_rfl
  replace e9_3 : DataW.trod enc Try.prog W 0 (fun _ => true) true m9 3 (([c0, c1, c2, c3, c4, c5].drop 3).take (Try.prog.cellsOf 3)) = some ye9_3 := e9_3
  rw [ze9_3] at e9_3
  replace e9_3 : DataW.trod enc Try.prog W 0 (fun _ => true) true m9 3 [c3] = some ye9_3 := e9_3
  obtain ⟨a9_3, q9_3, w9_3⟩ := leaf_int Try.underlying3 e9_3
  obtain ⟨ye9_4, e9_4⟩ := g9 4 _ rfl
  have ze9_4 : Try.prog.cellsOf 4 = 1 := by kernel_rfl
  replace e9_4 : DataW.trod enc Try.prog W 0 (fun _ => true) true m9 4 (([c0, c1, c2, c3, c4, c5].drop 4).take (Try.prog.cellsOf 4)) = some ye9_4 := e9_4
  rw [ze9_4] at e9_4
  replace e9_4 : DataW.trod enc Try.prog W 0 (fun _ => true) true m9 4 [c4] = some ye9_4 := e9_4
  obtain ⟨a9_4, q9_4⟩ := leaf_bool Try.underlying4 e9_4
  obtain ⟨ye9_5, e9_5⟩ := g9 5 _ rfl
  have ze9_5 : Try.prog.cellsOf 4 = 1 := by kernel_rfl
  replace e9_5 : DataW.trod enc Try.prog W 0 (fun _ => true) true m9 4 (([c0, c1, c2, c3, c4, c5].drop 5).take (Try.prog.cellsOf 4)) = some ye9_5 := e9_5
  rw [ze9_5] at e9_5
  replace e9_5 : DataW.trod enc Try.prog W 0 (fun _ => true) true m9 4 [c5] = some ye9_5 := e9_5
  obtain ⟨a9_5, q9_5⟩ := leaf_bool Try.underlying4 e9_5
  subst q9_0
  subst q9_1
  subst q9_2
  subst q9_3
  subst q9_4
  subst q9_5
  exact ⟨⟨a9_0, a9_1, a9_2, a9_3, a9_4, a9_5⟩, k34_mk W ⟨a9_0, a9_1, a9_2, a9_3, a9_4, a9_5⟩, ⟨w9_0, w9_1, w9_2, w9_3⟩⟩
set_option maxRecDepth 100000 in
set_option maxHeartbeats 4000000 in
theorem lifted (os : Os) (started : os.Started) (H : Type) (enc : TypeId × Value → H) :
    ReturnsInHanded {} Try.checked os 4 .any (Rows.hostEndsSpec.pre6 enc Try.prog Try.f4 Rows.hostEndsRow.domain false) (Rows.hostEndsSpec.post enc Try.prog Try.f4 false true false false) := by
  refine returnsInHanded_of_change_sized (C := Try.checked) own started (by kernel_rfl) Try.func4
    (ChangeSpec.witness6 (enc := enc) (C := Try.checked) false ⟨#[], #[.slice none 0 0, .int .i64 0, .agg #[.int .i64 0, .int .i64 0, .slice none 0 0, .int .i64 0]], []⟩ 8 (by kernel_rfl) (by kernel_rfl) (by kernel_rfl) (by kernel_rfl)) ?_
  intro W base args ds gs before hval0 hW hcnd hsz0 _
  have hval : ∀ (j : Nat) t v, Try.f4.params[j]? = some t → args[j]? = some v → Value.okWide Try.prog W .any base t v := hval0
  have hW' := hW
  obtain ⟨p, q, hA0, hV, rfl, hfz, hnd⟩ := hW
  have hA : DataW.TrodAll enc Try.prog W 0 (fun _ => true) true Try.f4.params.toList args.toList ds p := hA0
  rw [Try.params4] at hA hval
  obtain ⟨v0, vs0, d0, ds0, p0, q0, hargs, rfl, rfl, h0, r0⟩ := trodAll_cons hA
  obtain ⟨v1, vs1, d1, ds1, p1, q1, rfl, rfl, rfl, h1, r1⟩ := trodAll_cons r0
  obtain ⟨v2, vs2, d2, ds2, p2, q2, rfl, rfl, rfl, h2, r2⟩ := trodAll_cons r1
  obtain ⟨rfl, rfl, rfl⟩ := trodAll_nil r2
  obtain rfl : args = #[v0, v1, v2] := by cases args; simp_all
  obtain ⟨rfl, rfl⟩ := trodVars_none hV
  have k0 := h0
  have lt0 : ∀ x ∈ p0, x.block < W.heap.size := by obtain ⟨m, hm⟩ := k0; exact DataW.trod_lt m _ _ _ hm
  obtain ⟨fuel0, hf0⟩ := h0
  obtain ⟨aq0, lq0, cq0, rfl⟩ := okWide_slice Try.underlying22 (hval 0 22 v0 rfl rfl)
  replace hf0 : DataW.trod enc Try.prog W 0 (fun _ => true) true fuel0 22 [.slice aq0 lq0 cq0] = some _ := hf0
  obtain ⟨A0, c0, l0, eq0, hr0, hc0, hm0, w0⟩ := leaf_rows (d := k34) wf34 Try.underlying22 (by kernel_rfl) (fun m cs y hcs hy => open34 hcs hy) hf0
  obtain ⟨rfl, rfl, rfl⟩ : aq0 = A0 ∧ lq0 = l0.length ∧ cq0 = c0 := by injection eq0 with z0 z1 z2; exact ⟨z0, z1, z2⟩
  have k1 := h1
  have lt1 : ∀ x ∈ p1, x.block < W.heap.size := by obtain ⟨m, hm⟩ := k1; exact DataW.trod_lt m _ _ _ hm
  obtain ⟨a1, rfl, _, _, w1⟩ := open_int Try.underlying3 (hval 1 3 v1 rfl rfl) h1
  have k2 := h2
  have lt2 : ∀ x ∈ p2, x.block < W.heap.size := by obtain ⟨m, hm⟩ := k2; exact DataW.trod_lt m _ _ _ hm
  obtain ⟨fuel2, hf2⟩ := h2
  obtain ⟨cs2, rfl, hs2⟩ := okWide_struct Try.underlying25 (hval 2 25 v2 rfl rfl)
  obtain ⟨L2⟩ := cs2
  have hl2 : L2.length = 4 := hs2.trans (by kernel_rfl)
  obtain ⟨cell2_0, cell2_1, cell2_2, cell2_3, rfl⟩ := list_4 L2 hl2
  replace hf2 : DataW.trod enc Try.prog W 0 (fun _ => true) true fuel2 25 [cell2_0, cell2_1, cell2_2, cell2_3] = some _ := hf2
  obtain ⟨m2, g2⟩ := leaf_field Try.underlying25 hf2
  obtain ⟨ye2_0, e2_0⟩ := g2 0 _ rfl
  have ze2_0 : Try.prog.cellsOf 3 = 1 := by kernel_rfl
  replace e2_0 : DataW.trod enc Try.prog W 0 (fun _ => true) true m2 3 (([cell2_0, cell2_1, cell2_2, cell2_3].drop 0).take (Try.prog.cellsOf 3)) = some ye2_0 := e2_0
  rw [ze2_0] at e2_0
  replace e2_0 : DataW.trod enc Try.prog W 0 (fun _ => true) true m2 3 [cell2_0] = some ye2_0 := e2_0
  obtain ⟨a2_0, q2_0, w2_0⟩ := leaf_int Try.underlying3 e2_0
  obtain ⟨ye2_1, e2_1⟩ := g2 1 _ rfl
  have ze2_1 : Try.prog.cellsOf 3 = 1 := by kernel_rfl
  replace e2_1 : DataW.trod enc Try.prog W 0 (fun _ => true) true m2 3 (([cell2_0, cell2_1, cell2_2, cell2_3].drop 1).take (Try.prog.cellsOf 3)) = some ye2_1 := e2_1
  rw [ze2_1] at e2_1
  replace e2_1 : DataW.trod enc Try.prog W 0 (fun _ => true) true m2 3 [cell2_1] = some ye2_1 := e2_1
  obtain ⟨a2_1, q2_1, w2_1⟩ := leaf_int Try.underlying3 e2_1
  obtain ⟨ye2_2, e2_2⟩ := g2 2 _ rfl
  have ze2_2 : Try.prog.cellsOf 23 = 1 := by kernel_rfl
  replace e2_2 : DataW.trod enc Try.prog W 0 (fun _ => true) true m2 23 (([cell2_0, cell2_1, cell2_2, cell2_3].drop 2).take (Try.prog.cellsOf 23)) = some ye2_2 := e2_2
  rw [ze2_2] at e2_2
  replace e2_2 : DataW.trod enc Try.prog W 0 (fun _ => true) true m2 23 [cell2_2] = some ye2_2 := e2_2
  obtain ⟨A2_2, c2_2, l2_2, q2_2, hr2_2, hc2_2, hm2_2, w2_2⟩ := leaf_ints Try.underlying23 Try.underlying5 (by kernel_rfl) e2_2
  obtain ⟨ye2_3, e2_3⟩ := g2 3 _ rfl
  have ze2_3 : Try.prog.cellsOf 3 = 1 := by kernel_rfl
  replace e2_3 : DataW.trod enc Try.prog W 0 (fun _ => true) true m2 3 (([cell2_0, cell2_1, cell2_2, cell2_3].drop 3).take (Try.prog.cellsOf 3)) = some ye2_3 := e2_3
  rw [ze2_3] at e2_3
  replace e2_3 : DataW.trod enc Try.prog W 0 (fun _ => true) true m2 3 [cell2_3] = some ye2_3 := e2_3
  obtain ⟨a2_3, q2_3, w2_3⟩ := leaf_int Try.underlying3 e2_3
  subst q2_0
  subst q2_1
  subst q2_2
  subst q2_3
  clear hA0 hval0 hsz0
  obtain ⟨k, h⟩ := Pure.HostEnds l0 a1 a2_0 a2_1 l2_2 a2_3 hm0 w0 w1 w2_0 w2_1 hm2_2 w2_2 w2_3
  refine (drawbridgelaw27_HostEnds.calls k _ _ l0 a1 a2_0 a2_1 _ _ l2_2 a2_3 true W hr0 hc0 hr2_2 hc2_2 h rfl).mono fun e W' ⟨he, hd⟩ => ?_
  subst he
  have bel : Below W.heap.size W W' := hd
  exact ⟨_, rfl, _, _, _, [], _, [], hW', trodAll_mk1 (shut_bool Try.underlying4 _), (trodAll_cons_mk (Below.trod laidOut (by kernel_rfl) (of_decide_eq_true (by kernel_rfl)) k0 bel lt0) (trodAll_cons_mk (Below.trod laidOut (by kernel_rfl) (of_decide_eq_true (by kernel_rfl)) k1 bel lt1) (trodAll_cons_mk (Below.trod laidOut (by kernel_rfl) (of_decide_eq_true (by kernel_rfl)) k2 bel lt2) trodAll_mk0))), rfl, bel.frame _, fun h => by cases h⟩
theorem over : Rows.hostEndsRow.holds Try.pinned (OpenSpec.ofChange Rows.hostEndsSpec) :=
  OpenClaim.holds_of_wide 4 Try.f4 rfl rfl rfl rfl rfl rfl rfl ⟨rfl, rfl, rfl, rfl, rfl⟩ rfl rfl rfl rfl rfl (by kernel_rfl) Try.func4 (by kernel_rfl)
    (of_decide_eq_true (by kernel_rfl)) (by unfold Func.isWrapper; first | (rw [if_pos (by decide +kernel)]; kernel_rfl) | (rw [if_neg (by decide +kernel)]; exact ⟨rfl, rfl⟩))
    (fun os started H enc _ => lifted os started H enc)
theorem proved : Rows.HostEndsSaid := over
#print axioms proved
end Go.Proofs.Ytijdplpmcnhlbaa.hostEnds
namespace Go.Proofs.Ytijdplpmcnhlbaa
/-- The row, under a short name, for the claim. -/
theorem hostEnds_holds : Rows.HostEndsSaid := hostEnds.proved
end Go.Proofs.Ytijdplpmcnhlbaa
