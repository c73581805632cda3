import Derived.Test.YtijdplpmcnhlbaaRows
import Derived.Test.YtijdplpmcnhlbaaHSaidHostDoes
import Derived.Test.YtijdplpmcnhlbaaHPureHostDoes
import Derived.Test.YtijdplpmcnhlbaaHZ1
import Derived.WalkKit
import Derived.ProofKit
import Derived.OpenShut
import Derived.ShutString
import Derived.ChangeOld
import Derived.Below
import Derived.SizedLaws
-- Ytijdplpmcnhlbaa: written by a program for this claim
namespace Go.Proofs.Ytijdplpmcnhlbaa.hostDoes
open Go.RowKit Go.Proofs.Ytijdplpmcnhlbaa.Q Go.Proofs.YtijdplpmcnhlbaaW.PrintWords Go.Proofs.YtijdplpmcnhlbaaW.PrintLast Go.Proofs.YtijdplpmcnhlbaaW.PrintMore Go.Proofs.Ytijdplpmcnhlbaa.L Go.Proofs.Ytijdplpmcnhlbaa.Pure
open Go.ChangeShapes Go.WideShapes Go.ChangeAt
set_option linter.unusedVariables false
theorem own : ownKnob Try.prog.godebug = none := by kernel_rfl
theorem laidOut : laidOutB Try.prog = true := by kernel_rfl
theorem list_4 (L : List Value) (h : L.length = 4) : ∃ c0 c1 c2 c3, L = [c0, c1, c2, c3] := by
  match L, h with
  | [c0, c1, c2, c3], _ => exact ⟨c0, c1, c2, c3, rfl⟩
theorem list_6 (L : List Value) (h : L.length = 6) : ∃ c0 c1 c2 c3 c4 c5, L = [c0, c1, c2, c3, c4, c5] := by
  match L, h with
  | [c0, c1, c2, c3, c4, c5], _ => exact ⟨c0, c1, c2, c3, c4, c5, rfl⟩
abbrev wf34 := HostDoes.wf34
theorem open34 {H : Type} {enc : TypeId × Value → H} {W : World} {m : Nat} {cs : List Value} {y : DataW H × List MemPlace} (hcs : cs.length = Try.prog.cellsOf 34) (hf : DataW.trod enc Try.prog W 0 (fun _ => true) true m 34 cs = some y) : ∃ s, k34.K W s cs ∧ wf34 s := by
  replace hcs : cs.length = 6 := hcs.trans (by kernel_rfl)
  obtain ⟨c0, c1, c2, c3, c4, c5, rfl⟩ := list_6 cs hcs
  obtain ⟨m9, g9⟩ := leaf_field Try.underlying34 hf
  obtain ⟨ye9_0, e9_0⟩ := g9 0 _ rfl
  have ze9_0 : Try.prog.cellsOf 3 = 1 := by kernel_rfl
  replace e9_0 : DataW.trod enc Try.prog W 0 (fun _ => true) true m9 3 (([c0, c1, c2, c3, c4, c5].drop 0).take (Try.prog.cellsOf 3)) = some ye9_0 := e9_0
  rw [ze9_0] at e9_0
  replace e9_0 : DataW.trod enc Try.prog W 0 (fun _ => true) true m9 3 [c0] = some ye9_0 := e9_0
  obtain ⟨a9_0, q9_0, w9_0⟩ := leaf_int Try.underlying3 e9_0
  obtain ⟨ye9_1, e9_1⟩ := g9 1 _ rfl
  have ze9_1 : Try.prog.cellsOf 3 = 1 := by kernel_rfl
  replace e9_1 : DataW.trod enc Try.prog W 0 (fun _ => true) true m9 3 (([c0, c1, c2, c3, c4, c5].drop 1).take (Try.prog.cellsOf 3)) = some ye9_1 := e9_1
  rw [ze9_1] at e9_1
  replace e9_1 : DataW.trod enc Try.prog W 0 (fun _ => true) true m9 3 [c1] = some ye9_1 := e9_1
  obtain ⟨a9_1, q9_1, w9_1⟩ := leaf_int Try.underlying3 e9_1
  obtain ⟨ye9_2, e9_2⟩ := g9 2 _ rfl
  have ze9_2 : Try.prog.cellsOf 26 = 1 := by kernel_rfl
  replace e9_2 : DataW.trod enc Try.prog W 0 (fun _ => true) true m9 26 (([c0, c1, c2, c3, c4, c5].drop 2).take (Try.prog.cellsOf 26)) = some ye9_2 := e9_2
  rw [ze9_2] at e9_2
  replace e9_2 : DataW.trod enc Try.prog W 0 (fun _ => true) true m9 26 [c2] = some ye9_2 := e9_2
  obtain ⟨a9_2, q9_2, w9_2⟩ := leaf_int Try.underlying26 e9_2
  obtain ⟨ye9_3, e9_3⟩ := g9 3 _ rfl
  have ze9_3 : Try.prog.cellsOf 3 = 1 := by kernel_rfl
  replace e9_3 : DataW.trod enc Try.prog W 0 (fun _ => true) true m9 3 (([c0, c1, c2, c3, c4, c5].drop 3).take (Try.prog.cellsOf 3)) = some ye9_3 := e9_3
  rw [ze9_3] at e9_3
  replace e9_3 : DataW.trod enc Try.prog W 0 (fun _ => true) true m9 3 [c3] = some ye9_3 := e9_3
  obtain ⟨a9_3, q9_3, w9_3⟩ := leaf_int Try.underlying3 e9_3
  obtain ⟨ye9_4, e9_4⟩ := g9 4 _ rfl
  have ze9_4 : Try.prog.cellsOf 4 = 1 := by kernel_rfl
  replace e9_4 : DataW.trod enc Try.prog W 0 (fun _ => true) true m9 4 (([c0, c1, c2, c3, c4, c5].drop 4).take (Try.prog.cellsOf 4)) = some ye9_4 := e9_4
  rw [ze9_4] at e9_4
  replace e9_4 : DataW.trod enc Try.prog W 0 (fun _ => true) true m9 4 [c4] = some ye9_4 := e9_4
  obtain ⟨a9_4, q9_4⟩ := leaf_bool Try.underlying4 e9_4
  obtain ⟨ye9_5, e9_5⟩ := g9 5 _ rfl
  have ze9_5 : Try.prog.cellsOf 4 = 1 := by kernel_rfl
  replace e9_5 : DataW.trod enc Try.prog W 0 (fun _ => true) true m9 4 (([c0, c1, c2, c3, c4, c5].drop 5).take (Try.prog.cellsOf 4)) = some ye9_5 := e9_5
  rw [ze9_5] at e9_5
  replace e9_5 : DataW.trod enc Try.prog W 0 (fun _ => true) true m9 4 [c5] = some ye9_5 := e9_5
  obtain ⟨a9_5, q9_5⟩ := leaf_bool Try.underlying4 e9_5
  subst q9_0
  subst q9_1
  subst q9_2
  subst q9_3
  subst q9_4
  subst q9_5
  exact ⟨⟨a9_0, a9_1, a9_2, a9_3, a9_4, a9_5⟩, k34_mk W ⟨a9_0, a9_1, a9_2, a9_3, a9_4, a9_5⟩, ⟨w9_0, w9_1, w9_2, w9_3⟩⟩
set_option maxRecDepth 100000 in
set_option maxHeartbeats 4000000 in
theorem lifted (os : Os) (started : os.Started) (H : Type) (enc : TypeId × Value → H) :
    ReturnsInHanded {} Try.checked os 3 .any (Rows.hostDoesSpec.pre6 enc Try.prog Try.f3 Rows.hostDoesRow.domain false) (Rows.hostDoesSpec.post enc Try.prog Try.f3 false true false false) := by
  refine returnsInHanded_of_change_sized (C := Try.checked) own started (by kernel_rfl) Try.func3
    (ChangeSpec.witness6 (enc := enc) (C := Try.checked) false ⟨#[], #[.slice none 0 0, .agg #[.int .i64 0, .int .i64 0, .slice none 0 0, .int .i64 0], .int .u32 0, .int .i64 0], []⟩ 8 (by kernel_rfl) (by kernel_rfl) (by kernel_rfl) (by kernel_rfl)) ?_
  intro W base args ds gs before hval0 hW hcnd hsz0 _
  have hval : ∀ (j : Nat) t v, Try.f3.params[j]? = some t → args[j]? = some v → Value.okWide Try.prog W .any base t v := hval0
  have hW' := hW
  obtain ⟨p, q, hA0, hV, rfl, hfz, hnd⟩ := hW
  have hA : DataW.TrodAll enc Try.prog W 0 (fun _ => true) true Try.f3.params.toList args.toList ds p := hA0
  rw [Try.params3] at hA hval
  obtain ⟨v0, vs0, d0, ds0, p0, q0, hargs, rfl, rfl, h0, r0⟩ := trodAll_cons hA
  obtain ⟨v1, vs1, d1, ds1, p1, q1, rfl, rfl, rfl, h1, r1⟩ := trodAll_cons r0
  obtain ⟨v2, vs2, d2, ds2, p2, q2, rfl, rfl, rfl, h2, r2⟩ := trodAll_cons r1
  obtain ⟨v3, vs3, d3, ds3, p3, q3, rfl, rfl, rfl, h3, r3⟩ := trodAll_cons r2
  obtain ⟨rfl, rfl, rfl⟩ := trodAll_nil r3
  obtain rfl : args = #[v0, v1, v2, v3] := by cases args; simp_all
  obtain ⟨rfl, rfl⟩ := trodVars_none hV
  have k0 := h0
  have lt0 : ∀ x ∈ p0, x.block < W.heap.size := by obtain ⟨m, hm⟩ := k0; exact DataW.trod_lt m _ _ _ hm
  obtain ⟨fuel0, hf0⟩ := h0
  obtain ⟨aq0, lq0, cq0, rfl⟩ := okWide_slice Try.underlying22 (hval 0 22 v0 rfl rfl)
  replace hf0 : DataW.trod enc Try.prog W 0 (fun _ => true) true fuel0 22 [.slice aq0 lq0 cq0] = some _ := hf0
  obtain ⟨A0, c0, l0, eq0, hr0, hc0, hm0, w0⟩ := leaf_rows (d := k34) wf34 Try.underlying22 (by kernel_rfl) (fun m cs y hcs hy => open34 hcs hy) hf0
  obtain ⟨rfl, rfl, rfl⟩ : aq0 = A0 ∧ lq0 = l0.length ∧ cq0 = c0 := by injection eq0 with z0 z1 z2; exact ⟨z0, z1, z2⟩
  have k1 := h1
  have lt1 : ∀ x ∈ p1, x.block < W.heap.size := by obtain ⟨m, hm⟩ := k1; exact DataW.trod_lt m _ _ _ hm
  obtain ⟨fuel1, hf1⟩ := h1
  obtain ⟨cs1, rfl, hs1⟩ := okWide_struct Try.underlying25 (hval 1 25 v1 rfl rfl)
  obtain ⟨L1⟩ := cs1
  have hl1 : L1.length = 4 := hs1.trans (by kernel_rfl)
  obtain ⟨cell1_0, cell1_1, cell1_2, cell1_3, rfl⟩ := list_4 L1 hl1
  replace hf1 : DataW.trod enc Try.prog W 0 (fun _ => true) true fuel1 25 [cell1_0, cell1_1, cell1_2, cell1_3] = some _ := hf1
  obtain ⟨m1, g1⟩ := leaf_field Try.underlying25 hf1
  obtain ⟨ye1_0, e1_0⟩ := g1 0 _ rfl
  have ze1_0 : Try.prog.cellsOf 3 = 1 := by kernel_rfl
  replace e1_0 : DataW.trod enc Try.prog W 0 (fun _ => true) true m1 3 (([cell1_0, cell1_1, cell1_2, cell1_3].drop 0).take (Try.prog.cellsOf 3)) = some ye1_0 := e1_0
  rw [ze1_0] at e1_0
  replace e1_0 : DataW.trod enc Try.prog W 0 (fun _ => true) true m1 3 [cell1_0] = some ye1_0 := e1_0
  obtain ⟨a1_0, q1_0, w1_0⟩ := leaf_int Try.underlying3 e1_0
  obtain ⟨ye1_1, e1_1⟩ := g1 1 _ rfl
  have ze1_1 : Try.prog.cellsOf 3 = 1 := by kernel_rfl
  replace e1_1 : DataW.trod enc Try.prog W 0 (fun _ => true) true m1 3 (([cell1_0, cell1_1, cell1_2, cell1_3].drop 1).take (Try.prog.cellsOf 3)) = some ye1_1 := e1_1
  rw [ze1_1] at e1_1
  replace e1_1 : DataW.trod enc Try.prog W 0 (fun _ => true) true m1 3 [cell1_1] = some ye1_1 := e1_1
  obtain ⟨a1_1, q1_1, w1_1⟩ := leaf_int Try.underlying3 e1_1
  obtain ⟨ye1_2, e1_2⟩ := g1 2 _ rfl
  have ze1_2 : Try.prog.cellsOf 23 = 1 := by kernel_rfl
  replace e1_2 : DataW.trod enc Try.prog W 0 (fun _ => true) true m1 23 (([cell1_0, cell1_1, cell1_2, cell1_3].drop 2).take (Try.prog.cellsOf 23)) = some ye1_2 := e1_2
  rw [ze1_2] at e1_2
  replace e1_2 : DataW.trod enc Try.prog W 0 (fun _ => true) true m1 23 [cell1_2] = some ye1_2 := e1_2
  obtain ⟨A1_2, c1_2, l1_2, q1_2, hr1_2, hc1_2, hm1_2, w1_2⟩ := leaf_ints Try.underlying23 Try.underlying5 (by kernel_rfl) e1_2
  obtain ⟨ye1_3, e1_3⟩ := g1 3 _ rfl
  have ze1_3 : Try.prog.cellsOf 3 = 1 := by kernel_rfl
  replace e1_3 : DataW.trod enc Try.prog W 0 (fun _ => true) true m1 3 (([cell1_0, cell1_1, cell1_2, cell1_3].drop 3).take (Try.prog.cellsOf 3)) = some ye1_3 := e1_3
  rw [ze1_3] at e1_3
  replace e1_3 : DataW.trod enc Try.prog W 0 (fun _ => true) true m1 3 [cell1_3] = some ye1_3 := e1_3
  obtain ⟨a1_3, q1_3, w1_3⟩ := leaf_int Try.underlying3 e1_3
  subst q1_0
  subst q1_1
  subst q1_2
  subst q1_3
  have k2 := h2
  have lt2 : ∀ x ∈ p2, x.block < W.heap.size := by obtain ⟨m, hm⟩ := k2; exact DataW.trod_lt m _ _ _ hm
  obtain ⟨a2, rfl, _, _, w2⟩ := open_int Try.underlying26 (hval 2 26 v2 rfl rfl) h2
  have k3 := h3
  have lt3 : ∀ x ∈ p3, x.block < W.heap.size := by obtain ⟨m, hm⟩ := k3; exact DataW.trod_lt m _ _ _ hm
  obtain ⟨a3, rfl, _, _, w3⟩ := open_int Try.underlying3 (hval 3 3 v3 rfl rfl) h3
  clear hA0 hval0 hsz0
  have h := Pure.HostDoes l0 a1_0 a1_1 l1_2 a1_3 a2 a3 hm0 w0 w1_0 w1_1 hm1_2 w1_2 w1_3 w2 w3
  refine (drawbridgelaw27_HostDoes.calls _ _ l0 a1_0 a1_1 _ _ l1_2 a1_3 a2 a3 true W hr0 hc0 hr1_2 hc1_2 h).mono fun e W' ⟨he, hd⟩ => ?_
  subst he
  have bel : Below W.heap.size W W' := hd
  exact ⟨_, rfl, _, _, _, [], _, [], hW', trodAll_mk1 (shut_bool Try.underlying4 _), (trodAll_cons_mk (Below.trod laidOut (by kernel_rfl) (of_decide_eq_true (by kernel_rfl)) k0 bel lt0) (trodAll_cons_mk (Below.trod laidOut (by kernel_rfl) (of_decide_eq_true (by kernel_rfl)) k1 bel lt1) (trodAll_cons_mk (Below.trod laidOut (by kernel_rfl) (of_decide_eq_true (by kernel_rfl)) k2 bel lt2) (trodAll_cons_mk (Below.trod laidOut (by kernel_rfl) (of_decide_eq_true (by kernel_rfl)) k3 bel lt3) trodAll_mk0)))), rfl, bel.frame _, fun h => by cases h⟩
theorem over : Rows.hostDoesRow.holds Try.pinned (OpenSpec.ofChange Rows.hostDoesSpec) :=
  OpenClaim.holds_of_wide 3 Try.f3 rfl rfl rfl rfl rfl rfl rfl ⟨rfl, rfl, rfl, rfl, rfl⟩ rfl rfl rfl rfl rfl (by kernel_rfl) Try.func3 (by kernel_rfl)
    (of_decide_eq_true (by kernel_rfl)) (by unfold Func.isWrapper; first | (rw [if_pos (by decide +kernel)]; kernel_rfl) | (rw [if_neg (by decide +kernel)]; exact ⟨rfl, rfl⟩))
    (fun os started H enc _ => lifted os started H enc)
theorem proved : Rows.HostDoesSaid := over
#print axioms proved
end Go.Proofs.Ytijdplpmcnhlbaa.hostDoes
namespace Go.Proofs.Ytijdplpmcnhlbaa
/-- The row, under a short name, for the claim. -/
theorem hostDoes_holds : Rows.HostDoesSaid := hostDoes.proved
end Go.Proofs.Ytijdplpmcnhlbaa
