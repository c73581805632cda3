import Derived.Test.YtnjgejjijboibaaRows
import Derived.Test.YtnjgejjijboibaaPZ8
import Derived.WalkKit
import Derived.ProofKit
import Derived.OpenShut
import Derived.ShutString
import Derived.ChangeOld
import Derived.Below
import Derived.SizedLaws
-- Ytnjgejjijboibaa: written by a program for this claim
namespace Go.Proofs.Ytnjgejjijboibaa.natOnce
open Go.RowKit Go.Proofs.Ytnjgejjijboibaa.Q Go.Proofs.YtnjgejjijboibaaW.PrintWords Go.Proofs.YtnjgejjijboibaaW.PrintLast Go.Proofs.YtnjgejjijboibaaW.PrintMore Go.Proofs.Ytnjgejjijboibaa.L Go.Proofs.Ytnjgejjijboibaa.Pure
open Go.ChangeShapes Go.WideShapes Go.ChangeAt
set_option linter.unusedVariables false
theorem own : ownKnob Try.prog.godebug = none := by kernel_rfl
theorem laidOut : laidOutB Try.prog = true := by kernel_rfl
theorem list_2 (L : List Value) (h : L.length = 2) : ∃ c0 c1, L = [c0, c1] := by
  match L, h with
  | [c0, c1], _ => exact ⟨c0, c1, rfl⟩
theorem list_4 (L : List Value) (h : L.length = 4) : ∃ c0 c1 c2 c3, L = [c0, c1, c2, c3] := by
  match L, h with
  | [c0, c1, c2, c3], _ => exact ⟨c0, c1, c2, c3, rfl⟩
theorem list_5 (L : List Value) (h : L.length = 5) : ∃ c0 c1 c2 c3 c4, L = [c0, c1, c2, c3, c4] := by
  match L, h with
  | [c0, c1, c2, c3, c4], _ => exact ⟨c0, c1, c2, c3, c4, rfl⟩
abbrev wf39 := NatOnce.wf39
theorem open39 {H : Type} {enc : TypeId × Value → H} {W : World} {m : Nat} {cs : List Value} {y : DataW H × List MemPlace} (hcs : cs.length = Try.prog.cellsOf 39) (hf : DataW.trod enc Try.prog W 0 (fun _ => true) true m 39 cs = some y) : ∃ s, k39.K W s cs ∧ wf39 s := by
  replace hcs : cs.length = 4 := hcs.trans (by kernel_rfl)
  obtain ⟨c0, c1, c2, c3, rfl⟩ := list_4 cs hcs
  obtain ⟨m9, g9⟩ := leaf_field Try.underlying39 hf
  obtain ⟨ye9_0, e9_0⟩ := g9 0 _ rfl
  have ze9_0 : Try.prog.cellsOf 3 = 1 := by kernel_rfl
  replace e9_0 : DataW.trod enc Try.prog W 0 (fun _ => true) true m9 3 (([c0, c1, c2, c3].drop 0).take (Try.prog.cellsOf 3)) = some ye9_0 := e9_0
  rw [ze9_0] at e9_0
  replace e9_0 : DataW.trod enc Try.prog W 0 (fun _ => true) true m9 3 [c0] = some ye9_0 := e9_0
  obtain ⟨a9_0, q9_0, w9_0⟩ := leaf_int Try.underlying3 e9_0
  obtain ⟨ye9_1, e9_1⟩ := g9 1 _ rfl
  have ze9_1 : Try.prog.cellsOf 3 = 1 := by kernel_rfl
  replace e9_1 : DataW.trod enc Try.prog W 0 (fun _ => true) true m9 3 (([c0, c1, c2, c3].drop 1).take (Try.prog.cellsOf 3)) = some ye9_1 := e9_1
  rw [ze9_1] at e9_1
  replace e9_1 : DataW.trod enc Try.prog W 0 (fun _ => true) true m9 3 [c1] = some ye9_1 := e9_1
  obtain ⟨a9_1, q9_1, w9_1⟩ := leaf_int Try.underlying3 e9_1
  obtain ⟨ye9_2, e9_2⟩ := g9 2 _ rfl
  have ze9_2 : Try.prog.cellsOf 3 = 1 := by kernel_rfl
  replace e9_2 : DataW.trod enc Try.prog W 0 (fun _ => true) true m9 3 (([c0, c1, c2, c3].drop 2).take (Try.prog.cellsOf 3)) = some ye9_2 := e9_2
  rw [ze9_2] at e9_2
  replace e9_2 : DataW.trod enc Try.prog W 0 (fun _ => true) true m9 3 [c2] = some ye9_2 := e9_2
  obtain ⟨a9_2, q9_2, w9_2⟩ := leaf_int Try.underlying3 e9_2
  obtain ⟨ye9_3, e9_3⟩ := g9 3 _ rfl
  have ze9_3 : Try.prog.cellsOf 3 = 1 := by kernel_rfl
  replace e9_3 : DataW.trod enc Try.prog W 0 (fun _ => true) true m9 3 (([c0, c1, c2, c3].drop 3).take (Try.prog.cellsOf 3)) = some ye9_3 := e9_3
  rw [ze9_3] at e9_3
  replace e9_3 : DataW.trod enc Try.prog W 0 (fun _ => true) true m9 3 [c3] = some ye9_3 := e9_3
  obtain ⟨a9_3, q9_3, w9_3⟩ := leaf_int Try.underlying3 e9_3
  subst q9_0
  subst q9_1
  subst q9_2
  subst q9_3
  exact ⟨⟨a9_0, a9_1, a9_2, a9_3⟩, k39_mk W ⟨a9_0, a9_1, a9_2, a9_3⟩, ⟨w9_0, w9_1, w9_2, w9_3⟩⟩
abbrev wf48 := NatOnce.wf48
theorem open48 {H : Type} {enc : TypeId × Value → H} {W : World} {m : Nat} {cs : List Value} {y : DataW H × List MemPlace} (hcs : cs.length = Try.prog.cellsOf 48) (hf : DataW.trod enc Try.prog W 0 (fun _ => true) true m 48 cs = some y) : ∃ s, k48.K W s cs ∧ wf48 s := by
  replace hcs : cs.length = 5 := hcs.trans (by kernel_rfl)
  obtain ⟨c0, c1, c2, c3, c4, rfl⟩ := list_5 cs hcs
  obtain ⟨m9, g9⟩ := leaf_field Try.underlying48 hf
  obtain ⟨ye9_0, e9_0⟩ := g9 0 _ rfl
  have ze9_0 : Try.prog.cellsOf 3 = 1 := by kernel_rfl
  replace e9_0 : DataW.trod enc Try.prog W 0 (fun _ => true) true m9 3 (([c0, c1, c2, c3, c4].drop 0).take (Try.prog.cellsOf 3)) = some ye9_0 := e9_0
  rw [ze9_0] at e9_0
  replace e9_0 : DataW.trod enc Try.prog W 0 (fun _ => true) true m9 3 [c0] = some ye9_0 := e9_0
  obtain ⟨a9_0, q9_0, w9_0⟩ := leaf_int Try.underlying3 e9_0
  obtain ⟨ye9_1, e9_1⟩ := g9 1 _ rfl
  have ze9_1 : Try.prog.cellsOf 3 = 1 := by kernel_rfl
  replace e9_1 : DataW.trod enc Try.prog W 0 (fun _ => true) true m9 3 (([c0, c1, c2, c3, c4].drop 1).take (Try.prog.cellsOf 3)) = some ye9_1 := e9_1
  rw [ze9_1] at e9_1
  replace e9_1 : DataW.trod enc Try.prog W 0 (fun _ => true) true m9 3 [c1] = some ye9_1 := e9_1
  obtain ⟨a9_1, q9_1, w9_1⟩ := leaf_int Try.underlying3 e9_1
  obtain ⟨ye9_2, e9_2⟩ := g9 2 _ rfl
  have ze9_2 : Try.prog.cellsOf 22 = 1 := by kernel_rfl
  replace e9_2 : DataW.trod enc Try.prog W 0 (fun _ => true) true m9 22 (([c0, c1, c2, c3, c4].drop 2).take (Try.prog.cellsOf 22)) = some ye9_2 := e9_2
  rw [ze9_2] at e9_2
  replace e9_2 : DataW.trod enc Try.prog W 0 (fun _ => true) true m9 22 [c2] = some ye9_2 := e9_2
  obtain ⟨a9_2, q9_2, w9_2⟩ := leaf_int Try.underlying22 e9_2
  obtain ⟨ye9_3, e9_3⟩ := g9 3 _ rfl
  have ze9_3 : Try.prog.cellsOf 3 = 1 := by kernel_rfl
  replace e9_3 : DataW.trod enc Try.prog W 0 (fun _ => true) true m9 3 (([c0, c1, c2, c3, c4].drop 3).take (Try.prog.cellsOf 3)) = some ye9_3 := e9_3
  rw [ze9_3] at e9_3
  replace e9_3 : DataW.trod enc Try.prog W 0 (fun _ => true) true m9 3 [c3] = some ye9_3 := e9_3
  obtain ⟨a9_3, q9_3, w9_3⟩ := leaf_int Try.underlying3 e9_3
  obtain ⟨ye9_4, e9_4⟩ := g9 4 _ rfl
  have ze9_4 : Try.prog.cellsOf 3 = 1 := by kernel_rfl
  replace e9_4 : DataW.trod enc Try.prog W 0 (fun _ => true) true m9 3 (([c0, c1, c2, c3, c4].drop 4).take (Try.prog.cellsOf 3)) = some ye9_4 := e9_4
  rw [ze9_4] at e9_4
  replace e9_4 : DataW.trod enc Try.prog W 0 (fun _ => true) true m9 3 [c4] = some ye9_4 := e9_4
  obtain ⟨a9_4, q9_4, w9_4⟩ := leaf_int Try.underlying3 e9_4
  subst q9_0
  subst q9_1
  subst q9_2
  subst q9_3
  subst q9_4
  exact ⟨⟨a9_0, a9_1, a9_2, a9_3, a9_4⟩, k48_mk W ⟨a9_0, a9_1, a9_2, a9_3, a9_4⟩, ⟨w9_0, w9_1, w9_2, w9_3, w9_4⟩⟩
set_option maxRecDepth 100000 in
set_option maxHeartbeats 4000000 in
theorem lifted (os : Os) (started : os.Started) (H : Type) (enc : TypeId × Value → H) :
    ReturnsInHanded {} Try.checked os 5 .any (Rows.natOnceSpec.pre6 enc Try.prog Try.f5 Rows.natOnceRow.domain false) (Rows.natOnceSpec.post enc Try.prog Try.f5 false true false false) := by
  refine returnsInHanded_of_change_sized (C := Try.checked) own started (by kernel_rfl) Try.func5
    (ChangeSpec.witness6 (enc := enc) (C := Try.checked) false ⟨#[], #[.agg #[.slice none 0 0, .slice none 0 0], .int .i64 0, .int .i64 0, .int .i64 0, .int .i64 0], []⟩ 8 (by kernel_rfl) (by kernel_rfl) (by kernel_rfl) (by kernel_rfl)) ?_
  intro W base args ds gs before hval0 hW hcnd hsz0 _
  have hval : ∀ (j : Nat) t v, Try.f5.params[j]? = some t → args[j]? = some v → Value.okWide Try.prog W .any base t v := hval0
  have hW' := hW
  obtain ⟨p, q, hA0, hV, rfl, hfz, hnd⟩ := hW
  have hA : DataW.TrodAll enc Try.prog W 0 (fun _ => true) true Try.f5.params.toList args.toList ds p := hA0
  rw [Try.params5] at hA hval
  obtain ⟨v0, vs0, d0, ds0, p0, q0, hargs, rfl, rfl, h0, r0⟩ := trodAll_cons hA
  obtain ⟨v1, vs1, d1, ds1, p1, q1, rfl, rfl, rfl, h1, r1⟩ := trodAll_cons r0
  obtain ⟨v2, vs2, d2, ds2, p2, q2, rfl, rfl, rfl, h2, r2⟩ := trodAll_cons r1
  obtain ⟨v3, vs3, d3, ds3, p3, q3, rfl, rfl, rfl, h3, r3⟩ := trodAll_cons r2
  obtain ⟨v4, vs4, d4, ds4, p4, q4, rfl, rfl, rfl, h4, r4⟩ := trodAll_cons r3
  obtain ⟨rfl, rfl, rfl⟩ := trodAll_nil r4
  obtain rfl : args = #[v0, v1, v2, v3, v4] := by cases args; simp_all
  obtain ⟨rfl, rfl⟩ := trodVars_none hV
  have k0 := h0
  have lt0 : ∀ x ∈ p0, x.block < W.heap.size := by obtain ⟨m, hm⟩ := k0; exact DataW.trod_lt m _ _ _ hm
  obtain ⟨fuel0, hf0⟩ := h0
  obtain ⟨cs0, rfl, hs0⟩ := okWide_struct Try.underlying27 (hval 0 27 v0 rfl rfl)
  obtain ⟨L0⟩ := cs0
  have hl0 : L0.length = 2 := hs0.trans (by kernel_rfl)
  obtain ⟨cell0_0, cell0_1, rfl⟩ := list_2 L0 hl0
  replace hf0 : DataW.trod enc Try.prog W 0 (fun _ => true) true fuel0 27 [cell0_0, cell0_1] = some _ := hf0
  obtain ⟨m0, g0⟩ := leaf_field Try.underlying27 hf0
  obtain ⟨ye0_0, e0_0⟩ := g0 0 _ rfl
  have ze0_0 : Try.prog.cellsOf 24 = 1 := by kernel_rfl
  replace e0_0 : DataW.trod enc Try.prog W 0 (fun _ => true) true m0 24 (([cell0_0, cell0_1].drop 0).take (Try.prog.cellsOf 24)) = some ye0_0 := e0_0
  rw [ze0_0] at e0_0
  replace e0_0 : DataW.trod enc Try.prog W 0 (fun _ => true) true m0 24 [cell0_0] = some ye0_0 := e0_0
  obtain ⟨A0_0, c0_0, l0_0, q0_0, hr0_0, hc0_0, hm0_0, w0_0⟩ := leaf_rows (d := k48) wf48 Try.underlying24 (by kernel_rfl) (fun m cs y hcs hy => open48 hcs hy) e0_0
  obtain ⟨ye0_1, e0_1⟩ := g0 1 _ rfl
  have ze0_1 : Try.prog.cellsOf 25 = 1 := by kernel_rfl
  replace e0_1 : DataW.trod enc Try.prog W 0 (fun _ => true) true m0 25 (([cell0_0, cell0_1].drop 1).take (Try.prog.cellsOf 25)) = some ye0_1 := e0_1
  rw [ze0_1] at e0_1
  replace e0_1 : DataW.trod enc Try.prog W 0 (fun _ => true) true m0 25 [cell0_1] = some ye0_1 := e0_1
  obtain ⟨A0_1, c0_1, l0_1, q0_1, hr0_1, hc0_1, hm0_1, w0_1⟩ := leaf_rows (d := k39) wf39 Try.underlying25 (by kernel_rfl) (fun m cs y hcs hy => open39 hcs hy) e0_1
  subst q0_0
  subst q0_1
  have k1 := h1
  have lt1 : ∀ x ∈ p1, x.block < W.heap.size := by obtain ⟨m, hm⟩ := k1; exact DataW.trod_lt m _ _ _ hm
  obtain ⟨a1, rfl, _, _, w1⟩ := open_int Try.underlying3 (hval 1 3 v1 rfl rfl) h1
  have k2 := h2
  have lt2 : ∀ x ∈ p2, x.block < W.heap.size := by obtain ⟨m, hm⟩ := k2; exact DataW.trod_lt m _ _ _ hm
  obtain ⟨a2, rfl, _, _, w2⟩ := open_int Try.underlying3 (hval 2 3 v2 rfl rfl) h2
  have k3 := h3
  have lt3 : ∀ x ∈ p3, x.block < W.heap.size := by obtain ⟨m, hm⟩ := k3; exact DataW.trod_lt m _ _ _ hm
  obtain ⟨a3, rfl, _, _, w3⟩ := open_int Try.underlying3 (hval 3 3 v3 rfl rfl) h3
  have k4 := h4
  have lt4 : ∀ x ∈ p4, x.block < W.heap.size := by obtain ⟨m, hm⟩ := k4; exact DataW.trod_lt m _ _ _ hm
  obtain ⟨a4, rfl, _, _, w4⟩ := open_int Try.underlying3 (hval 4 3 v4 rfl rfl) h4
  clear hA0 hval0 hsz0
  have h := Pure.NatOnce l0_0 l0_1 a1 a2 a3 a4 hm0_0 w0_0 hm0_1 w0_1 w1 w2 w3 w4
  refine (drawbridgelaw26_NatOnce.calls _ _ l0_0 _ _ l0_1 a1 a2 a3 a4 true W hr0_0 hc0_0 hr0_1 hc0_1 h).mono fun e W' ⟨he, hd⟩ => ?_
  subst he
  have bel : Below W.heap.size W W' := hd
  exact ⟨_, rfl, _, _, _, [], _, [], hW', trodAll_mk1 (shut_bool Try.underlying4 _), (trodAll_cons_mk (Below.trod laidOut (by kernel_rfl) (of_decide_eq_true (by kernel_rfl)) k0 bel lt0) (trodAll_cons_mk (Below.trod laidOut (by kernel_rfl) (of_decide_eq_true (by kernel_rfl)) k1 bel lt1) (trodAll_cons_mk (Below.trod laidOut (by kernel_rfl) (of_decide_eq_true (by kernel_rfl)) k2 bel lt2) (trodAll_cons_mk (Below.trod laidOut (by kernel_rfl) (of_decide_eq_true (by kernel_rfl)) k3 bel lt3) (trodAll_cons_mk (Below.trod laidOut (by kernel_rfl) (of_decide_eq_true (by kernel_rfl)) k4 bel lt4) trodAll_mk0))))), rfl, bel.frame _, fun h => by cases h⟩
theorem over : Rows.natOnceRow.holds Try.pinned (OpenSpec.ofChange Rows.natOnceSpec) :=
  OpenClaim.holds_of_wide 5 Try.f5 rfl rfl rfl rfl rfl rfl rfl ⟨rfl, rfl, rfl, rfl, rfl⟩ rfl rfl rfl rfl rfl (by kernel_rfl) Try.func5 (by kernel_rfl)
    (of_decide_eq_true (by kernel_rfl)) (by unfold Func.isWrapper; first | (rw [if_pos (by decide +kernel)]; kernel_rfl) | (rw [if_neg (by decide +kernel)]; exact ⟨rfl, rfl⟩))
    (fun os started H enc _ => lifted os started H enc)
theorem proved : Rows.NatOnceSaid := over
#print axioms proved
end Go.Proofs.Ytnjgejjijboibaa.natOnce
namespace Go.Proofs.Ytnjgejjijboibaa
/-- The row, under a short name, for the claim. -/
theorem natOnce_holds : Rows.NatOnceSaid := natOnce.proved
end Go.Proofs.Ytnjgejjijboibaa
