import Derived.Test.YtdblpflepfcnjaaRows
import Derived.Test.YtdblpflepfcnjaaPZ9
import Derived.Test.YtdblpflepfcnjaaPZ5
import Derived.WalkKit
import Derived.ProofKit
import Derived.OpenShut
import Derived.ShutString
import Derived.ChangeOld
import Derived.Below
import Derived.SizedLaws
-- Ytdblpflepfcnjaa: written by a program for this claim
namespace Go.Proofs.Ytdblpflepfcnjaa.nicLoads
open Go.RowKit Go.Proofs.Ytdblpflepfcnjaa.Q Go.Proofs.YtdblpflepfcnjaaW.PrintWords Go.Proofs.YtdblpflepfcnjaaW.PrintLast Go.Proofs.YtdblpflepfcnjaaW.PrintMore Go.Proofs.Ytdblpflepfcnjaa.L Go.Proofs.Ytdblpflepfcnjaa.Pure
open Go.ChangeShapes Go.WideShapes Go.ChangeAt
set_option linter.unusedVariables false
theorem own : ownKnob Try.prog.godebug = none := by kernel_rfl
theorem laidOut : laidOutB Try.prog = true := by kernel_rfl
theorem list_14 (L : List Value) (h : L.length = 14) : ∃ c0 c1 c2 c3 c4 c5 c6 c7 c8 c9 c10 c11 c12 c13, L = [c0, c1, c2, c3, c4, c5, c6, c7, c8, c9, c10, c11, c12, c13] := by
  match L, h with
  | [c0, c1, c2, c3, c4, c5, c6, c7, c8, c9, c10, c11, c12, c13], _ => exact ⟨c0, c1, c2, c3, c4, c5, c6, c7, c8, c9, c10, c11, c12, c13, rfl⟩
set_option maxRecDepth 100000 in
set_option maxHeartbeats 4000000 in
theorem lifted (os : Os) (started : os.Started) (H : Type) (enc : TypeId × Value → H) :
    ReturnsInHanded {} Try.checked os 4 .any (Rows.nicLoadsSpec.pre6 enc Try.prog Try.f4 Rows.nicLoadsRow.domain false) (Rows.nicLoadsSpec.post enc Try.prog Try.f4 false true false false) := by
  refine returnsInHanded_of_change_sized (C := Try.checked) own started (by kernel_rfl) Try.func4
    (ChangeSpec.witness6 (enc := enc) (C := Try.checked) false ⟨#[], #[.agg #[.int .i64 0, .int .i64 0, .int .i64 0, .int .u64 0, .int .i64 0, .int .i64 0, .int .i64 0, .int .u64 0, .int .i64 0, .int .i64 0, .int .i64 0, .int .i64 0, .int .i64 0, .slice none 0 0], .int .u64 0, .int .i64 0, .int .u64 0, .slice none 0 0], []⟩ 8 (by kernel_rfl) (by kernel_rfl) (by kernel_rfl) (by kernel_rfl)) ?_
  intro W base args ds gs before hval0 hW hcnd hsz0 _
  have hval : ∀ (j : Nat) t v, Try.f4.params[j]? = some t → args[j]? = some v → Value.okWide Try.prog W .any base t v := hval0
  have hW' := hW
  obtain ⟨p, q, hA0, hV, rfl, hfz, hnd⟩ := hW
  have hA : DataW.TrodAll enc Try.prog W 0 (fun _ => true) true Try.f4.params.toList args.toList ds p := hA0
  rw [Try.params4] at hA hval
  obtain ⟨v0, vs0, d0, ds0, p0, q0, hargs, rfl, rfl, h0, r0⟩ := trodAll_cons hA
  obtain ⟨v1, vs1, d1, ds1, p1, q1, rfl, rfl, rfl, h1, r1⟩ := trodAll_cons r0
  obtain ⟨v2, vs2, d2, ds2, p2, q2, rfl, rfl, rfl, h2, r2⟩ := trodAll_cons r1
  obtain ⟨v3, vs3, d3, ds3, p3, q3, rfl, rfl, rfl, h3, r3⟩ := trodAll_cons r2
  obtain ⟨v4, vs4, d4, ds4, p4, q4, rfl, rfl, rfl, h4, r4⟩ := trodAll_cons r3
  obtain ⟨rfl, rfl, rfl⟩ := trodAll_nil r4
  obtain rfl : args = #[v0, v1, v2, v3, v4] := by cases args; simp_all
  obtain ⟨rfl, rfl⟩ := trodVars_none hV
  have k0 := h0
  have lt0 : ∀ x ∈ p0, x.block < W.heap.size := by obtain ⟨m, hm⟩ := k0; exact DataW.trod_lt m _ _ _ hm
  obtain ⟨fuel0, hf0⟩ := h0
  obtain ⟨cs0, rfl, hs0⟩ := okWide_struct Try.underlying25 (hval 0 25 v0 rfl rfl)
  obtain ⟨L0⟩ := cs0
  have hl0 : L0.length = 14 := hs0.trans (by kernel_rfl)
  obtain ⟨cell0_0, cell0_1, cell0_2, cell0_3, cell0_4, cell0_5, cell0_6, cell0_7, cell0_8, cell0_9, cell0_10, cell0_11, cell0_12, cell0_13, rfl⟩ := list_14 L0 hl0
  replace hf0 : DataW.trod enc Try.prog W 0 (fun _ => true) true fuel0 25 [cell0_0, cell0_1, cell0_2, cell0_3, cell0_4, cell0_5, cell0_6, cell0_7, cell0_8, cell0_9, cell0_10, cell0_11, cell0_12, cell0_13] = some _ := hf0
  obtain ⟨m0, g0⟩ := leaf_field Try.underlying25 hf0
  obtain ⟨ye0_0, e0_0⟩ := g0 0 _ rfl
  have ze0_0 : Try.prog.cellsOf 3 = 1 := by kernel_rfl
  replace e0_0 : DataW.trod enc Try.prog W 0 (fun _ => true) true m0 3 (([cell0_0, cell0_1, cell0_2, cell0_3, cell0_4, cell0_5, cell0_6, cell0_7, cell0_8, cell0_9, cell0_10, cell0_11, cell0_12, cell0_13].drop 0).take (Try.prog.cellsOf 3)) = some ye0_0 := e0_0
  rw [ze0_0] at e0_0
  replace e0_0 : DataW.trod enc Try.prog W 0 (fun _ => true) true m0 3 [cell0_0] = some ye0_0 := e0_0
  obtain ⟨a0_0, q0_0, w0_0⟩ := leaf_int Try.underlying3 e0_0
  obtain ⟨ye0_1, e0_1⟩ := g0 1 _ rfl
  have ze0_1 : Try.prog.cellsOf 3 = 1 := by kernel_rfl
  replace e0_1 : DataW.trod enc Try.prog W 0 (fun _ => true) true m0 3 (([cell0_0, cell0_1, cell0_2, cell0_3, cell0_4, cell0_5, cell0_6, cell0_7, cell0_8, cell0_9, cell0_10, cell0_11, cell0_12, cell0_13].drop 1).take (Try.prog.cellsOf 3)) = some ye0_1 := e0_1
  rw [ze0_1] at e0_1
  replace e0_1 : DataW.trod enc Try.prog W 0 (fun _ => true) true m0 3 [cell0_1] = some ye0_1 := e0_1
  obtain ⟨a0_1, q0_1, w0_1⟩ := leaf_int Try.underlying3 e0_1
  obtain ⟨ye0_2, e0_2⟩ := g0 2 _ rfl
  have ze0_2 : Try.prog.cellsOf 3 = 1 := by kernel_rfl
  replace e0_2 : DataW.trod enc Try.prog W 0 (fun _ => true) true m0 3 (([cell0_0, cell0_1, cell0_2, cell0_3, cell0_4, cell0_5, cell0_6, cell0_7, cell0_8, cell0_9, cell0_10, cell0_11, cell0_12, cell0_13].drop 2).take (Try.prog.cellsOf 3)) = some ye0_2 := e0_2
  rw [ze0_2] at e0_2
  replace e0_2 : DataW.trod enc Try.prog W 0 (fun _ => true) true m0 3 [cell0_2] = some ye0_2 := e0_2
  obtain ⟨a0_2, q0_2, w0_2⟩ := leaf_int Try.underlying3 e0_2
  obtain ⟨ye0_3, e0_3⟩ := g0 3 _ rfl
  have ze0_3 : Try.prog.cellsOf 22 = 1 := by kernel_rfl
  replace e0_3 : DataW.trod enc Try.prog W 0 (fun _ => true) true m0 22 (([cell0_0, cell0_1, cell0_2, cell0_3, cell0_4, cell0_5, cell0_6, cell0_7, cell0_8, cell0_9, cell0_10, cell0_11, cell0_12, cell0_13].drop 3).take (Try.prog.cellsOf 22)) = some ye0_3 := e0_3
  rw [ze0_3] at e0_3
  replace e0_3 : DataW.trod enc Try.prog W 0 (fun _ => true) true m0 22 [cell0_3] = some ye0_3 := e0_3
  obtain ⟨a0_3, q0_3, w0_3⟩ := leaf_int Try.underlying22 e0_3
  obtain ⟨ye0_4, e0_4⟩ := g0 4 _ rfl
  have ze0_4 : Try.prog.cellsOf 3 = 1 := by kernel_rfl
  replace e0_4 : DataW.trod enc Try.prog W 0 (fun _ => true) true m0 3 (([cell0_0, cell0_1, cell0_2, cell0_3, cell0_4, cell0_5, cell0_6, cell0_7, cell0_8, cell0_9, cell0_10, cell0_11, cell0_12, cell0_13].drop 4).take (Try.prog.cellsOf 3)) = some ye0_4 := e0_4
  rw [ze0_4] at e0_4
  replace e0_4 : DataW.trod enc Try.prog W 0 (fun _ => true) true m0 3 [cell0_4] = some ye0_4 := e0_4
  obtain ⟨a0_4, q0_4, w0_4⟩ := leaf_int Try.underlying3 e0_4
  obtain ⟨ye0_5, e0_5⟩ := g0 5 _ rfl
  have ze0_5 : Try.prog.cellsOf 3 = 1 := by kernel_rfl
  replace e0_5 : DataW.trod enc Try.prog W 0 (fun _ => true) true m0 3 (([cell0_0, cell0_1, cell0_2, cell0_3, cell0_4, cell0_5, cell0_6, cell0_7, cell0_8, cell0_9, cell0_10, cell0_11, cell0_12, cell0_13].drop 5).take (Try.prog.cellsOf 3)) = some ye0_5 := e0_5
  rw [ze0_5] at e0_5
  replace e0_5 : DataW.trod enc Try.prog W 0 (fun _ => true) true m0 3 [cell0_5] = some ye0_5 := e0_5
  obtain ⟨a0_5, q0_5, w0_5⟩ := leaf_int Try.underlying3 e0_5
  obtain ⟨ye0_6, e0_6⟩ := g0 6 _ rfl
  have ze0_6 : Try.prog.cellsOf 3 = 1 := by kernel_rfl
  replace e0_6 : DataW.trod enc Try.prog W 0 (fun _ => true) true m0 3 (([cell0_0, cell0_1, cell0_2, cell0_3, cell0_4, cell0_5, cell0_6, cell0_7, cell0_8, cell0_9, cell0_10, cell0_11, cell0_12, cell0_13].drop 6).take (Try.prog.cellsOf 3)) = some ye0_6 := e0_6
  rw [ze0_6] at e0_6
  replace e0_6 : DataW.trod enc Try.prog W 0 (fun _ => true) true m0 3 [cell0_6] = some ye0_6 := e0_6
  obtain ⟨a0_6, q0_6, w0_6⟩ := leaf_int Try.underlying3 e0_6
  obtain ⟨ye0_7, e0_7⟩ := g0 7 _ rfl
  have ze0_7 : Try.prog.cellsOf 22 = 1 := by kernel_rfl
  replace e0_7 : DataW.trod enc Try.prog W 0 (fun _ => true) true m0 22 (([cell0_0, cell0_1, cell0_2, cell0_3, cell0_4, cell0_5, cell0_6, cell0_7, cell0_8, cell0_9, cell0_10, cell0_11, cell0_12, cell0_13].drop 7).take (Try.prog.cellsOf 22)) = some ye0_7 := e0_7
  rw [ze0_7] at e0_7
  replace e0_7 : DataW.trod enc Try.prog W 0 (fun _ => true) true m0 22 [cell0_7] = some ye0_7 := e0_7
  obtain ⟨a0_7, q0_7, w0_7⟩ := leaf_int Try.underlying22 e0_7
  obtain ⟨ye0_8, e0_8⟩ := g0 8 _ rfl
  have ze0_8 : Try.prog.cellsOf 3 = 1 := by kernel_rfl
  replace e0_8 : DataW.trod enc Try.prog W 0 (fun _ => true) true m0 3 (([cell0_0, cell0_1, cell0_2, cell0_3, cell0_4, cell0_5, cell0_6, cell0_7, cell0_8, cell0_9, cell0_10, cell0_11, cell0_12, cell0_13].drop 8).take (Try.prog.cellsOf 3)) = some ye0_8 := e0_8
  rw [ze0_8] at e0_8
  replace e0_8 : DataW.trod enc Try.prog W 0 (fun _ => true) true m0 3 [cell0_8] = some ye0_8 := e0_8
  obtain ⟨a0_8, q0_8, w0_8⟩ := leaf_int Try.underlying3 e0_8
  obtain ⟨ye0_9, e0_9⟩ := g0 9 _ rfl
  have ze0_9 : Try.prog.cellsOf 3 = 1 := by kernel_rfl
  replace e0_9 : DataW.trod enc Try.prog W 0 (fun _ => true) true m0 3 (([cell0_0, cell0_1, cell0_2, cell0_3, cell0_4, cell0_5, cell0_6, cell0_7, cell0_8, cell0_9, cell0_10, cell0_11, cell0_12, cell0_13].drop 9).take (Try.prog.cellsOf 3)) = some ye0_9 := e0_9
  rw [ze0_9] at e0_9
  replace e0_9 : DataW.trod enc Try.prog W 0 (fun _ => true) true m0 3 [cell0_9] = some ye0_9 := e0_9
  obtain ⟨a0_9, q0_9, w0_9⟩ := leaf_int Try.underlying3 e0_9
  obtain ⟨ye0_10, e0_10⟩ := g0 10 _ rfl
  have ze0_10 : Try.prog.cellsOf 3 = 1 := by kernel_rfl
  replace e0_10 : DataW.trod enc Try.prog W 0 (fun _ => true) true m0 3 (([cell0_0, cell0_1, cell0_2, cell0_3, cell0_4, cell0_5, cell0_6, cell0_7, cell0_8, cell0_9, cell0_10, cell0_11, cell0_12, cell0_13].drop 10).take (Try.prog.cellsOf 3)) = some ye0_10 := e0_10
  rw [ze0_10] at e0_10
  replace e0_10 : DataW.trod enc Try.prog W 0 (fun _ => true) true m0 3 [cell0_10] = some ye0_10 := e0_10
  obtain ⟨a0_10, q0_10, w0_10⟩ := leaf_int Try.underlying3 e0_10
  obtain ⟨ye0_11, e0_11⟩ := g0 11 _ rfl
  have ze0_11 : Try.prog.cellsOf 3 = 1 := by kernel_rfl
  replace e0_11 : DataW.trod enc Try.prog W 0 (fun _ => true) true m0 3 (([cell0_0, cell0_1, cell0_2, cell0_3, cell0_4, cell0_5, cell0_6, cell0_7, cell0_8, cell0_9, cell0_10, cell0_11, cell0_12, cell0_13].drop 11).take (Try.prog.cellsOf 3)) = some ye0_11 := e0_11
  rw [ze0_11] at e0_11
  replace e0_11 : DataW.trod enc Try.prog W 0 (fun _ => true) true m0 3 [cell0_11] = some ye0_11 := e0_11
  obtain ⟨a0_11, q0_11, w0_11⟩ := leaf_int Try.underlying3 e0_11
  obtain ⟨ye0_12, e0_12⟩ := g0 12 _ rfl
  have ze0_12 : Try.prog.cellsOf 3 = 1 := by kernel_rfl
  replace e0_12 : DataW.trod enc Try.prog W 0 (fun _ => true) true m0 3 (([cell0_0, cell0_1, cell0_2, cell0_3, cell0_4, cell0_5, cell0_6, cell0_7, cell0_8, cell0_9, cell0_10, cell0_11, cell0_12, cell0_13].drop 12).take (Try.prog.cellsOf 3)) = some ye0_12 := e0_12
  rw [ze0_12] at e0_12
  replace e0_12 : DataW.trod enc Try.prog W 0 (fun _ => true) true m0 3 [cell0_12] = some ye0_12 := e0_12
  obtain ⟨a0_12, q0_12, w0_12⟩ := leaf_int Try.underlying3 e0_12
  obtain ⟨ye0_13, e0_13⟩ := g0 13 _ rfl
  have ze0_13 : Try.prog.cellsOf 23 = 1 := by kernel_rfl
  replace e0_13 : DataW.trod enc Try.prog W 0 (fun _ => true) true m0 23 (([cell0_0, cell0_1, cell0_2, cell0_3, cell0_4, cell0_5, cell0_6, cell0_7, cell0_8, cell0_9, cell0_10, cell0_11, cell0_12, cell0_13].drop 13).take (Try.prog.cellsOf 23)) = some ye0_13 := e0_13
  rw [ze0_13] at e0_13
  replace e0_13 : DataW.trod enc Try.prog W 0 (fun _ => true) true m0 23 [cell0_13] = some ye0_13 := e0_13
  obtain ⟨A0_13, c0_13, l0_13, q0_13, hr0_13, hc0_13, hm0_13, w0_13⟩ := leaf_ints Try.underlying23 Try.underlying5 (by kernel_rfl) e0_13
  subst q0_0
  subst q0_1
  subst q0_2
  subst q0_3
  subst q0_4
  subst q0_5
  subst q0_6
  subst q0_7
  subst q0_8
  subst q0_9
  subst q0_10
  subst q0_11
  subst q0_12
  subst q0_13
  have k1 := h1
  have lt1 : ∀ x ∈ p1, x.block < W.heap.size := by obtain ⟨m, hm⟩ := k1; exact DataW.trod_lt m _ _ _ hm
  obtain ⟨a1, rfl, _, _, w1⟩ := open_int Try.underlying22 (hval 1 22 v1 rfl rfl) h1
  have k2 := h2
  have lt2 : ∀ x ∈ p2, x.block < W.heap.size := by obtain ⟨m, hm⟩ := k2; exact DataW.trod_lt m _ _ _ hm
  obtain ⟨a2, rfl, _, _, w2⟩ := open_int Try.underlying3 (hval 2 3 v2 rfl rfl) h2
  have k3 := h3
  have lt3 : ∀ x ∈ p3, x.block < W.heap.size := by obtain ⟨m, hm⟩ := k3; exact DataW.trod_lt m _ _ _ hm
  obtain ⟨a3, rfl, _, _, w3⟩ := open_int Try.underlying22 (hval 3 22 v3 rfl rfl) h3
  have k4 := h4
  have lt4 : ∀ x ∈ p4, x.block < W.heap.size := by obtain ⟨m, hm⟩ := k4; exact DataW.trod_lt m _ _ _ hm
  obtain ⟨fuel4, hf4⟩ := h4
  obtain ⟨aq4, lq4, cq4, rfl⟩ := okWide_slice Try.underlying23 (hval 4 23 v4 rfl rfl)
  replace hf4 : DataW.trod enc Try.prog W 0 (fun _ => true) true fuel4 23 [.slice aq4 lq4 cq4] = some _ := hf4
  obtain ⟨A4, c4, l4, eq4, hr4, hc4, hm4, w4⟩ := leaf_ints Try.underlying23 Try.underlying5 (by kernel_rfl) hf4
  obtain ⟨rfl, rfl, rfl⟩ : aq4 = A4 ∧ lq4 = l4.length ∧ cq4 = c4 := by injection eq4 with z0 z1 z2; exact ⟨z0, z1, z2⟩
  clear hA0 hval0 hsz0
  have h := Pure.NicLoads a0_0 a0_1 a0_2 a0_3 a0_4 a0_5 a0_6 a0_7 a0_8 a0_9 a0_10 a0_11 a0_12 l0_13 a1 a2 a3 l4 w0_0 w0_1 w0_2 w0_3 w0_4 w0_5 w0_6 w0_7 w0_8 w0_9 w0_10 w0_11 w0_12 hm0_13 w0_13 w1 w2 w3 hm4 w4
  refine (drawbridgelaw12_NicLoads.calls a0_0 a0_1 a0_2 a0_3 a0_4 a0_5 a0_6 a0_7 a0_8 a0_9 a0_10 a0_11 a0_12 _ _ l0_13 a1 a2 a3 _ _ l4 true W hr0_13 hc0_13 hr4 hc4 h).mono fun e W' ⟨he, hd⟩ => ?_
  subst he
  have bel : Below W.heap.size W W' := hd
  exact ⟨_, rfl, _, _, _, [], _, [], hW', trodAll_mk1 (shut_bool Try.underlying4 _), (trodAll_cons_mk (Below.trod laidOut (by kernel_rfl) (of_decide_eq_true (by kernel_rfl)) k0 bel lt0) (trodAll_cons_mk (Below.trod laidOut (by kernel_rfl) (of_decide_eq_true (by kernel_rfl)) k1 bel lt1) (trodAll_cons_mk (Below.trod laidOut (by kernel_rfl) (of_decide_eq_true (by kernel_rfl)) k2 bel lt2) (trodAll_cons_mk (Below.trod laidOut (by kernel_rfl) (of_decide_eq_true (by kernel_rfl)) k3 bel lt3) (trodAll_cons_mk (Below.trod laidOut (by kernel_rfl) (of_decide_eq_true (by kernel_rfl)) k4 bel lt4) trodAll_mk0))))), rfl, bel.frame _, fun h => by cases h⟩
theorem over : Rows.nicLoadsRow.holds Try.pinned (OpenSpec.ofChange Rows.nicLoadsSpec) :=
  OpenClaim.holds_of_wide 4 Try.f4 rfl rfl rfl rfl rfl rfl rfl ⟨rfl, rfl, rfl, rfl, rfl⟩ rfl rfl rfl rfl rfl (by kernel_rfl) Try.func4 (by kernel_rfl)
    (of_decide_eq_true (by kernel_rfl)) (by unfold Func.isWrapper; first | (rw [if_pos (by decide +kernel)]; kernel_rfl) | (rw [if_neg (by decide +kernel)]; exact ⟨rfl, rfl⟩))
    (fun os started H enc _ => lifted os started H enc)
theorem proved : Rows.NicLoadsSaid := over
#print axioms proved
end Go.Proofs.Ytdblpflepfcnjaa.nicLoads
namespace Go.Proofs.Ytdblpflepfcnjaa
/-- The row, under a short name, for the claim. -/
theorem nicLoads_holds : Rows.NicLoadsSaid := nicLoads.proved
end Go.Proofs.Ytdblpflepfcnjaa
