import Derived.Test.YtphcckhegfgbgaaRows
import Derived.Test.YtphcckhegfgbgaaPZ9
import Derived.Test.YtphcckhegfgbgaaPZ6
import Derived.WalkKit
import Derived.ProofKit
import Derived.OpenShut
import Derived.ShutString
import Derived.ChangeOld
import Derived.Below
import Derived.SizedLaws
-- Ytphcckhegfgbgaa: written by a program for this claim
namespace Go.Proofs.Ytphcckhegfgbgaa.busKeeps
open Go.RowKit Go.Proofs.Ytphcckhegfgbgaa.Q Go.Proofs.YtphcckhegfgbgaaW.PrintWords Go.Proofs.YtphcckhegfgbgaaW.PrintLast Go.Proofs.YtphcckhegfgbgaaW.PrintMore Go.Proofs.Ytphcckhegfgbgaa.L Go.Proofs.Ytphcckhegfgbgaa.Pure
open Go.ChangeShapes Go.WideShapes Go.ChangeAt
set_option linter.unusedVariables false
theorem own : ownKnob Try.prog.godebug = none := by kernel_rfl
theorem laidOut : laidOutB Try.prog = true := by kernel_rfl
theorem list_27 (L : List Value) (h : L.length = 27) : ∃ c0 c1 c2 c3 c4 c5 c6 c7 c8 c9 c10 c11 c12 c13 c14 c15 c16 c17 c18 c19 c20 c21 c22 c23 c24 c25 c26, L = [c0, c1, c2, c3, c4, c5, c6, c7, c8, c9, c10, c11, c12, c13, c14, c15, c16, c17, c18, c19, c20, c21, c22, c23, c24, c25, c26] := by
  match L, h with
  | [c0, c1, c2, c3, c4, c5, c6, c7, c8, c9, c10, c11, c12, c13, c14, c15, c16, c17, c18, c19, c20, c21, c22, c23, c24, c25, c26], _ => exact ⟨c0, c1, c2, c3, c4, c5, c6, c7, c8, c9, c10, c11, c12, c13, c14, c15, c16, c17, c18, c19, c20, c21, c22, c23, c24, c25, c26, rfl⟩
set_option maxRecDepth 100000 in
set_option maxHeartbeats 4000000 in
theorem lifted (os : Os) (started : os.Started) (H : Type) (enc : TypeId × Value → H) :
    ReturnsInHanded {} Try.checked os 3 .any (Rows.busKeepsSpec.pre6 enc Try.prog Try.f3 Rows.busKeepsRow.domain false) (Rows.busKeepsSpec.post enc Try.prog Try.f3 false true false false) := by
  refine returnsInHanded_of_change_sized (C := Try.checked) own started (by kernel_rfl) Try.func3
    (ChangeSpec.witness6 (enc := enc) (C := Try.checked) false ⟨#[], #[.agg #[.slice none 0 0, .int .u64 0, .int .u64 0, .bool false, .slice none 0 0, .int .i64 0, .int .i64 0, .slice none 0 0, .slice none 0 0, .slice none 0 0, .slice none 0 0, .int .i64 0, .int .i64 0, .int .i64 0, .int .i64 0, .int .i64 0, .int .u64 0, .int .i64 0, .int .i64 0, .int .i64 0, .int .u64 0, .int .i64 0, .int .i64 0, .int .i64 0, .int .i64 0, .int .i64 0, .slice none 0 0], .int .u64 0, .int .i64 0, .int .u64 0], []⟩ 8 (by kernel_rfl) (by kernel_rfl) (by kernel_rfl) (by kernel_rfl)) ?_
  intro W base args ds gs before hval0 hW hcnd hsz0 _
  have hval : ∀ (j : Nat) t v, Try.f3.params[j]? = some t → args[j]? = some v → Value.okWide Try.prog W .any base t v := hval0
  have hW' := hW
  obtain ⟨p, q, hA0, hV, rfl, hfz, hnd⟩ := hW
  have hA : DataW.TrodAll enc Try.prog W 0 (fun _ => true) true Try.f3.params.toList args.toList ds p := hA0
  rw [Try.params3] at hA hval
  obtain ⟨v0, vs0, d0, ds0, p0, q0, hargs, rfl, rfl, h0, r0⟩ := trodAll_cons hA
  obtain ⟨v1, vs1, d1, ds1, p1, q1, rfl, rfl, rfl, h1, r1⟩ := trodAll_cons r0
  obtain ⟨v2, vs2, d2, ds2, p2, q2, rfl, rfl, rfl, h2, r2⟩ := trodAll_cons r1
  obtain ⟨v3, vs3, d3, ds3, p3, q3, rfl, rfl, rfl, h3, r3⟩ := trodAll_cons r2
  obtain ⟨rfl, rfl, rfl⟩ := trodAll_nil r3
  obtain rfl : args = #[v0, v1, v2, v3] := by cases args; simp_all
  obtain ⟨rfl, rfl⟩ := trodVars_none hV
  have k0 := h0
  have lt0 : ∀ x ∈ p0, x.block < W.heap.size := by obtain ⟨m, hm⟩ := k0; exact DataW.trod_lt m _ _ _ hm
  obtain ⟨fuel0, hf0⟩ := h0
  obtain ⟨cs0, rfl, hs0⟩ := okWide_struct Try.underlying36 (hval 0 36 v0 rfl rfl)
  obtain ⟨L0⟩ := cs0
  have hl0 : L0.length = 27 := hs0.trans (by kernel_rfl)
  obtain ⟨cell0_0, cell0_1, cell0_2, cell0_3, cell0_4, cell0_5, cell0_6, cell0_7, cell0_8, cell0_9, cell0_10, cell0_11, cell0_12, cell0_13, cell0_14, cell0_15, cell0_16, cell0_17, cell0_18, cell0_19, cell0_20, cell0_21, cell0_22, cell0_23, cell0_24, cell0_25, cell0_26, rfl⟩ := list_27 L0 hl0
  replace hf0 : DataW.trod enc Try.prog W 0 (fun _ => true) true fuel0 36 [cell0_0, cell0_1, cell0_2, cell0_3, cell0_4, cell0_5, cell0_6, cell0_7, cell0_8, cell0_9, cell0_10, cell0_11, cell0_12, cell0_13, cell0_14, cell0_15, cell0_16, cell0_17, cell0_18, cell0_19, cell0_20, cell0_21, cell0_22, cell0_23, cell0_24, cell0_25, cell0_26] = some _ := hf0
  obtain ⟨m0, g0⟩ := leaf_field Try.underlying36 hf0
  obtain ⟨ye0_0, e0_0⟩ := g0 0 _ rfl
  have ze0_0 : Try.prog.cellsOf 24 = 1 := by kernel_rfl
  replace e0_0 : DataW.trod enc Try.prog W 0 (fun _ => true) true m0 24 (([cell0_0, cell0_1, cell0_2, cell0_3, cell0_4, cell0_5, cell0_6, cell0_7, cell0_8, cell0_9, cell0_10, cell0_11, cell0_12, cell0_13, cell0_14, cell0_15, cell0_16, cell0_17, cell0_18, cell0_19, cell0_20, cell0_21, cell0_22, cell0_23, cell0_24, cell0_25, cell0_26].drop 0).take (Try.prog.cellsOf 24)) = some ye0_0 := e0_0
  rw [ze0_0] at e0_0
  replace e0_0 : DataW.trod enc Try.prog W 0 (fun _ => true) true m0 24 [cell0_0] = some ye0_0 := e0_0
  obtain ⟨m0_0, g0_0⟩ := leaf_field Try.underlying24 e0_0
  obtain ⟨ye0_0_0, e0_0_0⟩ := g0_0 0 _ rfl
  have ze0_0_0 : Try.prog.cellsOf 22 = 1 := by kernel_rfl
  replace e0_0_0 : DataW.trod enc Try.prog W 0 (fun _ => true) true m0_0 22 (([cell0_0].drop 0).take (Try.prog.cellsOf 22)) = some ye0_0_0 := e0_0_0
  rw [ze0_0_0] at e0_0_0
  replace e0_0_0 : DataW.trod enc Try.prog W 0 (fun _ => true) true m0_0 22 [cell0_0] = some ye0_0_0 := e0_0_0
  obtain ⟨A0_0, c0_0, l0_0, q0_0, hr0_0, hc0_0, hm0_0, w0_0⟩ := leaf_ints Try.underlying22 Try.underlying5 (by kernel_rfl) e0_0_0
  obtain ⟨ye0_1, e0_1⟩ := g0 1 _ rfl
  have ze0_1 : Try.prog.cellsOf 27 = 3 := by kernel_rfl
  replace e0_1 : DataW.trod enc Try.prog W 0 (fun _ => true) true m0 27 (([cell0_0, cell0_1, cell0_2, cell0_3, cell0_4, cell0_5, cell0_6, cell0_7, cell0_8, cell0_9, cell0_10, cell0_11, cell0_12, cell0_13, cell0_14, cell0_15, cell0_16, cell0_17, cell0_18, cell0_19, cell0_20, cell0_21, cell0_22, cell0_23, cell0_24, cell0_25, cell0_26].drop 1).take (Try.prog.cellsOf 27)) = some ye0_1 := e0_1
  rw [ze0_1] at e0_1
  replace e0_1 : DataW.trod enc Try.prog W 0 (fun _ => true) true m0 27 [cell0_1, cell0_2, cell0_3] = some ye0_1 := e0_1
  obtain ⟨m0_1, g0_1⟩ := leaf_field Try.underlying27 e0_1
  obtain ⟨ye0_1_0, e0_1_0⟩ := g0_1 0 _ rfl
  have ze0_1_0 : Try.prog.cellsOf 25 = 1 := by kernel_rfl
  replace e0_1_0 : DataW.trod enc Try.prog W 0 (fun _ => true) true m0_1 25 (([cell0_1, cell0_2, cell0_3].drop 0).take (Try.prog.cellsOf 25)) = some ye0_1_0 := e0_1_0
  rw [ze0_1_0] at e0_1_0
  replace e0_1_0 : DataW.trod enc Try.prog W 0 (fun _ => true) true m0_1 25 [cell0_1] = some ye0_1_0 := e0_1_0
  obtain ⟨a0_1, q0_1, w0_1⟩ := leaf_int Try.underlying25 e0_1_0
  obtain ⟨ye0_1_1, e0_1_1⟩ := g0_1 1 _ rfl
  have ze0_1_1 : Try.prog.cellsOf 25 = 1 := by kernel_rfl
  replace e0_1_1 : DataW.trod enc Try.prog W 0 (fun _ => true) true m0_1 25 (([cell0_1, cell0_2, cell0_3].drop 1).take (Try.prog.cellsOf 25)) = some ye0_1_1 := e0_1_1
  rw [ze0_1_1] at e0_1_1
  replace e0_1_1 : DataW.trod enc Try.prog W 0 (fun _ => true) true m0_1 25 [cell0_2] = some ye0_1_1 := e0_1_1
  obtain ⟨a0_2, q0_2, w0_2⟩ := leaf_int Try.underlying25 e0_1_1
  obtain ⟨ye0_1_2, e0_1_2⟩ := g0_1 2 _ rfl
  have ze0_1_2 : Try.prog.cellsOf 4 = 1 := by kernel_rfl
  replace e0_1_2 : DataW.trod enc Try.prog W 0 (fun _ => true) true m0_1 4 (([cell0_1, cell0_2, cell0_3].drop 2).take (Try.prog.cellsOf 4)) = some ye0_1_2 := e0_1_2
  rw [ze0_1_2] at e0_1_2
  replace e0_1_2 : DataW.trod enc Try.prog W 0 (fun _ => true) true m0_1 4 [cell0_3] = some ye0_1_2 := e0_1_2
  obtain ⟨a0_3, q0_3⟩ := leaf_bool Try.underlying4 e0_1_2
  obtain ⟨ye0_2, e0_2⟩ := g0 2 _ rfl
  have ze0_2 : Try.prog.cellsOf 30 = 5 := by kernel_rfl
  replace e0_2 : DataW.trod enc Try.prog W 0 (fun _ => true) true m0 30 (([cell0_0, cell0_1, cell0_2, cell0_3, cell0_4, cell0_5, cell0_6, cell0_7, cell0_8, cell0_9, cell0_10, cell0_11, cell0_12, cell0_13, cell0_14, cell0_15, cell0_16, cell0_17, cell0_18, cell0_19, cell0_20, cell0_21, cell0_22, cell0_23, cell0_24, cell0_25, cell0_26].drop 4).take (Try.prog.cellsOf 30)) = some ye0_2 := e0_2
  rw [ze0_2] at e0_2
  replace e0_2 : DataW.trod enc Try.prog W 0 (fun _ => true) true m0 30 [cell0_4, cell0_5, cell0_6, cell0_7, cell0_8] = some ye0_2 := e0_2
  obtain ⟨m0_2, g0_2⟩ := leaf_field Try.underlying30 e0_2
  obtain ⟨ye0_2_0, e0_2_0⟩ := g0_2 0 _ rfl
  have ze0_2_0 : Try.prog.cellsOf 28 = 1 := by kernel_rfl
  replace e0_2_0 : DataW.trod enc Try.prog W 0 (fun _ => true) true m0_2 28 (([cell0_4, cell0_5, cell0_6, cell0_7, cell0_8].drop 0).take (Try.prog.cellsOf 28)) = some ye0_2_0 := e0_2_0
  rw [ze0_2_0] at e0_2_0
  replace e0_2_0 : DataW.trod enc Try.prog W 0 (fun _ => true) true m0_2 28 [cell0_4] = some ye0_2_0 := e0_2_0
  obtain ⟨A0_4, c0_4, l0_4, q0_4, hr0_4, hc0_4, hm0_4, w0_4⟩ := leaf_ints Try.underlying28 Try.underlying3 (by kernel_rfl) e0_2_0
  obtain ⟨ye0_2_1, e0_2_1⟩ := g0_2 1 _ rfl
  have ze0_2_1 : Try.prog.cellsOf 3 = 1 := by kernel_rfl
  replace e0_2_1 : DataW.trod enc Try.prog W 0 (fun _ => true) true m0_2 3 (([cell0_4, cell0_5, cell0_6, cell0_7, cell0_8].drop 1).take (Try.prog.cellsOf 3)) = some ye0_2_1 := e0_2_1
  rw [ze0_2_1] at e0_2_1
  replace e0_2_1 : DataW.trod enc Try.prog W 0 (fun _ => true) true m0_2 3 [cell0_5] = some ye0_2_1 := e0_2_1
  obtain ⟨a0_5, q0_5, w0_5⟩ := leaf_int Try.underlying3 e0_2_1
  obtain ⟨ye0_2_2, e0_2_2⟩ := g0_2 2 _ rfl
  have ze0_2_2 : Try.prog.cellsOf 3 = 1 := by kernel_rfl
  replace e0_2_2 : DataW.trod enc Try.prog W 0 (fun _ => true) true m0_2 3 (([cell0_4, cell0_5, cell0_6, cell0_7, cell0_8].drop 2).take (Try.prog.cellsOf 3)) = some ye0_2_2 := e0_2_2
  rw [ze0_2_2] at e0_2_2
  replace e0_2_2 : DataW.trod enc Try.prog W 0 (fun _ => true) true m0_2 3 [cell0_6] = some ye0_2_2 := e0_2_2
  obtain ⟨a0_6, q0_6, w0_6⟩ := leaf_int Try.underlying3 e0_2_2
  obtain ⟨ye0_2_3, e0_2_3⟩ := g0_2 3 _ rfl
  have ze0_2_3 : Try.prog.cellsOf 28 = 1 := by kernel_rfl
  replace e0_2_3 : DataW.trod enc Try.prog W 0 (fun _ => true) true m0_2 28 (([cell0_4, cell0_5, cell0_6, cell0_7, cell0_8].drop 3).take (Try.prog.cellsOf 28)) = some ye0_2_3 := e0_2_3
  rw [ze0_2_3] at e0_2_3
  replace e0_2_3 : DataW.trod enc Try.prog W 0 (fun _ => true) true m0_2 28 [cell0_7] = some ye0_2_3 := e0_2_3
  obtain ⟨A0_7, c0_7, l0_7, q0_7, hr0_7, hc0_7, hm0_7, w0_7⟩ := leaf_ints Try.underlying28 Try.underlying3 (by kernel_rfl) e0_2_3
  obtain ⟨ye0_2_4, e0_2_4⟩ := g0_2 4 _ rfl
  have ze0_2_4 : Try.prog.cellsOf 28 = 1 := by kernel_rfl
  replace e0_2_4 : DataW.trod enc Try.prog W 0 (fun _ => true) true m0_2 28 (([cell0_4, cell0_5, cell0_6, cell0_7, cell0_8].drop 4).take (Try.prog.cellsOf 28)) = some ye0_2_4 := e0_2_4
  rw [ze0_2_4] at e0_2_4
  replace e0_2_4 : DataW.trod enc Try.prog W 0 (fun _ => true) true m0_2 28 [cell0_8] = some ye0_2_4 := e0_2_4
  obtain ⟨A0_8, c0_8, l0_8, q0_8, hr0_8, hc0_8, hm0_8, w0_8⟩ := leaf_ints Try.underlying28 Try.underlying3 (by kernel_rfl) e0_2_4
  obtain ⟨ye0_3, e0_3⟩ := g0 3 _ rfl
  have ze0_3 : Try.prog.cellsOf 32 = 4 := by kernel_rfl
  replace e0_3 : DataW.trod enc Try.prog W 0 (fun _ => true) true m0 32 (([cell0_0, cell0_1, cell0_2, cell0_3, cell0_4, cell0_5, cell0_6, cell0_7, cell0_8, cell0_9, cell0_10, cell0_11, cell0_12, cell0_13, cell0_14, cell0_15, cell0_16, cell0_17, cell0_18, cell0_19, cell0_20, cell0_21, cell0_22, cell0_23, cell0_24, cell0_25, cell0_26].drop 9).take (Try.prog.cellsOf 32)) = some ye0_3 := e0_3
  rw [ze0_3] at e0_3
  replace e0_3 : DataW.trod enc Try.prog W 0 (fun _ => true) true m0 32 [cell0_9, cell0_10, cell0_11, cell0_12] = some ye0_3 := e0_3
  obtain ⟨m0_3, g0_3⟩ := leaf_field Try.underlying32 e0_3
  obtain ⟨ye0_3_0, e0_3_0⟩ := g0_3 0 _ rfl
  have ze0_3_0 : Try.prog.cellsOf 22 = 1 := by kernel_rfl
  replace e0_3_0 : DataW.trod enc Try.prog W 0 (fun _ => true) true m0_3 22 (([cell0_9, cell0_10, cell0_11, cell0_12].drop 0).take (Try.prog.cellsOf 22)) = some ye0_3_0 := e0_3_0
  rw [ze0_3_0] at e0_3_0
  replace e0_3_0 : DataW.trod enc Try.prog W 0 (fun _ => true) true m0_3 22 [cell0_9] = some ye0_3_0 := e0_3_0
  obtain ⟨A0_9, c0_9, l0_9, q0_9, hr0_9, hc0_9, hm0_9, w0_9⟩ := leaf_ints Try.underlying22 Try.underlying5 (by kernel_rfl) e0_3_0
  obtain ⟨ye0_3_1, e0_3_1⟩ := g0_3 1 _ rfl
  have ze0_3_1 : Try.prog.cellsOf 22 = 1 := by kernel_rfl
  replace e0_3_1 : DataW.trod enc Try.prog W 0 (fun _ => true) true m0_3 22 (([cell0_9, cell0_10, cell0_11, cell0_12].drop 1).take (Try.prog.cellsOf 22)) = some ye0_3_1 := e0_3_1
  rw [ze0_3_1] at e0_3_1
  replace e0_3_1 : DataW.trod enc Try.prog W 0 (fun _ => true) true m0_3 22 [cell0_10] = some ye0_3_1 := e0_3_1
  obtain ⟨A0_10, c0_10, l0_10, q0_10, hr0_10, hc0_10, hm0_10, w0_10⟩ := leaf_ints Try.underlying22 Try.underlying5 (by kernel_rfl) e0_3_1
  obtain ⟨ye0_3_2, e0_3_2⟩ := g0_3 2 _ rfl
  have ze0_3_2 : Try.prog.cellsOf 3 = 1 := by kernel_rfl
  replace e0_3_2 : DataW.trod enc Try.prog W 0 (fun _ => true) true m0_3 3 (([cell0_9, cell0_10, cell0_11, cell0_12].drop 2).take (Try.prog.cellsOf 3)) = some ye0_3_2 := e0_3_2
  rw [ze0_3_2] at e0_3_2
  replace e0_3_2 : DataW.trod enc Try.prog W 0 (fun _ => true) true m0_3 3 [cell0_11] = some ye0_3_2 := e0_3_2
  obtain ⟨a0_11, q0_11, w0_11⟩ := leaf_int Try.underlying3 e0_3_2
  obtain ⟨ye0_3_3, e0_3_3⟩ := g0_3 3 _ rfl
  have ze0_3_3 : Try.prog.cellsOf 3 = 1 := by kernel_rfl
  replace e0_3_3 : DataW.trod enc Try.prog W 0 (fun _ => true) true m0_3 3 (([cell0_9, cell0_10, cell0_11, cell0_12].drop 3).take (Try.prog.cellsOf 3)) = some ye0_3_3 := e0_3_3
  rw [ze0_3_3] at e0_3_3
  replace e0_3_3 : DataW.trod enc Try.prog W 0 (fun _ => true) true m0_3 3 [cell0_12] = some ye0_3_3 := e0_3_3
  obtain ⟨a0_12, q0_12, w0_12⟩ := leaf_int Try.underlying3 e0_3_3
  obtain ⟨ye0_4, e0_4⟩ := g0 4 _ rfl
  have ze0_4 : Try.prog.cellsOf 34 = 14 := by kernel_rfl
  replace e0_4 : DataW.trod enc Try.prog W 0 (fun _ => true) true m0 34 (([cell0_0, cell0_1, cell0_2, cell0_3, cell0_4, cell0_5, cell0_6, cell0_7, cell0_8, cell0_9, cell0_10, cell0_11, cell0_12, cell0_13, cell0_14, cell0_15, cell0_16, cell0_17, cell0_18, cell0_19, cell0_20, cell0_21, cell0_22, cell0_23, cell0_24, cell0_25, cell0_26].drop 13).take (Try.prog.cellsOf 34)) = some ye0_4 := e0_4
  rw [ze0_4] at e0_4
  replace e0_4 : DataW.trod enc Try.prog W 0 (fun _ => true) true m0 34 [cell0_13, cell0_14, cell0_15, cell0_16, cell0_17, cell0_18, cell0_19, cell0_20, cell0_21, cell0_22, cell0_23, cell0_24, cell0_25, cell0_26] = some ye0_4 := e0_4
  obtain ⟨m0_4, g0_4⟩ := leaf_field Try.underlying34 e0_4
  obtain ⟨ye0_4_0, e0_4_0⟩ := g0_4 0 _ rfl
  have ze0_4_0 : Try.prog.cellsOf 3 = 1 := by kernel_rfl
  replace e0_4_0 : DataW.trod enc Try.prog W 0 (fun _ => true) true m0_4 3 (([cell0_13, cell0_14, cell0_15, cell0_16, cell0_17, cell0_18, cell0_19, cell0_20, cell0_21, cell0_22, cell0_23, cell0_24, cell0_25, cell0_26].drop 0).take (Try.prog.cellsOf 3)) = some ye0_4_0 := e0_4_0
  rw [ze0_4_0] at e0_4_0
  replace e0_4_0 : DataW.trod enc Try.prog W 0 (fun _ => true) true m0_4 3 [cell0_13] = some ye0_4_0 := e0_4_0
  obtain ⟨a0_13, q0_13, w0_13⟩ := leaf_int Try.underlying3 e0_4_0
  obtain ⟨ye0_4_1, e0_4_1⟩ := g0_4 1 _ rfl
  have ze0_4_1 : Try.prog.cellsOf 3 = 1 := by kernel_rfl
  replace e0_4_1 : DataW.trod enc Try.prog W 0 (fun _ => true) true m0_4 3 (([cell0_13, cell0_14, cell0_15, cell0_16, cell0_17, cell0_18, cell0_19, cell0_20, cell0_21, cell0_22, cell0_23, cell0_24, cell0_25, cell0_26].drop 1).take (Try.prog.cellsOf 3)) = some ye0_4_1 := e0_4_1
  rw [ze0_4_1] at e0_4_1
  replace e0_4_1 : DataW.trod enc Try.prog W 0 (fun _ => true) true m0_4 3 [cell0_14] = some ye0_4_1 := e0_4_1
  obtain ⟨a0_14, q0_14, w0_14⟩ := leaf_int Try.underlying3 e0_4_1
  obtain ⟨ye0_4_2, e0_4_2⟩ := g0_4 2 _ rfl
  have ze0_4_2 : Try.prog.cellsOf 3 = 1 := by kernel_rfl
  replace e0_4_2 : DataW.trod enc Try.prog W 0 (fun _ => true) true m0_4 3 (([cell0_13, cell0_14, cell0_15, cell0_16, cell0_17, cell0_18, cell0_19, cell0_20, cell0_21, cell0_22, cell0_23, cell0_24, cell0_25, cell0_26].drop 2).take (Try.prog.cellsOf 3)) = some ye0_4_2 := e0_4_2
  rw [ze0_4_2] at e0_4_2
  replace e0_4_2 : DataW.trod enc Try.prog W 0 (fun _ => true) true m0_4 3 [cell0_15] = some ye0_4_2 := e0_4_2
  obtain ⟨a0_15, q0_15, w0_15⟩ := leaf_int Try.underlying3 e0_4_2
  obtain ⟨ye0_4_3, e0_4_3⟩ := g0_4 3 _ rfl
  have ze0_4_3 : Try.prog.cellsOf 25 = 1 := by kernel_rfl
  replace e0_4_3 : DataW.trod enc Try.prog W 0 (fun _ => true) true m0_4 25 (([cell0_13, cell0_14, cell0_15, cell0_16, cell0_17, cell0_18, cell0_19, cell0_20, cell0_21, cell0_22, cell0_23, cell0_24, cell0_25, cell0_26].drop 3).take (Try.prog.cellsOf 25)) = some ye0_4_3 := e0_4_3
  rw [ze0_4_3] at e0_4_3
  replace e0_4_3 : DataW.trod enc Try.prog W 0 (fun _ => true) true m0_4 25 [cell0_16] = some ye0_4_3 := e0_4_3
  obtain ⟨a0_16, q0_16, w0_16⟩ := leaf_int Try.underlying25 e0_4_3
  obtain ⟨ye0_4_4, e0_4_4⟩ := g0_4 4 _ rfl
  have ze0_4_4 : Try.prog.cellsOf 3 = 1 := by kernel_rfl
  replace e0_4_4 : DataW.trod enc Try.prog W 0 (fun _ => true) true m0_4 3 (([cell0_13, cell0_14, cell0_15, cell0_16, cell0_17, cell0_18, cell0_19, cell0_20, cell0_21, cell0_22, cell0_23, cell0_24, cell0_25, cell0_26].drop 4).take (Try.prog.cellsOf 3)) = some ye0_4_4 := e0_4_4
  rw [ze0_4_4] at e0_4_4
  replace e0_4_4 : DataW.trod enc Try.prog W 0 (fun _ => true) true m0_4 3 [cell0_17] = some ye0_4_4 := e0_4_4
  obtain ⟨a0_17, q0_17, w0_17⟩ := leaf_int Try.underlying3 e0_4_4
  obtain ⟨ye0_4_5, e0_4_5⟩ := g0_4 5 _ rfl
  have ze0_4_5 : Try.prog.cellsOf 3 = 1 := by kernel_rfl
  replace e0_4_5 : DataW.trod enc Try.prog W 0 (fun _ => true) true m0_4 3 (([cell0_13, cell0_14, cell0_15, cell0_16, cell0_17, cell0_18, cell0_19, cell0_20, cell0_21, cell0_22, cell0_23, cell0_24, cell0_25, cell0_26].drop 5).take (Try.prog.cellsOf 3)) = some ye0_4_5 := e0_4_5
  rw [ze0_4_5] at e0_4_5
  replace e0_4_5 : DataW.trod enc Try.prog W 0 (fun _ => true) true m0_4 3 [cell0_18] = some ye0_4_5 := e0_4_5
  obtain ⟨a0_18, q0_18, w0_18⟩ := leaf_int Try.underlying3 e0_4_5
  obtain ⟨ye0_4_6, e0_4_6⟩ := g0_4 6 _ rfl
  have ze0_4_6 : Try.prog.cellsOf 3 = 1 := by kernel_rfl
  replace e0_4_6 : DataW.trod enc Try.prog W 0 (fun _ => true) true m0_4 3 (([cell0_13, cell0_14, cell0_15, cell0_16, cell0_17, cell0_18, cell0_19, cell0_20, cell0_21, cell0_22, cell0_23, cell0_24, cell0_25, cell0_26].drop 6).take (Try.prog.cellsOf 3)) = some ye0_4_6 := e0_4_6
  rw [ze0_4_6] at e0_4_6
  replace e0_4_6 : DataW.trod enc Try.prog W 0 (fun _ => true) true m0_4 3 [cell0_19] = some ye0_4_6 := e0_4_6
  obtain ⟨a0_19, q0_19, w0_19⟩ := leaf_int Try.underlying3 e0_4_6
  obtain ⟨ye0_4_7, e0_4_7⟩ := g0_4 7 _ rfl
  have ze0_4_7 : Try.prog.cellsOf 25 = 1 := by kernel_rfl
  replace e0_4_7 : DataW.trod enc Try.prog W 0 (fun _ => true) true m0_4 25 (([cell0_13, cell0_14, cell0_15, cell0_16, cell0_17, cell0_18, cell0_19, cell0_20, cell0_21, cell0_22, cell0_23, cell0_24, cell0_25, cell0_26].drop 7).take (Try.prog.cellsOf 25)) = some ye0_4_7 := e0_4_7
  rw [ze0_4_7] at e0_4_7
  replace e0_4_7 : DataW.trod enc Try.prog W 0 (fun _ => true) true m0_4 25 [cell0_20] = some ye0_4_7 := e0_4_7
  obtain ⟨a0_20, q0_20, w0_20⟩ := leaf_int Try.underlying25 e0_4_7
  obtain ⟨ye0_4_8, e0_4_8⟩ := g0_4 8 _ rfl
  have ze0_4_8 : Try.prog.cellsOf 3 = 1 := by kernel_rfl
  replace e0_4_8 : DataW.trod enc Try.prog W 0 (fun _ => true) true m0_4 3 (([cell0_13, cell0_14, cell0_15, cell0_16, cell0_17, cell0_18, cell0_19, cell0_20, cell0_21, cell0_22, cell0_23, cell0_24, cell0_25, cell0_26].drop 8).take (Try.prog.cellsOf 3)) = some ye0_4_8 := e0_4_8
  rw [ze0_4_8] at e0_4_8
  replace e0_4_8 : DataW.trod enc Try.prog W 0 (fun _ => true) true m0_4 3 [cell0_21] = some ye0_4_8 := e0_4_8
  obtain ⟨a0_21, q0_21, w0_21⟩ := leaf_int Try.underlying3 e0_4_8
  obtain ⟨ye0_4_9, e0_4_9⟩ := g0_4 9 _ rfl
  have ze0_4_9 : Try.prog.cellsOf 3 = 1 := by kernel_rfl
  replace e0_4_9 : DataW.trod enc Try.prog W 0 (fun _ => true) true m0_4 3 (([cell0_13, cell0_14, cell0_15, cell0_16, cell0_17, cell0_18, cell0_19, cell0_20, cell0_21, cell0_22, cell0_23, cell0_24, cell0_25, cell0_26].drop 9).take (Try.prog.cellsOf 3)) = some ye0_4_9 := e0_4_9
  rw [ze0_4_9] at e0_4_9
  replace e0_4_9 : DataW.trod enc Try.prog W 0 (fun _ => true) true m0_4 3 [cell0_22] = some ye0_4_9 := e0_4_9
  obtain ⟨a0_22, q0_22, w0_22⟩ := leaf_int Try.underlying3 e0_4_9
  obtain ⟨ye0_4_10, e0_4_10⟩ := g0_4 10 _ rfl
  have ze0_4_10 : Try.prog.cellsOf 3 = 1 := by kernel_rfl
  replace e0_4_10 : DataW.trod enc Try.prog W 0 (fun _ => true) true m0_4 3 (([cell0_13, cell0_14, cell0_15, cell0_16, cell0_17, cell0_18, cell0_19, cell0_20, cell0_21, cell0_22, cell0_23, cell0_24, cell0_25, cell0_26].drop 10).take (Try.prog.cellsOf 3)) = some ye0_4_10 := e0_4_10
  rw [ze0_4_10] at e0_4_10
  replace e0_4_10 : DataW.trod enc Try.prog W 0 (fun _ => true) true m0_4 3 [cell0_23] = some ye0_4_10 := e0_4_10
  obtain ⟨a0_23, q0_23, w0_23⟩ := leaf_int Try.underlying3 e0_4_10
  obtain ⟨ye0_4_11, e0_4_11⟩ := g0_4 11 _ rfl
  have ze0_4_11 : Try.prog.cellsOf 3 = 1 := by kernel_rfl
  replace e0_4_11 : DataW.trod enc Try.prog W 0 (fun _ => true) true m0_4 3 (([cell0_13, cell0_14, cell0_15, cell0_16, cell0_17, cell0_18, cell0_19, cell0_20, cell0_21, cell0_22, cell0_23, cell0_24, cell0_25, cell0_26].drop 11).take (Try.prog.cellsOf 3)) = some ye0_4_11 := e0_4_11
  rw [ze0_4_11] at e0_4_11
  replace e0_4_11 : DataW.trod enc Try.prog W 0 (fun _ => true) true m0_4 3 [cell0_24] = some ye0_4_11 := e0_4_11
  obtain ⟨a0_24, q0_24, w0_24⟩ := leaf_int Try.underlying3 e0_4_11
  obtain ⟨ye0_4_12, e0_4_12⟩ := g0_4 12 _ rfl
  have ze0_4_12 : Try.prog.cellsOf 3 = 1 := by kernel_rfl
  replace e0_4_12 : DataW.trod enc Try.prog W 0 (fun _ => true) true m0_4 3 (([cell0_13, cell0_14, cell0_15, cell0_16, cell0_17, cell0_18, cell0_19, cell0_20, cell0_21, cell0_22, cell0_23, cell0_24, cell0_25, cell0_26].drop 12).take (Try.prog.cellsOf 3)) = some ye0_4_12 := e0_4_12
  rw [ze0_4_12] at e0_4_12
  replace e0_4_12 : DataW.trod enc Try.prog W 0 (fun _ => true) true m0_4 3 [cell0_25] = some ye0_4_12 := e0_4_12
  obtain ⟨a0_25, q0_25, w0_25⟩ := leaf_int Try.underlying3 e0_4_12
  obtain ⟨ye0_4_13, e0_4_13⟩ := g0_4 13 _ rfl
  have ze0_4_13 : Try.prog.cellsOf 22 = 1 := by kernel_rfl
  replace e0_4_13 : DataW.trod enc Try.prog W 0 (fun _ => true) true m0_4 22 (([cell0_13, cell0_14, cell0_15, cell0_16, cell0_17, cell0_18, cell0_19, cell0_20, cell0_21, cell0_22, cell0_23, cell0_24, cell0_25, cell0_26].drop 13).take (Try.prog.cellsOf 22)) = some ye0_4_13 := e0_4_13
  rw [ze0_4_13] at e0_4_13
  replace e0_4_13 : DataW.trod enc Try.prog W 0 (fun _ => true) true m0_4 22 [cell0_26] = some ye0_4_13 := e0_4_13
  obtain ⟨A0_26, c0_26, l0_26, q0_26, hr0_26, hc0_26, hm0_26, w0_26⟩ := leaf_ints Try.underlying22 Try.underlying5 (by kernel_rfl) e0_4_13
  subst q0_0
  subst q0_1
  subst q0_2
  subst q0_3
  subst q0_4
  subst q0_5
  subst q0_6
  subst q0_7
  subst q0_8
  subst q0_9
  subst q0_10
  subst q0_11
  subst q0_12
  subst q0_13
  subst q0_14
  subst q0_15
  subst q0_16
  subst q0_17
  subst q0_18
  subst q0_19
  subst q0_20
  subst q0_21
  subst q0_22
  subst q0_23
  subst q0_24
  subst q0_25
  subst q0_26
  have k1 := h1
  have lt1 : ∀ x ∈ p1, x.block < W.heap.size := by obtain ⟨m, hm⟩ := k1; exact DataW.trod_lt m _ _ _ hm
  obtain ⟨a1, rfl, _, _, w1⟩ := open_int Try.underlying25 (hval 1 25 v1 rfl rfl) h1
  have k2 := h2
  have lt2 : ∀ x ∈ p2, x.block < W.heap.size := by obtain ⟨m, hm⟩ := k2; exact DataW.trod_lt m _ _ _ hm
  obtain ⟨a2, rfl, _, _, w2⟩ := open_int Try.underlying3 (hval 2 3 v2 rfl rfl) h2
  have k3 := h3
  have lt3 : ∀ x ∈ p3, x.block < W.heap.size := by obtain ⟨m, hm⟩ := k3; exact DataW.trod_lt m _ _ _ hm
  obtain ⟨a3, rfl, _, _, w3⟩ := open_int Try.underlying25 (hval 3 25 v3 rfl rfl) h3
  clear hA0 hval0 hsz0
  have h := Pure.BusKeeps l0_0 a0_1 a0_2 a0_3 l0_4 a0_5 a0_6 l0_7 l0_8 l0_9 l0_10 a0_11 a0_12 a0_13 a0_14 a0_15 a0_16 a0_17 a0_18 a0_19 a0_20 a0_21 a0_22 a0_23 a0_24 a0_25 l0_26 a1 a2 a3 hm0_0 w0_0 w0_1 w0_2 hm0_4 w0_4 w0_5 w0_6 hm0_7 w0_7 hm0_8 w0_8 hm0_9 w0_9 hm0_10 w0_10 w0_11 w0_12 w0_13 w0_14 w0_15 w0_16 w0_17 w0_18 w0_19 w0_20 w0_21 w0_22 w0_23 w0_24 w0_25 hm0_26 w0_26 w1 w2 w3
  refine (drawbridgelaw13_BusKeeps.calls _ _ l0_0 a0_1 a0_2 a0_3 _ _ l0_4 a0_5 a0_6 _ _ l0_7 _ _ l0_8 _ _ l0_9 _ _ l0_10 a0_11 a0_12 a0_13 a0_14 a0_15 a0_16 a0_17 a0_18 a0_19 a0_20 a0_21 a0_22 a0_23 a0_24 a0_25 _ _ l0_26 a1 a2 a3 true W hr0_0 hc0_0 hr0_4 hc0_4 hr0_7 hc0_7 hr0_8 hc0_8 hr0_9 hc0_9 hr0_10 hc0_10 hr0_26 hc0_26 h).mono fun e W' ⟨he, hd⟩ => ?_
  subst he
  have bel : Below W.heap.size W W' := hd
  exact ⟨_, rfl, _, _, _, [], _, [], hW', trodAll_mk1 (shut_bool Try.underlying4 _), (trodAll_cons_mk (Below.trod laidOut (by kernel_rfl) (of_decide_eq_true (by kernel_rfl)) k0 bel lt0) (trodAll_cons_mk (Below.trod laidOut (by kernel_rfl) (of_decide_eq_true (by kernel_rfl)) k1 bel lt1) (trodAll_cons_mk (Below.trod laidOut (by kernel_rfl) (of_decide_eq_true (by kernel_rfl)) k2 bel lt2) (trodAll_cons_mk (Below.trod laidOut (by kernel_rfl) (of_decide_eq_true (by kernel_rfl)) k3 bel lt3) trodAll_mk0)))), rfl, bel.frame _, fun h => by cases h⟩
theorem over : Rows.busKeepsRow.holds Try.pinned (OpenSpec.ofChange Rows.busKeepsSpec) :=
  OpenClaim.holds_of_wide 3 Try.f3 rfl rfl rfl rfl rfl rfl rfl ⟨rfl, rfl, rfl, rfl, rfl⟩ rfl rfl rfl rfl rfl (by kernel_rfl) Try.func3 (by kernel_rfl)
    (of_decide_eq_true (by kernel_rfl)) (by unfold Func.isWrapper; first | (rw [if_pos (by decide +kernel)]; kernel_rfl) | (rw [if_neg (by decide +kernel)]; exact ⟨rfl, rfl⟩))
    (fun os started H enc _ => lifted os started H enc)
theorem proved : Rows.BusKeepsSaid := over
#print axioms proved
end Go.Proofs.Ytphcckhegfgbgaa.busKeeps
namespace Go.Proofs.Ytphcckhegfgbgaa
/-- The row, under a short name, for the claim. -/
theorem busKeeps_holds : Rows.BusKeepsSaid := busKeeps.proved
end Go.Proofs.Ytphcckhegfgbgaa
