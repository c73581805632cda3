import Derived.Test.YtgcpedenlbcdgaaRows
import Derived.Test.YtgcpedenlbcdgaaHSaidDecodePutBack
import Derived.Test.YtgcpedenlbcdgaaHPureDecodePutBack
import Derived.Test.YtgcpedenlbcdgaaHZ1
import Derived.WalkKit
import Derived.ProofKit
import Derived.OpenShut
import Derived.ShutString
import Derived.ChangeOld
import Derived.Below
import Derived.SizedLaws
-- Ytgcpedenlbcdgaa: written by a program for this claim
namespace Go.Proofs.Ytgcpedenlbcdgaa.decodePutBack
open Go.RowKit Go.Proofs.Ytgcpedenlbcdgaa.Q Go.Proofs.YtgcpedenlbcdgaaW.PrintWords Go.Proofs.YtgcpedenlbcdgaaW.PrintLast Go.Proofs.YtgcpedenlbcdgaaW.PrintMore Go.Proofs.Ytgcpedenlbcdgaa.L Go.Proofs.Ytgcpedenlbcdgaa.Pure
open Go.ChangeShapes Go.WideShapes Go.ChangeAt
set_option linter.unusedVariables false
theorem own : ownKnob Try.prog.godebug = none := by kernel_rfl
theorem laidOut : laidOutB Try.prog = true := by kernel_rfl
theorem list_7 (L : List Value) (h : L.length = 7) : ∃ c0 c1 c2 c3 c4 c5 c6, L = [c0, c1, c2, c3, c4, c5, c6] := by
  match L, h with
  | [c0, c1, c2, c3, c4, c5, c6], _ => exact ⟨c0, c1, c2, c3, c4, c5, c6, rfl⟩
set_option maxRecDepth 100000 in
set_option maxHeartbeats 4000000 in
theorem lifted (os : Os) (started : os.Started) (H : Type) (enc : TypeId × Value → H) :
    ReturnsInHanded {} Try.checked os 7 .any (Rows.decodePutBackSpec.pre6 enc Try.prog Try.f7 Rows.decodePutBackRow.domain false) (Rows.decodePutBackSpec.post enc Try.prog Try.f7 false true false false) := by
  refine returnsInHanded_of_change_sized (C := Try.checked) own started (by kernel_rfl) Try.func7
    (ChangeSpec.witness6 (enc := enc) (C := Try.checked) false ⟨#[], #[.agg #[.int .i64 0, .int .i64 0, .bool false, .int .i64 0, .int .i64 0, .int .i64 0, .int .u64 0]], []⟩ 8 (by kernel_rfl) (by kernel_rfl) (by kernel_rfl) (by kernel_rfl)) ?_
  intro W base args ds gs before hval0 hW hcnd hsz0 _
  have hval : ∀ (j : Nat) t v, Try.f7.params[j]? = some t → args[j]? = some v → Value.okWide Try.prog W .any base t v := hval0
  have hW' := hW
  obtain ⟨p, q, hA0, hV, rfl, hfz, hnd⟩ := hW
  have hA : DataW.TrodAll enc Try.prog W 0 (fun _ => true) true Try.f7.params.toList args.toList ds p := hA0
  rw [Try.params7] at hA hval
  obtain ⟨v0, vs0, d0, ds0, p0, q0, hargs, rfl, rfl, h0, r0⟩ := trodAll_cons hA
  obtain ⟨rfl, rfl, rfl⟩ := trodAll_nil r0
  obtain rfl : args = #[v0] := by cases args; simp_all
  obtain ⟨rfl, rfl⟩ := trodVars_none hV
  have k0 := h0
  have lt0 : ∀ x ∈ p0, x.block < W.heap.size := by obtain ⟨m, hm⟩ := k0; exact DataW.trod_lt m _ _ _ hm
  obtain ⟨fuel0, hf0⟩ := h0
  obtain ⟨cs0, rfl, hs0⟩ := okWide_struct Try.underlying30 (hval 0 30 v0 rfl rfl)
  obtain ⟨L0⟩ := cs0
  have hl0 : L0.length = 7 := hs0.trans (by kernel_rfl)
  obtain ⟨cell0_0, cell0_1, cell0_2, cell0_3, cell0_4, cell0_5, cell0_6, rfl⟩ := list_7 L0 hl0
  replace hf0 : DataW.trod enc Try.prog W 0 (fun _ => true) true fuel0 30 [cell0_0, cell0_1, cell0_2, cell0_3, cell0_4, cell0_5, cell0_6] = some _ := hf0
  obtain ⟨m0, g0⟩ := leaf_field Try.underlying30 hf0
  obtain ⟨ye0_0, e0_0⟩ := g0 0 _ rfl
  have ze0_0 : Try.prog.cellsOf 27 = 1 := by kernel_rfl
  replace e0_0 : DataW.trod enc Try.prog W 0 (fun _ => true) true m0 27 (([cell0_0, cell0_1, cell0_2, cell0_3, cell0_4, cell0_5, cell0_6].drop 0).take (Try.prog.cellsOf 27)) = some ye0_0 := e0_0
  rw [ze0_0] at e0_0
  replace e0_0 : DataW.trod enc Try.prog W 0 (fun _ => true) true m0 27 [cell0_0] = some ye0_0 := e0_0
  obtain ⟨a0_0, q0_0, w0_0⟩ := leaf_int Try.underlying27 e0_0
  obtain ⟨ye0_1, e0_1⟩ := g0 1 _ rfl
  have ze0_1 : Try.prog.cellsOf 3 = 1 := by kernel_rfl
  replace e0_1 : DataW.trod enc Try.prog W 0 (fun _ => true) true m0 3 (([cell0_0, cell0_1, cell0_2, cell0_3, cell0_4, cell0_5, cell0_6].drop 1).take (Try.prog.cellsOf 3)) = some ye0_1 := e0_1
  rw [ze0_1] at e0_1
  replace e0_1 : DataW.trod enc Try.prog W 0 (fun _ => true) true m0 3 [cell0_1] = some ye0_1 := e0_1
  obtain ⟨a0_1, q0_1, w0_1⟩ := leaf_int Try.underlying3 e0_1
  obtain ⟨ye0_2, e0_2⟩ := g0 2 _ rfl
  have ze0_2 : Try.prog.cellsOf 4 = 1 := by kernel_rfl
  replace e0_2 : DataW.trod enc Try.prog W 0 (fun _ => true) true m0 4 (([cell0_0, cell0_1, cell0_2, cell0_3, cell0_4, cell0_5, cell0_6].drop 2).take (Try.prog.cellsOf 4)) = some ye0_2 := e0_2
  rw [ze0_2] at e0_2
  replace e0_2 : DataW.trod enc Try.prog W 0 (fun _ => true) true m0 4 [cell0_2] = some ye0_2 := e0_2
  obtain ⟨a0_2, q0_2⟩ := leaf_bool Try.underlying4 e0_2
  obtain ⟨ye0_3, e0_3⟩ := g0 3 _ rfl
  have ze0_3 : Try.prog.cellsOf 3 = 1 := by kernel_rfl
  replace e0_3 : DataW.trod enc Try.prog W 0 (fun _ => true) true m0 3 (([cell0_0, cell0_1, cell0_2, cell0_3, cell0_4, cell0_5, cell0_6].drop 3).take (Try.prog.cellsOf 3)) = some ye0_3 := e0_3
  rw [ze0_3] at e0_3
  replace e0_3 : DataW.trod enc Try.prog W 0 (fun _ => true) true m0 3 [cell0_3] = some ye0_3 := e0_3
  obtain ⟨a0_3, q0_3, w0_3⟩ := leaf_int Try.underlying3 e0_3
  obtain ⟨ye0_4, e0_4⟩ := g0 4 _ rfl
  have ze0_4 : Try.prog.cellsOf 3 = 1 := by kernel_rfl
  replace e0_4 : DataW.trod enc Try.prog W 0 (fun _ => true) true m0 3 (([cell0_0, cell0_1, cell0_2, cell0_3, cell0_4, cell0_5, cell0_6].drop 4).take (Try.prog.cellsOf 3)) = some ye0_4 := e0_4
  rw [ze0_4] at e0_4
  replace e0_4 : DataW.trod enc Try.prog W 0 (fun _ => true) true m0 3 [cell0_4] = some ye0_4 := e0_4
  obtain ⟨a0_4, q0_4, w0_4⟩ := leaf_int Try.underlying3 e0_4
  obtain ⟨ye0_5, e0_5⟩ := g0 5 _ rfl
  have ze0_5 : Try.prog.cellsOf 3 = 1 := by kernel_rfl
  replace e0_5 : DataW.trod enc Try.prog W 0 (fun _ => true) true m0 3 (([cell0_0, cell0_1, cell0_2, cell0_3, cell0_4, cell0_5, cell0_6].drop 5).take (Try.prog.cellsOf 3)) = some ye0_5 := e0_5
  rw [ze0_5] at e0_5
  replace e0_5 : DataW.trod enc Try.prog W 0 (fun _ => true) true m0 3 [cell0_5] = some ye0_5 := e0_5
  obtain ⟨a0_5, q0_5, w0_5⟩ := leaf_int Try.underlying3 e0_5
  obtain ⟨ye0_6, e0_6⟩ := g0 6 _ rfl
  have ze0_6 : Try.prog.cellsOf 28 = 1 := by kernel_rfl
  replace e0_6 : DataW.trod enc Try.prog W 0 (fun _ => true) true m0 28 (([cell0_0, cell0_1, cell0_2, cell0_3, cell0_4, cell0_5, cell0_6].drop 6).take (Try.prog.cellsOf 28)) = some ye0_6 := e0_6
  rw [ze0_6] at e0_6
  replace e0_6 : DataW.trod enc Try.prog W 0 (fun _ => true) true m0 28 [cell0_6] = some ye0_6 := e0_6
  obtain ⟨a0_6, q0_6, w0_6⟩ := leaf_int Try.underlying28 e0_6
  subst q0_0
  subst q0_1
  subst q0_2
  subst q0_3
  subst q0_4
  subst q0_5
  subst q0_6
  clear hA0 hval0 hsz0
  have h := Pure.DecodePutBack a0_0 a0_1 a0_2 a0_3 a0_4 a0_5 a0_6 w0_0 w0_1 w0_3 w0_4 w0_5 w0_6
  refine (drawbridgelaw03_DecodePutBack.calls a0_0 a0_1 a0_2 a0_3 a0_4 a0_5 a0_6 true W h rfl).mono fun e W' ⟨he, hd⟩ => ?_
  subst he
  have bel : Below W.heap.size W W' := hd
  exact ⟨_, rfl, _, _, _, [], _, [], hW', trodAll_mk1 (shut_bool Try.underlying4 _), (trodAll_cons_mk (Below.trod laidOut (by kernel_rfl) (of_decide_eq_true (by kernel_rfl)) k0 bel lt0) trodAll_mk0), rfl, bel.frame _, fun h => by cases h⟩
theorem over : Rows.decodePutBackRow.holds Try.pinned (OpenSpec.ofChange Rows.decodePutBackSpec) :=
  OpenClaim.holds_of_wide 7 Try.f7 rfl rfl rfl rfl rfl rfl rfl ⟨rfl, rfl, rfl, rfl, rfl⟩ rfl rfl rfl rfl rfl (by kernel_rfl) Try.func7 (by kernel_rfl)
    (of_decide_eq_true (by kernel_rfl)) (by unfold Func.isWrapper; first | (rw [if_pos (by decide +kernel)]; kernel_rfl) | (rw [if_neg (by decide +kernel)]; exact ⟨rfl, rfl⟩))
    (fun os started H enc _ => lifted os started H enc)
theorem proved : Rows.DecodePutBackSaid := over
#print axioms proved
end Go.Proofs.Ytgcpedenlbcdgaa.decodePutBack
namespace Go.Proofs.Ytgcpedenlbcdgaa
/-- The row, under a short name, for the claim. -/
theorem decodePutBack_holds : Rows.DecodePutBackSaid := decodePutBack.proved
end Go.Proofs.Ytgcpedenlbcdgaa
