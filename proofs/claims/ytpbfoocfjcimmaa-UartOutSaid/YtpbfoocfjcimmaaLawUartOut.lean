-- Ytpbfoocfjcimmaa: written by a program for this claim
import Derived.Test.YtpbfoocfjcimmaaRows
import Derived.Test.YtpbfoocfjcimmaaSaidUartOut
import Derived.Test.YtpbfoocfjcimmaaPureUartOut
import Derived.Test.YtpbfoocfjcimmaaOpen
import Derived.Test.YtpbfoocfjcimmaaFs
import Derived.WalkKit
import Derived.ProofKit
import Derived.OpenShut
import Derived.ShutString
import Derived.ChangeOld
import Derived.Below
import Derived.SizedLaws
namespace Go.Proofs.Ytpbfoocfjcimmaa.uartOut
open Go.RowKit Go.Proofs.Ytpbfoocfjcimmaa.Q Go.Proofs.YtpbfoocfjcimmaaW.PrintWords Go.Proofs.YtpbfoocfjcimmaaW.PrintLast Go.Proofs.YtpbfoocfjcimmaaW.PrintMore Go.Proofs.Ytpbfoocfjcimmaa.L Go.Proofs.Ytpbfoocfjcimmaa.Pure
open Go.ChangeShapes Go.WideShapes Go.ChangeAt
set_option linter.unusedVariables false
theorem own : ownKnob Try.prog.godebug = none := by kernel_rfl
theorem laidOut : laidOutB Try.prog = true := by kernel_rfl
theorem list_4 (L : List Value) (h : L.length = 4) : ∃ c0 c1 c2 c3, L = [c0, c1, c2, c3] := by
  match L, h with
  | [c0, c1, c2, c3], _ => exact ⟨c0, c1, c2, c3, rfl⟩
set_option maxRecDepth 100000 in
set_option maxHeartbeats 4000000 in
theorem lifted (os : Os) (started : os.Started) (H : Type) (enc : TypeId × Value → H) :
    ReturnsInHanded {} Try.checked os 5 .any (Rows.uartOutSpec.pre6 enc Try.prog Try.f5 Rows.uartOutRow.domain false) (Rows.uartOutSpec.post enc Try.prog Try.f5 false true false false) := by
  refine returnsInHanded_of_change_sized (C := Try.checked) own started (by kernel_rfl) Try.func5
    (ChangeSpec.witness6 (enc := enc) (C := Try.checked) false ⟨#[], #[.agg #[.slice none 0 0, .slice none 0 0, .int .i64 0, .int .i64 0], .slice none 0 0], []⟩ 8 (by kernel_rfl) (by kernel_rfl) (by kernel_rfl) (by kernel_rfl)) ?_
  intro W base args ds gs before hval0 hW hcnd hsz0 _
  have hval : ∀ (j : Nat) t v, Try.f5.params[j]? = some t → args[j]? = some v → Value.okWide Try.prog W .any base t v := hval0
  have hW' := hW
  obtain ⟨p, q, hA0, hV, rfl, hfz, hnd⟩ := hW
  have hA : DataW.TrodAll enc Try.prog W 0 (fun _ => true) true Try.f5.params.toList args.toList ds p := hA0
  rw [Try.params5] at hA hval
  obtain ⟨v0, vs0, d0, ds0, p0, q0, hargs, rfl, rfl, h0, r0⟩ := trodAll_cons hA
  obtain ⟨v1, vs1, d1, ds1, p1, q1, rfl, rfl, rfl, h1, r1⟩ := trodAll_cons r0
  obtain ⟨rfl, rfl, rfl⟩ := trodAll_nil r1
  obtain rfl : args = #[v0, v1] := by cases args; simp_all
  obtain ⟨rfl, rfl⟩ := trodVars_none hV
  have k0 := h0
  have lt0 : ∀ x ∈ p0, x.block < W.heap.size := by obtain ⟨m, hm⟩ := k0; exact DataW.trod_lt m _ _ _ hm
  obtain ⟨fuel0, hf0⟩ := h0
  obtain ⟨cs0, rfl, hs0⟩ := okWide_struct Try.underlying26 (hval 0 26 v0 rfl rfl)
  obtain ⟨L0⟩ := cs0
  have hl0 : L0.length = 4 := hs0.trans (by kernel_rfl)
  obtain ⟨cell0_0, cell0_1, cell0_2, cell0_3, rfl⟩ := list_4 L0 hl0
  replace hf0 : DataW.trod enc Try.prog W 0 (fun _ => true) true fuel0 26 [cell0_0, cell0_1, cell0_2, cell0_3] = some _ := hf0
  obtain ⟨m0, g0⟩ := leaf_field Try.underlying26 hf0
  obtain ⟨ye0_0, e0_0⟩ := g0 0 _ rfl
  have ze0_0 : Try.prog.cellsOf 24 = 1 := by kernel_rfl
  replace e0_0 : DataW.trod enc Try.prog W 0 (fun _ => true) true m0 24 (([cell0_0, cell0_1, cell0_2, cell0_3].drop 0).take (Try.prog.cellsOf 24)) = some ye0_0 := e0_0
  rw [ze0_0] at e0_0
  replace e0_0 : DataW.trod enc Try.prog W 0 (fun _ => true) true m0 24 [cell0_0] = some ye0_0 := e0_0
  obtain ⟨A0_0, c0_0, l0_0, q0_0, hr0_0, hc0_0, hm0_0, w0_0⟩ := leaf_ints Try.underlying24 Try.underlying5 (by kernel_rfl) e0_0
  obtain ⟨ye0_1, e0_1⟩ := g0 1 _ rfl
  have ze0_1 : Try.prog.cellsOf 24 = 1 := by kernel_rfl
  replace e0_1 : DataW.trod enc Try.prog W 0 (fun _ => true) true m0 24 (([cell0_0, cell0_1, cell0_2, cell0_3].drop 1).take (Try.prog.cellsOf 24)) = some ye0_1 := e0_1
  rw [ze0_1] at e0_1
  replace e0_1 : DataW.trod enc Try.prog W 0 (fun _ => true) true m0 24 [cell0_1] = some ye0_1 := e0_1
  obtain ⟨A0_1, c0_1, l0_1, q0_1, hr0_1, hc0_1, hm0_1, w0_1⟩ := leaf_ints Try.underlying24 Try.underlying5 (by kernel_rfl) e0_1
  obtain ⟨ye0_2, e0_2⟩ := g0 2 _ rfl
  have ze0_2 : Try.prog.cellsOf 3 = 1 := by kernel_rfl
  replace e0_2 : DataW.trod enc Try.prog W 0 (fun _ => true) true m0 3 (([cell0_0, cell0_1, cell0_2, cell0_3].drop 2).take (Try.prog.cellsOf 3)) = some ye0_2 := e0_2
  rw [ze0_2] at e0_2
  replace e0_2 : DataW.trod enc Try.prog W 0 (fun _ => true) true m0 3 [cell0_2] = some ye0_2 := e0_2
  obtain ⟨a0_2, q0_2, w0_2⟩ := leaf_int Try.underlying3 e0_2
  obtain ⟨ye0_3, e0_3⟩ := g0 3 _ rfl
  have ze0_3 : Try.prog.cellsOf 3 = 1 := by kernel_rfl
  replace e0_3 : DataW.trod enc Try.prog W 0 (fun _ => true) true m0 3 (([cell0_0, cell0_1, cell0_2, cell0_3].drop 3).take (Try.prog.cellsOf 3)) = some ye0_3 := e0_3
  rw [ze0_3] at e0_3
  replace e0_3 : DataW.trod enc Try.prog W 0 (fun _ => true) true m0 3 [cell0_3] = some ye0_3 := e0_3
  obtain ⟨a0_3, q0_3, w0_3⟩ := leaf_int Try.underlying3 e0_3
  subst q0_0
  subst q0_1
  subst q0_2
  subst q0_3
  have k1 := h1
  have lt1 : ∀ x ∈ p1, x.block < W.heap.size := by obtain ⟨m, hm⟩ := k1; exact DataW.trod_lt m _ _ _ hm
  obtain ⟨fuel1, hf1⟩ := h1
  obtain ⟨aq1, lq1, cq1, rfl⟩ := okWide_slice Try.underlying24 (hval 1 24 v1 rfl rfl)
  replace hf1 : DataW.trod enc Try.prog W 0 (fun _ => true) true fuel1 24 [.slice aq1 lq1 cq1] = some _ := hf1
  obtain ⟨A1, c1, l1, eq1, hr1, hc1, hm1, w1⟩ := leaf_ints Try.underlying24 Try.underlying5 (by kernel_rfl) hf1
  obtain ⟨rfl, rfl, rfl⟩ : aq1 = A1 ∧ lq1 = l1.length ∧ cq1 = c1 := by injection eq1 with z0 z1 z2; exact ⟨z0, z1, z2⟩
  clear hA0 hval0 hsz0
  obtain ⟨k, h⟩ := Pure.UartOut l0_0 l0_1 a0_2 a0_3 l1 hm0_0 w0_0 hm0_1 w0_1 w0_2 w0_3 hm1 w1
  refine (drawbridgelaw11_UartOut.calls k (fun j_ => j_ < W.heap.size) _ _ l0_0 (fun j_ => j_ < W.heap.size) _ _ l0_1 a0_2 a0_3 _ _ l1 true W (Kd.V_mk hc0_0 (F_in hr0_0)) (Kd.V_mk hc0_1 (F_in hr0_1)) hr1 hc1 h).mono fun e W' ⟨he, hd⟩ => ?_
  subst he
  have bel : Below W.heap.size W W' := hd
  exact ⟨_, rfl, _, _, _, [], _, [], hW', trodAll_mk1 (shut_bool Try.underlying4 _), (trodAll_cons_mk (Below.trod laidOut (by kernel_rfl) (of_decide_eq_true (by kernel_rfl)) k0 bel lt0) (trodAll_cons_mk (Below.trod laidOut (by kernel_rfl) (of_decide_eq_true (by kernel_rfl)) k1 bel lt1) trodAll_mk0)), rfl, bel.frame _, fun h => by cases h⟩
theorem over : Rows.uartOutRow.holds Try.pinned (OpenSpec.ofChange Rows.uartOutSpec) :=
  OpenClaim.holds_of_wide 5 Try.f5 rfl rfl rfl rfl rfl rfl rfl ⟨rfl, rfl, rfl, rfl, rfl⟩ rfl rfl rfl rfl rfl (by kernel_rfl) Try.func5 (by kernel_rfl)
    (of_decide_eq_true (by kernel_rfl)) (by unfold Func.isWrapper; first | (rw [if_pos (by decide +kernel)]; kernel_rfl) | (rw [if_neg (by decide +kernel)]; exact ⟨rfl, rfl⟩))
    (fun os started H enc _ => lifted os started H enc)
theorem proved : Rows.UartOutSaid := over
#print axioms proved
end Go.Proofs.Ytpbfoocfjcimmaa.uartOut
namespace Go.Proofs.Ytpbfoocfjcimmaa
/-- The row, under a short name, for the claim. -/
theorem uartOut_holds : Rows.UartOutSaid := uartOut.proved
end Go.Proofs.Ytpbfoocfjcimmaa
