import Derived.Test.YtmlpnjoejdpblaaRows
import Derived.Test.YtmlpnjoejdpblaaPZ11
import Derived.Test.YtmlpnjoejdpblaaPZ2
import Derived.WalkKit
import Derived.ProofKit
import Derived.OpenShut
import Derived.ShutString
import Derived.ChangeOld
import Derived.Below
import Derived.SizedLaws
-- Ytmlpnjoejdpblaa: written by a program for this claim
namespace Go.Proofs.Ytmlpnjoejdpblaa.plicDoes
open Go.RowKit Go.Proofs.Ytmlpnjoejdpblaa.Q Go.Proofs.YtmlpnjoejdpblaaW.PrintWords Go.Proofs.YtmlpnjoejdpblaaW.PrintLast Go.Proofs.YtmlpnjoejdpblaaW.PrintMore Go.Proofs.Ytmlpnjoejdpblaa.L Go.Proofs.Ytmlpnjoejdpblaa.Pure
open Go.ChangeShapes Go.WideShapes Go.ChangeAt
set_option linter.unusedVariables false
theorem own : ownKnob Try.prog.godebug = none := by kernel_rfl
theorem laidOut : laidOutB Try.prog = true := by kernel_rfl
theorem list_5 (L : List Value) (h : L.length = 5) : ∃ c0 c1 c2 c3 c4, L = [c0, c1, c2, c3, c4] := by
  match L, h with
  | [c0, c1, c2, c3, c4], _ => exact ⟨c0, c1, c2, c3, c4, rfl⟩
set_option maxRecDepth 100000 in
set_option maxHeartbeats 4000000 in
theorem lifted (os : Os) (started : os.Started) (H : Type) (enc : TypeId × Value → H) :
    ReturnsInHanded {} Try.checked os 4 .any (Rows.plicDoesSpec.pre6 enc Try.prog Try.f4 Rows.plicDoesRow.domain false) (Rows.plicDoesSpec.post enc Try.prog Try.f4 false true false false) := by
  refine returnsInHanded_of_change_sized (C := Try.checked) own started (by kernel_rfl) Try.func4
    (ChangeSpec.witness6 (enc := enc) (C := Try.checked) false ⟨#[], #[.agg #[.slice none 0 0, .int .i64 0, .int .i64 0, .slice none 0 0, .slice none 0 0], .int .i64 0, .int .u64 0, .int .i64 0, .int .u64 0], []⟩ 8 (by kernel_rfl) (by kernel_rfl) (by kernel_rfl) (by kernel_rfl)) ?_
  intro W base args ds gs before hval0 hW hcnd hsz0 _
  have hval : ∀ (j : Nat) t v, Try.f4.params[j]? = some t → args[j]? = some v → Value.okWide Try.prog W .any base t v := hval0
  have hW' := hW
  obtain ⟨p, q, hA0, hV, rfl, hfz, hnd⟩ := hW
  have hA : DataW.TrodAll enc Try.prog W 0 (fun _ => true) true Try.f4.params.toList args.toList ds p := hA0
  rw [Try.params4] at hA hval
  obtain ⟨v0, vs0, d0, ds0, p0, q0, hargs, rfl, rfl, h0, r0⟩ := trodAll_cons hA
  obtain ⟨v1, vs1, d1, ds1, p1, q1, rfl, rfl, rfl, h1, r1⟩ := trodAll_cons r0
  obtain ⟨v2, vs2, d2, ds2, p2, q2, rfl, rfl, rfl, h2, r2⟩ := trodAll_cons r1
  obtain ⟨v3, vs3, d3, ds3, p3, q3, rfl, rfl, rfl, h3, r3⟩ := trodAll_cons r2
  obtain ⟨v4, vs4, d4, ds4, p4, q4, rfl, rfl, rfl, h4, r4⟩ := trodAll_cons r3
  obtain ⟨rfl, rfl, rfl⟩ := trodAll_nil r4
  obtain rfl : args = #[v0, v1, v2, v3, v4] := by cases args; simp_all
  obtain ⟨rfl, rfl⟩ := trodVars_none hV
  have k0 := h0
  have lt0 : ∀ x ∈ p0, x.block < W.heap.size := by obtain ⟨m, hm⟩ := k0; exact DataW.trod_lt m _ _ _ hm
  obtain ⟨fuel0, hf0⟩ := h0
  obtain ⟨cs0, rfl, hs0⟩ := okWide_struct Try.underlying24 (hval 0 24 v0 rfl rfl)
  obtain ⟨L0⟩ := cs0
  have hl0 : L0.length = 5 := hs0.trans (by kernel_rfl)
  obtain ⟨cell0_0, cell0_1, cell0_2, cell0_3, cell0_4, rfl⟩ := list_5 L0 hl0
  replace hf0 : DataW.trod enc Try.prog W 0 (fun _ => true) true fuel0 24 [cell0_0, cell0_1, cell0_2, cell0_3, cell0_4] = some _ := hf0
  obtain ⟨m0, g0⟩ := field_le Try.underlying24 hf0 (weights_le (j := 0) hsz0 rfl rfl)
  obtain ⟨ye0_0, e0_0, s0_0⟩ := g0 0 _ rfl
  have ze0_0 : Try.prog.cellsOf 22 = 1 := by kernel_rfl
  replace e0_0 : DataW.trod enc Try.prog W 0 (fun _ => true) true m0 22 (([cell0_0, cell0_1, cell0_2, cell0_3, cell0_4].drop 0).take (Try.prog.cellsOf 22)) = some ye0_0 := e0_0
  rw [ze0_0] at e0_0
  replace e0_0 : DataW.trod enc Try.prog W 0 (fun _ => true) true m0 22 [cell0_0] = some ye0_0 := e0_0
  obtain ⟨A0_0, c0_0, l0_0, q0_0, hr0_0, hc0_0, hm0_0, w0_0⟩ := leaf_ints Try.underlying22 Try.underlying3 (by kernel_rfl) e0_0
  have z0_0 : l0_0.length * 8 ≤ reachBytes := ints_le Try.underlying22 (by kernel_rfl) e0_0 q0_0 s0_0
  obtain ⟨ye0_1, e0_1, s0_1⟩ := g0 1 _ rfl
  have ze0_1 : Try.prog.cellsOf 3 = 1 := by kernel_rfl
  replace e0_1 : DataW.trod enc Try.prog W 0 (fun _ => true) true m0 3 (([cell0_0, cell0_1, cell0_2, cell0_3, cell0_4].drop 1).take (Try.prog.cellsOf 3)) = some ye0_1 := e0_1
  rw [ze0_1] at e0_1
  replace e0_1 : DataW.trod enc Try.prog W 0 (fun _ => true) true m0 3 [cell0_1] = some ye0_1 := e0_1
  obtain ⟨a0_1, q0_1, w0_1⟩ := leaf_int Try.underlying3 e0_1
  obtain ⟨ye0_2, e0_2, s0_2⟩ := g0 2 _ rfl
  have ze0_2 : Try.prog.cellsOf 3 = 1 := by kernel_rfl
  replace e0_2 : DataW.trod enc Try.prog W 0 (fun _ => true) true m0 3 (([cell0_0, cell0_1, cell0_2, cell0_3, cell0_4].drop 2).take (Try.prog.cellsOf 3)) = some ye0_2 := e0_2
  rw [ze0_2] at e0_2
  replace e0_2 : DataW.trod enc Try.prog W 0 (fun _ => true) true m0 3 [cell0_2] = some ye0_2 := e0_2
  obtain ⟨a0_2, q0_2, w0_2⟩ := leaf_int Try.underlying3 e0_2
  obtain ⟨ye0_3, e0_3, s0_3⟩ := g0 3 _ rfl
  have ze0_3 : Try.prog.cellsOf 22 = 1 := by kernel_rfl
  replace e0_3 : DataW.trod enc Try.prog W 0 (fun _ => true) true m0 22 (([cell0_0, cell0_1, cell0_2, cell0_3, cell0_4].drop 3).take (Try.prog.cellsOf 22)) = some ye0_3 := e0_3
  rw [ze0_3] at e0_3
  replace e0_3 : DataW.trod enc Try.prog W 0 (fun _ => true) true m0 22 [cell0_3] = some ye0_3 := e0_3
  obtain ⟨A0_3, c0_3, l0_3, q0_3, hr0_3, hc0_3, hm0_3, w0_3⟩ := leaf_ints Try.underlying22 Try.underlying3 (by kernel_rfl) e0_3
  have z0_3 : l0_3.length * 8 ≤ reachBytes := ints_le Try.underlying22 (by kernel_rfl) e0_3 q0_3 s0_3
  obtain ⟨ye0_4, e0_4, s0_4⟩ := g0 4 _ rfl
  have ze0_4 : Try.prog.cellsOf 22 = 1 := by kernel_rfl
  replace e0_4 : DataW.trod enc Try.prog W 0 (fun _ => true) true m0 22 (([cell0_0, cell0_1, cell0_2, cell0_3, cell0_4].drop 4).take (Try.prog.cellsOf 22)) = some ye0_4 := e0_4
  rw [ze0_4] at e0_4
  replace e0_4 : DataW.trod enc Try.prog W 0 (fun _ => true) true m0 22 [cell0_4] = some ye0_4 := e0_4
  obtain ⟨A0_4, c0_4, l0_4, q0_4, hr0_4, hc0_4, hm0_4, w0_4⟩ := leaf_ints Try.underlying22 Try.underlying3 (by kernel_rfl) e0_4
  have z0_4 : l0_4.length * 8 ≤ reachBytes := ints_le Try.underlying22 (by kernel_rfl) e0_4 q0_4 s0_4
  subst q0_0
  subst q0_1
  subst q0_2
  subst q0_3
  subst q0_4
  have k1 := h1
  have lt1 : ∀ x ∈ p1, x.block < W.heap.size := by obtain ⟨m, hm⟩ := k1; exact DataW.trod_lt m _ _ _ hm
  obtain ⟨a1, rfl, _, _, w1⟩ := open_int Try.underlying3 (hval 1 3 v1 rfl rfl) h1
  have k2 := h2
  have lt2 : ∀ x ∈ p2, x.block < W.heap.size := by obtain ⟨m, hm⟩ := k2; exact DataW.trod_lt m _ _ _ hm
  obtain ⟨a2, rfl, _, _, w2⟩ := open_int Try.underlying25 (hval 2 25 v2 rfl rfl) h2
  have k3 := h3
  have lt3 : ∀ x ∈ p3, x.block < W.heap.size := by obtain ⟨m, hm⟩ := k3; exact DataW.trod_lt m _ _ _ hm
  obtain ⟨a3, rfl, _, _, w3⟩ := open_int Try.underlying3 (hval 3 3 v3 rfl rfl) h3
  have k4 := h4
  have lt4 : ∀ x ∈ p4, x.block < W.heap.size := by obtain ⟨m, hm⟩ := k4; exact DataW.trod_lt m _ _ _ hm
  obtain ⟨a4, rfl, _, _, w4⟩ := open_int Try.underlying25 (hval 4 25 v4 rfl rfl) h4
  clear hA0 hval0 hsz0
  have h := Pure.PlicDoes l0_0 a0_1 a0_2 l0_3 l0_4 a1 a2 a3 a4 z0_0 w0_0 w0_1 w0_2 z0_3 w0_3 z0_4 w0_4 w1 w2 w3 w4
  refine (drawbridgelaw10_PlicDoes.calls _ _ l0_0 a0_1 a0_2 _ _ l0_3 _ _ l0_4 a1 a2 a3 a4 true W hr0_0 hc0_0 hr0_3 hc0_3 hr0_4 hc0_4 h).mono fun e W' ⟨he, hd⟩ => ?_
  subst he
  have bel : Below W.heap.size W W' := hd
  exact ⟨_, rfl, _, _, _, [], _, [], hW', trodAll_mk1 (shut_bool Try.underlying4 _), (trodAll_cons_mk (Below.trod laidOut (by kernel_rfl) (of_decide_eq_true (by kernel_rfl)) k0 bel lt0) (trodAll_cons_mk (Below.trod laidOut (by kernel_rfl) (of_decide_eq_true (by kernel_rfl)) k1 bel lt1) (trodAll_cons_mk (Below.trod laidOut (by kernel_rfl) (of_decide_eq_true (by kernel_rfl)) k2 bel lt2) (trodAll_cons_mk (Below.trod laidOut (by kernel_rfl) (of_decide_eq_true (by kernel_rfl)) k3 bel lt3) (trodAll_cons_mk (Below.trod laidOut (by kernel_rfl) (of_decide_eq_true (by kernel_rfl)) k4 bel lt4) trodAll_mk0))))), rfl, bel.frame _, fun h => by cases h⟩
theorem over : Rows.plicDoesRow.holds Try.pinned (OpenSpec.ofChange Rows.plicDoesSpec) :=
  OpenClaim.holds_of_wide 4 Try.f4 rfl rfl rfl rfl rfl rfl rfl ⟨rfl, rfl, rfl, rfl, rfl⟩ rfl rfl rfl rfl rfl (by kernel_rfl) Try.func4 (by kernel_rfl)
    (of_decide_eq_true (by kernel_rfl)) (by unfold Func.isWrapper; first | (rw [if_pos (by decide +kernel)]; kernel_rfl) | (rw [if_neg (by decide +kernel)]; exact ⟨rfl, rfl⟩))
    (fun os started H enc _ => lifted os started H enc)
theorem proved : Rows.PlicDoesSaid := over
#print axioms proved
end Go.Proofs.Ytmlpnjoejdpblaa.plicDoes
namespace Go.Proofs.Ytmlpnjoejdpblaa
/-- The row, under a short name, for the claim. -/
theorem plicDoes_holds : Rows.PlicDoesSaid := plicDoes.proved
end Go.Proofs.Ytmlpnjoejdpblaa
