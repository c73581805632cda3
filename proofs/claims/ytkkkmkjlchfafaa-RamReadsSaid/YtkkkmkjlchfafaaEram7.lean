/- ram.Fill and ram.Write, as those who call them have it. -/
import Derived.Test.YtkkkmkjlchfafaaEramw
namespace Go.Proofs.Ytkkkmkjlchfafaa.Q
open Go.RowKit Go.Proofs.YtkkkmkjlchfafaaW.PrintWords Go.Proofs.YtkkkmkjlchfafaaW.PrintLast Go.Proofs.YtkkkmkjlchfafaaW.PrintMore Go.Proofs.Ytkkkmkjlchfafaa.L
attribute [local go_sem] Instr.field part asAgg lt_step max2_int min2_int max_two min_two max_three min_three max_four min_four lt_0_1 lt_0_2 lt_1_2 lt_0_3 lt_1_3 lt_2_3 lt_0_4 lt_1_4 lt_2_4 lt_3_4 lt_0_5 lt_1_5 lt_2_5 lt_3_5 lt_4_5 lt_0_6 lt_1_6 lt_2_6 lt_3_6 lt_4_6 lt_5_6 lt_0_7 lt_1_7 lt_2_7 lt_3_7 lt_4_7 lt_5_7 lt_6_7 lt_0_8 lt_1_8 lt_2_8 lt_3_8 lt_4_8 lt_5_8 lt_6_8 lt_7_8
set_option linter.unusedVariables false
set_option linter.unusedSimpArgs false
theorem V_F {W : World} {base e n c : Nat} {ok : Nat → Prop} {A : Option Addr} {k : IntKind} {xs : List Int} (h : Kd.V (Kd.int k) e W base ok (.slice A n c) xs) : n = xs.length ∧ xs.length ≤ c ∧ Kd.F (Kd.int k) W ok A xs.length xs := by
  obtain ⟨A', c', ev, hc, hF⟩ := h
  injection ev with e1 e2 e3
  subst e1; subst e2; subst e3
  exact ⟨rfl, hc, hF⟩
def ram_Fill.f (l : List Int) (a : Int) (b : List Int) : Option (List Int × Bool) := if u64B a ∧ l.length < 140737488355328 ∧ b.length ≤ 9223372036854775807 then some (fillL l a b, (placeZ l.length a b.length).2) else none
theorem ram_Fill.calls (P0_0_ : Nat → Prop) (A0_0 : Option Addr) (c0_0 : Nat) (l0_0 : List Int) (a1 : Int) (A2 : Option Addr) (c2 : Nat) (l2 : List Int) (r1 : List Int) (r2 : Bool) (w : World) (hs0_0 : Kd.V (Kd.int .u8) 5 w w.heap.size (fun k_ => P0_0_ k_) (.slice A0_0 l0_0.length c0_0) l0_0) (hr2 : Kd.C (Kd.int .u8) w A2 l2.length l2) (hc2 : l2.length ≤ c2) (h : ram_Fill.f l0_0 a1 l2 = some (r1, r2)) :
    Calls Try.prog 16 #[.agg #[.slice A0_0 l0_0.length c0_0], .int .u64 a1, .slice A2 l2.length c2] w fun e w' => ∃ v0_ : Value, e = .returned (.tuple #[.agg #[v0_], .bool r2]) ∧ Kd.V (Kd.int .u8) 5 w' w.heap.size (fun k_ => (P0_0_ k_ ∨ w.heap.size ≤ k_)) v0_ r1 ∧ Below w.heap.size w w' := by
  unfold ram_Fill.f at h
  split at h
  case isFalse => cases h
  case isTrue hh =>
  obtain ⟨ha, hl, hb⟩ := hh
  injection h with h
  injection h with e1 e2
  subst e1; subst e2
  obtain ⟨_, hc, hF⟩ := V_F hs0_0
  refine (ram_Fill.runs A0_0 c0_0 l0_0 a1 A2 c2 l2 w P0_0_ _ hF hc (F_in hr2) hc2 ha hl hb).mono ?_
  rintro e w' ⟨A', c', he, hc', hF', hB⟩
  exact ⟨_, he, ⟨A', c', rfl, hc', hF'⟩, hB⟩
def ram_Write.f (l : List Int) (a size x : Int) : Option (List Int × Bool) := if u64B a ∧ l.length < 140737488355328 then some (writeL l a size x, writeK l a size x) else none
theorem ram_Write.calls (P0_0_ : Nat → Prop) (A0_0 : Option Addr) (c0_0 : Nat) (l0_0 : List Int) (a1 : Int) (a2 : Int) (a3 : Int) (r1 : List Int) (r2 : Bool) (w : World) (hs0_0 : Kd.V (Kd.int .u8) 5 w w.heap.size (fun k_ => P0_0_ k_) (.slice A0_0 l0_0.length c0_0) l0_0) (h : ram_Write.f l0_0 a1 a2 a3 = some (r1, r2)) :
    Calls Try.prog 10 #[.agg #[.slice A0_0 l0_0.length c0_0], .int .u64 a1, .int .i64 a2, .int .u64 a3] w fun e w' => ∃ v0_ : Value, e = .returned (.tuple #[.agg #[v0_], .bool r2]) ∧ Kd.V (Kd.int .u8) 5 w' w.heap.size (fun k_ => (P0_0_ k_ ∨ w.heap.size ≤ k_)) v0_ r1 ∧ Below w.heap.size w w' := by
  unfold ram_Write.f at h
  split at h
  case isFalse => cases h
  case isTrue hh =>
  obtain ⟨ha, hl⟩ := hh
  injection h with h
  injection h with e1 e2
  subst e1; subst e2
  obtain ⟨_, hc, hF⟩ := V_F hs0_0
  refine (ram_Write.runs A0_0 c0_0 l0_0 a1 a2 a3 w P0_0_ hF hc ha hl).mono ?_
  rintro e w' ⟨A', c', he, hc', hF', hB⟩
  exact ⟨_, he, ⟨A', c', rfl, hc', hF'⟩, hB⟩
end Go.Proofs.Ytkkkmkjlchfafaa.Q
