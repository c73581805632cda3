/- host.change, with each of the three tests that the program hands in; Find. -/
import Derived.Test.YtijdplpmcnhlbaaHidx
import Derived.Test.YtijdplpmcnhlbaaHcl
import Derived.Test.YtijdplpmcnhlbaaFs
namespace Go.Proofs.Ytijdplpmcnhlbaa.Q
open Go.RowKit Go.Proofs.YtijdplpmcnhlbaaW.PrintWords Go.Proofs.YtijdplpmcnhlbaaW.PrintLast Go.Proofs.YtijdplpmcnhlbaaW.PrintMore Go.Proofs.Ytijdplpmcnhlbaa.L
attribute [local go_sem] Instr.field part asAgg lt_step max2_int min2_int max_two min_two max_three min_three max_four min_four lt_0_1 lt_0_2 lt_1_2 lt_0_3 lt_1_3 lt_2_3 lt_0_4 lt_1_4 lt_2_4 lt_3_4 lt_0_5 lt_1_5 lt_2_5 lt_3_5 lt_4_5 lt_0_6 lt_1_6 lt_2_6 lt_3_6 lt_4_6 lt_5_6 lt_0_7 lt_1_7 lt_2_7 lt_3_7 lt_4_7 lt_5_7 lt_6_7 lt_0_8 lt_1_8 lt_2_8 lt_3_8 lt_4_8 lt_5_8 lt_6_8 lt_7_8
set_option linter.unusedVariables false
set_option linter.unusedSimpArgs false
def mapS (m : Nat) (x : S34) : S34 := if m = 1 then { x with f1 := 2 } else if m = 4 then { x with f4 := true } else { x with f5 := true }
def setS (l : List S34) (i : Int) (m : Nat) : List S34 := l.set i.toNat (mapS m (rd_T34 l i))
theorem open_runs (g o : Nat) (u : Value) (w : World) (hc : w.cell? ⟨g, o + 1, none⟩ = some u) (hf : w.frozen? ⟨g, o + 1, none⟩ = false) :
    Calls Try.prog 24 #[.pointer (some ⟨g, o, none⟩)] w fun e w' => e = .returned (.tuple #[]) ∧ w' = w.setCell ⟨g, o + 1, none⟩ (.int .i64 2) := by
  go_enter Try.func24, Try.ntmps24
  go_wp2
  first | go_end0 | (refine bodyPost_ret (v := .tuple #[]) (by simp [results, Try.results24, go_sem] <;> first | assumption | omega | (symm; assumption)) rfl ?_)
  exact ⟨rfl, rfl⟩
theorem eof_runs (g o : Nat) (u : Value) (w : World) (hc : w.cell? ⟨g, o + 4, none⟩ = some u) (hf : w.frozen? ⟨g, o + 4, none⟩ = false) :
    Calls Try.prog 25 #[.pointer (some ⟨g, o, none⟩)] w fun e w' => e = .returned (.tuple #[]) ∧ w' = w.setCell ⟨g, o + 4, none⟩ (.bool true) := by
  go_enter Try.func25, Try.ntmps25
  go_wp2
  first | go_end0 | (refine bodyPost_ret (v := .tuple #[]) (by simp [results, Try.results25, go_sem] <;> first | assumption | omega | (symm; assumption)) rfl ?_)
  exact ⟨rfl, rfl⟩
theorem shut_runs (g o : Nat) (u : Value) (w : World) (hc : w.cell? ⟨g, o + 5, none⟩ = some u) (hf : w.frozen? ⟨g, o + 5, none⟩ = false) :
    Calls Try.prog 27 #[.pointer (some ⟨g, o, none⟩)] w fun e w' => e = .returned (.tuple #[]) ∧ w' = w.setCell ⟨g, o + 5, none⟩ (.bool true) := by
  go_enter Try.func27, Try.ntmps27
  go_wp2
  first | go_end0 | (refine bodyPost_ret (v := .tuple #[]) (by simp [results, Try.results27, go_sem] <;> first | assumption | omega | (symm; assumption)) rfl ?_)
  exact ⟨rfl, rfl⟩
theorem row_set {w : World} {base g n cap : Nat} {ok : Nat → Prop} {l : List S34} (h : Kd.R k34 34 w base ok (.slice (some ⟨g, 0, none⟩) n cap) l) (i : Int) (h0 : 0 ≤ i) (h1 : i < n) (j : Nat) (hj : j < 6) (u : Value) (x' : S34)
    (hx : ([.int .i64 (rd_T34 l i).f0, .int .i64 (rd_T34 l i).f1, .int .u32 (rd_T34 l i).f2, .int .i64 (rd_T34 l i).f3, .bool (rd_T34 l i).f4, .bool (rd_T34 l i).f5] : List Value).set j u = [.int .i64 x'.f0, .int .i64 x'.f1, .int .u32 x'.f2, .int .i64 x'.f3, .bool x'.f4, .bool x'.f5]) :
    (∃ v, w.cell? ⟨g, i.toNat * 6 + j, none⟩ = some v) ∧ w.frozen? ⟨g, i.toNat * 6 + j, none⟩ = false ∧ Kd.R k34 34 (w.setCell ⟨g, i.toNat * 6 + j, none⟩ u) base ok (.slice (some ⟨g, 0, none⟩) n cap) (l.set i.toNat x') := by
  obtain ⟨c, hcl, hM, hcc, hfz⟩ := Kd.R_elem h z34 i h0 h1
  have e := k34_openM hM
  have hc6 : c.length = 6 := hcl
  have hcs : ∃ v, c[j]? = some v := ⟨_, List.getElem?_eq_getElem (by omega)⟩
  obtain ⟨v, hv⟩ := hcs
  refine ⟨⟨v, hcc j v hv⟩, hfz j, ?_⟩
  have hseg : c.take j ++ [u] ++ c.drop (j + [u].length) = c.set j u := by
    rw [List.set_eq_take_append_cons_drop, if_pos (by omega)]
    simp
  have := (Kd.R_seg (seg := [u]) h i h0 h1 hcl hcc (by show j + 1 ≤ 6; omega) (x' := x') (okp := fun k => ok k ∧ k ≠ g) (by rw [hseg, e]; have hx2 := hx; unfold rd_T34 at hx2; rw [hx2]; exact k34_mkM _ _ _ x') (fun k hk => hk)).1
  exact this
theorem R_own {w : World} {base : Nat} {ok : Nat → Prop} {v : Value} {l : List S34} (h : Kd.R k34 34 w base ok v l) (hp : 0 < l.length) : ∃ g cap, v = .slice (some ⟨g, 0, none⟩) l.length cap ∧ base ≤ g ∧ g < w.heap.size := by
  obtain ⟨g, cap, a, b, c, _⟩ := Kd.R_form h hp
  exact ⟨g, cap, a, b, c⟩
theorem cl_ok {l : List S34} (h : l.length * 40 < 140737488355328) : api_Sock_21.f l = some l := if_pos h
set_option maxHeartbeats 1600000 in
set_option maxRecDepth 100000 in
theorem change_1 (A0 : Option Addr) (c0 : Nat) (l0 : List S34) (i : Int) (w : World) (hr0 : Kd.C k34 w A0 l0.length l0) (hc0 : l0.length ≤ c0) (hl : l0.length * 40 < 140737488355328) (h0 : 0 ≤ i) (h1 : i < l0.length) :
    Calls Try.prog 23 #[.slice A0 l0.length c0, .int .i64 i, .func (.func 24) #[] #[]] w fun e w' => ∃ v, e = .returned v ∧ Kd.R k34 34 w' w.heap.size (fun _ => True) v (setS l0 i 1) ∧ Below w.heap.size w w' := by
  have HR := Aside0.mk hr0
  have HC := Aside0.mk hc0
  have HL := Aside0.mk (cl_ok hl)
  clear hr0 hc0
  go_enter Try.func23, Try.ntmps23
  go_wp2_with fail
  go_at_call 21; refine (api_Sock_21.calls _ _ l0 _ _ HR.out HC.out HL.out).mono ?_; rintro e w1 ⟨v0, rfl, hR, hb⟩
  obtain ⟨g, cap, rfl, hg1, hg2⟩ := R_own hR (by omega)
  obtain ⟨⟨u, hu⟩, hf, hR2⟩ := row_set hR i h0 h1 1 (by decide) (.int .i64 2) (mapS 1 (rd_T34 l0 i)) rfl
  have HU := Aside0.mk hu
  have HF := Aside0.mk hf
  have HR2 := Aside0.mk hR2
  have HB := Aside0.mk hb
  have HG := Aside0.mk hg1
  clear hu hf hR2 hb hR hg1
  go_wp2_with fail
  go_at_call 24; refine (open_runs g (i.toNat * 6) u _ HU.out HF.out).mono ?_; rintro e w2 ⟨rfl, rfl⟩
  go_wp2
  go_ret
  exact ⟨_, rfl, HR2.out, Below.setCell HB.out (p := ⟨g, i.toNat * 6 + 1, none⟩) HG.out _⟩
set_option maxHeartbeats 1600000 in
set_option maxRecDepth 100000 in
theorem change_4 (A0 : Option Addr) (c0 : Nat) (l0 : List S34) (i : Int) (w : World) (hr0 : Kd.C k34 w A0 l0.length l0) (hc0 : l0.length ≤ c0) (hl : l0.length * 40 < 140737488355328) (h0 : 0 ≤ i) (h1 : i < l0.length) :
    Calls Try.prog 23 #[.slice A0 l0.length c0, .int .i64 i, .func (.func 25) #[] #[]] w fun e w' => ∃ v, e = .returned v ∧ Kd.R k34 34 w' w.heap.size (fun _ => True) v (setS l0 i 4) ∧ Below w.heap.size w w' := by
  have HR := Aside0.mk hr0
  have HC := Aside0.mk hc0
  have HL := Aside0.mk (cl_ok hl)
  clear hr0 hc0
  go_enter Try.func23, Try.ntmps23
  go_wp2_with fail
  go_at_call 21; refine (api_Sock_21.calls _ _ l0 _ _ HR.out HC.out HL.out).mono ?_; rintro e w1 ⟨v0, rfl, hR, hb⟩
  obtain ⟨g, cap, rfl, hg1, hg2⟩ := R_own hR (by omega)
  obtain ⟨⟨u, hu⟩, hf, hR2⟩ := row_set hR i h0 h1 4 (by decide) (.bool true) (mapS 4 (rd_T34 l0 i)) rfl
  have HU := Aside0.mk hu
  have HF := Aside0.mk hf
  have HR2 := Aside0.mk hR2
  have HB := Aside0.mk hb
  have HG := Aside0.mk hg1
  clear hu hf hR2 hb hR hg1
  go_wp2_with fail
  go_at_call 25; refine (eof_runs g (i.toNat * 6) u _ HU.out HF.out).mono ?_; rintro e w2 ⟨rfl, rfl⟩
  go_wp2
  go_ret
  exact ⟨_, rfl, HR2.out, Below.setCell HB.out (p := ⟨g, i.toNat * 6 + 4, none⟩) HG.out _⟩
set_option maxHeartbeats 1600000 in
set_option maxRecDepth 100000 in
theorem change_5 (A0 : Option Addr) (c0 : Nat) (l0 : List S34) (i : Int) (w : World) (hr0 : Kd.C k34 w A0 l0.length l0) (hc0 : l0.length ≤ c0) (hl : l0.length * 40 < 140737488355328) (h0 : 0 ≤ i) (h1 : i < l0.length) :
    Calls Try.prog 23 #[.slice A0 l0.length c0, .int .i64 i, .func (.func 27) #[] #[]] w fun e w' => ∃ v, e = .returned v ∧ Kd.R k34 34 w' w.heap.size (fun _ => True) v (setS l0 i 5) ∧ Below w.heap.size w w' := by
  have HR := Aside0.mk hr0
  have HC := Aside0.mk hc0
  have HL := Aside0.mk (cl_ok hl)
  clear hr0 hc0
  go_enter Try.func23, Try.ntmps23
  go_wp2_with fail
  go_at_call 21; refine (api_Sock_21.calls _ _ l0 _ _ HR.out HC.out HL.out).mono ?_; rintro e w1 ⟨v0, rfl, hR, hb⟩
  obtain ⟨g, cap, rfl, hg1, hg2⟩ := R_own hR (by omega)
  obtain ⟨⟨u, hu⟩, hf, hR2⟩ := row_set hR i h0 h1 5 (by decide) (.bool true) (mapS 5 (rd_T34 l0 i)) rfl
  have HU := Aside0.mk hu
  have HF := Aside0.mk hf
  have HR2 := Aside0.mk hR2
  have HB := Aside0.mk hb
  have HG := Aside0.mk hg1
  clear hu hf hR2 hb hR hg1
  go_wp2_with fail
  go_at_call 27; refine (shut_runs g (i.toNat * 6) u _ HU.out HF.out).mono ?_; rintro e w2 ⟨rfl, rfl⟩
  go_wp2
  go_ret
  exact ⟨_, rfl, HR2.out, Below.setCell HB.out (p := ⟨g, i.toNat * 6 + 5, none⟩) HG.out _⟩
end Go.Proofs.Ytijdplpmcnhlbaa.Q
