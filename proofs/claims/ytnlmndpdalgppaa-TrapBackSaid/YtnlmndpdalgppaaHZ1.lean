import Derived.Test.YtnlmndpdalgppaaWWords
import Derived.Test.YtnlmndpdalgppaaKt
import Derived.Deep.MidRow
import Derived.Laws.Rows
import Derived.Laws.StructEq
import Derived.Test.YtnlmndpdalgppaaQx0
section
/- Rows of whole numbers that are read, over a store elsewhere. -/
namespace Go.Proofs.Ytnlmndpdalgppaa.L
open Go.RowKit Go.Proofs.YtnlmndpdalgppaaW.PrintWords
theorem C_set {k : IntKind} {w : World} {A : Option Addr} {n : Nat} {xs : List Int} (h : Kd.C (Kd.int k) w A n xs) {g : Nat} (hne : ∀ ad, A = some ad → 0 < n → ad.block ≠ g) (j : Nat) (u : Value) : Kd.C (Kd.int k) (w.setCell ⟨g, j, none⟩ u) A n xs := by
  obtain ⟨h1, h2, h3⟩ := h
  refine ⟨h1, h2, fun hp => ?_⟩
  obtain ⟨ad, e, hc⟩ := h3 hp
  refine ⟨ad, e, fun i p hi => ?_⟩
  obtain ⟨c, hl, hK, hcell⟩ := hc i p hi
  refine ⟨c, hl, hK, fun q v hv => ?_⟩
  rw [World.cell?_setCell_other _ _ _ _ (fun he => hne ad e hp (by have h9 := congrArg Addr.block he; rw [show (ad.add (i * (Kd.int k).sz + q)).block = ad.block from by cases ad; unfold Addr.add; (repeat' split) <;> rfl] at h9; exact h9.symm))]
  exact hcell q v hv
theorem R_block {k : IntKind} {e : Nat} {w : World} {base : Nat} {ok : Nat → Prop} {A : Option Addr} {n c : Nat} {xs : List Int} (h : Kd.R (Kd.int k) e w base ok (.slice A n c) xs) : ∀ ad, A = some ad → 0 < n → base ≤ ad.block := by
  intro ad ha hn
  have h1 := (Kd.R_reads' h).1
  obtain ⟨g, cap, he, hb, _⟩ := Kd.R_form h (by omega)
  injection he with e1 e2 e3
  rw [ha] at e1
  injection e1 with e1
  rw [e1]
  exact hb
theorem dr {P : Program} {f : FuncId} {args : Array Value} {w : World} {r : Ending} (h : Calls P f args w fun e w' => e = r ∧ Drawn0 w w') : Calls P f args w fun e w' => e = r ∧ Below w.heap.size w w' := h.mono fun _ _ ⟨a, b⟩ => ⟨a, b.below⟩
end Go.Proofs.Ytnlmndpdalgppaa.L
end
section
/- Great structs: a store of a whole one into a box of the call's own, its load, both with a value that is a letter. -/
namespace Go.Proofs.Ytnlmndpdalgppaa.L
open Go.RowKit Go.Proofs.YtnlmndpdalgppaaW.PrintWords
set_option linter.unusedVariables false
theorem st_put {W W' base : World} {i g : Nat} {o : Obj} (h : base.heap[i]? = some o) (hk : ∀ i, i ≠ g → W'.heap[i]? = W.heap[i]?) (he : base.heap[i]? = some o → W.heap[i]? = some o) (hi : i ≠ g) : W'.heap[i]? = some o := (hk i hi).trans (he h)
theorem st_set {g : Nat} {t : TypeId} : ∀ (vs pre old : List Value) (W : World), W.heap[g]? = some (.cells (pre ++ old).toArray t (0, 0)) → old.length = vs.length → (W.setCells g pre.length vs).heap[g]? = some (.cells (pre ++ vs).toArray t (0, 0))
  | [], pre, old, W, h, hl => by
    obtain rfl : old = [] := List.length_eq_zero_iff.1 hl
    exact h
  | v :: vs, pre, [], W, h, hl => by cases hl
  | v :: vs, pre, o :: old, W, h, hl => by
    have h1 : (W.setCell ⟨g, pre.length, none⟩ v).heap[g]? = some (.cells ((pre ++ [v]) ++ old).toArray t (0, 0)) := blk_put h pre.length v (by rw [List.setIfInBounds_toArray]; simp)
    have h2 := st_set vs (pre ++ [v]) old _ h1 (by simpa using hl)
    rw [List.length_append, List.length_singleton, List.append_assoc, List.singleton_append] at h2
    exact h2
theorem st_keep {g : Nat} : ∀ (vs : List Value) (o : Nat) (W : World) (i : Nat), i ≠ g → (W.setCells g o vs).heap[i]? = W.heap[i]?
  | [], o, W, i, hi => rfl
  | v :: vs, o, W, i, hi => (st_keep vs (o + 1) _ i hi).trans (Below.heap_setCell W ⟨g, o, none⟩ v i hi)
theorem st_size {g : Nat} : ∀ (vs : List Value) (o : Nat) (W : World), (W.setCells g o vs).heap.size = W.heap.size
  | [], o, W => rfl
  | v :: vs, o, W => (st_size vs (o + 1) _).trans (by simp)
theorem st_below {g : Nat} {w : World} : ∀ (vs : List Value) (o : Nat) (W : World), Below g w W → Below g w (W.setCells g o vs)
  | [], o, W, h => h
  | v :: vs, o, W, h => st_below vs (o + 1) _ (Below.setCell h (p := ⟨g, o, none⟩) (Nat.le_refl _) v)
theorem st_there {W : World} {g n : Nat} {cs : Array Value} {t : TypeId} (h : W.heap[g]? = some (.cells cs t (0, 0))) (hn : cs.size = n) : W.there g 0 n := fun j hj => by
  obtain ⟨h1, h2, _⟩ := cells_of h
  rw [h1, h2]
  simp [hn, hj]
section
variable {P : Program} {ops : Array Oper} {rest : List Oper} {o : Oper} {a : Act} {Q : Exit → Act → World → Prop} {W : World}
/-- What a store of a whole struct leaves. -/
def Stored (g : Nat) (cells : Array Value) (t : TypeId) (W w1 : World) : Prop := w1.heap[g]? = some (.cells cells t (0, 0)) ∧ (∀ i, i ≠ g → w1.heap[i]? = W.heap[i]?) ∧ Below g W w1 ∧ w1.heap.size = W.heap.size
theorem st_done {g : Nat} {cells cs0 : Array Value} {t : TypeId} (hg : W.heap[g]? = some (.cells cs0 t (0, 0))) (hs : cs0.size = cells.size) : Stored g cells t W (W.setCells g 0 cells.toList) := by
  refine ⟨?_, fun i hi => st_keep _ _ _ i hi, st_below _ _ _ (Below.refl _ _), st_size _ _ _⟩
  have := st_set cells.toList [] cs0.toList W (by simpa using hg) (by simpa using hs)
  simpa using this
theorem wpList_store_all (hgd : o.guard = none) (ty : TypeId) (x y : Operand) (ho : o.op = .store ty x y) (hN : o.dst = none) (g : Nat) (cells : Array Value) (hx : a.eval x = .pointer (some ⟨g, 0, none⟩)) (hy : a.eval y = .agg cells)
    (cs0 : Array Value) (t : TypeId) (hg : W.heap[g]? = some (.cells cs0 t (0, 0))) (hs : cs0.size = cells.size) (hi : (P.info? ty).map (·.size) = some cells.size) (h1 : cells.all (·.oneCell') = true)
    (h : ∀ w1, Stored g cells t W w1 → wpList P ops Q rest a w1) : wpList P ops Q (o :: rest) a W := by
  refine wpList_store_mid hgd ty x y ho g 0 cells hx hy (st_there hg hs) hi h1 ?_
  rw [hN]
  exact h _ (st_done hg hs)


theorem st_eq {t t2 : TypeId} {x y : Operand} {R S : Array Value} {b : Bool} (hgd : o.guard = none) (ho : o.op = .binOp .eql t x y t2) (hx : a.eval x = .agg R) (hy : a.eval y = .agg S)
    (hr : (eqGuard .eql t x y (.agg R) (.agg S)).run P W = .ok () W ∧ (binOp .eql t (.agg R) (.agg S)).run P W = .ok (.bool b) W) (h : wpList P ops Q rest (a.put o.dst (.bool b)) W) : wpList P ops Q (o :: rest) a W := by
  refine Kd.event_run (v := .bool b) (w1 := W) hgd ?_ h
  unfold execOp
  simp only [ho, hx, hy, Sem.run_bind, hr.1, hr.2, Result.andThen_ok, Sem.run_pure]
end
end Go.Proofs.Ytnlmndpdalgppaa.L
end
section
/- Two equal registers are equal (layer 6). -/
namespace Go.Proofs.Ytnlmndpdalgppaa.Q
open Go.RowKit Go.Proofs.YtnlmndpdalgppaaW.PrintWords Go.Proofs.YtnlmndpdalgppaaW.PrintLast Go.Proofs.YtnlmndpdalgppaaW.PrintMore Go.Proofs.Ytnlmndpdalgppaa.L
attribute [local go_sem] Instr.field part asAgg lt_step max2_int min2_int max_two min_two max_three min_three max_four min_four lt_0_1 lt_0_2 lt_1_2 lt_0_3 lt_1_3 lt_2_3 lt_0_4 lt_1_4 lt_2_4 lt_3_4 lt_0_5 lt_1_5 lt_2_5 lt_3_5 lt_4_5 lt_0_6 lt_1_6 lt_2_6 lt_3_6 lt_4_6 lt_5_6 lt_0_7 lt_1_7 lt_2_7 lt_3_7 lt_4_7 lt_5_7 lt_6_7 lt_0_8 lt_1_8 lt_2_8 lt_3_8 lt_4_8 lt_5_8 lt_6_8 lt_7_8
set_option linter.unusedVariables false
set_option linter.unusedSimpArgs false
set_option maxHeartbeats 1600000 in
set_option maxRecDepth 100000 in
theorem eq17 (x0 x1 x2 x3 x4 x5 x6 x7 x8 x9 x10 x11 x12 x13 x14 x15 x16 : Int) (x y : Operand) (w : World) : (eqGuard .eql 24 x y (.agg #[.int .u64 x0, .int .u64 x1, .int .u64 x2, .int .u64 x3, .int .u64 x4, .int .u64 x5, .int .u64 x6, .int .u64 x7, .int .u64 x8, .int .u64 x9, .int .u64 x10, .int .u64 x11, .int .u64 x12, .int .u64 x13, .int .u64 x14, .int .u64 x15, .int .u64 x16]) (.agg #[.int .u64 x0, .int .u64 x1, .int .u64 x2, .int .u64 x3, .int .u64 x4, .int .u64 x5, .int .u64 x6, .int .u64 x7, .int .u64 x8, .int .u64 x9, .int .u64 x10, .int .u64 x11, .int .u64 x12, .int .u64 x13, .int .u64 x14, .int .u64 x15, .int .u64 x16])).run Try.prog w = .ok () w ∧
    (binOp .eql 24 (.agg #[.int .u64 x0, .int .u64 x1, .int .u64 x2, .int .u64 x3, .int .u64 x4, .int .u64 x5, .int .u64 x6, .int .u64 x7, .int .u64 x8, .int .u64 x9, .int .u64 x10, .int .u64 x11, .int .u64 x12, .int .u64 x13, .int .u64 x14, .int .u64 x15, .int .u64 x16]) (.agg #[.int .u64 x0, .int .u64 x1, .int .u64 x2, .int .u64 x3, .int .u64 x4, .int .u64 x5, .int .u64 x6, .int .u64 x7, .int .u64 x8, .int .u64 x9, .int .u64 x10, .int .u64 x11, .int .u64 x12, .int .u64 x13, .int .u64 x14, .int .u64 x15, .int .u64 x16])).run Try.prog w = .ok (.bool true) w := by
  constructor
  · exact run_eqGuard_agg _ _ _ _ _ _ _ (by kernel_rfl)
  · rw [run_eql_struct]
    have hu := Try.underlying24
    go_simp
end Go.Proofs.Ytnlmndpdalgppaa.Q
end
