/- Great structs: a store of a whole one into a box of the call's own, its load, both with a value that is a letter. -/
import Derived.Test.YtijdplpmcnhlbaaKt
import Derived.Test.YtijdplpmcnhlbaaWWords
import Derived.Deep.MidRow
import Derived.Laws.Rows
namespace Go.Proofs.Ytijdplpmcnhlbaa.L
open Go.RowKit Go.Proofs.YtijdplpmcnhlbaaW.PrintWords
set_option linter.unusedVariables false
theorem st_put {W W' base : World} {i g : Nat} {o : Obj} (h : base.heap[i]? = some o) (hk : ∀ i, i ≠ g → W'.heap[i]? = W.heap[i]?) (he : base.heap[i]? = some o → W.heap[i]? = some o) (hi : i ≠ g) : W'.heap[i]? = some o := (hk i hi).trans (he h)
theorem st_set {g : Nat} {t : TypeId} : ∀ (vs pre old : List Value) (W : World), W.heap[g]? = some (.cells (pre ++ old).toArray t (0, 0)) → old.length = vs.length → (W.setCells g pre.length vs).heap[g]? = some (.cells (pre ++ vs).toArray t (0, 0))
  | [], pre, old, W, h, hl => by
    obtain rfl : old = [] := List.length_eq_zero_iff.1 hl
    exact h
  | v :: vs, pre, [], W, h, hl => by cases hl
  | v :: vs, pre, o :: old, W, h, hl => by
    have h1 : (W.setCell ⟨g, pre.length, none⟩ v).heap[g]? = some (.cells ((pre ++ [v]) ++ old).toArray t (0, 0)) := blk_put h pre.length v (by rw [List.setIfInBounds_toArray]; simp)
    have h2 := st_set vs (pre ++ [v]) old _ h1 (by simpa using hl)
    rw [List.length_append, List.length_singleton, List.append_assoc, List.singleton_append] at h2
    exact h2
theorem st_keep {g : Nat} : ∀ (vs : List Value) (o : Nat) (W : World) (i : Nat), i ≠ g → (W.setCells g o vs).heap[i]? = W.heap[i]?
  | [], o, W, i, hi => rfl
  | v :: vs, o, W, i, hi => (st_keep vs (o + 1) _ i hi).trans (Below.heap_setCell W ⟨g, o, none⟩ v i hi)
theorem st_size {g : Nat} : ∀ (vs : List Value) (o : Nat) (W : World), (W.setCells g o vs).heap.size = W.heap.size
  | [], o, W => rfl
  | v :: vs, o, W => (st_size vs (o + 1) _).trans (by simp)
theorem st_below {g : Nat} {w : World} : ∀ (vs : List Value) (o : Nat) (W : World), Below g w W → Below g w (W.setCells g o vs)
  | [], o, W, h => h
  | v :: vs, o, W, h => st_below vs (o + 1) _ (Below.setCell h (p := ⟨g, o, none⟩) (Nat.le_refl _) v)
theorem st_there {W : World} {g n : Nat} {cs : Array Value} {t : TypeId} (h : W.heap[g]? = some (.cells cs t (0, 0))) (hn : cs.size = n) : W.there g 0 n := fun j hj => by
  obtain ⟨h1, h2, _⟩ := cells_of h
  rw [h1, h2]
  simp [hn, hj]
section
variable {P : Program} {ops : Array Oper} {rest : List Oper} {o : Oper} {a : Act} {Q : Exit → Act → World → Prop} {W : World}
/-- What a store of a whole struct leaves. -/
def Stored (g : Nat) (cells : Array Value) (t : TypeId) (W w1 : World) : Prop := w1.heap[g]? = some (.cells cells t (0, 0)) ∧ (∀ i, i ≠ g → w1.heap[i]? = W.heap[i]?) ∧ Below g W w1 ∧ w1.heap.size = W.heap.size
theorem st_done {g : Nat} {cells cs0 : Array Value} {t : TypeId} (hg : W.heap[g]? = some (.cells cs0 t (0, 0))) (hs : cs0.size = cells.size) : Stored g cells t W (W.setCells g 0 cells.toList) := by
  refine ⟨?_, fun i hi => st_keep _ _ _ i hi, st_below _ _ _ (Below.refl _ _), st_size _ _ _⟩
  have := st_set cells.toList [] cs0.toList W (by simpa using hg) (by simpa using hs)
  simpa using this
theorem wpList_store_all (hgd : o.guard = none) (ty : TypeId) (x y : Operand) (ho : o.op = .store ty x y) (hN : o.dst = none) (g : Nat) (cells : Array Value) (hx : a.eval x = .pointer (some ⟨g, 0, none⟩)) (hy : a.eval y = .agg cells)
    (cs0 : Array Value) (t : TypeId) (hg : W.heap[g]? = some (.cells cs0 t (0, 0))) (hs : cs0.size = cells.size) (hi : (P.info? ty).map (·.size) = some cells.size) (h1 : cells.all (·.oneCell') = true)
    (h : ∀ w1, Stored g cells t W w1 → wpList P ops Q rest a w1) : wpList P ops Q (o :: rest) a W := by
  refine wpList_store_mid hgd ty x y ho g 0 cells hx hy (st_there hg hs) hi h1 ?_
  rw [hN]
  exact h _ (st_done hg hs)


theorem st_eq {t t2 : TypeId} {x y : Operand} {R S : Array Value} {b : Bool} (hgd : o.guard = none) (ho : o.op = .binOp .eql t x y t2) (hx : a.eval x = .agg R) (hy : a.eval y = .agg S)
    (hr : (eqGuard .eql t x y (.agg R) (.agg S)).run P W = .ok () W ∧ (binOp .eql t (.agg R) (.agg S)).run P W = .ok (.bool b) W) (h : wpList P ops Q rest (a.put o.dst (.bool b)) W) : wpList P ops Q (o :: rest) a W := by
  refine Kd.event_run (v := .bool b) (w1 := W) hgd ?_ h
  unfold execOp
  simp only [ho, hx, hy, Sem.run_bind, hr.1, hr.2, Result.andThen_ok, Sem.run_pure]
end
end Go.Proofs.Ytijdplpmcnhlbaa.L
