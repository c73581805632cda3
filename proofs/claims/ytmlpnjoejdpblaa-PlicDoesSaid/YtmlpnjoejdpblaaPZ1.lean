import Derived.Below
import Derived.WalkKit
import Derived.Deep.Draws
import Derived.Deep.RegionHeld3
import Derived.Test.YtmlpnjoejdpblaaPXWWords
import Derived.Test.YtmlpnjoejdpblaaPXWShare
import Derived.DataReads
import Derived.Test.YtmlpnjoejdpblaaPXWMore
import Derived.Test.YtmlpnjoejdpblaaPXWLast
import Derived.Deep.MidRow
import Derived.Laws.Rows
import Derived.Test.YtmlpnjoejdpblaaProg
import Derived.Deep.AppendLies
import Derived.Maps.AppendAt
import Derived.OwnWalk
import Derived.Laws.BytesArg
import Derived.Laws.MakeOwn
import Derived.Laws.OwnMore
import Derived.Deep.OwnRows
import Derived.Tactics
import Derived.Lib.ConvBytes
import Derived.Laws.Slices
import Derived.KernelRfl
import Derived.RowKit3
import Derived.Deep.LoopGhost
import Derived.Deep.QuietTactic
import Derived.BigQuiet
import Derived.WideLaws
import Derived.Deep.DeepCutAuto
import Derived.Deep.CutBlock
import Derived.Lib.AppendStr
import Derived.ArgAppend
import Derived.Laws.IdiomCopy
import Derived.OrdersHeld
import Derived.Laws.BitsLemmas
import Derived.RowKit
import Derived.Test.YtmlpnjoejdpblaaPXWApart
import Derived.Test.YtmlpnjoejdpblaaPXWFoot
import Derived.Test.YtmlpnjoejdpblaaPXWKept
import Derived.Test.YtmlpnjoejdpblaaPXWN
import Derived.Test.YtmlpnjoejdpblaaPXWFootNe
import Derived.Test.YtmlpnjoejdpblaaPXWAt
import Derived.Laws.StructEq
import Derived.Test.YtmlpnjoejdpblaaPXWRepsOne
import Derived.Test.YtmlpnjoejdpblaaPXWGuard
import Derived.Laws.BitsAllLaws
import Derived.RegionTactic
import Derived.BigRegion
import Derived.Lib.SliceRun
section
/- Small facts on worlds behind a call that makes memory and writes nothing old. -/
namespace Go.Proofs.Ytmlpnjoejdpblaa.L
open Go.RowKit
theorem cells_of {w : World} {b : Nat} {cs : Array Value} {t : TypeId} (h : w.heap[b]? = some (.cells cs t (0, 0))) : (∀ i, w.cell? ⟨b, i, none⟩ = cs[i]?) ∧ (∀ i, w.frozen? ⟨b, i, none⟩ = false) ∧ b < w.heap.size :=
  ⟨fun i => by simp [World.cell?, h], fun i => by simp [World.frozen?, h], (Array.getElem?_eq_some_iff.1 h).1⟩
theorem lt_step {a b : Nat} (h : a < b) : a < b + 1 := Nat.lt_succ_of_lt h
theorem box_below {W w1 : World} {b : Nat} {o : Obj} (hb : Below W.heap.size W w1) (h : W.heap[b]? = some o) : w1.heap[b]? = some o :=
  (hb.block b (Array.getElem?_eq_some_iff.1 h).1).trans h
theorem ext_alloc {W : World} {b : Nat} {o : Obj} (h : W.heap[b]? = some o) (y : Obj) : (W.alloc y).heap[b]? = some o := by
  have hl : b < W.heap.size := (Array.getElem?_eq_some_iff.1 h).1
  simp only [World.alloc, Array.getElem?_push]
  rw [if_neg (by omega)]
  exact h
theorem ext_drew {W : World} {b : Nat} {o : Obj} (h : W.heap[b]? = some o) : W.drew.heap[b]? = some o := h
theorem ext_drewN {W : World} {b : Nat} {o : Obj} (h : W.heap[b]? = some o) (n : Nat) : (W.drewN n).heap[b]? = some o := h
theorem nb_1 (W : World) (y : Obj) : (W.alloc y).heap[W.heap.size]? = some y := by simp only [World.alloc, Array.getElem?_push]; simp
theorem nb_2 (W : World) (x y : Obj) : ((W.alloc x).alloc y).heap[W.heap.size + 1]? = some y := by simp only [World.alloc, Array.getElem?_push, Array.size_push]; simp
theorem letter1 (w : World) (o : Obj) : ∃ w1, w.alloc o = w1 ∧ w1.heap[w.heap.size]? = some o ∧ Below w.heap.size w w1 ∧ w1.heap.size = w.heap.size + 1 := ⟨_, rfl, nb_1 w o, Below.alloc (Below.refl _ _) (Nat.le_refl _) _, by simp⟩
theorem letter2 (w : World) (o p : Obj) : ∃ w1, (w.alloc o).alloc p = w1 ∧ w1.heap[w.heap.size]? = some o ∧ w1.heap[w.heap.size + 1]? = some p ∧ Below w.heap.size w w1 ∧ w1.heap.size = w.heap.size + 1 + 1 := ⟨_, rfl, ext_alloc (nb_1 w o) p, nb_2 w o p, Below.alloc (Below.alloc (Below.refl _ _) (Nat.le_refl _) _) (by simp) _, by simp⟩
theorem lt_0_1 (n : Nat) : n < n + 1 := by omega
theorem lt_0_2 (n : Nat) : n < n + 1 + 1 := by omega
theorem lt_1_2 (n : Nat) : n + 1 < n + 1 + 1 := by omega
theorem lt_0_3 (n : Nat) : n < n + 1 + 1 + 1 := by omega
theorem lt_1_3 (n : Nat) : n + 1 < n + 1 + 1 + 1 := by omega
theorem lt_2_3 (n : Nat) : n + 1 + 1 < n + 1 + 1 + 1 := by omega
theorem lt_0_4 (n : Nat) : n < n + 1 + 1 + 1 + 1 := by omega
theorem lt_1_4 (n : Nat) : n + 1 < n + 1 + 1 + 1 + 1 := by omega
theorem lt_2_4 (n : Nat) : n + 1 + 1 < n + 1 + 1 + 1 + 1 := by omega
theorem lt_3_4 (n : Nat) : n + 1 + 1 + 1 < n + 1 + 1 + 1 + 1 := by omega
theorem lt_0_5 (n : Nat) : n < n + 1 + 1 + 1 + 1 + 1 := by omega
theorem lt_1_5 (n : Nat) : n + 1 < n + 1 + 1 + 1 + 1 + 1 := by omega
theorem lt_2_5 (n : Nat) : n + 1 + 1 < n + 1 + 1 + 1 + 1 + 1 := by omega
theorem lt_3_5 (n : Nat) : n + 1 + 1 + 1 < n + 1 + 1 + 1 + 1 + 1 := by omega
theorem lt_4_5 (n : Nat) : n + 1 + 1 + 1 + 1 < n + 1 + 1 + 1 + 1 + 1 := by omega
theorem lt_0_6 (n : Nat) : n < n + 1 + 1 + 1 + 1 + 1 + 1 := by omega
theorem lt_1_6 (n : Nat) : n + 1 < n + 1 + 1 + 1 + 1 + 1 + 1 := by omega
theorem lt_2_6 (n : Nat) : n + 1 + 1 < n + 1 + 1 + 1 + 1 + 1 + 1 := by omega
theorem lt_3_6 (n : Nat) : n + 1 + 1 + 1 < n + 1 + 1 + 1 + 1 + 1 + 1 := by omega
theorem lt_4_6 (n : Nat) : n + 1 + 1 + 1 + 1 < n + 1 + 1 + 1 + 1 + 1 + 1 := by omega
theorem lt_5_6 (n : Nat) : n + 1 + 1 + 1 + 1 + 1 < n + 1 + 1 + 1 + 1 + 1 + 1 := by omega
theorem lt_0_7 (n : Nat) : n < n + 1 + 1 + 1 + 1 + 1 + 1 + 1 := by omega
theorem lt_1_7 (n : Nat) : n + 1 < n + 1 + 1 + 1 + 1 + 1 + 1 + 1 := by omega
theorem lt_2_7 (n : Nat) : n + 1 + 1 < n + 1 + 1 + 1 + 1 + 1 + 1 + 1 := by omega
theorem lt_3_7 (n : Nat) : n + 1 + 1 + 1 < n + 1 + 1 + 1 + 1 + 1 + 1 + 1 := by omega
theorem lt_4_7 (n : Nat) : n + 1 + 1 + 1 + 1 < n + 1 + 1 + 1 + 1 + 1 + 1 + 1 := by omega
theorem lt_5_7 (n : Nat) : n + 1 + 1 + 1 + 1 + 1 < n + 1 + 1 + 1 + 1 + 1 + 1 + 1 := by omega
theorem lt_6_7 (n : Nat) : n + 1 + 1 + 1 + 1 + 1 + 1 < n + 1 + 1 + 1 + 1 + 1 + 1 + 1 := by omega
theorem lt_0_8 (n : Nat) : n < n + 1 + 1 + 1 + 1 + 1 + 1 + 1 + 1 := by omega
theorem lt_1_8 (n : Nat) : n + 1 < n + 1 + 1 + 1 + 1 + 1 + 1 + 1 + 1 := by omega
theorem lt_2_8 (n : Nat) : n + 1 + 1 < n + 1 + 1 + 1 + 1 + 1 + 1 + 1 + 1 := by omega
theorem lt_3_8 (n : Nat) : n + 1 + 1 + 1 < n + 1 + 1 + 1 + 1 + 1 + 1 + 1 + 1 := by omega
theorem lt_4_8 (n : Nat) : n + 1 + 1 + 1 + 1 < n + 1 + 1 + 1 + 1 + 1 + 1 + 1 + 1 := by omega
theorem lt_5_8 (n : Nat) : n + 1 + 1 + 1 + 1 + 1 < n + 1 + 1 + 1 + 1 + 1 + 1 + 1 + 1 := by omega
theorem lt_6_8 (n : Nat) : n + 1 + 1 + 1 + 1 + 1 + 1 < n + 1 + 1 + 1 + 1 + 1 + 1 + 1 + 1 := by omega
theorem lt_7_8 (n : Nat) : n + 1 + 1 + 1 + 1 + 1 + 1 + 1 < n + 1 + 1 + 1 + 1 + 1 + 1 + 1 + 1 := by omega
end Go.Proofs.Ytmlpnjoejdpblaa.L
end
section
/- Rows of whole numbers that are read, over a store elsewhere. -/
namespace Go.Proofs.Ytmlpnjoejdpblaa.L
open Go.RowKit Go.Proofs.YtmlpnjoejdpblaaW.PrintWords
theorem R_block {k : IntKind} {e : Nat} {w : World} {base : Nat} {ok : Nat → Prop} {A : Option Addr} {n c : Nat} {xs : List Int} (h : Kd.R (Kd.int k) e w base ok (.slice A n c) xs) : ∀ ad, A = some ad → 0 < n → base ≤ ad.block := by
  intro ad ha hn
  have h1 := (Kd.R_reads' h).1
  obtain ⟨g, cap, he, hb, _⟩ := Kd.R_form h (by omega)
  injection he with e1 e2 e3
  rw [ha] at e1
  injection e1 with e1
  rw [e1]
  exact hb
end Go.Proofs.Ytmlpnjoejdpblaa.L
end
section
/- Rows of whole numbers that are read, with the blocks they may lie in. -/
namespace Go.Proofs.Ytmlpnjoejdpblaa.L
open Go.RowKit Go.Proofs.YtmlpnjoejdpblaaW.PrintWords
theorem sz_alloc (w : World) (o : Obj) : (w.alloc o).heap.size = w.heap.size + 1 := by simp
theorem sz_drew (w : World) : w.drew.heap.size = w.heap.size := rfl
theorem sz_drewN (w : World) (n : Nat) : (w.drewN n).heap.size = w.heap.size := rfl
theorem sz_set (w : World) (p : Addr) (v : Value) : (w.setCell p v).heap.size = w.heap.size := by simp
theorem cell_of_heap {W W' : World} {a : Addr} {v : Value} (h : W.cell? a = some v) (hk : W'.heap[a.block]? = W.heap[a.block]?) : W'.cell? a = some v := by
  unfold World.cell? at h ⊢; rw [hk]; exact h
theorem add_block (a : Addr) (j : Nat) : (a.add j).block = a.block := by cases a; unfold Addr.add; (repeat' split) <;> rfl
theorem F_of_C {k : IntKind} {W : World} {ok : Nat → Prop} {A : Option Addr} {n : Nat} {xs : List Int} (h : Kd.C (Kd.int k) W A n xs) (hb : ∀ ad, A = some ad → 0 < n → ok ad.block) : Kd.F (Kd.int k) W ok A n xs := by
  intro W' hW
  obtain ⟨h1, h2, h3⟩ := h
  refine ⟨h1, h2, fun hp => ?_⟩
  obtain ⟨ad, e, hc⟩ := h3 hp
  refine ⟨ad, e, fun i p hi => ?_⟩
  obtain ⟨c, hl, hK, hcell⟩ := hc i p hi
  refine ⟨c, hl, hK, fun q v hv => ?_⟩
  have h5 := hcell q v hv
  refine cell_of_heap h5 ?_
  rw [add_block]
  have h6 := World.block_lt_of_cell? W _ h5
  rw [add_block] at h6
  exact hW _ (hb ad e hp) h6
/-- A row of what came in. -/
theorem F_in {k : IntKind} {W : World} {A : Option Addr} {n : Nat} {xs : List Int} (h : Kd.C (Kd.int k) W A n xs) : Kd.F (Kd.int k) W (fun j => j < W.heap.size) A n xs := by
  refine F_of_C h (fun ad e hp => ?_)
  obtain ⟨ad', e', hc⟩ := h.2.2 hp
  rw [e] at e'; injection e' with e'; subst e'
  have hx : 0 < xs.length := by rw [h.1]; exact hp
  obtain ⟨c, hl, hK, hcell⟩ := hc 0 (xs[0]) (List.getElem?_eq_getElem hx)
  have hl' : 0 < c.length := by rw [hl]; exact Nat.zero_lt_one
  have h6 := World.block_lt_of_cell? W _ (hcell 0 c[0] (List.getElem?_eq_getElem hl'))
  rw [add_block] at h6
  exact h6
/-- A row that a call made. -/
theorem R_Fb {k : IntKind} {e : Nat} {w : World} {base : Nat} {ok : Nat → Prop} {A : Option Addr} {n c : Nat} {xs : List Int} (h : Kd.R (Kd.int k) e w base ok (.slice A n c) xs) : Kd.F (Kd.int k) w (fun j => base ≤ j) A n xs := by
  have h2 := Kd.R_reads' h
  have h3 := h2.1
  subst h3
  exact F_of_C h2.2.2 (R_block h)
theorem R_Fl {k : IntKind} {e : Nat} {w : World} {base : Nat} {ok : Nat → Prop} {v : Value} {xs : List Int} (h : Kd.R (Kd.int k) e w base ok v xs) : ∃ A c, v = .slice A xs.length c ∧ xs.length ≤ c ∧ Kd.F (Kd.int k) w (fun j => base ≤ j) A xs.length xs := by
  obtain ⟨A, c, ev⟩ := Kd.R_slice h
  subst ev
  exact ⟨A, c, rfl, (Kd.R_reads' h).2.1, R_Fb h⟩
theorem add_eq (b o i : Nat) : (Addr.add ⟨b, o, none⟩ i) = ⟨b, o + i, none⟩ := by unfold Addr.add; split <;> simp_all
theorem F_cell' {k : IntKind} {W : World} {ok : Nat → Prop} {A : Option Addr} {n : Nat} {xs : List Int} (h : Kd.F (Kd.int k) W ok A n xs) (hn : 0 < n) : ∃ b o, A = some ⟨b, o, none⟩ ∧ ∀ i, i < n → W.cell? ⟨b, o + i, none⟩ = some (.int k (xs.getD i 0)) := by
  obtain ⟨_, _, h3⟩ := Kd.reads_of_C (d := (0 : Int)) (Kd.F_now h)
  obtain ⟨ad, e, hc⟩ := h3 hn
  have hs := World.cell?_spot (hc 0 hn)
  obtain ⟨b, o, sp⟩ := ad
  have hsp : sp = none := by
    cases sp with
    | none => rfl
    | some s => exfalso; revert hs; unfold Addr.add; simp
  subst hsp
  exact ⟨b, o, e, fun i hi => by rw [← add_eq]; exact hc i hi⟩
theorem F_res {k : IntKind} {W : World} {ok ok' : Nat → Prop} {A : Option Addr} {n : Nat} {xs : List Int} (h : Kd.F (Kd.int k) W ok A n xs) (hk : ∀ j, ok j → ok' j) : Kd.F (Kd.int k) W ok' A n xs := Kd.F_mono h hk
end Go.Proofs.Ytmlpnjoejdpblaa.L
end
section
/- What is kept from world to world, in short words: the road is found by the tactic that stands here once. -/
namespace Go.Proofs.Ytmlpnjoejdpblaa.L
open Go.RowKit Go.Proofs.YtmlpnjoejdpblaaW.PrintWords Go.Proofs.YtmlpnjoejdpblaaW.PrintLast Go.Proofs.YtmlpnjoejdpblaaW.PrintMore
theorem fG {P Q : Prop} (r : Aside0 P) (go : P → Q := by (intro h_; (repeat (with_reducible first | exact h_ | apply Kd.F_drew | apply Kd.F_drewN | apply Kd.F_alloc | refine Kd.F_far ?_ ?_ _)); all_goals (intro j_ hj_; (try dsimp only at hj_); (try dsimp only); (try simp only [sz_alloc, sz_drew, sz_drewN, sz_set] at hj_); omega))) : Q := go r.out
theorem bG {P Q : Prop} (r : Aside0 P) (go : P → Q := by (intro h_; repeat (first | (with_reducible first | exact h_ | exact Below.refl _ _ | apply below_alloc | apply pw_below_drewN | apply below_drew | refine below_set ?_ (by omega)) | exact h_))) : Q := go r.out
theorem eG {P Q : Prop} (r : Aside0 P) (go : P → Q := by (intro h_; repeat (with_reducible first | exact h_ | apply ext_drew | apply ext_drewN | apply ext_alloc | refine blk_far ?_ (by show _ ≠ _; dsimp only; omega) _))) : Q := go r.out
end Go.Proofs.Ytmlpnjoejdpblaa.L
end
section
/- Great structs: a store of a whole one into a box of the call's own, its load, both with a value that is a letter. -/
namespace Go.Proofs.Ytmlpnjoejdpblaa.L
open Go.RowKit Go.Proofs.YtmlpnjoejdpblaaW.PrintWords
set_option linter.unusedVariables false
theorem st_put {W W' base : World} {i g : Nat} {o : Obj} (h : base.heap[i]? = some o) (hk : ∀ i, i ≠ g → W'.heap[i]? = W.heap[i]?) (he : base.heap[i]? = some o → W.heap[i]? = some o) (hi : i ≠ g) : W'.heap[i]? = some o := (hk i hi).trans (he h)
theorem st_set {g : Nat} {t : TypeId} : ∀ (vs pre old : List Value) (W : World), W.heap[g]? = some (.cells (pre ++ old).toArray t (0, 0)) → old.length = vs.length → (W.setCells g pre.length vs).heap[g]? = some (.cells (pre ++ vs).toArray t (0, 0))
  | [], pre, old, W, h, hl => by
    obtain rfl : old = [] := List.length_eq_zero_iff.1 hl
    exact h
  | v :: vs, pre, [], W, h, hl => by cases hl
  | v :: vs, pre, o :: old, W, h, hl => by
    have h1 : (W.setCell ⟨g, pre.length, none⟩ v).heap[g]? = some (.cells ((pre ++ [v]) ++ old).toArray t (0, 0)) := blk_put h pre.length v (by rw [List.setIfInBounds_toArray]; simp)
    have h2 := st_set vs (pre ++ [v]) old _ h1 (by simpa using hl)
    rw [List.length_append, List.length_singleton, List.append_assoc, List.singleton_append] at h2
    exact h2
theorem st_keep {g : Nat} : ∀ (vs : List Value) (o : Nat) (W : World) (i : Nat), i ≠ g → (W.setCells g o vs).heap[i]? = W.heap[i]?
  | [], o, W, i, hi => rfl
  | v :: vs, o, W, i, hi => (st_keep vs (o + 1) _ i hi).trans (Below.heap_setCell W ⟨g, o, none⟩ v i hi)
theorem st_size {g : Nat} : ∀ (vs : List Value) (o : Nat) (W : World), (W.setCells g o vs).heap.size = W.heap.size
  | [], o, W => rfl
  | v :: vs, o, W => (st_size vs (o + 1) _).trans (by simp)
theorem st_below {g : Nat} {w : World} : ∀ (vs : List Value) (o : Nat) (W : World), Below g w W → Below g w (W.setCells g o vs)
  | [], o, W, h => h
  | v :: vs, o, W, h => st_below vs (o + 1) _ (Below.setCell h (p := ⟨g, o, none⟩) (Nat.le_refl _) v)
theorem st_there {W : World} {g n : Nat} {cs : Array Value} {t : TypeId} (h : W.heap[g]? = some (.cells cs t (0, 0))) (hn : cs.size = n) : W.there g 0 n := fun j hj => by
  obtain ⟨h1, h2, _⟩ := cells_of h
  rw [h1, h2]
  simp [hn, hj]
section
variable {P : Program} {ops : Array Oper} {rest : List Oper} {o : Oper} {a : Act} {Q : Exit → Act → World → Prop} {W : World}
/-- What a store of a whole struct leaves. -/
def Stored (g : Nat) (cells : Array Value) (t : TypeId) (W w1 : World) : Prop := w1.heap[g]? = some (.cells cells t (0, 0)) ∧ (∀ i, i ≠ g → w1.heap[i]? = W.heap[i]?) ∧ Below g W w1 ∧ w1.heap.size = W.heap.size
theorem st_done {g : Nat} {cells cs0 : Array Value} {t : TypeId} (hg : W.heap[g]? = some (.cells cs0 t (0, 0))) (hs : cs0.size = cells.size) : Stored g cells t W (W.setCells g 0 cells.toList) := by
  refine ⟨?_, fun i hi => st_keep _ _ _ i hi, st_below _ _ _ (Below.refl _ _), st_size _ _ _⟩
  have := st_set cells.toList [] cs0.toList W (by simpa using hg) (by simpa using hs)
  simpa using this
theorem wpList_store_all (hgd : o.guard = none) (ty : TypeId) (x y : Operand) (ho : o.op = .store ty x y) (hN : o.dst = none) (g : Nat) (cells : Array Value) (hx : a.eval x = .pointer (some ⟨g, 0, none⟩)) (hy : a.eval y = .agg cells)
    (cs0 : Array Value) (t : TypeId) (hg : W.heap[g]? = some (.cells cs0 t (0, 0))) (hs : cs0.size = cells.size) (hi : (P.info? ty).map (·.size) = some cells.size) (h1 : cells.all (·.oneCell') = true)
    (h : ∀ w1, Stored g cells t W w1 → wpList P ops Q rest a w1) : wpList P ops Q (o :: rest) a W := by
  refine wpList_store_mid hgd ty x y ho g 0 cells hx hy (st_there hg hs) hi h1 ?_
  rw [hN]
  exact h _ (st_done hg hs)

end
end Go.Proofs.Ytmlpnjoejdpblaa.L
end
section
-- Ytmlpnjoejdpblaa: written by a program for this claim (several laws of one seat at once)
namespace Go.Proofs.Ytmlpnjoejdpblaa.Q
open Go.RowKit Go.Proofs.YtmlpnjoejdpblaaW.PrintWords Go.Proofs.YtmlpnjoejdpblaaW.PrintLast Go.Proofs.YtmlpnjoejdpblaaW.PrintMore
attribute [local go_sem] max2_int min2_int max_two min_two max_three min_three max_four min_four   -- for this text's walks alone
set_option linter.unusedVariables false
set_option linter.unusedSimpArgs false

def errW : Option Int → Value
  | none => .nilIface
  | some c => .iface 0 (.int .i64 c)
theorem errW_none : errW none = .nilIface := rfl
theorem errW_some (c : Int) : errW (some c) = .iface 0 (.int .i64 c) := rfl

theorem info3 : (Try.prog.info? 3).map (fun i => (i.zero, i.size, i.bytes)) = some (some (.int .i64 0), 1, 8) := by kernel_rfl
-- the values' own types
end Go.Proofs.Ytmlpnjoejdpblaa.Q
end
section
/- The print's word for a row that is shared, read as a row with its footprint. -/
namespace Go.Proofs.Ytmlpnjoejdpblaa.Q
open Go.RowKit Go.Proofs.YtmlpnjoejdpblaaW.PrintWords Go.Proofs.YtmlpnjoejdpblaaW.PrintLast Go.Proofs.YtmlpnjoejdpblaaW.PrintMore Go.Proofs.Ytmlpnjoejdpblaa.L
theorem V_F {α : Type} {d : Kd α} {W : World} {base e n c : Nat} {ok : Nat → Prop} {A : Option Addr} {xs : List α} (h : Kd.V d e W base ok (.slice A n c) xs) : n = xs.length ∧ xs.length ≤ c ∧ Kd.F d W ok A xs.length xs := by
  obtain ⟨A', c', ev, hc, hF⟩ := h
  injection ev with e1 e2 e3
  subst e1; subst e2; subst e3
  exact ⟨rfl, hc, hF⟩
end Go.Proofs.Ytmlpnjoejdpblaa.Q
end
section
/- A region that draws its order, walked in one way: whole rows loaded, stored; calls whose world is 'Below'. -/
namespace Go.Proofs.Ytmlpnjoejdpblaa.L
open Go.RowKit Go.Proofs.YtmlpnjoejdpblaaW.PrintWords Go.Proofs.YtmlpnjoejdpblaaW.PrintLast
set_option linter.unusedVariables false
section
variable {P : Program} {ops : Array Oper} {Q : Exit → Act → World → Prop} {md : Region.Mode} {S : World → Prop} {ds : List Nat} {a : Act} {w : World} {i fuel : Nat} {N : Option Tmp} {oi : Oper} {l : Array Bool}
theorem rowL_ (l' : Array Bool) (hi : ops[i]? = some oi) (hN : oi.dst = N) (hc : takeB md ops ds l l' i = true) (ty : TypeId) (x : Operand) (ho : oi.op = .load ty x) (g : Nat) (cs : Array Value)
    (hQ : ∀ c a w, Q (.panic c) (a.put oi.dst (.agg cs)) w → Q (.panic c) a w) (hw : Region.wanted oi (yielded ops a.tmps) = true) (hx : a.eval x = .pointer (some ⟨g, 0, none⟩))
    (t : TypeId) (fr : Nat × Nat) (d : TypeDesc) (hSg : ∀ w, S w → w.heap[g]? = some (.cells cs t fr)) (hu : P.underlying ty = some d) (hd : (match d with | .struct _ | .array _ _ => true | _ => false) = true) (hz : (P.info? ty).map (·.size) = some cs.size)
    (hS : S w) {a' : Act} (ha : a.put N (.agg cs) = a') (h : wpAnyLast P md ops Q S ds fuel l' a' w) : wpAnyLast P md ops Q S ds (fuel + 1) l a w := by
  refine take_ (v := .agg cs) l' hi hN hc hQ (.inl ⟨hw, fun w' hw' => ?_⟩) hS ha h
  unfold execOp
  simp only [ho, hx, Instr.loadAt, Instr.sureAddr, Sem.run_bind, Sem.run_pure, Result.andThen_ok, run_loadVar_row w' g t ty cs fr d (hSg w' hw') hu hd hz]
theorem rowS_ (l' : Array Bool) (hi : ops[i]? = some oi) (hN : oi.dst = none) (hc : readyB md ops l l' i = true) (hd : i ∉ ds) (ty : TypeId) (x y : Operand) (ho : oi.op = .store ty x y) (g : Nat) (cells : Array Value)
    (hw : Region.wanted oi (yielded ops a.tmps) = true) (hx : a.eval x = .pointer (some ⟨g, 0, none⟩)) (hy : a.eval y = .agg cells)
    (cs0 : Array Value) (t : TypeId) (hg : w.heap[g]? = some (.cells cs0 t (0, 0))) (hs : cs0.size = cells.size) (hz : (P.info? ty).map (·.size) = some cells.size) (h1 : cells.all (·.oneCell') = true)
    (h : ∀ w1, Stored g cells t w w1 → S w1 ∧ wpAnyLast P md ops Q S ds fuel l' a w1) : wpAnyLast P md ops Q S ds (fuel + 1) l a w := by
  refine one_ l' hi hN hc hd (fun K hK => ?_)
  rw [if_pos hw]
  refine wp_store_mid ty x y ho g 0 cells hx hy (st_there hg hs) hz h1 ?_
  rw [hN]
  have h2 := h _ (st_done hg hs)
  exact hK.out _ _ h2.1 (fun _ => h2.2)
end
end Go.Proofs.Ytmlpnjoejdpblaa.L
end
section
/- A controller as one letter: its rows and numbers (Pd), the slices that stand for the rows (Pv). -/
namespace Go.Proofs.Ytmlpnjoejdpblaa.Q
open Go.RowKit Go.Proofs.YtmlpnjoejdpblaaW.PrintWords Go.Proofs.YtmlpnjoejdpblaaW.PrintLast Go.Proofs.YtmlpnjoejdpblaaW.PrintMore Go.Proofs.Ytmlpnjoejdpblaa.L
set_option linter.unusedVariables false
/-- A slice whose row is read as a list. -/
def SL (k : IntKind) (W : World) (ok : Nat → Prop) (v : Value) (l : List Int) : Prop := ∃ A c, v = .slice A l.length c ∧ l.length ≤ c ∧ Kd.F (Kd.int k) W ok A l.length l
section
variable {k : IntKind} {W W' : World} {ok ok' : Nat → Prop} {v : Value} {l : List Int}
theorem SL.mono (h : SL k W ok v l) (hk : ∀ j, ok j → ok' j) : SL k W ok' v l := by
  obtain ⟨A, c, e, hc, hF⟩ := h
  exact ⟨A, c, e, hc, Kd.F_mono hF hk⟩
theorem SL.step (h : SL k W ok v l) (hk : ∀ j, ok j → j < W.heap.size → W'.heap[j]? = W.heap[j]?) : SL k W' ok v l := by
  obtain ⟨A, c, e, hc, hF⟩ := h
  exact ⟨A, c, e, hc, Kd.F_step hF hk⟩
theorem SL.below (h : SL k W ok v l) (hb : Below W.heap.size W W') : SL k W' ok v l := h.step (fun j _ hlt => hb.block j hlt)
theorem SL.alloc (h : SL k W ok v l) (y : Obj) : SL k (W.alloc y) ok v l := h.step (fun j _ hlt => by simp only [World.alloc, Array.getElem?_push]; rw [if_neg (by omega)])
theorem SL.drew (h : SL k W ok v l) : SL k W.drew ok v l := h.step (fun j _ _ => rfl)
theorem SL.drewN (h : SL k W ok v l) (n : Nat) : SL k (W.drewN n) ok v l := h.step (fun j _ _ => rfl)
theorem SL.set (h : SL k W ok v l) (p : Addr) (u : Value) (hok : ∀ j, ok j → j ≠ p.block) : SL k (W.setCell p u) ok v l := h.step (fun j hj _ => Below.heap_setCell W p u j (hok j hj))
theorem SL.bound (h : SL k W ok v l) : SL k W (fun j => ok j ∧ j < W.heap.size) v l := by
  obtain ⟨A, c, e, hc, hF⟩ := h
  exact ⟨A, c, e, hc, Kd.F_bound hF⟩
theorem SL.one (h : SL k W ok v l) : v.oneCell' = true := by
  obtain ⟨A, c, e, hc, hF⟩ := h
  rw [e]; rfl
theorem SL.len (h : SL k W ok v l) : l.length ≤ 9223372036854775807 := by
  obtain ⟨A, c, e, hc, hF⟩ := h
  exact (Kd.F_now hF).2.1
theorem SL.V {ty : Nat} {n : Nat} (h : SL k W ok v l) : ∃ A c, v = .slice A l.length c ∧ Kd.V (Kd.int k) ty W n ok (.slice A l.length c) l := by
  obtain ⟨A, c, e, hc, hF⟩ := h
  exact ⟨A, c, e, Kd.V_mk hc hF⟩
theorem SL.of_V {ty : Nat} {n : Nat} (h : Kd.V (Kd.int k) ty W n ok v l) : SL k W ok v l := by
  obtain ⟨A', c', ev, hc, hF⟩ := h
  exact ⟨A', c', ev, hc, hF⟩
theorem SL.of_R {ty : Nat} {n : Nat} (h : Kd.R (Kd.int k) ty W n ok v l) : SL k W (fun j => n ≤ j) v l := by
  obtain ⟨A, c, e, hc, hF⟩ := R_Fl h
  exact ⟨A, c, e, hc, hF⟩
theorem SL.of_C {A : Option Addr} {c : Nat} (h : Kd.C (Kd.int k) W A l.length l) (hc : l.length ≤ c) : SL k W (fun j => j < W.heap.size) (.slice A l.length c) l := ⟨A, c, rfl, hc, F_in h⟩
theorem SL.nil : SL k W ok (.slice none 0 0) [] := ⟨none, 0, rfl, Nat.le_refl _, fun W' _ => ⟨rfl, by decide, fun h => absurd h (by decide)⟩⟩
end
theorem SL.at {k : IntKind} {W : World} {ok : Nat → Prop} {v : Value} {l : List Int} {b o n c : Nat} (h : SL k W ok v l) (ev : v = .slice (some ⟨b, o, none⟩) n c) (i : Nat) (hi : i < l.length) : W.cell? ⟨b, o + i, none⟩ = some (.int k (rd l (i : Int))) := by
  obtain ⟨A, c', e, hc, hF⟩ := h
  rw [ev] at e
  injection e with e1 e2 e3
  subst e1
  obtain ⟨b', o', e, hcl⟩ := F_cell' hF (by omega)
  injection e with e; injection e with e1 e2
  subst e1; subst e2
  have := hcl i hi
  rw [this]; unfold rd; rw [Int.toNat_natCast]
theorem SL.addr {k : IntKind} {W : World} {ok : Nat → Prop} {v : Value} {l : List Int} (h : SL k W ok v l) (hn : 0 < l.length) : ∃ b o c, v = .slice (some ⟨b, o, none⟩) l.length c := by
  obtain ⟨A, c', e, hc, hF⟩ := h
  obtain ⟨b', o', ea, hcl⟩ := F_cell' hF (by omega)
  exact ⟨b', o', c', by rw [e, ea]⟩
structure Pd where
  q0 : List Int
  x : Int
  y : Int
  q3 : List Int
  q4 : List Int
structure Pv where
  p0 : Value
  p3 : Value
  p4 : Value
def PC (p : Pd) (v : Pv) : Array Value := #[v.p0, .int .i64 p.x, .int .i64 p.y, v.p3, v.p4]
def PZ : Array Value := #[.slice none 0 0, .int .i64 0, .int .i64 0, .slice none 0 0, .slice none 0 0]
theorem infPC : (Try.prog.info? 24).map (·.size) = some 5 := by kernel_rfl
structure PF (W : World) (ok : Nat → Prop) (p : Pd) (v : Pv) : Prop where
  p0 : SL .i64 W ok v.p0 p.q0
  p3 : SL .i64 W ok v.p3 p.q3
  p4 : SL .i64 W ok v.p4 p.q4
section
variable {W W' : World} {ok ok' : Nat → Prop} {p : Pd} {v : Pv}
theorem PF.mono (h : PF W ok p v) (hk : ∀ j, ok j → ok' j) : PF W ok' p v := ⟨h.p0.mono hk, h.p3.mono hk, h.p4.mono hk⟩
theorem PF.step (h : PF W ok p v) (hk : ∀ j, ok j → j < W.heap.size → W'.heap[j]? = W.heap[j]?) : PF W' ok p v := ⟨h.p0.step hk, h.p3.step hk, h.p4.step hk⟩
theorem PF.below (h : PF W ok p v) (hb : Below W.heap.size W W') : PF W' ok p v := h.step (fun j _ hlt => hb.block j hlt)
theorem PF.alloc (h : PF W ok p v) (y : Obj) : PF (W.alloc y) ok p v := ⟨h.p0.alloc y, h.p3.alloc y, h.p4.alloc y⟩
theorem PF.drew (h : PF W ok p v) : PF W.drew ok p v := h.step (fun j _ _ => rfl)
theorem PF.drewN (h : PF W ok p v) (n : Nat) : PF (W.drewN n) ok p v := h.step (fun j _ _ => rfl)
theorem PF.bound (h : PF W ok p v) : PF W (fun j => ok j ∧ j < W.heap.size) p v := ⟨h.p0.bound, h.p3.bound, h.p4.bound⟩
theorem PF.one (h : PF W ok p v) : (PC p v).all (·.oneCell') = true := by
  obtain ⟨_, _, e1, _⟩ := h.p0
  obtain ⟨_, _, e2, _⟩ := h.p3
  obtain ⟨_, _, e3, _⟩ := h.p4
  unfold PC
  rw [e1, e2, e3]
  simp [Value.oneCell']
end
end Go.Proofs.Ytmlpnjoejdpblaa.Q
end
section
/- Whole numbers of 64 bits with a sign: their bits as vectors. -/
set_option linter.unusedVariables false
set_option linter.unusedSimpArgs false
namespace Go.Proofs.Ytmlpnjoejdpblaa.L
open Go.RowKit
def i64R (x : Int) : Prop := -9223372036854775808 ≤ x ∧ x ≤ 9223372036854775807
def bv (x : Int) : BitVec 64 := BitVec.ofInt 64 x
theorem toInt_bv {x : Int} (h : i64R x) : (bv x).toInt = x := by
  unfold bv
  rw [BitVec.toInt_ofInt]
  exact Int.bmod_eq_of_le (by have := h.1; omega) (by have := h.2; omega)
theorem wrap_toInt (v : BitVec 64) : IntKind.i64.wrap (v.toNat : Int) = v.toInt := by
  have e := BitVec.toInt_eq_toNat_bmod v
  rw [e]
  have hl := v.isLt
  have hw : IntKind.i64.wrap (v.toNat : Int) = if v.toNat < 9223372036854775808 then (v.toNat : Int) else (v.toNat : Int) - 18446744073709551616 := by
    rw [IntKind.wrap_i64]; split <;> omega
  rw [hw]
  unfold Int.bmod
  have hm : (v.toNat : Int) % ((2 ^ 64 : Nat) : Int) = v.toNat := by omega
  rw [hm]
  dsimp only
  have hz : ((2 ^ 64 : Nat) : Int) = 18446744073709551616 := by decide
  rw [hz]
  split <;> split <;> omega
theorem i64_and (x y : Int) : Go.bits .and .i64 x y = (bv x &&& bv y).toInt := wrap_toInt _
theorem i64_or (x y : Int) : Go.bits .or .i64 x y = (bv x ||| bv y).toInt := wrap_toInt _
theorem i64_andNot (x y : Int) : Go.bits .andNot .i64 x y = (bv x &&& ~~~ bv y).toInt := wrap_toInt _
theorem toInt_zero {v : BitVec 64} (h : v.toInt = 0) : v = 0#64 := by
  have := congrArg (BitVec.ofInt 64) h
  rwa [BitVec.ofInt_toInt] at this
def m6 (x : Int) : Prop := x = 0 ∨ x = 2 ∨ x = 4 ∨ x = 6
instance (x : Int) : Decidable (m6 x) := inferInstanceAs (Decidable (_ ∨ _))
theorem small6 : ∀ n : Nat, n < 7 → n &&& 6 = n → n = 0 ∨ n = 2 ∨ n = 4 ∨ n = 6 := by decide
theorem and6_m6 (v : BitVec 64) : m6 (v &&& 6#64).toInt := by
  have hn : (v &&& 6#64).toNat = v.toNat &&& 6 := by rw [BitVec.toNat_and]; rfl
  have hle : (v &&& 6#64).toNat < 7 := by rw [hn]; have := Nat.and_le_right (n := v.toNat) (m := 6); omega
  have hi : (v &&& 6#64).toNat &&& 6 = (v &&& 6#64).toNat := by rw [hn, Nat.and_assoc]; rfl
  have e : (v &&& 6#64).toInt = ((v &&& 6#64).toNat : Int) := by
    rw [BitVec.toInt_eq_toNat_cond, if_pos (by omega)]
  have := small6 _ hle hi
  unfold m6
  omega
theorem m6_of_clear (x : Int) (hx : i64R x) (h : Go.bits .andNot .i64 x 6 = 0) : m6 x := by
  rw [i64_andNot] at h
  have hz := toInt_zero h
  have e : bv x &&& 6#64 = bv x := by
    apply BitVec.eq_of_getLsbD_eq
    intro i hi
    have := congrArg (fun v => BitVec.getLsbD v i) hz
    simp only [BitVec.getLsbD_and, BitVec.getLsbD_not, BitVec.getLsbD_zero, hi, decide_true, Bool.true_and] at this ⊢
    show (BitVec.getLsbD (bv x) i && BitVec.getLsbD (6#64) i) = _
    have h6 : BitVec.getLsbD (bv 6) i = BitVec.getLsbD (6#64) i := rfl
    rw [h6] at this
    cases hb : BitVec.getLsbD (bv x) i
    · rfl
    · rw [hb] at this
      cases hc : BitVec.getLsbD (6#64) i
      · rw [hc] at this; cases this
      · rfl
  have := and6_m6 (bv x)
  rw [e, toInt_bv hx] at this
  exact this
theorem or_clear (x y : Int) (hx : i64R x) (hy : i64R y) (h : Go.bits .andNot .i64 (Go.bits .or .i64 x y) 6 = 0) : m6 x ∧ m6 y := by
  rw [i64_or, i64_andNot] at h
  have hz := toInt_zero h
  have hb : bv (bv x ||| bv y).toInt = bv x ||| bv y := BitVec.ofInt_toInt ..
  rw [hb] at hz
  have key : bv x &&& ~~~ bv 6 = 0#64 ∧ bv y &&& ~~~ bv 6 = 0#64 := by
    constructor
    all_goals
      apply BitVec.eq_of_getLsbD_eq
      intro i hi
      have := congrArg (fun v => BitVec.getLsbD v i) hz
      simp only [BitVec.getLsbD_and, BitVec.getLsbD_or, BitVec.getLsbD_not, BitVec.getLsbD_zero, hi, decide_true, Bool.true_and] at this ⊢
      revert this
      cases BitVec.getLsbD (bv x) i <;> cases BitVec.getLsbD (bv y) i <;> cases BitVec.getLsbD (bv 6) i <;> decide
  exact ⟨m6_of_clear x hx (by rw [i64_andNot, key.1]; rfl), m6_of_clear y hy (by rw [i64_andNot, key.2]; rfl)⟩
end Go.Proofs.Ytmlpnjoejdpblaa.L
end
section
/- slices.IndexFunc and ContainsFunc over whole numbers, with a test that the program hands in. -/
namespace Go.Proofs.Ytmlpnjoejdpblaa.Q
open Go.RowKit Go.Proofs.YtmlpnjoejdpblaaW.PrintWords Go.Proofs.YtmlpnjoejdpblaaW.PrintLast Go.Proofs.YtmlpnjoejdpblaaW.PrintMore Go.Proofs.Ytmlpnjoejdpblaa.L
attribute [local go_sem] Instr.field part asAgg lt_step max2_int min2_int max_two min_two max_three min_three max_four min_four lt_0_1 lt_0_2 lt_1_2 lt_0_3 lt_1_3 lt_2_3 lt_0_4 lt_1_4 lt_2_4 lt_3_4 lt_0_5 lt_1_5 lt_2_5 lt_3_5 lt_4_5 lt_0_6 lt_1_6 lt_2_6 lt_3_6 lt_4_6 lt_5_6 lt_0_7 lt_1_7 lt_2_7 lt_3_7 lt_4_7 lt_5_7 lt_6_7 lt_0_8 lt_1_8 lt_2_8 lt_3_8 lt_4_8 lt_5_8 lt_6_8 lt_7_8
set_option linter.unusedVariables false
set_option linter.unusedSimpArgs false
/-- The place of the first that a test lets through; -1. -/
def idxZ (p : Int → Bool) : List Int → Int → Int
  | [], _ => -1
  | x :: l, i => if p x = true then i else idxZ p l (i + 1)
theorem idxZ_any (p : Int → Bool) : ∀ (l : List Int) (i : Int), 0 ≤ i → (decide (idxZ p l i ≥ 0)) = l.any p
  | [], i, h => rfl
  | x :: l, i, h => by
    unfold idxZ
    rw [List.any_cons]
    cases hp : p x
    · rw [if_neg (by decide), idxZ_any p l (i + 1) (by omega), Bool.false_or]
    · rw [if_pos rfl, Bool.true_or]; exact decide_eq_true h
theorem idx_step {p : Int → Bool} {l : List Int} {k : Nat} (hk : k < l.length) : idxZ p (l.drop k) k = if p (rd l (k : Int)) = true then (k : Int) else idxZ p (l.drop (k + 1)) ((k + 1 : Nat) : Int) := by
  rw [List.drop_eq_getElem_cons hk, idxZ]
  have : rd l (k : Int) = l[k] := by unfold rd; rw [Int.toNat_natCast, List.getD_eq_getElem?_getD, List.getElem?_eq_getElem hk]; rfl
  rw [this, Int.natCast_succ]

def greatZ : Int → Bool := fun n => decide (n < 0) || decide (n > 7)
theorem great_runs (n : Int) (w : World) : Calls Try.prog 21 #[.int .i64 n] w fun e w' => e = .returned (.bool (greatZ n)) ∧ w' = w := by
  by_cases h0 : n < 0
  · rw [show greatZ n = true by unfold greatZ; simp [h0]]
    go_enter Try.func21, Try.ntmps21
    (go_wp2; (first | go_region | skip); (all_goals go_wp2))
    all_goals (go_ret; exact ⟨rfl, rfl⟩)
  · rw [show greatZ n = decide (n > 7) by unfold greatZ; simp [h0]]
    go_enter Try.func21, Try.ntmps21
    (go_wp2; (first | go_region | skip); (all_goals go_wp2))
    all_goals (go_ret; exact ⟨rfl, rfl⟩)
set_option maxHeartbeats 1600000 in
set_option maxRecDepth 100000 in
theorem index_great (A0 : Option Addr) (c0 : Nat) (l0 : List Int) (w : World) (hr0 : Kd.C (Kd.int .i64) w A0 l0.length l0) :
    Calls Try.prog 32 #[.slice A0 l0.length c0, .func (.func 21) #[] #[]] w fun e w' => e = .returned (.int .i64 (idxZ greatZ l0 0)) ∧ Below w.heap.size w w' := by
  have HB := Aside0.mk (Below.refl w.heap.size w)
  have HR0 := Aside0.mk hr0
  have hm : l0.length ≤ 9223372036854775807 := hr0.2.1
  obtain ⟨R, hR⟩ : ∃ R, idxZ greatZ l0 0 = R := ⟨_, rfl⟩
  have HI : Aside0 (idxZ greatZ (l0.drop 0) ((0 : Nat) : Int) = R) := ⟨hR⟩
  rw [hR]
  clear hr0 hR
  go_enter Try.func32, Try.ntmps32
  go_wp2
  go_loop [8] (fun i => ∃ k : Nat, k ≤ l0.length ∧ i = .int .i64 k ∧ Aside0 (idxZ greatZ (l0.drop k) (k : Int) = R)) (fun i => l0.length - (intOf i).toNat)
  case atStart => exact ⟨0, Nat.zero_le _, rfl, HI⟩
  case round =>
    clear HI
    obtain ⟨k, hk, rfl, HK⟩ := hrel
    by_cases hlt : k < l0.length
    · obtain ⟨ad, rfl, hc⟩ := Kd.at_int HR0.out (k : Int) (by omega) (by omega)
      rw [Int.toNat_natCast] at hc
      have hK := HK.out
      rw [idx_step hlt] at hK
      clear HK
      cases hp : greatZ (rd l0 (k : Int))
      · rw [hp, if_neg (by decide)] at hK
        have HK := Aside0.mk hK
        clear hK
        go_wp2_with (go_at_call 21; (with_reducible refine (great_runs _ _).mono ?_); rintro e_ w_ ⟨rfl, rfl⟩; (try rw [hp]))
        go_round
        case rel => exact ⟨k + 1, by omega, by go_num, HK⟩
        case measure => simp [intOf]; omega
      · rw [hp, if_pos rfl] at hK
        have HK := Aside0.mk hK
        clear hK
        go_wp2_with (go_at_call 21; (with_reducible refine (great_runs _ _).mono ?_); rintro e_ w_ ⟨rfl, rfl⟩; (try rw [hp]))
        go_ret
        exact ⟨by rw [← HK.out]; rfl, HB.out⟩
    · have hK := HK.out
      rw [List.drop_of_length_le (by omega)] at hK
      have HK2 : Aside0 ((-1 : Int) = R) := ⟨hK⟩
      clear HK hK
      go_wp2
      go_ret
      exact ⟨by rw [← HK2.out]; rfl, HB.out⟩
set_option maxHeartbeats 1600000 in
set_option maxRecDepth 100000 in
theorem contains_great (A0 : Option Addr) (c0 : Nat) (l0 : List Int) (w : World) (hr0 : Kd.C (Kd.int .i64) w A0 l0.length l0) :
    Calls Try.prog 23 #[.slice A0 l0.length c0, .func (.func 21) #[] #[]] w fun e w' => e = .returned (.bool (l0.any greatZ)) ∧ Below w.heap.size w w' := by
  have HB := Aside0.mk (Below.refl w.heap.size w)
  have HA := Aside0.mk (idxZ_any greatZ l0 0 (by decide))
  have HR0 := Aside0.mk hr0
  clear hr0
  go_enter Try.func23, Try.ntmps23
  go_wp2_with fail
  (go_at_call 32; (with_reducible refine (index_great _ _ _ _ HR0.out).mono ?_); rintro e_ w1 ⟨rfl, hb_⟩; have HB_ : Aside0 (Below w.heap.size w w1) := Aside0.mk (below_step (by repeat (first | (with_reducible first | exact HB.out | exact Below.refl _ _ | apply below_alloc | apply pw_below_drewN | apply below_drew | refine below_set ?_ (by omega)) | exact HB.out)) hb_); have hzw1 := hb_.size; (try simp at hzw1); clear HB hb_; have HB := HB_; clear HB_)
  go_wp2
  go_ret
  exact ⟨by rw [← HA.out]; rfl, HB.out⟩
def oddZ : Int → Bool := fun n => Go.bits .andNot .i64 n 6 != 0
theorem odd_runs (n : Int) (w : World) : Calls Try.prog 22 #[.int .i64 n] w fun e w' => e = .returned (.bool (oddZ n)) ∧ w' = w := by
  go_enter Try.func22, Try.ntmps22
  (go_wp2; (first | go_region | skip); (all_goals go_wp2))
  all_goals (go_ret; exact ⟨rfl, rfl⟩)
set_option maxHeartbeats 1600000 in
set_option maxRecDepth 100000 in
theorem index_odd (A0 : Option Addr) (c0 : Nat) (l0 : List Int) (w : World) (hr0 : Kd.C (Kd.int .i64) w A0 l0.length l0) :
    Calls Try.prog 32 #[.slice A0 l0.length c0, .func (.func 22) #[] #[]] w fun e w' => e = .returned (.int .i64 (idxZ oddZ l0 0)) ∧ Below w.heap.size w w' := by
  have HB := Aside0.mk (Below.refl w.heap.size w)
  have HR0 := Aside0.mk hr0
  have hm : l0.length ≤ 9223372036854775807 := hr0.2.1
  obtain ⟨R, hR⟩ : ∃ R, idxZ oddZ l0 0 = R := ⟨_, rfl⟩
  have HI : Aside0 (idxZ oddZ (l0.drop 0) ((0 : Nat) : Int) = R) := ⟨hR⟩
  rw [hR]
  clear hr0 hR
  go_enter Try.func32, Try.ntmps32
  go_wp2
  go_loop [8] (fun i => ∃ k : Nat, k ≤ l0.length ∧ i = .int .i64 k ∧ Aside0 (idxZ oddZ (l0.drop k) (k : Int) = R)) (fun i => l0.length - (intOf i).toNat)
  case atStart => exact ⟨0, Nat.zero_le _, rfl, HI⟩
  case round =>
    clear HI
    obtain ⟨k, hk, rfl, HK⟩ := hrel
    by_cases hlt : k < l0.length
    · obtain ⟨ad, rfl, hc⟩ := Kd.at_int HR0.out (k : Int) (by omega) (by omega)
      rw [Int.toNat_natCast] at hc
      have hK := HK.out
      rw [idx_step hlt] at hK
      clear HK
      cases hp : oddZ (rd l0 (k : Int))
      · rw [hp, if_neg (by decide)] at hK
        have HK := Aside0.mk hK
        clear hK
        go_wp2_with (go_at_call 22; (with_reducible refine (odd_runs _ _).mono ?_); rintro e_ w_ ⟨rfl, rfl⟩; (try rw [hp]))
        go_round
        case rel => exact ⟨k + 1, by omega, by go_num, HK⟩
        case measure => simp [intOf]; omega
      · rw [hp, if_pos rfl] at hK
        have HK := Aside0.mk hK
        clear hK
        go_wp2_with (go_at_call 22; (with_reducible refine (odd_runs _ _).mono ?_); rintro e_ w_ ⟨rfl, rfl⟩; (try rw [hp]))
        go_ret
        exact ⟨by rw [← HK.out]; rfl, HB.out⟩
    · have hK := HK.out
      rw [List.drop_of_length_le (by omega)] at hK
      have HK2 : Aside0 ((-1 : Int) = R) := ⟨hK⟩
      clear HK hK
      go_wp2
      go_ret
      exact ⟨by rw [← HK2.out]; rfl, HB.out⟩
set_option maxHeartbeats 1600000 in
set_option maxRecDepth 100000 in
theorem contains_odd (A0 : Option Addr) (c0 : Nat) (l0 : List Int) (w : World) (hr0 : Kd.C (Kd.int .i64) w A0 l0.length l0) :
    Calls Try.prog 23 #[.slice A0 l0.length c0, .func (.func 22) #[] #[]] w fun e w' => e = .returned (.bool (l0.any oddZ)) ∧ Below w.heap.size w w' := by
  have HB := Aside0.mk (Below.refl w.heap.size w)
  have HA := Aside0.mk (idxZ_any oddZ l0 0 (by decide))
  have HR0 := Aside0.mk hr0
  clear hr0
  go_enter Try.func23, Try.ntmps23
  go_wp2_with fail
  (go_at_call 32; (with_reducible refine (index_odd _ _ _ _ HR0.out).mono ?_); rintro e_ w1 ⟨rfl, hb_⟩; have HB_ : Aside0 (Below w.heap.size w w1) := Aside0.mk (below_step (by repeat (first | (with_reducible first | exact HB.out | exact Below.refl _ _ | apply below_alloc | apply pw_below_drewN | apply below_drew | refine below_set ?_ (by omega)) | exact HB.out)) hb_); have hzw1 := hb_.size; (try simp at hzw1); clear HB hb_; have HB := HB_; clear HB_)
  go_wp2
  go_ret
  exact ⟨by rw [← HA.out]; rfl, HB.out⟩
end Go.Proofs.Ytmlpnjoejdpblaa.Q
end
section
/- plic.Check, as those who call it have it. -/
namespace Go.Proofs.Ytmlpnjoejdpblaa.Q
open Go.RowKit Go.Proofs.YtmlpnjoejdpblaaW.PrintWords Go.Proofs.YtmlpnjoejdpblaaW.PrintLast Go.Proofs.YtmlpnjoejdpblaaW.PrintMore Go.Proofs.Ytmlpnjoejdpblaa.L
attribute [local go_sem] Instr.field part asAgg lt_step max2_int min2_int max_two min_two max_three min_three max_four min_four lt_0_1 lt_0_2 lt_1_2 lt_0_3 lt_1_3 lt_2_3 lt_0_4 lt_1_4 lt_2_4 lt_3_4 lt_0_5 lt_1_5 lt_2_5 lt_3_5 lt_4_5 lt_0_6 lt_1_6 lt_2_6 lt_3_6 lt_4_6 lt_5_6 lt_0_7 lt_1_7 lt_2_7 lt_3_7 lt_4_7 lt_5_7 lt_6_7 lt_0_8 lt_1_8 lt_2_8 lt_3_8 lt_4_8 lt_5_8 lt_6_8 lt_7_8
set_option linter.unusedVariables false
set_option linter.unusedSimpArgs false
/-- The first test of five. -/
def shapeZ (l0 : List Int) (p c : Int) (l3 l4 : List Int) : Bool := (decide (l0.length = 3) && decide (l3.length = 2) && decide (l4.length = 2) && decide (rd l0 0 = 0)) && decide (Go.bits .andNot .i64 (Go.bits .or .i64 p c) 6 = 0)
def checkZ (l0 : List Int) (p c : Int) (l3 l4 : List Int) : Bool := shapeZ l0 p c l3 l4 && (!l0.any greatZ && !l4.any greatZ && !l3.any oddZ)
theorem len_ne {l : List Int} {n : Nat} {z : Int} (hz : z = n) (h : l.length ≠ n) : (((l.length : Nat) : Int) != z) = true := by subst hz; exact bne_iff_ne.mpr (by omega)
theorem len_eq {l : List Int} {n : Nat} {z : Int} (hz : z = n) (h : l.length = n) : (((l.length : Nat) : Int) != z) = false := by subst hz; exact bne_eq_false_iff_eq.mpr (by omega)
section
variable (A0 : Option Addr) (c0 : Nat) (l0 : List Int) (p c : Int) (A3 : Option Addr) (c3 : Nat) (l3 : List Int) (A4 : Option Addr) (c4 : Nat) (l4 : List Int) (w : World)
set_option maxHeartbeats 1600000 in
set_option maxRecDepth 100000 in
theorem check_runs (hr0 : Kd.C (Kd.int .i64) w A0 l0.length l0) (hr3 : Kd.C (Kd.int .i64) w A3 l3.length l3) (hr4 : Kd.C (Kd.int .i64) w A4 l4.length l4) :
    Calls Try.prog 7 #[.agg #[.slice A0 l0.length c0, .int .i64 p, .int .i64 c, .slice A3 l3.length c3, .slice A4 l4.length c4]] w fun e w' => e = .returned (.bool (checkZ l0 p c l3 l4)) ∧ Below w.heap.size w w' := by
  have HB := Aside0.mk (Below.refl w.heap.size w)
  have r0 := Aside0.mk (F_in hr0)
  have r3 := Aside0.mk (F_in hr3)
  have r4 := Aside0.mk (F_in hr4)
  have hm0 : l0.length ≤ 9223372036854775807 := hr0.2.1
  have hm3 : l3.length ≤ 9223372036854775807 := hr3.2.1
  have hm4 : l4.length ≤ 9223372036854775807 := hr4.2.1
  clear hr0 hr3 hr4
  go_enter Try.func7, Try.ntmps7
  go_upto_region 1 with fail
  obtain ⟨w0, hw0, oc0, hb_, hz0⟩ := letter1 w (.cells #[.slice A0 l0.length c0, .int .i64 p, .int .i64 c, .slice A3 l3.length c3, .slice A4 l4.length c4] 24 (0, 0))
  rw [hw0]
  clear hw0
  have oc := Aside0.mk oc0
  clear oc0
  obtain ⟨occ, ocf, ocl⟩ := cells_of oc.out
  have HB_ : Aside0 (Below w.heap.size w w0) := ⟨hb_⟩
  have r0_ := Aside0.mk (Kd.F_below r0.out hb_)
  have r3_ := Aside0.mk (Kd.F_below r3.out hb_)
  have r4_ := Aside0.mk (Kd.F_below r4.out hb_)
  clear HB r0 r3 r4 hb_; have HB := HB_; have r0 := r0_; have r3 := r3_; have r4 := r4_; clear HB_ r0_ r3_ r4_
  go_cut [36] (fun c36 wx => c36 = .bool (!shapeZ l0 p c l3 l4) ∧ wx = w0)
  case first =>
    have HS : Aside0 (shapeZ l0 p c l3 l4 = ((decide (l0.length = 3) && decide (l3.length = 2) && decide (l4.length = 2) && decide (rd l0 0 = 0)) && decide (Go.bits .andNot .i64 (Go.bits .or .i64 p c) 6 = 0))) := ⟨rfl⟩
    by_cases h0 : l0.length = 3
    · have h0b := len_eq (z := 3) rfl h0
      have H0 := Aside0.mk h0
      obtain ⟨ab, ao, rfl, hcs⟩ := F_cell' r0.out (by omega)
      have hc : w0.cell? ⟨ab, ao, none⟩ = some (.int .i64 (rd l0 0)) := hcs 0 (by omega)
      clear hcs
      have h0i : (0 : Int) < (l0.length : Int) := by omega
      by_cases h3 : l3.length = 2
      · have h3b := len_eq (z := 2) rfl h3
        have H3 := Aside0.mk h3
        by_cases h4 : l4.length = 2
        · have h4b := len_eq (z := 2) rfl h4
          have H4 := Aside0.mk h4
          by_cases hz : rd l0 0 = 0
          · have hzb : (rd l0 0 != 0) = false := bne_eq_false_iff_eq.mpr hz
            have HZ := Aside0.mk hz
            clear h0 h3 h4 hz
            by_cases hb : Go.bits .andNot .i64 (Go.bits .or .i64 p c) 6 = 0
            · have hbb : (Go.bits .andNot .i64 (Go.bits .or .i64 p c) 6 != 0) = false := bne_eq_false_iff_eq.mpr hb
              have HBB := Aside0.mk hb
              clear hb
              go_wp2_with fail
              go_meet
              exact ⟨by rw [HS.out]; simp [H0.out, H3.out, H4.out, HZ.out, HBB.out], rfl⟩
            · have hbb : (Go.bits .andNot .i64 (Go.bits .or .i64 p c) 6 != 0) = true := bne_iff_ne.mpr hb
              have HBB := Aside0.mk hb
              clear hb
              go_wp2_with fail
              go_meet
              exact ⟨by rw [HS.out]; simp [HBB.out], rfl⟩
          · have hzb : (rd l0 0 != 0) = true := bne_iff_ne.mpr hz
            have HZ := Aside0.mk hz
            clear h0 h3 h4 hz
            go_wp2_with fail
            go_meet
            exact ⟨by rw [HS.out]; simp [HZ.out], rfl⟩
        · have h4b := len_ne (z := 2) rfl h4
          have H4 := Aside0.mk h4
          clear h0 h3 h4
          go_wp2_with fail
          go_meet
          exact ⟨by rw [HS.out]; simp [H4.out], rfl⟩
      · have h3b := len_ne (z := 2) rfl h3
        have H3 := Aside0.mk h3
        clear h0 h3
        go_wp2_with fail
        go_meet
        exact ⟨by rw [HS.out]; simp [H3.out], rfl⟩
    · have h0b := len_ne (z := 3) rfl h0
      have H0 := Aside0.mk h0
      clear h0
      go_wp2_with fail
      go_meet
      exact ⟨by rw [HS.out]; simp [H0.out], rfl⟩
  case rest =>
    obtain ⟨rfl, hw1⟩ := hcut
    subst hw1
    rename World => w1
    have HS : Aside0 (checkZ l0 p c l3 l4 = (shapeZ l0 p c l3 l4 && (!l0.any greatZ && !l4.any greatZ && !l3.any oddZ))) := ⟨rfl⟩
    cases hs : shapeZ l0 p c l3 l4
    · have HS2 := Aside0.mk hs
      clear hs
      go_wp2_with fail
      go_ret
      exact ⟨by rw [HS.out, HS2.out]; rfl, HB.out⟩
    · have HS2 := Aside0.mk hs
      clear hs
      go_wp2_with fail
      (go_at_call 23; (with_reducible refine (contains_great _ _ l0 _ (Kd.F_now (by (repeat (with_reducible first | exact r0.out | apply Kd.F_drew | apply Kd.F_drewN | apply Kd.F_alloc | refine Kd.F_far ?_ ?_ _)); all_goals (intro j_ hj_; (try dsimp only at hj_); (try dsimp only); (try simp only [sz_alloc, sz_drew, sz_drewN, sz_set] at hj_); omega)))).mono ?_); rintro e_ w2 ⟨rfl, hb_⟩; have HB_ : Aside0 (Below w.heap.size w w2) := Aside0.mk (below_step (by repeat (first | (with_reducible first | exact HB.out | exact Below.refl _ _ | apply below_alloc | apply pw_below_drewN | apply below_drew | refine below_set ?_ (by omega)) | exact HB.out)) hb_); have hzw2 := hb_.size; (try simp at hzw2); have oc_ := Aside0.mk (box_below hb_ (by repeat (with_reducible first | exact oc.out | apply ext_drew | apply ext_drewN | apply ext_alloc | refine blk_far ?_ (by show _ ≠ _; dsimp only; omega) _))); have r0_ := Aside0.mk (Kd.F_below (by (repeat (with_reducible first | exact r0.out | apply Kd.F_drew | apply Kd.F_drewN | apply Kd.F_alloc | refine Kd.F_far ?_ ?_ _)); all_goals (intro j_ hj_; (try dsimp only at hj_); (try dsimp only); (try simp only [sz_alloc, sz_drew, sz_drewN, sz_set] at hj_); omega)) hb_); clear r0; have r0 := r0_; clear r0_; have r3_ := Aside0.mk (Kd.F_below (by (repeat (with_reducible first | exact r3.out | apply Kd.F_drew | apply Kd.F_drewN | apply Kd.F_alloc | refine Kd.F_far ?_ ?_ _)); all_goals (intro j_ hj_; (try dsimp only at hj_); (try dsimp only); (try simp only [sz_alloc, sz_drew, sz_drewN, sz_set] at hj_); omega)) hb_); clear r3; have r3 := r3_; clear r3_; have r4_ := Aside0.mk (Kd.F_below (by (repeat (with_reducible first | exact r4.out | apply Kd.F_drew | apply Kd.F_drewN | apply Kd.F_alloc | refine Kd.F_far ?_ ?_ _)); all_goals (intro j_ hj_; (try dsimp only at hj_); (try dsimp only); (try simp only [sz_alloc, sz_drew, sz_drewN, sz_set] at hj_); omega)) hb_); clear r4; have r4 := r4_; clear r4_; (try clear oc occ ocf ocl); have oc := oc_; clear oc_; obtain ⟨occ, ocf, ocl⟩ := cells_of oc.out; clear HB hb_; have HB := HB_; clear HB_)
      cases h1 : l0.any greatZ
      · have H1 := Aside0.mk h1
        clear h1
        go_wp2_with fail
        (go_at_call 23; (with_reducible refine (contains_great _ _ l4 _ (Kd.F_now (by (repeat (with_reducible first | exact r4.out | apply Kd.F_drew | apply Kd.F_drewN | apply Kd.F_alloc | refine Kd.F_far ?_ ?_ _)); all_goals (intro j_ hj_; (try dsimp only at hj_); (try dsimp only); (try simp only [sz_alloc, sz_drew, sz_drewN, sz_set] at hj_); omega)))).mono ?_); rintro e_ w3 ⟨rfl, hb_⟩; have HB_ : Aside0 (Below w.heap.size w w3) := Aside0.mk (below_step (by repeat (first | (with_reducible first | exact HB.out | exact Below.refl _ _ | apply below_alloc | apply pw_below_drewN | apply below_drew | refine below_set ?_ (by omega)) | exact HB.out)) hb_); have hzw3 := hb_.size; (try simp at hzw3); have oc_ := Aside0.mk (box_below hb_ (by repeat (with_reducible first | exact oc.out | apply ext_drew | apply ext_drewN | apply ext_alloc | refine blk_far ?_ (by show _ ≠ _; dsimp only; omega) _))); have r0_ := Aside0.mk (Kd.F_below (by (repeat (with_reducible first | exact r0.out | apply Kd.F_drew | apply Kd.F_drewN | apply Kd.F_alloc | refine Kd.F_far ?_ ?_ _)); all_goals (intro j_ hj_; (try dsimp only at hj_); (try dsimp only); (try simp only [sz_alloc, sz_drew, sz_drewN, sz_set] at hj_); omega)) hb_); clear r0; have r0 := r0_; clear r0_; have r3_ := Aside0.mk (Kd.F_below (by (repeat (with_reducible first | exact r3.out | apply Kd.F_drew | apply Kd.F_drewN | apply Kd.F_alloc | refine Kd.F_far ?_ ?_ _)); all_goals (intro j_ hj_; (try dsimp only at hj_); (try dsimp only); (try simp only [sz_alloc, sz_drew, sz_drewN, sz_set] at hj_); omega)) hb_); clear r3; have r3 := r3_; clear r3_; have r4_ := Aside0.mk (Kd.F_below (by (repeat (with_reducible first | exact r4.out | apply Kd.F_drew | apply Kd.F_drewN | apply Kd.F_alloc | refine Kd.F_far ?_ ?_ _)); all_goals (intro j_ hj_; (try dsimp only at hj_); (try dsimp only); (try simp only [sz_alloc, sz_drew, sz_drewN, sz_set] at hj_); omega)) hb_); clear r4; have r4 := r4_; clear r4_; (try clear oc occ ocf ocl); have oc := oc_; clear oc_; obtain ⟨occ, ocf, ocl⟩ := cells_of oc.out; clear HB hb_; have HB := HB_; clear HB_)
        cases h2 : l4.any greatZ
        · have H2 := Aside0.mk h2
          clear h2
          go_wp2_with fail
          (go_at_call 23; (with_reducible refine (contains_odd _ _ l3 _ (Kd.F_now (by (repeat (with_reducible first | exact r3.out | apply Kd.F_drew | apply Kd.F_drewN | apply Kd.F_alloc | refine Kd.F_far ?_ ?_ _)); all_goals (intro j_ hj_; (try dsimp only at hj_); (try dsimp only); (try simp only [sz_alloc, sz_drew, sz_drewN, sz_set] at hj_); omega)))).mono ?_); rintro e_ w4 ⟨rfl, hb_⟩; have HB_ : Aside0 (Below w.heap.size w w4) := Aside0.mk (below_step (by repeat (first | (with_reducible first | exact HB.out | exact Below.refl _ _ | apply below_alloc | apply pw_below_drewN | apply below_drew | refine below_set ?_ (by omega)) | exact HB.out)) hb_); have hzw4 := hb_.size; (try simp at hzw4); have oc_ := Aside0.mk (box_below hb_ (by repeat (with_reducible first | exact oc.out | apply ext_drew | apply ext_drewN | apply ext_alloc | refine blk_far ?_ (by show _ ≠ _; dsimp only; omega) _))); have r0_ := Aside0.mk (Kd.F_below (by (repeat (with_reducible first | exact r0.out | apply Kd.F_drew | apply Kd.F_drewN | apply Kd.F_alloc | refine Kd.F_far ?_ ?_ _)); all_goals (intro j_ hj_; (try dsimp only at hj_); (try dsimp only); (try simp only [sz_alloc, sz_drew, sz_drewN, sz_set] at hj_); omega)) hb_); clear r0; have r0 := r0_; clear r0_; have r3_ := Aside0.mk (Kd.F_below (by (repeat (with_reducible first | exact r3.out | apply Kd.F_drew | apply Kd.F_drewN | apply Kd.F_alloc | refine Kd.F_far ?_ ?_ _)); all_goals (intro j_ hj_; (try dsimp only at hj_); (try dsimp only); (try simp only [sz_alloc, sz_drew, sz_drewN, sz_set] at hj_); omega)) hb_); clear r3; have r3 := r3_; clear r3_; have r4_ := Aside0.mk (Kd.F_below (by (repeat (with_reducible first | exact r4.out | apply Kd.F_drew | apply Kd.F_drewN | apply Kd.F_alloc | refine Kd.F_far ?_ ?_ _)); all_goals (intro j_ hj_; (try dsimp only at hj_); (try dsimp only); (try simp only [sz_alloc, sz_drew, sz_drewN, sz_set] at hj_); omega)) hb_); clear r4; have r4 := r4_; clear r4_; (try clear oc occ ocf ocl); have oc := oc_; clear oc_; obtain ⟨occ, ocf, ocl⟩ := cells_of oc.out; clear HB hb_; have HB := HB_; clear HB_)
          go_wp2_with fail
          go_ret
          exact ⟨by rw [HS.out, HS2.out, H1.out, H2.out]; rfl, HB.out⟩
        · have H2 := Aside0.mk h2
          clear h2
          go_wp2_with fail
          go_ret
          exact ⟨by rw [HS.out, HS2.out, H1.out, H2.out]; rfl, HB.out⟩
      · have H1 := Aside0.mk h1
        clear h1
        go_wp2_with fail
        go_ret
        exact ⟨by rw [HS.out, HS2.out, H1.out]; rfl, HB.out⟩
end
def plic_Check.f (l0_0 : List Int) (a0_1 : Int) (a0_2 : Int) (l0_3 : List Int) (l0_4 : List Int) : Option Bool := some (checkZ l0_0 a0_1 a0_2 l0_3 l0_4)
theorem plic_Check.calls (A0_0 : Option Addr) (c0_0 : Nat) (l0_0 : List Int) (a0_1 : Int) (a0_2 : Int) (A0_3 : Option Addr) (c0_3 : Nat) (l0_3 : List Int) (A0_4 : Option Addr) (c0_4 : Nat) (l0_4 : List Int) (r : Bool) (w : World) (hr0_0 : Kd.C (Kd.int .i64) w A0_0 l0_0.length l0_0) (hc0_0 : l0_0.length ≤ c0_0) (hr0_3 : Kd.C (Kd.int .i64) w A0_3 l0_3.length l0_3) (hc0_3 : l0_3.length ≤ c0_3) (hr0_4 : Kd.C (Kd.int .i64) w A0_4 l0_4.length l0_4) (hc0_4 : l0_4.length ≤ c0_4) (h : plic_Check.f l0_0 a0_1 a0_2 l0_3 l0_4 = some r) :
    Calls Try.prog 7 #[.agg #[.slice A0_0 l0_0.length c0_0, .int .i64 a0_1, .int .i64 a0_2, .slice A0_3 l0_3.length c0_3, .slice A0_4 l0_4.length c0_4]] w fun e w' => e = .returned (.bool r) ∧ Below w.heap.size w w' := by
  injection h with h; subst h
  exact check_runs _ _ _ _ _ _ _ _ _ _ _ _ hr0_0 hr0_3 hr0_4
end Go.Proofs.Ytmlpnjoejdpblaa.Q
end
section
/- plic's places: where the contexts' registers are. -/
namespace Go.Proofs.Ytmlpnjoejdpblaa.Q
open Go.RowKit Go.Proofs.YtmlpnjoejdpblaaW.PrintWords Go.Proofs.YtmlpnjoejdpblaaW.PrintLast Go.Proofs.YtmlpnjoejdpblaaW.PrintMore Go.Proofs.Ytmlpnjoejdpblaa.L
attribute [local go_sem] Instr.field part asAgg lt_step max2_int min2_int max_two min_two max_three min_three max_four min_four lt_0_1 lt_0_2 lt_1_2 lt_0_3 lt_1_3 lt_2_3 lt_0_4 lt_1_4 lt_2_4 lt_3_4 lt_0_5 lt_1_5 lt_2_5 lt_3_5 lt_4_5 lt_0_6 lt_1_6 lt_2_6 lt_3_6 lt_4_6 lt_5_6 lt_0_7 lt_1_7 lt_2_7 lt_3_7 lt_4_7 lt_5_7 lt_6_7 lt_0_8 lt_1_8 lt_2_8 lt_3_8 lt_4_8 lt_5_8 lt_6_8 lt_7_8
set_option linter.unusedVariables false
set_option linter.unusedSimpArgs false
def at2Z (a b x : Int) : Int := if x = a then 0 else if x = b then 1 else -1
theorem enables_runs (w : World) : Calls Try.prog 25 #[] w fun e w' => e = .returned (.agg #[.int .u64 8192, .int .u64 8320]) ∧ Below w.heap.size w w' := by
  have HB := Aside0.mk (Below.refl w.heap.size w)
  go_enter Try.func25, Try.ntmps25
  go_wp2
  refine bodyPost_ret (v := .agg #[.int .u64 8192, .int .u64 8320]) (by simp [results, Try.results25, go_sem] <;> first | assumption | omega | (symm; assumption)) rfl ?_
  exact ⟨rfl, (by repeat (first | (with_reducible first | exact HB.out | exact Below.refl _ _ | apply below_alloc | apply pw_below_drewN | apply below_drew | refine below_set ?_ (by omega)) | exact HB.out))⟩
theorem thresholds_runs (w : World) : Calls Try.prog 27 #[] w fun e w' => e = .returned (.agg #[.int .u64 2097152, .int .u64 2101248]) ∧ Below w.heap.size w w' := by
  have HB := Aside0.mk (Below.refl w.heap.size w)
  go_enter Try.func27, Try.ntmps27
  go_wp2
  refine bodyPost_ret (v := .agg #[.int .u64 2097152, .int .u64 2101248]) (by simp [results, Try.results27, go_sem] <;> first | assumption | omega | (symm; assumption)) rfl ?_
  exact ⟨rfl, (by repeat (first | (with_reducible first | exact HB.out | exact Below.refl _ _ | apply below_alloc | apply pw_below_drewN | apply below_drew | refine below_set ?_ (by omega)) | exact HB.out))⟩
theorem claims_runs (w : World) : Calls Try.prog 28 #[] w fun e w' => e = .returned (.agg #[.int .u64 2097156, .int .u64 2101252]) ∧ Below w.heap.size w w' := by
  have HB := Aside0.mk (Below.refl w.heap.size w)
  go_enter Try.func28, Try.ntmps28
  go_wp2
  refine bodyPost_ret (v := .agg #[.int .u64 2097156, .int .u64 2101252]) (by simp [results, Try.results28, go_sem] <;> first | assumption | omega | (symm; assumption)) rfl ?_
  exact ⟨rfl, (by repeat (first | (with_reducible first | exact HB.out | exact Below.refl _ _ | apply below_alloc | apply pw_below_drewN | apply below_drew | refine below_set ?_ (by omega)) | exact HB.out))⟩
set_option maxHeartbeats 1600000 in
set_option maxRecDepth 100000 in
theorem index2_runs (g c : Nat) (a b x : Int) (ty : TypeId) (w : World) (h : w.heap[g]? = some (.cells #[.int .u64 a, .int .u64 b] ty (0, 0))) :
    Calls Try.prog 33 #[.slice (some ⟨g, 0, none⟩) 2 c, .int .u64 x] w fun e w' => e = .returned (.int .i64 (at2Z a b x)) ∧ w' = w := by
  obtain ⟨occ, ocf, ocl⟩ := cells_of h
  have h0 : w.cell? ⟨g, 0, none⟩ = some (.int .u64 a) := occ 0
  have h1 : w.cell? ⟨g, 1, none⟩ = some (.int .u64 b) := occ 1
  clear occ
  by_cases ha : x = a
  · have hab : (x == a) = true := beq_iff_eq.mpr ha
    rw [show at2Z a b x = 0 from if_pos ha]
    clear ha
    go_enter Try.func33, Try.ntmps33
    go_wp2
    refine wp_loop_rounds 1 ?_; rw [rounds_succ]
    go_wp2
    go_ret
    exact ⟨rfl, rfl⟩
  · have hab : (x == a) = false := beq_eq_false_iff_ne.mpr ha
    by_cases hb : x = b
    · have hbb : (x == b) = true := beq_iff_eq.mpr hb
      rw [show at2Z a b x = 1 from (if_neg ha).trans (if_pos hb)]
      clear ha hb
      go_enter Try.func33, Try.ntmps33
      go_wp2
      refine wp_loop_rounds 2 ?_; rw [rounds_succ]
      go_wp2
      rw [rounds_succ]
      go_wp2
      go_ret
      exact ⟨rfl, rfl⟩
    · have hbb : (x == b) = false := beq_eq_false_iff_ne.mpr hb
      rw [show at2Z a b x = -1 from (if_neg ha).trans (if_neg hb)]
      clear ha hb
      go_enter Try.func33, Try.ntmps33
      go_wp2
      refine wp_loop_rounds 3 ?_; rw [rounds_succ]
      go_wp2
      rw [rounds_succ]
      go_wp2
      rw [rounds_succ]
      go_wp2
      go_ret
      exact ⟨rfl, rfl⟩
set_option maxHeartbeats 1600000 in
set_option maxRecDepth 100000 in
theorem at_runs (a b x : Int) (w : World) : Calls Try.prog 26 #[.agg #[.int .u64 a, .int .u64 b], .int .u64 x] w fun e w' => e = .returned (.int .i64 (at2Z a b x)) ∧ Below w.heap.size w w' := by
  have HB := Aside0.mk (Below.refl w.heap.size w)
  have h := nb_1 w (.cells #[.int .u64 a, .int .u64 b] 46 (0, 0))
  have H := Aside0.mk h
  clear h
  go_enter Try.func26, Try.ntmps26
  go_wp2_with fail
  (go_at_call 33; (with_reducible refine (index2_runs _ _ a b x _ _ H.out).mono ?_); rintro e_ w_ ⟨rfl, rfl⟩)
  go_wp2
  go_ret
  exact ⟨rfl, (by repeat (first | (with_reducible first | exact HB.out | exact Below.refl _ _ | apply below_alloc | apply pw_below_drewN | apply below_drew | refine below_set ?_ (by omega)) | exact HB.out))⟩
end Go.Proofs.Ytmlpnjoejdpblaa.Q
end
section
/- The contract of slices.Clone over whole numbers. -/
namespace Go.Proofs.Ytmlpnjoejdpblaa.Q
open Go.RowKit Go.Proofs.YtmlpnjoejdpblaaW.PrintWords Go.Proofs.YtmlpnjoejdpblaaW.PrintLast Go.Proofs.YtmlpnjoejdpblaaW.PrintMore Go.Proofs.Ytmlpnjoejdpblaa.L
attribute [local go_sem] Instr.field part asAgg lt_step max2_int min2_int max_two min_two max_three min_three max_four min_four lt_0_1 lt_0_2 lt_1_2 lt_0_3 lt_1_3 lt_2_3 lt_0_4 lt_1_4 lt_2_4 lt_3_4 lt_0_5 lt_1_5 lt_2_5 lt_3_5 lt_4_5 lt_0_6 lt_1_6 lt_2_6 lt_3_6 lt_4_6 lt_5_6 lt_0_7 lt_1_7 lt_2_7 lt_3_7 lt_4_7 lt_5_7 lt_6_7 lt_0_8 lt_1_8 lt_2_8 lt_3_8 lt_4_8 lt_5_8 lt_6_8 lt_7_8
set_option linter.unusedVariables false
set_option linter.unusedSimpArgs false
theorem infoI : (Try.prog.info? 3).map (fun i => (i.zero, i.size, i.bytes)) = some (some (.int .i64 0), 1, 8) := by kernel_rfl
def slices_Clone_int_int.f (l : List Int) : Option (List Int) := if l.length * 8 < 140737488355328 then some l else none
set_option maxHeartbeats 1600000 in
set_option maxRecDepth 100000 in
theorem slices_Clone_int_int.calls (A0 : Option Addr) (c0 : Nat) (l0 : List Int) (r : List Int) (w : World) (hr0 : Kd.C (Kd.int .i64) w A0 l0.length l0) (hc0 : l0.length ≤ c0) (h : slices_Clone_int_int.f l0 = some r) :
    Calls Try.prog 34 #[.slice A0 l0.length c0] w fun e w' => ∃ v0_ : Value, e = .returned (v0_) ∧ Kd.R (Kd.int .i64) 3 w' w.heap.size (fun _ => True) v0_ r ∧ Below w.heap.size w w' := by
  unfold slices_Clone_int_int.f at h
  split at h
  case isFalse => cases h
  case isTrue hl =>
  injection h with h; subst h
  have HB := Aside0.mk (Below.refl w.heap.size w)
  have HR := Aside0.mk hr0
  have HC := Aside0.mk hc0
  have HL := Aside0.mk hl
  cases A0 with
  | none =>
    have h0 : l0 = [] := by
      have := hr0.2.2
      cases l0 with
      | nil => rfl
      | cons x xs => obtain ⟨ad, e, _⟩ := this (by simp); cases e
    subst h0
    clear hr0 hc0 hl
    have hnil : ∀ W, (binOp .eql 22 (.slice none 0 c0) (.slice none 0 0)).run Try.prog W = .ok (.bool true) W := fun W => Lib.run_eql_slice_nil W _ _ _ _ _ _ _ Try.underlying22
    go_enter Try.func34, Try.ntmps34
    go_wp2
    refine bodyPost_ret (v := .slice none 0 0) (by simp [results, Try.results34, go_sem]) rfl ?_
    exact ⟨_, rfl, Kd.R_nil _ _ _ _ _, HB.out⟩
  | some ad =>
    clear hr0 hc0 hl
    have hnil : ∀ W, (binOp .eql 22 (.slice (some ad) l0.length c0) (.slice none 0 0)).run Try.prog W = .ok (.bool false) W := fun W => Lib.run_eql_slice_nil W _ _ _ _ _ _ _ Try.underlying22
    go_enter Try.func34, Try.ntmps34
    go_wp2_with (first | ((with_reducible refine gate_dst (N := 5) rfl ?_); refine Kd.R_lit (Kd.int .i64) _ 3 ?hg (N := 5) ?hd (xs := ([] : List Int)) (inner := []) (ok := fun _ => True) (okp := fun _ => True) ?hr ?hp (fun _ hk => hk) trivial (Below.refl _ _) (Nat.le_refl _) (by simp) ?_; (case hd => rfl); (case hg => rfl); (case hr => first | (go_simp; done) | (go_simp; rfl)); (case hp => exact (Reps.none _ _)); intro v1 w1 ho1 hb hg_ hnew_; clear hg_ hnew_; have HO1 := Aside0.mk ho1; have HB1 := Aside0.mk hb; clear ho1 hb) | ((with_reducible refine gate_builtin (b := .append) (xs := #[.tmp 5, .tmp 6]) rfl ?_); at_builtin; refine Kd.R_append_rows (Kd.int .i64) (w0 := w) w.heap.size rfl (.tmp 5) (.tmp 6) 22 3 (.int .i64 0) 8 rfl Try.underlying22 infoI rfl (by decide) (by omega) v1 [] l0 _ _ _ (fun _ => True) (fun _ => False) rfl rfl ?aO ?aR (fun _ _ h => h) (fun _ h => h.elim) ?aF ?aB ?aS ?aL ?_; (case aR => repeat (first | exact (Kd.C_below HR.out HB1.out) | (with_reducible refine Kd.C_alloc ?_ _) | (with_reducible refine Kd.C_drewN ?_ _) | (with_reducible refine Kd.C_drew ?_))); (case aB => exact HB1.out); (case aF => exact (fun _ _ => trivial)); (case aO => exact HO1.out); (case aS => exact HB1.out.size); (case aL => have := HL.out; simp; omega); intro v2 w2 ho hb hg hat; rw [List.nil_append] at ho; have HO2 := Aside0.mk ho; have HB2 := Aside0.mk hb; clear ho hb hg hat))
    refine bodyPost_ret (v := v2) (by simp [results, Try.results34, go_sem]) rfl ?_
    exact ⟨_, rfl, HO2.out, HB2.out⟩
end Go.Proofs.Ytmlpnjoejdpblaa.Q
end
section
-- Ytmlpnjoejdpblaa: written by a program for this claim (several laws of one seat at once)
namespace Go.Proofs.Ytmlpnjoejdpblaa.Q
open Go.RowKit Go.Proofs.YtmlpnjoejdpblaaW.PrintWords Go.Proofs.YtmlpnjoejdpblaaW.PrintLast Go.Proofs.YtmlpnjoejdpblaaW.PrintMore
attribute [local go_sem] max2_int min2_int max_two min_two max_three min_three max_four min_four   -- for this text's walks alone
set_option linter.unusedVariables false
set_option linter.unusedSimpArgs false

def plic_with.f (l0 : List Int) (a1 : Int) (a2 : Int) : Option (List Int) := (slices_Clone_int_int.f l0).bind fun t119 => (if 0 ≤ a1 then (if a1 < (t119.length : Int) then (some (t119.set (a1 : Int).toNat a2)) else (none)) else (none))
set_option maxHeartbeats 8000000 in
set_option maxRecDepth 100000 in
theorem plic_with.calls (A0 : Option Addr) (c0 : Nat) (l0 : List Int) (a1 : Int) (a2 : Int) (r : List Int) (w : World) (hr0 : Kd.C (Kd.int .i64) w A0 l0.length l0) (hc0 : l0.length ≤ c0) (h : plic_with.f l0 a1 a2 = some r) :
    Calls Try.prog 29 #[.slice A0 l0.length c0, .int .i64 a1, .int .i64 a2] w fun e w' => ∃ v0_ : Value, e = .returned (v0_) ∧ Kd.R (Kd.int .i64) 3 w' w.heap.size (fun _ => True) v0_ r ∧ Below w.heap.size w w' := by
  have HR0 := Aside0.mk hr0
  have HC0 := Aside0.mk hc0
  clear hr0 hc0
  have HB := Aside0.mk (Below.refl w.heap.size w)
  have H : ((slices_Clone_int_int.f l0).bind fun t119 => (if 0 ≤ a1 then (if a1 < (t119.length : Int) then (some (t119.set (a1 : Int).toNat a2)) else (none)) else (none))) = some r := h
  clear h
  replace H := Option.bind_eq_some_iff.mp H
  obtain ⟨t119, A40, H⟩ := H
  replace H : (if 0 ≤ a1 then (if a1 < (t119.length : Int) then (some (t119.set (a1 : Int).toNat a2)) else (none)) else (none)) = some r := H
  have A4 := Aside0.mk A40
  clear A40
  by_cases c5 : 0 ≤ a1
  · rw [if_pos c5] at H
    have c5b0 : decide (0 ≤ a1) = true := decide_eq_true c5
    clear c5
    by_cases c6 : a1 < (t119.length : Int)
    · rw [if_pos c6] at H
      have c6b0 : decide (a1 < (t119.length : Int)) = true := decide_eq_true c6
      clear c6
      obtain ⟨y122, hy122⟩ : ∃ y_ : List Int, y_ = (t119.set (a1 : Int).toNat a2) := ⟨_, rfl⟩
      replace H : (some y122) = some r := by first | (rw [hy122]; with_reducible exact H) | (have H2_ := (Option.bind_some _ _).symm.trans H; rw [hy122]; with_reducible exact H2_) | (have H2_ := (Option.bind_some _ _).symm.trans H; with_reducible exact H2_) | with_reducible exact H | (rw [hy122]; exact H) | exact H
      have Ny122 := Aside0.mk hy122
      clear hy122
      obtain rfl := Option.some.inj H
      go_enter Try.func29, Try.ntmps29
      go_wp2_with (first | ((with_reducible refine gate_callee (f := 34) rfl ?_); refine goesL_ (some 9) rfl rfl Try.func34 (by kernel_rfl) rfl #[.slice A0 l0.length c0] rfl (by (try simp only [List.map_toArray, List.map_cons, List.map_nil]); first | done | rfl | (simp only [List.length_drop, List.length_take]; rfl)) ?_; (with_reducible refine (slices_Clone_int_int.calls _ _ l0 t119 _ ?side1 ?side2 A4.out).mono ?_); (case side1 => repeat (first | exact HR0.out | (with_reducible refine Kd.C_alloc ?_ _) | (with_reducible refine Kd.C_drewN ?_ _) | (with_reducible refine Kd.C_drew ?_))); (case side2 => exact HC0.out); rintro e w8 ⟨v120, rfl, ho0, hb⟩; refine ⟨_, rfl, ?_⟩; have n0_ := Aside0.mk (Kd.R_lower ho0 (below_size (by repeat (first | (with_reducible first | exact HB.out | apply below_alloc | apply pw_below_drewN | apply below_drew1) | exact HB.out)))); have n1_ := Aside0.mk (below_step (by repeat (first | (with_reducible first | exact HB.out | apply below_alloc | apply pw_below_drewN | apply below_drew1) | exact HB.out)) hb); clear HB; have HO121 := n0_; have HB := n1_; clear n0_ n1_; (try clear hb); (try clear hb2); (try clear hk); (try clear hi); (try clear ho0); have p7 : 0 ≤ (a1 : Int) := of_decide_eq_true (by first | (with_reducible assumption) | assumption); have q7 : (a1 : Int) < ((t119.length : Int) : Int) := of_decide_eq_true (by first | (with_reducible assumption) | assumption); obtain ⟨go7, co7, eo7, gb7, gl7, cl7, HG7⟩ := Kd.R_form HO121.out (by omega); (first | cases eo7 | (injection eo7 with ea_ en_ ec_; (first | subst ea_ | (injection ea_ with ea_; subst ea_)); subst ec_; clear en_)); have GB7 := Aside0.mk gb7; have GG7 := Aside0.mk HG7; clear gb7 gl7 HG7; obtain ⟨hx7_0, hf7_0⟩ := Kd.R_celln 0 HO121.out (a1 : Int) p7 q7; replace p7 := eq_true p7; replace q7 := eq_true q7; obtain ⟨hy9_, hz9_⟩ := Kd.R_celln 0 HO121.out (a1 : Int) (of_decide_eq_true (by first | (with_reducible assumption) | assumption)) (of_decide_eq_true (by first | (with_reducible assumption) | assumption)); have HP9 := Kd.R_putg HO121.out (a1 : Int) a2) | ((with_reducible refine gate_store (t := 3) (p := 13) rfl ?_); refine store_event (t := 3) (p := 13) (v := ?vo_w10) (w1 := (w8.setCell ⟨go7, (a1 : Int).toNat, none⟩ (.int .i64 a2))) ?hg ?ho ?hn ?hr ?_; (case ho => rfl); (case hg => rfl); (case hn => rfl); (case hr => first | (go_simp; done) | (go_simp; rfl)); intro w10 hw; have hg : w8.grownBy w10 (some go7) := (by rw [hw]; exact HP9.2); have hp_ : Kd.R (Kd.int .i64) 3 w10 w.heap.size (fun _ => True) (.slice (some ⟨go7, 0, none⟩) t119.length co7) y122 := (by rw [hw, Ny122.out]; exact HP9.1); clear HP9; have n0_ := Aside0.mk (hp_); have n1_ := Aside0.mk ((by rw [hw]; exact below_set (HB.out) GB7.out : Below w.heap.size w w10)); clear HO121; clear HB; have HO121 := n0_; have HB := n1_; clear n0_ n1_; clear hg hw hp_))
      go_ret
      exact ⟨_, by first | rfl | (simp [errW_none, errW_some] <;> rfl) | (simp [*, errW_none, errW_some] <;> rfl), by (with_reducible repeat (first | apply Kd.R_alloc | apply Kd.R_drewN | apply Kd.R_drew)); exact HO121.out, by repeat (first | (with_reducible first | exact HB.out | apply below_alloc | apply pw_below_drewN | apply below_drew1) | exact HB.out)⟩
    · rw [if_neg c6] at H
      exact absurd H (by simp)
  · rw [if_neg c5] at H
    exact absurd H (by simp)

end Go.Proofs.Ytmlpnjoejdpblaa.Q
end
