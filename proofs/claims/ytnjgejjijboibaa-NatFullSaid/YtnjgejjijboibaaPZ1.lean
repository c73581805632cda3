import Derived.Below
import Derived.WalkKit
import Derived.Deep.Draws
import Derived.Deep.RegionHeld3
import Derived.Test.YtnjgejjijboibaaPXWWords
import Derived.Test.YtnjgejjijboibaaPXWShare
import Derived.DataReads
import Derived.Test.YtnjgejjijboibaaPXWMore
import Derived.Test.YtnjgejjijboibaaPXWLast
import Derived.Test.YtnjgejjijboibaaProg
import Derived.Deep.AppendLies
import Derived.Maps.AppendAt
import Derived.OwnWalk
import Derived.Laws.BytesArg
import Derived.Laws.MakeOwn
import Derived.Laws.OwnMore
import Derived.Deep.OwnRows
import Derived.Tactics
import Derived.Lib.ConvBytes
import Derived.Laws.Slices
import Derived.KernelRfl
import Derived.RowKit3
import Derived.Deep.LoopGhost
import Derived.Deep.QuietTactic
import Derived.BigQuiet
import Derived.WideLaws
import Derived.Deep.DeepCutAuto
import Derived.Deep.CutBlock
import Derived.Laws.Rows
import Derived.Lib.AppendStr
import Derived.ArgAppend
import Derived.Laws.IdiomCopy
import Derived.OrdersHeld
import Derived.Laws.BitsLemmas
import Derived.RowKit
import Derived.Test.YtnjgejjijboibaaPXWApart
import Derived.Test.YtnjgejjijboibaaPXWFoot
import Derived.Test.YtnjgejjijboibaaPXWKept
import Derived.Test.YtnjgejjijboibaaPXWN
import Derived.Test.YtnjgejjijboibaaPXWEqStruct
import Derived.Test.YtnjgejjijboibaaPXWRepsOne
import Derived.Test.YtnjgejjijboibaaPXWGuard
import Derived.Lib.SliceRun
import Derived.Lib.AppendZerosOnto
import Derived.Lib.Overlaps
import Derived.Deep.RegionLaw
import Derived.Deep.AppendSrc
import Derived.RegionTactic
import Derived.BigRegion
import Derived.Maps.OwnOps
import Derived.Maps.Views
import Derived.Maps.OwnSet
import Derived.DeepKeys4
import Derived.MapViews
section
/- Small facts on worlds behind a call that makes memory and writes nothing old. -/
namespace Go.Proofs.Ytnjgejjijboibaa.L
open Go.RowKit
theorem cells_of {w : World} {b : Nat} {cs : Array Value} {t : TypeId} (h : w.heap[b]? = some (.cells cs t (0, 0))) : (∀ i, w.cell? ⟨b, i, none⟩ = cs[i]?) ∧ (∀ i, w.frozen? ⟨b, i, none⟩ = false) ∧ b < w.heap.size :=
  ⟨fun i => by simp [World.cell?, h], fun i => by simp [World.frozen?, h], (Array.getElem?_eq_some_iff.1 h).1⟩
theorem lt_step {a b : Nat} (h : a < b) : a < b + 1 := Nat.lt_succ_of_lt h
theorem box_below {W w1 : World} {b : Nat} {o : Obj} (hb : Below W.heap.size W w1) (h : W.heap[b]? = some o) : w1.heap[b]? = some o :=
  (hb.block b (Array.getElem?_eq_some_iff.1 h).1).trans h
theorem ext_alloc {W : World} {b : Nat} {o : Obj} (h : W.heap[b]? = some o) (y : Obj) : (W.alloc y).heap[b]? = some o := by
  have hl : b < W.heap.size := (Array.getElem?_eq_some_iff.1 h).1
  simp only [World.alloc, Array.getElem?_push]
  rw [if_neg (by omega)]
  exact h
theorem ext_drew {W : World} {b : Nat} {o : Obj} (h : W.heap[b]? = some o) : W.drew.heap[b]? = some o := h
theorem ext_drewN {W : World} {b : Nat} {o : Obj} (h : W.heap[b]? = some o) (n : Nat) : (W.drewN n).heap[b]? = some o := h
theorem nb_1 (W : World) (y : Obj) : (W.alloc y).heap[W.heap.size]? = some y := by simp only [World.alloc, Array.getElem?_push]; simp
theorem nb_2 (W : World) (x y : Obj) : ((W.alloc x).alloc y).heap[W.heap.size + 1]? = some y := by simp only [World.alloc, Array.getElem?_push, Array.size_push]; simp
theorem nb_3 (W : World) (x y z : Obj) : (((W.alloc x).alloc y).alloc z).heap[W.heap.size + 1 + 1]? = some z := by simp only [World.alloc, Array.getElem?_push, Array.size_push]; simp
theorem nb_4 (W : World) (x y z u : Obj) : ((((W.alloc x).alloc y).alloc z).alloc u).heap[W.heap.size + 1 + 1 + 1]? = some u := by simp only [World.alloc, Array.getElem?_push, Array.size_push]; simp
theorem letter1 (w : World) (o : Obj) : ∃ w1, w.alloc o = w1 ∧ w1.heap[w.heap.size]? = some o ∧ Below w.heap.size w w1 ∧ w1.heap.size = w.heap.size + 1 := ⟨_, rfl, nb_1 w o, Below.alloc (Below.refl _ _) (Nat.le_refl _) _, by simp⟩
theorem letter2 (w : World) (o p : Obj) : ∃ w1, (w.alloc o).alloc p = w1 ∧ w1.heap[w.heap.size]? = some o ∧ w1.heap[w.heap.size + 1]? = some p ∧ Below w.heap.size w w1 ∧ w1.heap.size = w.heap.size + 1 + 1 := ⟨_, rfl, ext_alloc (nb_1 w o) p, nb_2 w o p, Below.alloc (Below.alloc (Below.refl _ _) (Nat.le_refl _) _) (by simp) _, by simp⟩
theorem lt_0_1 (n : Nat) : n < n + 1 := by omega
theorem lt_0_2 (n : Nat) : n < n + 1 + 1 := by omega
theorem lt_1_2 (n : Nat) : n + 1 < n + 1 + 1 := by omega
theorem lt_0_3 (n : Nat) : n < n + 1 + 1 + 1 := by omega
theorem lt_1_3 (n : Nat) : n + 1 < n + 1 + 1 + 1 := by omega
theorem lt_2_3 (n : Nat) : n + 1 + 1 < n + 1 + 1 + 1 := by omega
theorem lt_0_4 (n : Nat) : n < n + 1 + 1 + 1 + 1 := by omega
theorem lt_1_4 (n : Nat) : n + 1 < n + 1 + 1 + 1 + 1 := by omega
theorem lt_2_4 (n : Nat) : n + 1 + 1 < n + 1 + 1 + 1 + 1 := by omega
theorem lt_3_4 (n : Nat) : n + 1 + 1 + 1 < n + 1 + 1 + 1 + 1 := by omega
theorem lt_0_5 (n : Nat) : n < n + 1 + 1 + 1 + 1 + 1 := by omega
theorem lt_1_5 (n : Nat) : n + 1 < n + 1 + 1 + 1 + 1 + 1 := by omega
theorem lt_2_5 (n : Nat) : n + 1 + 1 < n + 1 + 1 + 1 + 1 + 1 := by omega
theorem lt_3_5 (n : Nat) : n + 1 + 1 + 1 < n + 1 + 1 + 1 + 1 + 1 := by omega
theorem lt_4_5 (n : Nat) : n + 1 + 1 + 1 + 1 < n + 1 + 1 + 1 + 1 + 1 := by omega
theorem lt_0_6 (n : Nat) : n < n + 1 + 1 + 1 + 1 + 1 + 1 := by omega
theorem lt_1_6 (n : Nat) : n + 1 < n + 1 + 1 + 1 + 1 + 1 + 1 := by omega
theorem lt_2_6 (n : Nat) : n + 1 + 1 < n + 1 + 1 + 1 + 1 + 1 + 1 := by omega
theorem lt_3_6 (n : Nat) : n + 1 + 1 + 1 < n + 1 + 1 + 1 + 1 + 1 + 1 := by omega
theorem lt_4_6 (n : Nat) : n + 1 + 1 + 1 + 1 < n + 1 + 1 + 1 + 1 + 1 + 1 := by omega
theorem lt_5_6 (n : Nat) : n + 1 + 1 + 1 + 1 + 1 < n + 1 + 1 + 1 + 1 + 1 + 1 := by omega
theorem lt_0_7 (n : Nat) : n < n + 1 + 1 + 1 + 1 + 1 + 1 + 1 := by omega
theorem lt_1_7 (n : Nat) : n + 1 < n + 1 + 1 + 1 + 1 + 1 + 1 + 1 := by omega
theorem lt_2_7 (n : Nat) : n + 1 + 1 < n + 1 + 1 + 1 + 1 + 1 + 1 + 1 := by omega
theorem lt_3_7 (n : Nat) : n + 1 + 1 + 1 < n + 1 + 1 + 1 + 1 + 1 + 1 + 1 := by omega
theorem lt_4_7 (n : Nat) : n + 1 + 1 + 1 + 1 < n + 1 + 1 + 1 + 1 + 1 + 1 + 1 := by omega
theorem lt_5_7 (n : Nat) : n + 1 + 1 + 1 + 1 + 1 < n + 1 + 1 + 1 + 1 + 1 + 1 + 1 := by omega
theorem lt_6_7 (n : Nat) : n + 1 + 1 + 1 + 1 + 1 + 1 < n + 1 + 1 + 1 + 1 + 1 + 1 + 1 := by omega
theorem lt_0_8 (n : Nat) : n < n + 1 + 1 + 1 + 1 + 1 + 1 + 1 + 1 := by omega
theorem lt_1_8 (n : Nat) : n + 1 < n + 1 + 1 + 1 + 1 + 1 + 1 + 1 + 1 := by omega
theorem lt_2_8 (n : Nat) : n + 1 + 1 < n + 1 + 1 + 1 + 1 + 1 + 1 + 1 + 1 := by omega
theorem lt_3_8 (n : Nat) : n + 1 + 1 + 1 < n + 1 + 1 + 1 + 1 + 1 + 1 + 1 + 1 := by omega
theorem lt_4_8 (n : Nat) : n + 1 + 1 + 1 + 1 < n + 1 + 1 + 1 + 1 + 1 + 1 + 1 + 1 := by omega
theorem lt_5_8 (n : Nat) : n + 1 + 1 + 1 + 1 + 1 < n + 1 + 1 + 1 + 1 + 1 + 1 + 1 + 1 := by omega
theorem lt_6_8 (n : Nat) : n + 1 + 1 + 1 + 1 + 1 + 1 < n + 1 + 1 + 1 + 1 + 1 + 1 + 1 + 1 := by omega
theorem lt_7_8 (n : Nat) : n + 1 + 1 + 1 + 1 + 1 + 1 + 1 < n + 1 + 1 + 1 + 1 + 1 + 1 + 1 + 1 := by omega
end Go.Proofs.Ytnjgejjijboibaa.L
end
section
/- Rows of whole numbers that are read, with the blocks they may lie in. -/
namespace Go.Proofs.Ytnjgejjijboibaa.L
open Go.RowKit Go.Proofs.YtnjgejjijboibaaW.PrintWords
theorem sz_alloc (w : World) (o : Obj) : (w.alloc o).heap.size = w.heap.size + 1 := by simp
theorem sz_drew (w : World) : w.drew.heap.size = w.heap.size := rfl
theorem sz_drewN (w : World) (n : Nat) : (w.drewN n).heap.size = w.heap.size := rfl
theorem sz_set (w : World) (p : Addr) (v : Value) : (w.setCell p v).heap.size = w.heap.size := by simp
theorem cell_of_heap {W W' : World} {a : Addr} {v : Value} (h : W.cell? a = some v) (hk : W'.heap[a.block]? = W.heap[a.block]?) : W'.cell? a = some v := by
  unfold World.cell? at h ⊢; rw [hk]; exact h
theorem add_block (a : Addr) (j : Nat) : (a.add j).block = a.block := by cases a; unfold Addr.add; (repeat' split) <;> rfl
/-- A literal's block, read. -/
theorem C_blk {k : IntKind} {W : World} {g n : Nat} {cs : Array Value} {t : TypeId} {fr : Nat × Nat} {xs : List Int} (h : W.heap[g]? = some (.cells cs t fr)) (hn : xs.length = n) (hm : n ≤ 9223372036854775807) (hc : cs = (xs.map (Value.int k)).toArray) : Kd.C (Kd.int k) W (some ⟨g, 0, none⟩) n xs := by
  refine ⟨hn, hm, fun _ => ⟨_, rfl, fun i x hi => ⟨[Value.int k x], rfl, rfl, fun q v hv => ?_⟩⟩⟩
  have hq : q = 0 := by have := (List.getElem?_eq_some_iff.1 hv).1; simp at this; exact this
  subst hq
  have e1 : (Addr.add ⟨g, 0, none⟩ (i * (Kd.int k).sz + 0)) = ⟨g, i, none⟩ := by
    show Addr.add ⟨g, 0, none⟩ (i * 1 + 0) = _
    rw [Nat.mul_one, Nat.add_zero]; unfold Addr.add; split <;> simp_all
  rw [e1, show W.cell? ⟨g, i, none⟩ = cs[i]? from by simp [World.cell?, h], hc, List.getElem?_toArray, List.getElem?_map, hi]
  simpa using hv
theorem add_eq (b o i : Nat) : (Addr.add ⟨b, o, none⟩ i) = ⟨b, o + i, none⟩ := by unfold Addr.add; split <;> simp_all
end Go.Proofs.Ytnjgejjijboibaa.L
end
section
/- What is kept from world to world, in short words: the road is found by the tactic that stands here once. -/
namespace Go.Proofs.Ytnjgejjijboibaa.L
open Go.RowKit Go.Proofs.YtnjgejjijboibaaW.PrintWords Go.Proofs.YtnjgejjijboibaaW.PrintLast Go.Proofs.YtnjgejjijboibaaW.PrintMore
theorem fG {P Q : Prop} (r : Aside0 P) (go : P → Q := by (intro h_; (repeat (with_reducible first | exact h_ | apply Kd.F_drew | apply Kd.F_drewN | apply Kd.F_alloc | refine Kd.F_far ?_ ?_ _)); all_goals (intro j_ hj_; (try dsimp only at hj_); (try dsimp only); (try simp only [sz_alloc, sz_drew, sz_drewN, sz_set] at hj_); omega))) : Q := go r.out
theorem bG {P Q : Prop} (r : Aside0 P) (go : P → Q := by (intro h_; repeat (first | (with_reducible first | exact h_ | exact Below.refl _ _ | apply below_alloc | apply pw_below_drewN | apply below_drew | refine below_set ?_ (by omega)) | exact h_))) : Q := go r.out
theorem eG {P Q : Prop} (r : Aside0 P) (go : P → Q := by (intro h_; repeat (with_reducible first | exact h_ | apply ext_drew | apply ext_drewN | apply ext_alloc | refine blk_far ?_ (by show _ ≠ _; dsimp only; omega) _))) : Q := go r.out
end Go.Proofs.Ytnjgejjijboibaa.L
end
section
-- Ytnjgejjijboibaa: written by a program for this claim (several laws of one seat at once)
namespace Go.Proofs.Ytnjgejjijboibaa.Q
open Go.RowKit Go.Proofs.YtnjgejjijboibaaW.PrintWords Go.Proofs.YtnjgejjijboibaaW.PrintLast Go.Proofs.YtnjgejjijboibaaW.PrintMore
attribute [local go_sem] max2_int min2_int max_two min_two max_three min_three max_four min_four   -- for this text's walks alone
set_option linter.unusedVariables false
set_option linter.unusedSimpArgs false

def errW : Option Int → Value
  | none => .nilIface
  | some c => .iface 0 (.int .i64 c)
theorem errW_none : errW none = .nilIface := rfl
theorem errW_some (c : Int) : errW (some c) = .iface 0 (.int .i64 c) := rfl

-- the values' own types
structure S48 where
  f0 : Int
  f1 : Int
  f2 : Int
  f3 : Int
  f4 : Int
def z48 : S48 := ⟨(0 : Int), (0 : Int), (0 : Int), (0 : Int), (0 : Int)⟩
def k48 : Kd S48 := Kd.iso (Kd.pair (Kd.int .i64) (Kd.pair (Kd.int .i64) (Kd.pair (Kd.int .u32) (Kd.pair (Kd.int .i64) (Kd.int .i64))))) (fun x : S48 => (x.f0, x.f1, x.f2, x.f3, x.f4))
theorem k48_open {w : World} {x : S48} {cs : List Value} (h : k48.K w x cs) : cs = [.int .i64 x.f0, .int .i64 x.f1, .int .u32 x.f2, .int .i64 x.f3, .int .i64 x.f4] := by
  obtain ⟨_, _, rfl, rfl, ⟨_, _, rfl, rfl, ⟨_, _, rfl, rfl, ⟨_, _, rfl, rfl, rfl⟩⟩⟩⟩ := h
  exact rfl
theorem k48_openM {w : World} {base : Nat} {ok : Nat → Prop} {x : S48} {cs : List Value} (h : k48.M w base ok x cs) : cs = [.int .i64 x.f0, .int .i64 x.f1, .int .u32 x.f2, .int .i64 x.f3, .int .i64 x.f4] := by
  obtain ⟨_, _, rfl, rfl, ⟨_, _, rfl, rfl, ⟨_, _, rfl, rfl, ⟨_, _, rfl, rfl, rfl⟩⟩⟩⟩ := h
  exact rfl
theorem k48_mk (w : World) (x : S48)  : k48.K w x [.int .i64 x.f0, .int .i64 x.f1, .int .u32 x.f2, .int .i64 x.f3, .int .i64 x.f4] := ⟨[.int .i64 x.f0], [.int .i64 x.f1, .int .u32 x.f2, .int .i64 x.f3, .int .i64 x.f4], rfl, rfl, ⟨[.int .i64 x.f1], [.int .u32 x.f2, .int .i64 x.f3, .int .i64 x.f4], rfl, rfl, ⟨[.int .u32 x.f2], [.int .i64 x.f3, .int .i64 x.f4], rfl, rfl, ⟨[.int .i64 x.f3], [.int .i64 x.f4], rfl, rfl, rfl⟩⟩⟩⟩
theorem k48_mkM (w : World) (base : Nat) (ok : Nat → Prop) (x : S48)  : k48.M w base ok x [.int .i64 x.f0, .int .i64 x.f1, .int .u32 x.f2, .int .i64 x.f3, .int .i64 x.f4] := ⟨[.int .i64 x.f0], [.int .i64 x.f1, .int .u32 x.f2, .int .i64 x.f3, .int .i64 x.f4], rfl, rfl, ⟨[.int .i64 x.f1], [.int .u32 x.f2, .int .i64 x.f3, .int .i64 x.f4], rfl, rfl, ⟨[.int .u32 x.f2], [.int .i64 x.f3, .int .i64 x.f4], rfl, rfl, ⟨[.int .i64 x.f3], [.int .i64 x.f4], rfl, rfl, rfl⟩⟩⟩⟩
def rd_T48 (xs : List S48) (i : Int) : S48 := xs.getD i.toNat z48
theorem at_T48 {w : World} {A : Option Addr} {n : Nat} {xs : List S48} (h : Kd.C k48 w A n xs) (i : Int) (h0 : 0 ≤ i) (h1 : i < n) : ∃ ad , A = some ad ∧ w.cell? (ad.add (i.toNat * 5)) = some (.int .i64 (rd_T48 xs i).f0) ∧ w.cell? ⟨(ad.add (i.toNat * 5)).block, (ad.add (i.toNat * 5)).off + 1, none⟩ = some (.int .i64 (rd_T48 xs i).f1) ∧ w.cell? ⟨(ad.add (i.toNat * 5)).block, (ad.add (i.toNat * 5)).off + 2, none⟩ = some (.int .u32 (rd_T48 xs i).f2) ∧ w.cell? ⟨(ad.add (i.toNat * 5)).block, (ad.add (i.toNat * 5)).off + 3, none⟩ = some (.int .i64 (rd_T48 xs i).f3) ∧ w.cell? ⟨(ad.add (i.toNat * 5)).block, (ad.add (i.toNat * 5)).off + 4, none⟩ = some (.int .i64 (rd_T48 xs i).f4) := by
  obtain ⟨ad, c, e, _, hK, hc0⟩ := Kd.C_get h z48 i h0 h1
  have hc : ∀ j u, c[j]? = some u → w.cell? (ad.add (i.toNat * 5 + j)) = some u := hc0
  obtain rfl := k48_open hK
  exact ⟨ad, e, hc 0 _ rfl, by rw [← add_field _ _ 1 (by omega)]; exact hc 1 _ rfl, by rw [← add_field _ _ 2 (by omega)]; exact hc 2 _ rfl, by rw [← add_field _ _ 3 (by omega)]; exact hc 3 _ rfl, by rw [← add_field _ _ 4 (by omega)]; exact hc 4 _ rfl⟩

structure S39 where
  f0 : Int
  f1 : Int
  f2 : Int
  f3 : Int
def z39 : S39 := ⟨(0 : Int), (0 : Int), (0 : Int), (0 : Int)⟩
def k39 : Kd S39 := Kd.iso (Kd.pair (Kd.int .i64) (Kd.pair (Kd.int .i64) (Kd.pair (Kd.int .i64) (Kd.int .i64)))) (fun x : S39 => (x.f0, x.f1, x.f2, x.f3))
theorem k39_open {w : World} {x : S39} {cs : List Value} (h : k39.K w x cs) : cs = [.int .i64 x.f0, .int .i64 x.f1, .int .i64 x.f2, .int .i64 x.f3] := by
  obtain ⟨_, _, rfl, rfl, ⟨_, _, rfl, rfl, ⟨_, _, rfl, rfl, rfl⟩⟩⟩ := h
  exact rfl
theorem k39_openM {w : World} {base : Nat} {ok : Nat → Prop} {x : S39} {cs : List Value} (h : k39.M w base ok x cs) : cs = [.int .i64 x.f0, .int .i64 x.f1, .int .i64 x.f2, .int .i64 x.f3] := by
  obtain ⟨_, _, rfl, rfl, ⟨_, _, rfl, rfl, ⟨_, _, rfl, rfl, rfl⟩⟩⟩ := h
  exact rfl
theorem k39_mk (w : World) (x : S39)  : k39.K w x [.int .i64 x.f0, .int .i64 x.f1, .int .i64 x.f2, .int .i64 x.f3] := ⟨[.int .i64 x.f0], [.int .i64 x.f1, .int .i64 x.f2, .int .i64 x.f3], rfl, rfl, ⟨[.int .i64 x.f1], [.int .i64 x.f2, .int .i64 x.f3], rfl, rfl, ⟨[.int .i64 x.f2], [.int .i64 x.f3], rfl, rfl, rfl⟩⟩⟩
theorem k39_mkM (w : World) (base : Nat) (ok : Nat → Prop) (x : S39)  : k39.M w base ok x [.int .i64 x.f0, .int .i64 x.f1, .int .i64 x.f2, .int .i64 x.f3] := ⟨[.int .i64 x.f0], [.int .i64 x.f1, .int .i64 x.f2, .int .i64 x.f3], rfl, rfl, ⟨[.int .i64 x.f1], [.int .i64 x.f2, .int .i64 x.f3], rfl, rfl, ⟨[.int .i64 x.f2], [.int .i64 x.f3], rfl, rfl, rfl⟩⟩⟩
def rd_T39 (xs : List S39) (i : Int) : S39 := xs.getD i.toNat z39
theorem at_T39 {w : World} {A : Option Addr} {n : Nat} {xs : List S39} (h : Kd.C k39 w A n xs) (i : Int) (h0 : 0 ≤ i) (h1 : i < n) : ∃ ad , A = some ad ∧ w.cell? (ad.add (i.toNat * 4)) = some (.int .i64 (rd_T39 xs i).f0) ∧ w.cell? ⟨(ad.add (i.toNat * 4)).block, (ad.add (i.toNat * 4)).off + 1, none⟩ = some (.int .i64 (rd_T39 xs i).f1) ∧ w.cell? ⟨(ad.add (i.toNat * 4)).block, (ad.add (i.toNat * 4)).off + 2, none⟩ = some (.int .i64 (rd_T39 xs i).f2) ∧ w.cell? ⟨(ad.add (i.toNat * 4)).block, (ad.add (i.toNat * 4)).off + 3, none⟩ = some (.int .i64 (rd_T39 xs i).f3) := by
  obtain ⟨ad, c, e, _, hK, hc0⟩ := Kd.C_get h z39 i h0 h1
  have hc : ∀ j u, c[j]? = some u → w.cell? (ad.add (i.toNat * 4 + j)) = some u := hc0
  obtain rfl := k39_open hK
  exact ⟨ad, e, hc 0 _ rfl, by rw [← add_field _ _ 1 (by omega)]; exact hc 1 _ rfl, by rw [← add_field _ _ 2 (by omega)]; exact hc 2 _ rfl, by rw [← add_field _ _ 3 (by omega)]; exact hc 3 _ rfl⟩

end Go.Proofs.Ytnjgejjijboibaa.Q
end
section
/- Rows of flows and of questions, as blocks' cells; clear over them. -/
namespace Go.Proofs.Ytnjgejjijboibaa.Q
open Go.RowKit Go.Proofs.YtnjgejjijboibaaW.PrintWords Go.Proofs.YtnjgejjijboibaaW.PrintLast Go.Proofs.YtnjgejjijboibaaW.PrintMore Go.Proofs.Ytnjgejjijboibaa.L
attribute [local go_sem] Instr.field part asAgg lt_step max2_int min2_int max_two min_two max_three min_three max_four min_four lt_0_1 lt_0_2 lt_1_2 lt_0_3 lt_1_3 lt_2_3 lt_0_4 lt_1_4 lt_2_4 lt_3_4 lt_0_5 lt_1_5 lt_2_5 lt_3_5 lt_4_5 lt_0_6 lt_1_6 lt_2_6 lt_3_6 lt_4_6 lt_5_6 lt_0_7 lt_1_7 lt_2_7 lt_3_7 lt_4_7 lt_5_7 lt_6_7 lt_0_8 lt_1_8 lt_2_8 lt_3_8 lt_4_8 lt_5_8 lt_6_8 lt_7_8
set_option linter.unusedVariables false
set_option linter.unusedSimpArgs false
theorem info48 : (Try.prog.info? 48).map (fun i => (i.zero, i.size, i.bytes)) = some (some (.agg #[.int .i64 0, .int .i64 0, .int .u32 0, .int .i64 0, .int .i64 0]), 5, 40) := by kernel_rfl
def cells1_48 (x : S48) : List Value := [.int .i64 x.f0, .int .i64 x.f1, .int .u32 x.f2, .int .i64 x.f3, .int .i64 x.f4]
def cellsL_48 : List S48 → List Value
  | [] => []
  | x :: l => cells1_48 x ++ cellsL_48 l
theorem cellsL_len_48 : ∀ l : List S48, (cellsL_48 l).length = l.length * 5
  | [] => rfl
  | x :: l => by rw [cellsL_48, List.length_append, cellsL_len_48 l, List.length_cons]; show 5 + l.length * 5 = _; omega
theorem cellsL_append_48 : ∀ a b : List S48, cellsL_48 (a ++ b) = cellsL_48 a ++ cellsL_48 b
  | [], b => rfl
  | x :: a, b => by rw [List.cons_append, cellsL_48, cellsL_48, cellsL_append_48 a b, List.append_assoc]
theorem cellsL_drop_48 : ∀ (l : List S48) (k : Nat), (cellsL_48 l).drop (k * 5) = cellsL_48 (l.drop k)
  | l, 0 => by simp
  | [], k + 1 => by simp [cellsL_48]
  | x :: l, k + 1 => by
    rw [cellsL_48, List.drop_succ_cons, ← cellsL_drop_48 l k]
    rw [show (k + 1) * 5 = (cells1_48 x).length + k * 5 by show _ = 5 + k * 5; omega, List.drop_length_add_append]
theorem cellsL_take_48 : ∀ (l : List S48) (k : Nat), (cellsL_48 l).take (k * 5) = cellsL_48 (l.take k)
  | l, 0 => by simp [cellsL_48]
  | [], k + 1 => by simp [cellsL_48]
  | x :: l, k + 1 => by
    rw [cellsL_48, List.take_succ_cons, cellsL_48, ← cellsL_take_48 l k]
    rw [show (k + 1) * 5 = (cells1_48 x).length + k * 5 by show _ = 5 + k * 5; omega, List.take_length_add_append]
theorem reps_cells_48 {w : World} {base : Nat} {ok : Nat → Prop} : ∀ (l : List S48) (inner : List Value), Reps (k48.M w base ok) 5 l inner → inner = cellsL_48 l
  | [], inner, h => by
    have := h.1
    rw [List.length_nil, Nat.zero_mul] at this
    rw [List.length_eq_zero_iff.1 this]; rfl
  | x :: l, inner, h => by
    have hl : inner.length = (l.length + 1) * 5 := h.1
    have h0 := k48_openM (h.2 0 x rfl)
    rw [Nat.zero_mul, List.drop_zero] at h0
    have ht : Reps (k48.M w base ok) 5 l (inner.drop 5) := ⟨by rw [List.length_drop, hl]; omega, fun j p hp => by
      have := h.2 (j + 1) p (by simpa using hp)
      rw [List.drop_drop]
      rwa [show 5 + j * 5 = (j + 1) * 5 by omega]⟩
    rw [← List.take_append_drop 5 inner, reps_cells_48 l _ ht, h0]; rfl
theorem cells_reps_48 {w : World} {base : Nat} {ok : Nat → Prop} (l : List S48) : Reps (k48.M w base ok) 5 l (cellsL_48 l) := by
  refine ⟨cellsL_len_48 l, fun j p hp => ?_⟩
  have hj : j < l.length := (List.getElem?_eq_some_iff.1 hp).1
  have hpe := (List.getElem?_eq_some_iff.1 hp).2
  rw [cellsL_drop_48, List.drop_eq_getElem_cons hj, hpe, cellsL_48]
  have : ((cells1_48 p ++ cellsL_48 (l.drop (j + 1))).take 5) = cells1_48 p := by
    rw [List.take_append_of_le_length (by show 5 ≤ 5; omega)]; rfl
  rw [this]
  exact k48_mkM _ _ _ p
theorem R_cells_48 {w : World} {base g n cap : Nat} {ok : Nat → Prop} {l : List S48} (h : Kd.R k48 48 w base ok (.slice (some ⟨g, 0, none⟩) n cap) l) :
    ∃ cur, w.heap[g]? = some (.cells cur 48 (0, 0)) ∧ base ≤ g ∧ ok g ∧ n = l.length ∧ n ≤ cap ∧ cap ≤ maxLen ∧ cur.size = cap * 5 ∧ cur.toList.take (n * 5) = cellsL_48 l := by
  obtain ⟨hok, inner, ⟨hl, ho⟩, hr⟩ := h
  have e := reps_cells_48 l inner hr
  subst e
  rcases ho with ⟨hv, _⟩ | ⟨g', cap', cur, hv, hb, hh, hnc, hcm, hcs, ht⟩
  · cases hv
  injection hv with ha hn hc
  injection ha with ha
  injection ha with hg
  subst hg hc hn
  refine ⟨cur, hh, hb, hok g rfl, ?_, hnc, hcm, hcs, ht⟩
  rfl
theorem R_mk_48 {w : World} {base g cap : Nat} {ok : Nat → Prop} {l : List S48} {cur : Array Value} (hh : w.heap[g]? = some (.cells cur 48 (0, 0))) (hb : base ≤ g) (hk : ok g) (hnc : l.length ≤ cap) (hcm : cap ≤ maxLen) (hcs : cur.size = cap * 5) (ht : cur.toList.take (l.length * 5) = cellsL_48 l) :
    Kd.R k48 48 w base ok (.slice (some ⟨g, 0, none⟩) l.length cap) l := by
  refine ⟨fun k hk' => ?_, cellsL_48 l, ⟨cellsL_len_48 l, .inr ⟨g, cap, cur, rfl, hb, hh, hnc, hcm, hcs, ht⟩⟩, cells_reps_48 l⟩
  have : g = k := by simpa [Value.ownBlock] using hk'
  rw [← this]; exact hk
theorem zero48 (w : World) : (zeroValue 48).run Try.prog w = .ok (.agg #[.int .i64 0, .int .i64 0, .int .u32 0, .int .i64 0, .int .i64 0]) w := by
  obtain ⟨i, hq, hi⟩ := Option.map_eq_some_iff.1 info48
  simp only [Prod.mk.injEq] at hi
  simp [zeroValue, typeInfo, hq, hi.1]
theorem info39 : (Try.prog.info? 39).map (fun i => (i.zero, i.size, i.bytes)) = some (some (.agg #[.int .i64 0, .int .i64 0, .int .i64 0, .int .i64 0]), 4, 32) := by kernel_rfl
def cells1_39 (x : S39) : List Value := [.int .i64 x.f0, .int .i64 x.f1, .int .i64 x.f2, .int .i64 x.f3]
def cellsL_39 : List S39 → List Value
  | [] => []
  | x :: l => cells1_39 x ++ cellsL_39 l
theorem cellsL_len_39 : ∀ l : List S39, (cellsL_39 l).length = l.length * 4
  | [] => rfl
  | x :: l => by rw [cellsL_39, List.length_append, cellsL_len_39 l, List.length_cons]; show 4 + l.length * 4 = _; omega
theorem cellsL_append_39 : ∀ a b : List S39, cellsL_39 (a ++ b) = cellsL_39 a ++ cellsL_39 b
  | [], b => rfl
  | x :: a, b => by rw [List.cons_append, cellsL_39, cellsL_39, cellsL_append_39 a b, List.append_assoc]
theorem cellsL_drop_39 : ∀ (l : List S39) (k : Nat), (cellsL_39 l).drop (k * 4) = cellsL_39 (l.drop k)
  | l, 0 => by simp
  | [], k + 1 => by simp [cellsL_39]
  | x :: l, k + 1 => by
    rw [cellsL_39, List.drop_succ_cons, ← cellsL_drop_39 l k]
    rw [show (k + 1) * 4 = (cells1_39 x).length + k * 4 by show _ = 4 + k * 4; omega, List.drop_length_add_append]
theorem cellsL_take_39 : ∀ (l : List S39) (k : Nat), (cellsL_39 l).take (k * 4) = cellsL_39 (l.take k)
  | l, 0 => by simp [cellsL_39]
  | [], k + 1 => by simp [cellsL_39]
  | x :: l, k + 1 => by
    rw [cellsL_39, List.take_succ_cons, cellsL_39, ← cellsL_take_39 l k]
    rw [show (k + 1) * 4 = (cells1_39 x).length + k * 4 by show _ = 4 + k * 4; omega, List.take_length_add_append]
theorem cellsL_one_39 : ∀ (l : List S39) (v : Value), v ∈ cellsL_39 l → v.oneCell' = true
  | [], v, h => by cases h
  | x :: l, v, h => by
    rw [cellsL_39, List.mem_append] at h
    rcases h with h | h
    · unfold cells1_39 at h
      simp only [List.mem_cons, List.not_mem_nil, or_false] at h
      rcases h with rfl | rfl | rfl | rfl <;> rfl
    · exact cellsL_one_39 l v h
theorem reps_cells_39 {w : World} {base : Nat} {ok : Nat → Prop} : ∀ (l : List S39) (inner : List Value), Reps (k39.M w base ok) 4 l inner → inner = cellsL_39 l
  | [], inner, h => by
    have := h.1
    rw [List.length_nil, Nat.zero_mul] at this
    rw [List.length_eq_zero_iff.1 this]; rfl
  | x :: l, inner, h => by
    have hl : inner.length = (l.length + 1) * 4 := h.1
    have h0 := k39_openM (h.2 0 x rfl)
    rw [Nat.zero_mul, List.drop_zero] at h0
    have ht : Reps (k39.M w base ok) 4 l (inner.drop 4) := ⟨by rw [List.length_drop, hl]; omega, fun j p hp => by
      have := h.2 (j + 1) p (by simpa using hp)
      rw [List.drop_drop]
      rwa [show 4 + j * 4 = (j + 1) * 4 by omega]⟩
    rw [← List.take_append_drop 4 inner, reps_cells_39 l _ ht, h0]; rfl
theorem cells_reps_39 {w : World} {base : Nat} {ok : Nat → Prop} (l : List S39) : Reps (k39.M w base ok) 4 l (cellsL_39 l) := by
  refine ⟨cellsL_len_39 l, fun j p hp => ?_⟩
  have hj : j < l.length := (List.getElem?_eq_some_iff.1 hp).1
  have hpe := (List.getElem?_eq_some_iff.1 hp).2
  rw [cellsL_drop_39, List.drop_eq_getElem_cons hj, hpe, cellsL_39]
  have : ((cells1_39 p ++ cellsL_39 (l.drop (j + 1))).take 4) = cells1_39 p := by
    rw [List.take_append_of_le_length (by show 4 ≤ 4; omega)]; rfl
  rw [this]
  exact k39_mkM _ _ _ p
theorem R_cells_39 {w : World} {base g n cap : Nat} {ok : Nat → Prop} {l : List S39} (h : Kd.R k39 39 w base ok (.slice (some ⟨g, 0, none⟩) n cap) l) :
    ∃ cur, w.heap[g]? = some (.cells cur 39 (0, 0)) ∧ base ≤ g ∧ ok g ∧ n = l.length ∧ n ≤ cap ∧ cap ≤ maxLen ∧ cur.size = cap * 4 ∧ cur.toList.take (n * 4) = cellsL_39 l := by
  obtain ⟨hok, inner, ⟨hl, ho⟩, hr⟩ := h
  have e := reps_cells_39 l inner hr
  subst e
  rcases ho with ⟨hv, _⟩ | ⟨g', cap', cur, hv, hb, hh, hnc, hcm, hcs, ht⟩
  · cases hv
  injection hv with ha hn hc
  injection ha with ha
  injection ha with hg
  subst hg hc hn
  refine ⟨cur, hh, hb, hok g rfl, ?_, hnc, hcm, hcs, ht⟩
  rfl
theorem R_mk_39 {w : World} {base g cap : Nat} {ok : Nat → Prop} {l : List S39} {cur : Array Value} (hh : w.heap[g]? = some (.cells cur 39 (0, 0))) (hb : base ≤ g) (hk : ok g) (hnc : l.length ≤ cap) (hcm : cap ≤ maxLen) (hcs : cur.size = cap * 4) (ht : cur.toList.take (l.length * 4) = cellsL_39 l) :
    Kd.R k39 39 w base ok (.slice (some ⟨g, 0, none⟩) l.length cap) l := by
  refine ⟨fun k hk' => ?_, cellsL_39 l, ⟨cellsL_len_39 l, .inr ⟨g, cap, cur, rfl, hb, hh, hnc, hcm, hcs, ht⟩⟩, cells_reps_39 l⟩
  have : g = k := by simpa [Value.ownBlock] using hk'
  rw [← this]; exact hk
theorem zero39 (w : World) : (zeroValue 39).run Try.prog w = .ok (.agg #[.int .i64 0, .int .i64 0, .int .i64 0, .int .i64 0]) w := by
  obtain ⟨i, hq, hi⟩ := Option.map_eq_some_iff.1 info39
  simp only [Prod.mk.injEq] at hi
  simp [zeroValue, typeInfo, hq, hi.1]
/-- A block behind a run of stores. -/
theorem blk_cells {b t : Nat} : ∀ (vs : List Value) (o : Nat) (w : World) (cur : Array Value), w.heap[b]? = some (.cells cur t (0, 0)) → ∃ cur', (w.setCells b o vs).heap[b]? = some (.cells cur' t (0, 0)) ∧ cur'.size = cur.size ∧ ∀ j, j < cur.size → cur'[j]? = if o ≤ j ∧ j < o + vs.length then vs[j - o]? else cur[j]?
  | [], o, w, cur, h => ⟨cur, h, rfl, fun j hj => by rw [if_neg (by rintro ⟨a, b⟩; rw [List.length_nil] at b; omega)]⟩
  | v :: vs, o, w, cur, h => by
    obtain ⟨cur', h1, h2, h3⟩ := blk_cells vs (o + 1) (w.setCell ⟨b, o, none⟩ v) (cur.setIfInBounds o v) (blk_put h o v rfl)
    refine ⟨cur', h1, by rw [h2, Array.size_setIfInBounds], fun j hj => ?_⟩
    rw [h3 j (by simpa using hj), List.length_cons]
    by_cases hjo : j = o
    · subst hjo
      rw [if_neg (by omega), if_pos (by omega), Nat.sub_self, List.getElem?_cons_zero, Array.getElem?_setIfInBounds_self, if_pos hj]
    · by_cases hin : o + 1 ≤ j ∧ j < o + 1 + vs.length
      · rw [if_pos hin, if_pos (by omega), show j - o = (j - (o + 1)) + 1 by omega, List.getElem?_cons_succ]
      · rw [if_neg hin, if_neg (by omega), Array.getElem?_setIfInBounds_ne (by omega)]
end Go.Proofs.Ytnjgejjijboibaa.Q
end
section
/- nat's closures. -/
namespace Go.Proofs.Ytnjgejjijboibaa.Q
open Go.RowKit Go.Proofs.YtnjgejjijboibaaW.PrintWords Go.Proofs.YtnjgejjijboibaaW.PrintLast Go.Proofs.YtnjgejjijboibaaW.PrintMore Go.Proofs.Ytnjgejjijboibaa.L
attribute [local go_sem] Instr.field part asAgg lt_step max2_int min2_int max_two min_two max_three min_three max_four min_four lt_0_1 lt_0_2 lt_1_2 lt_0_3 lt_1_3 lt_2_3 lt_0_4 lt_1_4 lt_2_4 lt_3_4 lt_0_5 lt_1_5 lt_2_5 lt_3_5 lt_4_5 lt_0_6 lt_1_6 lt_2_6 lt_3_6 lt_4_6 lt_5_6 lt_0_7 lt_1_7 lt_2_7 lt_3_7 lt_4_7 lt_5_7 lt_6_7 lt_0_8 lt_1_8 lt_2_8 lt_3_8 lt_4_8 lt_5_8 lt_6_8 lt_7_8
set_option linter.unusedVariables false
set_option linter.unusedSimpArgs false
set_option maxHeartbeats 1600000 in
set_option maxRecDepth 100000 in
theorem word1_runs (x0 : Int) (w : World)  :
    Calls Try.prog 32 #[.int .i64 x0] w fun e w' => e = .returned (.bool (x0 / 65536 != 0)) ∧ Below w.heap.size w w' := by
  have HB := Aside0.mk (Below.refl w.heap.size w)
  go_enter Try.func32, Try.ntmps32
  go_wp2
  all_goals go_ret
  all_goals exact ⟨by first | rfl | (simp; done) | (simp [*]; done) | (simp [*]; omega), (bG HB)⟩
set_option maxHeartbeats 1600000 in
set_option maxRecDepth 100000 in
theorem until48_runs (gn : Nat) (now : Int) (x0 x1 x2 x3 x4 : Int) (w : World) (h0 : w.heap[gn]? = some (.cells #[.int .i64 now] 3 (0, 0))) :
    Calls Try.prog 28 #[.agg #[.int .i64 x0, .int .i64 x1, .int .u32 x2, .int .i64 x3, .int .i64 x4], .pointer (some ⟨gn, 0, none⟩)] w fun e w' => e = .returned (.bool (decide (x4 > now))) ∧ Below w.heap.size w w' := by
  have HB := Aside0.mk (Below.refl w.heap.size w)
  obtain ⟨hc0, hf0, hl0⟩ := cells_of h0
  have o0 := Aside0.mk h0
  clear h0
  go_enter Try.func28, Try.ntmps28
  go_wp2
  all_goals go_ret
  all_goals exact ⟨by first | rfl | (simp; done) | (simp [*]; done) | (simp [*]; omega), (bG HB)⟩
set_option maxHeartbeats 1600000 in
set_option maxRecDepth 100000 in
theorem sift48_runs (gt gn : Nat) (now : Int) (x0 x1 x2 x3 x4 : Int) (w : World) (h0 : w.heap[gt]? = some (.cells #[.func (.func 28) #[] #[.pointer (some ⟨gn, 0, none⟩)]] 51 (0, 0))) (h1 : w.heap[gn]? = some (.cells #[.int .i64 now] 3 (0, 0))) :
    Calls Try.prog 35 #[.agg #[.int .i64 x0, .int .i64 x1, .int .u32 x2, .int .i64 x3, .int .i64 x4], .pointer (some ⟨gt, 0, none⟩)] w fun e w' => e = .returned (.bool (!decide (x4 > now))) ∧ Below w.heap.size w w' := by
  have HB := Aside0.mk (Below.refl w.heap.size w)
  obtain ⟨hc0, hf0, hl0⟩ := cells_of h0
  have o0 := Aside0.mk h0
  clear h0
  obtain ⟨hc1, hf1, hl1⟩ := cells_of h1
  have o1 := Aside0.mk h1
  clear h1
  go_enter Try.func35, Try.ntmps35
  go_wp2_with fail
  (go_at_call 28; (with_reducible refine (until48_runs gn now _ _ _ _ _ _ (eG o1)).mono ?_); rintro e_ w1 ⟨rfl, hb_⟩; have HB_ : Aside0 (Below w.heap.size w w1) := Aside0.mk (below_step (bG HB) hb_); have hzw1 := hb_.size; (try simp at hzw1); have o1_ := Aside0.mk (box_below hb_ (eG o1)); (try clear o1 o1c o1f o1l); have o1 := o1_; clear o1_; obtain ⟨o1c, o1f, o1l⟩ := cells_of o1.out; clear HB hb_; have HB := HB_; clear HB_)
  go_wp2
  all_goals go_ret
  all_goals exact ⟨by first | rfl | (simp; done) | (simp [*]; done) | (simp [*]; omega), (bG HB)⟩
set_option maxHeartbeats 1600000 in
set_option maxRecDepth 100000 in
theorem until39_runs (gn : Nat) (now : Int) (x0 x1 x2 x3 : Int) (w : World) (h0 : w.heap[gn]? = some (.cells #[.int .i64 now] 3 (0, 0))) :
    Calls Try.prog 30 #[.agg #[.int .i64 x0, .int .i64 x1, .int .i64 x2, .int .i64 x3], .pointer (some ⟨gn, 0, none⟩)] w fun e w' => e = .returned (.bool (decide (x3 > now))) ∧ Below w.heap.size w w' := by
  have HB := Aside0.mk (Below.refl w.heap.size w)
  obtain ⟨hc0, hf0, hl0⟩ := cells_of h0
  have o0 := Aside0.mk h0
  clear h0
  go_enter Try.func30, Try.ntmps30
  go_wp2
  all_goals go_ret
  all_goals exact ⟨by first | rfl | (simp; done) | (simp [*]; done) | (simp [*]; omega), (bG HB)⟩
set_option maxHeartbeats 1600000 in
set_option maxRecDepth 100000 in
theorem sift39_runs (gt gn : Nat) (now : Int) (x0 x1 x2 x3 : Int) (w : World) (h0 : w.heap[gt]? = some (.cells #[.func (.func 30) #[] #[.pointer (some ⟨gn, 0, none⟩)]] 60 (0, 0))) (h1 : w.heap[gn]? = some (.cells #[.int .i64 now] 3 (0, 0))) :
    Calls Try.prog 37 #[.agg #[.int .i64 x0, .int .i64 x1, .int .i64 x2, .int .i64 x3], .pointer (some ⟨gt, 0, none⟩)] w fun e w' => e = .returned (.bool (!decide (x3 > now))) ∧ Below w.heap.size w w' := by
  have HB := Aside0.mk (Below.refl w.heap.size w)
  obtain ⟨hc0, hf0, hl0⟩ := cells_of h0
  have o0 := Aside0.mk h0
  clear h0
  obtain ⟨hc1, hf1, hl1⟩ := cells_of h1
  have o1 := Aside0.mk h1
  clear h1
  go_enter Try.func37, Try.ntmps37
  go_wp2_with fail
  (go_at_call 30; (with_reducible refine (until39_runs gn now _ _ _ _ _ (eG o1)).mono ?_); rintro e_ w1 ⟨rfl, hb_⟩; have HB_ : Aside0 (Below w.heap.size w w1) := Aside0.mk (below_step (bG HB) hb_); have hzw1 := hb_.size; (try simp at hzw1); have o1_ := Aside0.mk (box_below hb_ (eG o1)); (try clear o1 o1c o1f o1l); have o1 := o1_; clear o1_; obtain ⟨o1c, o1f, o1l⟩ := cells_of o1.out; clear HB hb_; have HB := HB_; clear HB_)
  go_wp2
  all_goals go_ret
  all_goals exact ⟨by first | rfl | (simp; done) | (simp [*]; done) | (simp [*]; omega), (bG HB)⟩
set_option maxHeartbeats 1600000 in
set_option maxRecDepth 100000 in
theorem way_runs (g1 g2 g3 : Nat) (gu re po : Int) (x0 x1 x2 x3 x4 : Int) (w : World) (h0 : w.heap[g1]? = some (.cells #[.int .i64 gu] 3 (0, 0))) (h1 : w.heap[g2]? = some (.cells #[.int .u32 re] 22 (0, 0))) (h2 : w.heap[g3]? = some (.cells #[.int .i64 po] 3 (0, 0))) :
    Calls Try.prog 17 #[.agg #[.int .i64 x0, .int .i64 x1, .int .u32 x2, .int .i64 x3, .int .i64 x4], .pointer (some ⟨g1, 0, none⟩), .pointer (some ⟨g2, 0, none⟩), .pointer (some ⟨g3, 0, none⟩)] w fun e w' => e = .returned (.bool (x0 == gu && x2 == re && x3 == po)) ∧ Below w.heap.size w w' := by
  have HB := Aside0.mk (Below.refl w.heap.size w)
  obtain ⟨hc0, hf0, hl0⟩ := cells_of h0
  have o0 := Aside0.mk h0
  clear h0
  obtain ⟨hc1, hf1, hl1⟩ := cells_of h1
  have o1 := Aside0.mk h1
  clear h1
  obtain ⟨hc2, hf2, hl2⟩ := cells_of h2
  have o2 := Aside0.mk h2
  clear h2
  go_enter Try.func17, Try.ntmps17
  go_wp2
  all_goals go_ret
  all_goals exact ⟨by first | rfl | (simp; done) | (simp [*]; done) | (simp [*]; omega), (bG HB)⟩
set_option maxHeartbeats 1600000 in
set_option maxRecDepth 100000 in
theorem back_runs (g1 g2 : Nat) (id now : Int) (x0 x1 x2 x3 : Int) (w : World) (h0 : w.heap[g1]? = some (.cells #[.int .i64 id] 3 (0, 0))) (h1 : w.heap[g2]? = some (.cells #[.int .i64 now] 3 (0, 0))) :
    Calls Try.prog 24 #[.agg #[.int .i64 x0, .int .i64 x1, .int .i64 x2, .int .i64 x3], .pointer (some ⟨g1, 0, none⟩), .pointer (some ⟨g2, 0, none⟩)] w fun e w' => e = .returned (.bool (x0 == id && decide (x3 > now))) ∧ Below w.heap.size w w' := by
  have HB := Aside0.mk (Below.refl w.heap.size w)
  obtain ⟨hc0, hf0, hl0⟩ := cells_of h0
  have o0 := Aside0.mk h0
  clear h0
  obtain ⟨hc1, hf1, hl1⟩ := cells_of h1
  have o1 := Aside0.mk h1
  clear h1
  go_enter Try.func24, Try.ntmps24
  go_wp2
  all_goals go_ret
  all_goals exact ⟨by first | rfl | (simp; done) | (simp [*]; done) | (simp [*]; omega), (bG HB)⟩
set_option maxHeartbeats 1600000 in
set_option maxRecDepth 100000 in
theorem host_runs (x0 x1 x2 x3 x4 : Int) (w : World)  :
    Calls Try.prog 19 #[.agg #[.int .i64 x0, .int .i64 x1, .int .u32 x2, .int .i64 x3, .int .i64 x4]] w fun e w' => e = .returned (.int .i64 x1) ∧ Below w.heap.size w w' := by
  have HB := Aside0.mk (Below.refl w.heap.size w)
  go_enter Try.func19, Try.ntmps19
  go_wp2
  all_goals go_ret
  all_goals exact ⟨by first | rfl | (simp; done) | (simp [*]; done) | (simp [*]; omega), (bG HB)⟩
set_option maxHeartbeats 1600000 in
set_option maxRecDepth 100000 in
theorem qid_runs (x0 x1 x2 x3 : Int) (w : World)  :
    Calls Try.prog 22 #[.agg #[.int .i64 x0, .int .i64 x1, .int .i64 x2, .int .i64 x3]] w fun e w' => e = .returned (.int .i64 x0) ∧ Below w.heap.size w w' := by
  have HB := Aside0.mk (Below.refl w.heap.size w)
  go_enter Try.func22, Try.ntmps22
  go_wp2
  all_goals go_ret
  all_goals exact ⟨by first | rfl | (simp; done) | (simp [*]; done) | (simp [*]; omega), (bG HB)⟩
end Go.Proofs.Ytnjgejjijboibaa.Q
end
section
/- slices.IndexFunc, with each of its tests; word. -/
namespace Go.Proofs.Ytnjgejjijboibaa.Q
open Go.RowKit Go.Proofs.YtnjgejjijboibaaW.PrintWords Go.Proofs.YtnjgejjijboibaaW.PrintLast Go.Proofs.YtnjgejjijboibaaW.PrintMore Go.Proofs.Ytnjgejjijboibaa.L
attribute [local go_sem] Instr.field part asAgg lt_step max2_int min2_int max_two min_two max_three min_three max_four min_four lt_0_1 lt_0_2 lt_1_2 lt_0_3 lt_1_3 lt_2_3 lt_0_4 lt_1_4 lt_2_4 lt_3_4 lt_0_5 lt_1_5 lt_2_5 lt_3_5 lt_4_5 lt_0_6 lt_1_6 lt_2_6 lt_3_6 lt_4_6 lt_5_6 lt_0_7 lt_1_7 lt_2_7 lt_3_7 lt_4_7 lt_5_7 lt_6_7 lt_0_8 lt_1_8 lt_2_8 lt_3_8 lt_4_8 lt_5_8 lt_6_8 lt_7_8
set_option linter.unusedVariables false
set_option linter.unusedSimpArgs false
/-- The place of the first that a test takes; -1. -/
def idxP {α : Type} (p : α → Bool) : List α → Int → Int
  | [], _ => -1
  | x :: l, i => if p x = true then i else idxP p l (i + 1)
theorem idxP_step {α : Type} {p : α → Bool} {d : α} {l : List α} {k : Nat} (hk : k < l.length) : idxP p (l.drop k) k = if p (l.getD k d) = true then (k : Int) else idxP p (l.drop (k + 1)) ((k + 1 : Nat) : Int) := by
  rw [List.drop_eq_getElem_cons hk, idxP, List.getD_eq_getElem?_getD, List.getElem?_eq_getElem hk, Int.natCast_succ]; rfl
set_option maxHeartbeats 1600000 in
set_option maxRecDepth 100000 in
theorem indexI_runs (A0 : Option Addr) (c0 : Nat) (l0 : List Int) (w : World) (hr0 : Kd.C (Kd.int .i64) w A0 l0.length l0)  :
    Calls Try.prog 38 #[.slice A0 l0.length c0, .func (.func 32) #[] #[]] w fun e w' => e = .returned (.int .i64 (idxP (fun x => (x / 65536 != 0)) l0 0)) ∧ Below w.heap.size w w' := by
  have HB := Aside0.mk (Below.refl w.heap.size w)
  have HR0 := Aside0.mk hr0
  have hm : l0.length ≤ 9223372036854775807 := hr0.2.1
  obtain ⟨R, hR⟩ : ∃ R, idxP (fun x => (x / 65536 != 0)) l0 0 = R := ⟨_, rfl⟩
  have HI : Aside0 (idxP (fun x => (x / 65536 != 0)) (l0.drop 0) ((0 : Nat) : Int) = R) := ⟨hR⟩
  rw [hR]
  clear hr0 hR
  go_enter Try.func38, Try.ntmps38
  go_wp2
  go_loopw [8] (fun i wx => ∃ k : Nat, k ≤ l0.length ∧ i = .int .i64 k ∧ Aside0 (idxP (fun x => (x / 65536 != 0)) (l0.drop k) (k : Int) = R) ∧ Aside0 (Below w.heap.size w wx)) (fun i _ => l0.length - (intOf i).toNat)
  case atStart => exact ⟨0, Nat.zero_le _, rfl, HI, HB⟩
  case round =>
    clear HI HB
    obtain ⟨k, hk, rfl, HK, HB⟩ := hrel
    have hz := HB.out.size
    by_cases hlt : k < l0.length
    · obtain ⟨ad, rfl, hc0⟩ := Kd.at_int (Kd.C_below HR0.out HB.out) (k : Int) (by omega) (by omega)
      rw [Int.toNat_natCast] at hc0
      have hK := HK.out
      rw [idxP_step (p := (fun x => (x / 65536 != 0))) (d := (0 : Int)) hlt] at hK
      clear HK
      obtain ⟨x, hx⟩ : ∃ x, rd l0 (k : Int) = x := ⟨_, rfl⟩
      have hx' : l0.getD k (0 : Int) = x := by rw [← hx]; unfold rd; rw [Int.toNat_natCast]
      rw [hx'] at hK
      rw [hx] at hc0
      clear hx hx'
      have HLT := Aside0.mk hlt
      clear hlt
      have hlt' : (k : Int) < (l0.length : Int) := by have := HLT.out; omega
      obtain ⟨b, hp⟩ : ∃ b, (x / 65536 != 0) = b := ⟨_, rfl⟩
      have HP := Aside0.mk hp
      (try dsimp only at hK)
      rw [hp] at hK
      clear hp
      go_wp2_with fail
      (go_at_call 32; (with_reducible refine (word1_runs _ _).mono ?_); rintro e_ w1 ⟨rfl, hb_⟩; have HB_ : Aside0 (Below w.heap.size w w1) := Aside0.mk (below_step (bG HB) hb_); have hzw1 := hb_.size; (try simp at hzw1); clear HB hb_; have HB := HB_; clear HB_)
      rw [HP.out]
      cases b
      case false =>
        rw [if_neg (by decide)] at hK
        have HK := Aside0.mk hK
        clear hK
        go_wp2
        go_roundw
        case rel => exact ⟨k + 1, by have := HLT.out; omega, by go_num, HK, HB⟩
        case measure => have := HLT.out; simp [intOf]; omega
      case true =>
        rw [if_pos rfl] at hK
        have HK := Aside0.mk hK
        clear hK
        go_wp2
        go_ret
        exact ⟨by rw [← HK.out]; rfl, HB.out⟩
    · have hK := HK.out
      rw [List.drop_of_length_le (by omega)] at hK
      have HK2 : Aside0 ((-1 : Int) = R) := ⟨hK⟩
      clear HK hK
      go_wp2
      go_ret
      exact ⟨by rw [← HK2.out]; rfl, HB.out⟩
set_option maxHeartbeats 1600000 in
set_option maxRecDepth 100000 in
theorem indexS48_runs (gt gn : Nat) (now : Int) (A0 : Option Addr) (c0 : Nat) (l0 : List S48) (w : World) (hr0 : Kd.C k48 w A0 l0.length l0) (hb0 : w.heap[gt]? = some (.cells #[.func (.func 28) #[] #[.pointer (some ⟨gn, 0, none⟩)]] 51 (0, 0))) (hb1 : w.heap[gn]? = some (.cells #[.int .i64 now] 3 (0, 0))) :
    Calls Try.prog 16 #[.slice A0 l0.length c0, .func (.func 35) #[] #[.pointer (some ⟨gt, 0, none⟩)]] w fun e w' => e = .returned (.int .i64 (idxP (fun x => (!decide (x.f4 > now))) l0 0)) ∧ Below w.heap.size w w' := by
  have HB := Aside0.mk (Below.refl w.heap.size w)
  have HR0 := Aside0.mk hr0
  have hm : l0.length ≤ 9223372036854775807 := hr0.2.1
  have ob0 := Aside0.mk hb0
  clear hb0
  have ob1 := Aside0.mk hb1
  clear hb1
  obtain ⟨R, hR⟩ : ∃ R, idxP (fun x => (!decide (x.f4 > now))) l0 0 = R := ⟨_, rfl⟩
  have HI : Aside0 (idxP (fun x => (!decide (x.f4 > now))) (l0.drop 0) ((0 : Nat) : Int) = R) := ⟨hR⟩
  rw [hR]
  clear hr0 hR
  go_enter Try.func16, Try.ntmps16
  go_wp2
  go_loopw [8] (fun i wx => ∃ k : Nat, k ≤ l0.length ∧ i = .int .i64 k ∧ Aside0 (idxP (fun x => (!decide (x.f4 > now))) (l0.drop k) (k : Int) = R) ∧ Aside0 (wx.heap[gt]? = some (.cells #[.func (.func 28) #[] #[.pointer (some ⟨gn, 0, none⟩)]] 51 (0, 0))) ∧ Aside0 (wx.heap[gn]? = some (.cells #[.int .i64 now] 3 (0, 0))) ∧ Aside0 (Below w.heap.size w wx)) (fun i _ => l0.length - (intOf i).toNat)
  case atStart => exact ⟨0, Nat.zero_le _, rfl, HI, ob0, ob1, HB⟩
  case round =>
    clear HI ob0 ob1 HB
    obtain ⟨k, hk, rfl, HK, ob0, ob1, HB⟩ := hrel
    have hz := HB.out.size
    by_cases hlt : k < l0.length
    · obtain ⟨ad, rfl, hc0, hc1, hc2, hc3, hc4⟩ := at_T48 (Kd.C_below HR0.out HB.out) (k : Int) (by omega) (by omega)
      rw [Int.toNat_natCast] at hc0 hc1 hc2 hc3 hc4
      have hK := HK.out
      rw [idxP_step (p := (fun x => (!decide (x.f4 > now)))) (d := z48) hlt] at hK
      clear HK
      obtain ⟨x, hx⟩ : ∃ x, rd_T48 l0 (k : Int) = x := ⟨_, rfl⟩
      have hx' : l0.getD k z48 = x := by rw [← hx]; unfold rd_T48; rw [Int.toNat_natCast]
      rw [hx'] at hK
      rw [hx] at hc0 hc1 hc2 hc3 hc4
      clear hx hx'
      have HLT := Aside0.mk hlt
      clear hlt
      have hlt' : (k : Int) < (l0.length : Int) := by have := HLT.out; omega
      obtain ⟨b, hp⟩ : ∃ b, (!decide (x.f4 > now)) = b := ⟨_, rfl⟩
      have HP := Aside0.mk hp
      (try dsimp only at hK)
      rw [hp] at hK
      clear hp
      go_wp2_with fail
      (go_at_call 35; (with_reducible refine (sift48_runs gt gn now _ _ _ _ _ _ (eG ob0) (eG ob1)).mono ?_); rintro e_ w1 ⟨rfl, hb_⟩; have HB_ : Aside0 (Below w.heap.size w w1) := Aside0.mk (below_step (bG HB) hb_); have hzw1 := hb_.size; (try simp at hzw1); have ob0_ := Aside0.mk (box_below hb_ (eG ob0)); have ob1_ := Aside0.mk (box_below hb_ (eG ob1)); (try clear ob0 ob0c ob0f ob0l); have ob0 := ob0_; clear ob0_; obtain ⟨ob0c, ob0f, ob0l⟩ := cells_of ob0.out; (try clear ob1 ob1c ob1f ob1l); have ob1 := ob1_; clear ob1_; obtain ⟨ob1c, ob1f, ob1l⟩ := cells_of ob1.out; clear HB hb_; have HB := HB_; clear HB_)
      rw [HP.out]
      cases b
      case false =>
        rw [if_neg (by decide)] at hK
        have HK := Aside0.mk hK
        clear hK
        go_wp2
        go_roundw
        case rel => exact ⟨k + 1, by have := HLT.out; omega, by go_num, HK, ob0, ob1, HB⟩
        case measure => have := HLT.out; simp [intOf]; omega
      case true =>
        rw [if_pos rfl] at hK
        have HK := Aside0.mk hK
        clear hK
        go_wp2
        go_ret
        exact ⟨by rw [← HK.out]; rfl, HB.out⟩
    · have hK := HK.out
      rw [List.drop_of_length_le (by omega)] at hK
      have HK2 : Aside0 ((-1 : Int) = R) := ⟨hK⟩
      clear HK hK
      go_wp2
      go_ret
      exact ⟨by rw [← HK2.out]; rfl, HB.out⟩
set_option maxHeartbeats 1600000 in
set_option maxRecDepth 100000 in
theorem indexS39_runs (gt gn : Nat) (now : Int) (A0 : Option Addr) (c0 : Nat) (l0 : List S39) (w : World) (hr0 : Kd.C k39 w A0 l0.length l0) (hb0 : w.heap[gt]? = some (.cells #[.func (.func 30) #[] #[.pointer (some ⟨gn, 0, none⟩)]] 60 (0, 0))) (hb1 : w.heap[gn]? = some (.cells #[.int .i64 now] 3 (0, 0))) :
    Calls Try.prog 23 #[.slice A0 l0.length c0, .func (.func 37) #[] #[.pointer (some ⟨gt, 0, none⟩)]] w fun e w' => e = .returned (.int .i64 (idxP (fun x => (!decide (x.f3 > now))) l0 0)) ∧ Below w.heap.size w w' := by
  have HB := Aside0.mk (Below.refl w.heap.size w)
  have HR0 := Aside0.mk hr0
  have hm : l0.length ≤ 9223372036854775807 := hr0.2.1
  have ob0 := Aside0.mk hb0
  clear hb0
  have ob1 := Aside0.mk hb1
  clear hb1
  obtain ⟨R, hR⟩ : ∃ R, idxP (fun x => (!decide (x.f3 > now))) l0 0 = R := ⟨_, rfl⟩
  have HI : Aside0 (idxP (fun x => (!decide (x.f3 > now))) (l0.drop 0) ((0 : Nat) : Int) = R) := ⟨hR⟩
  rw [hR]
  clear hr0 hR
  go_enter Try.func23, Try.ntmps23
  go_wp2
  go_loopw [8] (fun i wx => ∃ k : Nat, k ≤ l0.length ∧ i = .int .i64 k ∧ Aside0 (idxP (fun x => (!decide (x.f3 > now))) (l0.drop k) (k : Int) = R) ∧ Aside0 (wx.heap[gt]? = some (.cells #[.func (.func 30) #[] #[.pointer (some ⟨gn, 0, none⟩)]] 60 (0, 0))) ∧ Aside0 (wx.heap[gn]? = some (.cells #[.int .i64 now] 3 (0, 0))) ∧ Aside0 (Below w.heap.size w wx)) (fun i _ => l0.length - (intOf i).toNat)
  case atStart => exact ⟨0, Nat.zero_le _, rfl, HI, ob0, ob1, HB⟩
  case round =>
    clear HI ob0 ob1 HB
    obtain ⟨k, hk, rfl, HK, ob0, ob1, HB⟩ := hrel
    have hz := HB.out.size
    by_cases hlt : k < l0.length
    · obtain ⟨ad, rfl, hc0, hc1, hc2, hc3⟩ := at_T39 (Kd.C_below HR0.out HB.out) (k : Int) (by omega) (by omega)
      rw [Int.toNat_natCast] at hc0 hc1 hc2 hc3
      have hK := HK.out
      rw [idxP_step (p := (fun x => (!decide (x.f3 > now)))) (d := z39) hlt] at hK
      clear HK
      obtain ⟨x, hx⟩ : ∃ x, rd_T39 l0 (k : Int) = x := ⟨_, rfl⟩
      have hx' : l0.getD k z39 = x := by rw [← hx]; unfold rd_T39; rw [Int.toNat_natCast]
      rw [hx'] at hK
      rw [hx] at hc0 hc1 hc2 hc3
      clear hx hx'
      have HLT := Aside0.mk hlt
      clear hlt
      have hlt' : (k : Int) < (l0.length : Int) := by have := HLT.out; omega
      obtain ⟨b, hp⟩ : ∃ b, (!decide (x.f3 > now)) = b := ⟨_, rfl⟩
      have HP := Aside0.mk hp
      (try dsimp only at hK)
      rw [hp] at hK
      clear hp
      go_wp2_with fail
      (go_at_call 37; (with_reducible refine (sift39_runs gt gn now _ _ _ _ _ (eG ob0) (eG ob1)).mono ?_); rintro e_ w1 ⟨rfl, hb_⟩; have HB_ : Aside0 (Below w.heap.size w w1) := Aside0.mk (below_step (bG HB) hb_); have hzw1 := hb_.size; (try simp at hzw1); have ob0_ := Aside0.mk (box_below hb_ (eG ob0)); have ob1_ := Aside0.mk (box_below hb_ (eG ob1)); (try clear ob0 ob0c ob0f ob0l); have ob0 := ob0_; clear ob0_; obtain ⟨ob0c, ob0f, ob0l⟩ := cells_of ob0.out; (try clear ob1 ob1c ob1f ob1l); have ob1 := ob1_; clear ob1_; obtain ⟨ob1c, ob1f, ob1l⟩ := cells_of ob1.out; clear HB hb_; have HB := HB_; clear HB_)
      rw [HP.out]
      cases b
      case false =>
        rw [if_neg (by decide)] at hK
        have HK := Aside0.mk hK
        clear hK
        go_wp2
        go_roundw
        case rel => exact ⟨k + 1, by have := HLT.out; omega, by go_num, HK, ob0, ob1, HB⟩
        case measure => have := HLT.out; simp [intOf]; omega
      case true =>
        rw [if_pos rfl] at hK
        have HK := Aside0.mk hK
        clear hK
        go_wp2
        go_ret
        exact ⟨by rw [← HK.out]; rfl, HB.out⟩
    · have hK := HK.out
      rw [List.drop_of_length_le (by omega)] at hK
      have HK2 : Aside0 ((-1 : Int) = R) := ⟨hK⟩
      clear HK hK
      go_wp2
      go_ret
      exact ⟨by rw [← HK2.out]; rfl, HB.out⟩
set_option maxHeartbeats 1600000 in
set_option maxRecDepth 100000 in
theorem indexW_runs (g1 g2 g3 : Nat) (gu re po : Int) (A0 : Option Addr) (c0 : Nat) (l0 : List S48) (w : World) (hr0 : Kd.C k48 w A0 l0.length l0) (hb0 : w.heap[g1]? = some (.cells #[.int .i64 gu] 3 (0, 0))) (hb1 : w.heap[g2]? = some (.cells #[.int .u32 re] 22 (0, 0))) (hb2 : w.heap[g3]? = some (.cells #[.int .i64 po] 3 (0, 0))) :
    Calls Try.prog 16 #[.slice A0 l0.length c0, .func (.func 17) #[] #[.pointer (some ⟨g1, 0, none⟩), .pointer (some ⟨g2, 0, none⟩), .pointer (some ⟨g3, 0, none⟩)]] w fun e w' => e = .returned (.int .i64 (idxP (fun x => (x.f0 == gu && x.f2 == re && x.f3 == po)) l0 0)) ∧ Below w.heap.size w w' := by
  have HB := Aside0.mk (Below.refl w.heap.size w)
  have HR0 := Aside0.mk hr0
  have hm : l0.length ≤ 9223372036854775807 := hr0.2.1
  have ob0 := Aside0.mk hb0
  clear hb0
  have ob1 := Aside0.mk hb1
  clear hb1
  have ob2 := Aside0.mk hb2
  clear hb2
  obtain ⟨R, hR⟩ : ∃ R, idxP (fun x => (x.f0 == gu && x.f2 == re && x.f3 == po)) l0 0 = R := ⟨_, rfl⟩
  have HI : Aside0 (idxP (fun x => (x.f0 == gu && x.f2 == re && x.f3 == po)) (l0.drop 0) ((0 : Nat) : Int) = R) := ⟨hR⟩
  rw [hR]
  clear hr0 hR
  go_enter Try.func16, Try.ntmps16
  go_wp2
  go_loopw [8] (fun i wx => ∃ k : Nat, k ≤ l0.length ∧ i = .int .i64 k ∧ Aside0 (idxP (fun x => (x.f0 == gu && x.f2 == re && x.f3 == po)) (l0.drop k) (k : Int) = R) ∧ Aside0 (wx.heap[g1]? = some (.cells #[.int .i64 gu] 3 (0, 0))) ∧ Aside0 (wx.heap[g2]? = some (.cells #[.int .u32 re] 22 (0, 0))) ∧ Aside0 (wx.heap[g3]? = some (.cells #[.int .i64 po] 3 (0, 0))) ∧ Aside0 (Below w.heap.size w wx)) (fun i _ => l0.length - (intOf i).toNat)
  case atStart => exact ⟨0, Nat.zero_le _, rfl, HI, ob0, ob1, ob2, HB⟩
  case round =>
    clear HI ob0 ob1 ob2 HB
    obtain ⟨k, hk, rfl, HK, ob0, ob1, ob2, HB⟩ := hrel
    have hz := HB.out.size
    by_cases hlt : k < l0.length
    · obtain ⟨ad, rfl, hc0, hc1, hc2, hc3, hc4⟩ := at_T48 (Kd.C_below HR0.out HB.out) (k : Int) (by omega) (by omega)
      rw [Int.toNat_natCast] at hc0 hc1 hc2 hc3 hc4
      have hK := HK.out
      rw [idxP_step (p := (fun x => (x.f0 == gu && x.f2 == re && x.f3 == po))) (d := z48) hlt] at hK
      clear HK
      obtain ⟨x, hx⟩ : ∃ x, rd_T48 l0 (k : Int) = x := ⟨_, rfl⟩
      have hx' : l0.getD k z48 = x := by rw [← hx]; unfold rd_T48; rw [Int.toNat_natCast]
      rw [hx'] at hK
      rw [hx] at hc0 hc1 hc2 hc3 hc4
      clear hx hx'
      have HLT := Aside0.mk hlt
      clear hlt
      have hlt' : (k : Int) < (l0.length : Int) := by have := HLT.out; omega
      obtain ⟨b, hp⟩ : ∃ b, (x.f0 == gu && x.f2 == re && x.f3 == po) = b := ⟨_, rfl⟩
      have HP := Aside0.mk hp
      (try dsimp only at hK)
      rw [hp] at hK
      clear hp
      go_wp2_with fail
      (go_at_call 17; (with_reducible refine (way_runs g1 g2 g3 gu re po _ _ _ _ _ _ (eG ob0) (eG ob1) (eG ob2)).mono ?_); rintro e_ w1 ⟨rfl, hb_⟩; have HB_ : Aside0 (Below w.heap.size w w1) := Aside0.mk (below_step (bG HB) hb_); have hzw1 := hb_.size; (try simp at hzw1); have ob0_ := Aside0.mk (box_below hb_ (eG ob0)); have ob1_ := Aside0.mk (box_below hb_ (eG ob1)); have ob2_ := Aside0.mk (box_below hb_ (eG ob2)); (try clear ob0 ob0c ob0f ob0l); have ob0 := ob0_; clear ob0_; obtain ⟨ob0c, ob0f, ob0l⟩ := cells_of ob0.out; (try clear ob1 ob1c ob1f ob1l); have ob1 := ob1_; clear ob1_; obtain ⟨ob1c, ob1f, ob1l⟩ := cells_of ob1.out; (try clear ob2 ob2c ob2f ob2l); have ob2 := ob2_; clear ob2_; obtain ⟨ob2c, ob2f, ob2l⟩ := cells_of ob2.out; clear HB hb_; have HB := HB_; clear HB_)
      rw [HP.out]
      cases b
      case false =>
        rw [if_neg (by decide)] at hK
        have HK := Aside0.mk hK
        clear hK
        go_wp2
        go_roundw
        case rel => exact ⟨k + 1, by have := HLT.out; omega, by go_num, HK, ob0, ob1, ob2, HB⟩
        case measure => have := HLT.out; simp [intOf]; omega
      case true =>
        rw [if_pos rfl] at hK
        have HK := Aside0.mk hK
        clear hK
        go_wp2
        go_ret
        exact ⟨by rw [← HK.out]; rfl, HB.out⟩
    · have hK := HK.out
      rw [List.drop_of_length_le (by omega)] at hK
      have HK2 : Aside0 ((-1 : Int) = R) := ⟨hK⟩
      clear HK hK
      go_wp2
      go_ret
      exact ⟨by rw [← HK2.out]; rfl, HB.out⟩
set_option maxHeartbeats 1600000 in
set_option maxRecDepth 100000 in
theorem indexB_runs (g1 g2 : Nat) (id now : Int) (A0 : Option Addr) (c0 : Nat) (l0 : List S39) (w : World) (hr0 : Kd.C k39 w A0 l0.length l0) (hb0 : w.heap[g1]? = some (.cells #[.int .i64 id] 3 (0, 0))) (hb1 : w.heap[g2]? = some (.cells #[.int .i64 now] 3 (0, 0))) :
    Calls Try.prog 23 #[.slice A0 l0.length c0, .func (.func 24) #[] #[.pointer (some ⟨g1, 0, none⟩), .pointer (some ⟨g2, 0, none⟩)]] w fun e w' => e = .returned (.int .i64 (idxP (fun x => (x.f0 == id && decide (x.f3 > now))) l0 0)) ∧ Below w.heap.size w w' := by
  have HB := Aside0.mk (Below.refl w.heap.size w)
  have HR0 := Aside0.mk hr0
  have hm : l0.length ≤ 9223372036854775807 := hr0.2.1
  have ob0 := Aside0.mk hb0
  clear hb0
  have ob1 := Aside0.mk hb1
  clear hb1
  obtain ⟨R, hR⟩ : ∃ R, idxP (fun x => (x.f0 == id && decide (x.f3 > now))) l0 0 = R := ⟨_, rfl⟩
  have HI : Aside0 (idxP (fun x => (x.f0 == id && decide (x.f3 > now))) (l0.drop 0) ((0 : Nat) : Int) = R) := ⟨hR⟩
  rw [hR]
  clear hr0 hR
  go_enter Try.func23, Try.ntmps23
  go_wp2
  go_loopw [8] (fun i wx => ∃ k : Nat, k ≤ l0.length ∧ i = .int .i64 k ∧ Aside0 (idxP (fun x => (x.f0 == id && decide (x.f3 > now))) (l0.drop k) (k : Int) = R) ∧ Aside0 (wx.heap[g1]? = some (.cells #[.int .i64 id] 3 (0, 0))) ∧ Aside0 (wx.heap[g2]? = some (.cells #[.int .i64 now] 3 (0, 0))) ∧ Aside0 (Below w.heap.size w wx)) (fun i _ => l0.length - (intOf i).toNat)
  case atStart => exact ⟨0, Nat.zero_le _, rfl, HI, ob0, ob1, HB⟩
  case round =>
    clear HI ob0 ob1 HB
    obtain ⟨k, hk, rfl, HK, ob0, ob1, HB⟩ := hrel
    have hz := HB.out.size
    by_cases hlt : k < l0.length
    · obtain ⟨ad, rfl, hc0, hc1, hc2, hc3⟩ := at_T39 (Kd.C_below HR0.out HB.out) (k : Int) (by omega) (by omega)
      rw [Int.toNat_natCast] at hc0 hc1 hc2 hc3
      have hK := HK.out
      rw [idxP_step (p := (fun x => (x.f0 == id && decide (x.f3 > now)))) (d := z39) hlt] at hK
      clear HK
      obtain ⟨x, hx⟩ : ∃ x, rd_T39 l0 (k : Int) = x := ⟨_, rfl⟩
      have hx' : l0.getD k z39 = x := by rw [← hx]; unfold rd_T39; rw [Int.toNat_natCast]
      rw [hx'] at hK
      rw [hx] at hc0 hc1 hc2 hc3
      clear hx hx'
      have HLT := Aside0.mk hlt
      clear hlt
      have hlt' : (k : Int) < (l0.length : Int) := by have := HLT.out; omega
      obtain ⟨b, hp⟩ : ∃ b, (x.f0 == id && decide (x.f3 > now)) = b := ⟨_, rfl⟩
      have HP := Aside0.mk hp
      (try dsimp only at hK)
      rw [hp] at hK
      clear hp
      go_wp2_with fail
      (go_at_call 24; (with_reducible refine (back_runs g1 g2 id now _ _ _ _ _ (eG ob0) (eG ob1)).mono ?_); rintro e_ w1 ⟨rfl, hb_⟩; have HB_ : Aside0 (Below w.heap.size w w1) := Aside0.mk (below_step (bG HB) hb_); have hzw1 := hb_.size; (try simp at hzw1); have ob0_ := Aside0.mk (box_below hb_ (eG ob0)); have ob1_ := Aside0.mk (box_below hb_ (eG ob1)); (try clear ob0 ob0c ob0f ob0l); have ob0 := ob0_; clear ob0_; obtain ⟨ob0c, ob0f, ob0l⟩ := cells_of ob0.out; (try clear ob1 ob1c ob1f ob1l); have ob1 := ob1_; clear ob1_; obtain ⟨ob1c, ob1f, ob1l⟩ := cells_of ob1.out; clear HB hb_; have HB := HB_; clear HB_)
      rw [HP.out]
      cases b
      case false =>
        rw [if_neg (by decide)] at hK
        have HK := Aside0.mk hK
        clear hK
        go_wp2
        go_roundw
        case rel => exact ⟨k + 1, by have := HLT.out; omega, by go_num, HK, ob0, ob1, HB⟩
        case measure => have := HLT.out; simp [intOf]; omega
      case true =>
        rw [if_pos rfl] at hK
        have HK := Aside0.mk hK
        clear hK
        go_wp2
        go_ret
        exact ⟨by rw [← HK.out]; rfl, HB.out⟩
    · have hK := HK.out
      rw [List.drop_of_length_le (by omega)] at hK
      have HK2 : Aside0 ((-1 : Int) = R) := ⟨hK⟩
      clear HK hK
      go_wp2
      go_ret
      exact ⟨by rw [← HK2.out]; rfl, HB.out⟩
end Go.Proofs.Ytnjgejjijboibaa.Q
end
section
/- Maps with bool elements as sets of keys; a way as a key. -/
namespace Go.Proofs.Ytnjgejjijboibaa.Q
open Go.RowKit Go.Proofs.YtnjgejjijboibaaW.PrintWords Go.Proofs.YtnjgejjijboibaaW.PrintLast Go.Proofs.YtnjgejjijboibaaW.PrintMore Go.Proofs.Ytnjgejjijboibaa.L
attribute [local go_sem] Instr.field part asAgg lt_step max2_int min2_int max_two min_two max_three min_three max_four min_four lt_0_1 lt_0_2 lt_1_2 lt_0_3 lt_1_3 lt_2_3 lt_0_4 lt_1_4 lt_2_4 lt_3_4 lt_0_5 lt_1_5 lt_2_5 lt_3_5 lt_4_5 lt_0_6 lt_1_6 lt_2_6 lt_3_6 lt_4_6 lt_5_6 lt_0_7 lt_1_7 lt_2_7 lt_3_7 lt_4_7 lt_5_7 lt_6_7 lt_0_8 lt_1_8 lt_2_8 lt_3_8 lt_4_8 lt_5_8 lt_6_8 lt_7_8
set_option linter.unusedVariables false
set_option linter.unusedSimpArgs false
open Go.Maps (Keyed)
theorem law3 : Keyed Try.prog 3 := Maps.int_keyed Try.underlying3
theorem laid26 : laidOutB Try.prog = true := by kernel_rfl
theorem row50 : (50 : TypeId) < Try.prog.types.size := of_decide_eq_true (by kernel_rfl)
theorem wide50 : (match Try.prog.underlying 50 with | some (.array _ _) | some (.struct _) => true | _ => false) = true := by kernel_rfl
theorem law50 : Keyed Try.prog 50 := Keyed.of_law (deep_law_laid laid26 (m := 3) (by omega) row50 (by kernel_rfl) wide50)
theorem zero4 (w : World) : (zeroValue 4).run Try.prog w = .ok (.bool false) w := by kernel_rfl
def wf64 (x : Int) : Prop := -9223372036854775808 ≤ x ∧ x ≤ 9223372036854775807
def wf32 (x : Int) : Prop := 0 ≤ x ∧ x < 4294967296
theorem lit64 {x : Int} (h : wf64 x) : (Lit.int .i64 x).wf = true := by unfold wf64 at h; simp [Lit.wf]; exact ⟨h.1, by omega⟩
theorem lit32 {x : Int} (h : wf32 x) : (Lit.int .u32 x).wf = true := by unfold wf32 at h; simp [Lit.wf]; exact ⟨h.1, by show x ≤ 4294967295; omega⟩
theorem key3 {x : Int} (h : wf64 x) : keyOf Try.prog 3 (.int .i64 x) = some (.int .i64 x) := Maps.keyOf_int_mk Try.underlying3 (lit64 h)
def wayK (g r p : Int) : Lit := .string (keyBytes [.int .i64 g, .int .u32 r, .int .i64 p])
theorem kt50 : Try.prog.keyType 50 = true := by kernel_rfl
theorem c50 : Try.prog.cellsOf 50 = 3 := by kernel_rfl
theorem c3 : Try.prog.cellsOf 3 = 1 := by kernel_rfl
theorem c22 : Try.prog.cellsOf 22 = 1 := by kernel_rfl
theorem key50 {g r p : Int} (hg : wf64 g) (hr : wf32 r) (hp : wf64 p) : keyOf Try.prog 50 (.agg #[.int .i64 g, .int .u32 r, .int .i64 p]) = some (wayK g r p) := by
  have h1 := lit64 hg
  have h2 := lit32 hr
  have h3 := lit64 hp
  obtain ⟨n, hn⟩ : ∃ n, Try.prog.types.size = n + 1 := ⟨Try.prog.types.size - 1, (Nat.succ_pred_eq_of_pos (Nat.lt_of_le_of_lt (Nat.zero_le _) row50)).symm⟩
  have hf : (Value.agg #[.int .i64 g, .int .u32 r, .int .i64 p]).formed Try.prog 50 = true := by simp [Value.formed, Try.underlying50, c50]
  unfold keyOf
  rw [Try.underlying50, hn]
  simp [kt50, hf, Value.cells, Program.keyLits, Try.underlying50, Try.underlying3, Try.underlying22, c50, c3, c22, h1, h2, h3, wayK, List.mapM_cons, List.mapM_nil]
theorem wayK_inj {g r p g' r' p' : Int} (hg : wf64 g) (hr : wf32 r) (hp : wf64 p) (hg' : wf64 g') (hr' : wf32 r') (hp' : wf64 p') (h : wayK g r p = wayK g' r' p') : g = g' ∧ r = r' ∧ p = p' := by
  have e := law50.inj (key50 hg hr hp) (by rw [h]; exact key50 hg' hr' hp')
  simpa using e
theorem plainElem_bool_inv {H : Type} {P : Program} {e : TypeId} (he : P.underlying e = some .bool) {v : Value} {z : DataW H × List MemPlace} (h : plainElem P e v = some z) : ∃ a, v = .bool a ∧ z = (.lit (.bool a), []) := by
  unfold plainElem at h
  rw [he] at h
  cases v <;> simp at h
  exact ⟨_, rfl, h.symm⟩
theorem wpList_lookup_bool {H : Type} {P : Program} (w : World) {ops : Array Oper} {rest : List Oper} {o : Oper} {a : Act} {Q : Exit → Act → World → Prop}
    (hg : o.guard = none) (m x : Operand) (t : TypeId) (hop : o.op = Op.lookup t m x false)
    (k e : TypeId) (K : Keyed P k) (ht : P.underlying t = some (.map k e)) (he : P.underlying e = some .bool) (hz : (zeroValue e).run P w = .ok (.bool false) w) (b n : Nat) (D : DataW H)
    (hm : a.eval m = .map (some b)) (hown : w.ownsMap P k (plainElem P e) b n D) (key : Value) (kl : Lit) (hx : a.eval x = key) (hkey : keyOf P k key = some kl) (r : Bool) (hr : D.atKey kl (.lit (.bool false)) = .lit (.bool r))
    (hK : wpList P ops Q rest (a.put o.dst (.bool r)) w) :
    wpList P ops Q (o :: rest) a w := by
  refine wpList_plain hg fun K' hK' => ?_
  obtain ⟨v, ps, hrun, hv⟩ := hown.lookup K ht hz (plainElem_bool he false) hkey
  obtain ⟨c, rfl, hc⟩ := plainElem_bool_inv he hv
  simp only [Prod.mk.injEq] at hc
  rw [hr] at hc
  have hc1 : r = c := by have := hc.1; simpa using this
  subst hc1
  unfold Oper.wp
  simp [execOp, hop, hm, hx, hrun, Result.andThen]
  exact hK' _ _ hK
/-- The set of some keys, as a map to true. -/
def setT (ks : List Lit) : DataW Unit := Maps.setOf (.lit (.bool true)) ks
theorem setT_snoc (ks : List Lit) (x : Lit) : setT (ks ++ [x]) = (setT ks).put x (.lit (.bool true)) := Maps.setOf_snoc _ _ _
theorem atKey_fold (k : Lit) (hk : WideAt.IsKeyLit k) : ∀ (ks : List Lit) (D : DataW Unit), Maps.IsMap D → (∀ x ∈ ks, WideAt.IsKeyLit x) → (ks.foldl (fun m x => m.put x (.lit (.bool true))) D).atKey k (.lit (.bool false)) = if (ks.any fun x => x.sameKey k) = true then .lit (.bool true) else D.atKey k (.lit (.bool false))
  | [], D, _, _ => by simp
  | x :: ks, D, hD, h => by
    rw [List.foldl_cons, atKey_fold k hk ks _ (hD.put x _) (fun y hy => h y (List.mem_cons_of_mem _ hy)), List.any_cons]
    cases hks : (ks.any fun x => x.sameKey k) with
    | true => simp
    | false =>
      cases hx : x.sameKey k with
      | true =>
        have e := WideAt.sameKey_eq hx
        subst e
        simp [Maps.atKey_put_same hD hk]
      | false =>
        have hne : k ≠ x := fun e => by rw [e, WideAt.sameKey_self (h x (List.mem_cons_self ..))] at hx; cases hx
        simp [Maps.atKey_put_other hne]
theorem atKey_setT (ks : List Lit) (k : Lit) (hk : WideAt.IsKeyLit k) (h : ∀ x ∈ ks, WideAt.IsKeyLit x) : (setT ks).atKey k (.lit (.bool false)) = .lit (.bool (ks.any fun x => x.sameKey k)) := by
  unfold setT Maps.setOf
  rw [atKey_fold k hk ks _ Maps.isMap_empty h]
  cases ks.any fun x => x.sameKey k
  · simp [DataW.atKey]
  · simp
def intK (x : Int) : Lit := .int .i64 x
theorem intK_key (x : Int) : WideAt.IsKeyLit (intK x) := trivial
theorem intK_same (x y : Int) : (intK x).sameKey (intK y) = (x == y) := by unfold intK; simp [Lit.sameKey]; exact Bool.eq_iff_iff.2 (by simp)
theorem any_intK (ks : List Int) (k : Int) : ((ks.map intK).any fun x => x.sameKey (intK k)) = ks.contains k := by
  induction ks with
  | nil => rfl
  | cons x ks ih => rw [List.map_cons, List.any_cons, ih, intK_same, List.contains_cons, show (x == k) = (k == x) from Bool.eq_iff_iff.2 ⟨fun h => beq_iff_eq.2 (beq_iff_eq.1 h).symm, fun h => beq_iff_eq.2 (beq_iff_eq.1 h).symm⟩]
theorem at_intK (ks : List Int) (k : Int) : (setT (ks.map intK)).atKey (intK k) (.lit (.bool false)) = .lit (.bool (ks.contains k)) := by
  rw [atKey_setT _ _ (intK_key k) (by intro x hx; obtain ⟨y, _, rfl⟩ := List.mem_map.1 hx; exact intK_key y), any_intK]
end Go.Proofs.Ytnjgejjijboibaa.Q
end
section
/- slices.Clone over flows and over questions. -/
namespace Go.Proofs.Ytnjgejjijboibaa.Q
open Go.RowKit Go.Proofs.YtnjgejjijboibaaW.PrintWords Go.Proofs.YtnjgejjijboibaaW.PrintLast Go.Proofs.YtnjgejjijboibaaW.PrintMore Go.Proofs.Ytnjgejjijboibaa.L
attribute [local go_sem] Instr.field part asAgg lt_step max2_int min2_int max_two min_two max_three min_three max_four min_four lt_0_1 lt_0_2 lt_1_2 lt_0_3 lt_1_3 lt_2_3 lt_0_4 lt_1_4 lt_2_4 lt_3_4 lt_0_5 lt_1_5 lt_2_5 lt_3_5 lt_4_5 lt_0_6 lt_1_6 lt_2_6 lt_3_6 lt_4_6 lt_5_6 lt_0_7 lt_1_7 lt_2_7 lt_3_7 lt_4_7 lt_5_7 lt_6_7 lt_0_8 lt_1_8 lt_2_8 lt_3_8 lt_4_8 lt_5_8 lt_6_8 lt_7_8
set_option linter.unusedVariables false
set_option linter.unusedSimpArgs false
def clone48.f (l : List S48) : Option (List S48) := if l.length * 40 < 140737488355328 then some l else none
set_option maxHeartbeats 1600000 in
set_option maxRecDepth 100000 in
theorem clone48.calls (A0 : Option Addr) (c0 : Nat) (l0 : List S48) (r : List S48) (w : World) (hr0 : Kd.C k48 w A0 l0.length l0) (hc0 : l0.length ≤ c0) (h : clone48.f l0 = some r) :
    Calls Try.prog 34 #[.slice A0 l0.length c0] w fun e w' => ∃ v0_ : Value, e = .returned (v0_) ∧ Kd.R k48 48 w' w.heap.size (fun _ => True) v0_ r ∧ Below w.heap.size w w' := by
  unfold clone48.f at h
  split at h
  case isFalse => cases h
  case isTrue hl =>
  injection h with h; subst h
  have HB := Aside0.mk (Below.refl w.heap.size w)
  have HR := Aside0.mk hr0
  have HC := Aside0.mk hc0
  have HL := Aside0.mk hl
  cases A0 with
  | none =>
    have h0 : l0 = [] := by
      have := hr0.2.2
      cases l0 with
      | nil => rfl
      | cons x xs => obtain ⟨ad, e, _⟩ := this (by simp); cases e
    subst h0
    clear hr0 hc0 hl
    have hnil : ∀ W, (binOp .eql 24 (.slice none 0 c0) (.slice none 0 0)).run Try.prog W = .ok (.bool true) W := fun W => Lib.run_eql_slice_nil W _ _ _ _ _ _ _ Try.underlying24
    go_enter Try.func34, Try.ntmps34
    go_wp2
    refine bodyPost_ret (v := .slice none 0 0) (by simp [results, Try.results34, go_sem]) rfl ?_
    exact ⟨_, rfl, Kd.R_nil _ _ _ _ _, HB.out⟩
  | some ad =>
    clear hr0 hc0 hl
    have hnil : ∀ W, (binOp .eql 24 (.slice (some ad) l0.length c0) (.slice none 0 0)).run Try.prog W = .ok (.bool false) W := fun W => Lib.run_eql_slice_nil W _ _ _ _ _ _ _ Try.underlying24
    go_enter Try.func34, Try.ntmps34
    go_wp2_with (first | ((with_reducible refine gate_dst (N := 5) rfl ?_); refine Kd.R_lit k48 _ 48 ?hg (N := 5) ?hd (xs := ([] : List S48)) (inner := []) (ok := fun _ => True) (okp := fun _ => True) ?hr ?hp (fun _ hk => hk) trivial (Below.refl _ _) (Nat.le_refl _) (by simp) ?_; (case hd => rfl); (case hg => rfl); (case hr => first | (go_simp; done) | (go_simp; rfl)); (case hp => exact (Reps.none _ _)); intro v1 w1 ho1 hb hg_ hnew_; clear hg_ hnew_; have HO1 := Aside0.mk ho1; have HB1 := Aside0.mk hb; clear ho1 hb) | ((with_reducible refine gate_builtin (b := .append) (xs := #[.tmp 5, .tmp 6]) rfl ?_); at_builtin; refine Kd.R_append_rows k48 (w0 := w) w.heap.size rfl (.tmp 5) (.tmp 6) 24 48 (.agg #[.int .i64 0, .int .i64 0, .int .u32 0, .int .i64 0, .int .i64 0]) 40 rfl Try.underlying24 info48 rfl (by decide) (by omega) v1 [] l0 _ _ _ (fun _ => True) (fun _ => False) rfl rfl ?aO ?aR (fun _ _ h => h) (fun _ h => h.elim) ?aF ?aB ?aS ?aL ?_; (case aR => repeat (first | exact (Kd.C_below HR.out HB1.out) | (with_reducible refine Kd.C_alloc ?_ _) | (with_reducible refine Kd.C_drewN ?_ _) | (with_reducible refine Kd.C_drew ?_))); (case aB => exact HB1.out); (case aF => exact (fun _ _ => trivial)); (case aO => exact HO1.out); (case aS => exact HB1.out.size); (case aL => have := HL.out; simp; omega); intro v2 w2 ho hb hg hat; rw [List.nil_append] at ho; have HO2 := Aside0.mk ho; have HB2 := Aside0.mk hb; clear ho hb hg hat))
    refine bodyPost_ret (v := v2) (by simp [results, Try.results34, go_sem]) rfl ?_
    exact ⟨_, rfl, HO2.out, HB2.out⟩
def clone39.f (l : List S39) : Option (List S39) := if l.length * 32 < 140737488355328 then some l else none
set_option maxHeartbeats 1600000 in
set_option maxRecDepth 100000 in
theorem clone39.calls (A0 : Option Addr) (c0 : Nat) (l0 : List S39) (r : List S39) (w : World) (hr0 : Kd.C k39 w A0 l0.length l0) (hc0 : l0.length ≤ c0) (h : clone39.f l0 = some r) :
    Calls Try.prog 26 #[.slice A0 l0.length c0] w fun e w' => ∃ v0_ : Value, e = .returned (v0_) ∧ Kd.R k39 39 w' w.heap.size (fun _ => True) v0_ r ∧ Below w.heap.size w w' := by
  unfold clone39.f at h
  split at h
  case isFalse => cases h
  case isTrue hl =>
  injection h with h; subst h
  have HB := Aside0.mk (Below.refl w.heap.size w)
  have HR := Aside0.mk hr0
  have HC := Aside0.mk hc0
  have HL := Aside0.mk hl
  cases A0 with
  | none =>
    have h0 : l0 = [] := by
      have := hr0.2.2
      cases l0 with
      | nil => rfl
      | cons x xs => obtain ⟨ad, e, _⟩ := this (by simp); cases e
    subst h0
    clear hr0 hc0 hl
    have hnil : ∀ W, (binOp .eql 25 (.slice none 0 c0) (.slice none 0 0)).run Try.prog W = .ok (.bool true) W := fun W => Lib.run_eql_slice_nil W _ _ _ _ _ _ _ Try.underlying25
    go_enter Try.func26, Try.ntmps26
    go_wp2
    refine bodyPost_ret (v := .slice none 0 0) (by simp [results, Try.results26, go_sem]) rfl ?_
    exact ⟨_, rfl, Kd.R_nil _ _ _ _ _, HB.out⟩
  | some ad =>
    clear hr0 hc0 hl
    have hnil : ∀ W, (binOp .eql 25 (.slice (some ad) l0.length c0) (.slice none 0 0)).run Try.prog W = .ok (.bool false) W := fun W => Lib.run_eql_slice_nil W _ _ _ _ _ _ _ Try.underlying25
    go_enter Try.func26, Try.ntmps26
    go_wp2_with (first | ((with_reducible refine gate_dst (N := 5) rfl ?_); refine Kd.R_lit k39 _ 39 ?hg (N := 5) ?hd (xs := ([] : List S39)) (inner := []) (ok := fun _ => True) (okp := fun _ => True) ?hr ?hp (fun _ hk => hk) trivial (Below.refl _ _) (Nat.le_refl _) (by simp) ?_; (case hd => rfl); (case hg => rfl); (case hr => first | (go_simp; done) | (go_simp; rfl)); (case hp => exact (Reps.none _ _)); intro v1 w1 ho1 hb hg_ hnew_; clear hg_ hnew_; have HO1 := Aside0.mk ho1; have HB1 := Aside0.mk hb; clear ho1 hb) | ((with_reducible refine gate_builtin (b := .append) (xs := #[.tmp 5, .tmp 6]) rfl ?_); at_builtin; refine Kd.R_append_rows k39 (w0 := w) w.heap.size rfl (.tmp 5) (.tmp 6) 25 39 (.agg #[.int .i64 0, .int .i64 0, .int .i64 0, .int .i64 0]) 32 rfl Try.underlying25 info39 rfl (by decide) (by omega) v1 [] l0 _ _ _ (fun _ => True) (fun _ => False) rfl rfl ?aO ?aR (fun _ _ h => h) (fun _ h => h.elim) ?aF ?aB ?aS ?aL ?_; (case aR => repeat (first | exact (Kd.C_below HR.out HB1.out) | (with_reducible refine Kd.C_alloc ?_ _) | (with_reducible refine Kd.C_drewN ?_ _) | (with_reducible refine Kd.C_drew ?_))); (case aB => exact HB1.out); (case aF => exact (fun _ _ => trivial)); (case aO => exact HO1.out); (case aS => exact HB1.out.size); (case aL => have := HL.out; simp; omega); intro v2 w2 ho hb hg hat; rw [List.nil_append] at ho; have HO2 := Aside0.mk ho; have HB2 := Aside0.mk hb; clear ho hb hg hat))
    refine bodyPost_ret (v := v2) (by simp [results, Try.results26, go_sem]) rfl ?_
    exact ⟨_, rfl, HO2.out, HB2.out⟩
end Go.Proofs.Ytnjgejjijboibaa.Q
end
