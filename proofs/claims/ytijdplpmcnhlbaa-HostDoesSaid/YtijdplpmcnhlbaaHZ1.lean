import Derived.Below
import Derived.WalkKit
import Derived.Deep.Draws
import Derived.Deep.RegionHeld3
import Derived.Test.YtijdplpmcnhlbaaProg
import Derived.Deep.AppendLies
import Derived.Maps.AppendAt
import Derived.OwnWalk
import Derived.Laws.BytesArg
import Derived.Laws.MakeOwn
import Derived.Laws.OwnMore
import Derived.Deep.OwnRows
import Derived.Tactics
import Derived.Lib.ConvBytes
import Derived.Laws.Slices
import Derived.KernelRfl
import Derived.RowKit3
import Derived.Deep.LoopGhost
import Derived.Deep.QuietTactic
import Derived.BigQuiet
import Derived.WideLaws
import Derived.Deep.DeepCutAuto
import Derived.Deep.CutBlock
import Derived.Laws.Rows
import Derived.Lib.AppendStr
import Derived.ArgAppend
import Derived.Laws.IdiomCopy
import Derived.OrdersHeld
import Derived.Laws.BitsLemmas
import Derived.RowKit
import Derived.Test.YtijdplpmcnhlbaaWWords
import Derived.Test.YtijdplpmcnhlbaaWLast
import Derived.Test.YtijdplpmcnhlbaaWTab
import Derived.Test.YtijdplpmcnhlbaaWFour
import Derived.Test.YtijdplpmcnhlbaaWQPut
import Derived.Test.YtijdplpmcnhlbaaWApart
import Derived.Test.YtijdplpmcnhlbaaWArr
import Derived.Test.YtijdplpmcnhlbaaWZeros
import Derived.Test.YtijdplpmcnhlbaaWFoot
import Derived.Test.YtijdplpmcnhlbaaWKept
import Derived.Test.YtijdplpmcnhlbaaWShare
import Derived.Test.YtijdplpmcnhlbaaWN
import Derived.Test.YtijdplpmcnhlbaaWFootNe
import Derived.Test.YtijdplpmcnhlbaaWAt
import Derived.Test.YtijdplpmcnhlbaaWEqStruct
import Derived.Test.YtijdplpmcnhlbaaWRepsOne
import Derived.Test.YtijdplpmcnhlbaaWInv
import Derived.Test.YtijdplpmcnhlbaaWInvWords
import Derived.Test.YtijdplpmcnhlbaaWGuard
import Derived.Test.YtijdplpmcnhlbaaWNEv
import Derived.Test.YtijdplpmcnhlbaaWMore
import Derived.ProofKit
import Derived.Deep.Slices
import Derived.ChangeSame
import Derived.RegionTactic
import Derived.Lib.SliceRun
import Derived.BigRegion
import Derived.Deep.MidRow
import Derived.DataReads
section
/- Small facts on worlds behind a call that makes memory and writes nothing old. -/
namespace Go.Proofs.Ytijdplpmcnhlbaa.L
open Go.RowKit
theorem bcell {W w1 : World} (hb : Below W.heap.size W w1) : (∀ b o, b < W.heap.size → w1.cell? ⟨b, o, none⟩ = W.cell? ⟨b, o, none⟩) ∧ (∀ b o, b < W.heap.size → w1.frozen? ⟨b, o, none⟩ = W.frozen? ⟨b, o, none⟩) :=
  ⟨fun b o h => hb.cell (p := ⟨b, o, none⟩) h, fun b o h => hb.frozen (p := ⟨b, o, none⟩) h⟩
theorem bsize {W w1 : World} (hb : Below W.heap.size W w1) : W.heap.size ≤ w1.heap.size := hb.size
theorem bthen {w W w1 : World} {B : Nat} (h : Below B w W) (hB : B ≤ W.heap.size) (k : Below W.heap.size W w1) : Below B w w1 :=
  h.trans ⟨k.os, k.tape, k.output, k.size, fun i hi => k.block i (Nat.lt_of_lt_of_le hi hB)⟩
theorem ret3 {P : Program} {fn : Func} {t u v : Tmp} (h : fn.results = #[.tmp t, .tmp u, .tmp v]) (tmps : Array Value) (w : World) :
    (results fn tmps).run P w = .ok (.tuple #[tmps.getD t undef, tmps.getD u undef, tmps.getD v undef]) w := by
  simp [results, h]
/-! ### boxes: blocks of the call's own, carried over calls -/
theorem cells_of {w : World} {b : Nat} {cs : Array Value} {t : TypeId} (h : w.heap[b]? = some (.cells cs t (0, 0))) : (∀ i, w.cell? ⟨b, i, none⟩ = cs[i]?) ∧ (∀ i, w.frozen? ⟨b, i, none⟩ = false) ∧ b < w.heap.size :=
  ⟨fun i => by simp [World.cell?, h], fun i => by simp [World.frozen?, h], (Array.getElem?_eq_some_iff.1 h).1⟩
theorem lt_step {a b : Nat} (h : a < b) : a < b + 1 := Nat.lt_succ_of_lt h
theorem box_below {W w1 : World} {b : Nat} {o : Obj} (hb : Below W.heap.size W w1) (h : W.heap[b]? = some o) : w1.heap[b]? = some o :=
  (hb.block b (Array.getElem?_eq_some_iff.1 h).1).trans h
theorem ext_alloc {W : World} {b : Nat} {o : Obj} (h : W.heap[b]? = some o) (y : Obj) : (W.alloc y).heap[b]? = some o := by
  have hl : b < W.heap.size := (Array.getElem?_eq_some_iff.1 h).1
  simp only [World.alloc, Array.getElem?_push]
  rw [if_neg (by omega)]
  exact h
theorem ext_drew {W : World} {b : Nat} {o : Obj} (h : W.heap[b]? = some o) : W.drew.heap[b]? = some o := h
theorem ext_drewN {W : World} {b : Nat} {o : Obj} (h : W.heap[b]? = some o) (n : Nat) : (W.drewN n).heap[b]? = some o := h
theorem nb_1 (W : World) (y : Obj) : (W.alloc y).heap[W.heap.size]? = some y := by simp only [World.alloc, Array.getElem?_push]; simp
theorem nb_2 (W : World) (x y : Obj) : ((W.alloc x).alloc y).heap[W.heap.size + 1]? = some y := by simp only [World.alloc, Array.getElem?_push, Array.size_push]; simp
theorem nb_3 (W : World) (x y z : Obj) : (((W.alloc x).alloc y).alloc z).heap[W.heap.size + 1 + 1]? = some z := by simp only [World.alloc, Array.getElem?_push, Array.size_push]; simp
theorem nb_4 (W : World) (x y z u : Obj) : ((((W.alloc x).alloc y).alloc z).alloc u).heap[W.heap.size + 1 + 1 + 1]? = some u := by simp only [World.alloc, Array.getElem?_push, Array.size_push]; simp
theorem nbk (W : World) (y : Obj) (n : Nat) (h : W.heap.size = n) : (W.alloc y).heap[n]? = some y := by subst h; exact nb_1 W y
theorem setCell_drewN (w : World) (n : Nat) (a : Addr) (v : Value) : (w.drewN n).setCell a v = (w.setCell a v).drewN n := rfl
theorem letter1 (w : World) (o : Obj) : ∃ w1, w.alloc o = w1 ∧ w1.heap[w.heap.size]? = some o ∧ Below w.heap.size w w1 ∧ w1.heap.size = w.heap.size + 1 := ⟨_, rfl, nb_1 w o, Below.alloc (Below.refl _ _) (Nat.le_refl _) _, by simp⟩
theorem letter2 (w : World) (o p : Obj) : ∃ w1, (w.alloc o).alloc p = w1 ∧ w1.heap[w.heap.size]? = some o ∧ w1.heap[w.heap.size + 1]? = some p ∧ Below w.heap.size w w1 ∧ w1.heap.size = w.heap.size + 1 + 1 := ⟨_, rfl, ext_alloc (nb_1 w o) p, nb_2 w o p, Below.alloc (Below.alloc (Below.refl _ _) (Nat.le_refl _) _) (by simp) _, by simp⟩
theorem cell_below {W w1 : World} {b i : Nat} {v : Value} (h : W.cell? ⟨b, i, none⟩ = some v) (hb : Below W.heap.size W w1) : w1.cell? ⟨b, i, none⟩ = some v := by
  have hl : b < W.heap.size := by
    rcases Nat.lt_or_ge b W.heap.size with h1 | h1
    · exact h1
    · simp [World.cell?, Array.getElem?_eq_none h1] at h
  rw [hb.cell (p := ⟨b, i, none⟩) hl]; exact h
theorem heldS {W w1 : World} (hb : Below W.heap.size W w1) : (∀ b o, b < W.heap.size → w1.cell? ⟨b, o, none⟩ = W.cell? ⟨b, o, none⟩) ∧ Below W.heap.size W w1 := ⟨fun b o h => hb.cell (p := ⟨b, o, none⟩) h, hb⟩
theorem lt_0_1 (n : Nat) : n < n + 1 := by omega
theorem lt_0_2 (n : Nat) : n < n + 1 + 1 := by omega
theorem lt_1_2 (n : Nat) : n + 1 < n + 1 + 1 := by omega
theorem lt_0_3 (n : Nat) : n < n + 1 + 1 + 1 := by omega
theorem lt_1_3 (n : Nat) : n + 1 < n + 1 + 1 + 1 := by omega
theorem lt_2_3 (n : Nat) : n + 1 + 1 < n + 1 + 1 + 1 := by omega
theorem lt_0_4 (n : Nat) : n < n + 1 + 1 + 1 + 1 := by omega
theorem lt_1_4 (n : Nat) : n + 1 < n + 1 + 1 + 1 + 1 := by omega
theorem lt_2_4 (n : Nat) : n + 1 + 1 < n + 1 + 1 + 1 + 1 := by omega
theorem lt_3_4 (n : Nat) : n + 1 + 1 + 1 < n + 1 + 1 + 1 + 1 := by omega
theorem lt_0_5 (n : Nat) : n < n + 1 + 1 + 1 + 1 + 1 := by omega
theorem lt_1_5 (n : Nat) : n + 1 < n + 1 + 1 + 1 + 1 + 1 := by omega
theorem lt_2_5 (n : Nat) : n + 1 + 1 < n + 1 + 1 + 1 + 1 + 1 := by omega
theorem lt_3_5 (n : Nat) : n + 1 + 1 + 1 < n + 1 + 1 + 1 + 1 + 1 := by omega
theorem lt_4_5 (n : Nat) : n + 1 + 1 + 1 + 1 < n + 1 + 1 + 1 + 1 + 1 := by omega
theorem lt_0_6 (n : Nat) : n < n + 1 + 1 + 1 + 1 + 1 + 1 := by omega
theorem lt_1_6 (n : Nat) : n + 1 < n + 1 + 1 + 1 + 1 + 1 + 1 := by omega
theorem lt_2_6 (n : Nat) : n + 1 + 1 < n + 1 + 1 + 1 + 1 + 1 + 1 := by omega
theorem lt_3_6 (n : Nat) : n + 1 + 1 + 1 < n + 1 + 1 + 1 + 1 + 1 + 1 := by omega
theorem lt_4_6 (n : Nat) : n + 1 + 1 + 1 + 1 < n + 1 + 1 + 1 + 1 + 1 + 1 := by omega
theorem lt_5_6 (n : Nat) : n + 1 + 1 + 1 + 1 + 1 < n + 1 + 1 + 1 + 1 + 1 + 1 := by omega
theorem lt_0_7 (n : Nat) : n < n + 1 + 1 + 1 + 1 + 1 + 1 + 1 := by omega
theorem lt_1_7 (n : Nat) : n + 1 < n + 1 + 1 + 1 + 1 + 1 + 1 + 1 := by omega
theorem lt_2_7 (n : Nat) : n + 1 + 1 < n + 1 + 1 + 1 + 1 + 1 + 1 + 1 := by omega
theorem lt_3_7 (n : Nat) : n + 1 + 1 + 1 < n + 1 + 1 + 1 + 1 + 1 + 1 + 1 := by omega
theorem lt_4_7 (n : Nat) : n + 1 + 1 + 1 + 1 < n + 1 + 1 + 1 + 1 + 1 + 1 + 1 := by omega
theorem lt_5_7 (n : Nat) : n + 1 + 1 + 1 + 1 + 1 < n + 1 + 1 + 1 + 1 + 1 + 1 + 1 := by omega
theorem lt_6_7 (n : Nat) : n + 1 + 1 + 1 + 1 + 1 + 1 < n + 1 + 1 + 1 + 1 + 1 + 1 + 1 := by omega
theorem lt_0_8 (n : Nat) : n < n + 1 + 1 + 1 + 1 + 1 + 1 + 1 + 1 := by omega
theorem lt_1_8 (n : Nat) : n + 1 < n + 1 + 1 + 1 + 1 + 1 + 1 + 1 + 1 := by omega
theorem lt_2_8 (n : Nat) : n + 1 + 1 < n + 1 + 1 + 1 + 1 + 1 + 1 + 1 + 1 := by omega
theorem lt_3_8 (n : Nat) : n + 1 + 1 + 1 < n + 1 + 1 + 1 + 1 + 1 + 1 + 1 + 1 := by omega
theorem lt_4_8 (n : Nat) : n + 1 + 1 + 1 + 1 < n + 1 + 1 + 1 + 1 + 1 + 1 + 1 + 1 := by omega
theorem lt_5_8 (n : Nat) : n + 1 + 1 + 1 + 1 + 1 < n + 1 + 1 + 1 + 1 + 1 + 1 + 1 + 1 := by omega
theorem lt_6_8 (n : Nat) : n + 1 + 1 + 1 + 1 + 1 + 1 < n + 1 + 1 + 1 + 1 + 1 + 1 + 1 + 1 := by omega
theorem lt_7_8 (n : Nat) : n + 1 + 1 + 1 + 1 + 1 + 1 + 1 < n + 1 + 1 + 1 + 1 + 1 + 1 + 1 + 1 := by omega
end Go.Proofs.Ytijdplpmcnhlbaa.L
end
section
-- Ytijdplpmcnhlbaa: written by a program for this claim (several laws of one seat at once)
namespace Go.Proofs.Ytijdplpmcnhlbaa.Q
open Go.RowKit Go.Proofs.YtijdplpmcnhlbaaW.PrintWords Go.Proofs.YtijdplpmcnhlbaaW.PrintLast Go.Proofs.YtijdplpmcnhlbaaW.PrintMore
attribute [local go_sem] max2_int min2_int max_two min_two max_three min_three max_four min_four   -- for this text's walks alone
set_option linter.unusedVariables false
set_option linter.unusedSimpArgs false



def errW : Option Int → Value
  | none => .nilIface
  | some c => .iface 0 (.int .i64 c)
theorem errW_none : errW none = .nilIface := rfl
theorem errW_some (c : Int) : errW (some c) = .iface 0 (.int .i64 c) := rfl

theorem info5 : (Try.prog.info? 5).map (fun i => (i.zero, i.size, i.bytes)) = some (some (.int .u8 0), 1, 1) := by kernel_rfl
theorem info34 : (Try.prog.info? 34).map (fun i => (i.zero, i.size, i.bytes)) = some (some (.agg #[(.int .i64 0), (.int .i64 0), (.int .u32 0), (.int .i64 0), (.bool false), (.bool false)]), 6, 40) := by kernel_rfl
-- the values' own types
/-! #### struct type 34 -/
structure S34 where
  f0 : Int
  f1 : Int
  f2 : Int
  f3 : Int
  f4 : Bool
  f5 : Bool
def z34 : S34 := ⟨(0 : Int), (0 : Int), (0 : Int), (0 : Int), false, false⟩
def k34 : Kd S34 := Kd.iso (Kd.pair (Kd.int .i64) (Kd.pair (Kd.int .i64) (Kd.pair (Kd.int .u32) (Kd.pair (Kd.int .i64) (Kd.pair Kd.bool Kd.bool))))) (fun x : S34 => (x.f0, x.f1, x.f2, x.f3, x.f4, x.f5))
theorem k34_open {w : World} {x : S34} {cs : List Value} (h : k34.K w x cs) : cs = [.int .i64 x.f0, .int .i64 x.f1, .int .u32 x.f2, .int .i64 x.f3, .bool x.f4, .bool x.f5] := by
  obtain ⟨_, _, rfl, rfl, ⟨_, _, rfl, rfl, ⟨_, _, rfl, rfl, ⟨_, _, rfl, rfl, ⟨_, _, rfl, rfl, rfl⟩⟩⟩⟩⟩ := h
  exact rfl
theorem k34_openM {w : World} {base : Nat} {ok : Nat → Prop} {x : S34} {cs : List Value} (h : k34.M w base ok x cs) : cs = [.int .i64 x.f0, .int .i64 x.f1, .int .u32 x.f2, .int .i64 x.f3, .bool x.f4, .bool x.f5] := by
  obtain ⟨_, _, rfl, rfl, ⟨_, _, rfl, rfl, ⟨_, _, rfl, rfl, ⟨_, _, rfl, rfl, ⟨_, _, rfl, rfl, rfl⟩⟩⟩⟩⟩ := h
  exact rfl
theorem k34_mk (w : World) (x : S34)  : k34.K w x [.int .i64 x.f0, .int .i64 x.f1, .int .u32 x.f2, .int .i64 x.f3, .bool x.f4, .bool x.f5] := ⟨[.int .i64 x.f0], [.int .i64 x.f1, .int .u32 x.f2, .int .i64 x.f3, .bool x.f4, .bool x.f5], rfl, rfl, ⟨[.int .i64 x.f1], [.int .u32 x.f2, .int .i64 x.f3, .bool x.f4, .bool x.f5], rfl, rfl, ⟨[.int .u32 x.f2], [.int .i64 x.f3, .bool x.f4, .bool x.f5], rfl, rfl, ⟨[.int .i64 x.f3], [.bool x.f4, .bool x.f5], rfl, rfl, ⟨[.bool x.f4], [.bool x.f5], rfl, rfl, rfl⟩⟩⟩⟩⟩
theorem k34_mkM (w : World) (base : Nat) (ok : Nat → Prop) (x : S34)  : k34.M w base ok x [.int .i64 x.f0, .int .i64 x.f1, .int .u32 x.f2, .int .i64 x.f3, .bool x.f4, .bool x.f5] := ⟨[.int .i64 x.f0], [.int .i64 x.f1, .int .u32 x.f2, .int .i64 x.f3, .bool x.f4, .bool x.f5], rfl, rfl, ⟨[.int .i64 x.f1], [.int .u32 x.f2, .int .i64 x.f3, .bool x.f4, .bool x.f5], rfl, rfl, ⟨[.int .u32 x.f2], [.int .i64 x.f3, .bool x.f4, .bool x.f5], rfl, rfl, ⟨[.int .i64 x.f3], [.bool x.f4, .bool x.f5], rfl, rfl, ⟨[.bool x.f4], [.bool x.f5], rfl, rfl, rfl⟩⟩⟩⟩⟩
theorem k34_mkF (W : World) (ok : Nat → Prop) (x : S34) : Kd.FK k34 W ok x [.int .i64 x.f0, .int .i64 x.f1, .int .u32 x.f2, .int .i64 x.f3, .bool x.f4, .bool x.f5] := fun W2 _ => k34_mk W2 x
def rd_T34 (xs : List S34) (i : Int) : S34 := xs.getD i.toNat z34
theorem at_T34 {w : World} {A : Option Addr} {n : Nat} {xs : List S34} (h : Kd.C k34 w A n xs) (i : Int) (h0 : 0 ≤ i) (h1 : i < n) : ∃ ad , A = some ad ∧ w.cell? (ad.add (i.toNat * 6)) = some (.int .i64 (rd_T34 xs i).f0) ∧ w.cell? ⟨(ad.add (i.toNat * 6)).block, (ad.add (i.toNat * 6)).off + 1, none⟩ = some (.int .i64 (rd_T34 xs i).f1) ∧ w.cell? ⟨(ad.add (i.toNat * 6)).block, (ad.add (i.toNat * 6)).off + 2, none⟩ = some (.int .u32 (rd_T34 xs i).f2) ∧ w.cell? ⟨(ad.add (i.toNat * 6)).block, (ad.add (i.toNat * 6)).off + 3, none⟩ = some (.int .i64 (rd_T34 xs i).f3) ∧ w.cell? ⟨(ad.add (i.toNat * 6)).block, (ad.add (i.toNat * 6)).off + 4, none⟩ = some (.bool (rd_T34 xs i).f4) ∧ w.cell? ⟨(ad.add (i.toNat * 6)).block, (ad.add (i.toNat * 6)).off + 5, none⟩ = some (.bool (rd_T34 xs i).f5) := by
  obtain ⟨ad, c, e, _, hK, hc0⟩ := Kd.C_get h z34 i h0 h1
  have hc : ∀ j u, c[j]? = some u → w.cell? (ad.add (i.toNat * 6 + j)) = some u := hc0
  obtain rfl := k34_open hK
  exact ⟨ad, e, hc 0 _ rfl, by rw [← add_field _ _ 1 (by omega)]; exact hc 1 _ rfl, by rw [← add_field _ _ 2 (by omega)]; exact hc 2 _ rfl, by rw [← add_field _ _ 3 (by omega)]; exact hc 3 _ rfl, by rw [← add_field _ _ 4 (by omega)]; exact hc 4 _ rfl, by rw [← add_field _ _ 5 (by omega)]; exact hc 5 _ rfl⟩

def rd_L4 (xs : List (List S34)) (i : Int) : (List S34) := xs.getD i.toNat ([] : List S34)
theorem at_L4 {w : World} {A : Option Addr} {n : Nat} {xs : List (List S34)} (h : Kd.C (Kd.slice 34 k34) w A n xs) (i : Int) (h0 : 0 ≤ i) (h1 : i < n) : ∃ ad A0 c0, A = some ad ∧ w.cell? (ad.add i.toNat) = some (.slice A0 (rd_L4 xs i).length c0) ∧ (rd_L4 xs i).length ≤ c0 ∧ k34.C w A0 (rd_L4 xs i).length (rd_L4 xs i) := by
  obtain ⟨ad, c, e, _, hK, hc0⟩ := Kd.C_get h ([] : List S34) i h0 h1
  have hc : ∀ j u, c[j]? = some u → w.cell? (ad.add (i.toNat * 1 + j)) = some u := hc0
  obtain ⟨A0, c0, rfl, l0, g0⟩ := hK
  exact ⟨ad, A0, c0, e, by have hq := hc 0 _ rfl; rwa [Nat.mul_one, Nat.add_zero] at hq, l0, g0⟩

def rd_L6 (xs : List (List Int)) (i : Int) : (List Int) := xs.getD i.toNat ([] : List Int)
theorem at_L6 {w : World} {A : Option Addr} {n : Nat} {xs : List (List Int)} (h : Kd.C (Kd.slice 5 (Kd.int .u8)) w A n xs) (i : Int) (h0 : 0 ≤ i) (h1 : i < n) : ∃ ad A0 c0, A = some ad ∧ w.cell? (ad.add i.toNat) = some (.slice A0 (rd_L6 xs i).length c0) ∧ (rd_L6 xs i).length ≤ c0 ∧ (Kd.int .u8).C w A0 (rd_L6 xs i).length (rd_L6 xs i) := by
  obtain ⟨ad, c, e, _, hK, hc0⟩ := Kd.C_get h ([] : List Int) i h0 h1
  have hc : ∀ j u, c[j]? = some u → w.cell? (ad.add (i.toNat * 1 + j)) = some u := hc0
  obtain ⟨A0, c0, rfl, l0, g0⟩ := hK
  exact ⟨ad, A0, c0, e, by have hq := hc 0 _ rfl; rwa [Nat.mul_one, Nat.add_zero] at hq, l0, g0⟩

/-! #### struct type 25 -/
structure S25 where
  f0 : Int
  f1 : Int
  f2 : (List Int)
  f3 : Int
def z25 : S25 := ⟨(0 : Int), (0 : Int), ([] : List Int), (0 : Int)⟩
def k25 : Kd S25 := Kd.iso (Kd.pair (Kd.int .i64) (Kd.pair (Kd.int .i64) (Kd.pair (Kd.slice 5 (Kd.int .u8)) (Kd.int .i64)))) (fun x : S25 => (x.f0, x.f1, x.f2, x.f3))
theorem k25_open {w : World} {x : S25} {cs : List Value} (h : k25.K w x cs) : ∃ A2 c2, cs = [.int .i64 x.f0, .int .i64 x.f1, .slice A2 x.f2.length c2, .int .i64 x.f3] ∧ x.f2.length ≤ c2 ∧ (Kd.int .u8).C w A2 x.f2.length x.f2 := by
  obtain ⟨_, _, rfl, rfl, ⟨_, _, rfl, rfl, ⟨_, _, rfl, ⟨A2, c2, rfl, l2, g2⟩, rfl⟩⟩⟩ := h
  exact ⟨A2, c2, rfl, l2, g2⟩
theorem k25_openM {w : World} {base : Nat} {ok : Nat → Prop} {x : S25} {cs : List Value} (h : k25.M w base ok x cs) : ∃ v2, cs = [.int .i64 x.f0, .int .i64 x.f1, v2, .int .i64 x.f3] ∧ (Kd.int .u8).R 5 w base ok v2 x.f2 := by
  obtain ⟨_, _, rfl, rfl, ⟨_, _, rfl, rfl, ⟨_, _, rfl, ⟨v2, rfl, g2⟩, rfl⟩⟩⟩ := h
  exact ⟨v2, rfl, g2⟩
theorem k25_mk (w : World) (x : S25) {A2 : Option Addr} {c2 : Nat} (l2 : x.f2.length ≤ c2) (g2 : (Kd.int .u8).C w A2 x.f2.length x.f2) : k25.K w x [.int .i64 x.f0, .int .i64 x.f1, .slice A2 x.f2.length c2, .int .i64 x.f3] := ⟨[.int .i64 x.f0], [.int .i64 x.f1, .slice A2 x.f2.length c2, .int .i64 x.f3], rfl, rfl, ⟨[.int .i64 x.f1], [.slice A2 x.f2.length c2, .int .i64 x.f3], rfl, rfl, ⟨[.slice A2 x.f2.length c2], [.int .i64 x.f3], rfl, ⟨A2, c2, rfl, l2, g2⟩, rfl⟩⟩⟩
theorem k25_mkM (w : World) (base : Nat) (ok : Nat → Prop) (x : S25) {v2 : Value} (g2 : (Kd.int .u8).R 5 w base ok v2 x.f2) : k25.M w base ok x [.int .i64 x.f0, .int .i64 x.f1, v2, .int .i64 x.f3] := ⟨[.int .i64 x.f0], [.int .i64 x.f1, v2, .int .i64 x.f3], rfl, rfl, ⟨[.int .i64 x.f1], [v2, .int .i64 x.f3], rfl, rfl, ⟨[v2], [.int .i64 x.f3], rfl, ⟨v2, rfl, g2⟩, rfl⟩⟩⟩
theorem k25_openF {W : World} {ok : Nat → Prop} {x : S25} {cs : List Value} (h : Kd.FK k25 W ok x cs) : ∃ A2 c2, cs = [.int .i64 x.f0, .int .i64 x.f1, .slice A2 x.f2.length c2, .int .i64 x.f3] ∧ x.f2.length ≤ c2 ∧ Kd.F (Kd.int .u8) W ok A2 x.f2.length x.f2 := by
  obtain ⟨A2, c2, rfl, l2, _⟩ := k25_open (Kd.FK_now h)
  exact ⟨A2, c2, rfl, l2, (fun W' hW => by obtain ⟨A2_, c2_, he, l2_, g2_⟩ := k25_open (h W' hW); injection (Option.some.inj (show some (Value.slice A2 x.f2.length c2) = some (Value.slice A2_ x.f2.length c2_) from congrArg (fun l => l[2]?) he)) with ha_ _ _; rw [ha_]; exact g2_)⟩
theorem k25_mkF (W : World) (ok : Nat → Prop) (x : S25) {A2 : Option Addr} {c2 : Nat} (l2 : x.f2.length ≤ c2) (g2 : Kd.F (Kd.int .u8) W ok A2 x.f2.length x.f2) : Kd.FK k25 W ok x [.int .i64 x.f0, .int .i64 x.f1, .slice A2 x.f2.length c2, .int .i64 x.f3] := fun W2 hW => k25_mk W2 x l2 (g2 W2 hW)
def rd_T25 (xs : List S25) (i : Int) : S25 := xs.getD i.toNat z25
theorem at_T25 {w : World} {A : Option Addr} {n : Nat} {xs : List S25} (h : Kd.C k25 w A n xs) (i : Int) (h0 : 0 ≤ i) (h1 : i < n) : ∃ ad A2 c2, A = some ad ∧ w.cell? (ad.add (i.toNat * 4)) = some (.int .i64 (rd_T25 xs i).f0) ∧ w.cell? ⟨(ad.add (i.toNat * 4)).block, (ad.add (i.toNat * 4)).off + 1, none⟩ = some (.int .i64 (rd_T25 xs i).f1) ∧ w.cell? ⟨(ad.add (i.toNat * 4)).block, (ad.add (i.toNat * 4)).off + 2, none⟩ = some (.slice A2 (rd_T25 xs i).f2.length c2) ∧ w.cell? ⟨(ad.add (i.toNat * 4)).block, (ad.add (i.toNat * 4)).off + 3, none⟩ = some (.int .i64 (rd_T25 xs i).f3) ∧ (rd_T25 xs i).f2.length ≤ c2 ∧ (Kd.int .u8).C w A2 (rd_T25 xs i).f2.length (rd_T25 xs i).f2 := by
  obtain ⟨ad, c, e, _, hK, hc0⟩ := Kd.C_get h z25 i h0 h1
  have hc : ∀ j u, c[j]? = some u → w.cell? (ad.add (i.toNat * 4 + j)) = some u := hc0
  obtain ⟨A2, c2, rfl, l2, g2⟩ := k25_open hK
  exact ⟨ad, A2, c2, e, hc 0 _ rfl, by rw [← add_field _ _ 1 (by omega)]; exact hc 1 _ rfl, by rw [← add_field _ _ 2 (by omega)]; exact hc 2 _ rfl, by rw [← add_field _ _ 3 (by omega)]; exact hc 3 _ rfl, l2, g2⟩

end Go.Proofs.Ytijdplpmcnhlbaa.Q
end
section
/- Arguments that lie in memory, opened: a row of whole numbers, a row of elements of whatever kind, as lists. -/
namespace Go.Proofs.Ytijdplpmcnhlbaa.L
open Go.RowKit Go.Proofs.YtijdplpmcnhlbaaW.PrintWords Go.Proofs.YtijdplpmcnhlbaaW.PrintLast Go.Proofs.YtijdplpmcnhlbaaW.PrintMore Go.ChangeShapes Go.WideShapes Go.Deep
section
variable {H : Type} {enc : TypeId × Value → H} {P : Program} {w : World} {base : Nat} {spare : Nat → Bool} {held : Bool} {n : Nat} {t e : TypeId} {c : Value} {x : DataW H × List MemPlace}
theorem leaf_int {k : IntKind} (ht : P.underlying t = some (.int k)) (h : DataW.trod enc P w base spare held n t [c] = some x) : ∃ a, c = .int k a ∧ (Lit.int k a).wf = true := by
  obtain ⟨a, he, _, hw⟩ := DataW.trod_int ht h
  exact ⟨a, by injection he, hw⟩
theorem leaf_bool (ht : P.underlying t = some .bool) (h : DataW.trod enc P w base spare held n t [c] = some x) : ∃ b, c = .bool b := by
  obtain ⟨b, he, _⟩ := DataW.trod_bool ht h
  exact ⟨b, by injection he⟩
theorem leaf_rows {α : Type} {d : Kd α} (Q : α → Prop) (ht : P.underlying t = some (.slice e)) (hsz : P.cellsOf e = d.sz)
    (hel : ∀ (n : Nat) (cs : List Value) (y : DataW H × List MemPlace), cs.length = P.cellsOf e → DataW.trod enc P w base spare held n e cs = some y → ∃ s, d.K w s cs ∧ Q s)
    (h : DataW.trod enc P w base spare held n t [c] = some x) : ∃ (A : Option Addr) (cap : Nat) (l : List α), c = .slice A l.length cap ∧ d.C w A l.length l ∧ l.length ≤ cap ∧ l.length ≤ maxLen ∧ ∀ s ∈ l, Q s := by
  rcases open_slice ht h with ⟨hcs, _⟩ | ⟨a, len, cap, m, n', D, Pl, hcs, _, hl, hm, hmm, hx, hi⟩
  · injection hcs with hc
    exact ⟨none, 0, [], hc, ⟨rfl, Nat.zero_le _, fun hn => absurd hn (Nat.lt_irrefl 0)⟩, Nat.le_refl _, Nat.zero_le _, fun s hs => by cases hs⟩
  · have hc : c = .slice (some a) len cap := by injection hcs
    have hlm : len ≤ m := by rw [hmm]; split <;> omega
    have key : ∀ i, i < len → ∃ s cs, cs.length = d.sz ∧ d.K w s cs ∧ Q s ∧ ∀ j u, cs[j]? = some u → w.cell? (a.add (i * d.sz + j)) = some u := by
      intro i hil
      obtain ⟨cs', hcells, htr⟩ := hi i (by omega)
      rw [hsz] at hcells
      obtain ⟨_, hcl, hat⟩ := World.cells?_some hcells
      obtain ⟨s, hk, hq⟩ := hel n' cs' _ (by rw [hsz]; exact hcl) htr
      refine ⟨s, cs', hcl, hk, hq, fun j u hu => ?_⟩
      have hj : j < cs'.length := (List.getElem?_eq_some_iff.1 hu).1
      have := hat j (by omega)
      rw [Go.Deep.add_add] at this
      rw [this]; exact hu
    have ex : ∃ l : List α, l.length = len ∧ ∀ i s, l[i]? = some s → Q s ∧ ∃ cs, cs.length = d.sz ∧ d.K w s cs ∧ ∀ j u, cs[j]? = some u → w.cell? (a.add (i * d.sz + j)) = some u := by
      clear hi hc hl hm hmm hlm hcs hx
      induction len with
      | zero => exact ⟨[], rfl, fun i s hs => by simp at hs⟩
      | succ len ih =>
        obtain ⟨l, hll, hl⟩ := ih (fun i hil => key i (by omega))
        obtain ⟨s, cs, h1, h2, h3, h4⟩ := key len (by omega)
        refine ⟨l ++ [s], by simp [hll], fun i z hz => ?_⟩
        rcases Nat.lt_or_ge i l.length with hlt | hge
        · rw [List.getElem?_append_left hlt] at hz
          exact hl i z hz
        · have hi : i = len := by
            have := (List.getElem?_eq_some_iff.1 hz).1
            rw [List.length_append, List.length_singleton] at this
            omega
          subst hi
          rw [List.getElem?_append_right hge, hll, Nat.sub_self] at hz
          have : s = z := by simpa using hz
          subst this
          exact ⟨h3, cs, h1, h2, h4⟩
    obtain ⟨l, hll, hl'⟩ := ex
    refine ⟨some a, cap, l, by rw [hll]; exact hc, ⟨rfl, by rw [hll]; unfold maxLen at hm; omega, fun _ => ⟨a, rfl, fun j p hj => ?_⟩⟩, by omega, by omega, fun s hs => ?_⟩
    · obtain ⟨_, cs, h1, h2, h4⟩ := hl' j p hj
      exact ⟨cs, h1, h2, h4⟩
    · obtain ⟨i, hi'⟩ := List.getElem?_of_mem hs
      exact (hl' i s hi').1
theorem leaf_ints {k : IntKind} (ht : P.underlying t = some (.slice e)) (he : P.underlying e = some (.int k)) (hc1 : P.cellsOf e = 1) (h : DataW.trod enc P w base spare held n t [c] = some x) :
    ∃ (A : Option Addr) (cap : Nat) (l : List Int), c = .slice A l.length cap ∧ Kd.C (Kd.int k) w A l.length l ∧ l.length ≤ cap ∧ l.length ≤ maxLen ∧ ∀ z ∈ l, (Lit.int k z).wf = true :=
  leaf_rows (d := Kd.int k) (fun z => (Lit.int k z).wf = true) ht hc1 (fun n cs y hcs hy => by
    obtain ⟨a, rfl, _, hw⟩ := DataW.trod_int he hy
    exact ⟨a, rfl, hw⟩) h
theorem leaf_introws {k : IntKind} {e2 : TypeId} (ht : P.underlying t = some (.slice e)) (he : P.underlying e = some (.slice e2)) (he2 : P.underlying e2 = some (.int k)) (hc1 : P.cellsOf e = 1) (hc2 : P.cellsOf e2 = 1) (h : DataW.trod enc P w base spare held n t [c] = some x) :
    ∃ (A : Option Addr) (cap : Nat) (l : List (List Int)), c = .slice A l.length cap ∧ Kd.C (Kd.slice e2 (Kd.int k)) w A l.length l ∧ l.length ≤ cap ∧ l.length ≤ maxLen ∧ ∀ z ∈ l, z.length ≤ maxLen ∧ ∀ y ∈ z, (Lit.int k y).wf = true :=
  leaf_rows (d := Kd.slice e2 (Kd.int k)) (fun z => z.length ≤ maxLen ∧ ∀ y ∈ z, (Lit.int k y).wf = true) ht hc1 (fun n cs y hcs hy => by
    rw [hc1] at hcs
    obtain ⟨c1, rfl⟩ : ∃ c1, cs = [c1] := by
      match cs, hcs with
      | [c1], _ => exact ⟨c1, rfl⟩
    obtain ⟨A, cap, l, rfl, hC, hcap, hm, hw⟩ := leaf_ints he he2 hc2 hy
    exact ⟨l, ⟨A, cap, rfl, hcap, hC⟩, hm, hw⟩) h
/-- A struct's field, as a reading of its own cells. -/
theorem leaf_field {fs : Array Field} {cs : List Value} (ht : P.underlying t = some (.struct fs)) (h : DataW.trod enc P w base spare held n t cs = some x) :
    ∃ m, ∀ (i : Nat) (f : Field), fs[i]? = some f → ∃ y, DataW.trod enc P w base spare held m f.type ((cs.drop f.offset).take (P.cellsOf f.type)) = some y := by
  obtain ⟨xs, m, _, _, _, hlen, hg⟩ := DataW.trod_struct ht h
  refine ⟨m, fun i f hf => ?_⟩
  have hi : i < fs.size := (Array.getElem?_eq_some_iff.1 hf).1
  exact ⟨_, (hg i f hf).trans (List.getElem?_eq_getElem (by omega))⟩
end
end Go.Proofs.Ytijdplpmcnhlbaa.L
end
section
/- Rows of whole numbers that are read, over a store elsewhere. -/
namespace Go.Proofs.Ytijdplpmcnhlbaa.L
open Go.RowKit Go.Proofs.YtijdplpmcnhlbaaW.PrintWords
theorem C_set {k : IntKind} {w : World} {A : Option Addr} {n : Nat} {xs : List Int} (h : Kd.C (Kd.int k) w A n xs) {g : Nat} (hne : ∀ ad, A = some ad → 0 < n → ad.block ≠ g) (j : Nat) (u : Value) : Kd.C (Kd.int k) (w.setCell ⟨g, j, none⟩ u) A n xs := by
  obtain ⟨h1, h2, h3⟩ := h
  refine ⟨h1, h2, fun hp => ?_⟩
  obtain ⟨ad, e, hc⟩ := h3 hp
  refine ⟨ad, e, fun i p hi => ?_⟩
  obtain ⟨c, hl, hK, hcell⟩ := hc i p hi
  refine ⟨c, hl, hK, fun q v hv => ?_⟩
  rw [World.cell?_setCell_other _ _ _ _ (fun he => hne ad e hp (by have h9 := congrArg Addr.block he; rw [show (ad.add (i * (Kd.int k).sz + q)).block = ad.block from by cases ad; unfold Addr.add; (repeat' split) <;> rfl] at h9; exact h9.symm))]
  exact hcell q v hv
theorem R_block {k : IntKind} {e : Nat} {w : World} {base : Nat} {ok : Nat → Prop} {A : Option Addr} {n c : Nat} {xs : List Int} (h : Kd.R (Kd.int k) e w base ok (.slice A n c) xs) : ∀ ad, A = some ad → 0 < n → base ≤ ad.block := by
  intro ad ha hn
  have h1 := (Kd.R_reads' h).1
  obtain ⟨g, cap, he, hb, _⟩ := Kd.R_form h (by omega)
  injection he with e1 e2 e3
  rw [ha] at e1
  injection e1 with e1
  rw [e1]
  exact hb
theorem dr {P : Program} {f : FuncId} {args : Array Value} {w : World} {r : Ending} (h : Calls P f args w fun e w' => e = r ∧ Drawn0 w w') : Calls P f args w fun e w' => e = r ∧ Below w.heap.size w w' := h.mono fun _ _ ⟨a, b⟩ => ⟨a, b.below⟩
end Go.Proofs.Ytijdplpmcnhlbaa.L
end
section
/- The contract of slices.Clone over sockets. -/
namespace Go.Proofs.Ytijdplpmcnhlbaa.Q
open Go.RowKit Go.Proofs.YtijdplpmcnhlbaaW.PrintWords Go.Proofs.YtijdplpmcnhlbaaW.PrintLast Go.Proofs.YtijdplpmcnhlbaaW.PrintMore Go.Proofs.Ytijdplpmcnhlbaa.L
attribute [local go_sem] Instr.field part asAgg lt_step max2_int min2_int max_two min_two max_three min_three max_four min_four lt_0_1 lt_0_2 lt_1_2 lt_0_3 lt_1_3 lt_2_3 lt_0_4 lt_1_4 lt_2_4 lt_3_4 lt_0_5 lt_1_5 lt_2_5 lt_3_5 lt_4_5 lt_0_6 lt_1_6 lt_2_6 lt_3_6 lt_4_6 lt_5_6 lt_0_7 lt_1_7 lt_2_7 lt_3_7 lt_4_7 lt_5_7 lt_6_7 lt_0_8 lt_1_8 lt_2_8 lt_3_8 lt_4_8 lt_5_8 lt_6_8 lt_7_8
set_option linter.unusedVariables false
set_option linter.unusedSimpArgs false
def api_Sock_21.f (l : List S34) : Option (List S34) := if l.length * 40 < 140737488355328 then some l else none
set_option maxHeartbeats 1600000 in
set_option maxRecDepth 100000 in
theorem api_Sock_21.calls (A0 : Option Addr) (c0 : Nat) (l0 : List S34) (r : List S34) (w : World) (hr0 : Kd.C k34 w A0 l0.length l0) (hc0 : l0.length ≤ c0) (h : api_Sock_21.f l0 = some r) :
    Calls Try.prog 21 #[.slice A0 l0.length c0] w fun e w' => ∃ v0_ : Value, e = .returned (v0_) ∧ Kd.R k34 34 w' w.heap.size (fun _ => True) v0_ r ∧ Below w.heap.size w w' := by
  unfold api_Sock_21.f at h
  split at h
  case isFalse => cases h
  case isTrue hl =>
  injection h with h; subst h
  have HB := Aside0.mk (Below.refl w.heap.size w)
  have HR := Aside0.mk hr0
  have HC := Aside0.mk hc0
  have HL := Aside0.mk hl
  cases A0 with
  | none =>
    have h0 : l0 = [] := by
      have := hr0.2.2
      cases l0 with
      | nil => rfl
      | cons x xs => obtain ⟨ad, e, _⟩ := this (by simp); cases e
    subst h0
    clear hr0 hc0 hl
    have hnil : ∀ W, (binOp .eql 22 (.slice none 0 c0) (.slice none 0 0)).run Try.prog W = .ok (.bool true) W := fun W => Lib.run_eql_slice_nil W _ _ _ _ _ _ _ Try.underlying22
    go_enter Try.func21, Try.ntmps21
    go_wp2
    refine bodyPost_ret (v := .slice none 0 0) (by simp [results, Try.results21, go_sem]) rfl ?_
    exact ⟨_, rfl, Kd.R_nil _ _ _ _ _, HB.out⟩
  | some ad =>
    clear hr0 hc0 hl
    have hnil : ∀ W, (binOp .eql 22 (.slice (some ad) l0.length c0) (.slice none 0 0)).run Try.prog W = .ok (.bool false) W := fun W => Lib.run_eql_slice_nil W _ _ _ _ _ _ _ Try.underlying22
    go_enter Try.func21, Try.ntmps21
    go_wp2_with (first | ((with_reducible refine gate_dst (N := 5) rfl ?_); refine Kd.R_lit k34 _ 34 ?hg (N := 5) ?hd (xs := ([] : List S34)) (inner := []) (ok := fun _ => True) (okp := fun _ => True) ?hr ?hp (fun _ hk => hk) trivial (Below.refl _ _) (Nat.le_refl _) (by simp) ?_; (case hd => rfl); (case hg => rfl); (case hr => first | (go_simp; done) | (go_simp; rfl)); (case hp => exact (Reps.none _ _)); intro v1 w1 ho1 hb hg_ hnew_; clear hg_ hnew_; have HO1 := Aside0.mk ho1; have HB1 := Aside0.mk hb; clear ho1 hb) | ((with_reducible refine gate_builtin (b := .append) (xs := #[.tmp 5, .tmp 6]) rfl ?_); at_builtin; refine Kd.R_append_rows k34 (w0 := w) w.heap.size rfl (.tmp 5) (.tmp 6) 22 34 (.agg #[(.int .i64 0), (.int .i64 0), (.int .u32 0), (.int .i64 0), (.bool false), (.bool false)]) 40 rfl Try.underlying22 info34 rfl (by decide) (by omega) v1 [] l0 _ _ _ (fun _ => True) (fun _ => False) rfl rfl ?aO ?aR (fun _ _ h => h) (fun _ h => h.elim) ?aF ?aB ?aS ?aL ?_; (case aR => repeat (first | exact (Kd.C_below HR.out HB1.out) | (with_reducible refine Kd.C_alloc ?_ _) | (with_reducible refine Kd.C_drewN ?_ _) | (with_reducible refine Kd.C_drew ?_))); (case aB => exact HB1.out); (case aF => exact (fun _ _ => trivial)); (case aO => exact HO1.out); (case aS => exact HB1.out.size); (case aL => have := HL.out; simp; omega); intro v2 w2 ho hb hg hat; rw [List.nil_append] at ho; have HO2 := Aside0.mk ho; have HB2 := Aside0.mk hb; clear ho hb hg hat))
    refine bodyPost_ret (v := v2) (by simp [results, Try.results21, go_sem]) rfl ?_
    exact ⟨_, rfl, HO2.out, HB2.out⟩
end Go.Proofs.Ytijdplpmcnhlbaa.Q
end
section
/- Great structs: a store of a whole one into a box of the call's own, its load, both with a value that is a letter. -/
namespace Go.Proofs.Ytijdplpmcnhlbaa.L
open Go.RowKit Go.Proofs.YtijdplpmcnhlbaaW.PrintWords
set_option linter.unusedVariables false
theorem st_put {W W' base : World} {i g : Nat} {o : Obj} (h : base.heap[i]? = some o) (hk : ∀ i, i ≠ g → W'.heap[i]? = W.heap[i]?) (he : base.heap[i]? = some o → W.heap[i]? = some o) (hi : i ≠ g) : W'.heap[i]? = some o := (hk i hi).trans (he h)
theorem st_set {g : Nat} {t : TypeId} : ∀ (vs pre old : List Value) (W : World), W.heap[g]? = some (.cells (pre ++ old).toArray t (0, 0)) → old.length = vs.length → (W.setCells g pre.length vs).heap[g]? = some (.cells (pre ++ vs).toArray t (0, 0))
  | [], pre, old, W, h, hl => by
    obtain rfl : old = [] := List.length_eq_zero_iff.1 hl
    exact h
  | v :: vs, pre, [], W, h, hl => by cases hl
  | v :: vs, pre, o :: old, W, h, hl => by
    have h1 : (W.setCell ⟨g, pre.length, none⟩ v).heap[g]? = some (.cells ((pre ++ [v]) ++ old).toArray t (0, 0)) := blk_put h pre.length v (by rw [List.setIfInBounds_toArray]; simp)
    have h2 := st_set vs (pre ++ [v]) old _ h1 (by simpa using hl)
    rw [List.length_append, List.length_singleton, List.append_assoc, List.singleton_append] at h2
    exact h2
theorem st_keep {g : Nat} : ∀ (vs : List Value) (o : Nat) (W : World) (i : Nat), i ≠ g → (W.setCells g o vs).heap[i]? = W.heap[i]?
  | [], o, W, i, hi => rfl
  | v :: vs, o, W, i, hi => (st_keep vs (o + 1) _ i hi).trans (Below.heap_setCell W ⟨g, o, none⟩ v i hi)
theorem st_size {g : Nat} : ∀ (vs : List Value) (o : Nat) (W : World), (W.setCells g o vs).heap.size = W.heap.size
  | [], o, W => rfl
  | v :: vs, o, W => (st_size vs (o + 1) _).trans (by simp)
theorem st_below {g : Nat} {w : World} : ∀ (vs : List Value) (o : Nat) (W : World), Below g w W → Below g w (W.setCells g o vs)
  | [], o, W, h => h
  | v :: vs, o, W, h => st_below vs (o + 1) _ (Below.setCell h (p := ⟨g, o, none⟩) (Nat.le_refl _) v)
theorem st_there {W : World} {g n : Nat} {cs : Array Value} {t : TypeId} (h : W.heap[g]? = some (.cells cs t (0, 0))) (hn : cs.size = n) : W.there g 0 n := fun j hj => by
  obtain ⟨h1, h2, _⟩ := cells_of h
  rw [h1, h2]
  simp [hn, hj]
section
variable {P : Program} {ops : Array Oper} {rest : List Oper} {o : Oper} {a : Act} {Q : Exit → Act → World → Prop} {W : World}
/-- What a store of a whole struct leaves. -/
def Stored (g : Nat) (cells : Array Value) (t : TypeId) (W w1 : World) : Prop := w1.heap[g]? = some (.cells cells t (0, 0)) ∧ (∀ i, i ≠ g → w1.heap[i]? = W.heap[i]?) ∧ Below g W w1 ∧ w1.heap.size = W.heap.size
theorem st_done {g : Nat} {cells cs0 : Array Value} {t : TypeId} (hg : W.heap[g]? = some (.cells cs0 t (0, 0))) (hs : cs0.size = cells.size) : Stored g cells t W (W.setCells g 0 cells.toList) := by
  refine ⟨?_, fun i hi => st_keep _ _ _ i hi, st_below _ _ _ (Below.refl _ _), st_size _ _ _⟩
  have := st_set cells.toList [] cs0.toList W (by simpa using hg) (by simpa using hs)
  simpa using this
theorem wpList_store_all (hgd : o.guard = none) (ty : TypeId) (x y : Operand) (ho : o.op = .store ty x y) (hN : o.dst = none) (g : Nat) (cells : Array Value) (hx : a.eval x = .pointer (some ⟨g, 0, none⟩)) (hy : a.eval y = .agg cells)
    (cs0 : Array Value) (t : TypeId) (hg : W.heap[g]? = some (.cells cs0 t (0, 0))) (hs : cs0.size = cells.size) (hi : (P.info? ty).map (·.size) = some cells.size) (h1 : cells.all (·.oneCell') = true)
    (h : ∀ w1, Stored g cells t W w1 → wpList P ops Q rest a w1) : wpList P ops Q (o :: rest) a W := by
  refine wpList_store_mid hgd ty x y ho g 0 cells hx hy (st_there hg hs) hi h1 ?_
  rw [hN]
  exact h _ (st_done hg hs)


theorem st_eq {t t2 : TypeId} {x y : Operand} {R S : Array Value} {b : Bool} (hgd : o.guard = none) (ho : o.op = .binOp .eql t x y t2) (hx : a.eval x = .agg R) (hy : a.eval y = .agg S)
    (hr : (eqGuard .eql t x y (.agg R) (.agg S)).run P W = .ok () W ∧ (binOp .eql t (.agg R) (.agg S)).run P W = .ok (.bool b) W) (h : wpList P ops Q rest (a.put o.dst (.bool b)) W) : wpList P ops Q (o :: rest) a W := by
  refine Kd.event_run (v := .bool b) (w1 := W) hgd ?_ h
  unfold execOp
  simp only [ho, hx, hy, Sem.run_bind, hr.1, hr.2, Result.andThen_ok, Sem.run_pure]
end
end Go.Proofs.Ytijdplpmcnhlbaa.L
end
section
-- Ytijdplpmcnhlbaa: written by a program for this claim (several laws of one seat at once)
namespace Go.Proofs.Ytijdplpmcnhlbaa.Q
open Go.RowKit Go.Proofs.YtijdplpmcnhlbaaW.PrintWords Go.Proofs.YtijdplpmcnhlbaaW.PrintLast Go.Proofs.YtijdplpmcnhlbaaW.PrintMore
attribute [local go_sem] max2_int min2_int max_two min_two max_three min_three max_four min_four   -- for this text's walks alone
set_option linter.unusedVariables false
set_option linter.unusedSimpArgs false

theorem eqA34 (d : Nat) (w : World) (x0 y0 : Int) (x1 y1 : Int) (x2 y2 : Int) (x3 y3 : Int) (x4 y4 : Bool) (x5 y5 : Bool) :
    (Op.equalIn (d + 2) 34 (.agg #[.int .i64 x0, .int .i64 x1, .int .u32 x2, .int .i64 x3, .bool x4, .bool x5]) (.agg #[.int .i64 y0, .int .i64 y1, .int .u32 y2, .int .i64 y3, .bool y4, .bool y5])).run Try.prog w = .ok (x0 == y0 && (x1 == y1 && (x2 == y2 && (x3 == y3 && (x4 == y4 && (x5 == y5)))))) w := by
  refine eqA_of Try.underlying34 (by kernel_rfl) ?_
  refine eqf_cons (by rfl) (by go_simp; rfl) (by go_simp; rfl) (by go_simp) ?_
  refine eqf_cons (by rfl) (by go_simp; rfl) (by go_simp; rfl) (by go_simp) ?_
  refine eqf_cons (by rfl) (by go_simp; rfl) (by go_simp; rfl) (by go_simp) ?_
  refine eqf_cons (by rfl) (by go_simp; rfl) (by go_simp; rfl) (by go_simp) ?_
  refine eqf_cons (by rfl) (by go_simp; rfl) (by go_simp; rfl) (by go_simp) ?_
  exact eqf_last (by rfl) (by go_simp; rfl) (by go_simp; rfl) (by go_simp)
end Go.Proofs.Ytijdplpmcnhlbaa.Q
end
section
/- Rows of whole numbers that are read, with the blocks they may lie in. -/
namespace Go.Proofs.Ytijdplpmcnhlbaa.L
open Go.RowKit Go.Proofs.YtijdplpmcnhlbaaW.PrintWords
theorem sz_alloc (w : World) (o : Obj) : (w.alloc o).heap.size = w.heap.size + 1 := by simp
theorem sz_drew (w : World) : w.drew.heap.size = w.heap.size := rfl
theorem sz_drewN (w : World) (n : Nat) : (w.drewN n).heap.size = w.heap.size := rfl
theorem sz_set (w : World) (p : Addr) (v : Value) : (w.setCell p v).heap.size = w.heap.size := by simp
theorem cell_of_heap {W W' : World} {a : Addr} {v : Value} (h : W.cell? a = some v) (hk : W'.heap[a.block]? = W.heap[a.block]?) : W'.cell? a = some v := by
  unfold World.cell? at h ⊢; rw [hk]; exact h
theorem add_block (a : Addr) (j : Nat) : (a.add j).block = a.block := by cases a; unfold Addr.add; (repeat' split) <;> rfl
theorem F_of_C {k : IntKind} {W : World} {ok : Nat → Prop} {A : Option Addr} {n : Nat} {xs : List Int} (h : Kd.C (Kd.int k) W A n xs) (hb : ∀ ad, A = some ad → 0 < n → ok ad.block) : Kd.F (Kd.int k) W ok A n xs := by
  intro W' hW
  obtain ⟨h1, h2, h3⟩ := h
  refine ⟨h1, h2, fun hp => ?_⟩
  obtain ⟨ad, e, hc⟩ := h3 hp
  refine ⟨ad, e, fun i p hi => ?_⟩
  obtain ⟨c, hl, hK, hcell⟩ := hc i p hi
  refine ⟨c, hl, hK, fun q v hv => ?_⟩
  have h5 := hcell q v hv
  refine cell_of_heap h5 ?_
  rw [add_block]
  have h6 := World.block_lt_of_cell? W _ h5
  rw [add_block] at h6
  exact hW _ (hb ad e hp) h6
/-- A row of what came in. -/
theorem F_in {k : IntKind} {W : World} {A : Option Addr} {n : Nat} {xs : List Int} (h : Kd.C (Kd.int k) W A n xs) : Kd.F (Kd.int k) W (fun j => j < W.heap.size) A n xs := by
  refine F_of_C h (fun ad e hp => ?_)
  obtain ⟨ad', e', hc⟩ := h.2.2 hp
  rw [e] at e'; injection e' with e'; subst e'
  have hx : 0 < xs.length := by rw [h.1]; exact hp
  obtain ⟨c, hl, hK, hcell⟩ := hc 0 (xs[0]) (List.getElem?_eq_getElem hx)
  have hl' : 0 < c.length := by rw [hl]; exact Nat.zero_lt_one
  have h6 := World.block_lt_of_cell? W _ (hcell 0 c[0] (List.getElem?_eq_getElem hl'))
  rw [add_block] at h6
  exact h6
/-- A row that a call made. -/
theorem R_Fb {k : IntKind} {e : Nat} {w : World} {base : Nat} {ok : Nat → Prop} {A : Option Addr} {n c : Nat} {xs : List Int} (h : Kd.R (Kd.int k) e w base ok (.slice A n c) xs) : Kd.F (Kd.int k) w (fun j => base ≤ j) A n xs := by
  have h2 := Kd.R_reads' h
  have h3 := h2.1
  subst h3
  exact F_of_C h2.2.2 (R_block h)
theorem R_Fl {k : IntKind} {e : Nat} {w : World} {base : Nat} {ok : Nat → Prop} {v : Value} {xs : List Int} (h : Kd.R (Kd.int k) e w base ok v xs) : ∃ A c, v = .slice A xs.length c ∧ xs.length ≤ c ∧ Kd.F (Kd.int k) w (fun j => base ≤ j) A xs.length xs := by
  obtain ⟨A, c, ev⟩ := Kd.R_slice h
  subst ev
  exact ⟨A, c, rfl, (Kd.R_reads' h).2.1, R_Fb h⟩
theorem F_w {k : IntKind} {W W1 : World} {ok ok' : Nat → Prop} {A : Option Addr} {n : Nat} {xs : List Int} (h : Kd.F (Kd.int k) W ok A n xs) (hb : Below W.heap.size W W1) (hk : ∀ j, ok j → ok' j) : Kd.F (Kd.int k) W1 ok' A n xs := Kd.F_mono (Kd.F_below h hb) hk
/-- A literal's block, read. -/
theorem C_blk {k : IntKind} {W : World} {g n : Nat} {cs : Array Value} {t : TypeId} {fr : Nat × Nat} {xs : List Int} (h : W.heap[g]? = some (.cells cs t fr)) (hn : xs.length = n) (hm : n ≤ 9223372036854775807) (hc : cs = (xs.map (Value.int k)).toArray) : Kd.C (Kd.int k) W (some ⟨g, 0, none⟩) n xs := by
  refine ⟨hn, hm, fun _ => ⟨_, rfl, fun i x hi => ⟨[Value.int k x], rfl, rfl, fun q v hv => ?_⟩⟩⟩
  have hq : q = 0 := by have := (List.getElem?_eq_some_iff.1 hv).1; simp at this; exact this
  subst hq
  have e1 : (Addr.add ⟨g, 0, none⟩ (i * (Kd.int k).sz + 0)) = ⟨g, i, none⟩ := by
    show Addr.add ⟨g, 0, none⟩ (i * 1 + 0) = _
    rw [Nat.mul_one, Nat.add_zero]; unfold Addr.add; split <;> simp_all
  rw [e1, show W.cell? ⟨g, i, none⟩ = cs[i]? from by simp [World.cell?, h], hc, List.getElem?_toArray, List.getElem?_map, hi]
  simpa using hv
theorem F_cell {k : IntKind} {W : World} {ok : Nat → Prop} {A : Option Addr} {n : Nat} {xs : List Int} (h : Kd.F (Kd.int k) W ok A n xs) (i : Nat) (hi : i < n) : ∃ ad, A = some ad ∧ W.cell? (ad.add i) = some (.int k (xs.getD i 0)) := by
  obtain ⟨_, _, h3⟩ := Kd.reads_of_C (d := (0 : Int)) (Kd.F_now h)
  obtain ⟨ad, e, hc⟩ := h3 (by omega)
  exact ⟨ad, e, hc i hi⟩
theorem add_eq (b o i : Nat) : (Addr.add ⟨b, o, none⟩ i) = ⟨b, o + i, none⟩ := by unfold Addr.add; split <;> simp_all
theorem F_cell' {k : IntKind} {W : World} {ok : Nat → Prop} {A : Option Addr} {n : Nat} {xs : List Int} (h : Kd.F (Kd.int k) W ok A n xs) (hn : 0 < n) : ∃ b o, A = some ⟨b, o, none⟩ ∧ ∀ i, i < n → W.cell? ⟨b, o + i, none⟩ = some (.int k (xs.getD i 0)) := by
  obtain ⟨_, _, h3⟩ := Kd.reads_of_C (d := (0 : Int)) (Kd.F_now h)
  obtain ⟨ad, e, hc⟩ := h3 hn
  have hs := World.cell?_spot (hc 0 hn)
  obtain ⟨b, o, sp⟩ := ad
  have hsp : sp = none := by
    cases sp with
    | none => rfl
    | some s => exfalso; revert hs; unfold Addr.add; simp
  subst hsp
  exact ⟨b, o, e, fun i hi => by rw [← add_eq]; exact hc i hi⟩
theorem F_res {k : IntKind} {W : World} {ok ok' : Nat → Prop} {A : Option Addr} {n : Nat} {xs : List Int} (h : Kd.F (Kd.int k) W ok A n xs) (hk : ∀ j, ok j → ok' j) : Kd.F (Kd.int k) W ok' A n xs := Kd.F_mono h hk
end Go.Proofs.Ytijdplpmcnhlbaa.L
end
section
/- What is kept from world to world, in short words: the road is found by the tactic that stands here once. -/
namespace Go.Proofs.Ytijdplpmcnhlbaa.L
open Go.RowKit Go.Proofs.YtijdplpmcnhlbaaW.PrintWords Go.Proofs.YtijdplpmcnhlbaaW.PrintLast Go.Proofs.YtijdplpmcnhlbaaW.PrintMore
theorem fG {P Q : Prop} (r : Aside0 P) (go : P → Q := by (intro h_; (repeat (with_reducible first | exact h_ | apply Kd.F_drew | apply Kd.F_drewN | apply Kd.F_alloc | refine Kd.F_far ?_ ?_ _)); all_goals (intro j_ hj_; (try dsimp only at hj_); (try dsimp only); (try simp only [sz_alloc, sz_drew, sz_drewN, sz_set] at hj_); omega))) : Q := go r.out
theorem bG {P Q : Prop} (r : Aside0 P) (go : P → Q := by (intro h_; repeat (first | (with_reducible first | exact h_ | exact Below.refl _ _ | apply below_alloc | apply pw_below_drewN | apply below_drew | refine below_set ?_ (by omega)) | exact h_))) : Q := go r.out
theorem eG {P Q : Prop} (r : Aside0 P) (go : P → Q := by (intro h_; repeat (with_reducible first | exact h_ | apply ext_drew | apply ext_drewN | apply ext_alloc | refine blk_far ?_ (by show _ ≠ _; dsimp only; omega) _))) : Q := go r.out
end Go.Proofs.Ytijdplpmcnhlbaa.L
end
