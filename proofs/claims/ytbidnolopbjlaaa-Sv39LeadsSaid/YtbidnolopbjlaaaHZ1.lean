import Derived.Test.YtbidnolopbjlaaaProg
import Derived.Below
import Derived.Deep.Draws
import Derived.Deep.AppendLies
import Derived.Maps.AppendAt
import Derived.OwnWalk
import Derived.Laws.BytesArg
import Derived.Laws.MakeOwn
import Derived.Laws.OwnMore
import Derived.Deep.OwnRows
import Derived.Tactics
import Derived.Lib.ConvBytes
import Derived.Laws.Slices
import Derived.WalkKit
import Derived.KernelRfl
import Derived.RowKit3
import Derived.Deep.LoopGhost
import Derived.Deep.QuietTactic
import Derived.BigQuiet
import Derived.WideLaws
import Derived.Deep.DeepCutAuto
import Derived.Deep.CutBlock
import Derived.Deep.RegionHeld3
import Derived.Laws.Rows
import Derived.Lib.AppendStr
import Derived.ArgAppend
import Derived.Laws.IdiomCopy
import Derived.OrdersHeld
import Derived.Laws.BitsLemmas
import Derived.RowKit
import Derived.Test.YtbidnolopbjlaaaWWords
import Derived.Test.YtbidnolopbjlaaaWLast
import Derived.Test.YtbidnolopbjlaaaWTab
import Derived.Test.YtbidnolopbjlaaaWFour
import Derived.Test.YtbidnolopbjlaaaWQPut
import Derived.Test.YtbidnolopbjlaaaWApart
import Derived.Test.YtbidnolopbjlaaaWArr
import Derived.Test.YtbidnolopbjlaaaWZeros
import Derived.Test.YtbidnolopbjlaaaWFoot
import Derived.Test.YtbidnolopbjlaaaWKept
import Derived.Test.YtbidnolopbjlaaaWShare
import Derived.Test.YtbidnolopbjlaaaWN
import Derived.Test.YtbidnolopbjlaaaWFootNe
import Derived.Test.YtbidnolopbjlaaaWAt
import Derived.Test.YtbidnolopbjlaaaWEqStruct
import Derived.Test.YtbidnolopbjlaaaWRepsOne
import Derived.Test.YtbidnolopbjlaaaWInv
import Derived.Test.YtbidnolopbjlaaaWInvWords
import Derived.Test.YtbidnolopbjlaaaWGuard
import Derived.Test.YtbidnolopbjlaaaWNEv
import Derived.Test.YtbidnolopbjlaaaWMore
import Derived.Test.YtbidnolopbjlaaaPm
import Derived.ProofKit
import Derived.Deep.Slices
import Derived.ChangeSame
import Derived.RegionTactic
import Derived.Lib.SliceRun
import Derived.BigRegion
import Derived.DataReads
section
-- Ytbidnolopbjlaaa: written by a program for this claim (several laws of one seat at once)
namespace Go.Proofs.Ytbidnolopbjlaaa.Q
open Go.RowKit Go.Proofs.YtbidnolopbjlaaaW.PrintWords Go.Proofs.YtbidnolopbjlaaaW.PrintLast Go.Proofs.YtbidnolopbjlaaaW.PrintMore
attribute [local go_sem] max2_int min2_int max_two min_two max_three min_three max_four min_four   -- for this text's walks alone
set_option linter.unusedVariables false
set_option linter.unusedSimpArgs false



def errW : Option Int → Value
  | none => .nilIface
  | some c => .iface 0 (.int .i64 c)
theorem errW_none : errW none = .nilIface := rfl
theorem errW_some (c : Int) : errW (some c) = .iface 0 (.int .i64 c) := rfl

theorem info5 : (Try.prog.info? 5).map (fun i => (i.zero, i.size, i.bytes)) = some (some (.int .u8 0), 1, 1) := by kernel_rfl
-- the values' own types
def rd_L1 (xs : List (List Int)) (i : Int) : (List Int) := xs.getD i.toNat ([] : List Int)
theorem at_L1 {w : World} {A : Option Addr} {n : Nat} {xs : List (List Int)} (h : Kd.C (Kd.slice 5 (Kd.int .u8)) w A n xs) (i : Int) (h0 : 0 ≤ i) (h1 : i < n) : ∃ ad A0 c0, A = some ad ∧ w.cell? (ad.add i.toNat) = some (.slice A0 (rd_L1 xs i).length c0) ∧ (rd_L1 xs i).length ≤ c0 ∧ (Kd.int .u8).C w A0 (rd_L1 xs i).length (rd_L1 xs i) := by
  obtain ⟨ad, c, e, _, hK, hc0⟩ := Kd.C_get h ([] : List Int) i h0 h1
  have hc : ∀ j u, c[j]? = some u → w.cell? (ad.add (i.toNat * 1 + j)) = some u := hc0
  obtain ⟨A0, c0, rfl, l0, g0⟩ := hK
  exact ⟨ad, A0, c0, e, by have hq := hc 0 _ rfl; rwa [Nat.mul_one, Nat.add_zero] at hq, l0, g0⟩

/-! #### struct type 24 -/
structure S24 where
  f0 : (List Int)
def z24 : S24 := ⟨([] : List Int)⟩
def k24 : Kd S24 := Kd.iso (Kd.slice 5 (Kd.int .u8)) (fun x : S24 => x.f0)
theorem k24_heap : Kd.Heap k24 := Kd.heap_iso _ (Kd.heap_slice 5 (Kd.heap_int .u8))
theorem k24_open {w : World} {x : S24} {cs : List Value} (h : k24.K w x cs) : ∃ A0 c0, cs = [.slice A0 x.f0.length c0] ∧ x.f0.length ≤ c0 ∧ (Kd.int .u8).C w A0 x.f0.length x.f0 := by
  obtain ⟨A0, c0, rfl, l0, g0⟩ := h
  exact ⟨A0, c0, rfl, l0, g0⟩
theorem k24_openM {w : World} {base : Nat} {ok : Nat → Prop} {x : S24} {cs : List Value} (h : k24.M w base ok x cs) : ∃ v0, cs = [v0] ∧ (Kd.int .u8).R 5 w base ok v0 x.f0 := by
  obtain ⟨v0, rfl, g0⟩ := h
  exact ⟨v0, rfl, g0⟩
theorem k24_mk (w : World) (x : S24) {A0 : Option Addr} {c0 : Nat} (l0 : x.f0.length ≤ c0) (g0 : (Kd.int .u8).C w A0 x.f0.length x.f0) : k24.K w x [.slice A0 x.f0.length c0] := ⟨A0, c0, rfl, l0, g0⟩
theorem k24_mkM (w : World) (base : Nat) (ok : Nat → Prop) (x : S24) {v0 : Value} (g0 : (Kd.int .u8).R 5 w base ok v0 x.f0) : k24.M w base ok x [v0] := ⟨v0, rfl, g0⟩
theorem k24_openF {W : World} {ok : Nat → Prop} {x : S24} {cs : List Value} (h : Kd.FK k24 W ok x cs) : ∃ A0 c0, cs = [.slice A0 x.f0.length c0] ∧ x.f0.length ≤ c0 ∧ Kd.F (Kd.int .u8) W ok A0 x.f0.length x.f0 := by
  obtain ⟨A0, c0, rfl, l0, _⟩ := k24_open (Kd.FK_now h)
  exact ⟨A0, c0, rfl, l0, (fun W' hW => by obtain ⟨A0_, c0_, he, l0_, g0_⟩ := k24_open (h W' hW); injection (Option.some.inj (show some (Value.slice A0 x.f0.length c0) = some (Value.slice A0_ x.f0.length c0_) from congrArg (fun l => l[0]?) he)) with ha_ _ _; rw [ha_]; exact g0_)⟩
theorem k24_mkF (W : World) (ok : Nat → Prop) (x : S24) {A0 : Option Addr} {c0 : Nat} (l0 : x.f0.length ≤ c0) (g0 : Kd.F (Kd.int .u8) W ok A0 x.f0.length x.f0) : Kd.FK k24 W ok x [.slice A0 x.f0.length c0] := fun W2 hW => k24_mk W2 x l0 (g0 W2 hW)
def rd_T24 (xs : List S24) (i : Int) : S24 := xs.getD i.toNat z24
theorem at_T24 {w : World} {A : Option Addr} {n : Nat} {xs : List S24} (h : Kd.C k24 w A n xs) (i : Int) (h0 : 0 ≤ i) (h1 : i < n) : ∃ ad A0 c0, A = some ad ∧ w.cell? (ad.add i.toNat) = some (.slice A0 (rd_T24 xs i).f0.length c0) ∧ (rd_T24 xs i).f0.length ≤ c0 ∧ (Kd.int .u8).C w A0 (rd_T24 xs i).f0.length (rd_T24 xs i).f0 := by
  obtain ⟨ad, c, e, _, hK, hc0⟩ := Kd.C_get h z24 i h0 h1
  have hc : ∀ j u, c[j]? = some u → w.cell? (ad.add (i.toNat * 1 + j)) = some u := hc0
  obtain ⟨A0, c0, rfl, l0, g0⟩ := k24_open hK
  exact ⟨ad, A0, c0, e, by have hq := hc 0 _ rfl; rwa [Nat.mul_one, Nat.add_zero] at hq, l0, g0⟩

end Go.Proofs.Ytbidnolopbjlaaa.Q
end
section
/- Shifts of 64 bits. -/
set_option linter.unusedVariables false
namespace Go.Proofs.Ytbidnolopbjlaaa.Q
open Go.RowKit Go.Proofs.YtbidnolopbjlaaaW.PrintWords Go.Proofs.YtbidnolopbjlaaaW.PrintLast Go.Proofs.YtbidnolopbjlaaaW.PrintMore Go.Proofs.Ytbidnolopbjlaaa.L
theorem shl_u64 (x : Int) (n : Nat) (h : n ≤ 64) : shl .u64 x (n : Int) = x * 2 ^ n % 18446744073709551616 := by
  unfold shl
  rw [Int.toNat_natCast, show IntKind.u64.bits = 64 from rfl, Nat.min_eq_left h, IntKind.wrap_u64]
theorem shr_u64 (x : Int) (n : Nat) (h : n ≤ 64) : shr .u64 x (n : Int) = x / 2 ^ n := by
  unfold shr
  rw [Int.toNat_natCast, show IntKind.u64.bits = 64 from rfl, Nat.min_eq_left h]

end Go.Proofs.Ytbidnolopbjlaaa.Q
end
section
/- Small facts on worlds behind a call that makes memory and writes nothing old. -/
namespace Go.Proofs.Ytbidnolopbjlaaa.L
open Go.RowKit
theorem bcell {W w1 : World} (hb : Below W.heap.size W w1) : (∀ b o, b < W.heap.size → w1.cell? ⟨b, o, none⟩ = W.cell? ⟨b, o, none⟩) ∧ (∀ b o, b < W.heap.size → w1.frozen? ⟨b, o, none⟩ = W.frozen? ⟨b, o, none⟩) :=
  ⟨fun b o h => hb.cell (p := ⟨b, o, none⟩) h, fun b o h => hb.frozen (p := ⟨b, o, none⟩) h⟩
theorem bsize {W w1 : World} (hb : Below W.heap.size W w1) : W.heap.size ≤ w1.heap.size := hb.size
theorem bthen {w W w1 : World} {B : Nat} (h : Below B w W) (hB : B ≤ W.heap.size) (k : Below W.heap.size W w1) : Below B w w1 :=
  h.trans ⟨k.os, k.tape, k.output, k.size, fun i hi => k.block i (Nat.lt_of_lt_of_le hi hB)⟩
theorem ret3 {P : Program} {fn : Func} {t u v : Tmp} (h : fn.results = #[.tmp t, .tmp u, .tmp v]) (tmps : Array Value) (w : World) :
    (results fn tmps).run P w = .ok (.tuple #[tmps.getD t undef, tmps.getD u undef, tmps.getD v undef]) w := by
  simp [results, h]
/-! ### boxes: blocks of the call's own, carried over calls -/
theorem cells_of {w : World} {b : Nat} {cs : Array Value} {t : TypeId} (h : w.heap[b]? = some (.cells cs t (0, 0))) : (∀ i, w.cell? ⟨b, i, none⟩ = cs[i]?) ∧ (∀ i, w.frozen? ⟨b, i, none⟩ = false) ∧ b < w.heap.size :=
  ⟨fun i => by simp [World.cell?, h], fun i => by simp [World.frozen?, h], (Array.getElem?_eq_some_iff.1 h).1⟩
theorem lt_step {a b : Nat} (h : a < b) : a < b + 1 := Nat.lt_succ_of_lt h
theorem box_below {W w1 : World} {b : Nat} {o : Obj} (hb : Below W.heap.size W w1) (h : W.heap[b]? = some o) : w1.heap[b]? = some o :=
  (hb.block b (Array.getElem?_eq_some_iff.1 h).1).trans h
theorem ext_alloc {W : World} {b : Nat} {o : Obj} (h : W.heap[b]? = some o) (y : Obj) : (W.alloc y).heap[b]? = some o := by
  have hl : b < W.heap.size := (Array.getElem?_eq_some_iff.1 h).1
  simp only [World.alloc, Array.getElem?_push]
  rw [if_neg (by omega)]
  exact h
theorem ext_drew {W : World} {b : Nat} {o : Obj} (h : W.heap[b]? = some o) : W.drew.heap[b]? = some o := h
theorem ext_drewN {W : World} {b : Nat} {o : Obj} (h : W.heap[b]? = some o) (n : Nat) : (W.drewN n).heap[b]? = some o := h
theorem nb_1 (W : World) (y : Obj) : (W.alloc y).heap[W.heap.size]? = some y := by simp only [World.alloc, Array.getElem?_push]; simp
theorem nb_2 (W : World) (x y : Obj) : ((W.alloc x).alloc y).heap[W.heap.size + 1]? = some y := by simp only [World.alloc, Array.getElem?_push, Array.size_push]; simp
theorem nb_3 (W : World) (x y z : Obj) : (((W.alloc x).alloc y).alloc z).heap[W.heap.size + 1 + 1]? = some z := by simp only [World.alloc, Array.getElem?_push, Array.size_push]; simp
theorem nb_4 (W : World) (x y z u : Obj) : ((((W.alloc x).alloc y).alloc z).alloc u).heap[W.heap.size + 1 + 1 + 1]? = some u := by simp only [World.alloc, Array.getElem?_push, Array.size_push]; simp
theorem cell_below {W w1 : World} {b i : Nat} {v : Value} (h : W.cell? ⟨b, i, none⟩ = some v) (hb : Below W.heap.size W w1) : w1.cell? ⟨b, i, none⟩ = some v := by
  have hl : b < W.heap.size := by
    rcases Nat.lt_or_ge b W.heap.size with h1 | h1
    · exact h1
    · simp [World.cell?, Array.getElem?_eq_none h1] at h
  rw [hb.cell (p := ⟨b, i, none⟩) hl]; exact h
theorem heldS {W w1 : World} (hb : Below W.heap.size W w1) : (∀ b o, b < W.heap.size → w1.cell? ⟨b, o, none⟩ = W.cell? ⟨b, o, none⟩) ∧ Below W.heap.size W w1 := ⟨fun b o h => hb.cell (p := ⟨b, o, none⟩) h, hb⟩
theorem lt_0_1 (n : Nat) : n < n + 1 := by omega
theorem lt_0_2 (n : Nat) : n < n + 1 + 1 := by omega
theorem lt_1_2 (n : Nat) : n + 1 < n + 1 + 1 := by omega
theorem lt_0_3 (n : Nat) : n < n + 1 + 1 + 1 := by omega
theorem lt_1_3 (n : Nat) : n + 1 < n + 1 + 1 + 1 := by omega
theorem lt_2_3 (n : Nat) : n + 1 + 1 < n + 1 + 1 + 1 := by omega
theorem lt_0_4 (n : Nat) : n < n + 1 + 1 + 1 + 1 := by omega
theorem lt_1_4 (n : Nat) : n + 1 < n + 1 + 1 + 1 + 1 := by omega
theorem lt_2_4 (n : Nat) : n + 1 + 1 < n + 1 + 1 + 1 + 1 := by omega
theorem lt_3_4 (n : Nat) : n + 1 + 1 + 1 < n + 1 + 1 + 1 + 1 := by omega
theorem lt_0_5 (n : Nat) : n < n + 1 + 1 + 1 + 1 + 1 := by omega
theorem lt_1_5 (n : Nat) : n + 1 < n + 1 + 1 + 1 + 1 + 1 := by omega
theorem lt_2_5 (n : Nat) : n + 1 + 1 < n + 1 + 1 + 1 + 1 + 1 := by omega
theorem lt_3_5 (n : Nat) : n + 1 + 1 + 1 < n + 1 + 1 + 1 + 1 + 1 := by omega
theorem lt_4_5 (n : Nat) : n + 1 + 1 + 1 + 1 < n + 1 + 1 + 1 + 1 + 1 := by omega
theorem lt_0_6 (n : Nat) : n < n + 1 + 1 + 1 + 1 + 1 + 1 := by omega
theorem lt_1_6 (n : Nat) : n + 1 < n + 1 + 1 + 1 + 1 + 1 + 1 := by omega
theorem lt_2_6 (n : Nat) : n + 1 + 1 < n + 1 + 1 + 1 + 1 + 1 + 1 := by omega
theorem lt_3_6 (n : Nat) : n + 1 + 1 + 1 < n + 1 + 1 + 1 + 1 + 1 + 1 := by omega
theorem lt_4_6 (n : Nat) : n + 1 + 1 + 1 + 1 < n + 1 + 1 + 1 + 1 + 1 + 1 := by omega
theorem lt_5_6 (n : Nat) : n + 1 + 1 + 1 + 1 + 1 < n + 1 + 1 + 1 + 1 + 1 + 1 := by omega
theorem lt_0_7 (n : Nat) : n < n + 1 + 1 + 1 + 1 + 1 + 1 + 1 := by omega
theorem lt_1_7 (n : Nat) : n + 1 < n + 1 + 1 + 1 + 1 + 1 + 1 + 1 := by omega
theorem lt_2_7 (n : Nat) : n + 1 + 1 < n + 1 + 1 + 1 + 1 + 1 + 1 + 1 := by omega
theorem lt_3_7 (n : Nat) : n + 1 + 1 + 1 < n + 1 + 1 + 1 + 1 + 1 + 1 + 1 := by omega
theorem lt_4_7 (n : Nat) : n + 1 + 1 + 1 + 1 < n + 1 + 1 + 1 + 1 + 1 + 1 + 1 := by omega
theorem lt_5_7 (n : Nat) : n + 1 + 1 + 1 + 1 + 1 < n + 1 + 1 + 1 + 1 + 1 + 1 + 1 := by omega
theorem lt_6_7 (n : Nat) : n + 1 + 1 + 1 + 1 + 1 + 1 < n + 1 + 1 + 1 + 1 + 1 + 1 + 1 := by omega
theorem lt_0_8 (n : Nat) : n < n + 1 + 1 + 1 + 1 + 1 + 1 + 1 + 1 := by omega
theorem lt_1_8 (n : Nat) : n + 1 < n + 1 + 1 + 1 + 1 + 1 + 1 + 1 + 1 := by omega
theorem lt_2_8 (n : Nat) : n + 1 + 1 < n + 1 + 1 + 1 + 1 + 1 + 1 + 1 + 1 := by omega
theorem lt_3_8 (n : Nat) : n + 1 + 1 + 1 < n + 1 + 1 + 1 + 1 + 1 + 1 + 1 + 1 := by omega
theorem lt_4_8 (n : Nat) : n + 1 + 1 + 1 + 1 < n + 1 + 1 + 1 + 1 + 1 + 1 + 1 + 1 := by omega
theorem lt_5_8 (n : Nat) : n + 1 + 1 + 1 + 1 + 1 < n + 1 + 1 + 1 + 1 + 1 + 1 + 1 + 1 := by omega
theorem lt_6_8 (n : Nat) : n + 1 + 1 + 1 + 1 + 1 + 1 < n + 1 + 1 + 1 + 1 + 1 + 1 + 1 + 1 := by omega
theorem lt_7_8 (n : Nat) : n + 1 + 1 + 1 + 1 + 1 + 1 + 1 < n + 1 + 1 + 1 + 1 + 1 + 1 + 1 + 1 := by omega
end Go.Proofs.Ytbidnolopbjlaaa.L
end
section
/- Arguments that lie in memory, opened: a row of whole numbers, a row of elements of whatever kind, as lists. -/
namespace Go.Proofs.Ytbidnolopbjlaaa.L
open Go.RowKit Go.Proofs.YtbidnolopbjlaaaW.PrintWords Go.Proofs.YtbidnolopbjlaaaW.PrintLast Go.Proofs.YtbidnolopbjlaaaW.PrintMore Go.ChangeShapes Go.WideShapes Go.Deep
section
variable {H : Type} {enc : TypeId × Value → H} {P : Program} {w : World} {base : Nat} {spare : Nat → Bool} {held : Bool} {n : Nat} {t e : TypeId} {c : Value} {x : DataW H × List MemPlace}
theorem leaf_int {k : IntKind} (ht : P.underlying t = some (.int k)) (h : DataW.trod enc P w base spare held n t [c] = some x) : ∃ a, c = .int k a ∧ (Lit.int k a).wf = true := by
  obtain ⟨a, he, _, hw⟩ := DataW.trod_int ht h
  exact ⟨a, by injection he, hw⟩
theorem leaf_bool (ht : P.underlying t = some .bool) (h : DataW.trod enc P w base spare held n t [c] = some x) : ∃ b, c = .bool b := by
  obtain ⟨b, he, _⟩ := DataW.trod_bool ht h
  exact ⟨b, by injection he⟩
theorem leaf_rows {α : Type} {d : Kd α} (Q : α → Prop) (ht : P.underlying t = some (.slice e)) (hsz : P.cellsOf e = d.sz)
    (hel : ∀ (n : Nat) (cs : List Value) (y : DataW H × List MemPlace), cs.length = P.cellsOf e → DataW.trod enc P w base spare held n e cs = some y → ∃ s, d.K w s cs ∧ Q s)
    (h : DataW.trod enc P w base spare held n t [c] = some x) : ∃ (A : Option Addr) (cap : Nat) (l : List α), c = .slice A l.length cap ∧ d.C w A l.length l ∧ l.length ≤ cap ∧ l.length ≤ maxLen ∧ ∀ s ∈ l, Q s := by
  rcases open_slice ht h with ⟨hcs, _⟩ | ⟨a, len, cap, m, n', D, Pl, hcs, _, hl, hm, hmm, hx, hi⟩
  · injection hcs with hc
    exact ⟨none, 0, [], hc, ⟨rfl, Nat.zero_le _, fun hn => absurd hn (Nat.lt_irrefl 0)⟩, Nat.le_refl _, Nat.zero_le _, fun s hs => by cases hs⟩
  · have hc : c = .slice (some a) len cap := by injection hcs
    have hlm : len ≤ m := by rw [hmm]; split <;> omega
    have key : ∀ i, i < len → ∃ s cs, cs.length = d.sz ∧ d.K w s cs ∧ Q s ∧ ∀ j u, cs[j]? = some u → w.cell? (a.add (i * d.sz + j)) = some u := by
      intro i hil
      obtain ⟨cs', hcells, htr⟩ := hi i (by omega)
      rw [hsz] at hcells
      obtain ⟨_, hcl, hat⟩ := World.cells?_some hcells
      obtain ⟨s, hk, hq⟩ := hel n' cs' _ (by rw [hsz]; exact hcl) htr
      refine ⟨s, cs', hcl, hk, hq, fun j u hu => ?_⟩
      have hj : j < cs'.length := (List.getElem?_eq_some_iff.1 hu).1
      have := hat j (by omega)
      rw [Go.Deep.add_add] at this
      rw [this]; exact hu
    have ex : ∃ l : List α, l.length = len ∧ ∀ i s, l[i]? = some s → Q s ∧ ∃ cs, cs.length = d.sz ∧ d.K w s cs ∧ ∀ j u, cs[j]? = some u → w.cell? (a.add (i * d.sz + j)) = some u := by
      clear hi hc hl hm hmm hlm hcs hx
      induction len with
      | zero => exact ⟨[], rfl, fun i s hs => by simp at hs⟩
      | succ len ih =>
        obtain ⟨l, hll, hl⟩ := ih (fun i hil => key i (by omega))
        obtain ⟨s, cs, h1, h2, h3, h4⟩ := key len (by omega)
        refine ⟨l ++ [s], by simp [hll], fun i z hz => ?_⟩
        rcases Nat.lt_or_ge i l.length with hlt | hge
        · rw [List.getElem?_append_left hlt] at hz
          exact hl i z hz
        · have hi : i = len := by
            have := (List.getElem?_eq_some_iff.1 hz).1
            rw [List.length_append, List.length_singleton] at this
            omega
          subst hi
          rw [List.getElem?_append_right hge, hll, Nat.sub_self] at hz
          have : s = z := by simpa using hz
          subst this
          exact ⟨h3, cs, h1, h2, h4⟩
    obtain ⟨l, hll, hl'⟩ := ex
    refine ⟨some a, cap, l, by rw [hll]; exact hc, ⟨rfl, by rw [hll]; unfold maxLen at hm; omega, fun _ => ⟨a, rfl, fun j p hj => ?_⟩⟩, by omega, by omega, fun s hs => ?_⟩
    · obtain ⟨_, cs, h1, h2, h4⟩ := hl' j p hj
      exact ⟨cs, h1, h2, h4⟩
    · obtain ⟨i, hi'⟩ := List.getElem?_of_mem hs
      exact (hl' i s hi').1
theorem leaf_ints {k : IntKind} (ht : P.underlying t = some (.slice e)) (he : P.underlying e = some (.int k)) (hc1 : P.cellsOf e = 1) (h : DataW.trod enc P w base spare held n t [c] = some x) :
    ∃ (A : Option Addr) (cap : Nat) (l : List Int), c = .slice A l.length cap ∧ Kd.C (Kd.int k) w A l.length l ∧ l.length ≤ cap ∧ l.length ≤ maxLen ∧ ∀ z ∈ l, (Lit.int k z).wf = true :=
  leaf_rows (d := Kd.int k) (fun z => (Lit.int k z).wf = true) ht hc1 (fun n cs y hcs hy => by
    obtain ⟨a, rfl, _, hw⟩ := DataW.trod_int he hy
    exact ⟨a, rfl, hw⟩) h
theorem leaf_introws {k : IntKind} {e2 : TypeId} (ht : P.underlying t = some (.slice e)) (he : P.underlying e = some (.slice e2)) (he2 : P.underlying e2 = some (.int k)) (hc1 : P.cellsOf e = 1) (hc2 : P.cellsOf e2 = 1) (h : DataW.trod enc P w base spare held n t [c] = some x) :
    ∃ (A : Option Addr) (cap : Nat) (l : List (List Int)), c = .slice A l.length cap ∧ Kd.C (Kd.slice e2 (Kd.int k)) w A l.length l ∧ l.length ≤ cap ∧ l.length ≤ maxLen ∧ ∀ z ∈ l, z.length ≤ maxLen ∧ ∀ y ∈ z, (Lit.int k y).wf = true :=
  leaf_rows (d := Kd.slice e2 (Kd.int k)) (fun z => z.length ≤ maxLen ∧ ∀ y ∈ z, (Lit.int k y).wf = true) ht hc1 (fun n cs y hcs hy => by
    rw [hc1] at hcs
    obtain ⟨c1, rfl⟩ : ∃ c1, cs = [c1] := by
      match cs, hcs with
      | [c1], _ => exact ⟨c1, rfl⟩
    obtain ⟨A, cap, l, rfl, hC, hcap, hm, hw⟩ := leaf_ints he he2 hc2 hy
    exact ⟨l, ⟨A, cap, rfl, hcap, hC⟩, hm, hw⟩) h
/-- A struct's field, as a reading of its own cells. -/
theorem leaf_field {fs : Array Field} {cs : List Value} (ht : P.underlying t = some (.struct fs)) (h : DataW.trod enc P w base spare held n t cs = some x) :
    ∃ m, ∀ (i : Nat) (f : Field), fs[i]? = some f → ∃ y, DataW.trod enc P w base spare held m f.type ((cs.drop f.offset).take (P.cellsOf f.type)) = some y := by
  obtain ⟨xs, m, _, _, _, hlen, hg⟩ := DataW.trod_struct ht h
  refine ⟨m, fun i f hf => ?_⟩
  have hi : i < fs.size := (Array.getElem?_eq_some_iff.1 hf).1
  exact ⟨_, (hg i f hf).trans (List.getElem?_eq_getElem (by omega))⟩
end
end Go.Proofs.Ytbidnolopbjlaaa.L
end
section
/- The contracts of the reference's Sext and Get (layer 1). -/
namespace Go.Proofs.Ytbidnolopbjlaaa.Q
open Go.RowKit Go.Proofs.YtbidnolopbjlaaaW.PrintWords Go.Proofs.YtbidnolopbjlaaaW.PrintLast Go.Proofs.YtbidnolopbjlaaaW.PrintMore Go.Proofs.Ytbidnolopbjlaaa.L
attribute [local go_sem] max2_int min2_int max_two min_two max_three min_three max_four min_four
set_option linter.unusedVariables false
set_option linter.unusedSimpArgs false

def drawbridgeref01_Get.f (l0 : List Int) (a1 : Bool) : Option Int := if ∀ x ∈ l0.take 8, byte x then some (getB l0 a1) else none
set_option maxHeartbeats 8000000 in
set_option maxRecDepth 100000 in
theorem drawbridgeref01_Get.calls (A0 : Option Addr) (c0 : Nat) (l0 : List Int) (a1 : Bool) (r : Int) (w : World) (hr0 : Kd.C (Kd.int .u8) w A0 l0.length l0) (hc0 : l0.length ≤ c0) (h : drawbridgeref01_Get.f l0 a1 = some r) :
    Calls Try.prog 30 #[.slice A0 l0.length c0, .bool a1] w fun e w' => e = .returned (.int .u64 r) ∧ Below w.heap.size w w' := by
  have HR0 := Aside0.mk hr0
  have HC0 := Aside0.mk hc0
  have HB := Aside0.mk (Below.refl w.heap.size w)
  have hm : l0.length ≤ 9223372036854775807 := hr0.2.1
  clear hr0 hc0
  unfold drawbridgeref01_Get.f at h
  by_cases hby : ∀ x ∈ l0.take 8, byte x
  · rw [if_pos hby] at h
    obtain rfl := Option.some.inj h
    clear h
    have HBY := Aside0.mk hby
    clear hby
    have H8 : (l0.length : Int) ≤ 8 ∨ 8 < (l0.length : Int) := by omega
    obtain ⟨N, hN⟩ : ∃ N : Nat, N = (l0.take 8).length := ⟨_, rfl⟩
    have hN8 : N ≤ 8 := by rw [hN]; simp; omega
    have hNl : N ≤ l0.length := by rw [hN]; simp; omega
    have hE : l0.length ≤ N ∨ 8 ≤ N := by rw [hN]; simp; omega
    have HN := Aside0.mk hN
    clear hN
    cases a1
    · have hbs : ∀ k, k < N → (l0.take 8).reverse[k]? = some (rd l0 ((N - 1 - k : Nat) : Int)) := fun k hk => by
        unfold rd; rw [Int.toNat_natCast]; exact rev8_at l0 k _ (by rw [← HN.out]; exact hk) (by rw [← HN.out]; omega)
      have HBS := Aside0.mk hbs
      clear hbs
      have HBR := Aside0.mk (fun x (hx : x ∈ (l0.take 8).reverse) => HBY.out x (List.mem_reverse.1 hx))
      have HNR : Aside0 (N = (l0.take 8).reverse.length) := ⟨by rw [List.length_reverse]; exact HN.out⟩
      rcases H8 with H8 | H8
      all_goals
        go_enter Try.func30, Try.ntmps30
        go_wp2
        go_loop [5, 7] (fun v5 v7 => ∃ k : Nat, k ≤ N ∧ v7 = .int .i64 k ∧ v5 = .int .u64 (getLE ((l0.take 8).reverse.take k).reverse)) (fun _ v7 => N - (intOf v7).toNat)
        case atStart => exact ⟨0, Nat.zero_le _, rfl, rfl⟩
        case round =>
          obtain ⟨k, hk, rfl, rfl⟩ := hrel
          by_cases hlt : k < N
          · obtain ⟨ad, rfl, hc⟩ := Kd.at_int HR0.out ((N - 1 - k : Nat) : Int) (by omega) (by omega)
            rw [Int.toNat_natCast] at hc
            have hc1 : l0.length ≤ 8 → w.cell? (ad.add (l0.length - 1 - k)) = some (.int .u8 (rd l0 ((N - 1 - k : Nat) : Int))) := fun h => by rw [show l0.length - 1 - k = N - 1 - k by omega]; exact hc
            have hc2 : 8 < l0.length → w.cell? (ad.add (8 - 1 - k)) = some (.int .u8 (rd l0 ((N - 1 - k : Nat) : Int))) := fun h => by rw [show 8 - 1 - k = N - 1 - k by omega]; exact hc
            first | (replace hc1 := hc1 (by omega)) | (replace hc2 := hc2 (by omega))
            go_wp2
            all_goals
              go_round
              case rel => exact ⟨k + 1, by omega, by go_num, congrArg _ (horner_step _ k _ (by have := HNR.out; omega) (by have := HNR.out; omega) HBR.out (HBS.out k hlt))⟩
              case measure => simp [intOf]; omega
          · go_wp2
            go_ret
            exact ⟨congrArg (fun z => Ending.returned (.int .u64 z)) (by rw [List.take_of_length_le (by have := HNR.out; omega), List.reverse_reverse]; rfl), HB.out⟩
    · have hbs : ∀ k, k < N → (l0.take 8)[k]? = some (rd l0 (k : Int)) := fun k hk => by
        rw [HN.out] at hk; unfold rd; rw [Int.toNat_natCast]; exact take8_at l0 k hk
      have HBS := Aside0.mk hbs
      clear hbs
      rcases H8 with H8 | H8
      all_goals
        go_enter Try.func30, Try.ntmps30
        go_wp2
        go_loop [5, 7] (fun v5 v7 => ∃ k : Nat, k ≤ N ∧ v7 = .int .i64 k ∧ v5 = .int .u64 (getLE ((l0.take 8).take k).reverse)) (fun _ v7 => N - (intOf v7).toNat)
        case atStart => exact ⟨0, Nat.zero_le _, rfl, rfl⟩
        case round =>
          obtain ⟨k, hk, rfl, rfl⟩ := hrel
          by_cases hlt : k < N
          · obtain ⟨ad, rfl, hc⟩ := Kd.at_int HR0.out (k : Int) (by omega) (by omega)
            rw [Int.toNat_natCast] at hc
            go_wp2
            all_goals
              go_round
              case rel => exact ⟨k + 1, by omega, by go_num, congrArg _ (horner_step _ k _ (by have := HN.out; omega) (by have := HN.out; omega) HBY.out (HBS.out k hlt))⟩
              case measure => simp [intOf]; omega
          · go_wp2
            go_ret
            exact ⟨congrArg (fun z => Ending.returned (.int .u64 z)) (by rw [List.take_of_length_le (by have := HN.out; omega)]; rfl), HB.out⟩
  · rw [if_neg hby] at h
    exact absurd h (by simp)

end Go.Proofs.Ytbidnolopbjlaaa.Q
end
section
/- The contract of slices.Clone over bytes. -/
namespace Go.Proofs.Ytbidnolopbjlaaa.Q
open Go.RowKit Go.Proofs.YtbidnolopbjlaaaW.PrintWords Go.Proofs.YtbidnolopbjlaaaW.PrintLast Go.Proofs.YtbidnolopbjlaaaW.PrintMore Go.Proofs.Ytbidnolopbjlaaa.L
attribute [local go_sem] Instr.field part asAgg lt_step max2_int min2_int max_two min_two max_three min_three max_four min_four lt_0_1 lt_0_2 lt_1_2 lt_0_3 lt_1_3 lt_2_3 lt_0_4 lt_1_4 lt_2_4 lt_3_4 lt_0_5 lt_1_5 lt_2_5 lt_3_5 lt_4_5 lt_0_6 lt_1_6 lt_2_6 lt_3_6 lt_4_6 lt_5_6 lt_0_7 lt_1_7 lt_2_7 lt_3_7 lt_4_7 lt_5_7 lt_6_7 lt_0_8 lt_1_8 lt_2_8 lt_3_8 lt_4_8 lt_5_8 lt_6_8 lt_7_8
set_option linter.unusedVariables false
set_option linter.unusedSimpArgs false
theorem infoB : (Try.prog.info? 5).map (fun i => (i.zero, i.size, i.bytes)) = some (some (.int .u8 0), 1, 1) := by kernel_rfl
def slices_Clone_byte_byte.f (l : List Int) : Option (List Int) := if l.length < 140737488355328 then some l else none
set_option maxHeartbeats 1600000 in
set_option maxRecDepth 100000 in
theorem slices_Clone_byte_byte.calls (A0 : Option Addr) (c0 : Nat) (l0 : List Int) (r : List Int) (w : World) (hr0 : Kd.C (Kd.int .u8) w A0 l0.length l0) (hc0 : l0.length ≤ c0) (h : slices_Clone_byte_byte.f l0 = some r) :
    Calls Try.prog 39 #[.slice A0 l0.length c0] w fun e w' => ∃ v0_ : Value, e = .returned (v0_) ∧ Kd.R (Kd.int .u8) 5 w' w.heap.size (fun _ => True) v0_ r ∧ Below w.heap.size w w' := by
  unfold slices_Clone_byte_byte.f at h
  split at h
  case isFalse => cases h
  case isTrue hl =>
  injection h with h; subst h
  have HB := Aside0.mk (Below.refl w.heap.size w)
  have HR := Aside0.mk hr0
  have HC := Aside0.mk hc0
  have HL := Aside0.mk hl
  cases A0 with
  | none =>
    have h0 : l0 = [] := by
      have := hr0.2.2
      cases l0 with
      | nil => rfl
      | cons x xs => obtain ⟨ad, e, _⟩ := this (by simp); cases e
    subst h0
    clear hr0 hc0 hl
    have hnil : ∀ W, (binOp .eql 22 (.slice none 0 c0) (.slice none 0 0)).run Try.prog W = .ok (.bool true) W := fun W => Lib.run_eql_slice_nil W _ _ _ _ _ _ _ Try.underlying22
    go_enter Try.func39, Try.ntmps39
    go_wp2
    refine bodyPost_ret (v := .slice none 0 0) (by simp [results, Try.results39, go_sem]) rfl ?_
    exact ⟨_, rfl, Kd.R_nil _ _ _ _ _, HB.out⟩
  | some ad =>
    clear hr0 hc0 hl
    have hnil : ∀ W, (binOp .eql 22 (.slice (some ad) l0.length c0) (.slice none 0 0)).run Try.prog W = .ok (.bool false) W := fun W => Lib.run_eql_slice_nil W _ _ _ _ _ _ _ Try.underlying22
    go_enter Try.func39, Try.ntmps39
    go_wp2_with (first | ((with_reducible refine gate_dst (N := 5) rfl ?_); refine Kd.R_lit (Kd.int .u8) _ 5 ?hg (N := 5) ?hd (xs := ([] : List Int)) (inner := []) (ok := fun _ => True) (okp := fun _ => True) ?hr ?hp (fun _ hk => hk) trivial (Below.refl _ _) (Nat.le_refl _) (by simp) ?_; (case hd => rfl); (case hg => rfl); (case hr => first | (go_simp; done) | (go_simp; rfl)); (case hp => exact (Reps.none _ _)); intro v1 w1 ho1 hb hg_ hnew_; clear hg_ hnew_; have HO1 := Aside0.mk ho1; have HB1 := Aside0.mk hb; clear ho1 hb) | ((with_reducible refine gate_builtin (b := .append) (xs := #[.tmp 5, .tmp 6]) rfl ?_); at_builtin; refine Kd.R_append_rows (Kd.int .u8) (w0 := w) w.heap.size rfl (.tmp 5) (.tmp 6) 22 5 (.int .u8 0) 1 rfl Try.underlying22 infoB rfl (by decide) (by omega) v1 [] l0 _ _ _ (fun _ => True) (fun _ => False) rfl rfl ?aO ?aR (fun _ _ h => h) (fun _ h => h.elim) ?aF ?aB ?aS ?aL ?_; (case aR => repeat (first | exact (Kd.C_below HR.out HB1.out) | (with_reducible refine Kd.C_alloc ?_ _) | (with_reducible refine Kd.C_drewN ?_ _) | (with_reducible refine Kd.C_drew ?_))); (case aB => exact HB1.out); (case aF => exact (fun _ _ => trivial)); (case aO => exact HO1.out); (case aS => exact HB1.out.size); (case aL => have := HL.out; simp; omega); intro v2 w2 ho hb hg hat; rw [List.nil_append] at ho; have HO2 := Aside0.mk ho; have HB2 := Aside0.mk hb; clear ho hb hg hat))
    refine bodyPost_ret (v := v2) (by simp [results, Try.results39, go_sem]) rfl ?_
    exact ⟨_, rfl, HO2.out, HB2.out⟩
end Go.Proofs.Ytbidnolopbjlaaa.Q
end
section
/- Rows of whole numbers that are read, over a store elsewhere. -/
namespace Go.Proofs.Ytbidnolopbjlaaa.L
open Go.RowKit Go.Proofs.YtbidnolopbjlaaaW.PrintWords
theorem C_set {k : IntKind} {w : World} {A : Option Addr} {n : Nat} {xs : List Int} (h : Kd.C (Kd.int k) w A n xs) {g : Nat} (hne : ∀ ad, A = some ad → 0 < n → ad.block ≠ g) (j : Nat) (u : Value) : Kd.C (Kd.int k) (w.setCell ⟨g, j, none⟩ u) A n xs := by
  obtain ⟨h1, h2, h3⟩ := h
  refine ⟨h1, h2, fun hp => ?_⟩
  obtain ⟨ad, e, hc⟩ := h3 hp
  refine ⟨ad, e, fun i p hi => ?_⟩
  obtain ⟨c, hl, hK, hcell⟩ := hc i p hi
  refine ⟨c, hl, hK, fun q v hv => ?_⟩
  rw [World.cell?_setCell_other _ _ _ _ (fun he => hne ad e hp (by have h9 := congrArg Addr.block he; rw [show (ad.add (i * (Kd.int k).sz + q)).block = ad.block from by cases ad; unfold Addr.add; (repeat' split) <;> rfl] at h9; exact h9.symm))]
  exact hcell q v hv
theorem R_block {k : IntKind} {e : Nat} {w : World} {base : Nat} {ok : Nat → Prop} {A : Option Addr} {n c : Nat} {xs : List Int} (h : Kd.R (Kd.int k) e w base ok (.slice A n c) xs) : ∀ ad, A = some ad → 0 < n → base ≤ ad.block := by
  intro ad ha hn
  have h1 := (Kd.R_reads' h).1
  obtain ⟨g, cap, he, hb, _⟩ := Kd.R_form h (by omega)
  injection he with e1 e2 e3
  rw [ha] at e1
  injection e1 with e1
  rw [e1]
  exact hb
theorem dr {P : Program} {f : FuncId} {args : Array Value} {w : World} {r : Ending} (h : Calls P f args w fun e w' => e = r ∧ Drawn0 w w') : Calls P f args w fun e w' => e = r ∧ Below w.heap.size w w' := h.mono fun _ _ ⟨a, b⟩ => ⟨a, b.below⟩
end Go.Proofs.Ytbidnolopbjlaaa.L
end
section
/- The contracts of the reference's Sext and Get (layer 1). -/
namespace Go.Proofs.Ytbidnolopbjlaaa.Q
open Go.RowKit Go.Proofs.YtbidnolopbjlaaaW.PrintWords Go.Proofs.YtbidnolopbjlaaaW.PrintLast Go.Proofs.YtbidnolopbjlaaaW.PrintMore Go.Proofs.Ytbidnolopbjlaaa.L
attribute [local go_sem] max2_int min2_int max_two min_two max_three min_three max_four min_four
set_option linter.unusedVariables false
set_option linter.unusedSimpArgs false

def drawbridgeref01_Sext.f (a0 : Int) (a1 : Int) : Option Int := if u64B a0 then some (sextZ a0 a1) else none
set_option maxHeartbeats 8000000 in
set_option maxRecDepth 100000 in
theorem drawbridgeref01_Sext.calls (a0 : Int) (a1 : Int) (r : Int) (w : World) (h : drawbridgeref01_Sext.f a0 a1 = some r) :
    Calls Try.prog 24 #[.int .u64 a0, .int .i64 a1] w fun e w' => e = .returned (.int .u64 r) ∧ Drawn0 w w' := by
  unfold drawbridgeref01_Sext.f at h
  by_cases hx : u64B a0
  · rw [if_pos hx] at h
    obtain rfl := Option.some.inj h
    clear h
    obtain ⟨hx0, hx1⟩ := hx
    by_cases h1 : a1 < 1
    · have HZ := Aside0.mk (sextZ_le a0 a1 (by omega))
      go_enter Try.func24, Try.ntmps24
      go_wp2
      go_ret
      exact ⟨by rw [HZ.out]; rfl, Drawn0.refl _⟩
    · by_cases h2 : 63 < a1
      · have HZ := Aside0.mk (sextZ_ge a0 a1 (by omega))
        go_enter Try.func24, Try.ntmps24
        go_wp2
        go_ret
        exact ⟨by rw [HZ.out]; rfl, Drawn0.refl _⟩
      · obtain ⟨n, rfl⟩ := Int.eq_ofNat_of_zero_le (show 0 ≤ a1 by omega)
        go_enter Try.func24, Try.ntmps24
        go_wp2
        · rename_i h
          rw [wrap_two_pow (by omega)] at h
          have := two_pow_pos n
          omega
        · go_ret
          exact ⟨congrArg (fun z => Ending.returned (.int .u64 z)) (sext_hi a0 n (by omega) (by omega) ‹_›), Drawn0.refl _⟩
        · go_ret
          exact ⟨congrArg (fun z => Ending.returned (.int .u64 z)) (sext_lo a0 n (by omega) (by omega) ‹_›), Drawn0.refl _⟩
  · rw [if_neg hx] at h
    exact absurd h (by simp)
end Go.Proofs.Ytbidnolopbjlaaa.Q
end
section
/- sv39.Fault's contract. -/
namespace Go.Proofs.Ytbidnolopbjlaaa.Q
open Go.RowKit Go.Proofs.YtbidnolopbjlaaaW.PrintWords Go.Proofs.YtbidnolopbjlaaaW.PrintLast Go.Proofs.YtbidnolopbjlaaaW.PrintMore Go.Proofs.Ytbidnolopbjlaaa.L
attribute [local go_sem] Instr.field part asAgg lt_step max2_int min2_int max_two min_two max_three min_three max_four min_four lt_0_1 lt_0_2 lt_1_2 lt_0_3 lt_1_3 lt_2_3 lt_0_4 lt_1_4 lt_2_4 lt_3_4 lt_0_5 lt_1_5 lt_2_5 lt_3_5 lt_4_5 lt_0_6 lt_1_6 lt_2_6 lt_3_6 lt_4_6 lt_5_6 lt_0_7 lt_1_7 lt_2_7 lt_3_7 lt_4_7 lt_5_7 lt_6_7 lt_0_8 lt_1_8 lt_2_8 lt_3_8 lt_4_8 lt_5_8 lt_6_8 lt_7_8
set_option linter.unusedVariables false
set_option linter.unusedSimpArgs false
def faultZ (kind : Int) (paged : Bool) : Int := if kind = 0 then (if paged then 12 else 1) else if kind = 2 then (if paged then 15 else 7) else (if paged then 13 else 5)
def sv39_Fault.f (a0 : Int) (a1 : Bool) : Option (Int) := some (faultZ a0 a1)
set_option maxHeartbeats 1600000 in
set_option maxRecDepth 100000 in
theorem fault_s0_false  (w : World) :
    Calls Try.prog 12 #[.int .i64 0, .bool false] w fun e w' => e = .returned (.int .i64 1) ∧ Below w.heap.size w w' := by
  have HB := Aside0.mk (Below.refl w.heap.size w)
  go_enter Try.func12, Try.ntmps12
  go_wp2
  refine bodyPost_ret (v := .int .i64 1) (by simp [results, Try.results12, go_sem] <;> first | assumption | omega | (symm; assumption)) rfl ?_
  exact ⟨rfl, (by repeat (first | (with_reducible first | exact HB.out | exact Below.refl _ _ | apply below_alloc | apply pw_below_drewN | apply below_drew | refine below_set ?_ (by omega)) | exact HB.out))⟩
set_option maxHeartbeats 1600000 in
set_option maxRecDepth 100000 in
theorem fault_s0_true  (w : World) :
    Calls Try.prog 12 #[.int .i64 0, .bool true] w fun e w' => e = .returned (.int .i64 12) ∧ Below w.heap.size w w' := by
  have HB := Aside0.mk (Below.refl w.heap.size w)
  go_enter Try.func12, Try.ntmps12
  go_wp2
  refine bodyPost_ret (v := .int .i64 12) (by simp [results, Try.results12, go_sem] <;> first | assumption | omega | (symm; assumption)) rfl ?_
  exact ⟨rfl, (by repeat (first | (with_reducible first | exact HB.out | exact Below.refl _ _ | apply below_alloc | apply pw_below_drewN | apply below_drew | refine below_set ?_ (by omega)) | exact HB.out))⟩
set_option maxHeartbeats 1600000 in
set_option maxRecDepth 100000 in
theorem fault_s2_false  (w : World) :
    Calls Try.prog 12 #[.int .i64 2, .bool false] w fun e w' => e = .returned (.int .i64 7) ∧ Below w.heap.size w w' := by
  have HB := Aside0.mk (Below.refl w.heap.size w)
  go_enter Try.func12, Try.ntmps12
  go_wp2
  refine bodyPost_ret (v := .int .i64 7) (by simp [results, Try.results12, go_sem] <;> first | assumption | omega | (symm; assumption)) rfl ?_
  exact ⟨rfl, (by repeat (first | (with_reducible first | exact HB.out | exact Below.refl _ _ | apply below_alloc | apply pw_below_drewN | apply below_drew | refine below_set ?_ (by omega)) | exact HB.out))⟩
set_option maxHeartbeats 1600000 in
set_option maxRecDepth 100000 in
theorem fault_s2_true  (w : World) :
    Calls Try.prog 12 #[.int .i64 2, .bool true] w fun e w' => e = .returned (.int .i64 15) ∧ Below w.heap.size w w' := by
  have HB := Aside0.mk (Below.refl w.heap.size w)
  go_enter Try.func12, Try.ntmps12
  go_wp2
  refine bodyPost_ret (v := .int .i64 15) (by simp [results, Try.results12, go_sem] <;> first | assumption | omega | (symm; assumption)) rfl ?_
  exact ⟨rfl, (by repeat (first | (with_reducible first | exact HB.out | exact Below.refl _ _ | apply below_alloc | apply pw_below_drewN | apply below_drew | refine below_set ?_ (by omega)) | exact HB.out))⟩
set_option maxHeartbeats 1600000 in
set_option maxRecDepth 100000 in
theorem fault_so_false (kind : Int) (h0 : (kind == 0) = false) (h2 : (kind == 2) = false) (w : World) :
    Calls Try.prog 12 #[.int .i64 kind, .bool false] w fun e w' => e = .returned (.int .i64 5) ∧ Below w.heap.size w w' := by
  have HB := Aside0.mk (Below.refl w.heap.size w)
  go_enter Try.func12, Try.ntmps12
  go_wp2
  refine bodyPost_ret (v := .int .i64 5) (by simp [results, Try.results12, go_sem] <;> first | assumption | omega | (symm; assumption)) rfl ?_
  exact ⟨rfl, (by repeat (first | (with_reducible first | exact HB.out | exact Below.refl _ _ | apply below_alloc | apply pw_below_drewN | apply below_drew | refine below_set ?_ (by omega)) | exact HB.out))⟩
set_option maxHeartbeats 1600000 in
set_option maxRecDepth 100000 in
theorem fault_so_true (kind : Int) (h0 : (kind == 0) = false) (h2 : (kind == 2) = false) (w : World) :
    Calls Try.prog 12 #[.int .i64 kind, .bool true] w fun e w' => e = .returned (.int .i64 13) ∧ Below w.heap.size w w' := by
  have HB := Aside0.mk (Below.refl w.heap.size w)
  go_enter Try.func12, Try.ntmps12
  go_wp2
  refine bodyPost_ret (v := .int .i64 13) (by simp [results, Try.results12, go_sem] <;> first | assumption | omega | (symm; assumption)) rfl ?_
  exact ⟨rfl, (by repeat (first | (with_reducible first | exact HB.out | exact Below.refl _ _ | apply below_alloc | apply pw_below_drewN | apply below_drew | refine below_set ?_ (by omega)) | exact HB.out))⟩
theorem fault_runs (kind : Int) (paged : Bool) (w : World) :
    Calls Try.prog 12 #[.int .i64 kind, .bool paged] w fun e w' => e = .returned (.int .i64 (faultZ kind paged)) ∧ Below w.heap.size w w' := by
  unfold faultZ
  by_cases h0 : kind = 0
  · subst h0; rw [if_pos rfl]
    cases paged
    · exact fault_s0_false w
    · exact fault_s0_true w
  · rw [if_neg h0]
    by_cases h2 : kind = 2
    · subst h2; rw [if_pos rfl]
      cases paged
      · exact fault_s2_false w
      · exact fault_s2_true w
    · rw [if_neg h2]
      cases paged
      · exact fault_so_false kind (beq_eq_false_iff_ne.2 h0) (beq_eq_false_iff_ne.2 h2) w
      · exact fault_so_true kind (beq_eq_false_iff_ne.2 h0) (beq_eq_false_iff_ne.2 h2) w
theorem sv39_Fault.calls (a0 : Int) (a1 : Bool) (r : Int) (w : World) (h : sv39_Fault.f a0 a1 = some r) : Calls Try.prog 12 #[.int .i64 a0, .bool a1] w fun e w' => e = .returned (.int .i64 r) ∧ Below w.heap.size w w' := by
  injection h with h; subst h; exact fault_runs a0 a1 w
end Go.Proofs.Ytbidnolopbjlaaa.Q
end
section
/- The contract of bits.Get. -/
namespace Go.Proofs.Ytbidnolopbjlaaa.Q
open Go.RowKit Go.Proofs.YtbidnolopbjlaaaW.PrintWords Go.Proofs.YtbidnolopbjlaaaW.PrintLast Go.Proofs.YtbidnolopbjlaaaW.PrintMore Go.Proofs.Ytbidnolopbjlaaa.L
attribute [local go_sem] max2_int min2_int max_two min_two max_three min_three max_four min_four
set_option linter.unusedVariables false
set_option linter.unusedSimpArgs false

/-! ### bits.Get: only of bytes -/
def bits_Get.f (l0 : List Int) (a1 : Bool) : Option Int := if ∀ x ∈ l0.take 8, byte x then some (getB l0 a1) else none
set_option maxHeartbeats 8000000 in
set_option maxRecDepth 100000 in
theorem bits_Get.calls (A0 : Option Addr) (c0 : Nat) (l0 : List Int) (a1 : Bool) (r : Int) (w : World) (hr0 : Kd.C (Kd.int .u8) w A0 l0.length l0) (hc0 : l0.length ≤ c0) (h : bits_Get.f l0 a1 = some r) :
    Calls Try.prog 33 #[.slice A0 l0.length c0, .bool a1] w fun e w' => e = .returned (.int .u64 r) ∧ Below w.heap.size w w' := by
  have HR0 := Aside0.mk hr0
  have HC0 := Aside0.mk hc0
  have HB := Aside0.mk (Below.refl w.heap.size w)
  have hm : l0.length ≤ 9223372036854775807 := hr0.2.1
  clear hr0 hc0
  unfold bits_Get.f at h
  by_cases hby : ∀ x ∈ l0.take 8, byte x
  · rw [if_pos hby] at h
    obtain rfl := Option.some.inj h
    clear h
    have HBY := Aside0.mk hby
    clear hby
    have H8 : (l0.length : Int) ≤ 8 ∨ 8 < (l0.length : Int) := by omega
    obtain ⟨N, hN⟩ : ∃ N : Nat, N = (l0.take 8).length := ⟨_, rfl⟩
    have hN8 : N ≤ 8 := by rw [hN]; simp; omega
    have hNl : N ≤ l0.length := by rw [hN]; simp; omega
    have hE : l0.length ≤ N ∨ 8 ≤ N := by rw [hN]; simp; omega
    have HN := Aside0.mk hN
    clear hN
    cases a1
    · have hbs : ∀ k, k < N → (l0.take 8)[k]? = some (rd l0 (k : Int)) := fun k hk => by
        rw [HN.out] at hk; unfold rd; rw [Int.toNat_natCast]; exact take8_at l0 k hk
      have HBS := Aside0.mk hbs
      clear hbs
      rcases H8 with H8 | H8
      all_goals
        go_enter Try.func33, Try.ntmps33
        go_wp2
        go_loop [5, 13] (fun v5 v13 => ∃ k : Nat, k ≤ N ∧ v13 = .int .i64 k ∧ v5 = .int .u64 (getLE ((l0.take 8).take k))) (fun _ v13 => N - (intOf v13).toNat)
        case atStart => exact ⟨0, Nat.zero_le _, rfl, rfl⟩
        case round =>
          obtain ⟨k, hk, rfl, rfl⟩ := hrel
          by_cases hlt : k < N
          · obtain ⟨ad, rfl, hc⟩ := Kd.at_int HR0.out (k : Int) (by omega) (by omega)
            rw [Int.toNat_natCast] at hc
            go_wp2
            all_goals
              go_round
              case rel => exact ⟨k + 1, by omega, by go_num, congrArg _ (get_step _ k _ (by have := HN.out; omega) (by have := HN.out; omega) HBY.out (HBS.out k hlt))⟩
              case measure => simp [intOf]; omega
          · go_wp2
            go_ret
            exact ⟨congrArg (fun z => Ending.returned (.int .u64 z)) (by rw [List.take_of_length_le (by have := HN.out; omega)]; rfl), HB.out⟩
    · have hbs : ∀ k, k < N → (l0.take 8).reverse[k]? = some (rd l0 ((N - 1 - k : Nat) : Int)) := fun k hk => by
        unfold rd; rw [Int.toNat_natCast]; exact rev8_at l0 k _ (by rw [← HN.out]; exact hk) (by rw [← HN.out]; omega)
      have HBS := Aside0.mk hbs
      clear hbs
      have HBR := Aside0.mk (fun x (hx : x ∈ (l0.take 8).reverse) => HBY.out x (List.mem_reverse.1 hx))
      have HNR : Aside0 (N = (l0.take 8).reverse.length) := ⟨by rw [List.length_reverse]; exact HN.out⟩
      rcases H8 with H8 | H8
      all_goals
        go_enter Try.func33, Try.ntmps33
        go_wp2
        go_loop [5, 13] (fun v5 v13 => ∃ k : Nat, k ≤ N ∧ v13 = .int .i64 k ∧ v5 = .int .u64 (getLE ((l0.take 8).reverse.take k))) (fun _ v13 => N - (intOf v13).toNat)
        case atStart => exact ⟨0, Nat.zero_le _, rfl, rfl⟩
        case round =>
          obtain ⟨k, hk, rfl, rfl⟩ := hrel
          by_cases hlt : k < N
          · obtain ⟨ad, rfl, hc⟩ := Kd.at_int HR0.out ((N - 1 - k : Nat) : Int) (by omega) (by omega)
            rw [Int.toNat_natCast] at hc
            have hc1 : l0.length ≤ 8 → w.cell? (ad.add (l0.length - 1 - k)) = some (.int .u8 (rd l0 ((N - 1 - k : Nat) : Int))) := fun h => by rw [show l0.length - 1 - k = N - 1 - k by omega]; exact hc
            have hc2 : 8 < l0.length → w.cell? (ad.add (8 - 1 - k)) = some (.int .u8 (rd l0 ((N - 1 - k : Nat) : Int))) := fun h => by rw [show 8 - 1 - k = N - 1 - k by omega]; exact hc
            first | (replace hc1 := hc1 (by omega)) | (replace hc2 := hc2 (by omega))
            go_wp2
            all_goals
              go_round
              case rel => exact ⟨k + 1, by omega, by go_num, congrArg _ (get_step _ k _ (by have := HNR.out; omega) (by have := HNR.out; omega) HBR.out (HBS.out k hlt))⟩
              case measure => simp [intOf]; omega
          · go_wp2
            go_ret
            exact ⟨congrArg (fun z => Ending.returned (.int .u64 z)) (by rw [List.take_of_length_le (by have := HNR.out; omega)]; rfl), HB.out⟩
  · rw [if_neg hby] at h
    exact absurd h (by simp)

end Go.Proofs.Ytbidnolopbjlaaa.Q
end
section
/- Rows of whole numbers that are read, with the blocks they may lie in. -/
namespace Go.Proofs.Ytbidnolopbjlaaa.L
open Go.RowKit Go.Proofs.YtbidnolopbjlaaaW.PrintWords
theorem sz_alloc (w : World) (o : Obj) : (w.alloc o).heap.size = w.heap.size + 1 := by simp
theorem sz_drew (w : World) : w.drew.heap.size = w.heap.size := rfl
theorem sz_drewN (w : World) (n : Nat) : (w.drewN n).heap.size = w.heap.size := rfl
theorem sz_set (w : World) (p : Addr) (v : Value) : (w.setCell p v).heap.size = w.heap.size := by simp
theorem cell_of_heap {W W' : World} {a : Addr} {v : Value} (h : W.cell? a = some v) (hk : W'.heap[a.block]? = W.heap[a.block]?) : W'.cell? a = some v := by
  unfold World.cell? at h ⊢; rw [hk]; exact h
theorem add_block (a : Addr) (j : Nat) : (a.add j).block = a.block := by cases a; unfold Addr.add; (repeat' split) <;> rfl
theorem F_of_C {k : IntKind} {W : World} {ok : Nat → Prop} {A : Option Addr} {n : Nat} {xs : List Int} (h : Kd.C (Kd.int k) W A n xs) (hb : ∀ ad, A = some ad → 0 < n → ok ad.block) : Kd.F (Kd.int k) W ok A n xs := by
  intro W' hW
  obtain ⟨h1, h2, h3⟩ := h
  refine ⟨h1, h2, fun hp => ?_⟩
  obtain ⟨ad, e, hc⟩ := h3 hp
  refine ⟨ad, e, fun i p hi => ?_⟩
  obtain ⟨c, hl, hK, hcell⟩ := hc i p hi
  refine ⟨c, hl, hK, fun q v hv => ?_⟩
  have h5 := hcell q v hv
  refine cell_of_heap h5 ?_
  rw [add_block]
  have h6 := World.block_lt_of_cell? W _ h5
  rw [add_block] at h6
  exact hW _ (hb ad e hp) h6
/-- A row of what came in. -/
theorem F_in {k : IntKind} {W : World} {A : Option Addr} {n : Nat} {xs : List Int} (h : Kd.C (Kd.int k) W A n xs) : Kd.F (Kd.int k) W (fun j => j < W.heap.size) A n xs := by
  refine F_of_C h (fun ad e hp => ?_)
  obtain ⟨ad', e', hc⟩ := h.2.2 hp
  rw [e] at e'; injection e' with e'; subst e'
  have hx : 0 < xs.length := by rw [h.1]; exact hp
  obtain ⟨c, hl, hK, hcell⟩ := hc 0 (xs[0]) (List.getElem?_eq_getElem hx)
  have hl' : 0 < c.length := by rw [hl]; exact Nat.zero_lt_one
  have h6 := World.block_lt_of_cell? W _ (hcell 0 c[0] (List.getElem?_eq_getElem hl'))
  rw [add_block] at h6
  exact h6
/-- A row that a call made. -/
theorem R_Fb {k : IntKind} {e : Nat} {w : World} {base : Nat} {ok : Nat → Prop} {A : Option Addr} {n c : Nat} {xs : List Int} (h : Kd.R (Kd.int k) e w base ok (.slice A n c) xs) : Kd.F (Kd.int k) w (fun j => base ≤ j) A n xs := by
  have h2 := Kd.R_reads' h
  have h3 := h2.1
  subst h3
  exact F_of_C h2.2.2 (R_block h)
theorem R_Fl {k : IntKind} {e : Nat} {w : World} {base : Nat} {ok : Nat → Prop} {v : Value} {xs : List Int} (h : Kd.R (Kd.int k) e w base ok v xs) : ∃ A c, v = .slice A xs.length c ∧ xs.length ≤ c ∧ Kd.F (Kd.int k) w (fun j => base ≤ j) A xs.length xs := by
  obtain ⟨A, c, ev⟩ := Kd.R_slice h
  subst ev
  exact ⟨A, c, rfl, (Kd.R_reads' h).2.1, R_Fb h⟩
theorem F_w {k : IntKind} {W W1 : World} {ok ok' : Nat → Prop} {A : Option Addr} {n : Nat} {xs : List Int} (h : Kd.F (Kd.int k) W ok A n xs) (hb : Below W.heap.size W W1) (hk : ∀ j, ok j → ok' j) : Kd.F (Kd.int k) W1 ok' A n xs := Kd.F_mono (Kd.F_below h hb) hk
/-- A literal's block, read. -/
theorem C_blk {k : IntKind} {W : World} {g n : Nat} {cs : Array Value} {t : TypeId} {fr : Nat × Nat} {xs : List Int} (h : W.heap[g]? = some (.cells cs t fr)) (hn : xs.length = n) (hm : n ≤ 9223372036854775807) (hc : cs = (xs.map (Value.int k)).toArray) : Kd.C (Kd.int k) W (some ⟨g, 0, none⟩) n xs := by
  refine ⟨hn, hm, fun _ => ⟨_, rfl, fun i x hi => ⟨[Value.int k x], rfl, rfl, fun q v hv => ?_⟩⟩⟩
  have hq : q = 0 := by have := (List.getElem?_eq_some_iff.1 hv).1; simp at this; exact this
  subst hq
  have e1 : (Addr.add ⟨g, 0, none⟩ (i * (Kd.int k).sz + 0)) = ⟨g, i, none⟩ := by
    show Addr.add ⟨g, 0, none⟩ (i * 1 + 0) = _
    rw [Nat.mul_one, Nat.add_zero]; unfold Addr.add; split <;> simp_all
  rw [e1, show W.cell? ⟨g, i, none⟩ = cs[i]? from by simp [World.cell?, h], hc, List.getElem?_toArray, List.getElem?_map, hi]
  simpa using hv
theorem F_cell {k : IntKind} {W : World} {ok : Nat → Prop} {A : Option Addr} {n : Nat} {xs : List Int} (h : Kd.F (Kd.int k) W ok A n xs) (i : Nat) (hi : i < n) : ∃ ad, A = some ad ∧ W.cell? (ad.add i) = some (.int k (xs.getD i 0)) := by
  obtain ⟨_, _, h3⟩ := Kd.reads_of_C (d := (0 : Int)) (Kd.F_now h)
  obtain ⟨ad, e, hc⟩ := h3 (by omega)
  exact ⟨ad, e, hc i hi⟩
theorem add_eq (b o i : Nat) : (Addr.add ⟨b, o, none⟩ i) = ⟨b, o + i, none⟩ := by unfold Addr.add; split <;> simp_all
theorem F_cell' {k : IntKind} {W : World} {ok : Nat → Prop} {A : Option Addr} {n : Nat} {xs : List Int} (h : Kd.F (Kd.int k) W ok A n xs) (hn : 0 < n) : ∃ b o, A = some ⟨b, o, none⟩ ∧ ∀ i, i < n → W.cell? ⟨b, o + i, none⟩ = some (.int k (xs.getD i 0)) := by
  obtain ⟨_, _, h3⟩ := Kd.reads_of_C (d := (0 : Int)) (Kd.F_now h)
  obtain ⟨ad, e, hc⟩ := h3 hn
  have hs := World.cell?_spot (hc 0 hn)
  obtain ⟨b, o, sp⟩ := ad
  have hsp : sp = none := by
    cases sp with
    | none => rfl
    | some s => exfalso; revert hs; unfold Addr.add; simp
  subst hsp
  exact ⟨b, o, e, fun i hi => by rw [← add_eq]; exact hc i hi⟩
theorem F_res {k : IntKind} {W : World} {ok ok' : Nat → Prop} {A : Option Addr} {n : Nat} {xs : List Int} (h : Kd.F (Kd.int k) W ok A n xs) (hk : ∀ j, ok j → ok' j) : Kd.F (Kd.int k) W ok' A n xs := Kd.F_mono h hk
end Go.Proofs.Ytbidnolopbjlaaa.L
end
section
/- The print's word for a row that is shared, read as a row with its footprint. -/
namespace Go.Proofs.Ytbidnolopbjlaaa.Q
open Go.RowKit Go.Proofs.YtbidnolopbjlaaaW.PrintWords Go.Proofs.YtbidnolopbjlaaaW.PrintLast Go.Proofs.YtbidnolopbjlaaaW.PrintMore Go.Proofs.Ytbidnolopbjlaaa.L
theorem V_F {α : Type} {d : Kd α} {W : World} {base e n c : Nat} {ok : Nat → Prop} {A : Option Addr} {xs : List α} (h : Kd.V d e W base ok (.slice A n c) xs) : n = xs.length ∧ xs.length ≤ c ∧ Kd.F d W ok A xs.length xs := by
  obtain ⟨A', c', ev, hc, hF⟩ := h
  injection ev with e1 e2 e3
  subst e1; subst e2; subst e3
  exact ⟨rfl, hc, hF⟩
end Go.Proofs.Ytbidnolopbjlaaa.Q
end
