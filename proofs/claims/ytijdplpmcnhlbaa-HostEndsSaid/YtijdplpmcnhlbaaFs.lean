/- Rows of whole numbers that are read, with the blocks they may lie in. -/
import Derived.Test.YtijdplpmcnhlbaaWWords
import Derived.Test.YtijdplpmcnhlbaaWShare
import Derived.Test.YtijdplpmcnhlbaaKs
import Derived.DataReads
namespace Go.Proofs.Ytijdplpmcnhlbaa.L
open Go.RowKit Go.Proofs.YtijdplpmcnhlbaaW.PrintWords
theorem sz_alloc (w : World) (o : Obj) : (w.alloc o).heap.size = w.heap.size + 1 := by simp
theorem sz_drew (w : World) : w.drew.heap.size = w.heap.size := rfl
theorem sz_drewN (w : World) (n : Nat) : (w.drewN n).heap.size = w.heap.size := rfl
theorem sz_set (w : World) (p : Addr) (v : Value) : (w.setCell p v).heap.size = w.heap.size := by simp
theorem cell_of_heap {W W' : World} {a : Addr} {v : Value} (h : W.cell? a = some v) (hk : W'.heap[a.block]? = W.heap[a.block]?) : W'.cell? a = some v := by
  unfold World.cell? at h ⊢; rw [hk]; exact h
theorem add_block (a : Addr) (j : Nat) : (a.add j).block = a.block := by cases a; unfold Addr.add; (repeat' split) <;> rfl
theorem F_of_C {k : IntKind} {W : World} {ok : Nat → Prop} {A : Option Addr} {n : Nat} {xs : List Int} (h : Kd.C (Kd.int k) W A n xs) (hb : ∀ ad, A = some ad → 0 < n → ok ad.block) : Kd.F (Kd.int k) W ok A n xs := by
  intro W' hW
  obtain ⟨h1, h2, h3⟩ := h
  refine ⟨h1, h2, fun hp => ?_⟩
  obtain ⟨ad, e, hc⟩ := h3 hp
  refine ⟨ad, e, fun i p hi => ?_⟩
  obtain ⟨c, hl, hK, hcell⟩ := hc i p hi
  refine ⟨c, hl, hK, fun q v hv => ?_⟩
  have h5 := hcell q v hv
  refine cell_of_heap h5 ?_
  rw [add_block]
  have h6 := World.block_lt_of_cell? W _ h5
  rw [add_block] at h6
  exact hW _ (hb ad e hp) h6
/-- A row of what came in. -/
theorem F_in {k : IntKind} {W : World} {A : Option Addr} {n : Nat} {xs : List Int} (h : Kd.C (Kd.int k) W A n xs) : Kd.F (Kd.int k) W (fun j => j < W.heap.size) A n xs := by
  refine F_of_C h (fun ad e hp => ?_)
  obtain ⟨ad', e', hc⟩ := h.2.2 hp
  rw [e] at e'; injection e' with e'; subst e'
  have hx : 0 < xs.length := by rw [h.1]; exact hp
  obtain ⟨c, hl, hK, hcell⟩ := hc 0 (xs[0]) (List.getElem?_eq_getElem hx)
  have hl' : 0 < c.length := by rw [hl]; exact Nat.zero_lt_one
  have h6 := World.block_lt_of_cell? W _ (hcell 0 c[0] (List.getElem?_eq_getElem hl'))
  rw [add_block] at h6
  exact h6
/-- A row that a call made. -/
theorem R_Fb {k : IntKind} {e : Nat} {w : World} {base : Nat} {ok : Nat → Prop} {A : Option Addr} {n c : Nat} {xs : List Int} (h : Kd.R (Kd.int k) e w base ok (.slice A n c) xs) : Kd.F (Kd.int k) w (fun j => base ≤ j) A n xs := by
  have h2 := Kd.R_reads' h
  have h3 := h2.1
  subst h3
  exact F_of_C h2.2.2 (R_block h)
theorem R_Fl {k : IntKind} {e : Nat} {w : World} {base : Nat} {ok : Nat → Prop} {v : Value} {xs : List Int} (h : Kd.R (Kd.int k) e w base ok v xs) : ∃ A c, v = .slice A xs.length c ∧ xs.length ≤ c ∧ Kd.F (Kd.int k) w (fun j => base ≤ j) A xs.length xs := by
  obtain ⟨A, c, ev⟩ := Kd.R_slice h
  subst ev
  exact ⟨A, c, rfl, (Kd.R_reads' h).2.1, R_Fb h⟩
theorem F_w {k : IntKind} {W W1 : World} {ok ok' : Nat → Prop} {A : Option Addr} {n : Nat} {xs : List Int} (h : Kd.F (Kd.int k) W ok A n xs) (hb : Below W.heap.size W W1) (hk : ∀ j, ok j → ok' j) : Kd.F (Kd.int k) W1 ok' A n xs := Kd.F_mono (Kd.F_below h hb) hk
/-- A literal's block, read. -/
theorem C_blk {k : IntKind} {W : World} {g n : Nat} {cs : Array Value} {t : TypeId} {fr : Nat × Nat} {xs : List Int} (h : W.heap[g]? = some (.cells cs t fr)) (hn : xs.length = n) (hm : n ≤ 9223372036854775807) (hc : cs = (xs.map (Value.int k)).toArray) : Kd.C (Kd.int k) W (some ⟨g, 0, none⟩) n xs := by
  refine ⟨hn, hm, fun _ => ⟨_, rfl, fun i x hi => ⟨[Value.int k x], rfl, rfl, fun q v hv => ?_⟩⟩⟩
  have hq : q = 0 := by have := (List.getElem?_eq_some_iff.1 hv).1; simp at this; exact this
  subst hq
  have e1 : (Addr.add ⟨g, 0, none⟩ (i * (Kd.int k).sz + 0)) = ⟨g, i, none⟩ := by
    show Addr.add ⟨g, 0, none⟩ (i * 1 + 0) = _
    rw [Nat.mul_one, Nat.add_zero]; unfold Addr.add; split <;> simp_all
  rw [e1, show W.cell? ⟨g, i, none⟩ = cs[i]? from by simp [World.cell?, h], hc, List.getElem?_toArray, List.getElem?_map, hi]
  simpa using hv
theorem F_cell {k : IntKind} {W : World} {ok : Nat → Prop} {A : Option Addr} {n : Nat} {xs : List Int} (h : Kd.F (Kd.int k) W ok A n xs) (i : Nat) (hi : i < n) : ∃ ad, A = some ad ∧ W.cell? (ad.add i) = some (.int k (xs.getD i 0)) := by
  obtain ⟨_, _, h3⟩ := Kd.reads_of_C (d := (0 : Int)) (Kd.F_now h)
  obtain ⟨ad, e, hc⟩ := h3 (by omega)
  exact ⟨ad, e, hc i hi⟩
theorem add_eq (b o i : Nat) : (Addr.add ⟨b, o, none⟩ i) = ⟨b, o + i, none⟩ := by unfold Addr.add; split <;> simp_all
theorem F_cell' {k : IntKind} {W : World} {ok : Nat → Prop} {A : Option Addr} {n : Nat} {xs : List Int} (h : Kd.F (Kd.int k) W ok A n xs) (hn : 0 < n) : ∃ b o, A = some ⟨b, o, none⟩ ∧ ∀ i, i < n → W.cell? ⟨b, o + i, none⟩ = some (.int k (xs.getD i 0)) := by
  obtain ⟨_, _, h3⟩ := Kd.reads_of_C (d := (0 : Int)) (Kd.F_now h)
  obtain ⟨ad, e, hc⟩ := h3 hn
  have hs := World.cell?_spot (hc 0 hn)
  obtain ⟨b, o, sp⟩ := ad
  have hsp : sp = none := by
    cases sp with
    | none => rfl
    | some s => exfalso; revert hs; unfold Addr.add; simp
  subst hsp
  exact ⟨b, o, e, fun i hi => by rw [← add_eq]; exact hc i hi⟩
theorem F_res {k : IntKind} {W : World} {ok ok' : Nat → Prop} {A : Option Addr} {n : Nat} {xs : List Int} (h : Kd.F (Kd.int k) W ok A n xs) (hk : ∀ j, ok j → ok' j) : Kd.F (Kd.int k) W ok' A n xs := Kd.F_mono h hk
end Go.Proofs.Ytijdplpmcnhlbaa.L
