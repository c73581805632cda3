/- Rows of whole numbers that are read, over a store elsewhere. -/
import Derived.Test.YtijdplpmcnhlbaaWWords
import Derived.Test.YtijdplpmcnhlbaaKt
namespace Go.Proofs.Ytijdplpmcnhlbaa.L
open Go.RowKit Go.Proofs.YtijdplpmcnhlbaaW.PrintWords
theorem C_set {k : IntKind} {w : World} {A : Option Addr} {n : Nat} {xs : List Int} (h : Kd.C (Kd.int k) w A n xs) {g : Nat} (hne : ∀ ad, A = some ad → 0 < n → ad.block ≠ g) (j : Nat) (u : Value) : Kd.C (Kd.int k) (w.setCell ⟨g, j, none⟩ u) A n xs := by
  obtain ⟨h1, h2, h3⟩ := h
  refine ⟨h1, h2, fun hp => ?_⟩
  obtain ⟨ad, e, hc⟩ := h3 hp
  refine ⟨ad, e, fun i p hi => ?_⟩
  obtain ⟨c, hl, hK, hcell⟩ := hc i p hi
  refine ⟨c, hl, hK, fun q v hv => ?_⟩
  rw [World.cell?_setCell_other _ _ _ _ (fun he => hne ad e hp (by have h9 := congrArg Addr.block he; rw [show (ad.add (i * (Kd.int k).sz + q)).block = ad.block from by cases ad; unfold Addr.add; (repeat' split) <;> rfl] at h9; exact h9.symm))]
  exact hcell q v hv
theorem R_block {k : IntKind} {e : Nat} {w : World} {base : Nat} {ok : Nat → Prop} {A : Option Addr} {n c : Nat} {xs : List Int} (h : Kd.R (Kd.int k) e w base ok (.slice A n c) xs) : ∀ ad, A = some ad → 0 < n → base ≤ ad.block := by
  intro ad ha hn
  have h1 := (Kd.R_reads' h).1
  obtain ⟨g, cap, he, hb, _⟩ := Kd.R_form h (by omega)
  injection he with e1 e2 e3
  rw [ha] at e1
  injection e1 with e1
  rw [e1]
  exact hb
theorem dr {P : Program} {f : FuncId} {args : Array Value} {w : World} {r : Ending} (h : Calls P f args w fun e w' => e = r ∧ Drawn0 w w') : Calls P f args w fun e w' => e = r ∧ Below w.heap.size w w' := h.mono fun _ _ ⟨a, b⟩ => ⟨a, b.below⟩
end Go.Proofs.Ytijdplpmcnhlbaa.L
