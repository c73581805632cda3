/- An append that must grow, over rows of whole numbers with their footprints. -/
import Derived.Test.YtpbfoocfjcimmaaFs
import Derived.ArgAppend
import Derived.Deep.RegionLawGrows
namespace Go.Proofs.Ytpbfoocfjcimmaa.L
open Go.RowKit Go.Proofs.YtpbfoocfjcimmaaW.PrintWords
theorem F_cells {k : IntKind} {W : World} {ok : Nat → Prop} {A : Option Addr} {n : Nat} {xs : List Int} (h : Kd.F (Kd.int k) W ok A n xs) : ∀ b, A = some b → ∀ j u, (nums k xs)[j]? = some u → W.cell? (b.add j) = some u := by
  intro b hb j u hu
  unfold nums at hu
  rw [List.getElem?_map] at hu
  obtain ⟨x, hx, rfl⟩ := Option.map_eq_some_iff.1 hu
  obtain ⟨e1, _, h3⟩ := Kd.reads_of_C (d := (0 : Int)) (Kd.F_now h)
  have hj := (List.getElem?_eq_some_iff.1 hx).1
  obtain ⟨ad, ea, hc⟩ := h3 (by omega)
  rw [hb] at ea; injection ea with ea; subst ea
  rw [hc j (by omega), List.getD_eq_getElem?_getD, hx]; rfl
theorem F_none {k : IntKind} {W : World} {ok : Nat → Prop} {A : Option Addr} {n : Nat} {xs : List Int} (h : Kd.F (Kd.int k) W ok A n xs) (hA : A = none) : n = 0 := by
  obtain ⟨_, _, h3⟩ := Kd.F_now h
  rcases Nat.eq_zero_or_pos n with h0 | h0
  · exact h0
  · obtain ⟨ad, e, _⟩ := h3 h0; rw [hA] at e; cases e
theorem own_F {w : World} {base n : Nat} {e : TypeId} {k : IntKind} {v : Value} {xs : List Int} (h : w.ownsRow base e 1 v n (nums k xs)) : ∃ A c, v = .slice A n c ∧ n ≤ c ∧ Kd.F (Kd.int k) w (fun j => base ≤ j) A n xs := by
  have hn : xs.length = n := by have := h.1; simp [nums] at this; exact this
  subst hn
  have hR : Kd.R (Kd.int k) e w base (fun _ => True) v xs := Kd.R_of_own (enc := Value.int k) (h1 := fun _ => rfl) h (fun _ _ => trivial)
  exact R_Fl hR
theorem below_of_grown {w w1 : World} (hg : w.grownBy w1 none) : Below w.heap.size w w1 := ⟨hg.os, hg.tape, hg.output, hg.size, fun i hi => hg.block i hi (by simp)⟩
end Go.Proofs.Ytpbfoocfjcimmaa.L
