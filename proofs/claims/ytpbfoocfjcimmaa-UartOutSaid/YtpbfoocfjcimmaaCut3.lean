/- Cuts of a row with a capacity of their own: xs[lo:hi:max]. -/
import Derived.Test.YtpbfoocfjcimmaaFs
import Derived.Laws.Slices
import Derived.Deep.Slices
namespace Go.Proofs.Ytpbfoocfjcimmaa.L
open Go.RowKit Go.Proofs.YtpbfoocfjcimmaaW.PrintWords
theorem cut3 {P : Program} (t e : TypeId) {i : TypeInfo} (ht : P.underlying t = some (.slice e)) (hi : P.info? e = some i) (size : Nat) (hsz : i.size = size) (A : Option Addr) (n c l h m : Nat) (h1 : l ≤ h) (h2 : h ≤ m) (h3 : m ≤ c) :
    ∀ W : World, (Instr.slice t (.slice A n c) (some (.int .i64 l)) (some (.int .i64 h)) (some (.int .i64 m))).run P W = .ok (.slice (if m = l then A else A.map (·.add (l * size))) (h - l) (m - l)) W := by
  intro W
  have hel : P.elem t = e := by simp [Program.elem, ht]
  have hu : P.underlying t = some (.slice (P.elem t)) := by rw [hel]; exact ht
  rw [run_slice_lhm W t A n c hu .i64 .i64 .i64 l h m (by omega) (by omega) (by omega) (by omega), hel]
  simp [sizeOf, typeInfo, hi, hsz, sliced, Result.andThen]
theorem cut3_hm {P : Program} (t e : TypeId) {i : TypeInfo} (ht : P.underlying t = some (.slice e)) (hi : P.info? e = some i) (A : Option Addr) (n c h m : Nat) (h2 : h ≤ m) (h3 : m ≤ c) :
    ∀ W : World, (Instr.slice t (.slice A n c) none (some (.int .i64 h)) (some (.int .i64 m))).run P W = .ok (.slice A h m) W := by
  intro W
  have hel : P.elem t = e := by simp [Program.elem, ht]
  have hu : P.underlying t = some (.slice (P.elem t)) := by rw [hel]; exact ht
  have ha : (A.map fun x => x.add 0) = A := by cases A <;> simp [Addr.add]
  rw [run_slice_hm W t A n c hu .i64 .i64 h m (by omega) (by omega) (by omega), hel]
  simp [sizeOf, typeInfo, hi, sliced, Result.andThen, ha]
theorem F_cut3 {k : IntKind} {W : World} {ok : Nat → Prop} {A : Option Addr} {n : Nat} {xs : List Int} (h : Kd.F (Kd.int k) W ok A n xs) (l hi m : Nat) (h1 : l ≤ hi) (h2 : hi ≤ n) (h3 : hi ≤ m) : Kd.F (Kd.int k) W ok (if m = l then A else A.map (·.add (l * 1))) (hi - l) ((xs.take hi).drop l) := by
  intro W' hW
  obtain ⟨e1, e2, e3⟩ := Kd.reads_of_C (d := (0 : Int)) (h W' hW)
  refine Kd.C_of_reads (d := (0 : Int)) (h1 := fun _ => rfl) ⟨by rw [List.length_drop, List.length_take, e1]; omega, by omega, fun hp => ?_⟩
  obtain ⟨ad, ea, hc⟩ := e3 (by omega)
  subst ea
  refine ⟨ad.add (l * 1), by rw [if_neg (by omega)]; rfl, fun j hj => ?_⟩
  rw [Go.Deep.add_add, Nat.mul_one, hc (l + j) (by omega)]
  have : ((xs.take hi).drop l).getD j 0 = xs.getD (l + j) 0 := by
    rw [List.getD_eq_getElem?_getD, List.getD_eq_getElem?_getD, List.getElem?_drop, List.getElem?_take_of_lt (by omega)]
  rw [this]
end Go.Proofs.Ytpbfoocfjcimmaa.L
