import Derived.Test.YtgcpedenlbcdgaaHPd2p
import Derived.Test.YtgcpedenlbcdgaaHZ5
/- Layer 3, plain facts: what was taken apart is put together. -/
set_option linter.unusedVariables false
set_option linter.unusedSimpArgs false
namespace Go.Proofs.Ytgcpedenlbcdgaa.Q
open Go.RowKit Go.Proofs.YtgcpedenlbcdgaaW.PrintWords Go.Proofs.YtgcpedenlbcdgaaW.PrintLast Go.Proofs.YtgcpedenlbcdgaaW.PrintMore Go.Proofs.Ytgcpedenlbcdgaa.L
theorem at55 (x : Int) (o : fieldZ x 6 0 = 55) : takeI x = (⟨1, 0, false, (fieldZ x 11 7), 0, 0, sextZ ((fieldZ x 31 12) * 4096) 32⟩ : Ins) ∧ takeK x = true := by
  unfold takeI takeK
  rw [o]
  exact ⟨rfl, rfl⟩
theorem at23 (x : Int) (o : fieldZ x 6 0 = 23) : takeI x = (⟨2, 0, false, (fieldZ x 11 7), 0, 0, sextZ ((fieldZ x 31 12) * 4096) 32⟩ : Ins) ∧ takeK x = true := by
  unfold takeI takeK
  rw [o]
  exact ⟨rfl, rfl⟩
theorem at111 (x : Int) (o : fieldZ x 6 0 = 111) : takeI x = (⟨3, 0, false, (fieldZ x 11 7), 0, 0, sextZ (Go.bits .or .u64 (Go.bits .or .u64 (Go.bits .or .u64 ((fieldZ x 31 31) * 1048576) ((fieldZ x 19 12) * 4096)) ((fieldZ x 20 20) * 2048)) ((fieldZ x 30 21) * 2)) 21⟩ : Ins) ∧ takeK x = true := by
  unfold takeI takeK
  rw [o]
  exact ⟨rfl, rfl⟩
theorem at103 (x : Int) (o : fieldZ x 6 0 = 103) : takeI x = (⟨4, 0, false, (fieldZ x 11 7), (fieldZ x 19 15), 0, sextZ (fieldZ x 31 20) 12⟩ : Ins) ∧ takeK x = (fieldZ x 14 12 == 0) := by
  unfold takeI takeK
  rw [o]
  exact ⟨rfl, rfl⟩
theorem at99 (x : Int) (o : fieldZ x 6 0 = 99) : takeI x = (⟨5, (fieldZ x 14 12), false, 0, (fieldZ x 19 15), (fieldZ x 24 20), sextZ (Go.bits .or .u64 (Go.bits .or .u64 (Go.bits .or .u64 ((fieldZ x 31 31) * 4096) ((fieldZ x 7 7) * 2048)) ((fieldZ x 30 25) * 32)) ((fieldZ x 11 8) * 2)) 13⟩ : Ins) ∧ takeK x = (Go.bits .and .i64 (fieldZ x 14 12) 6 != 2) := by
  unfold takeI takeK
  rw [o]
  exact ⟨rfl, rfl⟩
theorem at3 (x : Int) (o : fieldZ x 6 0 = 3) : takeI x = (⟨6, (fieldZ x 14 12), false, (fieldZ x 11 7), (fieldZ x 19 15), 0, sextZ (fieldZ x 31 20) 12⟩ : Ins) ∧ takeK x = (fieldZ x 14 12 != 7) := by
  unfold takeI takeK
  rw [o]
  exact ⟨rfl, rfl⟩
theorem at35 (x : Int) (o : fieldZ x 6 0 = 35) : takeI x = (⟨7, (fieldZ x 14 12), false, 0, (fieldZ x 19 15), (fieldZ x 24 20), sextZ (Go.bits .or .u64 ((fieldZ x 31 25) * 32) (fieldZ x 11 7)) 12⟩ : Ins) ∧ takeK x = (decide (fieldZ x 14 12 < 4)) := by
  unfold takeI takeK
  rw [o]
  exact ⟨rfl, rfl⟩
theorem at19 (x : Int) (o : fieldZ x 6 0 = 19) : takeI x = ((if (fieldZ x 14 12 == 1 || fieldZ x 14 12 == 5) then ⟨8, shiftF x (fieldZ x 14 12) false, false, (fieldZ x 11 7), (fieldZ x 19 15), 0, fieldZ x 25 20⟩ else ⟨8, (fieldZ x 14 12), false, (fieldZ x 11 7), (fieldZ x 19 15), 0, sextZ (fieldZ x 31 20) 12⟩) : Ins) ∧ takeK x = (if (fieldZ x 14 12 == 1 || fieldZ x 14 12 == 5) then shiftK x (fieldZ x 14 12) false else true) := by
  unfold takeI takeK
  rw [o]
  exact ⟨rfl, rfl⟩
theorem at27 (x : Int) (o : fieldZ x 6 0 = 27) : takeI x = ((if (fieldZ x 14 12 == 1 || fieldZ x 14 12 == 5) then ⟨8, shiftF x (fieldZ x 14 12) true, true, (fieldZ x 11 7), (fieldZ x 19 15), 0, fieldZ x 24 20⟩ else ⟨8, (fieldZ x 14 12), true, (fieldZ x 11 7), (fieldZ x 19 15), 0, sextZ (fieldZ x 31 20) 12⟩) : Ins) ∧ takeK x = (if (fieldZ x 14 12 == 1 || fieldZ x 14 12 == 5) then shiftK x (fieldZ x 14 12) true else (fieldZ x 14 12 == 0)) := by
  unfold takeI takeK
  rw [o]
  exact ⟨rfl, rfl⟩
theorem at51 (x : Int) (o : fieldZ x 6 0 = 51) : takeI x = (⟨9, sumF x (fieldZ x 14 12), false, (fieldZ x 11 7), (fieldZ x 19 15), (fieldZ x 24 20), 0⟩ : Ins) ∧ takeK x = sumK x (fieldZ x 14 12) false := by
  unfold takeI takeK
  rw [o]
  exact ⟨rfl, rfl⟩
theorem at59 (x : Int) (o : fieldZ x 6 0 = 59) : takeI x = (⟨9, sumF x (fieldZ x 14 12), true, (fieldZ x 11 7), (fieldZ x 19 15), (fieldZ x 24 20), 0⟩ : Ins) ∧ takeK x = sumK x (fieldZ x 14 12) true := by
  unfold takeI takeK
  rw [o]
  exact ⟨rfl, rfl⟩
theorem at15 (x : Int) (o : fieldZ x 6 0 = 15) : takeI x = (⟨10, (fieldZ x 14 12), false, 0, 0, 0, 0⟩ : Ins) ∧ takeK x = (decide (fieldZ x 14 12 < 2)) := by
  unfold takeI takeK
  rw [o]
  exact ⟨rfl, rfl⟩
theorem at115 (x : Int) (o : fieldZ x 6 0 = 115) : takeI x = (sysI x (fieldZ x 14 12) (fieldZ x 11 7) (fieldZ x 19 15) (fieldZ x 24 20) : Ins) ∧ takeK x = sysK x (fieldZ x 14 12) (fieldZ x 11 7) := by
  unfold takeI takeK
  rw [o]
  exact ⟨rfl, rfl⟩
theorem at47 (x : Int) (o : fieldZ x 6 0 = 47) : takeI x = (⟨13, fieldZ x 31 27, fieldZ x 14 12 == 2, (fieldZ x 11 7), (fieldZ x 19 15), (fieldZ x 24 20), 0⟩ : Ins) ∧ takeK x = amoK (fieldZ x 31 27) (fieldZ x 14 12) (fieldZ x 24 20) := by
  unfold takeI takeK
  rw [o]
  exact ⟨rfl, rfl⟩
theorem at_none (x : Int) (o55 : ¬ fieldZ x 6 0 = 55) (o23 : ¬ fieldZ x 6 0 = 23) (o111 : ¬ fieldZ x 6 0 = 111) (o103 : ¬ fieldZ x 6 0 = 103) (o99 : ¬ fieldZ x 6 0 = 99) (o3 : ¬ fieldZ x 6 0 = 3) (o35 : ¬ fieldZ x 6 0 = 35) (o19 : ¬ fieldZ x 6 0 = 19) (o27 : ¬ fieldZ x 6 0 = 27) (o51 : ¬ fieldZ x 6 0 = 51) (o59 : ¬ fieldZ x 6 0 = 59) (o15 : ¬ fieldZ x 6 0 = 15) (o115 : ¬ fieldZ x 6 0 = 115) (o47 : ¬ fieldZ x 6 0 = 47) : takeI x = Ins.zero ∧ takeK x = false := by
  unfold takeI takeK
  have z55 : (fieldZ x 6 0 == 55) = false := beq_eq_false_iff_ne.mpr o55
  have z23 : (fieldZ x 6 0 == 23) = false := beq_eq_false_iff_ne.mpr o23
  have z111 : (fieldZ x 6 0 == 111) = false := beq_eq_false_iff_ne.mpr o111
  have z103 : (fieldZ x 6 0 == 103) = false := beq_eq_false_iff_ne.mpr o103
  have z99 : (fieldZ x 6 0 == 99) = false := beq_eq_false_iff_ne.mpr o99
  have z3 : (fieldZ x 6 0 == 3) = false := beq_eq_false_iff_ne.mpr o3
  have z35 : (fieldZ x 6 0 == 35) = false := beq_eq_false_iff_ne.mpr o35
  have z19 : (fieldZ x 6 0 == 19) = false := beq_eq_false_iff_ne.mpr o19
  have z27 : (fieldZ x 6 0 == 27) = false := beq_eq_false_iff_ne.mpr o27
  have z51 : (fieldZ x 6 0 == 51) = false := beq_eq_false_iff_ne.mpr o51
  have z59 : (fieldZ x 6 0 == 59) = false := beq_eq_false_iff_ne.mpr o59
  have z15 : (fieldZ x 6 0 == 15) = false := beq_eq_false_iff_ne.mpr o15
  have z115 : (fieldZ x 6 0 == 115) = false := beq_eq_false_iff_ne.mpr o115
  have z47 : (fieldZ x 6 0 == 47) = false := beq_eq_false_iff_ne.mpr o47
  rw [z55, z23, z111, z103, z99, z3, z35, z19, z27, z51, z59, z15, z115, z47]
  exact ⟨rfl, rfl⟩
theorem orB (x y : Int) : u32B (Go.bits .or .u32 x y) := by
  have : ∀ z : Int, u32B (IntKind.u32.wrap z) := fun z => by rw [IntKind.wrap_u32]; exact ⟨by omega, by omega⟩
  exact this _
theorem putB_ (op k hi rd r1 r2 : Int) : u32B (putZ op k hi rd r1 r2) := orB _ _
theorem sysB (F : Int) : u32B (syswZ F) := by unfold syswZ; (repeat' split) <;> exact ⟨by decide, by decide⟩
theorem iteB {q : Bool} {a b : Int} (ha : u32B a) (hb : u32B b) : u32B (if q then a else b) := by cases q; exact hb; exact ha
theorem wordB (i : Ins) : u32B (wordV i) := by
  unfold wordV
  refine iteB ?_ ?_
  · unfold wordV_true
    repeat (first | exact orB _ _ | exact putB_ _ _ _ _ _ _ | exact sysB _ | exact ⟨by decide, by decide⟩ | refine iteB ?_ ?_)
  · unfold wordV_false
    repeat (first | exact orB _ _ | exact putB_ _ _ _ _ _ _ | exact sysB _ | exact ⟨by decide, by decide⟩ | refine iteB ?_ ?_)
theorem enc_some (i : Ins) : ∃ w k, encZ i = some (w, k) ∧ (k = false → w = 0) ∧ (k = true → w = wordV i ∧ takeK w = true ∧ decI w = i) := by
  unfold encZ
  by_cases hr : regs i
  · rw [if_pos hr, if_pos (show 0 ≤ wordV i ∧ wordV i < 4294967296 from wordB i)]
    refine ⟨_, _, rfl, ?_, ?_⟩
    · intro h; rw [h]; rfl
    · intro h
      rw [h]
      rw [Bool.and_eq_true] at h
      exact ⟨rfl, h.1, same_iff.1 h.2⟩
  · rw [if_neg hr]
    exact ⟨0, false, rfl, fun _ => rfl, fun h => by cases h⟩
theorem enc_yes {i : Ins} (hr : regs i) (hk : takeK (wordV i) = true) (hd : decI (wordV i) = i) : encZ i = some (wordV i, true) := by
  unfold encZ
  rw [if_pos hr, if_pos (show 0 ≤ wordV i ∧ wordV i < 4294967296 from wordB i), hk, same_iff.2 hd]; rfl
end Go.Proofs.Ytgcpedenlbcdgaa.Q
