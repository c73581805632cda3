import Derived.Test.YtmlpnjoejdpblaaPZ1
import Derived.Test.YtmlpnjoejdpblaaPZ10
import Derived.Test.YtmlpnjoejdpblaaPZ2
import Derived.Test.YtmlpnjoejdpblaaPXEheads10
import Derived.Deep.DeepCutAuto
import Derived.RegionTactic
import Derived.BigRegion
/- PlicDoes: the law's own controller is made (a region that draws its order). -/
namespace Go.Proofs.Ytmlpnjoejdpblaa.Q
open Go.RowKit Go.Proofs.YtmlpnjoejdpblaaW.PrintWords Go.Proofs.YtmlpnjoejdpblaaW.PrintLast Go.Proofs.YtmlpnjoejdpblaaW.PrintMore Go.Proofs.Ytmlpnjoejdpblaa.L
attribute [local go_sem] Instr.field part asAgg lt_step max2_int min2_int max_two min_two max_three min_three max_four min_four lt_0_1 lt_0_2 lt_1_2 lt_0_3 lt_1_3 lt_2_3 lt_0_4 lt_1_4 lt_2_4 lt_3_4 lt_0_5 lt_1_5 lt_2_5 lt_3_5 lt_4_5 lt_0_6 lt_1_6 lt_2_6 lt_3_6 lt_4_6 lt_5_6 lt_0_7 lt_1_7 lt_2_7 lt_3_7 lt_4_7 lt_5_7 lt_6_7 lt_0_8 lt_1_8 lt_2_8 lt_3_8 lt_4_8 lt_5_8 lt_6_8 lt_7_8
set_option linter.unusedVariables false
set_option linter.unusedSimpArgs false
theorem infoI2 : (Try.prog.info? 3).map (fun i => (i.zero, i.size, i.bytes)) = some (some (.int .i64 0), 1, 8) := by kernel_rfl
def RP (w : World) (l : Nat → Bool) (s11 : Value) : Nat → Prop := fun j => w.heap.size + 1 ≤ j ∧ (l 17 = true → ∀ g2, s11 = .pointer (some ⟨g2, 0, none⟩) → j ≠ g2)
def I1 (p : Pd) (v : Pv) (lines off size x : Int) (w : World) (l : Nat → Bool) (a : Act) (w' : World) : Prop :=
  ∃ s22 s23 s24 s25 s26 s27 s28 s29 s30 s31 s32 s33 s34 s35 s36 s37 s38 s11 : Value, a = ⟨#[.agg (PC p v), .int .i64 lines, .int .u64 off, .int .i64 size, .int .u64 x, .pointer (some ⟨w.heap.size, 0, none⟩), undef, undef, undef, undef, .bool false, s11, undef, undef, undef, undef, undef, undef, undef, undef, undef, undef, s22, s23, s24, s25, s26, s27, s28, s29, s30, s31, s32, s33, s34, s35, s36, s37, s38, undef, undef, undef, undef, undef, undef, undef, undef, undef, undef, undef, undef, undef, undef, undef, undef, undef, undef, undef, undef, undef, undef, undef, undef, undef, undef, undef, undef, undef, undef, undef, undef, undef, undef, undef, undef, undef, undef, undef, undef, undef, undef, undef, undef, undef, undef, undef, undef, undef, undef, undef, undef, undef, undef, undef, undef, undef, undef, undef, undef, undef, undef, undef, undef, undef, undef, undef, undef, undef, undef, undef, undef, undef, undef, undef, undef, undef, undef, undef, undef, undef, undef, undef, undef, undef, undef, undef, undef, undef, undef, undef, undef, undef], []⟩ ∧ Below w.heap.size w w' ∧ w'.heap[w.heap.size]? = some (.cells (PC p v) 24 (0, 0)) ∧ PF w' (fun j => j < w.heap.size) p v ∧ w.heap.size + 1 ≤ w'.heap.size ∧
    (l 0 = true → ∃ b, s22 = .slice (some ⟨b, 0, none⟩) 0 0) ∧
    (l 1 = true → s23 = .pointer (some ⟨w.heap.size, 0, none⟩)) ∧
    (l 2 = true → s24 = v.p0) ∧
    (l 3 = true → SL .i64 w' (RP w l s11) s25 p.q0) ∧
    (l 4 = true → s26 = .pointer (some ⟨w.heap.size, 1, none⟩)) ∧
    (l 5 = true → s27 = .int .i64 p.x) ∧
    (l 6 = true → s28 = .pointer (some ⟨w.heap.size, 2, none⟩)) ∧
    (l 7 = true → s29 = .int .i64 p.y) ∧
    (l 8 = true → ∃ b, s30 = .slice (some ⟨b, 0, none⟩) 0 0) ∧
    (l 9 = true → s31 = .pointer (some ⟨w.heap.size, 3, none⟩)) ∧
    (l 10 = true → s32 = v.p3) ∧
    (l 11 = true → SL .i64 w' (RP w l s11) s33 p.q3) ∧
    (l 12 = true → ∃ b, s34 = .slice (some ⟨b, 0, none⟩) 0 0) ∧
    (l 13 = true → s35 = .pointer (some ⟨w.heap.size, 4, none⟩)) ∧
    (l 14 = true → s36 = v.p4) ∧
    (l 15 = true → SL .i64 w' (RP w l s11) s37 p.q4) ∧
    (l 16 = true → (l 3 = true ∧ l 11 = true ∧ l 15 = true) ∧ s38 = .agg (PC p ⟨s25, s33, s37⟩)) ∧
    (l 17 = true → ∃ g2, s11 = .pointer (some ⟨g2, 0, none⟩) ∧ w.heap.size + 1 ≤ g2 ∧ g2 < w'.heap.size ∧ (l 18 = false → w'.heap[g2]? = some (.cells PZ 24 (0, 0)))) ∧
    (l 18 = true → l 16 = true ∧ l 17 = true ∧ ∃ g2, s11 = .pointer (some ⟨g2, 0, none⟩) ∧ w'.heap[g2]? = some (.cells (PC p ⟨s25, s33, s37⟩) 24 (0, 0)))
set_option maxHeartbeats 1600000 in
set_option maxRecDepth 100000 in
theorem does_runs (p : Pd) (v : Pv) (lines off size x : Int) (w : World) (hF : PF w (fun j => j < w.heap.size) p v) (ho : OKP p) (hx : u64B x) (Lq0 : p.q0.length * 8 ≤ 140737488351232) (Lq3 : p.q3.length * 8 ≤ 140737488351232) (Lq4 : p.q4.length * 8 ≤ 140737488351232) :
    Calls Try.prog 4 #[.agg (PC p v), .int .i64 lines, .int .u64 off, .int .i64 size, .int .u64 x] w fun e w' => e = .returned (.bool true) ∧ Below w.heap.size w w' := by
  have HF := Aside0.mk hF
  have HO := Aside0.mk ho
  have hu := Try.underlying24
  go_enter Try.func4, Try.ntmps4
  go_upto_region 1 with fail
  obtain ⟨wa, hwa, on0, hb_, hz0⟩ := letter1 w (.cells (PC p v) 24 (0, 0))
  rw [hwa]
  clear hwa
  refine region_inv 19 (by kernel_rfl) rfl (by kernel_rfl) (I1 p v lines off size x w) ?_ ?_ ?_
  · exact ⟨undef, undef, undef, undef, undef, undef, undef, undef, undef, undef, undef, undef, undef, undef, undef, undef, undef, undef, rfl, below_drew hb_, on0, (HF.out.below hb_).drew, by rw [show wa.drew.heap.size = wa.heap.size from rfl, hz0]; exact Nat.le_refl _, (fun h_ => by cases h_), (fun h_ => by cases h_), (fun h_ => by cases h_), (fun h_ => by cases h_), (fun h_ => by cases h_), (fun h_ => by cases h_), (fun h_ => by cases h_), (fun h_ => by cases h_), (fun h_ => by cases h_), (fun h_ => by cases h_), (fun h_ => by cases h_), (fun h_ => by cases h_), (fun h_ => by cases h_), (fun h_ => by cases h_), (fun h_ => by cases h_), (fun h_ => by cases h_), (fun h_ => by cases h_), (fun h_ => by cases h_), (fun h_ => by cases h_)⟩
  · intro i hi o ho l a w' Q' hl hd hI hK
    clear on0 hb_ hz0 hF HF
    have HKK := Aside0.mk hK
    clear hK
    rcases (show i = 0 ∨ i = 1 ∨ i = 2 ∨ i = 3 ∨ i = 4 ∨ i = 5 ∨ i = 6 ∨ i = 7 ∨ i = 8 ∨ i = 9 ∨ i = 10 ∨ i = 11 ∨ i = 12 ∨ i = 13 ∨ i = 14 ∨ i = 15 ∨ i = 16 ∨ i = 17 ∨ i = 18 from by omega) with rfl | rfl | rfl | rfl | rfl | rfl | rfl | rfl | rfl | rfl | rfl | rfl | rfl | rfl | rfl | rfl | rfl | rfl | rfl
    · -- operation 0
      obtain rfl := Option.some.inj ho
      obtain ⟨s22, s23, s24, s25, s26, s27, s28, s29, s30, s31, s32, s33, s34, s35, s36, s37, s38, s11, rfl, HB, on, PFh, hz, c0, c1, c2, c3, c4, c5, c6, c7, c8, c9, c10, c11, c12, c13, c14, c15, c16, c17, c18⟩ := hI
      obtain ⟨onc, onf, onl⟩ := cells_of on
      have k0 := Aside0.mk c0
      clear c0
      have k1 := Aside0.mk c1
      clear c1
      have k2 := Aside0.mk c2
      clear c2
      have k3 := Aside0.mk c3
      clear c3
      have k4 := Aside0.mk c4
      clear c4
      have k5 := Aside0.mk c5
      clear c5
      have k6 := Aside0.mk c6
      clear c6
      have k7 := Aside0.mk c7
      clear c7
      have k8 := Aside0.mk c8
      clear c8
      have k9 := Aside0.mk c9
      clear c9
      have k10 := Aside0.mk c10
      clear c10
      have k11 := Aside0.mk c11
      clear c11
      have k12 := Aside0.mk c12
      clear c12
      have k13 := Aside0.mk c13
      clear c13
      have k14 := Aside0.mk c14
      clear c14
      have k15 := Aside0.mk c15
      clear c15
      have k16 := Aside0.mk c16
      clear c16
      have k17 := Aside0.mk c17
      clear c17
      have k18 := Aside0.mk c18
      clear c18
      have hb_ : Below w'.heap.size w' (w'.alloc (.cells #[] 3 (0, 0))) := Below.alloc (Below.refl _ _) (Nat.le_refl _) _
      go_wp2
      exact HKK.out _ _ ⟨_, _, _, _, _, _, _, _, _, _, _, _, _, _, _, _, _, _, rfl, below_step HB hb_, box_below hb_ on, PFh.below hb_, Nat.le_trans hz hb_.size, (fun _ => ⟨_, rfl⟩), k1.out, k2.out, (fun h_ => (k3.out h_).below hb_), k4.out, k5.out, k6.out, k7.out, k8.out, k9.out, k10.out, (fun h_ => (k11.out h_).below hb_), k12.out, k13.out, k14.out, (fun h_ => (k15.out h_).below hb_), k16.out, (fun h_ => by obtain ⟨g2, q1, q2, q3, q4⟩ := k17.out h_; exact ⟨g2, q1, q2, Nat.lt_of_lt_of_le q3 hb_.size, fun h9_ => box_below hb_ (q4 h9_)⟩), (fun h_ => by obtain ⟨q0, q9, g2, q1, q2⟩ := k18.out h_; exact ⟨q0, q9, g2, q1, box_below hb_ q2⟩)⟩
    · -- operation 1
      obtain rfl := Option.some.inj ho
      obtain ⟨s22, s23, s24, s25, s26, s27, s28, s29, s30, s31, s32, s33, s34, s35, s36, s37, s38, s11, rfl, HB, on, PFh, hz, c0, c1, c2, c3, c4, c5, c6, c7, c8, c9, c10, c11, c12, c13, c14, c15, c16, c17, c18⟩ := hI
      obtain ⟨onc, onf, onl⟩ := cells_of on
      have k0 := Aside0.mk c0
      clear c0
      have k1 := Aside0.mk c1
      clear c1
      have k2 := Aside0.mk c2
      clear c2
      have k3 := Aside0.mk c3
      clear c3
      have k4 := Aside0.mk c4
      clear c4
      have k5 := Aside0.mk c5
      clear c5
      have k6 := Aside0.mk c6
      clear c6
      have k7 := Aside0.mk c7
      clear c7
      have k8 := Aside0.mk c8
      clear c8
      have k9 := Aside0.mk c9
      clear c9
      have k10 := Aside0.mk c10
      clear c10
      have k11 := Aside0.mk c11
      clear c11
      have k12 := Aside0.mk c12
      clear c12
      have k13 := Aside0.mk c13
      clear c13
      have k14 := Aside0.mk c14
      clear c14
      have k15 := Aside0.mk c15
      clear c15
      have k16 := Aside0.mk c16
      clear c16
      have k17 := Aside0.mk c17
      clear c17
      have k18 := Aside0.mk c18
      clear c18
      go_wp2
      exact HKK.out _ _ ⟨_, _, _, _, _, _, _, _, _, _, _, _, _, _, _, _, _, _, rfl, HB, on, PFh, hz, k0.out, (fun _ => rfl), k2.out, k3.out, k4.out, k5.out, k6.out, k7.out, k8.out, k9.out, k10.out, k11.out, k12.out, k13.out, k14.out, k15.out, k16.out, k17.out, k18.out⟩
    · -- operation 2
      obtain rfl := Option.some.inj ho
      obtain ⟨s22, s23, s24, s25, s26, s27, s28, s29, s30, s31, s32, s33, s34, s35, s36, s37, s38, s11, rfl, HB, on, PFh, hz, c0, c1, c2, c3, c4, c5, c6, c7, c8, c9, c10, c11, c12, c13, c14, c15, c16, c17, c18⟩ := hI
      obtain ⟨onc, onf, onl⟩ := cells_of on
      have k0 := Aside0.mk c0
      clear c0
      have k1 := Aside0.mk c1
      clear c1
      have k2 := Aside0.mk c2
      clear c2
      have k3 := Aside0.mk c3
      clear c3
      have k4 := Aside0.mk c4
      clear c4
      have k5 := Aside0.mk c5
      clear c5
      have k6 := Aside0.mk c6
      clear c6
      have k7 := Aside0.mk c7
      clear c7
      have k8 := Aside0.mk c8
      clear c8
      have k9 := Aside0.mk c9
      clear c9
      have k10 := Aside0.mk c10
      clear c10
      have k11 := Aside0.mk c11
      clear c11
      have k12 := Aside0.mk c12
      clear c12
      have k13 := Aside0.mk c13
      clear c13
      have k14 := Aside0.mk c14
      clear c14
      have k15 := Aside0.mk c15
      clear c15
      have k16 := Aside0.mk c16
      clear c16
      have k17 := Aside0.mk c17
      clear c17
      have k18 := Aside0.mk c18
      clear c18
      have d1 : l 1 = true := (by first | exact hd ⟨1, .data⟩ (by simp) rfl | exact hd ⟨1, .phase⟩ (by simp) rfl | exact hd ⟨1, .chain⟩ (by simp) rfl)
      have e_ := k1.out d1
      subst e_
      have hc_ : w'.cell? ⟨w.heap.size, 0, none⟩ = some v.p0 := (onc 0).trans rfl
      clear onc
      go_wp2
      exact HKK.out _ _ ⟨_, _, _, _, _, _, _, _, _, _, _, _, _, _, _, _, _, _, rfl, HB, on, PFh, hz, k0.out, (fun _ => rfl), (fun _ => rfl), k3.out, k4.out, k5.out, k6.out, k7.out, k8.out, k9.out, k10.out, k11.out, k12.out, k13.out, k14.out, k15.out, k16.out, k17.out, k18.out⟩
    · -- operation 3
      obtain rfl := Option.some.inj ho
      obtain ⟨s22, s23, s24, s25, s26, s27, s28, s29, s30, s31, s32, s33, s34, s35, s36, s37, s38, s11, rfl, HB, on, PFh, hz, c0, c1, c2, c3, c4, c5, c6, c7, c8, c9, c10, c11, c12, c13, c14, c15, c16, c17, c18⟩ := hI
      obtain ⟨onc, onf, onl⟩ := cells_of on
      have k0 := Aside0.mk c0
      clear c0
      have k1 := Aside0.mk c1
      clear c1
      have k2 := Aside0.mk c2
      clear c2
      have k3 := Aside0.mk c3
      clear c3
      have k4 := Aside0.mk c4
      clear c4
      have k5 := Aside0.mk c5
      clear c5
      have k6 := Aside0.mk c6
      clear c6
      have k7 := Aside0.mk c7
      clear c7
      have k8 := Aside0.mk c8
      clear c8
      have k9 := Aside0.mk c9
      clear c9
      have k10 := Aside0.mk c10
      clear c10
      have k11 := Aside0.mk c11
      clear c11
      have k12 := Aside0.mk c12
      clear c12
      have k13 := Aside0.mk c13
      clear c13
      have k14 := Aside0.mk c14
      clear c14
      have k15 := Aside0.mk c15
      clear c15
      have k16 := Aside0.mk c16
      clear c16
      have k17 := Aside0.mk c17
      clear c17
      have k18 := Aside0.mk c18
      clear c18
      have d0 : l 0 = true := (by first | exact hd ⟨0, .data⟩ (by simp) rfl | exact hd ⟨0, .phase⟩ (by simp) rfl | exact hd ⟨0, .chain⟩ (by simp) rfl)
      have d2 : l 2 = true := (by first | exact hd ⟨2, .data⟩ (by simp) rfl | exact hd ⟨2, .phase⟩ (by simp) rfl | exact hd ⟨2, .chain⟩ (by simp) rfl)
      obtain ⟨bl, e1_⟩ := k0.out d0
      have e2_ := k2.out d2
      subst e1_ e2_
      obtain ⟨ii, hi1, hi2⟩ := Option.map_eq_some_iff.1 infoI2
      simp only [Prod.mk.injEq] at hi2
      refine wpList_copy rfl (.tmp 22) (.tmp 24) 22 rfl 3 ii _ Try.underlying22 hi1 hi2.1 hi2.2.1 hi2.2.2 rfl bl 0 (by rfl) (by rfl) PFh.p0 Lq0 ?_
      intro v1 w1 hs_ hb_
      exact HKK.out _ _ ⟨_, _, _, _, _, _, _, _, _, _, _, _, _, _, _, _, _, _, rfl, below_step HB hb_, box_below hb_ on, PFh.below hb_, Nat.le_trans hz hb_.size, k0.out, k1.out, k2.out, (fun _ => hs_.mono (fun j hj => ⟨by have h_ : w'.heap.size ≤ j := hj; omega, fun h17 g2 e_ => by obtain ⟨g3, q1, q2, q3, q4⟩ := k17.out h17; have h_ : w'.heap.size ≤ j := hj; rw [q1] at e_; injection e_ with e_; injection e_ with e_; injection e_ with e_; omega⟩)), k4.out, k5.out, k6.out, k7.out, k8.out, k9.out, k10.out, (fun h_ => (k11.out h_).below hb_), k12.out, k13.out, k14.out, (fun h_ => (k15.out h_).below hb_), (fun h_ => absurd (k16.out h_).1.1 (by rw [hl]; decide)), (fun h_ => by obtain ⟨g2, q1, q2, q3, q4⟩ := k17.out h_; exact ⟨g2, q1, q2, Nat.lt_of_lt_of_le q3 hb_.size, fun h9_ => box_below hb_ (q4 h9_)⟩), (fun h_ => absurd (k16.out (k18.out h_).1).1.1 (by rw [hl]; decide))⟩
    · -- operation 4
      obtain rfl := Option.some.inj ho
      obtain ⟨s22, s23, s24, s25, s26, s27, s28, s29, s30, s31, s32, s33, s34, s35, s36, s37, s38, s11, rfl, HB, on, PFh, hz, c0, c1, c2, c3, c4, c5, c6, c7, c8, c9, c10, c11, c12, c13, c14, c15, c16, c17, c18⟩ := hI
      obtain ⟨onc, onf, onl⟩ := cells_of on
      have k0 := Aside0.mk c0
      clear c0
      have k1 := Aside0.mk c1
      clear c1
      have k2 := Aside0.mk c2
      clear c2
      have k3 := Aside0.mk c3
      clear c3
      have k4 := Aside0.mk c4
      clear c4
      have k5 := Aside0.mk c5
      clear c5
      have k6 := Aside0.mk c6
      clear c6
      have k7 := Aside0.mk c7
      clear c7
      have k8 := Aside0.mk c8
      clear c8
      have k9 := Aside0.mk c9
      clear c9
      have k10 := Aside0.mk c10
      clear c10
      have k11 := Aside0.mk c11
      clear c11
      have k12 := Aside0.mk c12
      clear c12
      have k13 := Aside0.mk c13
      clear c13
      have k14 := Aside0.mk c14
      clear c14
      have k15 := Aside0.mk c15
      clear c15
      have k16 := Aside0.mk c16
      clear c16
      have k17 := Aside0.mk c17
      clear c17
      have k18 := Aside0.mk c18
      clear c18
      go_wp2
      exact HKK.out _ _ ⟨_, _, _, _, _, _, _, _, _, _, _, _, _, _, _, _, _, _, rfl, HB, on, PFh, hz, k0.out, k1.out, k2.out, k3.out, (fun _ => rfl), k5.out, k6.out, k7.out, k8.out, k9.out, k10.out, k11.out, k12.out, k13.out, k14.out, k15.out, k16.out, k17.out, k18.out⟩
    · -- operation 5
      obtain rfl := Option.some.inj ho
      obtain ⟨s22, s23, s24, s25, s26, s27, s28, s29, s30, s31, s32, s33, s34, s35, s36, s37, s38, s11, rfl, HB, on, PFh, hz, c0, c1, c2, c3, c4, c5, c6, c7, c8, c9, c10, c11, c12, c13, c14, c15, c16, c17, c18⟩ := hI
      obtain ⟨onc, onf, onl⟩ := cells_of on
      have k0 := Aside0.mk c0
      clear c0
      have k1 := Aside0.mk c1
      clear c1
      have k2 := Aside0.mk c2
      clear c2
      have k3 := Aside0.mk c3
      clear c3
      have k4 := Aside0.mk c4
      clear c4
      have k5 := Aside0.mk c5
      clear c5
      have k6 := Aside0.mk c6
      clear c6
      have k7 := Aside0.mk c7
      clear c7
      have k8 := Aside0.mk c8
      clear c8
      have k9 := Aside0.mk c9
      clear c9
      have k10 := Aside0.mk c10
      clear c10
      have k11 := Aside0.mk c11
      clear c11
      have k12 := Aside0.mk c12
      clear c12
      have k13 := Aside0.mk c13
      clear c13
      have k14 := Aside0.mk c14
      clear c14
      have k15 := Aside0.mk c15
      clear c15
      have k16 := Aside0.mk c16
      clear c16
      have k17 := Aside0.mk c17
      clear c17
      have k18 := Aside0.mk c18
      clear c18
      have d4 : l 4 = true := (by first | exact hd ⟨4, .data⟩ (by simp) rfl | exact hd ⟨4, .phase⟩ (by simp) rfl | exact hd ⟨4, .chain⟩ (by simp) rfl)
      have e_ := k4.out d4
      subst e_
      have hc_ : w'.cell? ⟨w.heap.size, 1, none⟩ = some (.int .i64 p.x) := (onc 1).trans rfl
      clear onc
      go_wp2
      exact HKK.out _ _ ⟨_, _, _, _, _, _, _, _, _, _, _, _, _, _, _, _, _, _, rfl, HB, on, PFh, hz, k0.out, k1.out, k2.out, k3.out, (fun _ => rfl), (fun _ => rfl), k6.out, k7.out, k8.out, k9.out, k10.out, k11.out, k12.out, k13.out, k14.out, k15.out, k16.out, k17.out, k18.out⟩
    · -- operation 6
      obtain rfl := Option.some.inj ho
      obtain ⟨s22, s23, s24, s25, s26, s27, s28, s29, s30, s31, s32, s33, s34, s35, s36, s37, s38, s11, rfl, HB, on, PFh, hz, c0, c1, c2, c3, c4, c5, c6, c7, c8, c9, c10, c11, c12, c13, c14, c15, c16, c17, c18⟩ := hI
      obtain ⟨onc, onf, onl⟩ := cells_of on
      have k0 := Aside0.mk c0
      clear c0
      have k1 := Aside0.mk c1
      clear c1
      have k2 := Aside0.mk c2
      clear c2
      have k3 := Aside0.mk c3
      clear c3
      have k4 := Aside0.mk c4
      clear c4
      have k5 := Aside0.mk c5
      clear c5
      have k6 := Aside0.mk c6
      clear c6
      have k7 := Aside0.mk c7
      clear c7
      have k8 := Aside0.mk c8
      clear c8
      have k9 := Aside0.mk c9
      clear c9
      have k10 := Aside0.mk c10
      clear c10
      have k11 := Aside0.mk c11
      clear c11
      have k12 := Aside0.mk c12
      clear c12
      have k13 := Aside0.mk c13
      clear c13
      have k14 := Aside0.mk c14
      clear c14
      have k15 := Aside0.mk c15
      clear c15
      have k16 := Aside0.mk c16
      clear c16
      have k17 := Aside0.mk c17
      clear c17
      have k18 := Aside0.mk c18
      clear c18
      go_wp2
      exact HKK.out _ _ ⟨_, _, _, _, _, _, _, _, _, _, _, _, _, _, _, _, _, _, rfl, HB, on, PFh, hz, k0.out, k1.out, k2.out, k3.out, k4.out, k5.out, (fun _ => rfl), k7.out, k8.out, k9.out, k10.out, k11.out, k12.out, k13.out, k14.out, k15.out, k16.out, k17.out, k18.out⟩
    · -- operation 7
      obtain rfl := Option.some.inj ho
      obtain ⟨s22, s23, s24, s25, s26, s27, s28, s29, s30, s31, s32, s33, s34, s35, s36, s37, s38, s11, rfl, HB, on, PFh, hz, c0, c1, c2, c3, c4, c5, c6, c7, c8, c9, c10, c11, c12, c13, c14, c15, c16, c17, c18⟩ := hI
      obtain ⟨onc, onf, onl⟩ := cells_of on
      have k0 := Aside0.mk c0
      clear c0
      have k1 := Aside0.mk c1
      clear c1
      have k2 := Aside0.mk c2
      clear c2
      have k3 := Aside0.mk c3
      clear c3
      have k4 := Aside0.mk c4
      clear c4
      have k5 := Aside0.mk c5
      clear c5
      have k6 := Aside0.mk c6
      clear c6
      have k7 := Aside0.mk c7
      clear c7
      have k8 := Aside0.mk c8
      clear c8
      have k9 := Aside0.mk c9
      clear c9
      have k10 := Aside0.mk c10
      clear c10
      have k11 := Aside0.mk c11
      clear c11
      have k12 := Aside0.mk c12
      clear c12
      have k13 := Aside0.mk c13
      clear c13
      have k14 := Aside0.mk c14
      clear c14
      have k15 := Aside0.mk c15
      clear c15
      have k16 := Aside0.mk c16
      clear c16
      have k17 := Aside0.mk c17
      clear c17
      have k18 := Aside0.mk c18
      clear c18
      have d6 : l 6 = true := (by first | exact hd ⟨6, .data⟩ (by simp) rfl | exact hd ⟨6, .phase⟩ (by simp) rfl | exact hd ⟨6, .chain⟩ (by simp) rfl)
      have e_ := k6.out d6
      subst e_
      have hc_ : w'.cell? ⟨w.heap.size, 2, none⟩ = some (.int .i64 p.y) := (onc 2).trans rfl
      clear onc
      go_wp2
      exact HKK.out _ _ ⟨_, _, _, _, _, _, _, _, _, _, _, _, _, _, _, _, _, _, rfl, HB, on, PFh, hz, k0.out, k1.out, k2.out, k3.out, k4.out, k5.out, (fun _ => rfl), (fun _ => rfl), k8.out, k9.out, k10.out, k11.out, k12.out, k13.out, k14.out, k15.out, k16.out, k17.out, k18.out⟩
    · -- operation 8
      obtain rfl := Option.some.inj ho
      obtain ⟨s22, s23, s24, s25, s26, s27, s28, s29, s30, s31, s32, s33, s34, s35, s36, s37, s38, s11, rfl, HB, on, PFh, hz, c0, c1, c2, c3, c4, c5, c6, c7, c8, c9, c10, c11, c12, c13, c14, c15, c16, c17, c18⟩ := hI
      obtain ⟨onc, onf, onl⟩ := cells_of on
      have k0 := Aside0.mk c0
      clear c0
      have k1 := Aside0.mk c1
      clear c1
      have k2 := Aside0.mk c2
      clear c2
      have k3 := Aside0.mk c3
      clear c3
      have k4 := Aside0.mk c4
      clear c4
      have k5 := Aside0.mk c5
      clear c5
      have k6 := Aside0.mk c6
      clear c6
      have k7 := Aside0.mk c7
      clear c7
      have k8 := Aside0.mk c8
      clear c8
      have k9 := Aside0.mk c9
      clear c9
      have k10 := Aside0.mk c10
      clear c10
      have k11 := Aside0.mk c11
      clear c11
      have k12 := Aside0.mk c12
      clear c12
      have k13 := Aside0.mk c13
      clear c13
      have k14 := Aside0.mk c14
      clear c14
      have k15 := Aside0.mk c15
      clear c15
      have k16 := Aside0.mk c16
      clear c16
      have k17 := Aside0.mk c17
      clear c17
      have k18 := Aside0.mk c18
      clear c18
      have hb_ : Below w'.heap.size w' (w'.alloc (.cells #[] 3 (0, 0))) := Below.alloc (Below.refl _ _) (Nat.le_refl _) _
      go_wp2
      exact HKK.out _ _ ⟨_, _, _, _, _, _, _, _, _, _, _, _, _, _, _, _, _, _, rfl, below_step HB hb_, box_below hb_ on, PFh.below hb_, Nat.le_trans hz hb_.size, k0.out, k1.out, k2.out, (fun h_ => (k3.out h_).below hb_), k4.out, k5.out, k6.out, k7.out, (fun _ => ⟨_, rfl⟩), k9.out, k10.out, (fun h_ => (k11.out h_).below hb_), k12.out, k13.out, k14.out, (fun h_ => (k15.out h_).below hb_), k16.out, (fun h_ => by obtain ⟨g2, q1, q2, q3, q4⟩ := k17.out h_; exact ⟨g2, q1, q2, Nat.lt_of_lt_of_le q3 hb_.size, fun h9_ => box_below hb_ (q4 h9_)⟩), (fun h_ => by obtain ⟨q0, q9, g2, q1, q2⟩ := k18.out h_; exact ⟨q0, q9, g2, q1, box_below hb_ q2⟩)⟩
    · -- operation 9
      obtain rfl := Option.some.inj ho
      obtain ⟨s22, s23, s24, s25, s26, s27, s28, s29, s30, s31, s32, s33, s34, s35, s36, s37, s38, s11, rfl, HB, on, PFh, hz, c0, c1, c2, c3, c4, c5, c6, c7, c8, c9, c10, c11, c12, c13, c14, c15, c16, c17, c18⟩ := hI
      obtain ⟨onc, onf, onl⟩ := cells_of on
      have k0 := Aside0.mk c0
      clear c0
      have k1 := Aside0.mk c1
      clear c1
      have k2 := Aside0.mk c2
      clear c2
      have k3 := Aside0.mk c3
      clear c3
      have k4 := Aside0.mk c4
      clear c4
      have k5 := Aside0.mk c5
      clear c5
      have k6 := Aside0.mk c6
      clear c6
      have k7 := Aside0.mk c7
      clear c7
      have k8 := Aside0.mk c8
      clear c8
      have k9 := Aside0.mk c9
      clear c9
      have k10 := Aside0.mk c10
      clear c10
      have k11 := Aside0.mk c11
      clear c11
      have k12 := Aside0.mk c12
      clear c12
      have k13 := Aside0.mk c13
      clear c13
      have k14 := Aside0.mk c14
      clear c14
      have k15 := Aside0.mk c15
      clear c15
      have k16 := Aside0.mk c16
      clear c16
      have k17 := Aside0.mk c17
      clear c17
      have k18 := Aside0.mk c18
      clear c18
      go_wp2
      exact HKK.out _ _ ⟨_, _, _, _, _, _, _, _, _, _, _, _, _, _, _, _, _, _, rfl, HB, on, PFh, hz, k0.out, k1.out, k2.out, k3.out, k4.out, k5.out, k6.out, k7.out, k8.out, (fun _ => rfl), k10.out, k11.out, k12.out, k13.out, k14.out, k15.out, k16.out, k17.out, k18.out⟩
    · -- operation 10
      obtain rfl := Option.some.inj ho
      obtain ⟨s22, s23, s24, s25, s26, s27, s28, s29, s30, s31, s32, s33, s34, s35, s36, s37, s38, s11, rfl, HB, on, PFh, hz, c0, c1, c2, c3, c4, c5, c6, c7, c8, c9, c10, c11, c12, c13, c14, c15, c16, c17, c18⟩ := hI
      obtain ⟨onc, onf, onl⟩ := cells_of on
      have k0 := Aside0.mk c0
      clear c0
      have k1 := Aside0.mk c1
      clear c1
      have k2 := Aside0.mk c2
      clear c2
      have k3 := Aside0.mk c3
      clear c3
      have k4 := Aside0.mk c4
      clear c4
      have k5 := Aside0.mk c5
      clear c5
      have k6 := Aside0.mk c6
      clear c6
      have k7 := Aside0.mk c7
      clear c7
      have k8 := Aside0.mk c8
      clear c8
      have k9 := Aside0.mk c9
      clear c9
      have k10 := Aside0.mk c10
      clear c10
      have k11 := Aside0.mk c11
      clear c11
      have k12 := Aside0.mk c12
      clear c12
      have k13 := Aside0.mk c13
      clear c13
      have k14 := Aside0.mk c14
      clear c14
      have k15 := Aside0.mk c15
      clear c15
      have k16 := Aside0.mk c16
      clear c16
      have k17 := Aside0.mk c17
      clear c17
      have k18 := Aside0.mk c18
      clear c18
      have d9 : l 9 = true := (by first | exact hd ⟨9, .data⟩ (by simp) rfl | exact hd ⟨9, .phase⟩ (by simp) rfl | exact hd ⟨9, .chain⟩ (by simp) rfl)
      have e_ := k9.out d9
      subst e_
      have hc_ : w'.cell? ⟨w.heap.size, 3, none⟩ = some v.p3 := (onc 3).trans rfl
      clear onc
      go_wp2
      exact HKK.out _ _ ⟨_, _, _, _, _, _, _, _, _, _, _, _, _, _, _, _, _, _, rfl, HB, on, PFh, hz, k0.out, k1.out, k2.out, k3.out, k4.out, k5.out, k6.out, k7.out, k8.out, (fun _ => rfl), (fun _ => rfl), k11.out, k12.out, k13.out, k14.out, k15.out, k16.out, k17.out, k18.out⟩
    · -- operation 11
      obtain rfl := Option.some.inj ho
      obtain ⟨s22, s23, s24, s25, s26, s27, s28, s29, s30, s31, s32, s33, s34, s35, s36, s37, s38, s11, rfl, HB, on, PFh, hz, c0, c1, c2, c3, c4, c5, c6, c7, c8, c9, c10, c11, c12, c13, c14, c15, c16, c17, c18⟩ := hI
      obtain ⟨onc, onf, onl⟩ := cells_of on
      have k0 := Aside0.mk c0
      clear c0
      have k1 := Aside0.mk c1
      clear c1
      have k2 := Aside0.mk c2
      clear c2
      have k3 := Aside0.mk c3
      clear c3
      have k4 := Aside0.mk c4
      clear c4
      have k5 := Aside0.mk c5
      clear c5
      have k6 := Aside0.mk c6
      clear c6
      have k7 := Aside0.mk c7
      clear c7
      have k8 := Aside0.mk c8
      clear c8
      have k9 := Aside0.mk c9
      clear c9
      have k10 := Aside0.mk c10
      clear c10
      have k11 := Aside0.mk c11
      clear c11
      have k12 := Aside0.mk c12
      clear c12
      have k13 := Aside0.mk c13
      clear c13
      have k14 := Aside0.mk c14
      clear c14
      have k15 := Aside0.mk c15
      clear c15
      have k16 := Aside0.mk c16
      clear c16
      have k17 := Aside0.mk c17
      clear c17
      have k18 := Aside0.mk c18
      clear c18
      have d8 : l 8 = true := (by first | exact hd ⟨8, .data⟩ (by simp) rfl | exact hd ⟨8, .phase⟩ (by simp) rfl | exact hd ⟨8, .chain⟩ (by simp) rfl)
      have d10 : l 10 = true := (by first | exact hd ⟨10, .data⟩ (by simp) rfl | exact hd ⟨10, .phase⟩ (by simp) rfl | exact hd ⟨10, .chain⟩ (by simp) rfl)
      obtain ⟨bl, e1_⟩ := k8.out d8
      have e2_ := k10.out d10
      subst e1_ e2_
      obtain ⟨ii, hi1, hi2⟩ := Option.map_eq_some_iff.1 infoI2
      simp only [Prod.mk.injEq] at hi2
      refine wpList_copy rfl (.tmp 30) (.tmp 32) 22 rfl 3 ii _ Try.underlying22 hi1 hi2.1 hi2.2.1 hi2.2.2 rfl bl 0 (by rfl) (by rfl) PFh.p3 Lq3 ?_
      intro v1 w1 hs_ hb_
      exact HKK.out _ _ ⟨_, _, _, _, _, _, _, _, _, _, _, _, _, _, _, _, _, _, rfl, below_step HB hb_, box_below hb_ on, PFh.below hb_, Nat.le_trans hz hb_.size, k0.out, k1.out, k2.out, (fun h_ => (k3.out h_).below hb_), k4.out, k5.out, k6.out, k7.out, k8.out, k9.out, k10.out, (fun _ => hs_.mono (fun j hj => ⟨by have h_ : w'.heap.size ≤ j := hj; omega, fun h17 g2 e_ => by obtain ⟨g3, q1, q2, q3, q4⟩ := k17.out h17; have h_ : w'.heap.size ≤ j := hj; rw [q1] at e_; injection e_ with e_; injection e_ with e_; injection e_ with e_; omega⟩)), k12.out, k13.out, k14.out, (fun h_ => (k15.out h_).below hb_), (fun h_ => absurd (k16.out h_).1.2.1 (by rw [hl]; decide)), (fun h_ => by obtain ⟨g2, q1, q2, q3, q4⟩ := k17.out h_; exact ⟨g2, q1, q2, Nat.lt_of_lt_of_le q3 hb_.size, fun h9_ => box_below hb_ (q4 h9_)⟩), (fun h_ => absurd (k16.out (k18.out h_).1).1.2.1 (by rw [hl]; decide))⟩
    · -- operation 12
      obtain rfl := Option.some.inj ho
      obtain ⟨s22, s23, s24, s25, s26, s27, s28, s29, s30, s31, s32, s33, s34, s35, s36, s37, s38, s11, rfl, HB, on, PFh, hz, c0, c1, c2, c3, c4, c5, c6, c7, c8, c9, c10, c11, c12, c13, c14, c15, c16, c17, c18⟩ := hI
      obtain ⟨onc, onf, onl⟩ := cells_of on
      have k0 := Aside0.mk c0
      clear c0
      have k1 := Aside0.mk c1
      clear c1
      have k2 := Aside0.mk c2
      clear c2
      have k3 := Aside0.mk c3
      clear c3
      have k4 := Aside0.mk c4
      clear c4
      have k5 := Aside0.mk c5
      clear c5
      have k6 := Aside0.mk c6
      clear c6
      have k7 := Aside0.mk c7
      clear c7
      have k8 := Aside0.mk c8
      clear c8
      have k9 := Aside0.mk c9
      clear c9
      have k10 := Aside0.mk c10
      clear c10
      have k11 := Aside0.mk c11
      clear c11
      have k12 := Aside0.mk c12
      clear c12
      have k13 := Aside0.mk c13
      clear c13
      have k14 := Aside0.mk c14
      clear c14
      have k15 := Aside0.mk c15
      clear c15
      have k16 := Aside0.mk c16
      clear c16
      have k17 := Aside0.mk c17
      clear c17
      have k18 := Aside0.mk c18
      clear c18
      have hb_ : Below w'.heap.size w' (w'.alloc (.cells #[] 3 (0, 0))) := Below.alloc (Below.refl _ _) (Nat.le_refl _) _
      go_wp2
      exact HKK.out _ _ ⟨_, _, _, _, _, _, _, _, _, _, _, _, _, _, _, _, _, _, rfl, below_step HB hb_, box_below hb_ on, PFh.below hb_, Nat.le_trans hz hb_.size, k0.out, k1.out, k2.out, (fun h_ => (k3.out h_).below hb_), k4.out, k5.out, k6.out, k7.out, k8.out, k9.out, k10.out, (fun h_ => (k11.out h_).below hb_), (fun _ => ⟨_, rfl⟩), k13.out, k14.out, (fun h_ => (k15.out h_).below hb_), k16.out, (fun h_ => by obtain ⟨g2, q1, q2, q3, q4⟩ := k17.out h_; exact ⟨g2, q1, q2, Nat.lt_of_lt_of_le q3 hb_.size, fun h9_ => box_below hb_ (q4 h9_)⟩), (fun h_ => by obtain ⟨q0, q9, g2, q1, q2⟩ := k18.out h_; exact ⟨q0, q9, g2, q1, box_below hb_ q2⟩)⟩
    · -- operation 13
      obtain rfl := Option.some.inj ho
      obtain ⟨s22, s23, s24, s25, s26, s27, s28, s29, s30, s31, s32, s33, s34, s35, s36, s37, s38, s11, rfl, HB, on, PFh, hz, c0, c1, c2, c3, c4, c5, c6, c7, c8, c9, c10, c11, c12, c13, c14, c15, c16, c17, c18⟩ := hI
      obtain ⟨onc, onf, onl⟩ := cells_of on
      have k0 := Aside0.mk c0
      clear c0
      have k1 := Aside0.mk c1
      clear c1
      have k2 := Aside0.mk c2
      clear c2
      have k3 := Aside0.mk c3
      clear c3
      have k4 := Aside0.mk c4
      clear c4
      have k5 := Aside0.mk c5
      clear c5
      have k6 := Aside0.mk c6
      clear c6
      have k7 := Aside0.mk c7
      clear c7
      have k8 := Aside0.mk c8
      clear c8
      have k9 := Aside0.mk c9
      clear c9
      have k10 := Aside0.mk c10
      clear c10
      have k11 := Aside0.mk c11
      clear c11
      have k12 := Aside0.mk c12
      clear c12
      have k13 := Aside0.mk c13
      clear c13
      have k14 := Aside0.mk c14
      clear c14
      have k15 := Aside0.mk c15
      clear c15
      have k16 := Aside0.mk c16
      clear c16
      have k17 := Aside0.mk c17
      clear c17
      have k18 := Aside0.mk c18
      clear c18
      go_wp2
      exact HKK.out _ _ ⟨_, _, _, _, _, _, _, _, _, _, _, _, _, _, _, _, _, _, rfl, HB, on, PFh, hz, k0.out, k1.out, k2.out, k3.out, k4.out, k5.out, k6.out, k7.out, k8.out, k9.out, k10.out, k11.out, k12.out, (fun _ => rfl), k14.out, k15.out, k16.out, k17.out, k18.out⟩
    · -- operation 14
      obtain rfl := Option.some.inj ho
      obtain ⟨s22, s23, s24, s25, s26, s27, s28, s29, s30, s31, s32, s33, s34, s35, s36, s37, s38, s11, rfl, HB, on, PFh, hz, c0, c1, c2, c3, c4, c5, c6, c7, c8, c9, c10, c11, c12, c13, c14, c15, c16, c17, c18⟩ := hI
      obtain ⟨onc, onf, onl⟩ := cells_of on
      have k0 := Aside0.mk c0
      clear c0
      have k1 := Aside0.mk c1
      clear c1
      have k2 := Aside0.mk c2
      clear c2
      have k3 := Aside0.mk c3
      clear c3
      have k4 := Aside0.mk c4
      clear c4
      have k5 := Aside0.mk c5
      clear c5
      have k6 := Aside0.mk c6
      clear c6
      have k7 := Aside0.mk c7
      clear c7
      have k8 := Aside0.mk c8
      clear c8
      have k9 := Aside0.mk c9
      clear c9
      have k10 := Aside0.mk c10
      clear c10
      have k11 := Aside0.mk c11
      clear c11
      have k12 := Aside0.mk c12
      clear c12
      have k13 := Aside0.mk c13
      clear c13
      have k14 := Aside0.mk c14
      clear c14
      have k15 := Aside0.mk c15
      clear c15
      have k16 := Aside0.mk c16
      clear c16
      have k17 := Aside0.mk c17
      clear c17
      have k18 := Aside0.mk c18
      clear c18
      have d13 : l 13 = true := (by first | exact hd ⟨13, .data⟩ (by simp) rfl | exact hd ⟨13, .phase⟩ (by simp) rfl | exact hd ⟨13, .chain⟩ (by simp) rfl)
      have e_ := k13.out d13
      subst e_
      have hc_ : w'.cell? ⟨w.heap.size, 4, none⟩ = some v.p4 := (onc 4).trans rfl
      clear onc
      go_wp2
      exact HKK.out _ _ ⟨_, _, _, _, _, _, _, _, _, _, _, _, _, _, _, _, _, _, rfl, HB, on, PFh, hz, k0.out, k1.out, k2.out, k3.out, k4.out, k5.out, k6.out, k7.out, k8.out, k9.out, k10.out, k11.out, k12.out, (fun _ => rfl), (fun _ => rfl), k15.out, k16.out, k17.out, k18.out⟩
    · -- operation 15
      obtain rfl := Option.some.inj ho
      obtain ⟨s22, s23, s24, s25, s26, s27, s28, s29, s30, s31, s32, s33, s34, s35, s36, s37, s38, s11, rfl, HB, on, PFh, hz, c0, c1, c2, c3, c4, c5, c6, c7, c8, c9, c10, c11, c12, c13, c14, c15, c16, c17, c18⟩ := hI
      obtain ⟨onc, onf, onl⟩ := cells_of on
      have k0 := Aside0.mk c0
      clear c0
      have k1 := Aside0.mk c1
      clear c1
      have k2 := Aside0.mk c2
      clear c2
      have k3 := Aside0.mk c3
      clear c3
      have k4 := Aside0.mk c4
      clear c4
      have k5 := Aside0.mk c5
      clear c5
      have k6 := Aside0.mk c6
      clear c6
      have k7 := Aside0.mk c7
      clear c7
      have k8 := Aside0.mk c8
      clear c8
      have k9 := Aside0.mk c9
      clear c9
      have k10 := Aside0.mk c10
      clear c10
      have k11 := Aside0.mk c11
      clear c11
      have k12 := Aside0.mk c12
      clear c12
      have k13 := Aside0.mk c13
      clear c13
      have k14 := Aside0.mk c14
      clear c14
      have k15 := Aside0.mk c15
      clear c15
      have k16 := Aside0.mk c16
      clear c16
      have k17 := Aside0.mk c17
      clear c17
      have k18 := Aside0.mk c18
      clear c18
      have d12 : l 12 = true := (by first | exact hd ⟨12, .data⟩ (by simp) rfl | exact hd ⟨12, .phase⟩ (by simp) rfl | exact hd ⟨12, .chain⟩ (by simp) rfl)
      have d14 : l 14 = true := (by first | exact hd ⟨14, .data⟩ (by simp) rfl | exact hd ⟨14, .phase⟩ (by simp) rfl | exact hd ⟨14, .chain⟩ (by simp) rfl)
      obtain ⟨bl, e1_⟩ := k12.out d12
      have e2_ := k14.out d14
      subst e1_ e2_
      obtain ⟨ii, hi1, hi2⟩ := Option.map_eq_some_iff.1 infoI2
      simp only [Prod.mk.injEq] at hi2
      refine wpList_copy rfl (.tmp 34) (.tmp 36) 22 rfl 3 ii _ Try.underlying22 hi1 hi2.1 hi2.2.1 hi2.2.2 rfl bl 0 (by rfl) (by rfl) PFh.p4 Lq4 ?_
      intro v1 w1 hs_ hb_
      exact HKK.out _ _ ⟨_, _, _, _, _, _, _, _, _, _, _, _, _, _, _, _, _, _, rfl, below_step HB hb_, box_below hb_ on, PFh.below hb_, Nat.le_trans hz hb_.size, k0.out, k1.out, k2.out, (fun h_ => (k3.out h_).below hb_), k4.out, k5.out, k6.out, k7.out, k8.out, k9.out, k10.out, (fun h_ => (k11.out h_).below hb_), k12.out, k13.out, k14.out, (fun _ => hs_.mono (fun j hj => ⟨by have h_ : w'.heap.size ≤ j := hj; omega, fun h17 g2 e_ => by obtain ⟨g3, q1, q2, q3, q4⟩ := k17.out h17; have h_ : w'.heap.size ≤ j := hj; rw [q1] at e_; injection e_ with e_; injection e_ with e_; injection e_ with e_; omega⟩)), (fun h_ => absurd (k16.out h_).1.2.2 (by rw [hl]; decide)), (fun h_ => by obtain ⟨g2, q1, q2, q3, q4⟩ := k17.out h_; exact ⟨g2, q1, q2, Nat.lt_of_lt_of_le q3 hb_.size, fun h9_ => box_below hb_ (q4 h9_)⟩), (fun h_ => absurd (k16.out (k18.out h_).1).1.2.2 (by rw [hl]; decide))⟩
    · -- operation 16
      obtain rfl := Option.some.inj ho
      obtain ⟨s22, s23, s24, s25, s26, s27, s28, s29, s30, s31, s32, s33, s34, s35, s36, s37, s38, s11, rfl, HB, on, PFh, hz, c0, c1, c2, c3, c4, c5, c6, c7, c8, c9, c10, c11, c12, c13, c14, c15, c16, c17, c18⟩ := hI
      obtain ⟨onc, onf, onl⟩ := cells_of on
      have k0 := Aside0.mk c0
      clear c0
      have k1 := Aside0.mk c1
      clear c1
      have k2 := Aside0.mk c2
      clear c2
      have k3 := Aside0.mk c3
      clear c3
      have k4 := Aside0.mk c4
      clear c4
      have k5 := Aside0.mk c5
      clear c5
      have k6 := Aside0.mk c6
      clear c6
      have k7 := Aside0.mk c7
      clear c7
      have k8 := Aside0.mk c8
      clear c8
      have k9 := Aside0.mk c9
      clear c9
      have k10 := Aside0.mk c10
      clear c10
      have k11 := Aside0.mk c11
      clear c11
      have k12 := Aside0.mk c12
      clear c12
      have k13 := Aside0.mk c13
      clear c13
      have k14 := Aside0.mk c14
      clear c14
      have k15 := Aside0.mk c15
      clear c15
      have k16 := Aside0.mk c16
      clear c16
      have k17 := Aside0.mk c17
      clear c17
      have k18 := Aside0.mk c18
      clear c18
      have d3 : l 3 = true := (by first | exact hd ⟨3, .data⟩ (by simp) rfl | exact hd ⟨3, .phase⟩ (by simp) rfl | exact hd ⟨3, .chain⟩ (by simp) rfl)
      have d5 : l 5 = true := (by first | exact hd ⟨5, .data⟩ (by simp) rfl | exact hd ⟨5, .phase⟩ (by simp) rfl | exact hd ⟨5, .chain⟩ (by simp) rfl)
      have d7 : l 7 = true := (by first | exact hd ⟨7, .data⟩ (by simp) rfl | exact hd ⟨7, .phase⟩ (by simp) rfl | exact hd ⟨7, .chain⟩ (by simp) rfl)
      have d11 : l 11 = true := (by first | exact hd ⟨11, .data⟩ (by simp) rfl | exact hd ⟨11, .phase⟩ (by simp) rfl | exact hd ⟨11, .chain⟩ (by simp) rfl)
      have d15 : l 15 = true := (by first | exact hd ⟨15, .data⟩ (by simp) rfl | exact hd ⟨15, .phase⟩ (by simp) rfl | exact hd ⟨15, .chain⟩ (by simp) rfl)
      have e27 := k5.out d5
      have e29 := k7.out d7
      obtain ⟨A5, cp5, e25, r5⟩ := k3.out d3
      obtain ⟨A6, cp6, e33, r6⟩ := k11.out d11
      obtain ⟨A7, cp7, e37, r7⟩ := k15.out d15
      subst e27 e29 e25 e33 e37
      go_wp2
      exact HKK.out _ _ ⟨_, _, _, _, _, _, _, _, _, _, _, _, _, _, _, _, _, _, rfl, HB, on, PFh, hz, k0.out, k1.out, k2.out, k3.out, k4.out, (fun _ => rfl), k6.out, (fun _ => rfl), k8.out, k9.out, k10.out, k11.out, k12.out, k13.out, k14.out, k15.out, (fun _ => ⟨⟨d3, d11, d15⟩, rfl⟩), k17.out, (fun h_ => absurd (k18.out h_).1 (by rw [hl]; decide))⟩
    · -- operation 17
      obtain rfl := Option.some.inj ho
      obtain ⟨s22, s23, s24, s25, s26, s27, s28, s29, s30, s31, s32, s33, s34, s35, s36, s37, s38, s11, rfl, HB, on, PFh, hz, c0, c1, c2, c3, c4, c5, c6, c7, c8, c9, c10, c11, c12, c13, c14, c15, c16, c17, c18⟩ := hI
      obtain ⟨onc, onf, onl⟩ := cells_of on
      have k0 := Aside0.mk c0
      clear c0
      have k1 := Aside0.mk c1
      clear c1
      have k2 := Aside0.mk c2
      clear c2
      have k3 := Aside0.mk c3
      clear c3
      have k4 := Aside0.mk c4
      clear c4
      have k5 := Aside0.mk c5
      clear c5
      have k6 := Aside0.mk c6
      clear c6
      have k7 := Aside0.mk c7
      clear c7
      have k8 := Aside0.mk c8
      clear c8
      have k9 := Aside0.mk c9
      clear c9
      have k10 := Aside0.mk c10
      clear c10
      have k11 := Aside0.mk c11
      clear c11
      have k12 := Aside0.mk c12
      clear c12
      have k13 := Aside0.mk c13
      clear c13
      have k14 := Aside0.mk c14
      clear c14
      have k15 := Aside0.mk c15
      clear c15
      have k16 := Aside0.mk c16
      clear c16
      have k17 := Aside0.mk c17
      clear c17
      have k18 := Aside0.mk c18
      clear c18
      have hb_ : Below w'.heap.size w' (w'.alloc (.cells PZ 24 (0, 0))) := Below.alloc (Below.refl _ _) (Nat.le_refl _) _
      have hsz_ : (w'.alloc (.cells PZ 24 (0, 0))).heap.size = w'.heap.size + 1 := by simp
      have hnb_ := nb_1 w' (.cells PZ 24 (0, 0))
      go_wp2
      exact HKK.out _ _ ⟨_, _, _, _, _, _, _, _, _, _, _, _, _, _, _, _, _, _, rfl, below_step HB hb_, box_below hb_ on, PFh.below hb_, Nat.le_trans hz hb_.size, k0.out, k1.out, k2.out, (fun h_ => ((k3.out h_).bound.below hb_).mono (fun j hj => ⟨hj.1.1, fun _ g2 e_ => by have h2_ := hj.2; injection e_ with e_; injection e_ with e_; injection e_ with e_; omega⟩)), k4.out, k5.out, k6.out, k7.out, k8.out, k9.out, k10.out, (fun h_ => ((k11.out h_).bound.below hb_).mono (fun j hj => ⟨hj.1.1, fun _ g2 e_ => by have h2_ := hj.2; injection e_ with e_; injection e_ with e_; injection e_ with e_; omega⟩)), k12.out, k13.out, k14.out, (fun h_ => ((k15.out h_).bound.below hb_).mono (fun j hj => ⟨hj.1.1, fun _ g2 e_ => by have h2_ := hj.2; injection e_ with e_; injection e_ with e_; injection e_ with e_; omega⟩)), k16.out, (fun _ => ⟨w'.heap.size, rfl, hz, by show w'.heap.size < (w'.alloc (.cells PZ 24 (0, 0))).heap.size; omega, fun _ => hnb_⟩), (fun h_ => absurd (k18.out h_).2.1 (by rw [hl]; decide))⟩
    · -- operation 18
      obtain rfl := Option.some.inj ho
      obtain ⟨s22, s23, s24, s25, s26, s27, s28, s29, s30, s31, s32, s33, s34, s35, s36, s37, s38, s11, rfl, HB, on, PFh, hz, c0, c1, c2, c3, c4, c5, c6, c7, c8, c9, c10, c11, c12, c13, c14, c15, c16, c17, c18⟩ := hI
      obtain ⟨onc, onf, onl⟩ := cells_of on
      have k0 := Aside0.mk c0
      clear c0
      have k1 := Aside0.mk c1
      clear c1
      have k2 := Aside0.mk c2
      clear c2
      have k3 := Aside0.mk c3
      clear c3
      have k4 := Aside0.mk c4
      clear c4
      have k5 := Aside0.mk c5
      clear c5
      have k6 := Aside0.mk c6
      clear c6
      have k7 := Aside0.mk c7
      clear c7
      have k8 := Aside0.mk c8
      clear c8
      have k9 := Aside0.mk c9
      clear c9
      have k10 := Aside0.mk c10
      clear c10
      have k11 := Aside0.mk c11
      clear c11
      have k12 := Aside0.mk c12
      clear c12
      have k13 := Aside0.mk c13
      clear c13
      have k14 := Aside0.mk c14
      clear c14
      have k15 := Aside0.mk c15
      clear c15
      have k16 := Aside0.mk c16
      clear c16
      have k17 := Aside0.mk c17
      clear c17
      have k18 := Aside0.mk c18
      clear c18
      have d16 : l 16 = true := (by first | exact hd ⟨16, .data⟩ (by simp) rfl | exact hd ⟨16, .phase⟩ (by simp) rfl | exact hd ⟨16, .chain⟩ (by simp) rfl)
      have d17 : l 17 = true := (by first | exact hd ⟨17, .data⟩ (by simp) rfl | exact hd ⟨17, .phase⟩ (by simp) rfl | exact hd ⟨17, .chain⟩ (by simp) rfl)
      obtain ⟨g2, e11, q2, q3, q4⟩ := k17.out d17
      have e38 := (k16.out d16).2
      obtain ⟨d3, d11, d15⟩ := (k16.out d16).1
      subst e11 e38
      have hg_ := q4 hl
      have P2 : PF w' (fun j => j ≠ g2) p ⟨s25, s33, s37⟩ := ⟨(k3.out d3).mono (fun j hj => hj.2 d17 g2 rfl), (k11.out d11).mono (fun j hj => hj.2 d17 g2 rfl), (k15.out d15).mono (fun j hj => hj.2 d17 g2 rfl)⟩
      refine wpList_store_all rfl 24 _ _ rfl rfl _ (PC p ⟨s25, s33, s37⟩) (by rfl) (by rfl) _ _ hg_ rfl infPC P2.one ?_
      rintro w1 ⟨hx_, hk_, hb_, hzz_⟩
      have hw_ : Below w.heap.size w w1 := Below.trans HB (Below.mono hb_ (by omega))
      have hn_ : w.heap.size ≠ g2 := by omega
      exact HKK.out _ _ ⟨_, _, _, _, _, _, _, _, _, _, _, _, _, _, _, _, _, _, rfl, hw_, (hk_ _ hn_).trans on, PFh.step (fun j hj _ => hk_ j (by have h_ : j < w.heap.size := hj; omega)), by omega, k0.out, k1.out, k2.out, (fun h_ => (k3.out h_).step (fun j hj _ => hk_ j (hj.2 d17 g2 rfl))), k4.out, k5.out, k6.out, k7.out, k8.out, k9.out, k10.out, (fun h_ => (k11.out h_).step (fun j hj _ => hk_ j (hj.2 d17 g2 rfl))), k12.out, k13.out, k14.out, (fun h_ => (k15.out h_).step (fun j hj _ => hk_ j (hj.2 d17 g2 rfl))), k16.out, (fun _ => ⟨g2, rfl, q2, by omega, fun h9_ => by cases h9_⟩), (fun _ => ⟨d16, d17, g2, rfl, hx_⟩)⟩
  · intro l a w' hall hI
    clear on0 hb_ hz0
    obtain ⟨s22, s23, s24, s25, s26, s27, s28, s29, s30, s31, s32, s33, s34, s35, s36, s37, s38, s11, rfl, HB0, on0, PFh, hz, c0, c1, c2, c3, c4, c5, c6, c7, c8, c9, c10, c11, c12, c13, c14, c15, c16, c17, c18⟩ := hI
    obtain ⟨_, _, g2, e11, hg2⟩ := c18 (hall 18 (by decide))
    obtain ⟨g3, q1, q2, q3, _⟩ := c17 (hall 17 (by decide))
    subst e11
    injection q1 with q1
    injection q1 with q1
    injection q1 with q1
    subst q1
    have HV : Aside0 (PF w' (fun j => True ∧ j < w'.heap.size) p ⟨s25, s33, s37⟩) := ⟨PF.mono (ok := fun j => RP w l (.pointer (some ⟨g2, 0, none⟩)) j ∧ j < w'.heap.size) (PF.bound ⟨c3 (hall 3 (by decide)), c11 (hall 11 (by decide)), c15 (hall 15 (by decide))⟩) (fun j hj => ⟨trivial, hj.2⟩)⟩
    have HF_ : Aside0 (PF w' (fun j => True ∧ j < w'.heap.size) p v) := ⟨PFh.bound.mono (fun j hj => ⟨trivial, hj.2⟩)⟩
    clear c0 c1 c2 c3 c4 c5 c6 c7 c8 c9 c10 c11 c12 c13 c14 c15 c16 c17 c18 hF HF PFh
    have HF := HF_
    clear HF_
    have HB : Aside0 (Below w.heap.size w w') := ⟨HB0⟩
    have on := Aside0.mk on0
    have oo := Aside0.mk hg2
    clear HB0 on0 hg2 hall
    obtain ⟨onc, onf, onl⟩ := cells_of on.out
    obtain ⟨ooc, oof, ool⟩ := cells_of oo.out
    obtain ⟨r1, p2, r7, hL⟩ := load_tot p off size
    obtain ⟨p3, r6, hS⟩ := store_tot p off size x
    obtain ⟨p4, hT⟩ := set_tot p lines
    obtain ⟨n, hN1, hN2⟩ := best_tot p HO.out lines
    have hT2 : drawbridgeref10_Set.f 4 p.q0 p.x p.y p.q3 p.q4 lines = some (p4.q0, p4.x, p4.y, p4.q3, p4.q4) := (rset_is 0 _ _ _ _ _ _ HO.out.x HO.out.y HO.out.q3).trans hT
    have HL := Aside0.mk hL
    have HS := Aside0.mk hS
    have HT := Aside0.mk hT
    have HT2 := Aside0.mk hT2
    have HN1 := Aside0.mk hN1
    have HN2 := Aside0.mk hN2
    have HX := Aside0.mk hx
    obtain ⟨ck, hck⟩ : ∃ ck, ckP p = ck := ⟨_, rfl⟩
    have HCK := Aside0.mk hck
    clear hL hS hT hT2 hN1 hN2 hx hck
    have b1 : (r1 != r1) = false := by simp
    have b7 : (r7 != r7) = false := by simp
    have b6 : (r6 != r6) = false := by simp
    have bn : (n == n) = true := beq_self_eq_true n
    have bk : (ck == ck) = true := beq_self_eq_true ck
    go_wp2_with (first | ((with_reducible refine gate_dst (N := 40) rfl ?_); (try (refine gate_guard (by rfl) ?_; dsimp only)); refine wpList_load_row rfl 24 _ rfl _ (by rfl) _ (PC p ⟨s25, s33, s37⟩) _ _ (eG oo) Try.underlying24 rfl infPC ?_))
    (go_at_call 11; (with_reducible refine (pload_c HV.out off size r1 p2 r7 HL.out).mono ?_); rintro e_ w2 ⟨v2, rfl, HA, hb_⟩; have HB_ : Aside0 (Below w.heap.size w w2) := Aside0.mk (below_step (bG HB) hb_); have hzw2 := hb_.size; (try simp at hzw2); have on_ := Aside0.mk (box_below hb_ (eG on)); have oo_ := Aside0.mk (box_below hb_ (eG oo)); (try clear on onc onf onl); have on := on_; clear on_; obtain ⟨onc, onf, onl⟩ := cells_of on.out; (try clear oo ooc oof ool); have oo := oo_; clear oo_; obtain ⟨ooc, oof, ool⟩ := cells_of oo.out; have HF_ := Aside0.mk (PF.below (by repeat (with_reducible first | exact HF.out | apply PF.drew | apply PF.drewN | apply PF.alloc)) hb_); clear HF; have HF := HF_; clear HF_; have HV_ := Aside0.mk (PF.below (by repeat (with_reducible first | exact HV.out | apply PF.drew | apply PF.drewN | apply PF.alloc)) hb_); clear HV; have HV := HV_; clear HV_; clear HB hb_; have HB := HB_; clear HB_; have HA_ := Aside0.mk HA; clear HA; have HA := HA_; clear HA_; skip)
    have HA_ : Aside0 (PF w2 (fun j => True ∧ j < w2.heap.size) _ _) := ⟨HA.out.bound.mono (fun j hj => ⟨trivial, hj.2⟩)⟩
    clear HA
    have HA := HA_
    clear HA_
    go_wp2_with (first | ((with_reducible refine gate_store (t := 24) (p := 13) (v := .tmp 45) rfl ?_); refine wpList_store_all rfl 24 _ _ rfl rfl _ (PC p2 v2) (by rfl) (by rfl) _ _ (nb_1 _ _) rfl infPC (HA.out.one) ?_; rintro w3 ⟨hx_, hk_, hb_, hzz_⟩; have HB_ : Aside0 (Below w.heap.size w w3) := Aside0.mk (Below.trans (bG HB) (Below.mono hb_ (by first | omega | (simp only [sz_alloc, sz_drew, sz_drewN]; omega)))); have hzw3 := Nat.le_of_eq hzz_.symm; (try simp at hzw3); clear hzz_; have on_ := Aside0.mk (st_put on.out hk_ (fun h_ => (by repeat (with_reducible first | exact h_ | apply ext_drew | apply ext_drewN | apply ext_alloc | refine blk_far ?_ (by show _ ≠ _; dsimp only; omega) _))) (by omega)); clear on onc onf onl; have on := on_; clear on_; obtain ⟨onc, onf, onl⟩ := cells_of on.out; have oo_ := Aside0.mk (st_put oo.out hk_ (fun h_ => (by repeat (with_reducible first | exact h_ | apply ext_drew | apply ext_drewN | apply ext_alloc | refine blk_far ?_ (by show _ ≠ _; dsimp only; omega) _))) (by omega)); clear oo ooc oof ool; have oo := oo_; clear oo_; obtain ⟨ooc, oof, ool⟩ := cells_of oo.out; (first | (have HF_ := Aside0.mk (PF.step HF.out (fun j hj _ => hk_ j ((by have h_ := hj.2; omega))))) | (have HF_ := Aside0.mk (PF.step (PF.alloc HF.out _) (fun j hj _ => hk_ j ((by have h_ := hj.2; omega)))))); clear HF; have HF := HF_; clear HF_; (first | (have HV_ := Aside0.mk (PF.step HV.out (fun j hj _ => hk_ j ((by have h_ := hj.2; omega))))) | (have HV_ := Aside0.mk (PF.step (PF.alloc HV.out _) (fun j hj _ => hk_ j ((by have h_ := hj.2; omega)))))); clear HV; have HV := HV_; clear HV_; (first | (have HA_ := Aside0.mk (PF.step HA.out (fun j hj _ => hk_ j ((by have h_ := hj.2; omega))))) | (have HA_ := Aside0.mk (PF.step (PF.alloc HA.out _) (fun j hj _ => hk_ j ((by have h_ := hj.2; omega)))))); clear HA; have HA := HA_; clear HA_; (try clear oa oac oaf oal); have oa := Aside0.mk hx_; obtain ⟨oac, oaf, oal⟩ := cells_of oa.out; clear HB hb_ hk_ hx_; have HB := HB_; clear HB_) | ((with_reducible refine gate_dst (N := 48) rfl ?_); (try (refine gate_guard (by rfl) ?_; dsimp only)); refine wpList_load_row rfl 24 _ rfl _ (by rfl) _ (PC p v) _ _ (eG on) Try.underlying24 rfl infPC ?_))
    (go_at_call 13; (with_reducible refine (rload_c p v off size _ _ HF.out HO.out r1 p2 r7 HL.out).mono ?_); rintro e_ w4 ⟨v3, rfl, HC, hb_⟩; have HB_ : Aside0 (Below w.heap.size w w4) := Aside0.mk (below_step (bG HB) hb_); have hzw4 := hb_.size; (try simp at hzw4); have on_ := Aside0.mk (box_below hb_ (eG on)); have oo_ := Aside0.mk (box_below hb_ (eG oo)); have oa_ := Aside0.mk (box_below hb_ (eG oa)); (try clear on onc onf onl); have on := on_; clear on_; obtain ⟨onc, onf, onl⟩ := cells_of on.out; (try clear oo ooc oof ool); have oo := oo_; clear oo_; obtain ⟨ooc, oof, ool⟩ := cells_of oo.out; (try clear oa oac oaf oal); have oa := oa_; clear oa_; obtain ⟨oac, oaf, oal⟩ := cells_of oa.out; have HF_ := Aside0.mk (PF.below (by repeat (with_reducible first | exact HF.out | apply PF.drew | apply PF.drewN | apply PF.alloc)) hb_); clear HF; have HF := HF_; clear HF_; have HV_ := Aside0.mk (PF.below (by repeat (with_reducible first | exact HV.out | apply PF.drew | apply PF.drewN | apply PF.alloc)) hb_); clear HV; have HV := HV_; clear HV_; have HA_ := Aside0.mk (PF.below (by repeat (with_reducible first | exact HA.out | apply PF.drew | apply PF.drewN | apply PF.alloc)) hb_); clear HA; have HA := HA_; clear HA_; clear HB hb_; have HB := HB_; clear HB_; have HC_ := Aside0.mk HC; clear HC; have HC := HC_; clear HC_; skip)
    have HC_ : Aside0 (PF w4 (fun j => True ∧ j < w4.heap.size) _ _) := ⟨HC.out.bound.mono (fun j hj => ⟨trivial, hj.2⟩)⟩
    clear HC
    have HC := HC_
    clear HC_
    go_wp2_with (first | ((with_reducible refine gate_store (t := 24) (p := 16) (v := .tmp 53) rfl ?_); refine wpList_store_all rfl 24 _ _ rfl rfl _ (PC p2 v3) (by rfl) (by rfl) _ _ (nb_1 _ _) rfl infPC (HC.out.one) ?_; rintro w5 ⟨hx_, hk_, hb_, hzz_⟩; have HB_ : Aside0 (Below w.heap.size w w5) := Aside0.mk (Below.trans (bG HB) (Below.mono hb_ (by first | omega | (simp only [sz_alloc, sz_drew, sz_drewN]; omega)))); have hzw5 := Nat.le_of_eq hzz_.symm; (try simp at hzw5); clear hzz_; have on_ := Aside0.mk (st_put on.out hk_ (fun h_ => (by repeat (with_reducible first | exact h_ | apply ext_drew | apply ext_drewN | apply ext_alloc | refine blk_far ?_ (by show _ ≠ _; dsimp only; omega) _))) (by omega)); clear on onc onf onl; have on := on_; clear on_; obtain ⟨onc, onf, onl⟩ := cells_of on.out; have oo_ := Aside0.mk (st_put oo.out hk_ (fun h_ => (by repeat (with_reducible first | exact h_ | apply ext_drew | apply ext_drewN | apply ext_alloc | refine blk_far ?_ (by show _ ≠ _; dsimp only; omega) _))) (by omega)); clear oo ooc oof ool; have oo := oo_; clear oo_; obtain ⟨ooc, oof, ool⟩ := cells_of oo.out; have oa_ := Aside0.mk (st_put oa.out hk_ (fun h_ => (by repeat (with_reducible first | exact h_ | apply ext_drew | apply ext_drewN | apply ext_alloc | refine blk_far ?_ (by show _ ≠ _; dsimp only; omega) _))) (by omega)); clear oa oac oaf oal; have oa := oa_; clear oa_; obtain ⟨oac, oaf, oal⟩ := cells_of oa.out; (first | (have HF_ := Aside0.mk (PF.step HF.out (fun j hj _ => hk_ j ((by have h_ := hj.2; omega))))) | (have HF_ := Aside0.mk (PF.step (PF.alloc HF.out _) (fun j hj _ => hk_ j ((by have h_ := hj.2; omega)))))); clear HF; have HF := HF_; clear HF_; (first | (have HV_ := Aside0.mk (PF.step HV.out (fun j hj _ => hk_ j ((by have h_ := hj.2; omega))))) | (have HV_ := Aside0.mk (PF.step (PF.alloc HV.out _) (fun j hj _ => hk_ j ((by have h_ := hj.2; omega)))))); clear HV; have HV := HV_; clear HV_; (first | (have HA_ := Aside0.mk (PF.step HA.out (fun j hj _ => hk_ j ((by have h_ := hj.2; omega))))) | (have HA_ := Aside0.mk (PF.step (PF.alloc HA.out _) (fun j hj _ => hk_ j ((by have h_ := hj.2; omega)))))); clear HA; have HA := HA_; clear HA_; (first | (have HC_ := Aside0.mk (PF.step HC.out (fun j hj _ => hk_ j ((by have h_ := hj.2; omega))))) | (have HC_ := Aside0.mk (PF.step (PF.alloc HC.out _) (fun j hj _ => hk_ j ((by have h_ := hj.2; omega)))))); clear HC; have HC := HC_; clear HC_; (try clear ob obc obf obl); have ob := Aside0.mk hx_; obtain ⟨obc, obf, obl⟩ := cells_of ob.out; clear HB hb_ hk_ hx_; have HB := HB_; clear HB_) | ((with_reducible refine gate_dst (N := 56) rfl ?_); (try (refine gate_guard (by rfl) ?_; dsimp only)); refine wpList_load_row rfl 24 _ rfl _ (by rfl) _ (PC p ⟨s25, s33, s37⟩) _ _ (eG oo) Try.underlying24 rfl infPC ?_))
    (go_at_call 12; (with_reducible refine (pstore_c HV.out off size x p3 r6 HS.out).mono ?_); rintro e_ w6 ⟨v4, rfl, HD, hb_⟩; have HB_ : Aside0 (Below w.heap.size w w6) := Aside0.mk (below_step (bG HB) hb_); have hzw6 := hb_.size; (try simp at hzw6); have on_ := Aside0.mk (box_below hb_ (eG on)); have oo_ := Aside0.mk (box_below hb_ (eG oo)); have oa_ := Aside0.mk (box_below hb_ (eG oa)); have ob_ := Aside0.mk (box_below hb_ (eG ob)); (try clear on onc onf onl); have on := on_; clear on_; obtain ⟨onc, onf, onl⟩ := cells_of on.out; (try clear oo ooc oof ool); have oo := oo_; clear oo_; obtain ⟨ooc, oof, ool⟩ := cells_of oo.out; (try clear oa oac oaf oal); have oa := oa_; clear oa_; obtain ⟨oac, oaf, oal⟩ := cells_of oa.out; (try clear ob obc obf obl); have ob := ob_; clear ob_; obtain ⟨obc, obf, obl⟩ := cells_of ob.out; have HF_ := Aside0.mk (PF.below (by repeat (with_reducible first | exact HF.out | apply PF.drew | apply PF.drewN | apply PF.alloc)) hb_); clear HF; have HF := HF_; clear HF_; have HV_ := Aside0.mk (PF.below (by repeat (with_reducible first | exact HV.out | apply PF.drew | apply PF.drewN | apply PF.alloc)) hb_); clear HV; have HV := HV_; clear HV_; have HA_ := Aside0.mk (PF.below (by repeat (with_reducible first | exact HA.out | apply PF.drew | apply PF.drewN | apply PF.alloc)) hb_); clear HA; have HA := HA_; clear HA_; have HC_ := Aside0.mk (PF.below (by repeat (with_reducible first | exact HC.out | apply PF.drew | apply PF.drewN | apply PF.alloc)) hb_); clear HC; have HC := HC_; clear HC_; clear HB hb_; have HB := HB_; clear HB_; have HD_ := Aside0.mk HD; clear HD; have HD := HD_; clear HD_; skip)
    have HD_ : Aside0 (PF w6 (fun j => True ∧ j < w6.heap.size) _ _) := ⟨HD.out.bound.mono (fun j hj => ⟨trivial, hj.2⟩)⟩
    clear HD
    have HD := HD_
    clear HD_
    go_wp2_with (first | ((with_reducible refine gate_store (t := 24) (p := 18) (v := .tmp 61) rfl ?_); refine wpList_store_all rfl 24 _ _ rfl rfl _ (PC p3 v4) (by rfl) (by rfl) _ _ (nb_1 _ _) rfl infPC (HD.out.one) ?_; rintro w7 ⟨hx_, hk_, hb_, hzz_⟩; have HB_ : Aside0 (Below w.heap.size w w7) := Aside0.mk (Below.trans (bG HB) (Below.mono hb_ (by first | omega | (simp only [sz_alloc, sz_drew, sz_drewN]; omega)))); have hzw7 := Nat.le_of_eq hzz_.symm; (try simp at hzw7); clear hzz_; have on_ := Aside0.mk (st_put on.out hk_ (fun h_ => (by repeat (with_reducible first | exact h_ | apply ext_drew | apply ext_drewN | apply ext_alloc | refine blk_far ?_ (by show _ ≠ _; dsimp only; omega) _))) (by omega)); clear on onc onf onl; have on := on_; clear on_; obtain ⟨onc, onf, onl⟩ := cells_of on.out; have oo_ := Aside0.mk (st_put oo.out hk_ (fun h_ => (by repeat (with_reducible first | exact h_ | apply ext_drew | apply ext_drewN | apply ext_alloc | refine blk_far ?_ (by show _ ≠ _; dsimp only; omega) _))) (by omega)); clear oo ooc oof ool; have oo := oo_; clear oo_; obtain ⟨ooc, oof, ool⟩ := cells_of oo.out; have oa_ := Aside0.mk (st_put oa.out hk_ (fun h_ => (by repeat (with_reducible first | exact h_ | apply ext_drew | apply ext_drewN | apply ext_alloc | refine blk_far ?_ (by show _ ≠ _; dsimp only; omega) _))) (by omega)); clear oa oac oaf oal; have oa := oa_; clear oa_; obtain ⟨oac, oaf, oal⟩ := cells_of oa.out; have ob_ := Aside0.mk (st_put ob.out hk_ (fun h_ => (by repeat (with_reducible first | exact h_ | apply ext_drew | apply ext_drewN | apply ext_alloc | refine blk_far ?_ (by show _ ≠ _; dsimp only; omega) _))) (by omega)); clear ob obc obf obl; have ob := ob_; clear ob_; obtain ⟨obc, obf, obl⟩ := cells_of ob.out; (first | (have HF_ := Aside0.mk (PF.step HF.out (fun j hj _ => hk_ j ((by have h_ := hj.2; omega))))) | (have HF_ := Aside0.mk (PF.step (PF.alloc HF.out _) (fun j hj _ => hk_ j ((by have h_ := hj.2; omega)))))); clear HF; have HF := HF_; clear HF_; (first | (have HV_ := Aside0.mk (PF.step HV.out (fun j hj _ => hk_ j ((by have h_ := hj.2; omega))))) | (have HV_ := Aside0.mk (PF.step (PF.alloc HV.out _) (fun j hj _ => hk_ j ((by have h_ := hj.2; omega)))))); clear HV; have HV := HV_; clear HV_; (first | (have HA_ := Aside0.mk (PF.step HA.out (fun j hj _ => hk_ j ((by have h_ := hj.2; omega))))) | (have HA_ := Aside0.mk (PF.step (PF.alloc HA.out _) (fun j hj _ => hk_ j ((by have h_ := hj.2; omega)))))); clear HA; have HA := HA_; clear HA_; (first | (have HC_ := Aside0.mk (PF.step HC.out (fun j hj _ => hk_ j ((by have h_ := hj.2; omega))))) | (have HC_ := Aside0.mk (PF.step (PF.alloc HC.out _) (fun j hj _ => hk_ j ((by have h_ := hj.2; omega)))))); clear HC; have HC := HC_; clear HC_; (first | (have HD_ := Aside0.mk (PF.step HD.out (fun j hj _ => hk_ j ((by have h_ := hj.2; omega))))) | (have HD_ := Aside0.mk (PF.step (PF.alloc HD.out _) (fun j hj _ => hk_ j ((by have h_ := hj.2; omega)))))); clear HD; have HD := HD_; clear HD_; (try clear od odc odf odl); have od := Aside0.mk hx_; obtain ⟨odc, odf, odl⟩ := cells_of od.out; clear HB hb_ hk_ hx_; have HB := HB_; clear HB_) | ((with_reducible refine gate_dst (N := 64) rfl ?_); (try (refine gate_guard (by rfl) ?_; dsimp only)); refine wpList_load_row rfl 24 _ rfl _ (by rfl) _ (PC p v) _ _ (eG on) Try.underlying24 rfl infPC ?_))
    (go_at_call 14; (with_reducible refine (rstore_c p v off size _ _ HF.out HO.out x HX.out p3 r6 HS.out).mono ?_); rintro e_ w8 ⟨v5, rfl, HE, hb_⟩; have HB_ : Aside0 (Below w.heap.size w w8) := Aside0.mk (below_step (bG HB) hb_); have hzw8 := hb_.size; (try simp at hzw8); have on_ := Aside0.mk (box_below hb_ (eG on)); have oo_ := Aside0.mk (box_below hb_ (eG oo)); have oa_ := Aside0.mk (box_below hb_ (eG oa)); have ob_ := Aside0.mk (box_below hb_ (eG ob)); have od_ := Aside0.mk (box_below hb_ (eG od)); (try clear on onc onf onl); have on := on_; clear on_; obtain ⟨onc, onf, onl⟩ := cells_of on.out; (try clear oo ooc oof ool); have oo := oo_; clear oo_; obtain ⟨ooc, oof, ool⟩ := cells_of oo.out; (try clear oa oac oaf oal); have oa := oa_; clear oa_; obtain ⟨oac, oaf, oal⟩ := cells_of oa.out; (try clear ob obc obf obl); have ob := ob_; clear ob_; obtain ⟨obc, obf, obl⟩ := cells_of ob.out; (try clear od odc odf odl); have od := od_; clear od_; obtain ⟨odc, odf, odl⟩ := cells_of od.out; have HF_ := Aside0.mk (PF.below (by repeat (with_reducible first | exact HF.out | apply PF.drew | apply PF.drewN | apply PF.alloc)) hb_); clear HF; have HF := HF_; clear HF_; have HV_ := Aside0.mk (PF.below (by repeat (with_reducible first | exact HV.out | apply PF.drew | apply PF.drewN | apply PF.alloc)) hb_); clear HV; have HV := HV_; clear HV_; have HA_ := Aside0.mk (PF.below (by repeat (with_reducible first | exact HA.out | apply PF.drew | apply PF.drewN | apply PF.alloc)) hb_); clear HA; have HA := HA_; clear HA_; have HC_ := Aside0.mk (PF.below (by repeat (with_reducible first | exact HC.out | apply PF.drew | apply PF.drewN | apply PF.alloc)) hb_); clear HC; have HC := HC_; clear HC_; have HD_ := Aside0.mk (PF.below (by repeat (with_reducible first | exact HD.out | apply PF.drew | apply PF.drewN | apply PF.alloc)) hb_); clear HD; have HD := HD_; clear HD_; clear HB hb_; have HB := HB_; clear HB_; have HE_ := Aside0.mk HE; clear HE; have HE := HE_; clear HE_; skip)
    have HE_ : Aside0 (PF w8 (fun j => True ∧ j < w8.heap.size) _ _) := ⟨HE.out.bound.mono (fun j hj => ⟨trivial, hj.2⟩)⟩
    clear HE
    have HE := HE_
    clear HE_
    go_wp2_with (first | ((with_reducible refine gate_store (t := 24) (p := 20) (v := .tmp 69) rfl ?_); refine wpList_store_all rfl 24 _ _ rfl rfl _ (PC p3 v5) (by rfl) (by rfl) _ _ (nb_1 _ _) rfl infPC (HE.out.one) ?_; rintro w9 ⟨hx_, hk_, hb_, hzz_⟩; have HB_ : Aside0 (Below w.heap.size w w9) := Aside0.mk (Below.trans (bG HB) (Below.mono hb_ (by first | omega | (simp only [sz_alloc, sz_drew, sz_drewN]; omega)))); have hzw9 := Nat.le_of_eq hzz_.symm; (try simp at hzw9); clear hzz_; have on_ := Aside0.mk (st_put on.out hk_ (fun h_ => (by repeat (with_reducible first | exact h_ | apply ext_drew | apply ext_drewN | apply ext_alloc | refine blk_far ?_ (by show _ ≠ _; dsimp only; omega) _))) (by omega)); clear on onc onf onl; have on := on_; clear on_; obtain ⟨onc, onf, onl⟩ := cells_of on.out; have oo_ := Aside0.mk (st_put oo.out hk_ (fun h_ => (by repeat (with_reducible first | exact h_ | apply ext_drew | apply ext_drewN | apply ext_alloc | refine blk_far ?_ (by show _ ≠ _; dsimp only; omega) _))) (by omega)); clear oo ooc oof ool; have oo := oo_; clear oo_; obtain ⟨ooc, oof, ool⟩ := cells_of oo.out; have oa_ := Aside0.mk (st_put oa.out hk_ (fun h_ => (by repeat (with_reducible first | exact h_ | apply ext_drew | apply ext_drewN | apply ext_alloc | refine blk_far ?_ (by show _ ≠ _; dsimp only; omega) _))) (by omega)); clear oa oac oaf oal; have oa := oa_; clear oa_; obtain ⟨oac, oaf, oal⟩ := cells_of oa.out; have ob_ := Aside0.mk (st_put ob.out hk_ (fun h_ => (by repeat (with_reducible first | exact h_ | apply ext_drew | apply ext_drewN | apply ext_alloc | refine blk_far ?_ (by show _ ≠ _; dsimp only; omega) _))) (by omega)); clear ob obc obf obl; have ob := ob_; clear ob_; obtain ⟨obc, obf, obl⟩ := cells_of ob.out; have od_ := Aside0.mk (st_put od.out hk_ (fun h_ => (by repeat (with_reducible first | exact h_ | apply ext_drew | apply ext_drewN | apply ext_alloc | refine blk_far ?_ (by show _ ≠ _; dsimp only; omega) _))) (by omega)); clear od odc odf odl; have od := od_; clear od_; obtain ⟨odc, odf, odl⟩ := cells_of od.out; (first | (have HF_ := Aside0.mk (PF.step HF.out (fun j hj _ => hk_ j ((by have h_ := hj.2; omega))))) | (have HF_ := Aside0.mk (PF.step (PF.alloc HF.out _) (fun j hj _ => hk_ j ((by have h_ := hj.2; omega)))))); clear HF; have HF := HF_; clear HF_; (first | (have HV_ := Aside0.mk (PF.step HV.out (fun j hj _ => hk_ j ((by have h_ := hj.2; omega))))) | (have HV_ := Aside0.mk (PF.step (PF.alloc HV.out _) (fun j hj _ => hk_ j ((by have h_ := hj.2; omega)))))); clear HV; have HV := HV_; clear HV_; (first | (have HA_ := Aside0.mk (PF.step HA.out (fun j hj _ => hk_ j ((by have h_ := hj.2; omega))))) | (have HA_ := Aside0.mk (PF.step (PF.alloc HA.out _) (fun j hj _ => hk_ j ((by have h_ := hj.2; omega)))))); clear HA; have HA := HA_; clear HA_; (first | (have HC_ := Aside0.mk (PF.step HC.out (fun j hj _ => hk_ j ((by have h_ := hj.2; omega))))) | (have HC_ := Aside0.mk (PF.step (PF.alloc HC.out _) (fun j hj _ => hk_ j ((by have h_ := hj.2; omega)))))); clear HC; have HC := HC_; clear HC_; (first | (have HD_ := Aside0.mk (PF.step HD.out (fun j hj _ => hk_ j ((by have h_ := hj.2; omega))))) | (have HD_ := Aside0.mk (PF.step (PF.alloc HD.out _) (fun j hj _ => hk_ j ((by have h_ := hj.2; omega)))))); clear HD; have HD := HD_; clear HD_; (first | (have HE_ := Aside0.mk (PF.step HE.out (fun j hj _ => hk_ j ((by have h_ := hj.2; omega))))) | (have HE_ := Aside0.mk (PF.step (PF.alloc HE.out _) (fun j hj _ => hk_ j ((by have h_ := hj.2; omega)))))); clear HE; have HE := HE_; clear HE_; (try clear oe oec oef oel); have oe := Aside0.mk hx_; obtain ⟨oec, oef, oel⟩ := cells_of oe.out; clear HB hb_ hk_ hx_; have HB := HB_; clear HB_) | ((with_reducible refine gate_dst (N := 75) rfl ?_); (try (refine gate_guard (by rfl) ?_; dsimp only)); refine wpList_load_row rfl 24 _ rfl _ (by rfl) _ (PC p2 v2) _ _ (eG oa) Try.underlying24 rfl infPC ?_) | ((with_reducible refine gate_dst (N := 76) rfl ?_); (try (refine gate_guard (by rfl) ?_; dsimp only)); refine wpList_load_row rfl 24 _ rfl _ (by rfl) _ (PC p2 v3) _ _ (eG ob) Try.underlying24 rfl infPC ?_))
    (go_at_call 8; (with_reducible refine (psame_c HA.out HC.out).mono ?_); rintro e_ w10 ⟨rfl, hb_⟩; have HB_ : Aside0 (Below w.heap.size w w10) := Aside0.mk (below_step (bG HB) hb_); have hzw10 := hb_.size; (try simp at hzw10); have on_ := Aside0.mk (box_below hb_ (eG on)); have oo_ := Aside0.mk (box_below hb_ (eG oo)); have od_ := Aside0.mk (box_below hb_ (eG od)); have oe_ := Aside0.mk (box_below hb_ (eG oe)); (try clear on onc onf onl); have on := on_; clear on_; obtain ⟨onc, onf, onl⟩ := cells_of on.out; (try clear oo ooc oof ool); have oo := oo_; clear oo_; obtain ⟨ooc, oof, ool⟩ := cells_of oo.out; (try clear od odc odf odl); have od := od_; clear od_; obtain ⟨odc, odf, odl⟩ := cells_of od.out; (try clear oe oec oef oel); have oe := oe_; clear oe_; obtain ⟨oec, oef, oel⟩ := cells_of oe.out; have HF_ := Aside0.mk (PF.below (by repeat (with_reducible first | exact HF.out | apply PF.drew | apply PF.drewN | apply PF.alloc)) hb_); clear HF; have HF := HF_; clear HF_; have HV_ := Aside0.mk (PF.below (by repeat (with_reducible first | exact HV.out | apply PF.drew | apply PF.drewN | apply PF.alloc)) hb_); clear HV; have HV := HV_; clear HV_; have HD_ := Aside0.mk (PF.below (by repeat (with_reducible first | exact HD.out | apply PF.drew | apply PF.drewN | apply PF.alloc)) hb_); clear HD; have HD := HD_; clear HD_; have HE_ := Aside0.mk (PF.below (by repeat (with_reducible first | exact HE.out | apply PF.drew | apply PF.drewN | apply PF.alloc)) hb_); clear HE; have HE := HE_; clear HE_; clear HB hb_; have HB := HB_; clear HB_)
    go_wp2_with (first | ((with_reducible refine gate_dst (N := 86) rfl ?_); (try (refine gate_guard (by rfl) ?_; dsimp only)); refine wpList_load_row rfl 24 _ rfl _ (by rfl) _ (PC p3 v4) _ _ (eG od) Try.underlying24 rfl infPC ?_) | ((with_reducible refine gate_dst (N := 87) rfl ?_); (try (refine gate_guard (by rfl) ?_; dsimp only)); refine wpList_load_row rfl 24 _ rfl _ (by rfl) _ (PC p3 v5) _ _ (eG oe) Try.underlying24 rfl infPC ?_))
    (go_at_call 8; (with_reducible refine (psame_c HD.out HE.out).mono ?_); rintro e_ w11 ⟨rfl, hb_⟩; have HB_ : Aside0 (Below w.heap.size w w11) := Aside0.mk (below_step (bG HB) hb_); have hzw11 := hb_.size; (try simp at hzw11); have on_ := Aside0.mk (box_below hb_ (eG on)); have oo_ := Aside0.mk (box_below hb_ (eG oo)); (try clear on onc onf onl); have on := on_; clear on_; obtain ⟨onc, onf, onl⟩ := cells_of on.out; (try clear oo ooc oof ool); have oo := oo_; clear oo_; obtain ⟨ooc, oof, ool⟩ := cells_of oo.out; have HF_ := Aside0.mk (PF.below (by repeat (with_reducible first | exact HF.out | apply PF.drew | apply PF.drewN | apply PF.alloc)) hb_); clear HF; have HF := HF_; clear HF_; have HV_ := Aside0.mk (PF.below (by repeat (with_reducible first | exact HV.out | apply PF.drew | apply PF.drewN | apply PF.alloc)) hb_); clear HV; have HV := HV_; clear HV_; clear HB hb_; have HB := HB_; clear HB_)
    go_upto_region 8 with fail
    refine start_ (n := 37) (S := fun w' => w'.heap[w.heap.size]? = some (.cells (PC p v) 24 (0, 0)) ∧ w'.heap[g2]? = some (.cells (PC p ⟨s25, s33, s37⟩) 24 (0, 0))) (ds := []) #[false, false, false, false, false, false, false, false, false, false, false, false, false, false, false, false, false, false, false, false, false, false, false, false, false, false, false, false, false, false, false, false, false, false, false, false, false] (by kernel_rfl) rfl rfl ⟨(eG on), (eG oo)⟩ (fun hHeld => ?_)
    refine rowL_ (i := 0) (N := some 96) #[true, false, false, false, false, false, false, false, false, false, false, false, false, false, false, false, false, false, false, false, false, false, false, false, false, false, false, false, false, false, false, false, false, false, false, false, false] rfl rfl (by kernel_rfl) 24 _ rfl (g2) (PC p ⟨s25, s33, s37⟩) (fun _ _ _ h => h) (by rfl) (by rfl) _ _ _ (fun _ h => h.2) Try.underlying24 rfl infPC hHeld (a' := ?_) ?_ ?_
    rotate_left
    · simp only [Act.put, List.setIfInBounds_toArray, List.set_cons_zero, List.set_cons_succ, i64_w, i32_w]
      rfl
    refine pure_ (i := 1) (N := some 97) (v := ?_) (a' := ?_) #[true, true, false, false, false, false, false, false, false, false, false, false, false, false, false, false, false, false, false, false, false, false, false, false, false, false, false, false, false, false, false, false, false, false, false, false, false] rfl rfl (by kernel_rfl) (fun _ _ _ h => h) (Or.inl ⟨by rfl, ?_⟩) ?_ ?_
    rotate_left
    · intro w'
      go_simp
      with_reducible rfl
    rotate_left
    · simp only [Act.put, List.setIfInBounds_toArray, List.set_cons_zero, List.set_cons_succ, i64_w, i32_w]
      rfl
    refine rowL_ (i := 3) (N := some 99) #[true, true, false, true, false, false, false, false, false, false, false, false, false, false, false, false, false, false, false, false, false, false, false, false, false, false, false, false, false, false, false, false, false, false, false, false, false] rfl rfl (by kernel_rfl) 24 _ rfl (w.heap.size) (PC p v) (fun _ _ _ h => h) (by rfl) (by rfl) _ _ _ (fun _ h => h.1) Try.underlying24 rfl infPC hHeld (a' := ?_) ?_ ?_
    rotate_left
    · simp only [Act.put, List.setIfInBounds_toArray, List.set_cons_zero, List.set_cons_succ, i64_w, i32_w]
      rfl
    refine pure_ (i := 4) (N := some 100) (v := ?_) (a' := ?_) #[true, true, false, true, true, false, false, false, false, false, false, false, false, false, false, false, false, false, false, false, false, false, false, false, false, false, false, false, false, false, false, false, false, false, false, false, false] rfl rfl (by kernel_rfl) (fun _ _ _ h => h) (Or.inl ⟨by rfl, ?_⟩) ?_ ?_
    rotate_left
    · intro w'
      go_simp
      with_reducible rfl
    rotate_left
    · simp only [Act.put, List.setIfInBounds_toArray, List.set_cons_zero, List.set_cons_succ, i64_w, i32_w]
      rfl
    refine one_ (i := 2) (N := some 98) #[true, true, true, true, true, false, false, false, false, false, false, false, false, false, false, false, false, false, false, false, false, false, false, false, false, false, false, false, false, false, false, false, false, false, false, false, false] rfl rfl (by kernel_rfl) (by decide) (fun K hK => ?_)
    (refine goes_ Try.func9 (by kernel_rfl) rfl #[.agg (PC p ⟨s25, s33, s37⟩), .int .i64 lines] (by rfl) rfl rfl (by (try simp only [List.map_toArray, List.map_cons, List.map_nil]); first | done | rfl) ?_; (with_reducible refine (pset_c HV.out.drew lines p4 HT.out).mono ?_); rintro e_ wr1 ⟨t1, rfl, H1, hb_⟩; refine ⟨_, rfl, ?_⟩; have HB_ : Aside0 (Below w.heap.size w wr1) := Aside0.mk (below_step (bG HB) hb_); have hzwr1 := hb_.size; (try simp at hzwr1); have on_ := Aside0.mk (box_below hb_ (eG on)); have oo_ := Aside0.mk (box_below hb_ (eG oo)); (try clear on onc onf onl); have on := on_; clear on_; obtain ⟨onc, onf, onl⟩ := cells_of on.out; (try clear oo ooc oof ool); have oo := oo_; clear oo_; obtain ⟨ooc, oof, ool⟩ := cells_of oo.out; have HF_ := Aside0.mk (PF.below (by repeat (with_reducible first | exact HF.out | apply PF.drew | apply PF.drewN | apply PF.alloc)) hb_); clear HF; have HF := HF_; clear HF_; have HV_ := Aside0.mk (PF.below (by repeat (with_reducible first | exact HV.out | apply PF.drew | apply PF.drewN | apply PF.alloc)) hb_); clear HV; have HV := HV_; clear HV_; clear HB hb_; have HB := HB_; clear HB_; have H1_ := Aside0.mk H1; clear H1; have H1 := H1_; clear H1_; skip)
    refine hK.out _ _ ⟨(eG on), (eG oo)⟩ (fun hHeld => ?_)
    clear hK K
    refine norm_ (a' := ?_) ?_ ?_
    rotate_left
    · simp only [Act.put, List.setIfInBounds_toArray, List.set_cons_zero, List.set_cons_succ, i64_w, i32_w]
      rfl
    refine one_ (i := 5) (N := some 101) #[true, true, true, true, true, true, false, false, false, false, false, false, false, false, false, false, false, false, false, false, false, false, false, false, false, false, false, false, false, false, false, false, false, false, false, false, false] rfl rfl (by kernel_rfl) (by decide) (fun K hK => ?_)
    (refine goes_ Try.func15 (by kernel_rfl) rfl #[.agg (PC p v), .int .i64 lines] (by rfl) rfl rfl (by (try simp only [List.map_toArray, List.map_cons, List.map_nil]); first | done | rfl) ?_; (with_reducible refine (rset_c HF.out lines p4 HT2.out).mono ?_); rintro e_ wr2 ⟨t2, rfl, H2, hb_⟩; refine ⟨_, rfl, ?_⟩; have HB_ : Aside0 (Below w.heap.size w wr2) := Aside0.mk (below_step (bG HB) hb_); have hzwr2 := hb_.size; (try simp at hzwr2); have on_ := Aside0.mk (box_below hb_ (eG on)); have oo_ := Aside0.mk (box_below hb_ (eG oo)); (try clear on onc onf onl); have on := on_; clear on_; obtain ⟨onc, onf, onl⟩ := cells_of on.out; (try clear oo ooc oof ool); have oo := oo_; clear oo_; obtain ⟨ooc, oof, ool⟩ := cells_of oo.out; have HF_ := Aside0.mk (PF.below (by repeat (with_reducible first | exact HF.out | apply PF.drew | apply PF.drewN | apply PF.alloc)) hb_); clear HF; have HF := HF_; clear HF_; have HV_ := Aside0.mk (PF.below (by repeat (with_reducible first | exact HV.out | apply PF.drew | apply PF.drewN | apply PF.alloc)) hb_); clear HV; have HV := HV_; clear HV_; have H1_ := Aside0.mk (PF.below (by repeat (with_reducible first | exact H1.out | apply PF.drew | apply PF.drewN | apply PF.alloc)) hb_); clear H1; have H1 := H1_; clear H1_; clear HB hb_; have HB := HB_; clear HB_; have H2_ := Aside0.mk H2; clear H2; have H2 := H2_; clear H2_; skip)
    refine hK.out _ _ ⟨(eG on), (eG oo)⟩ (fun hHeld => ?_)
    clear hK K
    refine norm_ (a' := ?_) ?_ ?_
    rotate_left
    · simp only [Act.put, List.setIfInBounds_toArray, List.set_cons_zero, List.set_cons_succ, i64_w, i32_w]
      rfl
    refine one_ (i := 6) (N := some 102) #[true, true, true, true, true, true, true, false, false, false, false, false, false, false, false, false, false, false, false, false, false, false, false, false, false, false, false, false, false, false, false, false, false, false, false, false, false] rfl rfl (by kernel_rfl) (by decide) (fun K hK => ?_)
    (refine goes_ Try.func8 (by kernel_rfl) rfl #[.agg (PC p4 t1), .agg (PC p4 t2)] (by rfl) rfl rfl (by (try simp only [List.map_toArray, List.map_cons, List.map_nil]); first | done | rfl) ?_; (with_reducible refine (psame_c H1.out H2.out).mono ?_); rintro e_ wr3 ⟨rfl, hb_⟩; refine ⟨_, rfl, ?_⟩; have HB_ : Aside0 (Below w.heap.size w wr3) := Aside0.mk (below_step (bG HB) hb_); have hzwr3 := hb_.size; (try simp at hzwr3); have on_ := Aside0.mk (box_below hb_ (eG on)); have oo_ := Aside0.mk (box_below hb_ (eG oo)); (try clear on onc onf onl); have on := on_; clear on_; obtain ⟨onc, onf, onl⟩ := cells_of on.out; (try clear oo ooc oof ool); have oo := oo_; clear oo_; obtain ⟨ooc, oof, ool⟩ := cells_of oo.out; have HF_ := Aside0.mk (PF.below (by repeat (with_reducible first | exact HF.out | apply PF.drew | apply PF.drewN | apply PF.alloc)) hb_); clear HF; have HF := HF_; clear HF_; have HV_ := Aside0.mk (PF.below (by repeat (with_reducible first | exact HV.out | apply PF.drew | apply PF.drewN | apply PF.alloc)) hb_); clear HV; have HV := HV_; clear HV_; have H1_ := Aside0.mk (PF.below (by repeat (with_reducible first | exact H1.out | apply PF.drew | apply PF.drewN | apply PF.alloc)) hb_); clear H1; have H1 := H1_; clear H1_; have H2_ := Aside0.mk (PF.below (by repeat (with_reducible first | exact H2.out | apply PF.drew | apply PF.drewN | apply PF.alloc)) hb_); clear H2; have H2 := H2_; clear H2_; clear HB hb_; have HB := HB_; clear HB_)
    refine hK.out _ _ ⟨(eG on), (eG oo)⟩ (fun hHeld => ?_)
    clear hK K
    refine norm_ (a' := ?_) ?_ ?_
    rotate_left
    · simp only [Act.put, List.setIfInBounds_toArray, List.set_cons_zero, List.set_cons_succ, i64_w, i32_w]
      rfl
    refine pure_ (i := 7) (N := some 103) (v := ?_) (a' := ?_) #[true, true, true, true, true, true, true, true, false, false, false, false, false, false, false, false, false, false, false, false, false, false, false, false, false, false, false, false, false, false, false, false, false, false, false, false, false] rfl rfl (by kernel_rfl) (fun _ _ _ h => h) (Or.inl ⟨by rfl, ?_⟩) ?_ ?_
    rotate_left
    · intro w'
      go_simp
      with_reducible rfl
    rotate_left
    · simp only [Act.put, List.setIfInBounds_toArray, List.set_cons_zero, List.set_cons_succ, i64_w, i32_w]
      rfl
    refine rowL_ (i := 8) (N := some 104) #[true, true, true, true, true, true, true, true, true, false, false, false, false, false, false, false, false, false, false, false, false, false, false, false, false, false, false, false, false, false, false, false, false, false, false, false, false] rfl rfl (by kernel_rfl) 24 _ rfl (g2) (PC p ⟨s25, s33, s37⟩) (fun _ _ _ h => h) (by rfl) (by rfl) _ _ _ (fun _ h => h.2) Try.underlying24 rfl infPC hHeld (a' := ?_) ?_ ?_
    rotate_left
    · simp only [Act.put, List.setIfInBounds_toArray, List.set_cons_zero, List.set_cons_succ, i64_w, i32_w]
      rfl
    refine pure_ (i := 9) (N := some 105) (v := ?_) (a' := ?_) #[true, true, true, true, true, true, true, true, true, true, false, false, false, false, false, false, false, false, false, false, false, false, false, false, false, false, false, false, false, false, false, false, false, false, false, false, false] rfl rfl (by kernel_rfl) (fun _ _ _ h => h) (Or.inl ⟨by rfl, ?_⟩) ?_ ?_
    rotate_left
    · intro w'
      go_simp
      with_reducible rfl
    rotate_left
    · simp only [Act.put, List.setIfInBounds_toArray, List.set_cons_zero, List.set_cons_succ, i64_w, i32_w]
      rfl
    refine rowL_ (i := 11) (N := some 107) #[true, true, true, true, true, true, true, true, true, true, false, true, false, false, false, false, false, false, false, false, false, false, false, false, false, false, false, false, false, false, false, false, false, false, false, false, false] rfl rfl (by kernel_rfl) 24 _ rfl (w.heap.size) (PC p v) (fun _ _ _ h => h) (by rfl) (by rfl) _ _ _ (fun _ h => h.1) Try.underlying24 rfl infPC hHeld (a' := ?_) ?_ ?_
    rotate_left
    · simp only [Act.put, List.setIfInBounds_toArray, List.set_cons_zero, List.set_cons_succ, i64_w, i32_w]
      rfl
    refine pure_ (i := 12) (N := some 108) (v := ?_) (a' := ?_) #[true, true, true, true, true, true, true, true, true, true, false, true, true, false, false, false, false, false, false, false, false, false, false, false, false, false, false, false, false, false, false, false, false, false, false, false, false] rfl rfl (by kernel_rfl) (fun _ _ _ h => h) (Or.inl ⟨by rfl, ?_⟩) ?_ ?_
    rotate_left
    · intro w'
      go_simp
      with_reducible rfl
    rotate_left
    · simp only [Act.put, List.setIfInBounds_toArray, List.set_cons_zero, List.set_cons_succ, i64_w, i32_w]
      rfl
    refine one_ (i := 10) (N := some 106) #[true, true, true, true, true, true, true, true, true, true, true, true, true, false, false, false, false, false, false, false, false, false, false, false, false, false, false, false, false, false, false, false, false, false, false, false, false] rfl rfl (by kernel_rfl) (by decide) (fun K hK => ?_)
    (refine goes_ Try.func16 (by kernel_rfl) rfl #[.agg (PC p ⟨s25, s33, s37⟩), .int .i64 lines] (by rfl) rfl rfl (by (try simp only [List.map_toArray, List.map_cons, List.map_nil]); first | done | rfl) ?_; (with_reducible refine (pbest_c HV.out lines n HN1.out).mono ?_); rintro e_ wr4 ⟨rfl, hb_⟩; refine ⟨_, rfl, ?_⟩; have HB_ : Aside0 (Below w.heap.size w wr4) := Aside0.mk (below_step (bG HB) hb_); have hzwr4 := hb_.size; (try simp at hzwr4); have on_ := Aside0.mk (box_below hb_ (eG on)); have oo_ := Aside0.mk (box_below hb_ (eG oo)); (try clear on onc onf onl); have on := on_; clear on_; obtain ⟨onc, onf, onl⟩ := cells_of on.out; (try clear oo ooc oof ool); have oo := oo_; clear oo_; obtain ⟨ooc, oof, ool⟩ := cells_of oo.out; have HF_ := Aside0.mk (PF.below (by repeat (with_reducible first | exact HF.out | apply PF.drew | apply PF.drewN | apply PF.alloc)) hb_); clear HF; have HF := HF_; clear HF_; have HV_ := Aside0.mk (PF.below (by repeat (with_reducible first | exact HV.out | apply PF.drew | apply PF.drewN | apply PF.alloc)) hb_); clear HV; have HV := HV_; clear HV_; clear HB hb_; have HB := HB_; clear HB_)
    refine hK.out _ _ ⟨(eG on), (eG oo)⟩ (fun hHeld => ?_)
    clear hK K
    refine norm_ (a' := ?_) ?_ ?_
    rotate_left
    · simp only [Act.put, List.setIfInBounds_toArray, List.set_cons_zero, List.set_cons_succ, i64_w, i32_w]
      rfl
    refine one_ (i := 13) (N := some 109) #[true, true, true, true, true, true, true, true, true, true, true, true, true, true, false, false, false, false, false, false, false, false, false, false, false, false, false, false, false, false, false, false, false, false, false, false, false] rfl rfl (by kernel_rfl) (by decide) (fun K hK => ?_)
    (refine goes_ Try.func17 (by kernel_rfl) rfl #[.agg (PC p v), .int .i64 lines] (by rfl) rfl rfl (by (try simp only [List.map_toArray, List.map_cons, List.map_nil]); first | done | rfl) ?_; (with_reducible refine (rbest_c HF.out lines n HN2.out).mono ?_); rintro e_ wr5 ⟨rfl, hb_⟩; refine ⟨_, rfl, ?_⟩; have HB_ : Aside0 (Below w.heap.size w wr5) := Aside0.mk (below_step (bG HB) hb_); have hzwr5 := hb_.size; (try simp at hzwr5); have on_ := Aside0.mk (box_below hb_ (eG on)); have oo_ := Aside0.mk (box_below hb_ (eG oo)); (try clear on onc onf onl); have on := on_; clear on_; obtain ⟨onc, onf, onl⟩ := cells_of on.out; (try clear oo ooc oof ool); have oo := oo_; clear oo_; obtain ⟨ooc, oof, ool⟩ := cells_of oo.out; have HF_ := Aside0.mk (PF.below (by repeat (with_reducible first | exact HF.out | apply PF.drew | apply PF.drewN | apply PF.alloc)) hb_); clear HF; have HF := HF_; clear HF_; have HV_ := Aside0.mk (PF.below (by repeat (with_reducible first | exact HV.out | apply PF.drew | apply PF.drewN | apply PF.alloc)) hb_); clear HV; have HV := HV_; clear HV_; clear HB hb_; have HB := HB_; clear HB_)
    refine hK.out _ _ ⟨(eG on), (eG oo)⟩ (fun hHeld => ?_)
    clear hK K
    refine norm_ (a' := ?_) ?_ ?_
    rotate_left
    · simp only [Act.put, List.setIfInBounds_toArray, List.set_cons_zero, List.set_cons_succ, i64_w, i32_w]
      rfl
    refine pure_ (i := 14) (N := some 110) (v := ?_) (a' := ?_) #[true, true, true, true, true, true, true, true, true, true, true, true, true, true, true, false, false, false, false, false, false, false, false, false, false, false, false, false, false, false, false, false, false, false, false, false, false] rfl rfl (by kernel_rfl) (fun _ _ _ h => h) (Or.inl ⟨by rfl, ?_⟩) ?_ ?_
    rotate_left
    · intro w'
      go_simp
      with_reducible rfl
    rotate_left
    · simp only [Act.put, List.setIfInBounds_toArray, List.set_cons_zero, List.set_cons_succ, i64_w, i32_w]
      rfl
    refine pure_ (i := 15) (N := some 111) (v := ?_) (a' := ?_) #[true, true, true, true, true, true, true, true, true, true, true, true, true, true, true, true, false, false, false, false, false, false, false, false, false, false, false, false, false, false, false, false, false, false, false, false, false] rfl rfl (by kernel_rfl) (fun _ _ _ h => h) (Or.inl ⟨by rfl, ?_⟩) ?_ ?_
    rotate_left
    · intro w'
      go_simp
      with_reducible rfl
    rotate_left
    · simp only [Act.put, List.setIfInBounds_toArray, List.set_cons_zero, List.set_cons_succ, i64_w, i32_w]
      rfl
    refine pure_ (i := 16) (N := some 112) (v := ?_) (a' := ?_) #[true, true, true, true, true, true, true, true, true, true, true, true, true, true, true, true, true, false, false, false, false, false, false, false, false, false, false, false, false, false, false, false, false, false, false, false, false] rfl rfl (by kernel_rfl) (fun _ _ _ h => h) (Or.inl ⟨by rfl, ?_⟩) ?_ ?_
    rotate_left
    · intro w'
      go_simp
      with_reducible rfl
    rotate_left
    · simp only [Act.put, List.setIfInBounds_toArray, List.set_cons_zero, List.set_cons_succ, i64_w, i32_w]
      rfl
    refine rowL_ (i := 17) (N := some 113) #[true, true, true, true, true, true, true, true, true, true, true, true, true, true, true, true, true, true, false, false, false, false, false, false, false, false, false, false, false, false, false, false, false, false, false, false, false] rfl rfl (by kernel_rfl) 24 _ rfl (g2) (PC p ⟨s25, s33, s37⟩) (fun _ _ _ h => h) (by rfl) (by rfl) _ _ _ (fun _ h => h.2) Try.underlying24 rfl infPC hHeld (a' := ?_) ?_ ?_
    rotate_left
    · simp only [Act.put, List.setIfInBounds_toArray, List.set_cons_zero, List.set_cons_succ, i64_w, i32_w]
      rfl
    refine rowL_ (i := 19) (N := some 115) #[true, true, true, true, true, true, true, true, true, true, true, true, true, true, true, true, true, true, false, true, false, false, false, false, false, false, false, false, false, false, false, false, false, false, false, false, false] rfl rfl (by kernel_rfl) 24 _ rfl (w.heap.size) (PC p v) (fun _ _ _ h => h) (by rfl) (by rfl) _ _ _ (fun _ h => h.1) Try.underlying24 rfl infPC hHeld (a' := ?_) ?_ ?_
    rotate_left
    · simp only [Act.put, List.setIfInBounds_toArray, List.set_cons_zero, List.set_cons_succ, i64_w, i32_w]
      rfl
    refine one_ (i := 18) (N := some 114) #[true, true, true, true, true, true, true, true, true, true, true, true, true, true, true, true, true, true, true, true, false, false, false, false, false, false, false, false, false, false, false, false, false, false, false, false, false] rfl rfl (by kernel_rfl) (by decide) (fun K hK => ?_)
    (refine goes_ Try.func7 (by kernel_rfl) rfl #[.agg (PC p ⟨s25, s33, s37⟩)] (by rfl) rfl rfl (by (try simp only [List.map_toArray, List.map_cons, List.map_nil]); first | done | rfl) ?_; (with_reducible refine (pcheck_c HV.out ck HCK.out).mono ?_); rintro e_ wr6 ⟨rfl, hb_⟩; refine ⟨_, rfl, ?_⟩; have HB_ : Aside0 (Below w.heap.size w wr6) := Aside0.mk (below_step (bG HB) hb_); have hzwr6 := hb_.size; (try simp at hzwr6); have on_ := Aside0.mk (box_below hb_ (eG on)); have oo_ := Aside0.mk (box_below hb_ (eG oo)); (try clear on onc onf onl); have on := on_; clear on_; obtain ⟨onc, onf, onl⟩ := cells_of on.out; (try clear oo ooc oof ool); have oo := oo_; clear oo_; obtain ⟨ooc, oof, ool⟩ := cells_of oo.out; have HF_ := Aside0.mk (PF.below (by repeat (with_reducible first | exact HF.out | apply PF.drew | apply PF.drewN | apply PF.alloc)) hb_); clear HF; have HF := HF_; clear HF_; have HV_ := Aside0.mk (PF.below (by repeat (with_reducible first | exact HV.out | apply PF.drew | apply PF.drewN | apply PF.alloc)) hb_); clear HV; have HV := HV_; clear HV_; clear HB hb_; have HB := HB_; clear HB_)
    refine hK.out _ _ ⟨(eG on), (eG oo)⟩ (fun hHeld => ?_)
    clear hK K
    refine norm_ (a' := ?_) ?_ ?_
    rotate_left
    · simp only [Act.put, List.setIfInBounds_toArray, List.set_cons_zero, List.set_cons_succ, i64_w, i32_w]
      rfl
    refine one_ (i := 20) (N := some 116) #[true, true, true, true, true, true, true, true, true, true, true, true, true, true, true, true, true, true, true, true, true, false, false, false, false, false, false, false, false, false, false, false, false, false, false, false, false] rfl rfl (by kernel_rfl) (by decide) (fun K hK => ?_)
    (refine goes_ Try.func18 (by kernel_rfl) rfl #[.agg (PC p v)] (by rfl) rfl rfl (by (try simp only [List.map_toArray, List.map_cons, List.map_nil]); first | done | rfl) ?_; (with_reducible refine (rcheck_c HF.out HO.out ck HCK.out).mono ?_); rintro e_ wr7 ⟨rfl, hb_⟩; refine ⟨_, rfl, ?_⟩; have HB_ : Aside0 (Below w.heap.size w wr7) := Aside0.mk (below_step (bG HB) hb_); have hzwr7 := hb_.size; (try simp at hzwr7); have on_ := Aside0.mk (box_below hb_ (eG on)); have oo_ := Aside0.mk (box_below hb_ (eG oo)); (try clear on onc onf onl); have on := on_; clear on_; obtain ⟨onc, onf, onl⟩ := cells_of on.out; (try clear oo ooc oof ool); have oo := oo_; clear oo_; obtain ⟨ooc, oof, ool⟩ := cells_of oo.out; have HF_ := Aside0.mk (PF.below (by repeat (with_reducible first | exact HF.out | apply PF.drew | apply PF.drewN | apply PF.alloc)) hb_); clear HF; have HF := HF_; clear HF_; have HV_ := Aside0.mk (PF.below (by repeat (with_reducible first | exact HV.out | apply PF.drew | apply PF.drewN | apply PF.alloc)) hb_); clear HV; have HV := HV_; clear HV_; clear HB hb_; have HB := HB_; clear HB_)
    refine hK.out _ _ ⟨(eG on), (eG oo)⟩ (fun hHeld => ?_)
    clear hK K
    refine norm_ (a' := ?_) ?_ ?_
    rotate_left
    · simp only [Act.put, List.setIfInBounds_toArray, List.set_cons_zero, List.set_cons_succ, i64_w, i32_w]
      rfl
    refine pure_ (i := 21) (N := some 117) (v := ?_) (a' := ?_) #[true, true, true, true, true, true, true, true, true, true, true, true, true, true, true, true, true, true, true, true, true, true, false, false, false, false, false, false, false, false, false, false, false, false, false, false, false] rfl rfl (by kernel_rfl) (fun _ _ _ h => h) (Or.inl ⟨by rfl, ?_⟩) ?_ ?_
    rotate_left
    · intro w'
      go_simp
      with_reducible rfl
    rotate_left
    · simp only [Act.put, List.setIfInBounds_toArray, List.set_cons_zero, List.set_cons_succ, i64_w, i32_w]
      rfl
    refine pure_ (i := 22) (N := some 118) (v := ?_) (a' := ?_) #[true, true, true, true, true, true, true, true, true, true, true, true, true, true, true, true, true, true, true, true, true, true, true, false, false, false, false, false, false, false, false, false, false, false, false, false, false] rfl rfl (by kernel_rfl) (fun _ _ _ h => h) (Or.inl ⟨by rfl, ?_⟩) ?_ ?_
    rotate_left
    · intro w'
      go_simp
      with_reducible rfl
    rotate_left
    · simp only [Act.put, List.setIfInBounds_toArray, List.set_cons_zero, List.set_cons_succ, i64_w, i32_w]
      rfl
    refine pure_ (i := 23) (N := some 119) (v := ?_) (a' := ?_) #[true, true, true, true, true, true, true, true, true, true, true, true, true, true, true, true, true, true, true, true, true, true, true, true, false, false, false, false, false, false, false, false, false, false, false, false, false] rfl rfl (by kernel_rfl) (fun _ _ _ h => h) (Or.inl ⟨by rfl, ?_⟩) ?_ ?_
    rotate_left
    · intro w'
      go_simp
      with_reducible rfl
    rotate_left
    · simp only [Act.put, List.setIfInBounds_toArray, List.set_cons_zero, List.set_cons_succ, i64_w, i32_w]
      rfl
    refine one_ (i := 24) (N := some 120) #[true, true, true, true, true, true, true, true, true, true, true, true, true, true, true, true, true, true, true, true, true, true, true, true, true, false, false, false, false, false, false, false, false, false, false, false, false] rfl rfl (by kernel_rfl) (by decide) (fun K hK => ?_)
    (refine goes_ Try.func19 (by kernel_rfl) rfl #[] (by rfl) rfl rfl (by (try simp only [List.map_toArray, List.map_cons, List.map_nil]); first | done | rfl) ?_; (with_reducible refine (pnew_c _).mono ?_); rintro e_ wr8 ⟨t3, rfl, H3, hb_⟩; refine ⟨_, rfl, ?_⟩; have HB_ : Aside0 (Below w.heap.size w wr8) := Aside0.mk (below_step (bG HB) hb_); have hzwr8 := hb_.size; (try simp at hzwr8); have on_ := Aside0.mk (box_below hb_ (eG on)); have oo_ := Aside0.mk (box_below hb_ (eG oo)); (try clear on onc onf onl); have on := on_; clear on_; obtain ⟨onc, onf, onl⟩ := cells_of on.out; (try clear oo ooc oof ool); have oo := oo_; clear oo_; obtain ⟨ooc, oof, ool⟩ := cells_of oo.out; have HF_ := Aside0.mk (PF.below (by repeat (with_reducible first | exact HF.out | apply PF.drew | apply PF.drewN | apply PF.alloc)) hb_); clear HF; have HF := HF_; clear HF_; have HV_ := Aside0.mk (PF.below (by repeat (with_reducible first | exact HV.out | apply PF.drew | apply PF.drewN | apply PF.alloc)) hb_); clear HV; have HV := HV_; clear HV_; clear HB hb_; have HB := HB_; clear HB_; have H3_ := Aside0.mk H3; clear H3; have H3 := H3_; clear H3_; skip)
    refine hK.out _ _ ⟨(eG on), (eG oo)⟩ (fun hHeld => ?_)
    clear hK K
    refine norm_ (a' := ?_) ?_ ?_
    rotate_left
    · simp only [Act.put, List.setIfInBounds_toArray, List.set_cons_zero, List.set_cons_succ, i64_w, i32_w]
      rfl
    refine one_ (i := 25) (N := some 121) #[true, true, true, true, true, true, true, true, true, true, true, true, true, true, true, true, true, true, true, true, true, true, true, true, true, true, false, false, false, false, false, false, false, false, false, false, false] rfl rfl (by kernel_rfl) (by decide) (fun K hK => ?_)
    (refine goes_ Try.func20 (by kernel_rfl) rfl #[] (by rfl) rfl rfl (by (try simp only [List.map_toArray, List.map_cons, List.map_nil]); first | done | rfl) ?_; (with_reducible refine (rnew_c _).mono ?_); rintro e_ wr9 ⟨t4, rfl, H4, hb_⟩; refine ⟨_, rfl, ?_⟩; have HB_ : Aside0 (Below w.heap.size w wr9) := Aside0.mk (below_step (bG HB) hb_); have hzwr9 := hb_.size; (try simp at hzwr9); have on_ := Aside0.mk (box_below hb_ (eG on)); have oo_ := Aside0.mk (box_below hb_ (eG oo)); (try clear on onc onf onl); have on := on_; clear on_; obtain ⟨onc, onf, onl⟩ := cells_of on.out; (try clear oo ooc oof ool); have oo := oo_; clear oo_; obtain ⟨ooc, oof, ool⟩ := cells_of oo.out; have HF_ := Aside0.mk (PF.below (by repeat (with_reducible first | exact HF.out | apply PF.drew | apply PF.drewN | apply PF.alloc)) hb_); clear HF; have HF := HF_; clear HF_; have HV_ := Aside0.mk (PF.below (by repeat (with_reducible first | exact HV.out | apply PF.drew | apply PF.drewN | apply PF.alloc)) hb_); clear HV; have HV := HV_; clear HV_; have H3_ := Aside0.mk (PF.below (by repeat (with_reducible first | exact H3.out | apply PF.drew | apply PF.drewN | apply PF.alloc)) hb_); clear H3; have H3 := H3_; clear H3_; clear HB hb_; have HB := HB_; clear HB_; have H4_ := Aside0.mk H4; clear H4; have H4 := H4_; clear H4_; skip)
    refine hK.out _ _ ⟨(eG on), (eG oo)⟩ (fun hHeld => ?_)
    clear hK K
    refine norm_ (a' := ?_) ?_ ?_
    rotate_left
    · simp only [Act.put, List.setIfInBounds_toArray, List.set_cons_zero, List.set_cons_succ, i64_w, i32_w]
      rfl
    refine one_ (i := 26) (N := some 122) #[true, true, true, true, true, true, true, true, true, true, true, true, true, true, true, true, true, true, true, true, true, true, true, true, true, true, true, false, false, false, false, false, false, false, false, false, false] rfl rfl (by kernel_rfl) (by decide) (fun K hK => ?_)
    (refine goes_ Try.func8 (by kernel_rfl) rfl #[.agg (PC pN t3), .agg (PC pN t4)] (by rfl) rfl rfl (by (try simp only [List.map_toArray, List.map_cons, List.map_nil]); first | done | rfl) ?_; (with_reducible refine (psame_c H3.out H4.out).mono ?_); rintro e_ wr10 ⟨rfl, hb_⟩; refine ⟨_, rfl, ?_⟩; have HB_ : Aside0 (Below w.heap.size w wr10) := Aside0.mk (below_step (bG HB) hb_); have hzwr10 := hb_.size; (try simp at hzwr10); have on_ := Aside0.mk (box_below hb_ (eG on)); have oo_ := Aside0.mk (box_below hb_ (eG oo)); (try clear on onc onf onl); have on := on_; clear on_; obtain ⟨onc, onf, onl⟩ := cells_of on.out; (try clear oo ooc oof ool); have oo := oo_; clear oo_; obtain ⟨ooc, oof, ool⟩ := cells_of oo.out; have HF_ := Aside0.mk (PF.below (by repeat (with_reducible first | exact HF.out | apply PF.drew | apply PF.drewN | apply PF.alloc)) hb_); clear HF; have HF := HF_; clear HF_; have HV_ := Aside0.mk (PF.below (by repeat (with_reducible first | exact HV.out | apply PF.drew | apply PF.drewN | apply PF.alloc)) hb_); clear HV; have HV := HV_; clear HV_; have H3_ := Aside0.mk (PF.below (by repeat (with_reducible first | exact H3.out | apply PF.drew | apply PF.drewN | apply PF.alloc)) hb_); clear H3; have H3 := H3_; clear H3_; have H4_ := Aside0.mk (PF.below (by repeat (with_reducible first | exact H4.out | apply PF.drew | apply PF.drewN | apply PF.alloc)) hb_); clear H4; have H4 := H4_; clear H4_; clear HB hb_; have HB := HB_; clear HB_)
    refine hK.out _ _ ⟨(eG on), (eG oo)⟩ (fun hHeld => ?_)
    clear hK K
    refine norm_ (a' := ?_) ?_ ?_
    rotate_left
    · simp only [Act.put, List.setIfInBounds_toArray, List.set_cons_zero, List.set_cons_succ, i64_w, i32_w]
      rfl
    refine pure_ (i := 27) (N := some 123) (v := ?_) (a' := ?_) #[true, true, true, true, true, true, true, true, true, true, true, true, true, true, true, true, true, true, true, true, true, true, true, true, true, true, true, true, false, false, false, false, false, false, false, false, false] rfl rfl (by kernel_rfl) (fun _ _ _ h => h) (Or.inl ⟨by rfl, ?_⟩) ?_ ?_
    rotate_left
    · intro w'
      go_simp
      with_reducible rfl
    rotate_left
    · simp only [Act.put, List.setIfInBounds_toArray, List.set_cons_zero, List.set_cons_succ, i64_w, i32_w]
      rfl
    refine pure_ (i := 28) (N := some 124) (v := ?_) (a' := ?_) #[true, true, true, true, true, true, true, true, true, true, true, true, true, true, true, true, true, true, true, true, true, true, true, true, true, true, true, true, true, false, false, false, false, false, false, false, false] rfl rfl (by kernel_rfl) (fun _ _ _ h => h) (Or.inl ⟨by rfl, ?_⟩) ?_ ?_
    rotate_left
    · intro w'
      go_simp
      with_reducible rfl
    rotate_left
    · simp only [Act.put, List.setIfInBounds_toArray, List.set_cons_zero, List.set_cons_succ, i64_w, i32_w]
      rfl
    refine rowL_ (i := 29) (N := some 125) #[true, true, true, true, true, true, true, true, true, true, true, true, true, true, true, true, true, true, true, true, true, true, true, true, true, true, true, true, true, true, false, false, false, false, false, false, false] rfl rfl (by kernel_rfl) 24 _ rfl (g2) (PC p ⟨s25, s33, s37⟩) (fun _ _ _ h => h) (by rfl) (by rfl) _ _ _ (fun _ h => h.2) Try.underlying24 rfl infPC hHeld (a' := ?_) ?_ ?_
    rotate_left
    · simp only [Act.put, List.setIfInBounds_toArray, List.set_cons_zero, List.set_cons_succ, i64_w, i32_w]
      rfl
    refine rowL_ (i := 30) (N := some 126) #[true, true, true, true, true, true, true, true, true, true, true, true, true, true, true, true, true, true, true, true, true, true, true, true, true, true, true, true, true, true, true, false, false, false, false, false, false] rfl rfl (by kernel_rfl) 24 _ rfl (w.heap.size) (PC p v) (fun _ _ _ h => h) (by rfl) (by rfl) _ _ _ (fun _ h => h.1) Try.underlying24 rfl infPC hHeld (a' := ?_) ?_ ?_
    rotate_left
    · simp only [Act.put, List.setIfInBounds_toArray, List.set_cons_zero, List.set_cons_succ, i64_w, i32_w]
      rfl
    refine one_ (i := 31) (N := some 127) #[true, true, true, true, true, true, true, true, true, true, true, true, true, true, true, true, true, true, true, true, true, true, true, true, true, true, true, true, true, true, true, true, false, false, false, false, false] rfl rfl (by kernel_rfl) (by decide) (fun K hK => ?_)
    (refine goes_ Try.func8 (by kernel_rfl) rfl #[.agg (PC p ⟨s25, s33, s37⟩), .agg (PC p v)] (by rfl) rfl rfl (by (try simp only [List.map_toArray, List.map_cons, List.map_nil]); first | done | rfl) ?_; (with_reducible refine (psame_c HV.out HF.out).mono ?_); rintro e_ wr11 ⟨rfl, hb_⟩; refine ⟨_, rfl, ?_⟩; have HB_ : Aside0 (Below w.heap.size w wr11) := Aside0.mk (below_step (bG HB) hb_); have hzwr11 := hb_.size; (try simp at hzwr11); have on_ := Aside0.mk (box_below hb_ (eG on)); have oo_ := Aside0.mk (box_below hb_ (eG oo)); (try clear on onc onf onl); have on := on_; clear on_; obtain ⟨onc, onf, onl⟩ := cells_of on.out; (try clear oo ooc oof ool); have oo := oo_; clear oo_; obtain ⟨ooc, oof, ool⟩ := cells_of oo.out; have HF_ := Aside0.mk (PF.below (by repeat (with_reducible first | exact HF.out | apply PF.drew | apply PF.drewN | apply PF.alloc)) hb_); clear HF; have HF := HF_; clear HF_; have HV_ := Aside0.mk (PF.below (by repeat (with_reducible first | exact HV.out | apply PF.drew | apply PF.drewN | apply PF.alloc)) hb_); clear HV; have HV := HV_; clear HV_; clear HB hb_; have HB := HB_; clear HB_)
    refine hK.out _ _ ⟨(eG on), (eG oo)⟩ (fun hHeld => ?_)
    clear hK K
    refine norm_ (a' := ?_) ?_ ?_
    rotate_left
    · simp only [Act.put, List.setIfInBounds_toArray, List.set_cons_zero, List.set_cons_succ, i64_w, i32_w]
      rfl
    refine pure_ (i := 32) (N := some 128) (v := ?_) (a' := ?_) #[true, true, true, true, true, true, true, true, true, true, true, true, true, true, true, true, true, true, true, true, true, true, true, true, true, true, true, true, true, true, true, true, true, false, false, false, false] rfl rfl (by kernel_rfl) (fun _ _ _ h => h) (Or.inl ⟨by rfl, ?_⟩) ?_ ?_
    rotate_left
    · intro w'
      go_simp
      with_reducible rfl
    rotate_left
    · simp only [Act.put, List.setIfInBounds_toArray, List.set_cons_zero, List.set_cons_succ, i64_w, i32_w]
      rfl
    refine pure_ (i := 33) (N := some 129) (v := ?_) (a' := ?_) #[true, true, true, true, true, true, true, true, true, true, true, true, true, true, true, true, true, true, true, true, true, true, true, true, true, true, true, true, true, true, true, true, true, true, false, false, false] rfl rfl (by kernel_rfl) (fun _ _ _ h => h) (Or.inl ⟨by rfl, ?_⟩) ?_ ?_
    rotate_left
    · intro w'
      go_simp
      with_reducible rfl
    rotate_left
    · simp only [Act.put, List.setIfInBounds_toArray, List.set_cons_zero, List.set_cons_succ, i64_w, i32_w]
      rfl
    refine one_ (i := 34) (N := some 130) #[true, true, true, true, true, true, true, true, true, true, true, true, true, true, true, true, true, true, true, true, true, true, true, true, true, true, true, true, true, true, true, true, true, true, true, false, false] rfl rfl (by kernel_rfl) (by decide) (fun K hK => ?_)
    (refine goes_ Try.func10 (by kernel_rfl) rfl #[] (by rfl) rfl rfl (by (try simp only [List.map_toArray, List.map_cons, List.map_nil]); first | done | rfl) ?_; (with_reducible refine (heads_runs _).mono ?_); rintro e_ wr12 ⟨rfl, hb_⟩; refine ⟨_, rfl, ?_⟩; have HB_ : Aside0 (Below w.heap.size w wr12) := Aside0.mk (below_step (bG HB) hb_); have hzwr12 := hb_.size; (try simp at hzwr12); have on_ := Aside0.mk (box_below hb_ (eG on)); have oo_ := Aside0.mk (box_below hb_ (eG oo)); (try clear on onc onf onl); have on := on_; clear on_; obtain ⟨onc, onf, onl⟩ := cells_of on.out; (try clear oo ooc oof ool); have oo := oo_; clear oo_; obtain ⟨ooc, oof, ool⟩ := cells_of oo.out; have HF_ := Aside0.mk (PF.below (by repeat (with_reducible first | exact HF.out | apply PF.drew | apply PF.drewN | apply PF.alloc)) hb_); clear HF; have HF := HF_; clear HF_; have HV_ := Aside0.mk (PF.below (by repeat (with_reducible first | exact HV.out | apply PF.drew | apply PF.drewN | apply PF.alloc)) hb_); clear HV; have HV := HV_; clear HV_; clear HB hb_; have HB := HB_; clear HB_)
    refine hK.out _ _ ⟨(eG on), (eG oo)⟩ (fun hHeld => ?_)
    clear hK K
    refine norm_ (a' := ?_) ?_ ?_
    rotate_left
    · simp only [Act.put, List.setIfInBounds_toArray, List.set_cons_zero, List.set_cons_succ, i64_w, i32_w]
      rfl
    refine pure_ (i := 35) (N := some 131) (v := ?_) (a' := ?_) #[true, true, true, true, true, true, true, true, true, true, true, true, true, true, true, true, true, true, true, true, true, true, true, true, true, true, true, true, true, true, true, true, true, true, true, true, false] rfl rfl (by kernel_rfl) (fun _ _ _ h => h) (Or.inl ⟨by rfl, ?_⟩) ?_ ?_
    rotate_left
    · intro w'
      go_simp
      with_reducible rfl
    rotate_left
    · simp only [Act.put, List.setIfInBounds_toArray, List.set_cons_zero, List.set_cons_succ, i64_w, i32_w]
      rfl
    refine pure_ (i := 36) (N := some 10) (v := ?_) (a' := ?_) #[true, true, true, true, true, true, true, true, true, true, true, true, true, true, true, true, true, true, true, true, true, true, true, true, true, true, true, true, true, true, true, true, true, true, true, true, true] rfl rfl (by kernel_rfl) (fun _ _ _ h => h) (Or.inl ⟨by rfl, ?_⟩) ?_ ?_
    rotate_left
    · intro w'
      go_simp
      with_reducible rfl
    rotate_left
    · simp only [Act.put, List.setIfInBounds_toArray, List.set_cons_zero, List.set_cons_succ, i64_w, i32_w]
      rfl
    refine done_ (by kernel_rfl) ?_
    go_wp2
    go_ret
    exact ⟨rfl, HB.out⟩
end Go.Proofs.Ytmlpnjoejdpblaa.Q
