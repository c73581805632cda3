import Derived.Test.YtmlpnjoejdpblaaPZ1
import Derived.Test.YtmlpnjoejdpblaaPXQx2
import Derived.Deep.DrawnRows
section
/- Which source is told: plic.Best, in plain numbers. -/
namespace Go.Proofs.Ytmlpnjoejdpblaa.Q
open Go.RowKit Go.Proofs.YtmlpnjoejdpblaaW.PrintWords Go.Proofs.YtmlpnjoejdpblaaW.PrintLast Go.Proofs.YtmlpnjoejdpblaaW.PrintMore Go.Proofs.Ytmlpnjoejdpblaa.L
set_option linter.unusedVariables false
set_option linter.unusedSimpArgs false
def upZ (p e s : Int) : Bool := Go.bits .and .i64 (shr .i64 (Go.bits .and .i64 p e) s) 1 == 1
def hitZ (l0 : List Int) (p : Int) (l3 l4 : List Int) (k s b : Int) : Bool := upZ p (rd l3 k) s && (decide (rd l0 s > rd l4 k) && decide (rd l0 s ≥ rd l0 b))
def b2Z (l0 : List Int) (p : Int) (l3 l4 : List Int) (k : Int) : Int := if hitZ l0 p l3 l4 k 2 0 = true then 2 else 0
def bestZ (l0 : List Int) (p : Int) (l3 l4 : List Int) (k : Int) : Int := if hitZ l0 p l3 l4 k 1 (b2Z l0 p l3 l4 k) = true then 1 else b2Z l0 p l3 l4 k
theorem best_step (l0 : List Int) (p c : Int) (l3 l4 : List Int) (k s b : Int) (m : Nat) (h0 : l0.length = 3) (h3 : l3.length = 2) (h4 : l4.length = 2) (hk : k = 0 ∨ k = 1) (hs : s = 1 ∨ s = 2) (hb : b = 0 ∨ b = 2) :
    plic_Best.l0 (m + 1) k b s l0 p c l3 l4 = plic_Best.l0 m k (if hitZ l0 p l3 l4 k s b = true then s else b) (s - 1) l0 p c l3 l4 := by
  have hw : wrap64 (s - 1) = s - 1 := by unfold wrap64; omega
  rw [plic_Best.l0, if_pos (by omega), if_pos (by omega), if_pos (by omega), if_pos (by omega), hw]
  unfold hitZ upZ
  by_cases h1 : Go.bits .and .i64 (shr .i64 (Go.bits .and .i64 p (rd l3 k)) s) 1 = 1
  · rw [if_pos h1, if_pos (by omega), if_pos (by omega), beq_iff_eq.mpr h1, Bool.true_and]
    by_cases h2 : rd l0 s > rd l4 k
    · rw [if_pos h2, if_pos (by omega), if_pos (by omega), decide_eq_true h2, Bool.true_and]
      by_cases h3 : rd l0 s ≥ rd l0 b
      · rw [if_pos h3, decide_eq_true h3, if_pos rfl]
      · rw [if_neg h3, decide_eq_false h3, if_neg (by decide)]
    · rw [if_neg h2, decide_eq_false h2, Bool.false_and, if_neg (by decide)]
  · rw [if_neg h1, beq_eq_false_iff_ne.mpr h1, Bool.false_and, if_neg (by decide)]
theorem check_len {l0 : List Int} {p c : Int} {l3 l4 : List Int} (h : checkZ l0 p c l3 l4 = true) : l0.length = 3 ∧ l3.length = 2 ∧ l4.length = 2 ∧ rd l0 0 = 0 := by
  unfold checkZ shapeZ at h
  simp only [Bool.and_eq_true, decide_eq_true_eq] at h
  exact ⟨h.1.1.1.1.1, h.1.1.1.1.2, h.1.1.1.2, h.1.1.2⟩
theorem b2_cases (l0 : List Int) (p : Int) (l3 l4 : List Int) (k : Int) : b2Z l0 p l3 l4 k = 0 ∨ b2Z l0 p l3 l4 k = 2 := by unfold b2Z; split; exact .inr rfl; exact .inl rfl
theorem best_cases (l0 : List Int) (p : Int) (l3 l4 : List Int) (k : Int) : bestZ l0 p l3 l4 k = 0 ∨ bestZ l0 p l3 l4 k = 1 ∨ bestZ l0 p l3 l4 k = 2 := by
  unfold bestZ
  split
  · exact .inr (.inl rfl)
  · rcases b2_cases l0 p l3 l4 k with h | h
    · exact .inl h
    · exact .inr (.inr h)
theorem best_is (l0 : List Int) (p c : Int) (l3 l4 : List Int) (k : Int) (m : Nat) (hck : checkZ l0 p c l3 l4 = true) (hk : k = 0 ∨ k = 1) : plic_Best.f (m + 4) l0 p c l3 l4 k = some (bestZ l0 p l3 l4 k) := by
  obtain ⟨h0, h3, h4, _⟩ := check_len hck
  unfold plic_Best.f plic_Check.f
  rw [hck, Option.bind_some, if_pos rfl, if_neg (by omega), decide_eq_false (by omega), plic_Best.j0, if_neg (by decide), best_step l0 p c l3 l4 k 2 0 (m + 2) h0 h3 h4 hk (.inr rfl) (.inl rfl)]
  show plic_Best.l0 (m + 2) k (b2Z l0 p l3 l4 k) (2 - 1) l0 p c l3 l4 = _
  rw [show (2 : Int) - 1 = 1 by decide, best_step l0 p c l3 l4 k 1 _ (m + 1) h0 h3 h4 hk (.inl rfl) (b2_cases l0 p l3 l4 k)]
  show plic_Best.l0 (m + 1) k (bestZ l0 p l3 l4 k) (1 - 1) l0 p c l3 l4 = _
  rw [show (1 : Int) - 1 = 0 by decide, plic_Best.l0, if_neg (by decide)]
theorem best_no (l0 : List Int) (p c : Int) (l3 l4 : List Int) (k : Int) (m : Nat) (h : checkZ l0 p c l3 l4 = false ∨ k < 0 ∨ 2 ≤ k) : plic_Best.f (m + 1) l0 p c l3 l4 k = some 0 := by
  unfold plic_Best.f plic_Check.f
  rw [Option.bind_some]
  cases hc : checkZ l0 p c l3 l4
  · rw [if_neg (by decide), plic_Best.j0, if_pos rfl]
  · rw [if_pos rfl]
    rcases h with h | h
    · rw [hc] at h; cases h
    · by_cases hn : k < 0
      · rw [if_pos hn, plic_Best.j0, if_pos rfl]
      · rw [if_neg hn, decide_eq_true (by omega), plic_Best.j0, if_pos rfl]
end Go.Proofs.Ytmlpnjoejdpblaa.Q
end
section
/- plic.Load, its walks (what they share). -/
namespace Go.Proofs.Ytmlpnjoejdpblaa.Q
open Go.RowKit Go.Proofs.YtmlpnjoejdpblaaW.PrintWords Go.Proofs.YtmlpnjoejdpblaaW.PrintLast Go.Proofs.YtmlpnjoejdpblaaW.PrintMore Go.Proofs.Ytmlpnjoejdpblaa.L
attribute [local go_sem] Instr.field part asAgg lt_step max2_int min2_int max_two min_two max_three min_three max_four min_four lt_0_1 lt_0_2 lt_1_2 lt_0_3 lt_1_3 lt_2_3 lt_0_4 lt_1_4 lt_2_4 lt_3_4 lt_0_5 lt_1_5 lt_2_5 lt_3_5 lt_4_5 lt_0_6 lt_1_6 lt_2_6 lt_3_6 lt_4_6 lt_5_6 lt_0_7 lt_1_7 lt_2_7 lt_3_7 lt_4_7 lt_5_7 lt_6_7 lt_0_8 lt_1_8 lt_2_8 lt_3_8 lt_4_8 lt_5_8 lt_6_8 lt_7_8
set_option linter.unusedVariables false
set_option linter.unusedSimpArgs false
attribute [local go_sem ↓] Go.wp_at_zero Go.wp_at_succ
theorem F_at {k : IntKind} {W : World} {ok : Nat → Prop} {b o n : Nat} {xs : List Int} (h : Kd.F (Kd.int k) W ok (some ⟨b, o, none⟩) n xs) (i : Nat) (hi : i < n) : W.cell? ⟨b, o + i, none⟩ = some (.int k (rd xs (i : Int))) := by
  obtain ⟨b', o', e, hc⟩ := F_cell' h (by omega)
  injection e with e; injection e with e1 e2
  subst e1; subst e2
  have := hc i hi
  rw [this]; unfold rd; rw [Int.toNat_natCast]
theorem check_c (B : Bool) (A0 : Option Addr) (c0 : Nat) (l0 : List Int) (p c : Int) (A3 : Option Addr) (c3 : Nat) (l3 : List Int) (A4 : Option Addr) (c4 : Nat) (l4 : List Int) (w : World) (hB : checkZ l0 p c l3 l4 = B) (hr0 : Kd.C (Kd.int .i64) w A0 l0.length l0) (hr3 : Kd.C (Kd.int .i64) w A3 l3.length l3) (hr4 : Kd.C (Kd.int .i64) w A4 l4.length l4) :
    Calls Try.prog 7 #[.agg #[.slice A0 l0.length c0, .int .i64 p, .int .i64 c, .slice A3 l3.length c3, .slice A4 l4.length c4]] w fun e w' => e = .returned (.bool B) ∧ Below w.heap.size w w' := by
  rw [← hB]; exact check_runs _ _ _ _ _ _ _ _ _ _ _ _ hr0 hr3 hr4
theorem at_c (a b x i : Int) (w : World) (h : at2Z a b x = i) : Calls Try.prog 26 #[.agg #[.int .u64 a, .int .u64 b], .int .u64 x] w fun e w' => e = .returned (.int .i64 i) ∧ Below w.heap.size w w' := by
  subst h; exact at_runs a b x w
theorem check_lens {l0 : List Int} {p c : Int} {l3 l4 : List Int} (h : checkZ l0 p c l3 l4 = true) : l0.length = 3 ∧ l3.length = 2 ∧ l4.length = 2 := by
  unfold checkZ shapeZ at h
  simp only [Bool.and_eq_true, decide_eq_true_eq] at h
  exact ⟨h.1.1.1.1.1, h.1.1.1.1.2, h.1.1.1.2⟩
end Go.Proofs.Ytmlpnjoejdpblaa.Q
end
section
/- plic.Load, its walks registers. -/
namespace Go.Proofs.Ytmlpnjoejdpblaa.Q
open Go.RowKit Go.Proofs.YtmlpnjoejdpblaaW.PrintWords Go.Proofs.YtmlpnjoejdpblaaW.PrintLast Go.Proofs.YtmlpnjoejdpblaaW.PrintMore Go.Proofs.Ytmlpnjoejdpblaa.L
attribute [local go_sem] Instr.field part asAgg lt_step max2_int min2_int max_two min_two max_three min_three max_four min_four lt_0_1 lt_0_2 lt_1_2 lt_0_3 lt_1_3 lt_2_3 lt_0_4 lt_1_4 lt_2_4 lt_3_4 lt_0_5 lt_1_5 lt_2_5 lt_3_5 lt_4_5 lt_0_6 lt_1_6 lt_2_6 lt_3_6 lt_4_6 lt_5_6 lt_0_7 lt_1_7 lt_2_7 lt_3_7 lt_4_7 lt_5_7 lt_6_7 lt_0_8 lt_1_8 lt_2_8 lt_3_8 lt_4_8 lt_5_8 lt_6_8 lt_7_8
set_option linter.unusedVariables false
set_option linter.unusedSimpArgs false
attribute [local go_sem ↓] Go.wp_at_zero Go.wp_at_succ
set_option maxHeartbeats 1600000 in
set_option maxRecDepth 100000 in
theorem load_p1 (A0 : Option Addr) (c0 : Nat) (l0 : List Int) (p c : Int) (A3 : Option Addr) (c3 : Nat) (l3 : List Int) (A4 : Option Addr) (c4 : Nat) (l4 : List Int) (w : World) (hck : checkZ l0 p c l3 l4 = true) (hr0 : Kd.C (Kd.int .i64) w A0 l0.length l0) (hr3 : Kd.C (Kd.int .i64) w A3 l3.length l3) (hr4 : Kd.C (Kd.int .i64) w A4 l4.length l4) (hc0 : l0.length ≤ c0) (hc3 : l3.length ≤ c3) (hc4 : l4.length ≤ c4) :
    Calls Try.prog 11 #[.agg #[.slice A0 l0.length c0, .int .i64 p, .int .i64 c, .slice A3 l3.length c3, .slice A4 l4.length c4], .int .u64 4, .int .i64 4] w fun e w' => e = .returned (.tuple #[.int .u64 (IntKind.u64.wrap (rd l0 1)), .agg #[.slice A0 l0.length c0, .int .i64 p, .int .i64 c, .slice A3 l3.length c3, .slice A4 l4.length c4], .bool true]) ∧ Below w.heap.size w w' := by
  have HB := Aside0.mk (Below.refl w.heap.size w)
  have hmf : ∀ (fn : Fn) (first cap : Array Value) (w : World), (Instr.makeFunc fn first cap).run Try.prog w = .ok (.func fn first cap) w := fun _ _ _ _ => rfl
  have hu := Try.underlying24
  obtain ⟨hl0, hl3, hl4⟩ := check_lens hck
  have r0 := Aside0.mk (F_in hr0)
  have r3 := Aside0.mk (F_in hr3)
  have r4 := Aside0.mk (F_in hr4)
  have HK := Aside0.mk hck
  have HC0 := Aside0.mk hc0
  have HC3 := Aside0.mk hc3
  have HC4 := Aside0.mk hc4
  obtain ⟨ab, ao, rfl, _⟩ := F_cell' r0.out (by omega)
  have hix : (1 : Int) < (l0.length : Int) := by omega
  have hixn : 1 < l0.length := by omega
  have HIX := Aside0.mk hixn
  clear hixn
  clear hr0 hr3 hr4 hck hc0 hc3 hc4 hl0 hl3 hl4
  go_enter Try.func11, Try.ntmps11
  go_wp2_with fail
  (go_at_call 7; (with_reducible refine (check_c true _ _ l0 p c _ _ l3 _ _ l4 _ HK.out (Kd.F_now (fG r0)) (Kd.F_now (fG r3)) (Kd.F_now (fG r4))).mono ?_); rintro e_ w1 ⟨rfl, hb_⟩; have HB_ : Aside0 (Below w.heap.size w w1) := Aside0.mk (below_step (bG HB) hb_); have hzw1 := hb_.size; (try simp at hzw1); have oc_ := Aside0.mk (box_below hb_ (by repeat (with_reducible first | exact nb_1 w _ | apply ext_drew | apply ext_drewN | apply ext_alloc | refine blk_far ?_ (by show _ ≠ _; dsimp only; omega) _))); have oz_ := Aside0.mk (box_below hb_ (by repeat (with_reducible first | exact nb_2 w _ _ | apply ext_drew | apply ext_drewN | apply ext_alloc | refine blk_far ?_ (by show _ ≠ _; dsimp only; omega) _))); have r0_ := Aside0.mk (Kd.F_below (fG r0) hb_); clear r0; have r0 := r0_; clear r0_; have r3_ := Aside0.mk (Kd.F_below (fG r3) hb_); clear r3; have r3 := r3_; clear r3_; have r4_ := Aside0.mk (Kd.F_below (fG r4) hb_); clear r4; have r4 := r4_; clear r4_; (try clear oc occ ocf ocl); have oc := oc_; clear oc_; obtain ⟨occ, ocf, ocl⟩ := cells_of oc.out; (try clear oz ozc ozf ozl); have oz := oz_; clear oz_; obtain ⟨ozc, ozf, ozl⟩ := cells_of oz.out; clear HB hb_; have HB := HB_; clear HB_)
  go_wp2_with fail
  (go_at_call 25; (with_reducible refine (enables_runs _).mono ?_); rintro e_ w2 ⟨rfl, hb_⟩; have HB_ : Aside0 (Below w.heap.size w w2) := Aside0.mk (below_step (bG HB) hb_); have hzw2 := hb_.size; (try simp at hzw2); have oc_ := Aside0.mk (box_below hb_ (eG oc)); have oz_ := Aside0.mk (box_below hb_ (eG oz)); have r0_ := Aside0.mk (Kd.F_below (fG r0) hb_); clear r0; have r0 := r0_; clear r0_; have r3_ := Aside0.mk (Kd.F_below (fG r3) hb_); clear r3; have r3 := r3_; clear r3_; have r4_ := Aside0.mk (Kd.F_below (fG r4) hb_); clear r4; have r4 := r4_; clear r4_; (try clear oc occ ocf ocl); have oc := oc_; clear oc_; obtain ⟨occ, ocf, ocl⟩ := cells_of oc.out; (try clear oz ozc ozf ozl); have oz := oz_; clear oz_; obtain ⟨ozc, ozf, ozl⟩ := cells_of oz.out; clear HB hb_; have HB := HB_; clear HB_)
  go_wp2_with fail
  (go_at_call 27; (with_reducible refine (thresholds_runs _).mono ?_); rintro e_ w3 ⟨rfl, hb_⟩; have HB_ : Aside0 (Below w.heap.size w w3) := Aside0.mk (below_step (bG HB) hb_); have hzw3 := hb_.size; (try simp at hzw3); have oc_ := Aside0.mk (box_below hb_ (eG oc)); have oz_ := Aside0.mk (box_below hb_ (eG oz)); have r0_ := Aside0.mk (Kd.F_below (fG r0) hb_); clear r0; have r0 := r0_; clear r0_; have r3_ := Aside0.mk (Kd.F_below (fG r3) hb_); clear r3; have r3 := r3_; clear r3_; have r4_ := Aside0.mk (Kd.F_below (fG r4) hb_); clear r4; have r4 := r4_; clear r4_; (try clear oc occ ocf ocl); have oc := oc_; clear oc_; obtain ⟨occ, ocf, ocl⟩ := cells_of oc.out; (try clear oz ozc ozf ozl); have oz := oz_; clear oz_; obtain ⟨ozc, ozf, ozl⟩ := cells_of oz.out; clear HB hb_; have HB := HB_; clear HB_)
  go_wp2_with fail
  (go_at_call 28; (with_reducible refine (claims_runs _).mono ?_); rintro e_ w4 ⟨rfl, hb_⟩; have HB_ : Aside0 (Below w.heap.size w w4) := Aside0.mk (below_step (bG HB) hb_); have hzw4 := hb_.size; (try simp at hzw4); have oc_ := Aside0.mk (box_below hb_ (eG oc)); have oz_ := Aside0.mk (box_below hb_ (eG oz)); have r0_ := Aside0.mk (Kd.F_below (fG r0) hb_); clear r0; have r0 := r0_; clear r0_; have r3_ := Aside0.mk (Kd.F_below (fG r3) hb_); clear r3; have r3 := r3_; clear r3_; have r4_ := Aside0.mk (Kd.F_below (fG r4) hb_); clear r4; have r4 := r4_; clear r4_; (try clear oc occ ocf ocl); have oc := oc_; clear oc_; obtain ⟨occ, ocf, ocl⟩ := cells_of oc.out; (try clear oz ozc ozf ozl); have oz := oz_; clear oz_; obtain ⟨ozc, ozf, ozl⟩ := cells_of oz.out; clear HB hb_; have HB := HB_; clear HB_)
  go_wp2_with fail
  (go_at_call 26; (with_reducible refine (at_c 8192 8320 4 (-1) _ rfl).mono ?_); rintro e_ w5 ⟨rfl, hb_⟩; have HB_ : Aside0 (Below w.heap.size w w5) := Aside0.mk (below_step (bG HB) hb_); have hzw5 := hb_.size; (try simp at hzw5); have oc_ := Aside0.mk (box_below hb_ (eG oc)); have oz_ := Aside0.mk (box_below hb_ (eG oz)); have r0_ := Aside0.mk (Kd.F_below (fG r0) hb_); clear r0; have r0 := r0_; clear r0_; have r3_ := Aside0.mk (Kd.F_below (fG r3) hb_); clear r3; have r3 := r3_; clear r3_; have r4_ := Aside0.mk (Kd.F_below (fG r4) hb_); clear r4; have r4 := r4_; clear r4_; (try clear oc occ ocf ocl); have oc := oc_; clear oc_; obtain ⟨occ, ocf, ocl⟩ := cells_of oc.out; (try clear oz ozc ozf ozl); have oz := oz_; clear oz_; obtain ⟨ozc, ozf, ozl⟩ := cells_of oz.out; clear HB hb_; have HB := HB_; clear HB_)
  go_wp2_with fail
  (go_at_call 26; (with_reducible refine (at_c 2097152 2101248 4 (-1) _ rfl).mono ?_); rintro e_ w6 ⟨rfl, hb_⟩; have HB_ : Aside0 (Below w.heap.size w w6) := Aside0.mk (below_step (bG HB) hb_); have hzw6 := hb_.size; (try simp at hzw6); have oc_ := Aside0.mk (box_below hb_ (eG oc)); have oz_ := Aside0.mk (box_below hb_ (eG oz)); have r0_ := Aside0.mk (Kd.F_below (fG r0) hb_); clear r0; have r0 := r0_; clear r0_; have r3_ := Aside0.mk (Kd.F_below (fG r3) hb_); clear r3; have r3 := r3_; clear r3_; have r4_ := Aside0.mk (Kd.F_below (fG r4) hb_); clear r4; have r4 := r4_; clear r4_; (try clear oc occ ocf ocl); have oc := oc_; clear oc_; obtain ⟨occ, ocf, ocl⟩ := cells_of oc.out; (try clear oz ozc ozf ozl); have oz := oz_; clear oz_; obtain ⟨ozc, ozf, ozl⟩ := cells_of oz.out; clear HB hb_; have HB := HB_; clear HB_)
  go_wp2_with fail
  (go_at_call 26; (with_reducible refine (at_c 2097156 2101252 4 (-1) _ rfl).mono ?_); rintro e_ w7 ⟨rfl, hb_⟩; have HB_ : Aside0 (Below w.heap.size w w7) := Aside0.mk (below_step (bG HB) hb_); have hzw7 := hb_.size; (try simp at hzw7); have oc_ := Aside0.mk (box_below hb_ (eG oc)); have oz_ := Aside0.mk (box_below hb_ (eG oz)); have r0_ := Aside0.mk (Kd.F_below (fG r0) hb_); clear r0; have r0 := r0_; clear r0_; have r3_ := Aside0.mk (Kd.F_below (fG r3) hb_); clear r3; have r3 := r3_; clear r3_; have r4_ := Aside0.mk (Kd.F_below (fG r4) hb_); clear r4; have r4 := r4_; clear r4_; (try clear oc occ ocf ocl); have oc := oc_; clear oc_; obtain ⟨occ, ocf, ocl⟩ := cells_of oc.out; (try clear oz ozc ozf ozl); have oz := oz_; clear oz_; obtain ⟨ozc, ozf, ozl⟩ := cells_of oz.out; clear HB hb_; have HB := HB_; clear HB_)
  have hcell := F_at r0.out 1 HIX.out
  rw [show ((1 : Nat) : Int) = 1 from rfl] at hcell
  (try rw [Nat.add_zero] at hcell)
  go_wp2
  (first | go_region | skip)
  all_goals go_wp2
  all_goals refine bodyPost_ret (v := .tuple #[.int .u64 (IntKind.u64.wrap (rd l0 1)), .agg #[.slice (some ⟨ab, ao, none⟩) l0.length c0, .int .i64 p, .int .i64 c, .slice A3 l3.length c3, .slice A4 l4.length c4], .bool true]) (by simp [results, Try.results11, go_sem, occ, ozc] <;> first | assumption | omega | (symm; assumption)) rfl ?_
  all_goals exact ⟨rfl, (bG HB)⟩
set_option maxHeartbeats 1600000 in
set_option maxRecDepth 100000 in
theorem load_p2 (A0 : Option Addr) (c0 : Nat) (l0 : List Int) (p c : Int) (A3 : Option Addr) (c3 : Nat) (l3 : List Int) (A4 : Option Addr) (c4 : Nat) (l4 : List Int) (w : World) (hck : checkZ l0 p c l3 l4 = true) (hr0 : Kd.C (Kd.int .i64) w A0 l0.length l0) (hr3 : Kd.C (Kd.int .i64) w A3 l3.length l3) (hr4 : Kd.C (Kd.int .i64) w A4 l4.length l4) (hc0 : l0.length ≤ c0) (hc3 : l3.length ≤ c3) (hc4 : l4.length ≤ c4) :
    Calls Try.prog 11 #[.agg #[.slice A0 l0.length c0, .int .i64 p, .int .i64 c, .slice A3 l3.length c3, .slice A4 l4.length c4], .int .u64 8, .int .i64 4] w fun e w' => e = .returned (.tuple #[.int .u64 (IntKind.u64.wrap (rd l0 2)), .agg #[.slice A0 l0.length c0, .int .i64 p, .int .i64 c, .slice A3 l3.length c3, .slice A4 l4.length c4], .bool true]) ∧ Below w.heap.size w w' := by
  have HB := Aside0.mk (Below.refl w.heap.size w)
  have hmf : ∀ (fn : Fn) (first cap : Array Value) (w : World), (Instr.makeFunc fn first cap).run Try.prog w = .ok (.func fn first cap) w := fun _ _ _ _ => rfl
  have hu := Try.underlying24
  obtain ⟨hl0, hl3, hl4⟩ := check_lens hck
  have r0 := Aside0.mk (F_in hr0)
  have r3 := Aside0.mk (F_in hr3)
  have r4 := Aside0.mk (F_in hr4)
  have HK := Aside0.mk hck
  have HC0 := Aside0.mk hc0
  have HC3 := Aside0.mk hc3
  have HC4 := Aside0.mk hc4
  obtain ⟨ab, ao, rfl, _⟩ := F_cell' r0.out (by omega)
  have hix : (2 : Int) < (l0.length : Int) := by omega
  have hixn : 2 < l0.length := by omega
  have HIX := Aside0.mk hixn
  clear hixn
  clear hr0 hr3 hr4 hck hc0 hc3 hc4 hl0 hl3 hl4
  go_enter Try.func11, Try.ntmps11
  go_wp2_with fail
  (go_at_call 7; (with_reducible refine (check_c true _ _ l0 p c _ _ l3 _ _ l4 _ HK.out (Kd.F_now (fG r0)) (Kd.F_now (fG r3)) (Kd.F_now (fG r4))).mono ?_); rintro e_ w1 ⟨rfl, hb_⟩; have HB_ : Aside0 (Below w.heap.size w w1) := Aside0.mk (below_step (bG HB) hb_); have hzw1 := hb_.size; (try simp at hzw1); have oc_ := Aside0.mk (box_below hb_ (by repeat (with_reducible first | exact nb_1 w _ | apply ext_drew | apply ext_drewN | apply ext_alloc | refine blk_far ?_ (by show _ ≠ _; dsimp only; omega) _))); have oz_ := Aside0.mk (box_below hb_ (by repeat (with_reducible first | exact nb_2 w _ _ | apply ext_drew | apply ext_drewN | apply ext_alloc | refine blk_far ?_ (by show _ ≠ _; dsimp only; omega) _))); have r0_ := Aside0.mk (Kd.F_below (fG r0) hb_); clear r0; have r0 := r0_; clear r0_; have r3_ := Aside0.mk (Kd.F_below (fG r3) hb_); clear r3; have r3 := r3_; clear r3_; have r4_ := Aside0.mk (Kd.F_below (fG r4) hb_); clear r4; have r4 := r4_; clear r4_; (try clear oc occ ocf ocl); have oc := oc_; clear oc_; obtain ⟨occ, ocf, ocl⟩ := cells_of oc.out; (try clear oz ozc ozf ozl); have oz := oz_; clear oz_; obtain ⟨ozc, ozf, ozl⟩ := cells_of oz.out; clear HB hb_; have HB := HB_; clear HB_)
  go_wp2_with fail
  (go_at_call 25; (with_reducible refine (enables_runs _).mono ?_); rintro e_ w2 ⟨rfl, hb_⟩; have HB_ : Aside0 (Below w.heap.size w w2) := Aside0.mk (below_step (bG HB) hb_); have hzw2 := hb_.size; (try simp at hzw2); have oc_ := Aside0.mk (box_below hb_ (eG oc)); have oz_ := Aside0.mk (box_below hb_ (eG oz)); have r0_ := Aside0.mk (Kd.F_below (fG r0) hb_); clear r0; have r0 := r0_; clear r0_; have r3_ := Aside0.mk (Kd.F_below (fG r3) hb_); clear r3; have r3 := r3_; clear r3_; have r4_ := Aside0.mk (Kd.F_below (fG r4) hb_); clear r4; have r4 := r4_; clear r4_; (try clear oc occ ocf ocl); have oc := oc_; clear oc_; obtain ⟨occ, ocf, ocl⟩ := cells_of oc.out; (try clear oz ozc ozf ozl); have oz := oz_; clear oz_; obtain ⟨ozc, ozf, ozl⟩ := cells_of oz.out; clear HB hb_; have HB := HB_; clear HB_)
  go_wp2_with fail
  (go_at_call 27; (with_reducible refine (thresholds_runs _).mono ?_); rintro e_ w3 ⟨rfl, hb_⟩; have HB_ : Aside0 (Below w.heap.size w w3) := Aside0.mk (below_step (bG HB) hb_); have hzw3 := hb_.size; (try simp at hzw3); have oc_ := Aside0.mk (box_below hb_ (eG oc)); have oz_ := Aside0.mk (box_below hb_ (eG oz)); have r0_ := Aside0.mk (Kd.F_below (fG r0) hb_); clear r0; have r0 := r0_; clear r0_; have r3_ := Aside0.mk (Kd.F_below (fG r3) hb_); clear r3; have r3 := r3_; clear r3_; have r4_ := Aside0.mk (Kd.F_below (fG r4) hb_); clear r4; have r4 := r4_; clear r4_; (try clear oc occ ocf ocl); have oc := oc_; clear oc_; obtain ⟨occ, ocf, ocl⟩ := cells_of oc.out; (try clear oz ozc ozf ozl); have oz := oz_; clear oz_; obtain ⟨ozc, ozf, ozl⟩ := cells_of oz.out; clear HB hb_; have HB := HB_; clear HB_)
  go_wp2_with fail
  (go_at_call 28; (with_reducible refine (claims_runs _).mono ?_); rintro e_ w4 ⟨rfl, hb_⟩; have HB_ : Aside0 (Below w.heap.size w w4) := Aside0.mk (below_step (bG HB) hb_); have hzw4 := hb_.size; (try simp at hzw4); have oc_ := Aside0.mk (box_below hb_ (eG oc)); have oz_ := Aside0.mk (box_below hb_ (eG oz)); have r0_ := Aside0.mk (Kd.F_below (fG r0) hb_); clear r0; have r0 := r0_; clear r0_; have r3_ := Aside0.mk (Kd.F_below (fG r3) hb_); clear r3; have r3 := r3_; clear r3_; have r4_ := Aside0.mk (Kd.F_below (fG r4) hb_); clear r4; have r4 := r4_; clear r4_; (try clear oc occ ocf ocl); have oc := oc_; clear oc_; obtain ⟨occ, ocf, ocl⟩ := cells_of oc.out; (try clear oz ozc ozf ozl); have oz := oz_; clear oz_; obtain ⟨ozc, ozf, ozl⟩ := cells_of oz.out; clear HB hb_; have HB := HB_; clear HB_)
  go_wp2_with fail
  (go_at_call 26; (with_reducible refine (at_c 8192 8320 8 (-1) _ rfl).mono ?_); rintro e_ w5 ⟨rfl, hb_⟩; have HB_ : Aside0 (Below w.heap.size w w5) := Aside0.mk (below_step (bG HB) hb_); have hzw5 := hb_.size; (try simp at hzw5); have oc_ := Aside0.mk (box_below hb_ (eG oc)); have oz_ := Aside0.mk (box_below hb_ (eG oz)); have r0_ := Aside0.mk (Kd.F_below (fG r0) hb_); clear r0; have r0 := r0_; clear r0_; have r3_ := Aside0.mk (Kd.F_below (fG r3) hb_); clear r3; have r3 := r3_; clear r3_; have r4_ := Aside0.mk (Kd.F_below (fG r4) hb_); clear r4; have r4 := r4_; clear r4_; (try clear oc occ ocf ocl); have oc := oc_; clear oc_; obtain ⟨occ, ocf, ocl⟩ := cells_of oc.out; (try clear oz ozc ozf ozl); have oz := oz_; clear oz_; obtain ⟨ozc, ozf, ozl⟩ := cells_of oz.out; clear HB hb_; have HB := HB_; clear HB_)
  go_wp2_with fail
  (go_at_call 26; (with_reducible refine (at_c 2097152 2101248 8 (-1) _ rfl).mono ?_); rintro e_ w6 ⟨rfl, hb_⟩; have HB_ : Aside0 (Below w.heap.size w w6) := Aside0.mk (below_step (bG HB) hb_); have hzw6 := hb_.size; (try simp at hzw6); have oc_ := Aside0.mk (box_below hb_ (eG oc)); have oz_ := Aside0.mk (box_below hb_ (eG oz)); have r0_ := Aside0.mk (Kd.F_below (fG r0) hb_); clear r0; have r0 := r0_; clear r0_; have r3_ := Aside0.mk (Kd.F_below (fG r3) hb_); clear r3; have r3 := r3_; clear r3_; have r4_ := Aside0.mk (Kd.F_below (fG r4) hb_); clear r4; have r4 := r4_; clear r4_; (try clear oc occ ocf ocl); have oc := oc_; clear oc_; obtain ⟨occ, ocf, ocl⟩ := cells_of oc.out; (try clear oz ozc ozf ozl); have oz := oz_; clear oz_; obtain ⟨ozc, ozf, ozl⟩ := cells_of oz.out; clear HB hb_; have HB := HB_; clear HB_)
  go_wp2_with fail
  (go_at_call 26; (with_reducible refine (at_c 2097156 2101252 8 (-1) _ rfl).mono ?_); rintro e_ w7 ⟨rfl, hb_⟩; have HB_ : Aside0 (Below w.heap.size w w7) := Aside0.mk (below_step (bG HB) hb_); have hzw7 := hb_.size; (try simp at hzw7); have oc_ := Aside0.mk (box_below hb_ (eG oc)); have oz_ := Aside0.mk (box_below hb_ (eG oz)); have r0_ := Aside0.mk (Kd.F_below (fG r0) hb_); clear r0; have r0 := r0_; clear r0_; have r3_ := Aside0.mk (Kd.F_below (fG r3) hb_); clear r3; have r3 := r3_; clear r3_; have r4_ := Aside0.mk (Kd.F_below (fG r4) hb_); clear r4; have r4 := r4_; clear r4_; (try clear oc occ ocf ocl); have oc := oc_; clear oc_; obtain ⟨occ, ocf, ocl⟩ := cells_of oc.out; (try clear oz ozc ozf ozl); have oz := oz_; clear oz_; obtain ⟨ozc, ozf, ozl⟩ := cells_of oz.out; clear HB hb_; have HB := HB_; clear HB_)
  have hcell := F_at r0.out 2 HIX.out
  rw [show ((2 : Nat) : Int) = 2 from rfl] at hcell
  (try rw [Nat.add_zero] at hcell)
  go_wp2
  (first | go_region | skip)
  all_goals go_wp2
  all_goals refine bodyPost_ret (v := .tuple #[.int .u64 (IntKind.u64.wrap (rd l0 2)), .agg #[.slice (some ⟨ab, ao, none⟩) l0.length c0, .int .i64 p, .int .i64 c, .slice A3 l3.length c3, .slice A4 l4.length c4], .bool true]) (by simp [results, Try.results11, go_sem, occ, ozc] <;> first | assumption | omega | (symm; assumption)) rfl ?_
  all_goals exact ⟨rfl, (bG HB)⟩
set_option maxHeartbeats 1600000 in
set_option maxRecDepth 100000 in
theorem load_pend (A0 : Option Addr) (c0 : Nat) (l0 : List Int) (p c : Int) (A3 : Option Addr) (c3 : Nat) (l3 : List Int) (A4 : Option Addr) (c4 : Nat) (l4 : List Int) (w : World) (hck : checkZ l0 p c l3 l4 = true) (hr0 : Kd.C (Kd.int .i64) w A0 l0.length l0) (hr3 : Kd.C (Kd.int .i64) w A3 l3.length l3) (hr4 : Kd.C (Kd.int .i64) w A4 l4.length l4) (hc0 : l0.length ≤ c0) (hc3 : l3.length ≤ c3) (hc4 : l4.length ≤ c4) :
    Calls Try.prog 11 #[.agg #[.slice A0 l0.length c0, .int .i64 p, .int .i64 c, .slice A3 l3.length c3, .slice A4 l4.length c4], .int .u64 4096, .int .i64 4] w fun e w' => e = .returned (.tuple #[.int .u64 (IntKind.u64.wrap p), .agg #[.slice A0 l0.length c0, .int .i64 p, .int .i64 c, .slice A3 l3.length c3, .slice A4 l4.length c4], .bool true]) ∧ Below w.heap.size w w' := by
  have HB := Aside0.mk (Below.refl w.heap.size w)
  have hmf : ∀ (fn : Fn) (first cap : Array Value) (w : World), (Instr.makeFunc fn first cap).run Try.prog w = .ok (.func fn first cap) w := fun _ _ _ _ => rfl
  have hu := Try.underlying24
  obtain ⟨hl0, hl3, hl4⟩ := check_lens hck
  have r0 := Aside0.mk (F_in hr0)
  have r3 := Aside0.mk (F_in hr3)
  have r4 := Aside0.mk (F_in hr4)
  have HK := Aside0.mk hck
  have HC0 := Aside0.mk hc0
  have HC3 := Aside0.mk hc3
  have HC4 := Aside0.mk hc4
  clear hr0 hr3 hr4 hck hc0 hc3 hc4 hl0 hl3 hl4
  go_enter Try.func11, Try.ntmps11
  go_wp2_with fail
  (go_at_call 7; (with_reducible refine (check_c true _ _ l0 p c _ _ l3 _ _ l4 _ HK.out (Kd.F_now (fG r0)) (Kd.F_now (fG r3)) (Kd.F_now (fG r4))).mono ?_); rintro e_ w1 ⟨rfl, hb_⟩; have HB_ : Aside0 (Below w.heap.size w w1) := Aside0.mk (below_step (bG HB) hb_); have hzw1 := hb_.size; (try simp at hzw1); have oc_ := Aside0.mk (box_below hb_ (by repeat (with_reducible first | exact nb_1 w _ | apply ext_drew | apply ext_drewN | apply ext_alloc | refine blk_far ?_ (by show _ ≠ _; dsimp only; omega) _))); have oz_ := Aside0.mk (box_below hb_ (by repeat (with_reducible first | exact nb_2 w _ _ | apply ext_drew | apply ext_drewN | apply ext_alloc | refine blk_far ?_ (by show _ ≠ _; dsimp only; omega) _))); have r0_ := Aside0.mk (Kd.F_below (fG r0) hb_); clear r0; have r0 := r0_; clear r0_; have r3_ := Aside0.mk (Kd.F_below (fG r3) hb_); clear r3; have r3 := r3_; clear r3_; have r4_ := Aside0.mk (Kd.F_below (fG r4) hb_); clear r4; have r4 := r4_; clear r4_; (try clear oc occ ocf ocl); have oc := oc_; clear oc_; obtain ⟨occ, ocf, ocl⟩ := cells_of oc.out; (try clear oz ozc ozf ozl); have oz := oz_; clear oz_; obtain ⟨ozc, ozf, ozl⟩ := cells_of oz.out; clear HB hb_; have HB := HB_; clear HB_)
  go_wp2_with fail
  (go_at_call 25; (with_reducible refine (enables_runs _).mono ?_); rintro e_ w2 ⟨rfl, hb_⟩; have HB_ : Aside0 (Below w.heap.size w w2) := Aside0.mk (below_step (bG HB) hb_); have hzw2 := hb_.size; (try simp at hzw2); have oc_ := Aside0.mk (box_below hb_ (eG oc)); have oz_ := Aside0.mk (box_below hb_ (eG oz)); have r0_ := Aside0.mk (Kd.F_below (fG r0) hb_); clear r0; have r0 := r0_; clear r0_; have r3_ := Aside0.mk (Kd.F_below (fG r3) hb_); clear r3; have r3 := r3_; clear r3_; have r4_ := Aside0.mk (Kd.F_below (fG r4) hb_); clear r4; have r4 := r4_; clear r4_; (try clear oc occ ocf ocl); have oc := oc_; clear oc_; obtain ⟨occ, ocf, ocl⟩ := cells_of oc.out; (try clear oz ozc ozf ozl); have oz := oz_; clear oz_; obtain ⟨ozc, ozf, ozl⟩ := cells_of oz.out; clear HB hb_; have HB := HB_; clear HB_)
  go_wp2_with fail
  (go_at_call 27; (with_reducible refine (thresholds_runs _).mono ?_); rintro e_ w3 ⟨rfl, hb_⟩; have HB_ : Aside0 (Below w.heap.size w w3) := Aside0.mk (below_step (bG HB) hb_); have hzw3 := hb_.size; (try simp at hzw3); have oc_ := Aside0.mk (box_below hb_ (eG oc)); have oz_ := Aside0.mk (box_below hb_ (eG oz)); have r0_ := Aside0.mk (Kd.F_below (fG r0) hb_); clear r0; have r0 := r0_; clear r0_; have r3_ := Aside0.mk (Kd.F_below (fG r3) hb_); clear r3; have r3 := r3_; clear r3_; have r4_ := Aside0.mk (Kd.F_below (fG r4) hb_); clear r4; have r4 := r4_; clear r4_; (try clear oc occ ocf ocl); have oc := oc_; clear oc_; obtain ⟨occ, ocf, ocl⟩ := cells_of oc.out; (try clear oz ozc ozf ozl); have oz := oz_; clear oz_; obtain ⟨ozc, ozf, ozl⟩ := cells_of oz.out; clear HB hb_; have HB := HB_; clear HB_)
  go_wp2_with fail
  (go_at_call 28; (with_reducible refine (claims_runs _).mono ?_); rintro e_ w4 ⟨rfl, hb_⟩; have HB_ : Aside0 (Below w.heap.size w w4) := Aside0.mk (below_step (bG HB) hb_); have hzw4 := hb_.size; (try simp at hzw4); have oc_ := Aside0.mk (box_below hb_ (eG oc)); have oz_ := Aside0.mk (box_below hb_ (eG oz)); have r0_ := Aside0.mk (Kd.F_below (fG r0) hb_); clear r0; have r0 := r0_; clear r0_; have r3_ := Aside0.mk (Kd.F_below (fG r3) hb_); clear r3; have r3 := r3_; clear r3_; have r4_ := Aside0.mk (Kd.F_below (fG r4) hb_); clear r4; have r4 := r4_; clear r4_; (try clear oc occ ocf ocl); have oc := oc_; clear oc_; obtain ⟨occ, ocf, ocl⟩ := cells_of oc.out; (try clear oz ozc ozf ozl); have oz := oz_; clear oz_; obtain ⟨ozc, ozf, ozl⟩ := cells_of oz.out; clear HB hb_; have HB := HB_; clear HB_)
  go_wp2_with fail
  (go_at_call 26; (with_reducible refine (at_c 8192 8320 4096 (-1) _ rfl).mono ?_); rintro e_ w5 ⟨rfl, hb_⟩; have HB_ : Aside0 (Below w.heap.size w w5) := Aside0.mk (below_step (bG HB) hb_); have hzw5 := hb_.size; (try simp at hzw5); have oc_ := Aside0.mk (box_below hb_ (eG oc)); have oz_ := Aside0.mk (box_below hb_ (eG oz)); have r0_ := Aside0.mk (Kd.F_below (fG r0) hb_); clear r0; have r0 := r0_; clear r0_; have r3_ := Aside0.mk (Kd.F_below (fG r3) hb_); clear r3; have r3 := r3_; clear r3_; have r4_ := Aside0.mk (Kd.F_below (fG r4) hb_); clear r4; have r4 := r4_; clear r4_; (try clear oc occ ocf ocl); have oc := oc_; clear oc_; obtain ⟨occ, ocf, ocl⟩ := cells_of oc.out; (try clear oz ozc ozf ozl); have oz := oz_; clear oz_; obtain ⟨ozc, ozf, ozl⟩ := cells_of oz.out; clear HB hb_; have HB := HB_; clear HB_)
  go_wp2_with fail
  (go_at_call 26; (with_reducible refine (at_c 2097152 2101248 4096 (-1) _ rfl).mono ?_); rintro e_ w6 ⟨rfl, hb_⟩; have HB_ : Aside0 (Below w.heap.size w w6) := Aside0.mk (below_step (bG HB) hb_); have hzw6 := hb_.size; (try simp at hzw6); have oc_ := Aside0.mk (box_below hb_ (eG oc)); have oz_ := Aside0.mk (box_below hb_ (eG oz)); have r0_ := Aside0.mk (Kd.F_below (fG r0) hb_); clear r0; have r0 := r0_; clear r0_; have r3_ := Aside0.mk (Kd.F_below (fG r3) hb_); clear r3; have r3 := r3_; clear r3_; have r4_ := Aside0.mk (Kd.F_below (fG r4) hb_); clear r4; have r4 := r4_; clear r4_; (try clear oc occ ocf ocl); have oc := oc_; clear oc_; obtain ⟨occ, ocf, ocl⟩ := cells_of oc.out; (try clear oz ozc ozf ozl); have oz := oz_; clear oz_; obtain ⟨ozc, ozf, ozl⟩ := cells_of oz.out; clear HB hb_; have HB := HB_; clear HB_)
  go_wp2_with fail
  (go_at_call 26; (with_reducible refine (at_c 2097156 2101252 4096 (-1) _ rfl).mono ?_); rintro e_ w7 ⟨rfl, hb_⟩; have HB_ : Aside0 (Below w.heap.size w w7) := Aside0.mk (below_step (bG HB) hb_); have hzw7 := hb_.size; (try simp at hzw7); have oc_ := Aside0.mk (box_below hb_ (eG oc)); have oz_ := Aside0.mk (box_below hb_ (eG oz)); have r0_ := Aside0.mk (Kd.F_below (fG r0) hb_); clear r0; have r0 := r0_; clear r0_; have r3_ := Aside0.mk (Kd.F_below (fG r3) hb_); clear r3; have r3 := r3_; clear r3_; have r4_ := Aside0.mk (Kd.F_below (fG r4) hb_); clear r4; have r4 := r4_; clear r4_; (try clear oc occ ocf ocl); have oc := oc_; clear oc_; obtain ⟨occ, ocf, ocl⟩ := cells_of oc.out; (try clear oz ozc ozf ozl); have oz := oz_; clear oz_; obtain ⟨ozc, ozf, ozl⟩ := cells_of oz.out; clear HB hb_; have HB := HB_; clear HB_)
  go_wp2
  (first | go_region | skip)
  all_goals go_wp2
  all_goals refine bodyPost_ret (v := .tuple #[.int .u64 (IntKind.u64.wrap p), .agg #[.slice A0 l0.length c0, .int .i64 p, .int .i64 c, .slice A3 l3.length c3, .slice A4 l4.length c4], .bool true]) (by simp [results, Try.results11, go_sem, occ, ozc] <;> first | assumption | omega | (symm; assumption)) rfl ?_
  all_goals exact ⟨rfl, (bG HB)⟩
set_option maxHeartbeats 1600000 in
set_option maxRecDepth 100000 in
theorem load_e0 (A0 : Option Addr) (c0 : Nat) (l0 : List Int) (p c : Int) (A3 : Option Addr) (c3 : Nat) (l3 : List Int) (A4 : Option Addr) (c4 : Nat) (l4 : List Int) (w : World) (hck : checkZ l0 p c l3 l4 = true) (hr0 : Kd.C (Kd.int .i64) w A0 l0.length l0) (hr3 : Kd.C (Kd.int .i64) w A3 l3.length l3) (hr4 : Kd.C (Kd.int .i64) w A4 l4.length l4) (hc0 : l0.length ≤ c0) (hc3 : l3.length ≤ c3) (hc4 : l4.length ≤ c4) :
    Calls Try.prog 11 #[.agg #[.slice A0 l0.length c0, .int .i64 p, .int .i64 c, .slice A3 l3.length c3, .slice A4 l4.length c4], .int .u64 8192, .int .i64 4] w fun e w' => e = .returned (.tuple #[.int .u64 (IntKind.u64.wrap (rd l3 0)), .agg #[.slice A0 l0.length c0, .int .i64 p, .int .i64 c, .slice A3 l3.length c3, .slice A4 l4.length c4], .bool true]) ∧ Below w.heap.size w w' := by
  have HB := Aside0.mk (Below.refl w.heap.size w)
  have hmf : ∀ (fn : Fn) (first cap : Array Value) (w : World), (Instr.makeFunc fn first cap).run Try.prog w = .ok (.func fn first cap) w := fun _ _ _ _ => rfl
  have hu := Try.underlying24
  obtain ⟨hl0, hl3, hl4⟩ := check_lens hck
  have r0 := Aside0.mk (F_in hr0)
  have r3 := Aside0.mk (F_in hr3)
  have r4 := Aside0.mk (F_in hr4)
  have HK := Aside0.mk hck
  have HC0 := Aside0.mk hc0
  have HC3 := Aside0.mk hc3
  have HC4 := Aside0.mk hc4
  obtain ⟨ab, ao, rfl, _⟩ := F_cell' r3.out (by omega)
  have hix : (0 : Int) < (l3.length : Int) := by omega
  have hixn : 0 < l3.length := by omega
  have HIX := Aside0.mk hixn
  clear hixn
  clear hr0 hr3 hr4 hck hc0 hc3 hc4 hl0 hl3 hl4
  go_enter Try.func11, Try.ntmps11
  go_wp2_with fail
  (go_at_call 7; (with_reducible refine (check_c true _ _ l0 p c _ _ l3 _ _ l4 _ HK.out (Kd.F_now (fG r0)) (Kd.F_now (fG r3)) (Kd.F_now (fG r4))).mono ?_); rintro e_ w1 ⟨rfl, hb_⟩; have HB_ : Aside0 (Below w.heap.size w w1) := Aside0.mk (below_step (bG HB) hb_); have hzw1 := hb_.size; (try simp at hzw1); have oc_ := Aside0.mk (box_below hb_ (by repeat (with_reducible first | exact nb_1 w _ | apply ext_drew | apply ext_drewN | apply ext_alloc | refine blk_far ?_ (by show _ ≠ _; dsimp only; omega) _))); have oz_ := Aside0.mk (box_below hb_ (by repeat (with_reducible first | exact nb_2 w _ _ | apply ext_drew | apply ext_drewN | apply ext_alloc | refine blk_far ?_ (by show _ ≠ _; dsimp only; omega) _))); have r0_ := Aside0.mk (Kd.F_below (fG r0) hb_); clear r0; have r0 := r0_; clear r0_; have r3_ := Aside0.mk (Kd.F_below (fG r3) hb_); clear r3; have r3 := r3_; clear r3_; have r4_ := Aside0.mk (Kd.F_below (fG r4) hb_); clear r4; have r4 := r4_; clear r4_; (try clear oc occ ocf ocl); have oc := oc_; clear oc_; obtain ⟨occ, ocf, ocl⟩ := cells_of oc.out; (try clear oz ozc ozf ozl); have oz := oz_; clear oz_; obtain ⟨ozc, ozf, ozl⟩ := cells_of oz.out; clear HB hb_; have HB := HB_; clear HB_)
  go_wp2_with fail
  (go_at_call 25; (with_reducible refine (enables_runs _).mono ?_); rintro e_ w2 ⟨rfl, hb_⟩; have HB_ : Aside0 (Below w.heap.size w w2) := Aside0.mk (below_step (bG HB) hb_); have hzw2 := hb_.size; (try simp at hzw2); have oc_ := Aside0.mk (box_below hb_ (eG oc)); have oz_ := Aside0.mk (box_below hb_ (eG oz)); have r0_ := Aside0.mk (Kd.F_below (fG r0) hb_); clear r0; have r0 := r0_; clear r0_; have r3_ := Aside0.mk (Kd.F_below (fG r3) hb_); clear r3; have r3 := r3_; clear r3_; have r4_ := Aside0.mk (Kd.F_below (fG r4) hb_); clear r4; have r4 := r4_; clear r4_; (try clear oc occ ocf ocl); have oc := oc_; clear oc_; obtain ⟨occ, ocf, ocl⟩ := cells_of oc.out; (try clear oz ozc ozf ozl); have oz := oz_; clear oz_; obtain ⟨ozc, ozf, ozl⟩ := cells_of oz.out; clear HB hb_; have HB := HB_; clear HB_)
  go_wp2_with fail
  (go_at_call 27; (with_reducible refine (thresholds_runs _).mono ?_); rintro e_ w3 ⟨rfl, hb_⟩; have HB_ : Aside0 (Below w.heap.size w w3) := Aside0.mk (below_step (bG HB) hb_); have hzw3 := hb_.size; (try simp at hzw3); have oc_ := Aside0.mk (box_below hb_ (eG oc)); have oz_ := Aside0.mk (box_below hb_ (eG oz)); have r0_ := Aside0.mk (Kd.F_below (fG r0) hb_); clear r0; have r0 := r0_; clear r0_; have r3_ := Aside0.mk (Kd.F_below (fG r3) hb_); clear r3; have r3 := r3_; clear r3_; have r4_ := Aside0.mk (Kd.F_below (fG r4) hb_); clear r4; have r4 := r4_; clear r4_; (try clear oc occ ocf ocl); have oc := oc_; clear oc_; obtain ⟨occ, ocf, ocl⟩ := cells_of oc.out; (try clear oz ozc ozf ozl); have oz := oz_; clear oz_; obtain ⟨ozc, ozf, ozl⟩ := cells_of oz.out; clear HB hb_; have HB := HB_; clear HB_)
  go_wp2_with fail
  (go_at_call 28; (with_reducible refine (claims_runs _).mono ?_); rintro e_ w4 ⟨rfl, hb_⟩; have HB_ : Aside0 (Below w.heap.size w w4) := Aside0.mk (below_step (bG HB) hb_); have hzw4 := hb_.size; (try simp at hzw4); have oc_ := Aside0.mk (box_below hb_ (eG oc)); have oz_ := Aside0.mk (box_below hb_ (eG oz)); have r0_ := Aside0.mk (Kd.F_below (fG r0) hb_); clear r0; have r0 := r0_; clear r0_; have r3_ := Aside0.mk (Kd.F_below (fG r3) hb_); clear r3; have r3 := r3_; clear r3_; have r4_ := Aside0.mk (Kd.F_below (fG r4) hb_); clear r4; have r4 := r4_; clear r4_; (try clear oc occ ocf ocl); have oc := oc_; clear oc_; obtain ⟨occ, ocf, ocl⟩ := cells_of oc.out; (try clear oz ozc ozf ozl); have oz := oz_; clear oz_; obtain ⟨ozc, ozf, ozl⟩ := cells_of oz.out; clear HB hb_; have HB := HB_; clear HB_)
  go_wp2_with fail
  (go_at_call 26; (with_reducible refine (at_c 8192 8320 8192 (0) _ rfl).mono ?_); rintro e_ w5 ⟨rfl, hb_⟩; have HB_ : Aside0 (Below w.heap.size w w5) := Aside0.mk (below_step (bG HB) hb_); have hzw5 := hb_.size; (try simp at hzw5); have oc_ := Aside0.mk (box_below hb_ (eG oc)); have oz_ := Aside0.mk (box_below hb_ (eG oz)); have r0_ := Aside0.mk (Kd.F_below (fG r0) hb_); clear r0; have r0 := r0_; clear r0_; have r3_ := Aside0.mk (Kd.F_below (fG r3) hb_); clear r3; have r3 := r3_; clear r3_; have r4_ := Aside0.mk (Kd.F_below (fG r4) hb_); clear r4; have r4 := r4_; clear r4_; (try clear oc occ ocf ocl); have oc := oc_; clear oc_; obtain ⟨occ, ocf, ocl⟩ := cells_of oc.out; (try clear oz ozc ozf ozl); have oz := oz_; clear oz_; obtain ⟨ozc, ozf, ozl⟩ := cells_of oz.out; clear HB hb_; have HB := HB_; clear HB_)
  go_wp2_with fail
  (go_at_call 26; (with_reducible refine (at_c 2097152 2101248 8192 (-1) _ rfl).mono ?_); rintro e_ w6 ⟨rfl, hb_⟩; have HB_ : Aside0 (Below w.heap.size w w6) := Aside0.mk (below_step (bG HB) hb_); have hzw6 := hb_.size; (try simp at hzw6); have oc_ := Aside0.mk (box_below hb_ (eG oc)); have oz_ := Aside0.mk (box_below hb_ (eG oz)); have r0_ := Aside0.mk (Kd.F_below (fG r0) hb_); clear r0; have r0 := r0_; clear r0_; have r3_ := Aside0.mk (Kd.F_below (fG r3) hb_); clear r3; have r3 := r3_; clear r3_; have r4_ := Aside0.mk (Kd.F_below (fG r4) hb_); clear r4; have r4 := r4_; clear r4_; (try clear oc occ ocf ocl); have oc := oc_; clear oc_; obtain ⟨occ, ocf, ocl⟩ := cells_of oc.out; (try clear oz ozc ozf ozl); have oz := oz_; clear oz_; obtain ⟨ozc, ozf, ozl⟩ := cells_of oz.out; clear HB hb_; have HB := HB_; clear HB_)
  go_wp2_with fail
  (go_at_call 26; (with_reducible refine (at_c 2097156 2101252 8192 (-1) _ rfl).mono ?_); rintro e_ w7 ⟨rfl, hb_⟩; have HB_ : Aside0 (Below w.heap.size w w7) := Aside0.mk (below_step (bG HB) hb_); have hzw7 := hb_.size; (try simp at hzw7); have oc_ := Aside0.mk (box_below hb_ (eG oc)); have oz_ := Aside0.mk (box_below hb_ (eG oz)); have r0_ := Aside0.mk (Kd.F_below (fG r0) hb_); clear r0; have r0 := r0_; clear r0_; have r3_ := Aside0.mk (Kd.F_below (fG r3) hb_); clear r3; have r3 := r3_; clear r3_; have r4_ := Aside0.mk (Kd.F_below (fG r4) hb_); clear r4; have r4 := r4_; clear r4_; (try clear oc occ ocf ocl); have oc := oc_; clear oc_; obtain ⟨occ, ocf, ocl⟩ := cells_of oc.out; (try clear oz ozc ozf ozl); have oz := oz_; clear oz_; obtain ⟨ozc, ozf, ozl⟩ := cells_of oz.out; clear HB hb_; have HB := HB_; clear HB_)
  have hcell := F_at r3.out 0 HIX.out
  rw [show ((0 : Nat) : Int) = 0 from rfl] at hcell
  (try rw [Nat.add_zero] at hcell)
  go_wp2
  (first | go_region | skip)
  all_goals go_wp2
  all_goals refine bodyPost_ret (v := .tuple #[.int .u64 (IntKind.u64.wrap (rd l3 0)), .agg #[.slice A0 l0.length c0, .int .i64 p, .int .i64 c, .slice (some ⟨ab, ao, none⟩) l3.length c3, .slice A4 l4.length c4], .bool true]) (by simp [results, Try.results11, go_sem, occ, ozc] <;> first | assumption | omega | (symm; assumption)) rfl ?_
  all_goals exact ⟨rfl, (bG HB)⟩
end Go.Proofs.Ytmlpnjoejdpblaa.Q
end
section
/- plic.Load, its walks registers, nothing. -/
namespace Go.Proofs.Ytmlpnjoejdpblaa.Q
open Go.RowKit Go.Proofs.YtmlpnjoejdpblaaW.PrintWords Go.Proofs.YtmlpnjoejdpblaaW.PrintLast Go.Proofs.YtmlpnjoejdpblaaW.PrintMore Go.Proofs.Ytmlpnjoejdpblaa.L
attribute [local go_sem] Instr.field part asAgg lt_step max2_int min2_int max_two min_two max_three min_three max_four min_four lt_0_1 lt_0_2 lt_1_2 lt_0_3 lt_1_3 lt_2_3 lt_0_4 lt_1_4 lt_2_4 lt_3_4 lt_0_5 lt_1_5 lt_2_5 lt_3_5 lt_4_5 lt_0_6 lt_1_6 lt_2_6 lt_3_6 lt_4_6 lt_5_6 lt_0_7 lt_1_7 lt_2_7 lt_3_7 lt_4_7 lt_5_7 lt_6_7 lt_0_8 lt_1_8 lt_2_8 lt_3_8 lt_4_8 lt_5_8 lt_6_8 lt_7_8
set_option linter.unusedVariables false
set_option linter.unusedSimpArgs false
attribute [local go_sem ↓] Go.wp_at_zero Go.wp_at_succ
set_option maxHeartbeats 1600000 in
set_option maxRecDepth 100000 in
theorem load_e1 (A0 : Option Addr) (c0 : Nat) (l0 : List Int) (p c : Int) (A3 : Option Addr) (c3 : Nat) (l3 : List Int) (A4 : Option Addr) (c4 : Nat) (l4 : List Int) (w : World) (hck : checkZ l0 p c l3 l4 = true) (hr0 : Kd.C (Kd.int .i64) w A0 l0.length l0) (hr3 : Kd.C (Kd.int .i64) w A3 l3.length l3) (hr4 : Kd.C (Kd.int .i64) w A4 l4.length l4) (hc0 : l0.length ≤ c0) (hc3 : l3.length ≤ c3) (hc4 : l4.length ≤ c4) :
    Calls Try.prog 11 #[.agg #[.slice A0 l0.length c0, .int .i64 p, .int .i64 c, .slice A3 l3.length c3, .slice A4 l4.length c4], .int .u64 8320, .int .i64 4] w fun e w' => e = .returned (.tuple #[.int .u64 (IntKind.u64.wrap (rd l3 1)), .agg #[.slice A0 l0.length c0, .int .i64 p, .int .i64 c, .slice A3 l3.length c3, .slice A4 l4.length c4], .bool true]) ∧ Below w.heap.size w w' := by
  have HB := Aside0.mk (Below.refl w.heap.size w)
  have hmf : ∀ (fn : Fn) (first cap : Array Value) (w : World), (Instr.makeFunc fn first cap).run Try.prog w = .ok (.func fn first cap) w := fun _ _ _ _ => rfl
  have hu := Try.underlying24
  obtain ⟨hl0, hl3, hl4⟩ := check_lens hck
  have r0 := Aside0.mk (F_in hr0)
  have r3 := Aside0.mk (F_in hr3)
  have r4 := Aside0.mk (F_in hr4)
  have HK := Aside0.mk hck
  have HC0 := Aside0.mk hc0
  have HC3 := Aside0.mk hc3
  have HC4 := Aside0.mk hc4
  obtain ⟨ab, ao, rfl, _⟩ := F_cell' r3.out (by omega)
  have hix : (1 : Int) < (l3.length : Int) := by omega
  have hixn : 1 < l3.length := by omega
  have HIX := Aside0.mk hixn
  clear hixn
  clear hr0 hr3 hr4 hck hc0 hc3 hc4 hl0 hl3 hl4
  go_enter Try.func11, Try.ntmps11
  go_wp2_with fail
  (go_at_call 7; (with_reducible refine (check_c true _ _ l0 p c _ _ l3 _ _ l4 _ HK.out (Kd.F_now (fG r0)) (Kd.F_now (fG r3)) (Kd.F_now (fG r4))).mono ?_); rintro e_ w1 ⟨rfl, hb_⟩; have HB_ : Aside0 (Below w.heap.size w w1) := Aside0.mk (below_step (bG HB) hb_); have hzw1 := hb_.size; (try simp at hzw1); have oc_ := Aside0.mk (box_below hb_ (by repeat (with_reducible first | exact nb_1 w _ | apply ext_drew | apply ext_drewN | apply ext_alloc | refine blk_far ?_ (by show _ ≠ _; dsimp only; omega) _))); have oz_ := Aside0.mk (box_below hb_ (by repeat (with_reducible first | exact nb_2 w _ _ | apply ext_drew | apply ext_drewN | apply ext_alloc | refine blk_far ?_ (by show _ ≠ _; dsimp only; omega) _))); have r0_ := Aside0.mk (Kd.F_below (fG r0) hb_); clear r0; have r0 := r0_; clear r0_; have r3_ := Aside0.mk (Kd.F_below (fG r3) hb_); clear r3; have r3 := r3_; clear r3_; have r4_ := Aside0.mk (Kd.F_below (fG r4) hb_); clear r4; have r4 := r4_; clear r4_; (try clear oc occ ocf ocl); have oc := oc_; clear oc_; obtain ⟨occ, ocf, ocl⟩ := cells_of oc.out; (try clear oz ozc ozf ozl); have oz := oz_; clear oz_; obtain ⟨ozc, ozf, ozl⟩ := cells_of oz.out; clear HB hb_; have HB := HB_; clear HB_)
  go_wp2_with fail
  (go_at_call 25; (with_reducible refine (enables_runs _).mono ?_); rintro e_ w2 ⟨rfl, hb_⟩; have HB_ : Aside0 (Below w.heap.size w w2) := Aside0.mk (below_step (bG HB) hb_); have hzw2 := hb_.size; (try simp at hzw2); have oc_ := Aside0.mk (box_below hb_ (eG oc)); have oz_ := Aside0.mk (box_below hb_ (eG oz)); have r0_ := Aside0.mk (Kd.F_below (fG r0) hb_); clear r0; have r0 := r0_; clear r0_; have r3_ := Aside0.mk (Kd.F_below (fG r3) hb_); clear r3; have r3 := r3_; clear r3_; have r4_ := Aside0.mk (Kd.F_below (fG r4) hb_); clear r4; have r4 := r4_; clear r4_; (try clear oc occ ocf ocl); have oc := oc_; clear oc_; obtain ⟨occ, ocf, ocl⟩ := cells_of oc.out; (try clear oz ozc ozf ozl); have oz := oz_; clear oz_; obtain ⟨ozc, ozf, ozl⟩ := cells_of oz.out; clear HB hb_; have HB := HB_; clear HB_)
  go_wp2_with fail
  (go_at_call 27; (with_reducible refine (thresholds_runs _).mono ?_); rintro e_ w3 ⟨rfl, hb_⟩; have HB_ : Aside0 (Below w.heap.size w w3) := Aside0.mk (below_step (bG HB) hb_); have hzw3 := hb_.size; (try simp at hzw3); have oc_ := Aside0.mk (box_below hb_ (eG oc)); have oz_ := Aside0.mk (box_below hb_ (eG oz)); have r0_ := Aside0.mk (Kd.F_below (fG r0) hb_); clear r0; have r0 := r0_; clear r0_; have r3_ := Aside0.mk (Kd.F_below (fG r3) hb_); clear r3; have r3 := r3_; clear r3_; have r4_ := Aside0.mk (Kd.F_below (fG r4) hb_); clear r4; have r4 := r4_; clear r4_; (try clear oc occ ocf ocl); have oc := oc_; clear oc_; obtain ⟨occ, ocf, ocl⟩ := cells_of oc.out; (try clear oz ozc ozf ozl); have oz := oz_; clear oz_; obtain ⟨ozc, ozf, ozl⟩ := cells_of oz.out; clear HB hb_; have HB := HB_; clear HB_)
  go_wp2_with fail
  (go_at_call 28; (with_reducible refine (claims_runs _).mono ?_); rintro e_ w4 ⟨rfl, hb_⟩; have HB_ : Aside0 (Below w.heap.size w w4) := Aside0.mk (below_step (bG HB) hb_); have hzw4 := hb_.size; (try simp at hzw4); have oc_ := Aside0.mk (box_below hb_ (eG oc)); have oz_ := Aside0.mk (box_below hb_ (eG oz)); have r0_ := Aside0.mk (Kd.F_below (fG r0) hb_); clear r0; have r0 := r0_; clear r0_; have r3_ := Aside0.mk (Kd.F_below (fG r3) hb_); clear r3; have r3 := r3_; clear r3_; have r4_ := Aside0.mk (Kd.F_below (fG r4) hb_); clear r4; have r4 := r4_; clear r4_; (try clear oc occ ocf ocl); have oc := oc_; clear oc_; obtain ⟨occ, ocf, ocl⟩ := cells_of oc.out; (try clear oz ozc ozf ozl); have oz := oz_; clear oz_; obtain ⟨ozc, ozf, ozl⟩ := cells_of oz.out; clear HB hb_; have HB := HB_; clear HB_)
  go_wp2_with fail
  (go_at_call 26; (with_reducible refine (at_c 8192 8320 8320 (1) _ rfl).mono ?_); rintro e_ w5 ⟨rfl, hb_⟩; have HB_ : Aside0 (Below w.heap.size w w5) := Aside0.mk (below_step (bG HB) hb_); have hzw5 := hb_.size; (try simp at hzw5); have oc_ := Aside0.mk (box_below hb_ (eG oc)); have oz_ := Aside0.mk (box_below hb_ (eG oz)); have r0_ := Aside0.mk (Kd.F_below (fG r0) hb_); clear r0; have r0 := r0_; clear r0_; have r3_ := Aside0.mk (Kd.F_below (fG r3) hb_); clear r3; have r3 := r3_; clear r3_; have r4_ := Aside0.mk (Kd.F_below (fG r4) hb_); clear r4; have r4 := r4_; clear r4_; (try clear oc occ ocf ocl); have oc := oc_; clear oc_; obtain ⟨occ, ocf, ocl⟩ := cells_of oc.out; (try clear oz ozc ozf ozl); have oz := oz_; clear oz_; obtain ⟨ozc, ozf, ozl⟩ := cells_of oz.out; clear HB hb_; have HB := HB_; clear HB_)
  go_wp2_with fail
  (go_at_call 26; (with_reducible refine (at_c 2097152 2101248 8320 (-1) _ rfl).mono ?_); rintro e_ w6 ⟨rfl, hb_⟩; have HB_ : Aside0 (Below w.heap.size w w6) := Aside0.mk (below_step (bG HB) hb_); have hzw6 := hb_.size; (try simp at hzw6); have oc_ := Aside0.mk (box_below hb_ (eG oc)); have oz_ := Aside0.mk (box_below hb_ (eG oz)); have r0_ := Aside0.mk (Kd.F_below (fG r0) hb_); clear r0; have r0 := r0_; clear r0_; have r3_ := Aside0.mk (Kd.F_below (fG r3) hb_); clear r3; have r3 := r3_; clear r3_; have r4_ := Aside0.mk (Kd.F_below (fG r4) hb_); clear r4; have r4 := r4_; clear r4_; (try clear oc occ ocf ocl); have oc := oc_; clear oc_; obtain ⟨occ, ocf, ocl⟩ := cells_of oc.out; (try clear oz ozc ozf ozl); have oz := oz_; clear oz_; obtain ⟨ozc, ozf, ozl⟩ := cells_of oz.out; clear HB hb_; have HB := HB_; clear HB_)
  go_wp2_with fail
  (go_at_call 26; (with_reducible refine (at_c 2097156 2101252 8320 (-1) _ rfl).mono ?_); rintro e_ w7 ⟨rfl, hb_⟩; have HB_ : Aside0 (Below w.heap.size w w7) := Aside0.mk (below_step (bG HB) hb_); have hzw7 := hb_.size; (try simp at hzw7); have oc_ := Aside0.mk (box_below hb_ (eG oc)); have oz_ := Aside0.mk (box_below hb_ (eG oz)); have r0_ := Aside0.mk (Kd.F_below (fG r0) hb_); clear r0; have r0 := r0_; clear r0_; have r3_ := Aside0.mk (Kd.F_below (fG r3) hb_); clear r3; have r3 := r3_; clear r3_; have r4_ := Aside0.mk (Kd.F_below (fG r4) hb_); clear r4; have r4 := r4_; clear r4_; (try clear oc occ ocf ocl); have oc := oc_; clear oc_; obtain ⟨occ, ocf, ocl⟩ := cells_of oc.out; (try clear oz ozc ozf ozl); have oz := oz_; clear oz_; obtain ⟨ozc, ozf, ozl⟩ := cells_of oz.out; clear HB hb_; have HB := HB_; clear HB_)
  have hcell := F_at r3.out 1 HIX.out
  rw [show ((1 : Nat) : Int) = 1 from rfl] at hcell
  (try rw [Nat.add_zero] at hcell)
  go_wp2
  (first | go_region | skip)
  all_goals go_wp2
  all_goals refine bodyPost_ret (v := .tuple #[.int .u64 (IntKind.u64.wrap (rd l3 1)), .agg #[.slice A0 l0.length c0, .int .i64 p, .int .i64 c, .slice (some ⟨ab, ao, none⟩) l3.length c3, .slice A4 l4.length c4], .bool true]) (by simp [results, Try.results11, go_sem, occ, ozc] <;> first | assumption | omega | (symm; assumption)) rfl ?_
  all_goals exact ⟨rfl, (bG HB)⟩
set_option maxHeartbeats 1600000 in
set_option maxRecDepth 100000 in
theorem load_t0 (A0 : Option Addr) (c0 : Nat) (l0 : List Int) (p c : Int) (A3 : Option Addr) (c3 : Nat) (l3 : List Int) (A4 : Option Addr) (c4 : Nat) (l4 : List Int) (w : World) (hck : checkZ l0 p c l3 l4 = true) (hr0 : Kd.C (Kd.int .i64) w A0 l0.length l0) (hr3 : Kd.C (Kd.int .i64) w A3 l3.length l3) (hr4 : Kd.C (Kd.int .i64) w A4 l4.length l4) (hc0 : l0.length ≤ c0) (hc3 : l3.length ≤ c3) (hc4 : l4.length ≤ c4) :
    Calls Try.prog 11 #[.agg #[.slice A0 l0.length c0, .int .i64 p, .int .i64 c, .slice A3 l3.length c3, .slice A4 l4.length c4], .int .u64 2097152, .int .i64 4] w fun e w' => e = .returned (.tuple #[.int .u64 (IntKind.u64.wrap (rd l4 0)), .agg #[.slice A0 l0.length c0, .int .i64 p, .int .i64 c, .slice A3 l3.length c3, .slice A4 l4.length c4], .bool true]) ∧ Below w.heap.size w w' := by
  have HB := Aside0.mk (Below.refl w.heap.size w)
  have hmf : ∀ (fn : Fn) (first cap : Array Value) (w : World), (Instr.makeFunc fn first cap).run Try.prog w = .ok (.func fn first cap) w := fun _ _ _ _ => rfl
  have hu := Try.underlying24
  obtain ⟨hl0, hl3, hl4⟩ := check_lens hck
  have r0 := Aside0.mk (F_in hr0)
  have r3 := Aside0.mk (F_in hr3)
  have r4 := Aside0.mk (F_in hr4)
  have HK := Aside0.mk hck
  have HC0 := Aside0.mk hc0
  have HC3 := Aside0.mk hc3
  have HC4 := Aside0.mk hc4
  obtain ⟨ab, ao, rfl, _⟩ := F_cell' r4.out (by omega)
  have hix : (0 : Int) < (l4.length : Int) := by omega
  have hixn : 0 < l4.length := by omega
  have HIX := Aside0.mk hixn
  clear hixn
  clear hr0 hr3 hr4 hck hc0 hc3 hc4 hl0 hl3 hl4
  go_enter Try.func11, Try.ntmps11
  go_wp2_with fail
  (go_at_call 7; (with_reducible refine (check_c true _ _ l0 p c _ _ l3 _ _ l4 _ HK.out (Kd.F_now (fG r0)) (Kd.F_now (fG r3)) (Kd.F_now (fG r4))).mono ?_); rintro e_ w1 ⟨rfl, hb_⟩; have HB_ : Aside0 (Below w.heap.size w w1) := Aside0.mk (below_step (bG HB) hb_); have hzw1 := hb_.size; (try simp at hzw1); have oc_ := Aside0.mk (box_below hb_ (by repeat (with_reducible first | exact nb_1 w _ | apply ext_drew | apply ext_drewN | apply ext_alloc | refine blk_far ?_ (by show _ ≠ _; dsimp only; omega) _))); have oz_ := Aside0.mk (box_below hb_ (by repeat (with_reducible first | exact nb_2 w _ _ | apply ext_drew | apply ext_drewN | apply ext_alloc | refine blk_far ?_ (by show _ ≠ _; dsimp only; omega) _))); have r0_ := Aside0.mk (Kd.F_below (fG r0) hb_); clear r0; have r0 := r0_; clear r0_; have r3_ := Aside0.mk (Kd.F_below (fG r3) hb_); clear r3; have r3 := r3_; clear r3_; have r4_ := Aside0.mk (Kd.F_below (fG r4) hb_); clear r4; have r4 := r4_; clear r4_; (try clear oc occ ocf ocl); have oc := oc_; clear oc_; obtain ⟨occ, ocf, ocl⟩ := cells_of oc.out; (try clear oz ozc ozf ozl); have oz := oz_; clear oz_; obtain ⟨ozc, ozf, ozl⟩ := cells_of oz.out; clear HB hb_; have HB := HB_; clear HB_)
  go_wp2_with fail
  (go_at_call 25; (with_reducible refine (enables_runs _).mono ?_); rintro e_ w2 ⟨rfl, hb_⟩; have HB_ : Aside0 (Below w.heap.size w w2) := Aside0.mk (below_step (bG HB) hb_); have hzw2 := hb_.size; (try simp at hzw2); have oc_ := Aside0.mk (box_below hb_ (eG oc)); have oz_ := Aside0.mk (box_below hb_ (eG oz)); have r0_ := Aside0.mk (Kd.F_below (fG r0) hb_); clear r0; have r0 := r0_; clear r0_; have r3_ := Aside0.mk (Kd.F_below (fG r3) hb_); clear r3; have r3 := r3_; clear r3_; have r4_ := Aside0.mk (Kd.F_below (fG r4) hb_); clear r4; have r4 := r4_; clear r4_; (try clear oc occ ocf ocl); have oc := oc_; clear oc_; obtain ⟨occ, ocf, ocl⟩ := cells_of oc.out; (try clear oz ozc ozf ozl); have oz := oz_; clear oz_; obtain ⟨ozc, ozf, ozl⟩ := cells_of oz.out; clear HB hb_; have HB := HB_; clear HB_)
  go_wp2_with fail
  (go_at_call 27; (with_reducible refine (thresholds_runs _).mono ?_); rintro e_ w3 ⟨rfl, hb_⟩; have HB_ : Aside0 (Below w.heap.size w w3) := Aside0.mk (below_step (bG HB) hb_); have hzw3 := hb_.size; (try simp at hzw3); have oc_ := Aside0.mk (box_below hb_ (eG oc)); have oz_ := Aside0.mk (box_below hb_ (eG oz)); have r0_ := Aside0.mk (Kd.F_below (fG r0) hb_); clear r0; have r0 := r0_; clear r0_; have r3_ := Aside0.mk (Kd.F_below (fG r3) hb_); clear r3; have r3 := r3_; clear r3_; have r4_ := Aside0.mk (Kd.F_below (fG r4) hb_); clear r4; have r4 := r4_; clear r4_; (try clear oc occ ocf ocl); have oc := oc_; clear oc_; obtain ⟨occ, ocf, ocl⟩ := cells_of oc.out; (try clear oz ozc ozf ozl); have oz := oz_; clear oz_; obtain ⟨ozc, ozf, ozl⟩ := cells_of oz.out; clear HB hb_; have HB := HB_; clear HB_)
  go_wp2_with fail
  (go_at_call 28; (with_reducible refine (claims_runs _).mono ?_); rintro e_ w4 ⟨rfl, hb_⟩; have HB_ : Aside0 (Below w.heap.size w w4) := Aside0.mk (below_step (bG HB) hb_); have hzw4 := hb_.size; (try simp at hzw4); have oc_ := Aside0.mk (box_below hb_ (eG oc)); have oz_ := Aside0.mk (box_below hb_ (eG oz)); have r0_ := Aside0.mk (Kd.F_below (fG r0) hb_); clear r0; have r0 := r0_; clear r0_; have r3_ := Aside0.mk (Kd.F_below (fG r3) hb_); clear r3; have r3 := r3_; clear r3_; have r4_ := Aside0.mk (Kd.F_below (fG r4) hb_); clear r4; have r4 := r4_; clear r4_; (try clear oc occ ocf ocl); have oc := oc_; clear oc_; obtain ⟨occ, ocf, ocl⟩ := cells_of oc.out; (try clear oz ozc ozf ozl); have oz := oz_; clear oz_; obtain ⟨ozc, ozf, ozl⟩ := cells_of oz.out; clear HB hb_; have HB := HB_; clear HB_)
  go_wp2_with fail
  (go_at_call 26; (with_reducible refine (at_c 8192 8320 2097152 (-1) _ rfl).mono ?_); rintro e_ w5 ⟨rfl, hb_⟩; have HB_ : Aside0 (Below w.heap.size w w5) := Aside0.mk (below_step (bG HB) hb_); have hzw5 := hb_.size; (try simp at hzw5); have oc_ := Aside0.mk (box_below hb_ (eG oc)); have oz_ := Aside0.mk (box_below hb_ (eG oz)); have r0_ := Aside0.mk (Kd.F_below (fG r0) hb_); clear r0; have r0 := r0_; clear r0_; have r3_ := Aside0.mk (Kd.F_below (fG r3) hb_); clear r3; have r3 := r3_; clear r3_; have r4_ := Aside0.mk (Kd.F_below (fG r4) hb_); clear r4; have r4 := r4_; clear r4_; (try clear oc occ ocf ocl); have oc := oc_; clear oc_; obtain ⟨occ, ocf, ocl⟩ := cells_of oc.out; (try clear oz ozc ozf ozl); have oz := oz_; clear oz_; obtain ⟨ozc, ozf, ozl⟩ := cells_of oz.out; clear HB hb_; have HB := HB_; clear HB_)
  go_wp2_with fail
  (go_at_call 26; (with_reducible refine (at_c 2097152 2101248 2097152 (0) _ rfl).mono ?_); rintro e_ w6 ⟨rfl, hb_⟩; have HB_ : Aside0 (Below w.heap.size w w6) := Aside0.mk (below_step (bG HB) hb_); have hzw6 := hb_.size; (try simp at hzw6); have oc_ := Aside0.mk (box_below hb_ (eG oc)); have oz_ := Aside0.mk (box_below hb_ (eG oz)); have r0_ := Aside0.mk (Kd.F_below (fG r0) hb_); clear r0; have r0 := r0_; clear r0_; have r3_ := Aside0.mk (Kd.F_below (fG r3) hb_); clear r3; have r3 := r3_; clear r3_; have r4_ := Aside0.mk (Kd.F_below (fG r4) hb_); clear r4; have r4 := r4_; clear r4_; (try clear oc occ ocf ocl); have oc := oc_; clear oc_; obtain ⟨occ, ocf, ocl⟩ := cells_of oc.out; (try clear oz ozc ozf ozl); have oz := oz_; clear oz_; obtain ⟨ozc, ozf, ozl⟩ := cells_of oz.out; clear HB hb_; have HB := HB_; clear HB_)
  go_wp2_with fail
  (go_at_call 26; (with_reducible refine (at_c 2097156 2101252 2097152 (-1) _ rfl).mono ?_); rintro e_ w7 ⟨rfl, hb_⟩; have HB_ : Aside0 (Below w.heap.size w w7) := Aside0.mk (below_step (bG HB) hb_); have hzw7 := hb_.size; (try simp at hzw7); have oc_ := Aside0.mk (box_below hb_ (eG oc)); have oz_ := Aside0.mk (box_below hb_ (eG oz)); have r0_ := Aside0.mk (Kd.F_below (fG r0) hb_); clear r0; have r0 := r0_; clear r0_; have r3_ := Aside0.mk (Kd.F_below (fG r3) hb_); clear r3; have r3 := r3_; clear r3_; have r4_ := Aside0.mk (Kd.F_below (fG r4) hb_); clear r4; have r4 := r4_; clear r4_; (try clear oc occ ocf ocl); have oc := oc_; clear oc_; obtain ⟨occ, ocf, ocl⟩ := cells_of oc.out; (try clear oz ozc ozf ozl); have oz := oz_; clear oz_; obtain ⟨ozc, ozf, ozl⟩ := cells_of oz.out; clear HB hb_; have HB := HB_; clear HB_)
  have hcell := F_at r4.out 0 HIX.out
  rw [show ((0 : Nat) : Int) = 0 from rfl] at hcell
  (try rw [Nat.add_zero] at hcell)
  go_wp2
  (first | go_region | skip)
  all_goals go_wp2
  all_goals refine bodyPost_ret (v := .tuple #[.int .u64 (IntKind.u64.wrap (rd l4 0)), .agg #[.slice A0 l0.length c0, .int .i64 p, .int .i64 c, .slice A3 l3.length c3, .slice (some ⟨ab, ao, none⟩) l4.length c4], .bool true]) (by simp [results, Try.results11, go_sem, occ, ozc] <;> first | assumption | omega | (symm; assumption)) rfl ?_
  all_goals exact ⟨rfl, (bG HB)⟩
set_option maxHeartbeats 1600000 in
set_option maxRecDepth 100000 in
theorem load_t1 (A0 : Option Addr) (c0 : Nat) (l0 : List Int) (p c : Int) (A3 : Option Addr) (c3 : Nat) (l3 : List Int) (A4 : Option Addr) (c4 : Nat) (l4 : List Int) (w : World) (hck : checkZ l0 p c l3 l4 = true) (hr0 : Kd.C (Kd.int .i64) w A0 l0.length l0) (hr3 : Kd.C (Kd.int .i64) w A3 l3.length l3) (hr4 : Kd.C (Kd.int .i64) w A4 l4.length l4) (hc0 : l0.length ≤ c0) (hc3 : l3.length ≤ c3) (hc4 : l4.length ≤ c4) :
    Calls Try.prog 11 #[.agg #[.slice A0 l0.length c0, .int .i64 p, .int .i64 c, .slice A3 l3.length c3, .slice A4 l4.length c4], .int .u64 2101248, .int .i64 4] w fun e w' => e = .returned (.tuple #[.int .u64 (IntKind.u64.wrap (rd l4 1)), .agg #[.slice A0 l0.length c0, .int .i64 p, .int .i64 c, .slice A3 l3.length c3, .slice A4 l4.length c4], .bool true]) ∧ Below w.heap.size w w' := by
  have HB := Aside0.mk (Below.refl w.heap.size w)
  have hmf : ∀ (fn : Fn) (first cap : Array Value) (w : World), (Instr.makeFunc fn first cap).run Try.prog w = .ok (.func fn first cap) w := fun _ _ _ _ => rfl
  have hu := Try.underlying24
  obtain ⟨hl0, hl3, hl4⟩ := check_lens hck
  have r0 := Aside0.mk (F_in hr0)
  have r3 := Aside0.mk (F_in hr3)
  have r4 := Aside0.mk (F_in hr4)
  have HK := Aside0.mk hck
  have HC0 := Aside0.mk hc0
  have HC3 := Aside0.mk hc3
  have HC4 := Aside0.mk hc4
  obtain ⟨ab, ao, rfl, _⟩ := F_cell' r4.out (by omega)
  have hix : (1 : Int) < (l4.length : Int) := by omega
  have hixn : 1 < l4.length := by omega
  have HIX := Aside0.mk hixn
  clear hixn
  clear hr0 hr3 hr4 hck hc0 hc3 hc4 hl0 hl3 hl4
  go_enter Try.func11, Try.ntmps11
  go_wp2_with fail
  (go_at_call 7; (with_reducible refine (check_c true _ _ l0 p c _ _ l3 _ _ l4 _ HK.out (Kd.F_now (fG r0)) (Kd.F_now (fG r3)) (Kd.F_now (fG r4))).mono ?_); rintro e_ w1 ⟨rfl, hb_⟩; have HB_ : Aside0 (Below w.heap.size w w1) := Aside0.mk (below_step (bG HB) hb_); have hzw1 := hb_.size; (try simp at hzw1); have oc_ := Aside0.mk (box_below hb_ (by repeat (with_reducible first | exact nb_1 w _ | apply ext_drew | apply ext_drewN | apply ext_alloc | refine blk_far ?_ (by show _ ≠ _; dsimp only; omega) _))); have oz_ := Aside0.mk (box_below hb_ (by repeat (with_reducible first | exact nb_2 w _ _ | apply ext_drew | apply ext_drewN | apply ext_alloc | refine blk_far ?_ (by show _ ≠ _; dsimp only; omega) _))); have r0_ := Aside0.mk (Kd.F_below (fG r0) hb_); clear r0; have r0 := r0_; clear r0_; have r3_ := Aside0.mk (Kd.F_below (fG r3) hb_); clear r3; have r3 := r3_; clear r3_; have r4_ := Aside0.mk (Kd.F_below (fG r4) hb_); clear r4; have r4 := r4_; clear r4_; (try clear oc occ ocf ocl); have oc := oc_; clear oc_; obtain ⟨occ, ocf, ocl⟩ := cells_of oc.out; (try clear oz ozc ozf ozl); have oz := oz_; clear oz_; obtain ⟨ozc, ozf, ozl⟩ := cells_of oz.out; clear HB hb_; have HB := HB_; clear HB_)
  go_wp2_with fail
  (go_at_call 25; (with_reducible refine (enables_runs _).mono ?_); rintro e_ w2 ⟨rfl, hb_⟩; have HB_ : Aside0 (Below w.heap.size w w2) := Aside0.mk (below_step (bG HB) hb_); have hzw2 := hb_.size; (try simp at hzw2); have oc_ := Aside0.mk (box_below hb_ (eG oc)); have oz_ := Aside0.mk (box_below hb_ (eG oz)); have r0_ := Aside0.mk (Kd.F_below (fG r0) hb_); clear r0; have r0 := r0_; clear r0_; have r3_ := Aside0.mk (Kd.F_below (fG r3) hb_); clear r3; have r3 := r3_; clear r3_; have r4_ := Aside0.mk (Kd.F_below (fG r4) hb_); clear r4; have r4 := r4_; clear r4_; (try clear oc occ ocf ocl); have oc := oc_; clear oc_; obtain ⟨occ, ocf, ocl⟩ := cells_of oc.out; (try clear oz ozc ozf ozl); have oz := oz_; clear oz_; obtain ⟨ozc, ozf, ozl⟩ := cells_of oz.out; clear HB hb_; have HB := HB_; clear HB_)
  go_wp2_with fail
  (go_at_call 27; (with_reducible refine (thresholds_runs _).mono ?_); rintro e_ w3 ⟨rfl, hb_⟩; have HB_ : Aside0 (Below w.heap.size w w3) := Aside0.mk (below_step (bG HB) hb_); have hzw3 := hb_.size; (try simp at hzw3); have oc_ := Aside0.mk (box_below hb_ (eG oc)); have oz_ := Aside0.mk (box_below hb_ (eG oz)); have r0_ := Aside0.mk (Kd.F_below (fG r0) hb_); clear r0; have r0 := r0_; clear r0_; have r3_ := Aside0.mk (Kd.F_below (fG r3) hb_); clear r3; have r3 := r3_; clear r3_; have r4_ := Aside0.mk (Kd.F_below (fG r4) hb_); clear r4; have r4 := r4_; clear r4_; (try clear oc occ ocf ocl); have oc := oc_; clear oc_; obtain ⟨occ, ocf, ocl⟩ := cells_of oc.out; (try clear oz ozc ozf ozl); have oz := oz_; clear oz_; obtain ⟨ozc, ozf, ozl⟩ := cells_of oz.out; clear HB hb_; have HB := HB_; clear HB_)
  go_wp2_with fail
  (go_at_call 28; (with_reducible refine (claims_runs _).mono ?_); rintro e_ w4 ⟨rfl, hb_⟩; have HB_ : Aside0 (Below w.heap.size w w4) := Aside0.mk (below_step (bG HB) hb_); have hzw4 := hb_.size; (try simp at hzw4); have oc_ := Aside0.mk (box_below hb_ (eG oc)); have oz_ := Aside0.mk (box_below hb_ (eG oz)); have r0_ := Aside0.mk (Kd.F_below (fG r0) hb_); clear r0; have r0 := r0_; clear r0_; have r3_ := Aside0.mk (Kd.F_below (fG r3) hb_); clear r3; have r3 := r3_; clear r3_; have r4_ := Aside0.mk (Kd.F_below (fG r4) hb_); clear r4; have r4 := r4_; clear r4_; (try clear oc occ ocf ocl); have oc := oc_; clear oc_; obtain ⟨occ, ocf, ocl⟩ := cells_of oc.out; (try clear oz ozc ozf ozl); have oz := oz_; clear oz_; obtain ⟨ozc, ozf, ozl⟩ := cells_of oz.out; clear HB hb_; have HB := HB_; clear HB_)
  go_wp2_with fail
  (go_at_call 26; (with_reducible refine (at_c 8192 8320 2101248 (-1) _ rfl).mono ?_); rintro e_ w5 ⟨rfl, hb_⟩; have HB_ : Aside0 (Below w.heap.size w w5) := Aside0.mk (below_step (bG HB) hb_); have hzw5 := hb_.size; (try simp at hzw5); have oc_ := Aside0.mk (box_below hb_ (eG oc)); have oz_ := Aside0.mk (box_below hb_ (eG oz)); have r0_ := Aside0.mk (Kd.F_below (fG r0) hb_); clear r0; have r0 := r0_; clear r0_; have r3_ := Aside0.mk (Kd.F_below (fG r3) hb_); clear r3; have r3 := r3_; clear r3_; have r4_ := Aside0.mk (Kd.F_below (fG r4) hb_); clear r4; have r4 := r4_; clear r4_; (try clear oc occ ocf ocl); have oc := oc_; clear oc_; obtain ⟨occ, ocf, ocl⟩ := cells_of oc.out; (try clear oz ozc ozf ozl); have oz := oz_; clear oz_; obtain ⟨ozc, ozf, ozl⟩ := cells_of oz.out; clear HB hb_; have HB := HB_; clear HB_)
  go_wp2_with fail
  (go_at_call 26; (with_reducible refine (at_c 2097152 2101248 2101248 (1) _ rfl).mono ?_); rintro e_ w6 ⟨rfl, hb_⟩; have HB_ : Aside0 (Below w.heap.size w w6) := Aside0.mk (below_step (bG HB) hb_); have hzw6 := hb_.size; (try simp at hzw6); have oc_ := Aside0.mk (box_below hb_ (eG oc)); have oz_ := Aside0.mk (box_below hb_ (eG oz)); have r0_ := Aside0.mk (Kd.F_below (fG r0) hb_); clear r0; have r0 := r0_; clear r0_; have r3_ := Aside0.mk (Kd.F_below (fG r3) hb_); clear r3; have r3 := r3_; clear r3_; have r4_ := Aside0.mk (Kd.F_below (fG r4) hb_); clear r4; have r4 := r4_; clear r4_; (try clear oc occ ocf ocl); have oc := oc_; clear oc_; obtain ⟨occ, ocf, ocl⟩ := cells_of oc.out; (try clear oz ozc ozf ozl); have oz := oz_; clear oz_; obtain ⟨ozc, ozf, ozl⟩ := cells_of oz.out; clear HB hb_; have HB := HB_; clear HB_)
  go_wp2_with fail
  (go_at_call 26; (with_reducible refine (at_c 2097156 2101252 2101248 (-1) _ rfl).mono ?_); rintro e_ w7 ⟨rfl, hb_⟩; have HB_ : Aside0 (Below w.heap.size w w7) := Aside0.mk (below_step (bG HB) hb_); have hzw7 := hb_.size; (try simp at hzw7); have oc_ := Aside0.mk (box_below hb_ (eG oc)); have oz_ := Aside0.mk (box_below hb_ (eG oz)); have r0_ := Aside0.mk (Kd.F_below (fG r0) hb_); clear r0; have r0 := r0_; clear r0_; have r3_ := Aside0.mk (Kd.F_below (fG r3) hb_); clear r3; have r3 := r3_; clear r3_; have r4_ := Aside0.mk (Kd.F_below (fG r4) hb_); clear r4; have r4 := r4_; clear r4_; (try clear oc occ ocf ocl); have oc := oc_; clear oc_; obtain ⟨occ, ocf, ocl⟩ := cells_of oc.out; (try clear oz ozc ozf ozl); have oz := oz_; clear oz_; obtain ⟨ozc, ozf, ozl⟩ := cells_of oz.out; clear HB hb_; have HB := HB_; clear HB_)
  have hcell := F_at r4.out 1 HIX.out
  rw [show ((1 : Nat) : Int) = 1 from rfl] at hcell
  (try rw [Nat.add_zero] at hcell)
  go_wp2
  (first | go_region | skip)
  all_goals go_wp2
  all_goals refine bodyPost_ret (v := .tuple #[.int .u64 (IntKind.u64.wrap (rd l4 1)), .agg #[.slice A0 l0.length c0, .int .i64 p, .int .i64 c, .slice A3 l3.length c3, .slice (some ⟨ab, ao, none⟩) l4.length c4], .bool true]) (by simp [results, Try.results11, go_sem, occ, ozc] <;> first | assumption | omega | (symm; assumption)) rfl ?_
  all_goals exact ⟨rfl, (bG HB)⟩
set_option maxHeartbeats 1600000 in
set_option maxRecDepth 100000 in
theorem load_none (A0 : Option Addr) (c0 : Nat) (l0 : List Int) (p c : Int) (A3 : Option Addr) (c3 : Nat) (l3 : List Int) (A4 : Option Addr) (c4 : Nat) (l4 : List Int) (off : Int) (w : World) (hck : checkZ l0 p c l3 l4 = true) (h4 : (off == 4) = false) (h8 : (off == 8) = false) (hp : (off == 4096) = false) (hi : at2Z 8192 8320 off = -1) (hj : at2Z 2097152 2101248 off = -1) (hk : at2Z 2097156 2101252 off = -1) (hr0 : Kd.C (Kd.int .i64) w A0 l0.length l0) (hr3 : Kd.C (Kd.int .i64) w A3 l3.length l3) (hr4 : Kd.C (Kd.int .i64) w A4 l4.length l4) (hc0 : l0.length ≤ c0) (hc3 : l3.length ≤ c3) (hc4 : l4.length ≤ c4) :
    Calls Try.prog 11 #[.agg #[.slice A0 l0.length c0, .int .i64 p, .int .i64 c, .slice A3 l3.length c3, .slice A4 l4.length c4], .int .u64 off, .int .i64 4] w fun e w' => e = .returned (.tuple #[.int .u64 0, .agg #[.slice A0 l0.length c0, .int .i64 p, .int .i64 c, .slice A3 l3.length c3, .slice A4 l4.length c4], .bool false]) ∧ Below w.heap.size w w' := by
  have HB := Aside0.mk (Below.refl w.heap.size w)
  have hmf : ∀ (fn : Fn) (first cap : Array Value) (w : World), (Instr.makeFunc fn first cap).run Try.prog w = .ok (.func fn first cap) w := fun _ _ _ _ => rfl
  have hu := Try.underlying24
  obtain ⟨hl0, hl3, hl4⟩ := check_lens hck
  have r0 := Aside0.mk (F_in hr0)
  have r3 := Aside0.mk (F_in hr3)
  have r4 := Aside0.mk (F_in hr4)
  have HK := Aside0.mk hck
  have HC0 := Aside0.mk hc0
  have HC3 := Aside0.mk hc3
  have HC4 := Aside0.mk hc4
  have HI := Aside0.mk hi
  have HJ := Aside0.mk hj
  have HKK := Aside0.mk hk
  clear hi hj hk
  clear hr0 hr3 hr4 hck hc0 hc3 hc4 hl0 hl3 hl4
  go_enter Try.func11, Try.ntmps11
  go_wp2_with fail
  (go_at_call 7; (with_reducible refine (check_c true _ _ l0 p c _ _ l3 _ _ l4 _ HK.out (Kd.F_now (fG r0)) (Kd.F_now (fG r3)) (Kd.F_now (fG r4))).mono ?_); rintro e_ w1 ⟨rfl, hb_⟩; have HB_ : Aside0 (Below w.heap.size w w1) := Aside0.mk (below_step (bG HB) hb_); have hzw1 := hb_.size; (try simp at hzw1); have oc_ := Aside0.mk (box_below hb_ (by repeat (with_reducible first | exact nb_1 w _ | apply ext_drew | apply ext_drewN | apply ext_alloc | refine blk_far ?_ (by show _ ≠ _; dsimp only; omega) _))); have oz_ := Aside0.mk (box_below hb_ (by repeat (with_reducible first | exact nb_2 w _ _ | apply ext_drew | apply ext_drewN | apply ext_alloc | refine blk_far ?_ (by show _ ≠ _; dsimp only; omega) _))); have r0_ := Aside0.mk (Kd.F_below (fG r0) hb_); clear r0; have r0 := r0_; clear r0_; have r3_ := Aside0.mk (Kd.F_below (fG r3) hb_); clear r3; have r3 := r3_; clear r3_; have r4_ := Aside0.mk (Kd.F_below (fG r4) hb_); clear r4; have r4 := r4_; clear r4_; (try clear oc occ ocf ocl); have oc := oc_; clear oc_; obtain ⟨occ, ocf, ocl⟩ := cells_of oc.out; (try clear oz ozc ozf ozl); have oz := oz_; clear oz_; obtain ⟨ozc, ozf, ozl⟩ := cells_of oz.out; clear HB hb_; have HB := HB_; clear HB_)
  go_wp2_with fail
  (go_at_call 25; (with_reducible refine (enables_runs _).mono ?_); rintro e_ w2 ⟨rfl, hb_⟩; have HB_ : Aside0 (Below w.heap.size w w2) := Aside0.mk (below_step (bG HB) hb_); have hzw2 := hb_.size; (try simp at hzw2); have oc_ := Aside0.mk (box_below hb_ (eG oc)); have oz_ := Aside0.mk (box_below hb_ (eG oz)); have r0_ := Aside0.mk (Kd.F_below (fG r0) hb_); clear r0; have r0 := r0_; clear r0_; have r3_ := Aside0.mk (Kd.F_below (fG r3) hb_); clear r3; have r3 := r3_; clear r3_; have r4_ := Aside0.mk (Kd.F_below (fG r4) hb_); clear r4; have r4 := r4_; clear r4_; (try clear oc occ ocf ocl); have oc := oc_; clear oc_; obtain ⟨occ, ocf, ocl⟩ := cells_of oc.out; (try clear oz ozc ozf ozl); have oz := oz_; clear oz_; obtain ⟨ozc, ozf, ozl⟩ := cells_of oz.out; clear HB hb_; have HB := HB_; clear HB_)
  go_wp2_with fail
  (go_at_call 27; (with_reducible refine (thresholds_runs _).mono ?_); rintro e_ w3 ⟨rfl, hb_⟩; have HB_ : Aside0 (Below w.heap.size w w3) := Aside0.mk (below_step (bG HB) hb_); have hzw3 := hb_.size; (try simp at hzw3); have oc_ := Aside0.mk (box_below hb_ (eG oc)); have oz_ := Aside0.mk (box_below hb_ (eG oz)); have r0_ := Aside0.mk (Kd.F_below (fG r0) hb_); clear r0; have r0 := r0_; clear r0_; have r3_ := Aside0.mk (Kd.F_below (fG r3) hb_); clear r3; have r3 := r3_; clear r3_; have r4_ := Aside0.mk (Kd.F_below (fG r4) hb_); clear r4; have r4 := r4_; clear r4_; (try clear oc occ ocf ocl); have oc := oc_; clear oc_; obtain ⟨occ, ocf, ocl⟩ := cells_of oc.out; (try clear oz ozc ozf ozl); have oz := oz_; clear oz_; obtain ⟨ozc, ozf, ozl⟩ := cells_of oz.out; clear HB hb_; have HB := HB_; clear HB_)
  go_wp2_with fail
  (go_at_call 28; (with_reducible refine (claims_runs _).mono ?_); rintro e_ w4 ⟨rfl, hb_⟩; have HB_ : Aside0 (Below w.heap.size w w4) := Aside0.mk (below_step (bG HB) hb_); have hzw4 := hb_.size; (try simp at hzw4); have oc_ := Aside0.mk (box_below hb_ (eG oc)); have oz_ := Aside0.mk (box_below hb_ (eG oz)); have r0_ := Aside0.mk (Kd.F_below (fG r0) hb_); clear r0; have r0 := r0_; clear r0_; have r3_ := Aside0.mk (Kd.F_below (fG r3) hb_); clear r3; have r3 := r3_; clear r3_; have r4_ := Aside0.mk (Kd.F_below (fG r4) hb_); clear r4; have r4 := r4_; clear r4_; (try clear oc occ ocf ocl); have oc := oc_; clear oc_; obtain ⟨occ, ocf, ocl⟩ := cells_of oc.out; (try clear oz ozc ozf ozl); have oz := oz_; clear oz_; obtain ⟨ozc, ozf, ozl⟩ := cells_of oz.out; clear HB hb_; have HB := HB_; clear HB_)
  go_wp2_with fail
  (go_at_call 26; (with_reducible refine (at_c 8192 8320 off (-1) _ HI.out).mono ?_); rintro e_ w5 ⟨rfl, hb_⟩; have HB_ : Aside0 (Below w.heap.size w w5) := Aside0.mk (below_step (bG HB) hb_); have hzw5 := hb_.size; (try simp at hzw5); have oc_ := Aside0.mk (box_below hb_ (eG oc)); have oz_ := Aside0.mk (box_below hb_ (eG oz)); have r0_ := Aside0.mk (Kd.F_below (fG r0) hb_); clear r0; have r0 := r0_; clear r0_; have r3_ := Aside0.mk (Kd.F_below (fG r3) hb_); clear r3; have r3 := r3_; clear r3_; have r4_ := Aside0.mk (Kd.F_below (fG r4) hb_); clear r4; have r4 := r4_; clear r4_; (try clear oc occ ocf ocl); have oc := oc_; clear oc_; obtain ⟨occ, ocf, ocl⟩ := cells_of oc.out; (try clear oz ozc ozf ozl); have oz := oz_; clear oz_; obtain ⟨ozc, ozf, ozl⟩ := cells_of oz.out; clear HB hb_; have HB := HB_; clear HB_)
  go_wp2_with fail
  (go_at_call 26; (with_reducible refine (at_c 2097152 2101248 off (-1) _ HJ.out).mono ?_); rintro e_ w6 ⟨rfl, hb_⟩; have HB_ : Aside0 (Below w.heap.size w w6) := Aside0.mk (below_step (bG HB) hb_); have hzw6 := hb_.size; (try simp at hzw6); have oc_ := Aside0.mk (box_below hb_ (eG oc)); have oz_ := Aside0.mk (box_below hb_ (eG oz)); have r0_ := Aside0.mk (Kd.F_below (fG r0) hb_); clear r0; have r0 := r0_; clear r0_; have r3_ := Aside0.mk (Kd.F_below (fG r3) hb_); clear r3; have r3 := r3_; clear r3_; have r4_ := Aside0.mk (Kd.F_below (fG r4) hb_); clear r4; have r4 := r4_; clear r4_; (try clear oc occ ocf ocl); have oc := oc_; clear oc_; obtain ⟨occ, ocf, ocl⟩ := cells_of oc.out; (try clear oz ozc ozf ozl); have oz := oz_; clear oz_; obtain ⟨ozc, ozf, ozl⟩ := cells_of oz.out; clear HB hb_; have HB := HB_; clear HB_)
  go_wp2_with fail
  (go_at_call 26; (with_reducible refine (at_c 2097156 2101252 off (-1) _ HKK.out).mono ?_); rintro e_ w7 ⟨rfl, hb_⟩; have HB_ : Aside0 (Below w.heap.size w w7) := Aside0.mk (below_step (bG HB) hb_); have hzw7 := hb_.size; (try simp at hzw7); have oc_ := Aside0.mk (box_below hb_ (eG oc)); have oz_ := Aside0.mk (box_below hb_ (eG oz)); have r0_ := Aside0.mk (Kd.F_below (fG r0) hb_); clear r0; have r0 := r0_; clear r0_; have r3_ := Aside0.mk (Kd.F_below (fG r3) hb_); clear r3; have r3 := r3_; clear r3_; have r4_ := Aside0.mk (Kd.F_below (fG r4) hb_); clear r4; have r4 := r4_; clear r4_; (try clear oc occ ocf ocl); have oc := oc_; clear oc_; obtain ⟨occ, ocf, ocl⟩ := cells_of oc.out; (try clear oz ozc ozf ozl); have oz := oz_; clear oz_; obtain ⟨ozc, ozf, ozl⟩ := cells_of oz.out; clear HB hb_; have HB := HB_; clear HB_)
  go_wp2
  (first | go_region | skip)
  all_goals go_wp2
  all_goals refine bodyPost_ret (v := .tuple #[.int .u64 0, .agg #[.slice A0 l0.length c0, .int .i64 p, .int .i64 c, .slice A3 l3.length c3, .slice A4 l4.length c4], .bool false]) (by simp [results, Try.results11, go_sem, occ, ozc] <;> first | assumption | omega | (symm; assumption)) rfl ?_
  all_goals exact ⟨rfl, (bG HB)⟩
end Go.Proofs.Ytmlpnjoejdpblaa.Q
end
