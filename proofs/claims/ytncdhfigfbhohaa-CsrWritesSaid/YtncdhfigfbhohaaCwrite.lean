/- The writing of a register: csr's file.mask and file.write. -/
import Derived.Test.YtncdhfigfbhohaaCseen
import Derived.Test.YtncdhfigfbhohaaQx1
namespace Go.Proofs.Ytncdhfigfbhohaa.Q
open Go.RowKit Go.Proofs.YtncdhfigfbhohaaW.PrintWords Go.Proofs.YtncdhfigfbhohaaW.PrintLast Go.Proofs.YtncdhfigfbhohaaW.PrintMore Go.Proofs.Ytncdhfigfbhohaa.L
attribute [local go_sem] Instr.field part asAgg lt_step max2_int min2_int max_two min_two max_three min_three max_four min_four lt_0_1 lt_0_2 lt_1_2 lt_0_3 lt_1_3 lt_2_3 lt_0_4 lt_1_4 lt_2_4 lt_3_4 lt_0_5 lt_1_5 lt_2_5 lt_3_5 lt_4_5 lt_0_6 lt_1_6 lt_2_6 lt_3_6 lt_4_6 lt_5_6 lt_0_7 lt_1_7 lt_2_7 lt_3_7 lt_4_7 lt_5_7 lt_6_7 lt_0_8 lt_1_8 lt_2_8 lt_3_8 lt_4_8 lt_5_8 lt_6_8 lt_7_8
set_option linter.unusedVariables false
set_option linter.unusedSimpArgs false
def maskZ (c : Nat → Int) (n : Int) : Int :=
  if n == 256 then 786722 else if n == 770 then 46079 else if n == 771 then 546 else if n == 836 then 546 else if n == 772 then 2730 else if n == 260 then Go.bits .and .u64 (c 2) 2730 else if n == 324 then Go.bits .and .u64 (c 2) 2 else 18446744073709551615
def statusV (x : Int) : Int := (csr_status.f x).getD 0
theorem statusV_is (s : Int) : csr_status.f s = some (statusV s) := by
  unfold statusV
  have h : ∃ r, csr_status.f s = some r := by unfold csr_status.f; split <;> exact ⟨_, rfl⟩
  obtain ⟨r, hr⟩ := h
  rw [hr]; rfl
def mixZ (c : Nat → Int) (n o v : Int) : Int := Go.bits .or .u64 (Go.bits .andNot .u64 o (maskZ c n)) (Go.bits .and .u64 v (maskZ c n))
theorem mask_same (c c' : Nat → Int) {n : Int} (h : n = 770 ∨ n = 771 ∨ n = 772) : maskZ c' n = maskZ c n := by rcases h with rfl | rfl | rfl <;> rfl
/-- What is stored; none: nothing is. -/
def stepZ (c : Nat → Int) (n x o : Int) : Option Int :=
  if n == 769 then none else
  if n == 768 then some (mixZ c n o (statusV x)) else
  if n == 773 then some (mixZ c n o (Go.bits .andNot .u64 x 2)) else
  if n == 261 then some (mixZ c n o (Go.bits .andNot .u64 x 2)) else
  if n == 833 then some (mixZ c n o (Go.bits .andNot .u64 x 1)) else
  if n == 321 then some (mixZ c n o (Go.bits .andNot .u64 x 1)) else
  if n == 384 then (if x / 1152921504606846976 != 0 then (if x / 1152921504606846976 != 8 then none else some (mixZ c n o x)) else some (mixZ c n o x)) else
  if n == 770 then some (mixZ c n 0 x) else
  if n == 771 then some (mixZ c n 0 x) else
  if n == 772 then some (mixZ c n 0 x) else
  some (mixZ c n o x)
def putZ (c : Nat → Int) (n x : Int) (i : Nat) : Nat → Int := match stepZ c n x (c i) with | none => c | some v => upd c i v
def writeZ (c : Nat → Int) (n x : Int) : Nat → Int := match ofI n with | none => c | some i => putZ c n x i
set_option maxHeartbeats 1600000 in
set_option maxRecDepth 100000 in
theorem mask_runs (b : Nat) (c : Nat → Int) (n : Int) (w : World) (hb : w.heap[b]? = some (.cells (C17 c) 35 (0, 0))) :
    Calls Try.prog 22 #[.pointer (some ⟨b, 0, none⟩), .int .i64 n] w fun e w' => e = .returned (.int .u64 (maskZ c n)) ∧ w = w' := by
  obtain ⟨hc, hf, hl⟩ := cells_of hb
  have hc2 : w.cell? ⟨b, 2, none⟩ = some (.int .u64 (c 2)) := (hc 2).trans rfl
  clear hc
  go_enter Try.func22, Try.ntmps22
  go_wp2
  all_goals go_ret
  all_goals refine ⟨?_, rfl⟩
  all_goals (unfold maskZ; simp only [*, Bool.false_eq_true, if_true, if_false]; rfl)
/-- What a write leaves. -/
def Put17 (b : Nat) (c : Nat → Int) (w w' : World) : Prop := w'.heap[b]? = some (.cells (C17 c) 35 (0, 0)) ∧ (∀ i, i ≠ b → w'.heap[i]? = w.heap[i]?) ∧ Below b w w' ∧ w'.heap.size = w.heap.size
theorem put_same {b : Nat} {c : Nat → Int} {w : World} (hb : w.heap[b]? = some (.cells (C17 c) 35 (0, 0))) : Put17 b c w w := ⟨hb, fun _ _ => rfl, Below.refl _ _, rfl⟩
theorem put_drew {b : Nat} {c : Nat → Int} {w w' : World} {k : Nat} (h : Put17 b c w w') : Put17 b c w (w'.drewN k) := ⟨h.1, h.2.1, pw_below_drewN h.2.2.1 k, h.2.2.2⟩
theorem put_one {b : Nat} {c : Nat → Int} {w w' : World} {i : Nat} (h : Put17 b c w w') (hi : i < 17) (v : Int) : Put17 b (upd c i v) w (w'.setCell ⟨b, i, none⟩ (.int .u64 v)) :=
  ⟨blk_put h.1 i _ (C17_set c v i hi), fun j hj => (Below.heap_setCell w' ⟨b, i, none⟩ (.int .u64 v) j hj).trans (h.2.1 j hj), Below.setCell h.2.2.1 (p := ⟨b, i, none⟩) (Nat.le_refl _) _, by rw [sz_set]; exact h.2.2.2⟩
set_option maxHeartbeats 1600000 in
set_option maxRecDepth 100000 in
theorem write_plain (b : Nat) (c : Nat → Int) (n x : Int) (i : Nat) (w : World) (h384 : (n == 384) = false) (hb : w.heap[b]? = some (.cells (C17 c) 35 (0, 0))) (hI : ofI n = some i) :
    Calls Try.prog 15 #[.pointer (some ⟨b, 0, none⟩), .int .i64 n, .int .u64 x] w fun e w' => e = .returned (.tuple #[]) ∧ Put17 b (writeZ c n x) w w' := by
  have hlt := ofI_lt hI
  obtain ⟨hc, hf, hl⟩ := cells_of hb
  have hci : w.cell? ⟨b, i, none⟩ = some (.int .u64 (c i)) := (hc i).trans (C17_at c i hlt)
  clear hc
  have HB := Aside0.mk hb
  have HI := Aside0.mk hI
  clear hb hI
  have HZ : Aside0 (writeZ c n x = putZ c n x i) := ⟨by unfold writeZ; rw [HI.out]⟩
  go_enter Try.func15, Try.ntmps15
  go_wp2_with (first
    | (go_at_call 21; (with_reducible refine (of_some _ _ _ _ HI.out).mono ?_); rintro e w' ⟨rfl, rfl⟩)
    | (go_at_call 13; (with_reducible refine (csr_status.calls _ _ _ (statusV_is _)).mono ?_); rintro e w' ⟨rfl, hd⟩; obtain ⟨k_, rfl⟩ := hd.out; clear hd)
    | (go_at_call 22; (with_reducible refine (mask_runs b c n _ ?hm).mono ?_); (case hm => first | exact HB.out | exact ext_drewN HB.out _); rintro e w' ⟨rfl, rfl⟩)
    | (go_at_call 22; (with_reducible refine (mask_runs b (upd c i 0) n _ ?hm).mono ?_); (case hm => exact (put_one (put_same HB.out) hlt 0).1); rintro e w' ⟨rfl, rfl⟩))
  all_goals (first | go_end0 | (refine bodyPost_ret (v := .tuple #[]) (by simp [results, Try.results15, go_sem] <;> first | assumption | omega | (symm; assumption)) rfl ?_))
  all_goals refine ⟨rfl, ?_⟩
  all_goals rw [HZ.out]
  all_goals first
    | (rw [show putZ c n x i = c by unfold putZ stepZ; simp only [*, Bool.false_eq_true, if_true, if_false]]; exact put_same HB.out)
    | (rw [show putZ c n x i = upd c i (mixZ c n (c i) x) by unfold putZ stepZ; simp only [*, Bool.false_eq_true, if_true, if_false]]; exact put_one (put_same HB.out) hlt _)
    | (rw [show putZ c n x i = upd c i (mixZ c n (c i) (Go.bits .andNot .u64 x 1)) by unfold putZ stepZ; simp only [*, Bool.false_eq_true, if_true, if_false]]; exact put_one (put_same HB.out) hlt _)
    | (rw [show putZ c n x i = upd c i (mixZ c n (c i) (Go.bits .andNot .u64 x 2)) by unfold putZ stepZ; simp only [*, Bool.false_eq_true, if_true, if_false]]; exact put_one (put_same HB.out) hlt _)
    | (rw [show putZ c n x i = upd c i (mixZ c n (c i) (statusV x)) by unfold putZ stepZ; simp only [*, Bool.false_eq_true, if_true, if_false]]; exact put_one (put_drew (put_same HB.out)) hlt _)
    | (rw [show putZ c n x i = upd c i (mixZ c n 0 x) by unfold putZ stepZ; simp only [*, Bool.false_eq_true, if_true, if_false]]; have hn_ : n = 770 ∨ n = 771 ∨ n = 772 := (by first | exact .inl (eq_of_beq (by assumption)) | exact .inr (.inl (eq_of_beq (by assumption))) | exact .inr (.inr (eq_of_beq (by assumption)))); rw [mask_same c (upd c i 0) hn_]; have hz_ := put_one (put_one (put_same HB.out) hlt 0) hlt (mixZ c n 0 x); rw [upd_twice] at hz_; exact hz_)
set_option maxHeartbeats 1600000 in
set_option maxRecDepth 100000 in
theorem write_mode (b : Nat) (c : Nat → Int) (x : Int) (w : World) (m0 m1 : Bool) (h0 : (x / 1152921504606846976 != 0) = m0) (h1 : (x / 1152921504606846976 != 8) = m1) (hb : w.heap[b]? = some (.cells (C17 c) 35 (0, 0))) :
    Calls Try.prog 15 #[.pointer (some ⟨b, 0, none⟩), .int .i64 384, .int .u64 x] w fun e w' => e = .returned (.tuple #[]) ∧ Put17 b (putZ c 384 x 15) w w' := by
  obtain ⟨hc, hf, hl⟩ := cells_of hb
  have hci : w.cell? ⟨b, 15, none⟩ = some (.int .u64 (c 15)) := (hc 15).trans rfl
  clear hc
  have HB := Aside0.mk hb
  clear hb
  have HZ : Aside0 (stepZ c 384 x (c 15) = if m0 then (if m1 then none else some (mixZ c 384 (c 15) x)) else some (mixZ c 384 (c 15) x)) := ⟨by subst h0 h1; rfl⟩
  cases m0 <;> cases m1
  all_goals
    go_enter Try.func15, Try.ntmps15
    go_wp2_with (first
      | (go_at_call 21; (with_reducible refine (of_some _ _ 15 _ rfl).mono ?_); rintro e w' ⟨rfl, rfl⟩)
      | (go_at_call 22; (with_reducible refine (mask_runs b c 384 _ ?hm).mono ?_); (case hm => first | exact HB.out | exact ext_drewN HB.out _); rintro e w' ⟨rfl, rfl⟩))
    first | go_end0 | (refine bodyPost_ret (v := .tuple #[]) (by simp [results, Try.results15, go_sem] <;> first | assumption | omega | (symm; assumption)) rfl ?_)
    refine ⟨rfl, ?_⟩
    unfold putZ
    rw [HZ.out]
    first | exact put_one (put_same HB.out) (by decide) _ | exact put_same HB.out
theorem write_runs (b : Nat) (c : Nat → Int) (n x : Int) (i : Nat) (w : World) (hb : w.heap[b]? = some (.cells (C17 c) 35 (0, 0))) (hI : ofI n = some i) :
    Calls Try.prog 15 #[.pointer (some ⟨b, 0, none⟩), .int .i64 n, .int .u64 x] w fun e w' => e = .returned (.tuple #[]) ∧ Put17 b (writeZ c n x) w w' := by
  by_cases h : n = 384
  · subst h
    obtain rfl : 15 = i := Option.some.inj hI
    exact write_mode b c x w _ _ rfl rfl hb
  · exact write_plain b c n x i w (beq_eq_false_iff_ne.2 h) hb hI
set_option maxHeartbeats 1600000 in
set_option maxRecDepth 100000 in
theorem write_none (b : Nat) (c : Nat → Int) (x : Int) (w : World) (hb : w.heap[b]? = some (.cells (C17 c) 35 (0, 0))) :
    Calls Try.prog 15 #[.pointer (some ⟨b, 0, none⟩), .int .i64 769, .int .u64 x] w fun e w' => e = .returned (.tuple #[]) ∧ Put17 b (writeZ c 769 x) w w' := by
  have HB := Aside0.mk hb
  clear hb
  go_enter Try.func15, Try.ntmps15
  go_wp2_with (first
    | (go_at_call 21; (with_reducible refine (of_none _ _ _ rfl).mono ?_); rintro e w' ⟨rfl, rfl⟩))
  refine bodyPost_ret (v := .tuple #[]) (by simp [results, Try.results15, go_sem] <;> first | assumption | omega | (symm; assumption)) rfl ?_
  exact ⟨rfl, put_same HB.out⟩
end Go.Proofs.Ytncdhfigfbhohaa.Q
