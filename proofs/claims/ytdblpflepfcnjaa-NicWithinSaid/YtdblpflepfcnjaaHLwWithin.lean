import Derived.Test.YtdblpflepfcnjaaHZ1
import Derived.Test.YtdblpflepfcnjaaHZ4
import Derived.Test.YtdblpflepfcnjaaHZ3
import Derived.Test.YtdblpflepfcnjaaHNwi
import Derived.Test.YtdblpflepfcnjaaHZ2
import Derived.Deep.DeepCutAuto
/- NicWithin, walked: nothing of memory is another but what was given. -/
namespace Go.Proofs.Ytdblpflepfcnjaa.Q
open Go.RowKit Go.Proofs.YtdblpflepfcnjaaW.PrintWords Go.Proofs.YtdblpflepfcnjaaW.PrintLast Go.Proofs.YtdblpflepfcnjaaW.PrintMore Go.Proofs.Ytdblpflepfcnjaa.L
attribute [local go_sem] Instr.field part asAgg lt_step max2_int min2_int max_two min_two max_three min_three max_four min_four lt_0_1 lt_0_2 lt_1_2 lt_0_3 lt_1_3 lt_2_3 lt_0_4 lt_1_4 lt_2_4 lt_3_4 lt_0_5 lt_1_5 lt_2_5 lt_3_5 lt_4_5 lt_0_6 lt_1_6 lt_2_6 lt_3_6 lt_4_6 lt_5_6 lt_0_7 lt_1_7 lt_2_7 lt_3_7 lt_4_7 lt_5_7 lt_6_7 lt_0_8 lt_1_8 lt_2_8 lt_3_8 lt_4_8 lt_5_8 lt_6_8 lt_7_8
set_option linter.unusedVariables false
set_option linter.unusedSimpArgs false
def bs18 (m : Nat) : Array Bool := Array.ofFn (n := 18) fun i => m.testBit i
def bs31 (m : Nat) : Array Bool := Array.ofFn (n := 31) fun i => m.testBit i
theorem ins_is (p a n : Int) (w : World) : Calls Try.prog 29 #[.int .u64 p, .int .u64 a, .int .i64 n] w fun e w' => e = .returned (.bool (insB p a n)) ∧ Below w.heap.size w w' := by
  unfold insB
  cases h1 : decide (p ≥ a) <;> cases h2 : decide (IntKind.u64.wrap (p - a) < IntKind.u64.wrap n)
  all_goals
    go_enter Try.func29, Try.ntmps29
    go_wp2
    go_ret
    exact ⟨rfl, by first | exact Below.refl _ _ | exact below_drew (Below.refl _ _)⟩
theorem ins_of (b : Bool) (p a n : Int) (w : World) (h : insB p a n = b) : Calls Try.prog 29 #[.int .u64 p, .int .u64 a, .int .i64 n] w fun e w' => e = .returned (.bool b) ∧ Below w.heap.size w w' := by
  rw [← h]; exact ins_is p a n w
theorem row_at {k : IntKind} {W : World} {ok : Nat → Prop} {ad : Addr} {n : Nat} {xs : List Int} {x : Int} (h : Kd.F (Kd.int k) W ok (some ad) n xs) (i : Nat) (hi : i < n) (hx : xs.getD i 0 = x) : W.cell? (ad.add i) = some (.int k x) := by
  obtain ⟨ad', e, hc⟩ := Kd.at_int (Kd.F_now h) (i : Int) (by omega) (by omega)
  injection e with e
  subst e
  unfold rd at hc
  rw [Int.toNat_natCast, hx] at hc
  exact hc
theorem row_some {k : IntKind} {W : World} {ok : Nat → Prop} {A : Option Addr} {n : Nat} {xs : List Int} (h : Kd.F (Kd.int k) W ok A n xs) (i : Nat) (hi : i < n) : ∃ ad, A = some ad := by
  obtain ⟨ad', e, _⟩ := Kd.at_int (Kd.F_now h) (i : Int) (by omega) (by omega)
  exact ⟨ad', e⟩
theorem refReadW_of (l : List Int) (a k d : Int) (x : Bool) (ha : u64B a) (hk : i64B k) (hl : (l.length : Int) ≤ 70000) (hb : ∀ z ∈ l, byte z) (h : readZ l a k = (d, x)) : drawbridgeref07_Read.f l a k = some (d, x) := by
  rw [← h]; exact refRead_is l a k ha hk hl hb
set_option maxHeartbeats 1600000 in
set_option maxRecDepth 100000 in
theorem within_q1 (A : Option Addr) (cap : Nat) (mac : List Int) (R : Option Addr) (rc : Nat) (l : List Int) (FA : Option Addr) (fc : Nat) (fr : List Int) (c : Nat → Int) (w : World) (okm ok okf : Nat → Prop) (hm : Kd.F (Kd.int .u8) w okm A mac.length mac) (hmc : mac.length ≤ cap) (hr : Kd.F (Kd.int .u8) w ok R l.length l) (hc : l.length ≤ rc) (hf : Kd.F (Kd.int .u8) w okf FA fr.length fr) (hfc : fr.length ≤ fc) (hq : decide ((l.length : Int) > 70000) = true) :
    Calls Try.prog 8 #[.agg (C14 c (.slice A mac.length cap)), .agg #[.slice R l.length rc], .slice FA fr.length fc] w fun e w' => e = .returned (.bool true) ∧ Below w.heap.size w w' := by
  have HB := Aside0.mk (Below.refl w.heap.size w)
  have HM := Aside0.mk (Kd.F_bound hm)
  have HR := Aside0.mk (Kd.F_bound hr)
  have HMC := Aside0.mk hmc
  have HC := Aside0.mk hc
  have hu := Try.underlying25
  have hu7 := Try.underlying27
  have HF := Aside0.mk (Kd.F_bound hf)
  have HFC := Aside0.mk hfc
  clear hm hmc hr hc hf hfc
  go_enter Try.func8, Try.ntmps8
  go_upto_region 1 with fail
  obtain ⟨wa, hwa, on0, or0, hb_, hz0⟩ := letter2 w (.cells (C14 c (.slice A mac.length cap)) 25 (0, 0)) (.cells #[.slice R l.length rc] 27 (0, 0))
  rw [hwa]
  clear hwa
  have hzwa := Nat.le_of_eq hz0.symm
  clear hz0
  have on := Aside0.mk on0
  have orr := Aside0.mk or0
  clear on0 or0
  obtain ⟨onc, onf, onl⟩ := cells_of on.out
  obtain ⟨orrc, orrf, orrl⟩ := cells_of orr.out
  have HB_ : Aside0 (Below w.heap.size w wa) := ⟨hb_⟩
  have HM_ := Aside0.mk (Kd.F_below HM.out hb_)
  clear HM
  have HM := HM_
  clear HM_
  have HR_ := Aside0.mk (Kd.F_below HR.out hb_)
  clear HR
  have HR := HR_
  clear HR_
  have HF_ := Aside0.mk (Kd.F_below HF.out hb_)
  clear HF
  have HF := HF_
  clear HF_
  clear HB hb_
  have HB := HB_
  clear HB_
  go_wp2_with fail
  (go_at_call 10; (with_reducible refine (heads_is _).mono ?_); rintro e_ w2 ⟨rfl, hb_⟩; have HB_ : Aside0 (Below w.heap.size w w2) := Aside0.mk (below_step (bG HB) hb_); have hzw2 := hb_.size; (try simp at hzw2); have on_ := Aside0.mk (box_below hb_ (eG on)); have orr_ := Aside0.mk (box_below hb_ (eG orr)); (try clear on onc onf onl); have on := on_; clear on_; obtain ⟨onc, onf, onl⟩ := cells_of on.out; (try clear orr orrc orrf orrl); have orr := orr_; clear orr_; obtain ⟨orrc, orrf, orrl⟩ := cells_of orr.out; clear HB hb_; have HB := HB_; clear HB_)
  go_wp2
  go_ret
  exact ⟨rfl, (bG HB)⟩
set_option maxHeartbeats 1600000 in
set_option maxRecDepth 100000 in
theorem within_q2 (A : Option Addr) (cap : Nat) (mac : List Int) (R : Option Addr) (rc : Nat) (l : List Int) (FA : Option Addr) (fc : Nat) (fr : List Int) (c : Nat → Int) (w : World) (okm ok okf : Nat → Prop) (hm : Kd.F (Kd.int .u8) w okm A mac.length mac) (hmc : mac.length ≤ cap) (hr : Kd.F (Kd.int .u8) w ok R l.length l) (hc : l.length ≤ rc) (hf : Kd.F (Kd.int .u8) w okf FA fr.length fr) (hfc : fr.length ≤ fc) (hq : decide ((l.length : Int) > 70000) = false) (hq2 : decide ((fr.length : Int) > 3000) = true) :
    Calls Try.prog 8 #[.agg (C14 c (.slice A mac.length cap)), .agg #[.slice R l.length rc], .slice FA fr.length fc] w fun e w' => e = .returned (.bool true) ∧ Below w.heap.size w w' := by
  have HB := Aside0.mk (Below.refl w.heap.size w)
  have HM := Aside0.mk (Kd.F_bound hm)
  have HR := Aside0.mk (Kd.F_bound hr)
  have HMC := Aside0.mk hmc
  have HC := Aside0.mk hc
  have hu := Try.underlying25
  have hu7 := Try.underlying27
  have HF := Aside0.mk (Kd.F_bound hf)
  have HFC := Aside0.mk hfc
  clear hm hmc hr hc hf hfc
  go_enter Try.func8, Try.ntmps8
  go_upto_region 1 with fail
  obtain ⟨wa, hwa, on0, or0, hb_, hz0⟩ := letter2 w (.cells (C14 c (.slice A mac.length cap)) 25 (0, 0)) (.cells #[.slice R l.length rc] 27 (0, 0))
  rw [hwa]
  clear hwa
  have hzwa := Nat.le_of_eq hz0.symm
  clear hz0
  have on := Aside0.mk on0
  have orr := Aside0.mk or0
  clear on0 or0
  obtain ⟨onc, onf, onl⟩ := cells_of on.out
  obtain ⟨orrc, orrf, orrl⟩ := cells_of orr.out
  have HB_ : Aside0 (Below w.heap.size w wa) := ⟨hb_⟩
  have HM_ := Aside0.mk (Kd.F_below HM.out hb_)
  clear HM
  have HM := HM_
  clear HM_
  have HR_ := Aside0.mk (Kd.F_below HR.out hb_)
  clear HR
  have HR := HR_
  clear HR_
  have HF_ := Aside0.mk (Kd.F_below HF.out hb_)
  clear HF
  have HF := HF_
  clear HF_
  clear HB hb_
  have HB := HB_
  clear HB_
  go_wp2_with fail
  (go_at_call 10; (with_reducible refine (heads_is _).mono ?_); rintro e_ w2 ⟨rfl, hb_⟩; have HB_ : Aside0 (Below w.heap.size w w2) := Aside0.mk (below_step (bG HB) hb_); have hzw2 := hb_.size; (try simp at hzw2); have on_ := Aside0.mk (box_below hb_ (eG on)); have orr_ := Aside0.mk (box_below hb_ (eG orr)); (try clear on onc onf onl); have on := on_; clear on_; obtain ⟨onc, onf, onl⟩ := cells_of on.out; (try clear orr orrc orrf orrl); have orr := orr_; clear orr_; obtain ⟨orrc, orrf, orrl⟩ := cells_of orr.out; clear HB hb_; have HB := HB_; clear HB_)
  go_wp2
  go_ret
  exact ⟨rfl, (bG HB)⟩
set_option maxHeartbeats 1600000 in
set_option maxRecDepth 100000 in
theorem within_q3 (A : Option Addr) (cap : Nat) (mac : List Int) (R : Option Addr) (rc : Nat) (l : List Int) (FA : Option Addr) (fc : Nat) (fr : List Int) (c : Nat → Int) (w : World) (okm ok okf : Nat → Prop) (hm : Kd.F (Kd.int .u8) w okm A mac.length mac) (hmc : mac.length ≤ cap) (hr : Kd.F (Kd.int .u8) w ok R l.length l) (hc : l.length ≤ rc) (hf : Kd.F (Kd.int .u8) w okf FA fr.length fr) (hfc : fr.length ≤ fc) (hq : decide ((l.length : Int) > 70000) = false) (hq2 : decide ((fr.length : Int) > 3000) = false) (hk : okC c mac.length = false) :
    Calls Try.prog 8 #[.agg (C14 c (.slice A mac.length cap)), .agg #[.slice R l.length rc], .slice FA fr.length fc] w fun e w' => e = .returned (.bool true) ∧ Below w.heap.size w w' := by
  have HB := Aside0.mk (Below.refl w.heap.size w)
  have HM := Aside0.mk (Kd.F_bound hm)
  have HR := Aside0.mk (Kd.F_bound hr)
  have HMC := Aside0.mk hmc
  have HC := Aside0.mk hc
  have hu := Try.underlying25
  have hu7 := Try.underlying27
  have HF := Aside0.mk (Kd.F_bound hf)
  have HFC := Aside0.mk hfc
  have HK := Aside0.mk hk
  clear hk
  clear hm hmc hr hc hf hfc
  go_enter Try.func8, Try.ntmps8
  go_upto_region 1 with fail
  obtain ⟨wa, hwa, on0, or0, hb_, hz0⟩ := letter2 w (.cells (C14 c (.slice A mac.length cap)) 25 (0, 0)) (.cells #[.slice R l.length rc] 27 (0, 0))
  rw [hwa]
  clear hwa
  have hzwa := Nat.le_of_eq hz0.symm
  clear hz0
  have on := Aside0.mk on0
  have orr := Aside0.mk or0
  clear on0 or0
  obtain ⟨onc, onf, onl⟩ := cells_of on.out
  obtain ⟨orrc, orrf, orrl⟩ := cells_of orr.out
  have HB_ : Aside0 (Below w.heap.size w wa) := ⟨hb_⟩
  have HM_ := Aside0.mk (Kd.F_below HM.out hb_)
  clear HM
  have HM := HM_
  clear HM_
  have HR_ := Aside0.mk (Kd.F_below HR.out hb_)
  clear HR
  have HR := HR_
  clear HR_
  have HF_ := Aside0.mk (Kd.F_below HF.out hb_)
  clear HF
  have HF := HF_
  clear HF_
  clear HB hb_
  have HB := HB_
  clear HB_
  go_wp2_with (first | ((with_reducible refine gate_dst (N := 34) rfl ?_); (try (refine gate_guard (by rfl) ?_; dsimp only)); refine wpList_load_row rfl 25 _ rfl _ (by rfl) _ (C14 c (.slice A mac.length cap)) _ _ (eG on) Try.underlying25 rfl i25 ?_))
  (go_at_call 9; (with_reducible refine (Check_of false c A mac.length cap _ HK.out).mono ?_); rintro e_ w1 ⟨rfl, hb_⟩; have HB_ : Aside0 (Below w.heap.size w w1) := Aside0.mk (below_step (bG HB) hb_); have hzw1 := hb_.size; (try simp at hzw1); have on_ := Aside0.mk (box_below hb_ (eG on)); have orr_ := Aside0.mk (box_below hb_ (eG orr)); (try clear on onc onf onl); have on := on_; clear on_; obtain ⟨onc, onf, onl⟩ := cells_of on.out; (try clear orr orrc orrf orrl); have orr := orr_; clear orr_; obtain ⟨orrc, orrf, orrl⟩ := cells_of orr.out; clear HB hb_; have HB := HB_; clear HB_)
  go_wp2_with fail
  (go_at_call 10; (with_reducible refine (heads_is _).mono ?_); rintro e_ w2 ⟨rfl, hb_⟩; have HB_ : Aside0 (Below w.heap.size w w2) := Aside0.mk (below_step (bG HB) hb_); have hzw2 := hb_.size; (try simp at hzw2); have on_ := Aside0.mk (box_below hb_ (eG on)); have orr_ := Aside0.mk (box_below hb_ (eG orr)); (try clear on onc onf onl); have on := on_; clear on_; obtain ⟨onc, onf, onl⟩ := cells_of on.out; (try clear orr orrc orrf orrl); have orr := orr_; clear orr_; obtain ⟨orrc, orrf, orrl⟩ := cells_of orr.out; clear HB hb_; have HB := HB_; clear HB_)
  go_wp2
  go_ret
  exact ⟨rfl, (bG HB)⟩
set_option maxHeartbeats 1600000 in
set_option maxRecDepth 100000 in
theorem within_is (A : Option Addr) (cap : Nat) (mac : List Int) (R : Option Addr) (rc : Nat) (l : List Int) (FA : Option Addr) (fc : Nat) (fr : List Int) (c : Nat → Int) (w : World) (okm ok okf : Nat → Prop) (hm : Kd.F (Kd.int .u8) w okm A mac.length mac) (hmc : mac.length ≤ cap) (hr : Kd.F (Kd.int .u8) w ok R l.length l) (hc : l.length ≤ rc) (hf : Kd.F (Kd.int .u8) w okf FA fr.length fr) (hfc : fr.length ≤ fc) (hq : decide ((l.length : Int) > 70000) = false) (hq2 : decide ((fr.length : Int) > 3000) = false) (hk : okC c mac.length = true) (hby : ∀ z ∈ l, byte z) :
    Calls Try.prog 8 #[.agg (C14 c (.slice A mac.length cap)), .agg #[.slice R l.length rc], .slice FA fr.length fc] w fun e w' => e = .returned (.bool true) ∧ Below w.heap.size w w' := by
  have HB := Aside0.mk (Below.refl w.heap.size w)
  have HM := Aside0.mk (Kd.F_bound hm)
  have HR := Aside0.mk (Kd.F_bound hr)
  have HMC := Aside0.mk hmc
  have HC := Aside0.mk hc
  have hu := Try.underlying25
  have hu7 := Try.underlying27
  have HF := Aside0.mk (Kd.F_bound hf)
  have HFC := Aside0.mk hfc
  have hl7 : (l.length : Int) ≤ 70000 := by have := of_decide_eq_false hq; omega
  have hf3 : (fr.length : Int) ≤ 9223372036854775807 := by have := of_decide_eq_false hq2; omega
  obtain ⟨⟨c1, l1, f1, b1⟩, hS⟩ : ∃ S, sendZ c mac.length l = S := ⟨_, rfl⟩
  obtain ⟨⟨c2, l2, b2⟩, hT⟩ : ∃ S, recvZ c mac l fr = S := ⟨_, rfl⟩
  have e1 : l1.length = l.length := by have := send_len c mac.length l; rw [hS] at this; exact this
  have e2 : l2.length = l.length := by have := recv_len c mac l fr; rw [hT] at this; exact this
  obtain ⟨tx, htx⟩ : ∃ x, IntKind.u64.wrap (c 3 + IntKind.u64.wrap (16 * IntKind.u64.wrap (c 5))) = x := ⟨_, rfl⟩
  obtain ⟨rx, hrx⟩ : ∃ x, IntKind.u64.wrap (c 7 + IntKind.u64.wrap (16 * IntKind.u64.wrap (c 9))) = x := ⟨_, rfl⟩
  have hat : atT c = tx := htx
  have har : atR c = rx := hrx
  obtain ⟨t10, ht10⟩ : ∃ x, IntKind.u64.wrap (tx + 10) = x := ⟨_, rfl⟩
  obtain ⟨r10, hr10⟩ : ∃ x, IntKind.u64.wrap (rx + 10) = x := ⟨_, rfl⟩
  obtain ⟨r8, hr8⟩ : ∃ x, IntKind.u64.wrap (rx + 8) = x := ⟨_, rfl⟩
  have urx : u64B rx := by rw [← hrx]; exact wrap_u _
  have ur8 : u64B r8 := by rw [← hr8]; exact wrap_u _
  have ur10 : u64B r10 := by rw [← hr10]; exact wrap_u _
  obtain ⟨⟨fv, fb⟩, hfv⟩ : ∃ S, readZ l r10 1 = S := ⟨_, rfl⟩
  obtain ⟨⟨bv, bb⟩, hbv⟩ : ∃ S, readZ l rx 8 = S := ⟨_, rfl⟩
  obtain ⟨⟨sv, sb⟩, hsv⟩ : ∃ S, readZ l r8 2 = S := ⟨_, rfl⟩
  have HF1 := Aside0.mk (refReadW_of l r10 1 fv fb ur10 ⟨by decide, by decide⟩ hl7 hby hfv)
  have HF2 := Aside0.mk (refReadW_of l rx 8 bv bb urx ⟨by decide, by decide⟩ hl7 hby hbv)
  have HF3 := Aside0.mk (refReadW_of l r8 2 sv sb ur8 ⟨by decide, by decide⟩ hl7 hby hsv)
  have HW1 := Aside0.mk (show ∀ k : Nat, k < l.length → (l1.getD k 0 != l.getD k 0) = true → insB (2147483648 + k) t10 4 = true from fun k hk h => by
    have := send_within c mac.length l k hl7 hk (by rw [hS]; exact h); rw [hat, ht10] at this; exact this)
  have HW2 := Aside0.mk (show ∀ k : Nat, k < l.length → (l2.getD k 0 != l.getD k 0) = true → (fv % 2 == 0) = false ∧ 0 ≤ fv ∧ (insB (2147483648 + k) r8 6 = true ∨ (insB (2147483648 + k) r8 6 = false ∧ insB (2147483648 + k) bv (wrap64 sv) = true)) from fun k hk h => by
    have := recv_within c mac l fr k fv bv sv fb bb sb hl7 hby hk (by rw [har, hr10]; exact hfv) (by rw [har]; exact hbv) (by rw [har, hr8]; exact hsv) (by rw [hT]; exact h)
    rw [har, hr8] at this; exact this)
  have HS := Aside0.mk hS
  have HT := Aside0.mk hT
  have HBY := Aside0.mk hby
  have HK := Aside0.mk hk
  have HE1 := Aside0.mk e1
  have HE2 := Aside0.mk e2
  have hb1 : ((l1.length : Int) != (l.length : Int)) = false := by rw [e1]; simp
  have hb2 : ((l2.length : Int) != (l.length : Int)) = false := by rw [e2]; simp
  have hi1 : (l1.length : Int) = (l.length : Int) ↔ True := by rw [e1]; simp
  have hi2 : (l2.length : Int) = (l.length : Int) ↔ True := by rw [e2]; simp
  clear hk hby hS hT e1 e2 hat har hfv hbv hsv urx ur8 ur10
  clear hm hmc hr hc hf hfc
  go_enter Try.func8, Try.ntmps8
  go_upto_region 1 with fail
  obtain ⟨wa, hwa, on0, or0, hb_, hz0⟩ := letter2 w (.cells (C14 c (.slice A mac.length cap)) 25 (0, 0)) (.cells #[.slice R l.length rc] 27 (0, 0))
  rw [hwa]
  clear hwa
  have hzwa := Nat.le_of_eq hz0.symm
  clear hz0
  have on := Aside0.mk on0
  have orr := Aside0.mk or0
  clear on0 or0
  obtain ⟨onc, onf, onl⟩ := cells_of on.out
  obtain ⟨orrc, orrf, orrl⟩ := cells_of orr.out
  have HB_ : Aside0 (Below w.heap.size w wa) := ⟨hb_⟩
  have HM_ := Aside0.mk (Kd.F_below HM.out hb_)
  clear HM
  have HM := HM_
  clear HM_
  have HR_ := Aside0.mk (Kd.F_below HR.out hb_)
  clear HR
  have HR := HR_
  clear HR_
  have HF_ := Aside0.mk (Kd.F_below HF.out hb_)
  clear HF
  have HF := HF_
  clear HF_
  clear HB hb_
  have HB := HB_
  clear HB_
  go_wp2_with (first | ((with_reducible refine gate_dst (N := 34) rfl ?_); (try (refine gate_guard (by rfl) ?_; dsimp only)); refine wpList_load_row rfl 25 _ rfl _ (by rfl) _ (C14 c (.slice A mac.length cap)) _ _ (eG on) Try.underlying25 rfl i25 ?_))
  (go_at_call 9; (with_reducible refine (Check_of true c A mac.length cap _ HK.out).mono ?_); rintro e_ w1 ⟨rfl, hb_⟩; have HB_ : Aside0 (Below w.heap.size w w1) := Aside0.mk (below_step (bG HB) hb_); have hzw1 := hb_.size; (try simp at hzw1); have on_ := Aside0.mk (box_below hb_ (eG on)); have orr_ := Aside0.mk (box_below hb_ (eG orr)); have HM_ := Aside0.mk (Kd.F_below (fG HM) hb_); clear HM; have HM := HM_; clear HM_; have HR_ := Aside0.mk (Kd.F_below (fG HR) hb_); clear HR; have HR := HR_; clear HR_; have HF_ := Aside0.mk (Kd.F_below (fG HF) hb_); clear HF; have HF := HF_; clear HF_; (try clear on onc onf onl); have on := on_; clear on_; obtain ⟨onc, onf, onl⟩ := cells_of on.out; (try clear orr orrc orrf orrl); have orr := orr_; clear orr_; obtain ⟨orrc, orrf, orrl⟩ := cells_of orr.out; clear HB hb_; have HB := HB_; clear HB_)
  go_wp2_with (first | ((with_reducible refine gate_dst (N := 40) rfl ?_); (try (refine gate_guard (by rfl) ?_; dsimp only)); refine wpList_load_row rfl 25 _ rfl _ (by rfl) _ (C14 c (.slice A mac.length cap)) _ _ (eG on) Try.underlying25 rfl i25 ?_))
  (go_at_call 11; (with_reducible refine (Send_of (c1, l1, f1, b1) A mac.length cap R rc l c _ _ (fG HR) HC.out hl7 HBY.out HS.out).mono ?_); rintro e_ w2 ⟨A_s, c_s, A_q, c_q, rfl, hc_s, hr_s, hc_q, hr_q, hb_⟩; have HB_ : Aside0 (Below w.heap.size w w2) := Aside0.mk (below_step (bG HB) hb_); have hzw2 := hb_.size; (try simp at hzw2); have on_ := Aside0.mk (box_below hb_ (eG on)); have orr_ := Aside0.mk (box_below hb_ (eG orr)); have HM_ := Aside0.mk (Kd.F_below (fG HM) hb_); clear HM; have HM := HM_; clear HM_; have HR_ := Aside0.mk (Kd.F_below (fG HR) hb_); clear HR; have HR := HR_; clear HR_; have HF_ := Aside0.mk (Kd.F_below (fG HF) hb_); clear HF; have HF := HF_; clear HF_; (try clear on onc onf onl); have on := on_; clear on_; obtain ⟨onc, onf, onl⟩ := cells_of on.out; (try clear orr orrc orrf orrl); have orr := orr_; clear orr_; obtain ⟨orrc, orrf, orrl⟩ := cells_of orr.out; clear HB hb_; have HB := HB_; clear HB_; have sc := Aside0.mk hc_s; have s := Aside0.mk (Kd.F_bound hr_s); clear hc_s hr_s; have qc := Aside0.mk hc_q; have q := Aside0.mk (Kd.F_bound hr_q); clear hc_q hr_q; skip)
  clear q qc
  have ob := Aside0.mk (nb_2 w2 (.cells #[.int .i64 0, .int .i64 0, .int .i64 0, .int .u64 0, .int .i64 0, .int .i64 0, .int .i64 0, .int .u64 0, .int .i64 0, .int .i64 0, .int .i64 0, .int .i64 0, .int .i64 0, .slice none 0 0] 25 (0, 0)) (.cells #[.slice none 0 0] 27 (0, 0)))
  obtain ⟨obc, obf, obl⟩ := cells_of ob.out
  go_upto_region 4 with (first | ((with_reducible refine gate_store (t := 25) (p := 7) (v := .tmp 43) rfl ?_); refine wpList_store_all rfl 25 _ _ rfl rfl _ (C14 c1 (.slice A mac.length cap)) (by rfl) (by rfl) _ _ (ext_alloc (nb_1 _ _) _) rfl i25 (C14_one _ _ _ _) ?_; rintro w3 ⟨hx_, hk_, hb_, hzz_⟩; have HB_ : Aside0 (Below w.heap.size w w3) := Aside0.mk (Below.trans (bG HB) (Below.mono hb_ (by first | omega | (simp only [sz_alloc, sz_drew, sz_drewN]; omega)))); have hzw3 := Nat.le_of_eq hzz_.symm; (try simp at hzw3); clear hzz_; have ob_ := Aside0.mk (st_put ob.out hk_ (fun h_ => (by repeat (with_reducible first | exact h_ | apply ext_drew | apply ext_drewN | apply ext_alloc | refine blk_far ?_ (by show _ ≠ _; dsimp only; omega) _))) (by omega)); clear ob obc obf obl; have ob := ob_; clear ob_; obtain ⟨obc, obf, obl⟩ := cells_of ob.out; have on_ := Aside0.mk (st_put on.out hk_ (fun h_ => (by repeat (with_reducible first | exact h_ | apply ext_drew | apply ext_drewN | apply ext_alloc | refine blk_far ?_ (by show _ ≠ _; dsimp only; omega) _))) (by omega)); clear on onc onf onl; have on := on_; clear on_; obtain ⟨onc, onf, onl⟩ := cells_of on.out; have orr_ := Aside0.mk (st_put orr.out hk_ (fun h_ => (by repeat (with_reducible first | exact h_ | apply ext_drew | apply ext_drewN | apply ext_alloc | refine blk_far ?_ (by show _ ≠ _; dsimp only; omega) _))) (by omega)); clear orr orrc orrf orrl; have orr := orr_; clear orr_; obtain ⟨orrc, orrf, orrl⟩ := cells_of orr.out; have HM_ := Aside0.mk (Kd.F_step (fG HM) (fun j_ hj_ hl_ => hk_ j_ (by (try dsimp only at hj_); (try simp only [sz_alloc, sz_drew, sz_drewN, sz_set] at hj_); omega))); clear HM; have HM := HM_; clear HM_; have HR_ := Aside0.mk (Kd.F_step (fG HR) (fun j_ hj_ hl_ => hk_ j_ (by (try dsimp only at hj_); (try simp only [sz_alloc, sz_drew, sz_drewN, sz_set] at hj_); omega))); clear HR; have HR := HR_; clear HR_; have HF_ := Aside0.mk (Kd.F_step (fG HF) (fun j_ hj_ hl_ => hk_ j_ (by (try dsimp only at hj_); (try simp only [sz_alloc, sz_drew, sz_drewN, sz_set] at hj_); omega))); clear HF; have HF := HF_; clear HF_; have s_ := Aside0.mk (Kd.F_step (fG s) (fun j_ hj_ hl_ => hk_ j_ (by (try dsimp only at hj_); (try simp only [sz_alloc, sz_drew, sz_drewN, sz_set] at hj_); omega))); clear s; have s := s_; clear s_; (try clear oa oac oaf oal); have oa := Aside0.mk hx_; obtain ⟨oac, oaf, oal⟩ := cells_of oa.out; clear HB hb_ hk_ hx_; have HB := HB_; clear HB_))
  (have HM_ := Aside0.mk (Kd.F_far (p := ⟨w2.heap.size + 1, 0, none⟩) HM.out (fun j_ hj_ => by (try dsimp only at hj_); (try dsimp only); (try simp only [sz_alloc, sz_drew, sz_drewN, sz_set] at hj_); omega) (.slice A_s l1.length c_s)); clear HM; have HM := HM_; clear HM_; have HR_ := Aside0.mk (Kd.F_far (p := ⟨w2.heap.size + 1, 0, none⟩) HR.out (fun j_ hj_ => by (try dsimp only at hj_); (try dsimp only); (try simp only [sz_alloc, sz_drew, sz_drewN, sz_set] at hj_); omega) (.slice A_s l1.length c_s)); clear HR; have HR := HR_; clear HR_; have HF_ := Aside0.mk (Kd.F_far (p := ⟨w2.heap.size + 1, 0, none⟩) HF.out (fun j_ hj_ => by (try dsimp only at hj_); (try dsimp only); (try simp only [sz_alloc, sz_drew, sz_drewN, sz_set] at hj_); omega) (.slice A_s l1.length c_s)); clear HF; have HF := HF_; clear HF_; have s_ := Aside0.mk (Kd.F_far (p := ⟨w2.heap.size + 1, 0, none⟩) s.out (fun j_ hj_ => by (try dsimp only at hj_); (try dsimp only); (try simp only [sz_alloc, sz_drew, sz_drewN, sz_set] at hj_); omega) (.slice A_s l1.length c_s)); clear s; have s := s_; clear s_; have on_ := Aside0.mk (blk_far (p := ⟨w2.heap.size + 1, 0, none⟩) on.out (by show _ ≠ _; dsimp only; omega) (.slice A_s l1.length c_s)); clear on onc onf onl; have on := on_; clear on_; obtain ⟨onc, onf, onl⟩ := cells_of on.out; have orr_ := Aside0.mk (blk_far (p := ⟨w2.heap.size + 1, 0, none⟩) orr.out (by show _ ≠ _; dsimp only; omega) (.slice A_s l1.length c_s)); clear orr orrc orrf orrl; have orr := orr_; clear orr_; obtain ⟨orrc, orrf, orrl⟩ := cells_of orr.out; have oa_ := Aside0.mk (blk_far (p := ⟨w2.heap.size + 1, 0, none⟩) oa.out (by show _ ≠ _; dsimp only; omega) (.slice A_s l1.length c_s)); clear oa oac oaf oal; have oa := oa_; clear oa_; obtain ⟨oac, oaf, oal⟩ := cells_of oa.out; have ob_ := Aside0.mk (blk_put ob.out 0 (.slice A_s l1.length c_s) (cs' := #[.slice A_s l1.length c_s]) rfl); clear ob obc obf obl; have ob := ob_; clear ob_; obtain ⟨obc, obf, obl⟩ := cells_of ob.out)
  clear oa oac oaf oal
  go_wp2_with (first | ((with_reducible refine gate_dst (N := 48) rfl ?_); (try (refine gate_guard (by rfl) ?_; dsimp only)); refine wpList_load_row rfl 25 _ rfl _ (by rfl) _ (C14 c (.slice A mac.length cap)) _ _ (eG on) Try.underlying25 rfl i25 ?_))
  (go_at_call 27; (with_reducible refine (Recv_of (c2, l2, b2) A cap mac R rc l FA fc fr c _ _ _ _ (fG HM) HMC.out (fG HR) HC.out (fG HF) HFC.out hl7 HBY.out hf3 HT.out).mono ?_); rintro e_ w4 ⟨A_t, c_t, rfl, hc_t, hr_t, hb_⟩; have HB_ : Aside0 (Below w.heap.size w w4) := Aside0.mk (below_step (bG HB) hb_); have hzw4 := hb_.size; (try simp at hzw4); have on_ := Aside0.mk (box_below hb_ (eG on)); have orr_ := Aside0.mk (box_below hb_ (eG orr)); have ob_ := Aside0.mk (box_below hb_ (eG ob)); have HR_ := Aside0.mk (Kd.F_below (fG HR) hb_); clear HR; have HR := HR_; clear HR_; have s_ := Aside0.mk (Kd.F_below (fG s) hb_); clear s; have s := s_; clear s_; (try clear on onc onf onl); have on := on_; clear on_; obtain ⟨onc, onf, onl⟩ := cells_of on.out; (try clear orr orrc orrf orrl); have orr := orr_; clear orr_; obtain ⟨orrc, orrf, orrl⟩ := cells_of orr.out; (try clear ob obc obf obl); have ob := ob_; clear ob_; obtain ⟨obc, obf, obl⟩ := cells_of ob.out; clear HB hb_; have HB := HB_; clear HB_; have tc := Aside0.mk hc_t; have t := Aside0.mk (Kd.F_bound hr_t); clear hc_t hr_t; skip)
  clear HM HF
  have od := Aside0.mk (nb_2 w4 (.cells #[.int .i64 0, .int .i64 0, .int .i64 0, .int .u64 0, .int .i64 0, .int .i64 0, .int .i64 0, .int .u64 0, .int .i64 0, .int .i64 0, .int .i64 0, .int .i64 0, .int .i64 0, .slice none 0 0] 25 (0, 0)) (.cells #[.slice none 0 0] 27 (0, 0)))
  obtain ⟨odc, odf, odl⟩ := cells_of od.out
  go_upto_region 5 with (first | ((with_reducible refine gate_store (t := 25) (p := 11) (v := .tmp 52) rfl ?_); refine wpList_store_all rfl 25 _ _ rfl rfl _ (C14 c2 (.slice A mac.length cap)) (by rfl) (by rfl) _ _ (ext_alloc (nb_1 _ _) _) rfl i25 (C14_one _ _ _ _) ?_; rintro w5 ⟨hx_, hk_, hb_, hzz_⟩; have HB_ : Aside0 (Below w.heap.size w w5) := Aside0.mk (Below.trans (bG HB) (Below.mono hb_ (by first | omega | (simp only [sz_alloc, sz_drew, sz_drewN]; omega)))); have hzw5 := Nat.le_of_eq hzz_.symm; (try simp at hzw5); clear hzz_; have od_ := Aside0.mk (st_put od.out hk_ (fun h_ => (by repeat (with_reducible first | exact h_ | apply ext_drew | apply ext_drewN | apply ext_alloc | refine blk_far ?_ (by show _ ≠ _; dsimp only; omega) _))) (by omega)); clear od odc odf odl; have od := od_; clear od_; obtain ⟨odc, odf, odl⟩ := cells_of od.out; have on_ := Aside0.mk (st_put on.out hk_ (fun h_ => (by repeat (with_reducible first | exact h_ | apply ext_drew | apply ext_drewN | apply ext_alloc | refine blk_far ?_ (by show _ ≠ _; dsimp only; omega) _))) (by omega)); clear on onc onf onl; have on := on_; clear on_; obtain ⟨onc, onf, onl⟩ := cells_of on.out; have orr_ := Aside0.mk (st_put orr.out hk_ (fun h_ => (by repeat (with_reducible first | exact h_ | apply ext_drew | apply ext_drewN | apply ext_alloc | refine blk_far ?_ (by show _ ≠ _; dsimp only; omega) _))) (by omega)); clear orr orrc orrf orrl; have orr := orr_; clear orr_; obtain ⟨orrc, orrf, orrl⟩ := cells_of orr.out; have ob_ := Aside0.mk (st_put ob.out hk_ (fun h_ => (by repeat (with_reducible first | exact h_ | apply ext_drew | apply ext_drewN | apply ext_alloc | refine blk_far ?_ (by show _ ≠ _; dsimp only; omega) _))) (by omega)); clear ob obc obf obl; have ob := ob_; clear ob_; obtain ⟨obc, obf, obl⟩ := cells_of ob.out; have HR_ := Aside0.mk (Kd.F_step (fG HR) (fun j_ hj_ hl_ => hk_ j_ (by (try dsimp only at hj_); (try simp only [sz_alloc, sz_drew, sz_drewN, sz_set] at hj_); omega))); clear HR; have HR := HR_; clear HR_; have s_ := Aside0.mk (Kd.F_step (fG s) (fun j_ hj_ hl_ => hk_ j_ (by (try dsimp only at hj_); (try simp only [sz_alloc, sz_drew, sz_drewN, sz_set] at hj_); omega))); clear s; have s := s_; clear s_; have t_ := Aside0.mk (Kd.F_step (fG t) (fun j_ hj_ hl_ => hk_ j_ (by (try dsimp only at hj_); (try simp only [sz_alloc, sz_drew, sz_drewN, sz_set] at hj_); omega))); clear t; have t := t_; clear t_; (try clear oc occ ocf ocl); have oc := Aside0.mk hx_; obtain ⟨occ, ocf, ocl⟩ := cells_of oc.out; clear HB hb_ hk_ hx_; have HB := HB_; clear HB_))
  (have HR_ := Aside0.mk (Kd.F_far (p := ⟨w4.heap.size + 1, 0, none⟩) HR.out (fun j_ hj_ => by (try dsimp only at hj_); (try dsimp only); (try simp only [sz_alloc, sz_drew, sz_drewN, sz_set] at hj_); omega) (.slice A_t l2.length c_t)); clear HR; have HR := HR_; clear HR_; have s_ := Aside0.mk (Kd.F_far (p := ⟨w4.heap.size + 1, 0, none⟩) s.out (fun j_ hj_ => by (try dsimp only at hj_); (try dsimp only); (try simp only [sz_alloc, sz_drew, sz_drewN, sz_set] at hj_); omega) (.slice A_t l2.length c_t)); clear s; have s := s_; clear s_; have t_ := Aside0.mk (Kd.F_far (p := ⟨w4.heap.size + 1, 0, none⟩) t.out (fun j_ hj_ => by (try dsimp only at hj_); (try dsimp only); (try simp only [sz_alloc, sz_drew, sz_drewN, sz_set] at hj_); omega) (.slice A_t l2.length c_t)); clear t; have t := t_; clear t_; have on_ := Aside0.mk (blk_far (p := ⟨w4.heap.size + 1, 0, none⟩) on.out (by show _ ≠ _; dsimp only; omega) (.slice A_t l2.length c_t)); clear on onc onf onl; have on := on_; clear on_; obtain ⟨onc, onf, onl⟩ := cells_of on.out; have orr_ := Aside0.mk (blk_far (p := ⟨w4.heap.size + 1, 0, none⟩) orr.out (by show _ ≠ _; dsimp only; omega) (.slice A_t l2.length c_t)); clear orr orrc orrf orrl; have orr := orr_; clear orr_; obtain ⟨orrc, orrf, orrl⟩ := cells_of orr.out; have ob_ := Aside0.mk (blk_far (p := ⟨w4.heap.size + 1, 0, none⟩) ob.out (by show _ ≠ _; dsimp only; omega) (.slice A_t l2.length c_t)); clear ob obc obf obl; have ob := ob_; clear ob_; obtain ⟨obc, obf, obl⟩ := cells_of ob.out; have oc_ := Aside0.mk (blk_far (p := ⟨w4.heap.size + 1, 0, none⟩) oc.out (by show _ ≠ _; dsimp only; omega) (.slice A_t l2.length c_t)); clear oc occ ocf ocl; have oc := oc_; clear oc_; obtain ⟨occ, ocf, ocl⟩ := cells_of oc.out; have od_ := Aside0.mk (blk_put od.out 0 (.slice A_t l2.length c_t) (cs' := #[.slice A_t l2.length c_t]) rfl); clear od odc odf odl; have od := od_; clear od_; obtain ⟨odc, odf, odl⟩ := cells_of od.out)
  clear oc occ ocf ocl
  have HB_ : Aside0 (Below w.heap.size w (w5.setCell ⟨w4.heap.size + 1, 0, none⟩ (.slice A_t l2.length c_t))) := Aside0.mk (bG HB)
  clear HB
  have HB := HB_
  clear HB_
  obtain ⟨w6, hw6⟩ : ∃ x, w5.setCell ⟨w4.heap.size + 1, 0, none⟩ (.slice A_t l2.length c_t) = x := ⟨_, rfl⟩
  have hz6 : w6.heap.size = w5.heap.size := by rw [← hw6]; simp
  rw [hw6] at on onc onf onl orr orrc orrf orrl ob obc obf obl od odc odf odl HR s t HB ⊢
  clear hw6
  obtain ⟨gb, hgb⟩ : ∃ g, w2.heap.size + 1 = g := ⟨_, rfl⟩
  obtain ⟨gd, hgd⟩ : ∃ g, w4.heap.size + 1 = g := ⟨_, rfl⟩
  rw [hgb] at ob obc obf obl ⊢
  rw [hgd] at od odc odf odl ⊢
  have hc3 : w6.cell? ⟨w.heap.size, 3, none⟩ = some (.int .u64 (c 3)) := (onc 3).trans rfl
  have hc5 : w6.cell? ⟨w.heap.size, 5, none⟩ = some (.int .i64 (c 5)) := (onc 5).trans rfl
  have hc7 : w6.cell? ⟨w.heap.size, 7, none⟩ = some (.int .u64 (c 7)) := (onc 7).trans rfl
  have hc9 : w6.cell? ⟨w.heap.size, 9, none⟩ = some (.int .i64 (c 9)) := (onc 9).trans rfl
  clear onc
  go_upto_region 7 with fail
  go_region
  clear htx hrx hc3 hc5 hc7 hc9 on onf onl HK HS HT HFC HMC hb1 hb2 hi1 hi2 hq hq2
  go_wp2_with fail
  (go_at_call 12; (with_reducible refine (drawbridgeref07_Read.calls _ _ _ _ _ _ _ _ (Kd.F_now (fG HR)) HC.out HF1.out).mono ?_); rintro e_ w7 ⟨rfl, hb_⟩; have HB_ : Aside0 (Below w.heap.size w w7) := Aside0.mk (below_step (bG HB) hb_); have hzw7 := hb_.size; (try simp at hzw7); have orr_ := Aside0.mk (box_below hb_ (eG orr)); have ob_ := Aside0.mk (box_below hb_ (eG ob)); have od_ := Aside0.mk (box_below hb_ (eG od)); have HR_ := Aside0.mk (Kd.F_below (fG HR) hb_); clear HR; have HR := HR_; clear HR_; have s_ := Aside0.mk (Kd.F_below (fG s) hb_); clear s; have s := s_; clear s_; have t_ := Aside0.mk (Kd.F_below (fG t) hb_); clear t; have t := t_; clear t_; (try clear orr orrc orrf orrl); have orr := orr_; clear orr_; obtain ⟨orrc, orrf, orrl⟩ := cells_of orr.out; (try clear ob obc obf obl); have ob := ob_; clear ob_; obtain ⟨obc, obf, obl⟩ := cells_of ob.out; (try clear od odc odf odl); have od := od_; clear od_; obtain ⟨odc, odf, odl⟩ := cells_of od.out; clear HB hb_; have HB := HB_; clear HB_)
  go_wp2_with fail
  (go_at_call 12; (with_reducible refine (drawbridgeref07_Read.calls _ _ _ _ _ _ _ _ (Kd.F_now (fG HR)) HC.out HF2.out).mono ?_); rintro e_ w8 ⟨rfl, hb_⟩; have HB_ : Aside0 (Below w.heap.size w w8) := Aside0.mk (below_step (bG HB) hb_); have hzw8 := hb_.size; (try simp at hzw8); have orr_ := Aside0.mk (box_below hb_ (eG orr)); have ob_ := Aside0.mk (box_below hb_ (eG ob)); have od_ := Aside0.mk (box_below hb_ (eG od)); have HR_ := Aside0.mk (Kd.F_below (fG HR) hb_); clear HR; have HR := HR_; clear HR_; have s_ := Aside0.mk (Kd.F_below (fG s) hb_); clear s; have s := s_; clear s_; have t_ := Aside0.mk (Kd.F_below (fG t) hb_); clear t; have t := t_; clear t_; (try clear orr orrc orrf orrl); have orr := orr_; clear orr_; obtain ⟨orrc, orrf, orrl⟩ := cells_of orr.out; (try clear ob obc obf obl); have ob := ob_; clear ob_; obtain ⟨obc, obf, obl⟩ := cells_of ob.out; (try clear od odc odf odl); have od := od_; clear od_; obtain ⟨odc, odf, odl⟩ := cells_of od.out; clear HB hb_; have HB := HB_; clear HB_)
  go_wp2_with fail
  (go_at_call 12; (with_reducible refine (drawbridgeref07_Read.calls _ _ _ _ _ _ _ _ (Kd.F_now (fG HR)) HC.out HF3.out).mono ?_); rintro e_ w9 ⟨rfl, hb_⟩; have HB_ : Aside0 (Below w.heap.size w w9) := Aside0.mk (below_step (bG HB) hb_); have hzw9 := hb_.size; (try simp at hzw9); have orr_ := Aside0.mk (box_below hb_ (eG orr)); have ob_ := Aside0.mk (box_below hb_ (eG ob)); have od_ := Aside0.mk (box_below hb_ (eG od)); have HR_ := Aside0.mk (Kd.F_below (fG HR) hb_); clear HR; have HR := HR_; clear HR_; have s_ := Aside0.mk (Kd.F_below (fG s) hb_); clear s; have s := s_; clear s_; have t_ := Aside0.mk (Kd.F_below (fG t) hb_); clear t; have t := t_; clear t_; (try clear orr orrc orrf orrl); have orr := orr_; clear orr_; obtain ⟨orrc, orrf, orrl⟩ := cells_of orr.out; (try clear ob obc obf obl); have ob := ob_; clear ob_; obtain ⟨obc, obf, obl⟩ := cells_of ob.out; (try clear od odc odf odl); have od := od_; clear od_; obtain ⟨odc, odf, odl⟩ := cells_of od.out; clear HB hb_; have HB := HB_; clear HB_)
  clear HF1 HF2 HF3 hr10 orrc obc odc
  have orrc := trivial
  have obc := trivial
  have odc := trivial
  have he1 := HE1.out
  have he2 := HE2.out
  have hgb2 : w.heap.size + 1 < gb := by omega
  have hgd2 : gb < gd := by omega
  clear HE1 HE2
  have HE1 := Aside0.mk (show l1.length = l.length ∧ l2.length = l.length from ⟨he1, he2⟩)
  clear he1 he2 hgb hgd hz6 hzw9 hzw8 hzw7 hzwa hzw1 hzw2 hzw3 hzw4 hzw5 orrf orrl obf obl odf odl
  go_wp2_with fail
  go_loopw [22] (fun i wx => ∃ k : Nat, i = .int .i64 k ∧ k ≤ l.length ∧ Aside0 (wx.heap[w.heap.size + 1]? = some (.cells #[.slice R l.length rc] 27 (0, 0))) ∧ Aside0 (wx.heap[gb]? = some (.cells #[.slice A_s l1.length c_s] 27 (0, 0))) ∧ Aside0 (wx.heap[gd]? = some (.cells #[.slice A_t l2.length c_t] 27 (0, 0))) ∧ Aside0 (Kd.F (Kd.int .u8) wx (fun _ => True) R l.length l) ∧ Aside0 (Kd.F (Kd.int .u8) wx (fun _ => True) A_s l1.length l1) ∧ Aside0 (Kd.F (Kd.int .u8) wx (fun _ => True) A_t l2.length l2) ∧ Aside0 (Below w.heap.size w wx)) (fun i _ => l.length - (intOf i).toNat)
  case atStart => exact ⟨0, rfl, Nat.zero_le _, orr, ob, od, ⟨Kd.F_mono HR.out (fun _ _ => trivial)⟩, ⟨Kd.F_mono s.out (fun _ _ => trivial)⟩, ⟨Kd.F_mono t.out (fun _ _ => trivial)⟩, HB⟩
  case round =>
    clear orr ob od HR s t HB orrc obc odc
    obtain ⟨k, rfl, hk, orr, ob, od, HR, s, t, HB⟩ := hrel
    obtain ⟨orrc, orrf, orrl⟩ := cells_of orr.out
    obtain ⟨obc, obf, obl⟩ := cells_of ob.out
    obtain ⟨odc, odf, odl⟩ := cells_of od.out
    by_cases hlt : k < l.length
    · obtain ⟨he1, he2⟩ := HE1.out
      obtain ⟨ar, rfl⟩ := row_some HR.out k hlt
      obtain ⟨ad1, rfl⟩ := row_some s.out k (by omega)
      obtain ⟨at2, rfl⟩ := row_some t.out k (by omega)
      have hb : decide ((k : Int) < (l.length : Int)) = true := decide_eq_true (by omega)
      have hks : (k : Int) < (l1.length : Int) := by omega
      have hkt : (k : Int) < (l2.length : Int) := by omega
      have hk0 : (k : Int) < (l.length : Int) := by omega
      have hku : IntKind.u64.wrap (k : Int) = k := by rw [IntKind.wrap_u64]; omega
      have hkv : IntKind.u64.wrap (2147483648 + (k : Int)) = 2147483648 + k := by rw [IntKind.wrap_u64]; omega
      have hkw : IntKind.i64.wrap ((k : Int) + 1) = (k : Int) + 1 := by rw [IntKind.wrap_i64]; omega
      have hw1 := HW1.out k hlt
      have hw2 := HW2.out k hlt
      obtain ⟨x0, hx0⟩ : ∃ x, l.getD k 0 = x := ⟨_, rfl⟩
      obtain ⟨x1, hx1⟩ : ∃ x, l1.getD k 0 = x := ⟨_, rfl⟩
      obtain ⟨x2, hx2⟩ : ∃ x, l2.getD k 0 = x := ⟨_, rfl⟩
      rw [hx0, hx1] at hw1
      rw [hx0, hx2] at hw2
      have X0 := Aside0.mk hx0
      have X1 := Aside0.mk hx1
      have X2 := Aside0.mk hx2
      have HE3 := Aside0.mk he1
      have HE4 := Aside0.mk he2
      obtain ⟨d1, hd1⟩ : ∃ b, (x1 != x0) = b := ⟨_, rfl⟩
      obtain ⟨d2, hd2⟩ : ∃ b, (x2 != x0) = b := ⟨_, rfl⟩
      rw [hd1] at hw1
      rw [hd2] at hw2
      have HWA := Aside0.mk hw1
      have HWB := Aside0.mk hw2
      have hcr : wr.cell? ⟨w.heap.size + 1, 0, none⟩ = some (.slice (some ar) l.length rc) := (orrc 0).trans rfl
      clear hx0 hx1 hx2 he1 he2 hw1 hw2 orrf obf odf orrl obl odl orrc obc odc hlt
      have orrc := trivial
      have obc := trivial
      have odc := trivial
      go_upto_region 15 with fail
      go_cut [132] (fun v wx => v = .bool false ∧ Aside0 (wx.heap[w.heap.size + 1]? = some (.cells #[.slice (some ar) l.length rc] 27 (0, 0))) ∧ Aside0 (wx.heap[gb]? = some (.cells #[.slice (some ad1) l1.length c_s] 27 (0, 0))) ∧ Aside0 (wx.heap[gd]? = some (.cells #[.slice (some at2) l2.length c_t] 27 (0, 0))) ∧ Aside0 (Kd.F (Kd.int .u8) wx (fun _ => True) (some ar) l.length l) ∧ Aside0 (Kd.F (Kd.int .u8) wx (fun _ => True) (some ad1) l1.length l1) ∧ Aside0 (Kd.F (Kd.int .u8) wx (fun _ => True) (some at2) l2.length l2) ∧ Aside0 (Below w.heap.size w wx))
      case first =>
        cases d1
        case false =>
          clear HWA
          refine start_ (n := 18) (S := fun w' => w'.cell? ⟨gb, 0, none⟩ = some (.slice (some ad1) l1.length c_s) ∧ w'.cell? ⟨w.heap.size + 1, 0, none⟩ = some (.slice (some ar) l.length rc) ∧ w'.cell? (ad1.add k) = some (.int .u8 x1) ∧ w'.cell? (ar.add k) = some (.int .u8 x0)) (ds := []) (bs18 0) (by kernel_rfl) rfl rfl ⟨((cells_of (eG ob)).1 0).trans rfl, ((cells_of (eG orr)).1 0).trans rfl, row_at (fG s) k (by omega) X1.out, row_at (fG HR) k (by omega) X0.out⟩ (fun hHeld => ?_)
          refine pure_ (i := 0) (N := some 115) (v := ?_) (a' := ?_) (bs18 1) rfl rfl (by kernel_rfl) (fun _ _ _ h => h) (Or.inl ⟨by rfl, ?_⟩) ?_ ?_
          rotate_left
          · intro w'
            go_simp
            with_reducible rfl
          rotate_left
          · simp only [Act.put, List.setIfInBounds_toArray, List.set_cons_zero, List.set_cons_succ, i64_w, i32_w]
            rfl
          refine take_ (i := 1) (N := some 116) (v := ?_) (a' := ?_) (bs18 3) rfl rfl (by kernel_rfl) (fun _ _ _ h => h) (Or.inl ⟨by rfl, ?_⟩) hHeld ?_ ?_
          rotate_left
          · rintro w' ⟨h_, _, _, _⟩
            go_simp
            with_reducible rfl
          rotate_left
          · simp only [Act.put, List.setIfInBounds_toArray, List.set_cons_zero, List.set_cons_succ, i64_w, i32_w]
            rfl
          refine pure_ (i := 2) (N := some 117) (v := ?_) (a' := ?_) (bs18 7) rfl rfl (by kernel_rfl) (fun _ _ _ h => h) (Or.inl ⟨by rfl, ?_⟩) ?_ ?_
          rotate_left
          · intro w'
            go_simp
            with_reducible rfl
          rotate_left
          · simp only [Act.put, List.setIfInBounds_toArray, List.set_cons_zero, List.set_cons_succ, i64_w, i32_w]
            rfl
          refine pure_ (i := 3) (N := some 118) (v := ?_) (a' := ?_) (bs18 15) rfl rfl (by kernel_rfl) (fun _ _ _ h => h) (Or.inl ⟨by rfl, ?_⟩) ?_ ?_
          rotate_left
          · intro w'
            go_simp
            with_reducible rfl
          rotate_left
          · simp only [Act.put, List.setIfInBounds_toArray, List.set_cons_zero, List.set_cons_succ, i64_w, i32_w]
            rfl
          refine take_ (i := 4) (N := some 119) (v := ?_) (a' := ?_) (bs18 31) rfl rfl (by kernel_rfl) (fun _ _ _ h => h) (Or.inl ⟨by rfl, ?_⟩) hHeld ?_ ?_
          rotate_left
          · rintro w' ⟨_, _, h_, _⟩
            go_simp
            with_reducible rfl
          rotate_left
          · simp only [Act.put, List.setIfInBounds_toArray, List.set_cons_zero, List.set_cons_succ, i64_w, i32_w]
            rfl
          refine pure_ (i := 5) (N := some 120) (v := ?_) (a' := ?_) (bs18 63) rfl rfl (by kernel_rfl) (fun _ _ _ h => h) (Or.inl ⟨by rfl, ?_⟩) ?_ ?_
          rotate_left
          · intro w'
            go_simp
            with_reducible rfl
          rotate_left
          · simp only [Act.put, List.setIfInBounds_toArray, List.set_cons_zero, List.set_cons_succ, i64_w, i32_w]
            rfl
          refine take_ (i := 6) (N := some 121) (v := ?_) (a' := ?_) (bs18 127) rfl rfl (by kernel_rfl) (fun _ _ _ h => h) (Or.inl ⟨by rfl, ?_⟩) hHeld ?_ ?_
          rotate_left
          · rintro w' ⟨_, h_, _, _⟩
            go_simp
            with_reducible rfl
          rotate_left
          · simp only [Act.put, List.setIfInBounds_toArray, List.set_cons_zero, List.set_cons_succ, i64_w, i32_w]
            rfl
          refine pure_ (i := 7) (N := some 122) (v := ?_) (a' := ?_) (bs18 255) rfl rfl (by kernel_rfl) (fun _ _ _ h => h) (Or.inl ⟨by rfl, ?_⟩) ?_ ?_
          rotate_left
          · intro w'
            go_simp
            with_reducible rfl
          rotate_left
          · simp only [Act.put, List.setIfInBounds_toArray, List.set_cons_zero, List.set_cons_succ, i64_w, i32_w]
            rfl
          refine pure_ (i := 8) (N := some 123) (v := ?_) (a' := ?_) (bs18 511) rfl rfl (by kernel_rfl) (fun _ _ _ h => h) (Or.inl ⟨by rfl, ?_⟩) ?_ ?_
          rotate_left
          · intro w'
            go_simp
            with_reducible rfl
          rotate_left
          · simp only [Act.put, List.setIfInBounds_toArray, List.set_cons_zero, List.set_cons_succ, i64_w, i32_w]
            rfl
          refine take_ (i := 9) (N := some 124) (v := ?_) (a' := ?_) (bs18 1023) rfl rfl (by kernel_rfl) (fun _ _ _ h => h) (Or.inl ⟨by rfl, ?_⟩) hHeld ?_ ?_
          rotate_left
          · rintro w' ⟨_, _, _, h_⟩
            go_simp
            with_reducible rfl
          rotate_left
          · simp only [Act.put, List.setIfInBounds_toArray, List.set_cons_zero, List.set_cons_succ, i64_w, i32_w]
            rfl
          refine pure_ (i := 10) (N := some 125) (v := ?_) (a' := ?_) (bs18 2047) rfl rfl (by kernel_rfl) (fun _ _ _ h => h) (Or.inl ⟨by rfl, ?_⟩) ?_ ?_
          rotate_left
          · intro w'
            go_simp
            with_reducible rfl
          rotate_left
          · simp only [Act.put, List.setIfInBounds_toArray, List.set_cons_zero, List.set_cons_succ, i64_w, i32_w]
            rfl
          refine pure_ (i := 11) (N := some 126) (v := ?_) (a' := ?_) (bs18 4095) rfl rfl (by kernel_rfl) (fun _ _ _ h => h) (Or.inl ⟨by rfl, ?_⟩) ?_ ?_
          rotate_left
          · intro w'
            go_simp
            with_reducible rfl
          rotate_left
          · simp only [Act.put, List.setIfInBounds_toArray, List.set_cons_zero, List.set_cons_succ, i64_w, i32_w]
            rfl
          refine pure_ (i := 12) (N := some 127) (v := undef) (a' := ?_) (bs18 8191) rfl rfl (by kernel_rfl) (fun _ _ _ h => h) (Or.inr ⟨by rfl, rfl⟩) ?_ ?_
          rotate_left
          · simp only [Act.put, List.setIfInBounds_toArray, List.set_cons_zero, List.set_cons_succ, i64_w, i32_w]
            rfl
          refine pure_ (i := 13) (N := some 128) (v := undef) (a' := ?_) (bs18 16383) rfl rfl (by kernel_rfl) (fun _ _ _ h => h) (Or.inr ⟨by rfl, rfl⟩) ?_ ?_
          rotate_left
          · simp only [Act.put, List.setIfInBounds_toArray, List.set_cons_zero, List.set_cons_succ, i64_w, i32_w]
            rfl
          refine pure_ (i := 14) (N := some 129) (v := undef) (a' := ?_) (bs18 32767) rfl rfl (by kernel_rfl) (fun _ _ _ h => h) (Or.inr ⟨by rfl, rfl⟩) ?_ ?_
          rotate_left
          · simp only [Act.put, List.setIfInBounds_toArray, List.set_cons_zero, List.set_cons_succ, i64_w, i32_w]
            rfl
          refine pure_ (i := 15) (N := some 130) (v := undef) (a' := ?_) (bs18 65535) rfl rfl (by kernel_rfl) (fun _ _ _ h => h) (Or.inr ⟨by rfl, rfl⟩) ?_ ?_
          rotate_left
          · simp only [Act.put, List.setIfInBounds_toArray, List.set_cons_zero, List.set_cons_succ, i64_w, i32_w]
            rfl
          refine pure_ (i := 16) (N := some 131) (v := undef) (a' := ?_) (bs18 131071) rfl rfl (by kernel_rfl) (fun _ _ _ h => h) (Or.inr ⟨by rfl, rfl⟩) ?_ ?_
          rotate_left
          · simp only [Act.put, List.setIfInBounds_toArray, List.set_cons_zero, List.set_cons_succ, i64_w, i32_w]
            rfl
          refine pure_ (i := 17) (N := some 132) (v := ?_) (a' := ?_) (bs18 262143) rfl rfl (by kernel_rfl) (fun _ _ _ h => h) (Or.inl ⟨by rfl, ?_⟩) ?_ ?_
          rotate_left
          · intro w'
            go_simp
            with_reducible rfl
          rotate_left
          · simp only [Act.put, List.setIfInBounds_toArray, List.set_cons_zero, List.set_cons_succ, i64_w, i32_w]
            rfl
          refine done_ (by kernel_rfl) ?_
          go_wp2_with fail
          go_meet
          exact ⟨rfl, ⟨(eG orr)⟩, ⟨(eG ob)⟩, ⟨(eG od)⟩, ⟨(fG HR)⟩, ⟨(fG s)⟩, ⟨(fG t)⟩, ⟨(bG HB)⟩⟩
        case true =>
          have HI4 := Aside0.mk (HWA.out rfl)
          refine start_ (n := 18) (S := fun w' => w'.cell? ⟨gb, 0, none⟩ = some (.slice (some ad1) l1.length c_s) ∧ w'.cell? ⟨w.heap.size + 1, 0, none⟩ = some (.slice (some ar) l.length rc) ∧ w'.cell? (ad1.add k) = some (.int .u8 x1) ∧ w'.cell? (ar.add k) = some (.int .u8 x0)) (ds := []) (bs18 0) (by kernel_rfl) rfl rfl ⟨((cells_of (eG ob)).1 0).trans rfl, ((cells_of (eG orr)).1 0).trans rfl, row_at (fG s) k (by omega) X1.out, row_at (fG HR) k (by omega) X0.out⟩ (fun hHeld => ?_)
          refine pure_ (i := 0) (N := some 115) (v := ?_) (a' := ?_) (bs18 1) rfl rfl (by kernel_rfl) (fun _ _ _ h => h) (Or.inl ⟨by rfl, ?_⟩) ?_ ?_
          rotate_left
          · intro w'
            go_simp
            with_reducible rfl
          rotate_left
          · simp only [Act.put, List.setIfInBounds_toArray, List.set_cons_zero, List.set_cons_succ, i64_w, i32_w]
            rfl
          refine take_ (i := 1) (N := some 116) (v := ?_) (a' := ?_) (bs18 3) rfl rfl (by kernel_rfl) (fun _ _ _ h => h) (Or.inl ⟨by rfl, ?_⟩) hHeld ?_ ?_
          rotate_left
          · rintro w' ⟨h_, _, _, _⟩
            go_simp
            with_reducible rfl
          rotate_left
          · simp only [Act.put, List.setIfInBounds_toArray, List.set_cons_zero, List.set_cons_succ, i64_w, i32_w]
            rfl
          refine pure_ (i := 2) (N := some 117) (v := ?_) (a' := ?_) (bs18 7) rfl rfl (by kernel_rfl) (fun _ _ _ h => h) (Or.inl ⟨by rfl, ?_⟩) ?_ ?_
          rotate_left
          · intro w'
            go_simp
            with_reducible rfl
          rotate_left
          · simp only [Act.put, List.setIfInBounds_toArray, List.set_cons_zero, List.set_cons_succ, i64_w, i32_w]
            rfl
          refine pure_ (i := 3) (N := some 118) (v := ?_) (a' := ?_) (bs18 15) rfl rfl (by kernel_rfl) (fun _ _ _ h => h) (Or.inl ⟨by rfl, ?_⟩) ?_ ?_
          rotate_left
          · intro w'
            go_simp
            with_reducible rfl
          rotate_left
          · simp only [Act.put, List.setIfInBounds_toArray, List.set_cons_zero, List.set_cons_succ, i64_w, i32_w]
            rfl
          refine take_ (i := 4) (N := some 119) (v := ?_) (a' := ?_) (bs18 31) rfl rfl (by kernel_rfl) (fun _ _ _ h => h) (Or.inl ⟨by rfl, ?_⟩) hHeld ?_ ?_
          rotate_left
          · rintro w' ⟨_, _, h_, _⟩
            go_simp
            with_reducible rfl
          rotate_left
          · simp only [Act.put, List.setIfInBounds_toArray, List.set_cons_zero, List.set_cons_succ, i64_w, i32_w]
            rfl
          refine pure_ (i := 5) (N := some 120) (v := ?_) (a' := ?_) (bs18 63) rfl rfl (by kernel_rfl) (fun _ _ _ h => h) (Or.inl ⟨by rfl, ?_⟩) ?_ ?_
          rotate_left
          · intro w'
            go_simp
            with_reducible rfl
          rotate_left
          · simp only [Act.put, List.setIfInBounds_toArray, List.set_cons_zero, List.set_cons_succ, i64_w, i32_w]
            rfl
          refine take_ (i := 6) (N := some 121) (v := ?_) (a' := ?_) (bs18 127) rfl rfl (by kernel_rfl) (fun _ _ _ h => h) (Or.inl ⟨by rfl, ?_⟩) hHeld ?_ ?_
          rotate_left
          · rintro w' ⟨_, h_, _, _⟩
            go_simp
            with_reducible rfl
          rotate_left
          · simp only [Act.put, List.setIfInBounds_toArray, List.set_cons_zero, List.set_cons_succ, i64_w, i32_w]
            rfl
          refine pure_ (i := 7) (N := some 122) (v := ?_) (a' := ?_) (bs18 255) rfl rfl (by kernel_rfl) (fun _ _ _ h => h) (Or.inl ⟨by rfl, ?_⟩) ?_ ?_
          rotate_left
          · intro w'
            go_simp
            with_reducible rfl
          rotate_left
          · simp only [Act.put, List.setIfInBounds_toArray, List.set_cons_zero, List.set_cons_succ, i64_w, i32_w]
            rfl
          refine pure_ (i := 8) (N := some 123) (v := ?_) (a' := ?_) (bs18 511) rfl rfl (by kernel_rfl) (fun _ _ _ h => h) (Or.inl ⟨by rfl, ?_⟩) ?_ ?_
          rotate_left
          · intro w'
            go_simp
            with_reducible rfl
          rotate_left
          · simp only [Act.put, List.setIfInBounds_toArray, List.set_cons_zero, List.set_cons_succ, i64_w, i32_w]
            rfl
          refine take_ (i := 9) (N := some 124) (v := ?_) (a' := ?_) (bs18 1023) rfl rfl (by kernel_rfl) (fun _ _ _ h => h) (Or.inl ⟨by rfl, ?_⟩) hHeld ?_ ?_
          rotate_left
          · rintro w' ⟨_, _, _, h_⟩
            go_simp
            with_reducible rfl
          rotate_left
          · simp only [Act.put, List.setIfInBounds_toArray, List.set_cons_zero, List.set_cons_succ, i64_w, i32_w]
            rfl
          refine pure_ (i := 10) (N := some 125) (v := ?_) (a' := ?_) (bs18 2047) rfl rfl (by kernel_rfl) (fun _ _ _ h => h) (Or.inl ⟨by rfl, ?_⟩) ?_ ?_
          rotate_left
          · intro w'
            go_simp
            with_reducible rfl
          rotate_left
          · simp only [Act.put, List.setIfInBounds_toArray, List.set_cons_zero, List.set_cons_succ, i64_w, i32_w]
            rfl
          refine pure_ (i := 11) (N := some 126) (v := ?_) (a' := ?_) (bs18 4095) rfl rfl (by kernel_rfl) (fun _ _ _ h => h) (Or.inl ⟨by rfl, ?_⟩) ?_ ?_
          rotate_left
          · intro w'
            go_simp
            with_reducible rfl
          rotate_left
          · simp only [Act.put, List.setIfInBounds_toArray, List.set_cons_zero, List.set_cons_succ, i64_w, i32_w]
            rfl
          refine pure_ (i := 12) (N := some 127) (v := ?_) (a' := ?_) (bs18 8191) rfl rfl (by kernel_rfl) (fun _ _ _ h => h) (Or.inl ⟨by rfl, ?_⟩) ?_ ?_
          rotate_left
          · intro w'
            go_simp
            with_reducible rfl
          rotate_left
          · simp only [Act.put, List.setIfInBounds_toArray, List.set_cons_zero, List.set_cons_succ, i64_w, i32_w]
            rfl
          refine pure_ (i := 13) (N := some 128) (v := ?_) (a' := ?_) (bs18 16383) rfl rfl (by kernel_rfl) (fun _ _ _ h => h) (Or.inl ⟨by rfl, ?_⟩) ?_ ?_
          rotate_left
          · intro w'
            go_simp
            with_reducible rfl
          rotate_left
          · simp only [Act.put, List.setIfInBounds_toArray, List.set_cons_zero, List.set_cons_succ, i64_w, i32_w]
            rfl
          refine pure_ (i := 14) (N := some 129) (v := ?_) (a' := ?_) (bs18 32767) rfl rfl (by kernel_rfl) (fun _ _ _ h => h) (Or.inl ⟨by rfl, ?_⟩) ?_ ?_
          rotate_left
          · intro w'
            go_simp
            with_reducible rfl
          rotate_left
          · simp only [Act.put, List.setIfInBounds_toArray, List.set_cons_zero, List.set_cons_succ, i64_w, i32_w]
            rfl
          refine one_ (i := 15) (N := some 130) (bs18 65535) rfl rfl (by kernel_rfl) (by decide) (fun K hK => ?_)
          (refine goes_ Try.func29 (by kernel_rfl) rfl #[.int .u64 (2147483648 + (k : Int)), .int .u64 t10, .int .i64 4] (by rfl) rfl rfl (by (try simp only [List.map_toArray, List.map_cons, List.map_nil]); first | done | rfl) ?_; (with_reducible refine (ins_of true _ _ _ _ HI4.out).mono ?_); rintro e_ wa1 ⟨rfl, hb_⟩; refine ⟨_, rfl, ?_⟩; have HB_ : Aside0 (Below w.heap.size w wa1) := Aside0.mk (below_step (bG HB) hb_); have hzwa1 := hb_.size; (try simp at hzwa1); have orr_ := Aside0.mk (box_below hb_ (eG orr)); have ob_ := Aside0.mk (box_below hb_ (eG ob)); have od_ := Aside0.mk (box_below hb_ (eG od)); have HR_ := Aside0.mk (Kd.F_below (fG HR) hb_); clear HR; have HR := HR_; clear HR_; have s_ := Aside0.mk (Kd.F_below (fG s) hb_); clear s; have s := s_; clear s_; have t_ := Aside0.mk (Kd.F_below (fG t) hb_); clear t; have t := t_; clear t_; (try clear orr orrc orrf orrl); have orr := orr_; clear orr_; obtain ⟨orrc, orrf, orrl⟩ := cells_of orr.out; (try clear ob obc obf obl); have ob := ob_; clear ob_; obtain ⟨obc, obf, obl⟩ := cells_of ob.out; (try clear od odc odf odl); have od := od_; clear od_; obtain ⟨odc, odf, odl⟩ := cells_of od.out; clear HB hb_; have HB := HB_; clear HB_)
          refine hK.out _ _ ⟨((cells_of (eG ob)).1 0).trans rfl, ((cells_of (eG orr)).1 0).trans rfl, row_at (fG s) k (by omega) X1.out, row_at (fG HR) k (by omega) X0.out⟩ (fun hHeld => ?_)
          clear hK K
          refine norm_ (a' := ?_) ?_ ?_
          rotate_left
          · simp only [Act.put, List.setIfInBounds_toArray, List.set_cons_zero, List.set_cons_succ, i64_w, i32_w]
            rfl
          refine pure_ (i := 16) (N := some 131) (v := ?_) (a' := ?_) (bs18 131071) rfl rfl (by kernel_rfl) (fun _ _ _ h => h) (Or.inl ⟨by rfl, ?_⟩) ?_ ?_
          rotate_left
          · intro w'
            go_simp
            with_reducible rfl
          rotate_left
          · simp only [Act.put, List.setIfInBounds_toArray, List.set_cons_zero, List.set_cons_succ, i64_w, i32_w]
            rfl
          refine pure_ (i := 17) (N := some 132) (v := ?_) (a' := ?_) (bs18 262143) rfl rfl (by kernel_rfl) (fun _ _ _ h => h) (Or.inl ⟨by rfl, ?_⟩) ?_ ?_
          rotate_left
          · intro w'
            go_simp
            with_reducible rfl
          rotate_left
          · simp only [Act.put, List.setIfInBounds_toArray, List.set_cons_zero, List.set_cons_succ, i64_w, i32_w]
            rfl
          refine done_ (by kernel_rfl) ?_
          go_wp2_with fail
          go_meet
          exact ⟨rfl, ⟨(eG orr)⟩, ⟨(eG ob)⟩, ⟨(eG od)⟩, ⟨(fG HR)⟩, ⟨(fG s)⟩, ⟨(fG t)⟩, ⟨(bG HB)⟩⟩
      case rest =>
      clear orr ob od HR s t HB hcr HWA
      obtain ⟨rfl, orr, ob, od, HR, s, t, HB⟩ := hcut
      rename World => wc
      go_upto_region 17 with fail
      cases d2
      case false =>
        clear HWB
        refine start_ (n := 31) (S := fun w' => w'.cell? ⟨gd, 0, none⟩ = some (.slice (some at2) l2.length c_t) ∧ w'.cell? ⟨w.heap.size + 1, 0, none⟩ = some (.slice (some ar) l.length rc) ∧ w'.cell? (at2.add k) = some (.int .u8 x2) ∧ w'.cell? (ar.add k) = some (.int .u8 x0)) (ds := []) (bs31 0) (by kernel_rfl) rfl rfl ⟨((cells_of (eG od)).1 0).trans rfl, ((cells_of (eG orr)).1 0).trans rfl, row_at (fG t) k (by omega) X2.out, row_at (fG HR) k (by omega) X0.out⟩ (fun hHeld => ?_)
        refine pure_ (i := 0) (N := some 133) (v := ?_) (a' := ?_) (bs31 1) rfl rfl (by kernel_rfl) (fun _ _ _ h => h) (Or.inl ⟨by rfl, ?_⟩) ?_ ?_
        rotate_left
        · intro w'
          go_simp
          with_reducible rfl
        rotate_left
        · simp only [Act.put, List.setIfInBounds_toArray, List.set_cons_zero, List.set_cons_succ, i64_w, i32_w]
          rfl
        refine take_ (i := 1) (N := some 134) (v := ?_) (a' := ?_) (bs31 3) rfl rfl (by kernel_rfl) (fun _ _ _ h => h) (Or.inl ⟨by rfl, ?_⟩) hHeld ?_ ?_
        rotate_left
        · rintro w' ⟨h_, _, _, _⟩
          go_simp
          with_reducible rfl
        rotate_left
        · simp only [Act.put, List.setIfInBounds_toArray, List.set_cons_zero, List.set_cons_succ, i64_w, i32_w]
          rfl
        refine pure_ (i := 2) (N := some 135) (v := ?_) (a' := ?_) (bs31 7) rfl rfl (by kernel_rfl) (fun _ _ _ h => h) (Or.inl ⟨by rfl, ?_⟩) ?_ ?_
        rotate_left
        · intro w'
          go_simp
          with_reducible rfl
        rotate_left
        · simp only [Act.put, List.setIfInBounds_toArray, List.set_cons_zero, List.set_cons_succ, i64_w, i32_w]
          rfl
        refine pure_ (i := 3) (N := some 136) (v := ?_) (a' := ?_) (bs31 15) rfl rfl (by kernel_rfl) (fun _ _ _ h => h) (Or.inl ⟨by rfl, ?_⟩) ?_ ?_
        rotate_left
        · intro w'
          go_simp
          with_reducible rfl
        rotate_left
        · simp only [Act.put, List.setIfInBounds_toArray, List.set_cons_zero, List.set_cons_succ, i64_w, i32_w]
          rfl
        refine take_ (i := 4) (N := some 137) (v := ?_) (a' := ?_) (bs31 31) rfl rfl (by kernel_rfl) (fun _ _ _ h => h) (Or.inl ⟨by rfl, ?_⟩) hHeld ?_ ?_
        rotate_left
        · rintro w' ⟨_, _, h_, _⟩
          go_simp
          with_reducible rfl
        rotate_left
        · simp only [Act.put, List.setIfInBounds_toArray, List.set_cons_zero, List.set_cons_succ, i64_w, i32_w]
          rfl
        refine pure_ (i := 5) (N := some 138) (v := ?_) (a' := ?_) (bs31 63) rfl rfl (by kernel_rfl) (fun _ _ _ h => h) (Or.inl ⟨by rfl, ?_⟩) ?_ ?_
        rotate_left
        · intro w'
          go_simp
          with_reducible rfl
        rotate_left
        · simp only [Act.put, List.setIfInBounds_toArray, List.set_cons_zero, List.set_cons_succ, i64_w, i32_w]
          rfl
        refine take_ (i := 6) (N := some 139) (v := ?_) (a' := ?_) (bs31 127) rfl rfl (by kernel_rfl) (fun _ _ _ h => h) (Or.inl ⟨by rfl, ?_⟩) hHeld ?_ ?_
        rotate_left
        · rintro w' ⟨_, h_, _, _⟩
          go_simp
          with_reducible rfl
        rotate_left
        · simp only [Act.put, List.setIfInBounds_toArray, List.set_cons_zero, List.set_cons_succ, i64_w, i32_w]
          rfl
        refine pure_ (i := 7) (N := some 140) (v := ?_) (a' := ?_) (bs31 255) rfl rfl (by kernel_rfl) (fun _ _ _ h => h) (Or.inl ⟨by rfl, ?_⟩) ?_ ?_
        rotate_left
        · intro w'
          go_simp
          with_reducible rfl
        rotate_left
        · simp only [Act.put, List.setIfInBounds_toArray, List.set_cons_zero, List.set_cons_succ, i64_w, i32_w]
          rfl
        refine pure_ (i := 8) (N := some 141) (v := ?_) (a' := ?_) (bs31 511) rfl rfl (by kernel_rfl) (fun _ _ _ h => h) (Or.inl ⟨by rfl, ?_⟩) ?_ ?_
        rotate_left
        · intro w'
          go_simp
          with_reducible rfl
        rotate_left
        · simp only [Act.put, List.setIfInBounds_toArray, List.set_cons_zero, List.set_cons_succ, i64_w, i32_w]
          rfl
        refine take_ (i := 9) (N := some 142) (v := ?_) (a' := ?_) (bs31 1023) rfl rfl (by kernel_rfl) (fun _ _ _ h => h) (Or.inl ⟨by rfl, ?_⟩) hHeld ?_ ?_
        rotate_left
        · rintro w' ⟨_, _, _, h_⟩
          go_simp
          with_reducible rfl
        rotate_left
        · simp only [Act.put, List.setIfInBounds_toArray, List.set_cons_zero, List.set_cons_succ, i64_w, i32_w]
          rfl
        refine pure_ (i := 10) (N := some 143) (v := ?_) (a' := ?_) (bs31 2047) rfl rfl (by kernel_rfl) (fun _ _ _ h => h) (Or.inl ⟨by rfl, ?_⟩) ?_ ?_
        rotate_left
        · intro w'
          go_simp
          with_reducible rfl
        rotate_left
        · simp only [Act.put, List.setIfInBounds_toArray, List.set_cons_zero, List.set_cons_succ, i64_w, i32_w]
          rfl
        refine pure_ (i := 11) (N := some 144) (v := ?_) (a' := ?_) (bs31 4095) rfl rfl (by kernel_rfl) (fun _ _ _ h => h) (Or.inl ⟨by rfl, ?_⟩) ?_ ?_
        rotate_left
        · intro w'
          go_simp
          with_reducible rfl
        rotate_left
        · simp only [Act.put, List.setIfInBounds_toArray, List.set_cons_zero, List.set_cons_succ, i64_w, i32_w]
          rfl
        refine pure_ (i := 12) (N := some 145) (v := undef) (a' := ?_) (bs31 8191) rfl rfl (by kernel_rfl) (fun _ _ _ h => h) (Or.inr ⟨by rfl, rfl⟩) ?_ ?_
        rotate_left
        · simp only [Act.put, List.setIfInBounds_toArray, List.set_cons_zero, List.set_cons_succ, i64_w, i32_w]
          rfl
        refine pure_ (i := 13) (N := some 146) (v := undef) (a' := ?_) (bs31 16383) rfl rfl (by kernel_rfl) (fun _ _ _ h => h) (Or.inr ⟨by rfl, rfl⟩) ?_ ?_
        rotate_left
        · simp only [Act.put, List.setIfInBounds_toArray, List.set_cons_zero, List.set_cons_succ, i64_w, i32_w]
          rfl
        refine pure_ (i := 14) (N := some 147) (v := undef) (a' := ?_) (bs31 32767) rfl rfl (by kernel_rfl) (fun _ _ _ h => h) (Or.inr ⟨by rfl, rfl⟩) ?_ ?_
        rotate_left
        · simp only [Act.put, List.setIfInBounds_toArray, List.set_cons_zero, List.set_cons_succ, i64_w, i32_w]
          rfl
        refine pure_ (i := 15) (N := some 148) (v := undef) (a' := ?_) (bs31 65535) rfl rfl (by kernel_rfl) (fun _ _ _ h => h) (Or.inr ⟨by rfl, rfl⟩) ?_ ?_
        rotate_left
        · simp only [Act.put, List.setIfInBounds_toArray, List.set_cons_zero, List.set_cons_succ, i64_w, i32_w]
          rfl
        refine pure_ (i := 16) (N := some 149) (v := undef) (a' := ?_) (bs31 131071) rfl rfl (by kernel_rfl) (fun _ _ _ h => h) (Or.inr ⟨by rfl, rfl⟩) ?_ ?_
        rotate_left
        · simp only [Act.put, List.setIfInBounds_toArray, List.set_cons_zero, List.set_cons_succ, i64_w, i32_w]
          rfl
        refine pure_ (i := 17) (N := some 150) (v := undef) (a' := ?_) (bs31 262143) rfl rfl (by kernel_rfl) (fun _ _ _ h => h) (Or.inr ⟨by rfl, rfl⟩) ?_ ?_
        rotate_left
        · simp only [Act.put, List.setIfInBounds_toArray, List.set_cons_zero, List.set_cons_succ, i64_w, i32_w]
          rfl
        refine pure_ (i := 18) (N := some 151) (v := undef) (a' := ?_) (bs31 524287) rfl rfl (by kernel_rfl) (fun _ _ _ h => h) (Or.inr ⟨by rfl, rfl⟩) ?_ ?_
        rotate_left
        · simp only [Act.put, List.setIfInBounds_toArray, List.set_cons_zero, List.set_cons_succ, i64_w, i32_w]
          rfl
        refine pure_ (i := 19) (N := some 152) (v := undef) (a' := ?_) (bs31 1048575) rfl rfl (by kernel_rfl) (fun _ _ _ h => h) (Or.inr ⟨by rfl, rfl⟩) ?_ ?_
        rotate_left
        · simp only [Act.put, List.setIfInBounds_toArray, List.set_cons_zero, List.set_cons_succ, i64_w, i32_w]
          rfl
        refine pure_ (i := 20) (N := some 153) (v := undef) (a' := ?_) (bs31 2097151) rfl rfl (by kernel_rfl) (fun _ _ _ h => h) (Or.inr ⟨by rfl, rfl⟩) ?_ ?_
        rotate_left
        · simp only [Act.put, List.setIfInBounds_toArray, List.set_cons_zero, List.set_cons_succ, i64_w, i32_w]
          rfl
        refine pure_ (i := 21) (N := some 154) (v := undef) (a' := ?_) (bs31 4194303) rfl rfl (by kernel_rfl) (fun _ _ _ h => h) (Or.inr ⟨by rfl, rfl⟩) ?_ ?_
        rotate_left
        · simp only [Act.put, List.setIfInBounds_toArray, List.set_cons_zero, List.set_cons_succ, i64_w, i32_w]
          rfl
        refine pure_ (i := 22) (N := some 155) (v := undef) (a' := ?_) (bs31 8388607) rfl rfl (by kernel_rfl) (fun _ _ _ h => h) (Or.inr ⟨by rfl, rfl⟩) ?_ ?_
        rotate_left
        · simp only [Act.put, List.setIfInBounds_toArray, List.set_cons_zero, List.set_cons_succ, i64_w, i32_w]
          rfl
        refine pure_ (i := 23) (N := some 156) (v := undef) (a' := ?_) (bs31 16777215) rfl rfl (by kernel_rfl) (fun _ _ _ h => h) (Or.inr ⟨by rfl, rfl⟩) ?_ ?_
        rotate_left
        · simp only [Act.put, List.setIfInBounds_toArray, List.set_cons_zero, List.set_cons_succ, i64_w, i32_w]
          rfl
        refine pure_ (i := 24) (N := some 157) (v := undef) (a' := ?_) (bs31 33554431) rfl rfl (by kernel_rfl) (fun _ _ _ h => h) (Or.inr ⟨by rfl, rfl⟩) ?_ ?_
        rotate_left
        · simp only [Act.put, List.setIfInBounds_toArray, List.set_cons_zero, List.set_cons_succ, i64_w, i32_w]
          rfl
        refine pure_ (i := 25) (N := some 158) (v := undef) (a' := ?_) (bs31 67108863) rfl rfl (by kernel_rfl) (fun _ _ _ h => h) (Or.inr ⟨by rfl, rfl⟩) ?_ ?_
        rotate_left
        · simp only [Act.put, List.setIfInBounds_toArray, List.set_cons_zero, List.set_cons_succ, i64_w, i32_w]
          rfl
        refine pure_ (i := 26) (N := some 159) (v := undef) (a' := ?_) (bs31 134217727) rfl rfl (by kernel_rfl) (fun _ _ _ h => h) (Or.inr ⟨by rfl, rfl⟩) ?_ ?_
        rotate_left
        · simp only [Act.put, List.setIfInBounds_toArray, List.set_cons_zero, List.set_cons_succ, i64_w, i32_w]
          rfl
        refine pure_ (i := 27) (N := some 160) (v := undef) (a' := ?_) (bs31 268435455) rfl rfl (by kernel_rfl) (fun _ _ _ h => h) (Or.inr ⟨by rfl, rfl⟩) ?_ ?_
        rotate_left
        · simp only [Act.put, List.setIfInBounds_toArray, List.set_cons_zero, List.set_cons_succ, i64_w, i32_w]
          rfl
        refine pure_ (i := 28) (N := some 161) (v := undef) (a' := ?_) (bs31 536870911) rfl rfl (by kernel_rfl) (fun _ _ _ h => h) (Or.inr ⟨by rfl, rfl⟩) ?_ ?_
        rotate_left
        · simp only [Act.put, List.setIfInBounds_toArray, List.set_cons_zero, List.set_cons_succ, i64_w, i32_w]
          rfl
        refine pure_ (i := 29) (N := some 162) (v := undef) (a' := ?_) (bs31 1073741823) rfl rfl (by kernel_rfl) (fun _ _ _ h => h) (Or.inr ⟨by rfl, rfl⟩) ?_ ?_
        rotate_left
        · simp only [Act.put, List.setIfInBounds_toArray, List.set_cons_zero, List.set_cons_succ, i64_w, i32_w]
          rfl
        refine pure_ (i := 30) (N := some 163) (v := ?_) (a' := ?_) (bs31 2147483647) rfl rfl (by kernel_rfl) (fun _ _ _ h => h) (Or.inl ⟨by rfl, ?_⟩) ?_ ?_
        rotate_left
        · intro w'
          go_simp
          with_reducible rfl
        rotate_left
        · simp only [Act.put, List.setIfInBounds_toArray, List.set_cons_zero, List.set_cons_succ, i64_w, i32_w]
          rfl
        refine done_ (by kernel_rfl) ?_
        go_wp2
        go_roundw
        case measure => simp [intOf]; omega
        case rel => exact ⟨k + 1, by go_num, by omega, ⟨(eG orr)⟩, ⟨(eG ob)⟩, ⟨(eG od)⟩, ⟨(fG HR)⟩, ⟨(fG s)⟩, ⟨(fG t)⟩, ⟨(bG HB)⟩⟩
      case true =>
        obtain ⟨hf0, hfn, h67⟩ := HWB.out rfl
        have hf1 : (Int.tmod fv 2 == 0) = false := by rw [Int.tmod_eq_emod_of_nonneg hfn]; exact hf0
        clear HWB
        obtain h6 | ⟨h6, h7⟩ := h67
        · have HI6 := Aside0.mk h6
          refine start_ (n := 31) (S := fun w' => w'.cell? ⟨gd, 0, none⟩ = some (.slice (some at2) l2.length c_t) ∧ w'.cell? ⟨w.heap.size + 1, 0, none⟩ = some (.slice (some ar) l.length rc) ∧ w'.cell? (at2.add k) = some (.int .u8 x2) ∧ w'.cell? (ar.add k) = some (.int .u8 x0)) (ds := []) (bs31 0) (by kernel_rfl) rfl rfl ⟨((cells_of (eG od)).1 0).trans rfl, ((cells_of (eG orr)).1 0).trans rfl, row_at (fG t) k (by omega) X2.out, row_at (fG HR) k (by omega) X0.out⟩ (fun hHeld => ?_)
          refine pure_ (i := 0) (N := some 133) (v := ?_) (a' := ?_) (bs31 1) rfl rfl (by kernel_rfl) (fun _ _ _ h => h) (Or.inl ⟨by rfl, ?_⟩) ?_ ?_
          rotate_left
          · intro w'
            go_simp
            with_reducible rfl
          rotate_left
          · simp only [Act.put, List.setIfInBounds_toArray, List.set_cons_zero, List.set_cons_succ, i64_w, i32_w]
            rfl
          refine take_ (i := 1) (N := some 134) (v := ?_) (a' := ?_) (bs31 3) rfl rfl (by kernel_rfl) (fun _ _ _ h => h) (Or.inl ⟨by rfl, ?_⟩) hHeld ?_ ?_
          rotate_left
          · rintro w' ⟨h_, _, _, _⟩
            go_simp
            with_reducible rfl
          rotate_left
          · simp only [Act.put, List.setIfInBounds_toArray, List.set_cons_zero, List.set_cons_succ, i64_w, i32_w]
            rfl
          refine pure_ (i := 2) (N := some 135) (v := ?_) (a' := ?_) (bs31 7) rfl rfl (by kernel_rfl) (fun _ _ _ h => h) (Or.inl ⟨by rfl, ?_⟩) ?_ ?_
          rotate_left
          · intro w'
            go_simp
            with_reducible rfl
          rotate_left
          · simp only [Act.put, List.setIfInBounds_toArray, List.set_cons_zero, List.set_cons_succ, i64_w, i32_w]
            rfl
          refine pure_ (i := 3) (N := some 136) (v := ?_) (a' := ?_) (bs31 15) rfl rfl (by kernel_rfl) (fun _ _ _ h => h) (Or.inl ⟨by rfl, ?_⟩) ?_ ?_
          rotate_left
          · intro w'
            go_simp
            with_reducible rfl
          rotate_left
          · simp only [Act.put, List.setIfInBounds_toArray, List.set_cons_zero, List.set_cons_succ, i64_w, i32_w]
            rfl
          refine take_ (i := 4) (N := some 137) (v := ?_) (a' := ?_) (bs31 31) rfl rfl (by kernel_rfl) (fun _ _ _ h => h) (Or.inl ⟨by rfl, ?_⟩) hHeld ?_ ?_
          rotate_left
          · rintro w' ⟨_, _, h_, _⟩
            go_simp
            with_reducible rfl
          rotate_left
          · simp only [Act.put, List.setIfInBounds_toArray, List.set_cons_zero, List.set_cons_succ, i64_w, i32_w]
            rfl
          refine pure_ (i := 5) (N := some 138) (v := ?_) (a' := ?_) (bs31 63) rfl rfl (by kernel_rfl) (fun _ _ _ h => h) (Or.inl ⟨by rfl, ?_⟩) ?_ ?_
          rotate_left
          · intro w'
            go_simp
            with_reducible rfl
          rotate_left
          · simp only [Act.put, List.setIfInBounds_toArray, List.set_cons_zero, List.set_cons_succ, i64_w, i32_w]
            rfl
          refine take_ (i := 6) (N := some 139) (v := ?_) (a' := ?_) (bs31 127) rfl rfl (by kernel_rfl) (fun _ _ _ h => h) (Or.inl ⟨by rfl, ?_⟩) hHeld ?_ ?_
          rotate_left
          · rintro w' ⟨_, h_, _, _⟩
            go_simp
            with_reducible rfl
          rotate_left
          · simp only [Act.put, List.setIfInBounds_toArray, List.set_cons_zero, List.set_cons_succ, i64_w, i32_w]
            rfl
          refine pure_ (i := 7) (N := some 140) (v := ?_) (a' := ?_) (bs31 255) rfl rfl (by kernel_rfl) (fun _ _ _ h => h) (Or.inl ⟨by rfl, ?_⟩) ?_ ?_
          rotate_left
          · intro w'
            go_simp
            with_reducible rfl
          rotate_left
          · simp only [Act.put, List.setIfInBounds_toArray, List.set_cons_zero, List.set_cons_succ, i64_w, i32_w]
            rfl
          refine pure_ (i := 8) (N := some 141) (v := ?_) (a' := ?_) (bs31 511) rfl rfl (by kernel_rfl) (fun _ _ _ h => h) (Or.inl ⟨by rfl, ?_⟩) ?_ ?_
          rotate_left
          · intro w'
            go_simp
            with_reducible rfl
          rotate_left
          · simp only [Act.put, List.setIfInBounds_toArray, List.set_cons_zero, List.set_cons_succ, i64_w, i32_w]
            rfl
          refine take_ (i := 9) (N := some 142) (v := ?_) (a' := ?_) (bs31 1023) rfl rfl (by kernel_rfl) (fun _ _ _ h => h) (Or.inl ⟨by rfl, ?_⟩) hHeld ?_ ?_
          rotate_left
          · rintro w' ⟨_, _, _, h_⟩
            go_simp
            with_reducible rfl
          rotate_left
          · simp only [Act.put, List.setIfInBounds_toArray, List.set_cons_zero, List.set_cons_succ, i64_w, i32_w]
            rfl
          refine pure_ (i := 10) (N := some 143) (v := ?_) (a' := ?_) (bs31 2047) rfl rfl (by kernel_rfl) (fun _ _ _ h => h) (Or.inl ⟨by rfl, ?_⟩) ?_ ?_
          rotate_left
          · intro w'
            go_simp
            with_reducible rfl
          rotate_left
          · simp only [Act.put, List.setIfInBounds_toArray, List.set_cons_zero, List.set_cons_succ, i64_w, i32_w]
            rfl
          refine pure_ (i := 11) (N := some 144) (v := ?_) (a' := ?_) (bs31 4095) rfl rfl (by kernel_rfl) (fun _ _ _ h => h) (Or.inl ⟨by rfl, ?_⟩) ?_ ?_
          rotate_left
          · intro w'
            go_simp
            with_reducible rfl
          rotate_left
          · simp only [Act.put, List.setIfInBounds_toArray, List.set_cons_zero, List.set_cons_succ, i64_w, i32_w]
            rfl
          refine pure_ (i := 12) (N := some 145) (v := ?_) (a' := ?_) (bs31 8191) rfl rfl (by kernel_rfl) (fun _ _ _ h => h) (Or.inl ⟨by rfl, ?_⟩) ?_ ?_
          rotate_left
          · intro w'
            go_simp
            with_reducible rfl
          rotate_left
          · simp only [Act.put, List.setIfInBounds_toArray, List.set_cons_zero, List.set_cons_succ, i64_w, i32_w]
            rfl
          refine pure_ (i := 13) (N := some 146) (v := ?_) (a' := ?_) (bs31 16383) rfl rfl (by kernel_rfl) (fun _ _ _ h => h) (Or.inl ⟨by rfl, ?_⟩) ?_ ?_
          rotate_left
          · intro w'
            go_simp
            with_reducible rfl
          rotate_left
          · simp only [Act.put, List.setIfInBounds_toArray, List.set_cons_zero, List.set_cons_succ, i64_w, i32_w]
            rfl
          refine pure_ (i := 14) (N := some 147) (v := ?_) (a' := ?_) (bs31 32767) rfl rfl (by kernel_rfl) (fun _ _ _ h => h) (Or.inl ⟨by rfl, ?_⟩) ?_ ?_
          rotate_left
          · intro w'
            go_simp
            with_reducible rfl
          rotate_left
          · simp only [Act.put, List.setIfInBounds_toArray, List.set_cons_zero, List.set_cons_succ, i64_w, i32_w]
            rfl
          refine pure_ (i := 15) (N := some 148) (v := ?_) (a' := ?_) (bs31 65535) rfl rfl (by kernel_rfl) (fun _ _ _ h => h) (Or.inl ⟨by rfl, ?_⟩) ?_ ?_
          rotate_left
          · intro w'
            go_simp
            with_reducible rfl
          rotate_left
          · simp only [Act.put, List.setIfInBounds_toArray, List.set_cons_zero, List.set_cons_succ, i64_w, i32_w]
            rfl
          refine pure_ (i := 16) (N := some 149) (v := ?_) (a' := ?_) (bs31 131071) rfl rfl (by kernel_rfl) (fun _ _ _ h => h) (Or.inl ⟨by rfl, ?_⟩) ?_ ?_
          rotate_left
          · intro w'
            go_simp
            with_reducible rfl
          rotate_left
          · simp only [Act.put, List.setIfInBounds_toArray, List.set_cons_zero, List.set_cons_succ, i64_w, i32_w]
            rfl
          refine pure_ (i := 17) (N := some 150) (v := ?_) (a' := ?_) (bs31 262143) rfl rfl (by kernel_rfl) (fun _ _ _ h => h) (Or.inl ⟨by rfl, ?_⟩) ?_ ?_
          rotate_left
          · intro w'
            go_simp
            with_reducible rfl
          rotate_left
          · simp only [Act.put, List.setIfInBounds_toArray, List.set_cons_zero, List.set_cons_succ, i64_w, i32_w]
            rfl
          refine pure_ (i := 18) (N := some 151) (v := ?_) (a' := ?_) (bs31 524287) rfl rfl (by kernel_rfl) (fun _ _ _ h => h) (Or.inl ⟨by rfl, ?_⟩) ?_ ?_
          rotate_left
          · intro w'
            go_simp
            with_reducible rfl
          rotate_left
          · simp only [Act.put, List.setIfInBounds_toArray, List.set_cons_zero, List.set_cons_succ, i64_w, i32_w]
            rfl
          refine one_ (i := 19) (N := some 152) (bs31 1048575) rfl rfl (by kernel_rfl) (by decide) (fun K hK => ?_)
          (refine goes_ Try.func29 (by kernel_rfl) rfl #[.int .u64 (2147483648 + (k : Int)), .int .u64 r8, .int .i64 6] (by rfl) rfl rfl (by (try simp only [List.map_toArray, List.map_cons, List.map_nil]); first | done | rfl) ?_; (with_reducible refine (ins_of true _ _ _ _ HI6.out).mono ?_); rintro e_ wb1 ⟨rfl, hb_⟩; refine ⟨_, rfl, ?_⟩; have HB_ : Aside0 (Below w.heap.size w wb1) := Aside0.mk (below_step (bG HB) hb_); have hzwb1 := hb_.size; (try simp at hzwb1); have orr_ := Aside0.mk (box_below hb_ (eG orr)); have ob_ := Aside0.mk (box_below hb_ (eG ob)); have od_ := Aside0.mk (box_below hb_ (eG od)); have HR_ := Aside0.mk (Kd.F_below (fG HR) hb_); clear HR; have HR := HR_; clear HR_; have s_ := Aside0.mk (Kd.F_below (fG s) hb_); clear s; have s := s_; clear s_; have t_ := Aside0.mk (Kd.F_below (fG t) hb_); clear t; have t := t_; clear t_; (try clear orr orrc orrf orrl); have orr := orr_; clear orr_; obtain ⟨orrc, orrf, orrl⟩ := cells_of orr.out; (try clear ob obc obf obl); have ob := ob_; clear ob_; obtain ⟨obc, obf, obl⟩ := cells_of ob.out; (try clear od odc odf odl); have od := od_; clear od_; obtain ⟨odc, odf, odl⟩ := cells_of od.out; clear HB hb_; have HB := HB_; clear HB_)
          refine hK.out _ _ ⟨((cells_of (eG od)).1 0).trans rfl, ((cells_of (eG orr)).1 0).trans rfl, row_at (fG t) k (by omega) X2.out, row_at (fG HR) k (by omega) X0.out⟩ (fun hHeld => ?_)
          clear hK K
          refine norm_ (a' := ?_) ?_ ?_
          rotate_left
          · simp only [Act.put, List.setIfInBounds_toArray, List.set_cons_zero, List.set_cons_succ, i64_w, i32_w]
            rfl
          refine pure_ (i := 20) (N := some 153) (v := ?_) (a' := ?_) (bs31 2097151) rfl rfl (by kernel_rfl) (fun _ _ _ h => h) (Or.inl ⟨by rfl, ?_⟩) ?_ ?_
          rotate_left
          · intro w'
            go_simp
            with_reducible rfl
          rotate_left
          · simp only [Act.put, List.setIfInBounds_toArray, List.set_cons_zero, List.set_cons_succ, i64_w, i32_w]
            rfl
          refine pure_ (i := 21) (N := some 154) (v := ?_) (a' := ?_) (bs31 4194303) rfl rfl (by kernel_rfl) (fun _ _ _ h => h) (Or.inl ⟨by rfl, ?_⟩) ?_ ?_
          rotate_left
          · intro w'
            go_simp
            with_reducible rfl
          rotate_left
          · simp only [Act.put, List.setIfInBounds_toArray, List.set_cons_zero, List.set_cons_succ, i64_w, i32_w]
            rfl
          refine pure_ (i := 22) (N := some 155) (v := undef) (a' := ?_) (bs31 8388607) rfl rfl (by kernel_rfl) (fun _ _ _ h => h) (Or.inr ⟨by rfl, rfl⟩) ?_ ?_
          rotate_left
          · simp only [Act.put, List.setIfInBounds_toArray, List.set_cons_zero, List.set_cons_succ, i64_w, i32_w]
            rfl
          refine pure_ (i := 23) (N := some 156) (v := undef) (a' := ?_) (bs31 16777215) rfl rfl (by kernel_rfl) (fun _ _ _ h => h) (Or.inr ⟨by rfl, rfl⟩) ?_ ?_
          rotate_left
          · simp only [Act.put, List.setIfInBounds_toArray, List.set_cons_zero, List.set_cons_succ, i64_w, i32_w]
            rfl
          refine pure_ (i := 24) (N := some 157) (v := undef) (a' := ?_) (bs31 33554431) rfl rfl (by kernel_rfl) (fun _ _ _ h => h) (Or.inr ⟨by rfl, rfl⟩) ?_ ?_
          rotate_left
          · simp only [Act.put, List.setIfInBounds_toArray, List.set_cons_zero, List.set_cons_succ, i64_w, i32_w]
            rfl
          refine pure_ (i := 25) (N := some 158) (v := undef) (a' := ?_) (bs31 67108863) rfl rfl (by kernel_rfl) (fun _ _ _ h => h) (Or.inr ⟨by rfl, rfl⟩) ?_ ?_
          rotate_left
          · simp only [Act.put, List.setIfInBounds_toArray, List.set_cons_zero, List.set_cons_succ, i64_w, i32_w]
            rfl
          refine pure_ (i := 26) (N := some 159) (v := undef) (a' := ?_) (bs31 134217727) rfl rfl (by kernel_rfl) (fun _ _ _ h => h) (Or.inr ⟨by rfl, rfl⟩) ?_ ?_
          rotate_left
          · simp only [Act.put, List.setIfInBounds_toArray, List.set_cons_zero, List.set_cons_succ, i64_w, i32_w]
            rfl
          refine pure_ (i := 27) (N := some 160) (v := undef) (a' := ?_) (bs31 268435455) rfl rfl (by kernel_rfl) (fun _ _ _ h => h) (Or.inr ⟨by rfl, rfl⟩) ?_ ?_
          rotate_left
          · simp only [Act.put, List.setIfInBounds_toArray, List.set_cons_zero, List.set_cons_succ, i64_w, i32_w]
            rfl
          refine pure_ (i := 28) (N := some 161) (v := ?_) (a' := ?_) (bs31 536870911) rfl rfl (by kernel_rfl) (fun _ _ _ h => h) (Or.inl ⟨by rfl, ?_⟩) ?_ ?_
          rotate_left
          · intro w'
            go_simp
            with_reducible rfl
          rotate_left
          · simp only [Act.put, List.setIfInBounds_toArray, List.set_cons_zero, List.set_cons_succ, i64_w, i32_w]
            rfl
          refine pure_ (i := 29) (N := some 162) (v := ?_) (a' := ?_) (bs31 1073741823) rfl rfl (by kernel_rfl) (fun _ _ _ h => h) (Or.inl ⟨by rfl, ?_⟩) ?_ ?_
          rotate_left
          · intro w'
            go_simp
            with_reducible rfl
          rotate_left
          · simp only [Act.put, List.setIfInBounds_toArray, List.set_cons_zero, List.set_cons_succ, i64_w, i32_w]
            rfl
          refine pure_ (i := 30) (N := some 163) (v := ?_) (a' := ?_) (bs31 2147483647) rfl rfl (by kernel_rfl) (fun _ _ _ h => h) (Or.inl ⟨by rfl, ?_⟩) ?_ ?_
          rotate_left
          · intro w'
            go_simp
            with_reducible rfl
          rotate_left
          · simp only [Act.put, List.setIfInBounds_toArray, List.set_cons_zero, List.set_cons_succ, i64_w, i32_w]
            rfl
          refine done_ (by kernel_rfl) ?_
          go_wp2
          go_roundw
          case measure => simp [intOf]; omega
          case rel => exact ⟨k + 1, by go_num, by omega, ⟨(eG orr)⟩, ⟨(eG ob)⟩, ⟨(eG od)⟩, ⟨(fG HR)⟩, ⟨(fG s)⟩, ⟨(fG t)⟩, ⟨(bG HB)⟩⟩
        · have HI6 := Aside0.mk h6
          have HI7 := Aside0.mk h7
          refine start_ (n := 31) (S := fun w' => w'.cell? ⟨gd, 0, none⟩ = some (.slice (some at2) l2.length c_t) ∧ w'.cell? ⟨w.heap.size + 1, 0, none⟩ = some (.slice (some ar) l.length rc) ∧ w'.cell? (at2.add k) = some (.int .u8 x2) ∧ w'.cell? (ar.add k) = some (.int .u8 x0)) (ds := []) (bs31 0) (by kernel_rfl) rfl rfl ⟨((cells_of (eG od)).1 0).trans rfl, ((cells_of (eG orr)).1 0).trans rfl, row_at (fG t) k (by omega) X2.out, row_at (fG HR) k (by omega) X0.out⟩ (fun hHeld => ?_)
          refine pure_ (i := 0) (N := some 133) (v := ?_) (a' := ?_) (bs31 1) rfl rfl (by kernel_rfl) (fun _ _ _ h => h) (Or.inl ⟨by rfl, ?_⟩) ?_ ?_
          rotate_left
          · intro w'
            go_simp
            with_reducible rfl
          rotate_left
          · simp only [Act.put, List.setIfInBounds_toArray, List.set_cons_zero, List.set_cons_succ, i64_w, i32_w]
            rfl
          refine take_ (i := 1) (N := some 134) (v := ?_) (a' := ?_) (bs31 3) rfl rfl (by kernel_rfl) (fun _ _ _ h => h) (Or.inl ⟨by rfl, ?_⟩) hHeld ?_ ?_
          rotate_left
          · rintro w' ⟨h_, _, _, _⟩
            go_simp
            with_reducible rfl
          rotate_left
          · simp only [Act.put, List.setIfInBounds_toArray, List.set_cons_zero, List.set_cons_succ, i64_w, i32_w]
            rfl
          refine pure_ (i := 2) (N := some 135) (v := ?_) (a' := ?_) (bs31 7) rfl rfl (by kernel_rfl) (fun _ _ _ h => h) (Or.inl ⟨by rfl, ?_⟩) ?_ ?_
          rotate_left
          · intro w'
            go_simp
            with_reducible rfl
          rotate_left
          · simp only [Act.put, List.setIfInBounds_toArray, List.set_cons_zero, List.set_cons_succ, i64_w, i32_w]
            rfl
          refine pure_ (i := 3) (N := some 136) (v := ?_) (a' := ?_) (bs31 15) rfl rfl (by kernel_rfl) (fun _ _ _ h => h) (Or.inl ⟨by rfl, ?_⟩) ?_ ?_
          rotate_left
          · intro w'
            go_simp
            with_reducible rfl
          rotate_left
          · simp only [Act.put, List.setIfInBounds_toArray, List.set_cons_zero, List.set_cons_succ, i64_w, i32_w]
            rfl
          refine take_ (i := 4) (N := some 137) (v := ?_) (a' := ?_) (bs31 31) rfl rfl (by kernel_rfl) (fun _ _ _ h => h) (Or.inl ⟨by rfl, ?_⟩) hHeld ?_ ?_
          rotate_left
          · rintro w' ⟨_, _, h_, _⟩
            go_simp
            with_reducible rfl
          rotate_left
          · simp only [Act.put, List.setIfInBounds_toArray, List.set_cons_zero, List.set_cons_succ, i64_w, i32_w]
            rfl
          refine pure_ (i := 5) (N := some 138) (v := ?_) (a' := ?_) (bs31 63) rfl rfl (by kernel_rfl) (fun _ _ _ h => h) (Or.inl ⟨by rfl, ?_⟩) ?_ ?_
          rotate_left
          · intro w'
            go_simp
            with_reducible rfl
          rotate_left
          · simp only [Act.put, List.setIfInBounds_toArray, List.set_cons_zero, List.set_cons_succ, i64_w, i32_w]
            rfl
          refine take_ (i := 6) (N := some 139) (v := ?_) (a' := ?_) (bs31 127) rfl rfl (by kernel_rfl) (fun _ _ _ h => h) (Or.inl ⟨by rfl, ?_⟩) hHeld ?_ ?_
          rotate_left
          · rintro w' ⟨_, h_, _, _⟩
            go_simp
            with_reducible rfl
          rotate_left
          · simp only [Act.put, List.setIfInBounds_toArray, List.set_cons_zero, List.set_cons_succ, i64_w, i32_w]
            rfl
          refine pure_ (i := 7) (N := some 140) (v := ?_) (a' := ?_) (bs31 255) rfl rfl (by kernel_rfl) (fun _ _ _ h => h) (Or.inl ⟨by rfl, ?_⟩) ?_ ?_
          rotate_left
          · intro w'
            go_simp
            with_reducible rfl
          rotate_left
          · simp only [Act.put, List.setIfInBounds_toArray, List.set_cons_zero, List.set_cons_succ, i64_w, i32_w]
            rfl
          refine pure_ (i := 8) (N := some 141) (v := ?_) (a' := ?_) (bs31 511) rfl rfl (by kernel_rfl) (fun _ _ _ h => h) (Or.inl ⟨by rfl, ?_⟩) ?_ ?_
          rotate_left
          · intro w'
            go_simp
            with_reducible rfl
          rotate_left
          · simp only [Act.put, List.setIfInBounds_toArray, List.set_cons_zero, List.set_cons_succ, i64_w, i32_w]
            rfl
          refine take_ (i := 9) (N := some 142) (v := ?_) (a' := ?_) (bs31 1023) rfl rfl (by kernel_rfl) (fun _ _ _ h => h) (Or.inl ⟨by rfl, ?_⟩) hHeld ?_ ?_
          rotate_left
          · rintro w' ⟨_, _, _, h_⟩
            go_simp
            with_reducible rfl
          rotate_left
          · simp only [Act.put, List.setIfInBounds_toArray, List.set_cons_zero, List.set_cons_succ, i64_w, i32_w]
            rfl
          refine pure_ (i := 10) (N := some 143) (v := ?_) (a' := ?_) (bs31 2047) rfl rfl (by kernel_rfl) (fun _ _ _ h => h) (Or.inl ⟨by rfl, ?_⟩) ?_ ?_
          rotate_left
          · intro w'
            go_simp
            with_reducible rfl
          rotate_left
          · simp only [Act.put, List.setIfInBounds_toArray, List.set_cons_zero, List.set_cons_succ, i64_w, i32_w]
            rfl
          refine pure_ (i := 11) (N := some 144) (v := ?_) (a' := ?_) (bs31 4095) rfl rfl (by kernel_rfl) (fun _ _ _ h => h) (Or.inl ⟨by rfl, ?_⟩) ?_ ?_
          rotate_left
          · intro w'
            go_simp
            with_reducible rfl
          rotate_left
          · simp only [Act.put, List.setIfInBounds_toArray, List.set_cons_zero, List.set_cons_succ, i64_w, i32_w]
            rfl
          refine pure_ (i := 12) (N := some 145) (v := ?_) (a' := ?_) (bs31 8191) rfl rfl (by kernel_rfl) (fun _ _ _ h => h) (Or.inl ⟨by rfl, ?_⟩) ?_ ?_
          rotate_left
          · intro w'
            go_simp
            with_reducible rfl
          rotate_left
          · simp only [Act.put, List.setIfInBounds_toArray, List.set_cons_zero, List.set_cons_succ, i64_w, i32_w]
            rfl
          refine pure_ (i := 13) (N := some 146) (v := ?_) (a' := ?_) (bs31 16383) rfl rfl (by kernel_rfl) (fun _ _ _ h => h) (Or.inl ⟨by rfl, ?_⟩) ?_ ?_
          rotate_left
          · intro w'
            go_simp
            with_reducible rfl
          rotate_left
          · simp only [Act.put, List.setIfInBounds_toArray, List.set_cons_zero, List.set_cons_succ, i64_w, i32_w]
            rfl
          refine pure_ (i := 14) (N := some 147) (v := ?_) (a' := ?_) (bs31 32767) rfl rfl (by kernel_rfl) (fun _ _ _ h => h) (Or.inl ⟨by rfl, ?_⟩) ?_ ?_
          rotate_left
          · intro w'
            go_simp
            with_reducible rfl
          rotate_left
          · simp only [Act.put, List.setIfInBounds_toArray, List.set_cons_zero, List.set_cons_succ, i64_w, i32_w]
            rfl
          refine pure_ (i := 15) (N := some 148) (v := ?_) (a' := ?_) (bs31 65535) rfl rfl (by kernel_rfl) (fun _ _ _ h => h) (Or.inl ⟨by rfl, ?_⟩) ?_ ?_
          rotate_left
          · intro w'
            go_simp
            with_reducible rfl
          rotate_left
          · simp only [Act.put, List.setIfInBounds_toArray, List.set_cons_zero, List.set_cons_succ, i64_w, i32_w]
            rfl
          refine pure_ (i := 16) (N := some 149) (v := ?_) (a' := ?_) (bs31 131071) rfl rfl (by kernel_rfl) (fun _ _ _ h => h) (Or.inl ⟨by rfl, ?_⟩) ?_ ?_
          rotate_left
          · intro w'
            go_simp
            with_reducible rfl
          rotate_left
          · simp only [Act.put, List.setIfInBounds_toArray, List.set_cons_zero, List.set_cons_succ, i64_w, i32_w]
            rfl
          refine pure_ (i := 17) (N := some 150) (v := ?_) (a' := ?_) (bs31 262143) rfl rfl (by kernel_rfl) (fun _ _ _ h => h) (Or.inl ⟨by rfl, ?_⟩) ?_ ?_
          rotate_left
          · intro w'
            go_simp
            with_reducible rfl
          rotate_left
          · simp only [Act.put, List.setIfInBounds_toArray, List.set_cons_zero, List.set_cons_succ, i64_w, i32_w]
            rfl
          refine pure_ (i := 18) (N := some 151) (v := ?_) (a' := ?_) (bs31 524287) rfl rfl (by kernel_rfl) (fun _ _ _ h => h) (Or.inl ⟨by rfl, ?_⟩) ?_ ?_
          rotate_left
          · intro w'
            go_simp
            with_reducible rfl
          rotate_left
          · simp only [Act.put, List.setIfInBounds_toArray, List.set_cons_zero, List.set_cons_succ, i64_w, i32_w]
            rfl
          refine one_ (i := 19) (N := some 152) (bs31 1048575) rfl rfl (by kernel_rfl) (by decide) (fun K hK => ?_)
          (refine goes_ Try.func29 (by kernel_rfl) rfl #[.int .u64 (2147483648 + (k : Int)), .int .u64 r8, .int .i64 6] (by rfl) rfl rfl (by (try simp only [List.map_toArray, List.map_cons, List.map_nil]); first | done | rfl) ?_; (with_reducible refine (ins_of false _ _ _ _ HI6.out).mono ?_); rintro e_ wb1 ⟨rfl, hb_⟩; refine ⟨_, rfl, ?_⟩; have HB_ : Aside0 (Below w.heap.size w wb1) := Aside0.mk (below_step (bG HB) hb_); have hzwb1 := hb_.size; (try simp at hzwb1); have orr_ := Aside0.mk (box_below hb_ (eG orr)); have ob_ := Aside0.mk (box_below hb_ (eG ob)); have od_ := Aside0.mk (box_below hb_ (eG od)); have HR_ := Aside0.mk (Kd.F_below (fG HR) hb_); clear HR; have HR := HR_; clear HR_; have s_ := Aside0.mk (Kd.F_below (fG s) hb_); clear s; have s := s_; clear s_; have t_ := Aside0.mk (Kd.F_below (fG t) hb_); clear t; have t := t_; clear t_; (try clear orr orrc orrf orrl); have orr := orr_; clear orr_; obtain ⟨orrc, orrf, orrl⟩ := cells_of orr.out; (try clear ob obc obf obl); have ob := ob_; clear ob_; obtain ⟨obc, obf, obl⟩ := cells_of ob.out; (try clear od odc odf odl); have od := od_; clear od_; obtain ⟨odc, odf, odl⟩ := cells_of od.out; clear HB hb_; have HB := HB_; clear HB_)
          refine hK.out _ _ ⟨((cells_of (eG od)).1 0).trans rfl, ((cells_of (eG orr)).1 0).trans rfl, row_at (fG t) k (by omega) X2.out, row_at (fG HR) k (by omega) X0.out⟩ (fun hHeld => ?_)
          clear hK K
          refine norm_ (a' := ?_) ?_ ?_
          rotate_left
          · simp only [Act.put, List.setIfInBounds_toArray, List.set_cons_zero, List.set_cons_succ, i64_w, i32_w]
            rfl
          refine pure_ (i := 20) (N := some 153) (v := ?_) (a' := ?_) (bs31 2097151) rfl rfl (by kernel_rfl) (fun _ _ _ h => h) (Or.inl ⟨by rfl, ?_⟩) ?_ ?_
          rotate_left
          · intro w'
            go_simp
            with_reducible rfl
          rotate_left
          · simp only [Act.put, List.setIfInBounds_toArray, List.set_cons_zero, List.set_cons_succ, i64_w, i32_w]
            rfl
          refine pure_ (i := 21) (N := some 154) (v := ?_) (a' := ?_) (bs31 4194303) rfl rfl (by kernel_rfl) (fun _ _ _ h => h) (Or.inl ⟨by rfl, ?_⟩) ?_ ?_
          rotate_left
          · intro w'
            go_simp
            with_reducible rfl
          rotate_left
          · simp only [Act.put, List.setIfInBounds_toArray, List.set_cons_zero, List.set_cons_succ, i64_w, i32_w]
            rfl
          refine pure_ (i := 22) (N := some 155) (v := ?_) (a' := ?_) (bs31 8388607) rfl rfl (by kernel_rfl) (fun _ _ _ h => h) (Or.inl ⟨by rfl, ?_⟩) ?_ ?_
          rotate_left
          · intro w'
            go_simp
            with_reducible rfl
          rotate_left
          · simp only [Act.put, List.setIfInBounds_toArray, List.set_cons_zero, List.set_cons_succ, i64_w, i32_w]
            rfl
          refine pure_ (i := 23) (N := some 156) (v := ?_) (a' := ?_) (bs31 16777215) rfl rfl (by kernel_rfl) (fun _ _ _ h => h) (Or.inl ⟨by rfl, ?_⟩) ?_ ?_
          rotate_left
          · intro w'
            go_simp
            with_reducible rfl
          rotate_left
          · simp only [Act.put, List.setIfInBounds_toArray, List.set_cons_zero, List.set_cons_succ, i64_w, i32_w]
            rfl
          refine pure_ (i := 24) (N := some 157) (v := ?_) (a' := ?_) (bs31 33554431) rfl rfl (by kernel_rfl) (fun _ _ _ h => h) (Or.inl ⟨by rfl, ?_⟩) ?_ ?_
          rotate_left
          · intro w'
            go_simp
            with_reducible rfl
          rotate_left
          · simp only [Act.put, List.setIfInBounds_toArray, List.set_cons_zero, List.set_cons_succ, i64_w, i32_w]
            rfl
          refine pure_ (i := 25) (N := some 158) (v := ?_) (a' := ?_) (bs31 67108863) rfl rfl (by kernel_rfl) (fun _ _ _ h => h) (Or.inl ⟨by rfl, ?_⟩) ?_ ?_
          rotate_left
          · intro w'
            go_simp
            with_reducible rfl
          rotate_left
          · simp only [Act.put, List.setIfInBounds_toArray, List.set_cons_zero, List.set_cons_succ, i64_w, i32_w]
            rfl
          refine one_ (i := 26) (N := some 159) (bs31 134217727) rfl rfl (by kernel_rfl) (by decide) (fun K hK => ?_)
          (refine goes_ Try.func29 (by kernel_rfl) rfl #[.int .u64 (2147483648 + (k : Int)), .int .u64 bv, .int .i64 (wrap64 sv)] (by rfl) rfl rfl (by (try simp only [List.map_toArray, List.map_cons, List.map_nil]); first | done | rfl) ?_; (with_reducible refine (ins_of true _ _ _ _ HI7.out).mono ?_); rintro e_ wb2 ⟨rfl, hb_⟩; refine ⟨_, rfl, ?_⟩; have HB_ : Aside0 (Below w.heap.size w wb2) := Aside0.mk (below_step (bG HB) hb_); have hzwb2 := hb_.size; (try simp at hzwb2); have orr_ := Aside0.mk (box_below hb_ (eG orr)); have ob_ := Aside0.mk (box_below hb_ (eG ob)); have od_ := Aside0.mk (box_below hb_ (eG od)); have HR_ := Aside0.mk (Kd.F_below (fG HR) hb_); clear HR; have HR := HR_; clear HR_; have s_ := Aside0.mk (Kd.F_below (fG s) hb_); clear s; have s := s_; clear s_; have t_ := Aside0.mk (Kd.F_below (fG t) hb_); clear t; have t := t_; clear t_; (try clear orr orrc orrf orrl); have orr := orr_; clear orr_; obtain ⟨orrc, orrf, orrl⟩ := cells_of orr.out; (try clear ob obc obf obl); have ob := ob_; clear ob_; obtain ⟨obc, obf, obl⟩ := cells_of ob.out; (try clear od odc odf odl); have od := od_; clear od_; obtain ⟨odc, odf, odl⟩ := cells_of od.out; clear HB hb_; have HB := HB_; clear HB_)
          refine hK.out _ _ ⟨((cells_of (eG od)).1 0).trans rfl, ((cells_of (eG orr)).1 0).trans rfl, row_at (fG t) k (by omega) X2.out, row_at (fG HR) k (by omega) X0.out⟩ (fun hHeld => ?_)
          clear hK K
          refine norm_ (a' := ?_) ?_ ?_
          rotate_left
          · simp only [Act.put, List.setIfInBounds_toArray, List.set_cons_zero, List.set_cons_succ, i64_w, i32_w]
            rfl
          refine pure_ (i := 27) (N := some 160) (v := ?_) (a' := ?_) (bs31 268435455) rfl rfl (by kernel_rfl) (fun _ _ _ h => h) (Or.inl ⟨by rfl, ?_⟩) ?_ ?_
          rotate_left
          · intro w'
            go_simp
            with_reducible rfl
          rotate_left
          · simp only [Act.put, List.setIfInBounds_toArray, List.set_cons_zero, List.set_cons_succ, i64_w, i32_w]
            rfl
          refine pure_ (i := 28) (N := some 161) (v := ?_) (a' := ?_) (bs31 536870911) rfl rfl (by kernel_rfl) (fun _ _ _ h => h) (Or.inl ⟨by rfl, ?_⟩) ?_ ?_
          rotate_left
          · intro w'
            go_simp
            with_reducible rfl
          rotate_left
          · simp only [Act.put, List.setIfInBounds_toArray, List.set_cons_zero, List.set_cons_succ, i64_w, i32_w]
            rfl
          refine pure_ (i := 29) (N := some 162) (v := ?_) (a' := ?_) (bs31 1073741823) rfl rfl (by kernel_rfl) (fun _ _ _ h => h) (Or.inl ⟨by rfl, ?_⟩) ?_ ?_
          rotate_left
          · intro w'
            go_simp
            with_reducible rfl
          rotate_left
          · simp only [Act.put, List.setIfInBounds_toArray, List.set_cons_zero, List.set_cons_succ, i64_w, i32_w]
            rfl
          refine pure_ (i := 30) (N := some 163) (v := ?_) (a' := ?_) (bs31 2147483647) rfl rfl (by kernel_rfl) (fun _ _ _ h => h) (Or.inl ⟨by rfl, ?_⟩) ?_ ?_
          rotate_left
          · intro w'
            go_simp
            with_reducible rfl
          rotate_left
          · simp only [Act.put, List.setIfInBounds_toArray, List.set_cons_zero, List.set_cons_succ, i64_w, i32_w]
            rfl
          refine done_ (by kernel_rfl) ?_
          go_wp2
          go_roundw
          case measure => simp [intOf]; omega
          case rel => exact ⟨k + 1, by go_num, by omega, ⟨(eG orr)⟩, ⟨(eG ob)⟩, ⟨(eG od)⟩, ⟨(fG HR)⟩, ⟨(fG s)⟩, ⟨(fG t)⟩, ⟨(bG HB)⟩⟩
    · have hb : decide ((k : Int) < (l.length : Int)) = false := decide_eq_false (by omega)
      have hle : (l.length : Int) ≤ (k : Int) := by omega
      go_wp2_with fail
      (go_at_call 10; (with_reducible refine (heads_is _).mono ?_); rintro e_ w9 ⟨rfl, hb_⟩; have HB_ : Aside0 (Below w.heap.size w w9) := Aside0.mk (below_step (bG HB) hb_); have hzw9 := hb_.size; (try simp at hzw9); clear HB hb_; have HB := HB_; clear HB_)
      go_wp2
      go_ret
      exact ⟨rfl, (bG HB)⟩
def drawbridgelaw12_NicWithin.f (a0_0 : Int) (a0_1 : Int) (a0_2 : Int) (a0_3 : Int) (a0_4 : Int) (a0_5 : Int) (a0_6 : Int) (a0_7 : Int) (a0_8 : Int) (a0_9 : Int) (a0_10 : Int) (a0_11 : Int) (a0_12 : Int) (l0_13 l1_0 l2 : List Int) : Option Bool := if (∀ z ∈ l1_0, byte z) then some true else none
theorem drawbridgelaw12_NicWithin.calls (a0_0 : Int) (a0_1 : Int) (a0_2 : Int) (a0_3 : Int) (a0_4 : Int) (a0_5 : Int) (a0_6 : Int) (a0_7 : Int) (a0_8 : Int) (a0_9 : Int) (a0_10 : Int) (a0_11 : Int) (a0_12 : Int) (A0_13 : Option Addr) (c0_13 : Nat) (l0_13 : List Int) (A1_0 : Option Addr) (c1_0 : Nat) (l1_0 : List Int) (A2 : Option Addr) (c2 : Nat) (l2 : List Int) (r : Bool) (w : World) (hr0_13 : Kd.C (Kd.int .u8) w A0_13 l0_13.length l0_13) (hc0_13 : l0_13.length ≤ c0_13) (hr1_0 : Kd.C (Kd.int .u8) w A1_0 l1_0.length l1_0) (hc1_0 : l1_0.length ≤ c1_0) (hr2 : Kd.C (Kd.int .u8) w A2 l2.length l2) (hc2 : l2.length ≤ c2) (h : drawbridgelaw12_NicWithin.f a0_0 a0_1 a0_2 a0_3 a0_4 a0_5 a0_6 a0_7 a0_8 a0_9 a0_10 a0_11 a0_12 l0_13 l1_0 l2 = some r) :
    Calls Try.prog 8 #[.agg #[.int .i64 a0_0, .int .i64 a0_1, .int .i64 a0_2, .int .u64 a0_3, .int .i64 a0_4, .int .i64 a0_5, .int .i64 a0_6, .int .u64 a0_7, .int .i64 a0_8, .int .i64 a0_9, .int .i64 a0_10, .int .i64 a0_11, .int .i64 a0_12, .slice A0_13 l0_13.length c0_13], .agg #[.slice A1_0 l1_0.length c1_0], .slice A2 l2.length c2] w fun e w' => e = .returned (.bool r) ∧ Below w.heap.size w w' := by
  unfold drawbridgelaw12_NicWithin.f at h
  split at h
  case isFalse => cases h
  case isTrue hh =>
  obtain rfl := Option.some.inj h
  cases hq : decide ((l1_0.length : Int) > 70000) with
  | true => exact within_q1 A0_13 c0_13 l0_13 A1_0 c1_0 l1_0 A2 c2 l2 (mk13 a0_0 a0_1 a0_2 a0_3 a0_4 a0_5 a0_6 a0_7 a0_8 a0_9 a0_10 a0_11 a0_12) w _ _ _ (F_in hr0_13) hc0_13 (F_in hr1_0) hc1_0 (F_in hr2) hc2 hq
  | false =>
    cases hq2 : decide ((l2.length : Int) > 3000) with
    | true => exact within_q2 A0_13 c0_13 l0_13 A1_0 c1_0 l1_0 A2 c2 l2 (mk13 a0_0 a0_1 a0_2 a0_3 a0_4 a0_5 a0_6 a0_7 a0_8 a0_9 a0_10 a0_11 a0_12) w _ _ _ (F_in hr0_13) hc0_13 (F_in hr1_0) hc1_0 (F_in hr2) hc2 hq hq2
    | false =>
      cases hk : okC (mk13 a0_0 a0_1 a0_2 a0_3 a0_4 a0_5 a0_6 a0_7 a0_8 a0_9 a0_10 a0_11 a0_12) l0_13.length with
      | false => exact within_q3 A0_13 c0_13 l0_13 A1_0 c1_0 l1_0 A2 c2 l2 (mk13 a0_0 a0_1 a0_2 a0_3 a0_4 a0_5 a0_6 a0_7 a0_8 a0_9 a0_10 a0_11 a0_12) w _ _ _ (F_in hr0_13) hc0_13 (F_in hr1_0) hc1_0 (F_in hr2) hc2 hq hq2 hk
      | true => exact within_is A0_13 c0_13 l0_13 A1_0 c1_0 l1_0 A2 c2 l2 (mk13 a0_0 a0_1 a0_2 a0_3 a0_4 a0_5 a0_6 a0_7 a0_8 a0_9 a0_10 a0_11 a0_12) w _ _ _ (F_in hr0_13) hc0_13 (F_in hr1_0) hc1_0 (F_in hr2) hc2 hq hq2 hk hh
end Go.Proofs.Ytdblpflepfcnjaa.Q
