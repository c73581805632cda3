import Derived.Test.YtbidnolopbjlaaaHZ1
import Derived.Test.YtbidnolopbjlaaaHZ2
import Derived.Test.YtbidnolopbjlaaaHQx8
/- sv39.Translate's contract. -/
namespace Go.Proofs.Ytbidnolopbjlaaa.Q
open Go.RowKit Go.Proofs.YtbidnolopbjlaaaW.PrintWords Go.Proofs.YtbidnolopbjlaaaW.PrintLast Go.Proofs.YtbidnolopbjlaaaW.PrintMore Go.Proofs.Ytbidnolopbjlaaa.L
attribute [local go_sem] Instr.field part asAgg lt_step max2_int min2_int max_two min_two max_three min_three max_four min_four lt_0_1 lt_0_2 lt_1_2 lt_0_3 lt_1_3 lt_2_3 lt_0_4 lt_1_4 lt_2_4 lt_3_4 lt_0_5 lt_1_5 lt_2_5 lt_3_5 lt_4_5 lt_0_6 lt_1_6 lt_2_6 lt_3_6 lt_4_6 lt_5_6 lt_0_7 lt_1_7 lt_2_7 lt_3_7 lt_4_7 lt_5_7 lt_6_7 lt_0_8 lt_1_8 lt_2_8 lt_3_8 lt_4_8 lt_5_8 lt_6_8 lt_7_8
set_option linter.unusedVariables false
set_option linter.unusedSimpArgs false
def lowZ (i : Int) : Int := 12 + 9 * (2 - i)
def placeT (table at_ i : Int) : Int := IntKind.u64.wrap (table + IntKind.u64.wrap (8 * fieldZ at_ (lowZ i + 9 - 1) (lowZ i)))
def oddZ (e : Int) : Bool := (sv39_odd.f e).getD true
def mayZ (e status priv kind : Int) : Bool := (sv39_may.f e status priv kind).getD false
def markZ (e kind : Int) : Int := if kind = 2 then Go.bits .or .u64 (Go.bits .or .u64 e 64) 128 else Go.bits .or .u64 e 64
theorem field_c (x h l : Int) (W : World) (hx : u64B x) (hh : -9223372036854775808 ≤ h ∧ h ≤ 9223372036854775807) (hl : -9223372036854775808 ≤ l ∧ l ≤ 9223372036854775807) :
    Calls Try.prog 17 #[.int .u64 x, .int .i64 h, .int .i64 l] W fun e w' => e = .returned (.int .u64 (fieldZ x h l)) ∧ Drawn0 W w' := bits_Field.calls x h l _ W (field_tells x h l hx hh hl)
theorem sext_c (x n : Int) (W : World) (hx : u64B x) (hn : -9223372036854775808 ≤ n ∧ n ≤ 9223372036854775807) :
    Calls Try.prog 18 #[.int .u64 x, .int .i64 n] W fun e w' => e = .returned (.int .u64 (sextZ x n)) ∧ Drawn0 W w' := bits_Sext.calls x n _ W (sext_tells x n hx hn)
theorem readZ_u64 (l : List Int) (a s : Int) (hb : ∀ z ∈ l, byte z) : u64B (readZ l a s).1 := by
  unfold readZ
  split
  · unfold getB
    rw [if_neg (by decide)]
    have h1 := getLE_range ((cutL l a s).take 8) (cutL_byte l a s hb)
    have h2 : ((cutL l a s).take 8).length ≤ 8 := by rw [List.length_take]; omega
    have h3 : (256 : Int) ^ ((cutL l a s).take 8).length ≤ 256 ^ 8 := by rw [pow8, pow8]; exact two_pow_mono (by omega)
    have h4 : (256 : Int) ^ 8 = 18446744073709551616 := by decide
    exact ⟨h1.1, by omega⟩
  · exact ⟨by decide, by decide⟩
theorem odd_is (e : Int) (he : u64B e) : sv39_odd.f e = some (oddZ e) := by
  have h : ∃ b, sv39_odd.f e = some b := by
    unfold sv39_odd.f
    rw [field_tells e 63 54 he (by decide) (by decide)]
    split
    · exact ⟨_, rfl⟩
    · split <;> exact ⟨_, rfl⟩
  obtain ⟨b, hb⟩ := h
  unfold oddZ; rw [hb]; rfl
theorem may_is (e status priv kind : Int) : sv39_may.f e status priv kind = some (mayZ e status priv kind) := by
  have h : ∃ b, sv39_may.f e status priv kind = some b := by
    unfold sv39_may.f
    (repeat' split) <;> exact ⟨_, rfl⟩
  obtain ⟨b, hb⟩ := h
  unfold mayZ; rw [hb]; rfl
theorem u64_wrapB (x : Int) : u64B (IntKind.u64.wrap x) := by rw [IntKind.wrap_u64]; exact ⟨by omega, by omega⟩
/-- What a walk of the tables comes to, n levels left. -/
def walkZ (l : List Int) (status priv at_ kind : Int) : Nat → Int → Int × List Int × Int × Bool
  | 0, _ => (0, l, faultZ kind true, false)
  | n + 1, table =>
    if sextZ at_ 39 = at_ then
      (if (readZ l (placeT table at_ (2 - n)) 8).2 = true then
        (if oddZ (readZ l (placeT table at_ (2 - n)) 8).1 = true then (0, l, faultZ kind true, false)
         else if Go.bits .and .u64 (readZ l (placeT table at_ (2 - n)) 8).1 10 = 0 then
          (if Go.bits .and .u64 (readZ l (placeT table at_ (2 - n)) 8).1 208 > 0 then (0, l, faultZ kind true, false)
           else walkZ l status priv at_ kind n (IntKind.u64.wrap (fieldZ (readZ l (placeT table at_ (2 - n)) 8).1 53 10 * 4096)))
         else if mayZ (readZ l (placeT table at_ (2 - n)) 8).1 status priv kind = true then
          (if Go.bits .and .u64 (fieldZ (readZ l (placeT table at_ (2 - n)) 8).1 53 10) (IntKind.u64.wrap (IntKind.u64.wrap (2 ^ (9 * n)) - 1)) > 0 then (0, l, faultZ kind true, false)
           else (Go.bits .or .u64 (IntKind.u64.wrap (fieldZ (readZ l (placeT table at_ (2 - n)) 8).1 53 10 * 4096)) (fieldZ at_ (lowZ (2 - n) - 1) 0), writeL l (placeT table at_ (2 - n)) 8 (markZ (readZ l (placeT table at_ (2 - n)) 8).1 kind), 0, true))
         else (0, l, faultZ kind true, false))
       else (0, l, faultZ kind false, false))
    else (0, l, faultZ kind true, false)
def TransPost (P : Nat → Prop) (w : World) (r : Int × List Int × Int × Bool) (e : Ending) (w' : World) : Prop :=
  ∃ A c, e = .returned (.tuple #[.int .u64 r.1, .agg #[.slice A r.2.1.length c], .int .i64 r.2.2.1, .bool r.2.2.2]) ∧ r.2.1.length ≤ c ∧ Kd.F (Kd.int .u8) w' (fun j => P j ∨ w.heap.size ≤ j) A r.2.1.length r.2.1 ∧ Below w.heap.size w w'
section
variable (A : Option Addr) (c : Nat) (l : List Int) (satp status priv at_ kind : Int) (w : World) (P : Nat → Prop)
set_option maxHeartbeats 1600000 in
set_option maxRecDepth 100000 in
theorem trans_core (R : Int × List Int × Int × Bool) (hR : walkZ l status priv at_ kind 3 (IntKind.u64.wrap (fieldZ satp 43 0 * 4096)) = R) (hF : Kd.F (Kd.int .u8) w P A l.length l) (hc : l.length ≤ c) (hs : u64B satp) (hst : u64B status) (hat : u64B at_) (hL : (l.length : Int) ≤ 70000) (hb : ∀ z ∈ l, byte z) (hp : decide ((3 : Int) ≤ priv) = false) (hm : (satp / 1152921504606846976 != 8) = false) :
    Calls Try.prog 9 #[.agg #[.slice A l.length c], .int .u64 satp, .int .u64 status, .int .i64 priv, .int .u64 at_, .int .i64 kind] w (TransPost P w R) := by
  have HB := Aside0.mk (Below.refl w.heap.size w)
  have r := Aside0.mk (Kd.F_bound hF)
  have rc := Aside0.mk hc
  have HS := Aside0.mk hs
  have HST := Aside0.mk hst
  have HAT := Aside0.mk hat
  have HL := Aside0.mk hL
  have HBB := Aside0.mk hb
  have HR := Aside0.mk hR
  have hu := Try.underlying24
  have HTB : Aside0 (u64B (IntKind.u64.wrap (fieldZ satp 43 0 * 4096))) := ⟨u64_wrapB _⟩
  clear hF hc hs hst hat hL hb hR
  go_enter Try.func9, Try.ntmps9
  go_wp2
  go_step3
  go_wp2_with fail
  (go_at_call 17; (with_reducible refine (field_c satp 43 0 _ HS.out (by decide) (by decide)).mono ?_); rintro e_ w_ ⟨rfl, hd_⟩; obtain ⟨n_, rfl⟩ := hd_.out; clear hd_)
  go_wp2_with fail
  (go_at_call 12; (with_reducible refine (fault_runs kind true _).mono ?_); rintro e_ w1 ⟨rfl, hb_⟩; have HB_ : Aside0 (Below w.heap.size w w1) := Aside0.mk (below_step (by repeat (first | (with_reducible first | exact HB.out | exact Below.refl _ _ | apply below_alloc | apply pw_below_drewN | apply below_drew | refine below_set ?_ (by omega)) | exact HB.out)) hb_); have hzw1 := hb_.size; (try simp at hzw1); have oa_ := Aside0.mk (box_below hb_ (by repeat (with_reducible first | exact nb_1 w _ | apply ext_drew | apply ext_drewN | apply ext_alloc | refine blk_far ?_ (by show _ ≠ _; dsimp only; omega) _))); have ob_ := Aside0.mk (box_below hb_ (by repeat (with_reducible first | exact nb_2 w _ _ | apply ext_drew | apply ext_drewN | apply ext_alloc | refine blk_far ?_ (by show _ ≠ _; dsimp only; omega) _))); have r_ := Aside0.mk (Kd.F_below (by (repeat (with_reducible first | exact r.out | apply Kd.F_drew | apply Kd.F_drewN | apply Kd.F_alloc | refine Kd.F_far ?_ ?_ _)); all_goals (intro j_ hj_; (try dsimp only at hj_); (try dsimp only); (try simp only [sz_alloc, sz_drew, sz_drewN, sz_set] at hj_); omega)) hb_); clear r; have r := r_; clear r_; (try clear oa oac oaf oal); have oa := oa_; clear oa_; obtain ⟨oac, oaf, oal⟩ := cells_of oa.out; (try clear ob obc obf obl); have ob := ob_; clear ob_; obtain ⟨obc, obf, obl⟩ := cells_of ob.out; clear HB hb_; have HB := HB_; clear HB_)
  go_wp2
  go_step3
  go_wp2
  have hz1 : w.heap.size + 1 < w1.heap.size := by omega
  obtain ⟨T0, hT0⟩ : ∃ T0, IntKind.u64.wrap (fieldZ satp 43 0 * 4096) = T0 := ⟨_, rfl⟩
  rw [hT0] at HR HTB ⊢
  clear hT0
  go_loopw [40, 16, 17] (fun i t f wr => ∃ (k : Nat) (T : Int), k ≤ 3 ∧ i = .int .i64 k ∧ t = .int .u64 T ∧ f = .int .i64 (faultZ kind true) ∧ Aside0 (u64B T) ∧ Aside0 (walkZ l status priv at_ kind (3 - k) T = R) ∧ Aside0 (wr.heap[w.heap.size]? = some (.cells #[.slice A l.length c] 24 (0, 0))) ∧ Aside0 (wr.heap[w.heap.size + 1]? = some (.cells #[.slice none 0 0] 24 (0, 0))) ∧ Aside0 (Kd.F (Kd.int .u8) wr (fun j => P j ∧ j < w.heap.size) A l.length l) ∧ Aside0 (Below w.heap.size w wr)) (fun i _ _ _ => 3 - (intOf i).toNat)
  case atStart => exact ⟨0, T0, by omega, rfl, rfl, rfl, HTB, HR, oa, ob, r, HB⟩
  case round =>
    clear oa oac oaf oal ob obc obf obl r HB HR HTB hzw1 hz1
    obtain ⟨k, T, hk, rfl, rfl, rfl, HT, HW, oa, ob, r, HB⟩ := hrel
    obtain ⟨oac, oaf, oal⟩ := cells_of oa.out
    obtain ⟨obc, obf, obl⟩ := cells_of ob.out
    have hzr := obl
    by_cases hk3 : k = 3
    · subst hk3
      have HE : Aside0 ((0, l, faultZ kind true, false) = R) := ⟨HW.out⟩
      clear HW
      (go_wp2; (first | go_region | skip); (all_goals go_wp2))
      all_goals refine bodyPost_ret (v := .tuple #[.int .u64 0, .agg #[.slice A l.length c], .int .i64 (faultZ kind true), .bool false]) (by simp [results, Try.results9, go_sem, oac, obc] <;> first | assumption | omega | (symm; assumption)) rfl ?_
      all_goals (rw [← HE.out]; exact ⟨A, c, rfl, rc.out, (by refine F_res (ok := ?_) ?_ ?_; rotate_left; (repeat (with_reducible first | exact r.out | apply Kd.F_drew | apply Kd.F_drewN | apply Kd.F_alloc | refine Kd.F_far ?_ ?_ _)); all_goals (intro j_ hj_; (try dsimp only at hj_); (try dsimp only); (try simp only [sz_alloc, sz_drew, sz_drewN, sz_set] at hj_); first | omega | exact .inl hj_.1 | exact .inl hj_ | exact .inr (by omega) | (rcases hj_ with hj_ | hj_; exact .inl hj_.1; exact .inr (by omega)) | (rcases hj_ with hj_ | hj_; exact .inl hj_; exact .inr (by omega)) | (rcases hj_.1 with hk_ | hk_; (first | exact .inl hk_.1 | exact .inl hk_); exact .inr (by omega)))), (by repeat (first | (with_reducible first | exact HB.out | exact Below.refl _ _ | apply below_alloc | apply pw_below_drewN | apply below_drew | refine below_set ?_ (by omega)) | exact HB.out))⟩)
    have hlt : k < 3 := by omega
    have hlti : (k : Int) < 3 := by omega
    obtain ⟨q, hq⟩ : ∃ q, fieldZ at_ (12 + 9 * (2 - (k : Int)) + 9 - 1) (12 + 9 * (2 - (k : Int))) = q := ⟨_, rfl⟩
    obtain ⟨e, b, he⟩ : ∃ e b, readZ l (IntKind.u64.wrap (T + IntKind.u64.wrap (8 * q))) 8 = (e, b) := ⟨_, _, rfl⟩
    obtain ⟨nn, hn⟩ : ∃ nn, 3 - k = nn + 1 := ⟨2 - k, by omega⟩
    have hpl : placeT T at_ k = IntKind.u64.wrap (T + IntKind.u64.wrap (8 * q)) := by unfold placeT lowZ; rw [hq]
    have hw := HW.out
    rw [hn, walkZ, show (2 - (nn : Int)) = k by omega, hpl, he] at hw
    simp only [] at hw
    clear HW hpl
    by_cases hsx : sextZ at_ 39 = at_
    rotate_left
    · rw [if_neg hsx] at hw
      have HE := Aside0.mk hw
      have t1 : (sextZ at_ 39 != at_) = true := bne_iff_ne.2 hsx
      clear hw hsx he hn hq
      go_wp2_with fail
      (go_at_call 18; (with_reducible refine (sext_c at_ 39 _ HAT.out (by decide)).mono ?_); rintro e_ w_ ⟨rfl, hd_⟩; obtain ⟨n_, rfl⟩ := hd_.out; clear hd_)
      (go_wp2; (first | go_region | skip); (all_goals go_wp2))
      all_goals refine bodyPost_ret (v := .tuple #[.int .u64 0, .agg #[.slice A l.length c], .int .i64 (faultZ kind true), .bool false]) (by simp [results, Try.results9, go_sem, oac, obc] <;> first | assumption | omega | (symm; assumption)) rfl ?_
      all_goals (rw [← HE.out]; exact ⟨A, c, rfl, rc.out, (by refine F_res (ok := ?_) ?_ ?_; rotate_left; (repeat (with_reducible first | exact r.out | apply Kd.F_drew | apply Kd.F_drewN | apply Kd.F_alloc | refine Kd.F_far ?_ ?_ _)); all_goals (intro j_ hj_; (try dsimp only at hj_); (try dsimp only); (try simp only [sz_alloc, sz_drew, sz_drewN, sz_set] at hj_); first | omega | exact .inl hj_.1 | exact .inl hj_ | exact .inr (by omega) | (rcases hj_ with hj_ | hj_; exact .inl hj_.1; exact .inr (by omega)) | (rcases hj_ with hj_ | hj_; exact .inl hj_; exact .inr (by omega)) | (rcases hj_.1 with hk_ | hk_; (first | exact .inl hk_.1 | exact .inl hk_); exact .inr (by omega)))), (by repeat (first | (with_reducible first | exact HB.out | exact Below.refl _ _ | apply below_alloc | apply pw_below_drewN | apply below_drew | refine below_set ?_ (by omega)) | exact HB.out))⟩)
    rw [if_pos hsx] at hw
    have t1 : (sextZ at_ 39 != at_) = false := bne_eq_false_iff_eq.2 hsx
    have HX := Aside0.mk hsx
    have HN := Aside0.mk hn
    have HQ := Aside0.mk hq
    have HFC : Aside0 (∀ W, Calls Try.prog 17 #[.int .u64 at_, .int .i64 (12 + 9 * (2 - (k : Int)) + 9 - 1), .int .i64 (12 + 9 * (2 - (k : Int)))] W fun e w' => e = .returned (.int .u64 q) ∧ Drawn0 W w') := ⟨fun W => by have h_ := field_c at_ (12 + 9 * (2 - (k : Int)) + 9 - 1) (12 + 9 * (2 - (k : Int))) W HAT.out (by omega) (by omega); rw [hq] at h_; exact h_⟩
    have HE64 : Aside0 (u64B e) := ⟨by have h_ := readZ_u64 l (IntKind.u64.wrap (T + IntKind.u64.wrap (8 * q))) 8 HBB.out; rw [he] at h_; exact h_⟩
    have HRD : Aside0 (ram_Read.f 3 l (IntKind.u64.wrap (T + IntKind.u64.wrap (8 * q))) 8 = some (e, b)) := ⟨by rw [← he]; exact read_is l _ 8 (u64_wrapB _) ⟨by decide, by decide⟩ HL.out HBB.out 0⟩
    clear hsx hn hq he
    cases b
    · rw [if_neg Bool.false_ne_true] at hw
      have HE := Aside0.mk hw
      clear hw
      go_wp2_with fail
      (go_at_call 18; (with_reducible refine (sext_c at_ 39 _ HAT.out (by decide)).mono ?_); rintro e_ w_ ⟨rfl, hd_⟩; obtain ⟨n_, rfl⟩ := hd_.out; clear hd_)
      go_wp2_with fail
      (go_at_call 17; (with_reducible refine (HFC.out _).mono ?_); rintro e_ w_ ⟨rfl, hd_⟩; obtain ⟨n_, rfl⟩ := hd_.out; clear hd_)
      go_wp2_with fail
      (go_at_call 19; (with_reducible refine (ram_Read.calls 3 _ _ _ _ _ _ _ _ (Kd.F_now (by (repeat (with_reducible first | exact r.out | apply Kd.F_drew | apply Kd.F_drewN | apply Kd.F_alloc | refine Kd.F_far ?_ ?_ _)); all_goals (intro j_ hj_; (try dsimp only at hj_); (try dsimp only); (try simp only [sz_alloc, sz_drew, sz_drewN, sz_set] at hj_); omega))) rc.out HRD.out).mono ?_); rintro e_ w2 ⟨rfl, hb_⟩; have HB_ : Aside0 (Below w.heap.size w w2) := Aside0.mk (below_step (by repeat (first | (with_reducible first | exact HB.out | exact Below.refl _ _ | apply below_alloc | apply pw_below_drewN | apply below_drew | refine below_set ?_ (by omega)) | exact HB.out)) hb_); have hzw2 := hb_.size; (try simp at hzw2); have oa_ := Aside0.mk (box_below hb_ (by repeat (with_reducible first | exact oa.out | apply ext_drew | apply ext_drewN | apply ext_alloc | refine blk_far ?_ (by show _ ≠ _; dsimp only; omega) _))); have ob_ := Aside0.mk (box_below hb_ (by repeat (with_reducible first | exact ob.out | apply ext_drew | apply ext_drewN | apply ext_alloc | refine blk_far ?_ (by show _ ≠ _; dsimp only; omega) _))); have r_ := Aside0.mk (Kd.F_below (by (repeat (with_reducible first | exact r.out | apply Kd.F_drew | apply Kd.F_drewN | apply Kd.F_alloc | refine Kd.F_far ?_ ?_ _)); all_goals (intro j_ hj_; (try dsimp only at hj_); (try dsimp only); (try simp only [sz_alloc, sz_drew, sz_drewN, sz_set] at hj_); omega)) hb_); clear r; have r := r_; clear r_; (try clear oa oac oaf oal); have oa := oa_; clear oa_; obtain ⟨oac, oaf, oal⟩ := cells_of oa.out; (try clear ob obc obf obl); have ob := ob_; clear ob_; obtain ⟨obc, obf, obl⟩ := cells_of ob.out; clear HB hb_; have HB := HB_; clear HB_)
      go_wp2_with fail
      (go_at_call 12; (with_reducible refine (fault_runs kind false _).mono ?_); rintro e_ w3 ⟨rfl, hb_⟩; have HB_ : Aside0 (Below w.heap.size w w3) := Aside0.mk (below_step (by repeat (first | (with_reducible first | exact HB.out | exact Below.refl _ _ | apply below_alloc | apply pw_below_drewN | apply below_drew | refine below_set ?_ (by omega)) | exact HB.out)) hb_); have hzw3 := hb_.size; (try simp at hzw3); have oa_ := Aside0.mk (box_below hb_ (by repeat (with_reducible first | exact oa.out | apply ext_drew | apply ext_drewN | apply ext_alloc | refine blk_far ?_ (by show _ ≠ _; dsimp only; omega) _))); have ob_ := Aside0.mk (box_below hb_ (by repeat (with_reducible first | exact ob.out | apply ext_drew | apply ext_drewN | apply ext_alloc | refine blk_far ?_ (by show _ ≠ _; dsimp only; omega) _))); have r_ := Aside0.mk (Kd.F_below (by (repeat (with_reducible first | exact r.out | apply Kd.F_drew | apply Kd.F_drewN | apply Kd.F_alloc | refine Kd.F_far ?_ ?_ _)); all_goals (intro j_ hj_; (try dsimp only at hj_); (try dsimp only); (try simp only [sz_alloc, sz_drew, sz_drewN, sz_set] at hj_); omega)) hb_); clear r; have r := r_; clear r_; (try clear oa oac oaf oal); have oa := oa_; clear oa_; obtain ⟨oac, oaf, oal⟩ := cells_of oa.out; (try clear ob obc obf obl); have ob := ob_; clear ob_; obtain ⟨obc, obf, obl⟩ := cells_of ob.out; clear HB hb_; have HB := HB_; clear HB_)
      (go_wp2; (first | go_region | skip); (all_goals go_wp2))
      all_goals refine bodyPost_ret (v := .tuple #[.int .u64 0, .agg #[.slice A l.length c], .int .i64 (faultZ kind false), .bool false]) (by simp [results, Try.results9, go_sem, oac, obc] <;> first | assumption | omega | (symm; assumption)) rfl ?_
      all_goals (rw [← HE.out]; exact ⟨A, c, rfl, rc.out, (by refine F_res (ok := ?_) ?_ ?_; rotate_left; (repeat (with_reducible first | exact r.out | apply Kd.F_drew | apply Kd.F_drewN | apply Kd.F_alloc | refine Kd.F_far ?_ ?_ _)); all_goals (intro j_ hj_; (try dsimp only at hj_); (try dsimp only); (try simp only [sz_alloc, sz_drew, sz_drewN, sz_set] at hj_); first | omega | exact .inl hj_.1 | exact .inl hj_ | exact .inr (by omega) | (rcases hj_ with hj_ | hj_; exact .inl hj_.1; exact .inr (by omega)) | (rcases hj_ with hj_ | hj_; exact .inl hj_; exact .inr (by omega)) | (rcases hj_.1 with hk_ | hk_; (first | exact .inl hk_.1 | exact .inl hk_); exact .inr (by omega)))), (by repeat (first | (with_reducible first | exact HB.out | exact Below.refl _ _ | apply below_alloc | apply pw_below_drewN | apply below_drew | refine below_set ?_ (by omega)) | exact HB.out))⟩)
    rw [if_pos rfl] at hw
    obtain ⟨m, hm_⟩ : ∃ m, fieldZ e 53 10 = m := ⟨_, rfl⟩
    have HFN : Aside0 (∀ W, Calls Try.prog 17 #[.int .u64 e, .int .i64 53, .int .i64 10] W fun e w' => e = .returned (.int .u64 m) ∧ Drawn0 W w') := ⟨fun W => by have h_ := field_c e 53 10 W HE64.out (by decide) (by decide); rw [hm_] at h_; exact h_⟩
    rw [hm_] at hw
    clear hm_
    obtain ⟨od, hod⟩ : ∃ od, oddZ e = od := ⟨_, rfl⟩
    have HOD : Aside0 (∀ W, Calls Try.prog 20 #[.int .u64 e] W fun e w' => e = .returned (.bool od) ∧ Drawn0 W w') := ⟨fun W => by rw [← hod]; exact sv39_odd.calls e _ W (odd_is e HE64.out)⟩
    rw [hod] at hw
    clear hod
    cases od
    rotate_left
    · rw [if_pos rfl] at hw
      have HE := Aside0.mk hw
      clear hw
      go_wp2_with fail
      (go_at_call 18; (with_reducible refine (sext_c at_ 39 _ HAT.out (by decide)).mono ?_); rintro e_ w_ ⟨rfl, hd_⟩; obtain ⟨n_, rfl⟩ := hd_.out; clear hd_)
      go_wp2_with fail
      (go_at_call 17; (with_reducible refine (HFC.out _).mono ?_); rintro e_ w_ ⟨rfl, hd_⟩; obtain ⟨n_, rfl⟩ := hd_.out; clear hd_)
      go_wp2_with fail
      (go_at_call 19; (with_reducible refine (ram_Read.calls 3 _ _ _ _ _ _ _ _ (Kd.F_now (by (repeat (with_reducible first | exact r.out | apply Kd.F_drew | apply Kd.F_drewN | apply Kd.F_alloc | refine Kd.F_far ?_ ?_ _)); all_goals (intro j_ hj_; (try dsimp only at hj_); (try dsimp only); (try simp only [sz_alloc, sz_drew, sz_drewN, sz_set] at hj_); omega))) rc.out HRD.out).mono ?_); rintro e_ w2 ⟨rfl, hb_⟩; have HB_ : Aside0 (Below w.heap.size w w2) := Aside0.mk (below_step (by repeat (first | (with_reducible first | exact HB.out | exact Below.refl _ _ | apply below_alloc | apply pw_below_drewN | apply below_drew | refine below_set ?_ (by omega)) | exact HB.out)) hb_); have hzw2 := hb_.size; (try simp at hzw2); have oa_ := Aside0.mk (box_below hb_ (by repeat (with_reducible first | exact oa.out | apply ext_drew | apply ext_drewN | apply ext_alloc | refine blk_far ?_ (by show _ ≠ _; dsimp only; omega) _))); have ob_ := Aside0.mk (box_below hb_ (by repeat (with_reducible first | exact ob.out | apply ext_drew | apply ext_drewN | apply ext_alloc | refine blk_far ?_ (by show _ ≠ _; dsimp only; omega) _))); have r_ := Aside0.mk (Kd.F_below (by (repeat (with_reducible first | exact r.out | apply Kd.F_drew | apply Kd.F_drewN | apply Kd.F_alloc | refine Kd.F_far ?_ ?_ _)); all_goals (intro j_ hj_; (try dsimp only at hj_); (try dsimp only); (try simp only [sz_alloc, sz_drew, sz_drewN, sz_set] at hj_); omega)) hb_); clear r; have r := r_; clear r_; (try clear oa oac oaf oal); have oa := oa_; clear oa_; obtain ⟨oac, oaf, oal⟩ := cells_of oa.out; (try clear ob obc obf obl); have ob := ob_; clear ob_; obtain ⟨obc, obf, obl⟩ := cells_of ob.out; clear HB hb_; have HB := HB_; clear HB_)
      go_wp2_with fail
      (go_at_call 17; (with_reducible refine (HFN.out _).mono ?_); rintro e_ w_ ⟨rfl, hd_⟩; obtain ⟨n_, rfl⟩ := hd_.out; clear hd_)
      go_wp2_with fail
      (go_at_call 20; (with_reducible refine (HOD.out _).mono ?_); rintro e_ w_ ⟨rfl, hd_⟩; obtain ⟨n_, rfl⟩ := hd_.out; clear hd_)
      (go_wp2; (first | go_region | skip); (all_goals go_wp2))
      all_goals refine bodyPost_ret (v := .tuple #[.int .u64 0, .agg #[.slice A l.length c], .int .i64 (faultZ kind true), .bool false]) (by simp [results, Try.results9, go_sem, oac, obc] <;> first | assumption | omega | (symm; assumption)) rfl ?_
      all_goals (rw [← HE.out]; exact ⟨A, c, rfl, rc.out, (by refine F_res (ok := ?_) ?_ ?_; rotate_left; (repeat (with_reducible first | exact r.out | apply Kd.F_drew | apply Kd.F_drewN | apply Kd.F_alloc | refine Kd.F_far ?_ ?_ _)); all_goals (intro j_ hj_; (try dsimp only at hj_); (try dsimp only); (try simp only [sz_alloc, sz_drew, sz_drewN, sz_set] at hj_); first | omega | exact .inl hj_.1 | exact .inl hj_ | exact .inr (by omega) | (rcases hj_ with hj_ | hj_; exact .inl hj_.1; exact .inr (by omega)) | (rcases hj_ with hj_ | hj_; exact .inl hj_; exact .inr (by omega)) | (rcases hj_.1 with hk_ | hk_; (first | exact .inl hk_.1 | exact .inl hk_); exact .inr (by omega)))), (by repeat (first | (with_reducible first | exact HB.out | exact Below.refl _ _ | apply below_alloc | apply pw_below_drewN | apply below_drew | refine below_set ?_ (by omega)) | exact HB.out))⟩)
    rw [if_neg Bool.false_ne_true] at hw
    by_cases h10 : Go.bits .and .u64 e 10 = 0
    · rw [if_pos h10] at hw
      have t10 : (Go.bits .and .u64 e 10 == 0) = true := beq_iff_eq.2 h10
      by_cases h208 : Go.bits .and .u64 e 208 > 0
      · rw [if_pos h208] at hw
        have t208 : decide (0 < Go.bits .and .u64 e 208) = true := decide_eq_true h208
        have HE := Aside0.mk hw
        clear hw h10 h208
        go_wp2_with fail
        (go_at_call 18; (with_reducible refine (sext_c at_ 39 _ HAT.out (by decide)).mono ?_); rintro e_ w_ ⟨rfl, hd_⟩; obtain ⟨n_, rfl⟩ := hd_.out; clear hd_)
        go_wp2_with fail
        (go_at_call 17; (with_reducible refine (HFC.out _).mono ?_); rintro e_ w_ ⟨rfl, hd_⟩; obtain ⟨n_, rfl⟩ := hd_.out; clear hd_)
        go_wp2_with fail
        (go_at_call 19; (with_reducible refine (ram_Read.calls 3 _ _ _ _ _ _ _ _ (Kd.F_now (by (repeat (with_reducible first | exact r.out | apply Kd.F_drew | apply Kd.F_drewN | apply Kd.F_alloc | refine Kd.F_far ?_ ?_ _)); all_goals (intro j_ hj_; (try dsimp only at hj_); (try dsimp only); (try simp only [sz_alloc, sz_drew, sz_drewN, sz_set] at hj_); omega))) rc.out HRD.out).mono ?_); rintro e_ w2 ⟨rfl, hb_⟩; have HB_ : Aside0 (Below w.heap.size w w2) := Aside0.mk (below_step (by repeat (first | (with_reducible first | exact HB.out | exact Below.refl _ _ | apply below_alloc | apply pw_below_drewN | apply below_drew | refine below_set ?_ (by omega)) | exact HB.out)) hb_); have hzw2 := hb_.size; (try simp at hzw2); have oa_ := Aside0.mk (box_below hb_ (by repeat (with_reducible first | exact oa.out | apply ext_drew | apply ext_drewN | apply ext_alloc | refine blk_far ?_ (by show _ ≠ _; dsimp only; omega) _))); have ob_ := Aside0.mk (box_below hb_ (by repeat (with_reducible first | exact ob.out | apply ext_drew | apply ext_drewN | apply ext_alloc | refine blk_far ?_ (by show _ ≠ _; dsimp only; omega) _))); have r_ := Aside0.mk (Kd.F_below (by (repeat (with_reducible first | exact r.out | apply Kd.F_drew | apply Kd.F_drewN | apply Kd.F_alloc | refine Kd.F_far ?_ ?_ _)); all_goals (intro j_ hj_; (try dsimp only at hj_); (try dsimp only); (try simp only [sz_alloc, sz_drew, sz_drewN, sz_set] at hj_); omega)) hb_); clear r; have r := r_; clear r_; (try clear oa oac oaf oal); have oa := oa_; clear oa_; obtain ⟨oac, oaf, oal⟩ := cells_of oa.out; (try clear ob obc obf obl); have ob := ob_; clear ob_; obtain ⟨obc, obf, obl⟩ := cells_of ob.out; clear HB hb_; have HB := HB_; clear HB_)
        go_wp2_with fail
        (go_at_call 17; (with_reducible refine (HFN.out _).mono ?_); rintro e_ w_ ⟨rfl, hd_⟩; obtain ⟨n_, rfl⟩ := hd_.out; clear hd_)
        go_wp2_with fail
        (go_at_call 20; (with_reducible refine (HOD.out _).mono ?_); rintro e_ w_ ⟨rfl, hd_⟩; obtain ⟨n_, rfl⟩ := hd_.out; clear hd_)
        (go_wp2; (first | go_region | skip); (all_goals go_wp2))
        all_goals refine bodyPost_ret (v := .tuple #[.int .u64 0, .agg #[.slice A l.length c], .int .i64 (faultZ kind true), .bool false]) (by simp [results, Try.results9, go_sem, oac, obc] <;> first | assumption | omega | (symm; assumption)) rfl ?_
        all_goals (rw [← HE.out]; exact ⟨A, c, rfl, rc.out, (by refine F_res (ok := ?_) ?_ ?_; rotate_left; (repeat (with_reducible first | exact r.out | apply Kd.F_drew | apply Kd.F_drewN | apply Kd.F_alloc | refine Kd.F_far ?_ ?_ _)); all_goals (intro j_ hj_; (try dsimp only at hj_); (try dsimp only); (try simp only [sz_alloc, sz_drew, sz_drewN, sz_set] at hj_); first | omega | exact .inl hj_.1 | exact .inl hj_ | exact .inr (by omega) | (rcases hj_ with hj_ | hj_; exact .inl hj_.1; exact .inr (by omega)) | (rcases hj_ with hj_ | hj_; exact .inl hj_; exact .inr (by omega)) | (rcases hj_.1 with hk_ | hk_; (first | exact .inl hk_.1 | exact .inl hk_); exact .inr (by omega)))), (by repeat (first | (with_reducible first | exact HB.out | exact Below.refl _ _ | apply below_alloc | apply pw_below_drewN | apply below_drew | refine below_set ?_ (by omega)) | exact HB.out))⟩)
      · rw [if_neg h208] at hw
        have t208 : decide (0 < Go.bits .and .u64 e 208) = false := decide_eq_false h208
        have HE := Aside0.mk hw
        clear hw h10 h208
        go_wp2_with fail
        (go_at_call 18; (with_reducible refine (sext_c at_ 39 _ HAT.out (by decide)).mono ?_); rintro e_ w_ ⟨rfl, hd_⟩; obtain ⟨n_, rfl⟩ := hd_.out; clear hd_)
        go_wp2_with fail
        (go_at_call 17; (with_reducible refine (HFC.out _).mono ?_); rintro e_ w_ ⟨rfl, hd_⟩; obtain ⟨n_, rfl⟩ := hd_.out; clear hd_)
        go_wp2_with fail
        (go_at_call 19; (with_reducible refine (ram_Read.calls 3 _ _ _ _ _ _ _ _ (Kd.F_now (by (repeat (with_reducible first | exact r.out | apply Kd.F_drew | apply Kd.F_drewN | apply Kd.F_alloc | refine Kd.F_far ?_ ?_ _)); all_goals (intro j_ hj_; (try dsimp only at hj_); (try dsimp only); (try simp only [sz_alloc, sz_drew, sz_drewN, sz_set] at hj_); omega))) rc.out HRD.out).mono ?_); rintro e_ w2 ⟨rfl, hb_⟩; have HB_ : Aside0 (Below w.heap.size w w2) := Aside0.mk (below_step (by repeat (first | (with_reducible first | exact HB.out | exact Below.refl _ _ | apply below_alloc | apply pw_below_drewN | apply below_drew | refine below_set ?_ (by omega)) | exact HB.out)) hb_); have hzw2 := hb_.size; (try simp at hzw2); have oa_ := Aside0.mk (box_below hb_ (by repeat (with_reducible first | exact oa.out | apply ext_drew | apply ext_drewN | apply ext_alloc | refine blk_far ?_ (by show _ ≠ _; dsimp only; omega) _))); have ob_ := Aside0.mk (box_below hb_ (by repeat (with_reducible first | exact ob.out | apply ext_drew | apply ext_drewN | apply ext_alloc | refine blk_far ?_ (by show _ ≠ _; dsimp only; omega) _))); have r_ := Aside0.mk (Kd.F_below (by (repeat (with_reducible first | exact r.out | apply Kd.F_drew | apply Kd.F_drewN | apply Kd.F_alloc | refine Kd.F_far ?_ ?_ _)); all_goals (intro j_ hj_; (try dsimp only at hj_); (try dsimp only); (try simp only [sz_alloc, sz_drew, sz_drewN, sz_set] at hj_); omega)) hb_); clear r; have r := r_; clear r_; (try clear oa oac oaf oal); have oa := oa_; clear oa_; obtain ⟨oac, oaf, oal⟩ := cells_of oa.out; (try clear ob obc obf obl); have ob := ob_; clear ob_; obtain ⟨obc, obf, obl⟩ := cells_of ob.out; clear HB hb_; have HB := HB_; clear HB_)
        go_wp2_with fail
        (go_at_call 17; (with_reducible refine (HFN.out _).mono ?_); rintro e_ w_ ⟨rfl, hd_⟩; obtain ⟨n_, rfl⟩ := hd_.out; clear hd_)
        go_wp2_with fail
        (go_at_call 20; (with_reducible refine (HOD.out _).mono ?_); rintro e_ w_ ⟨rfl, hd_⟩; obtain ⟨n_, rfl⟩ := hd_.out; clear hd_)
        go_wp2
        go_roundw
        case rel => exact ⟨k + 1, IntKind.u64.wrap (m * 4096), by omega, by go_num, rfl, rfl, ⟨u64_wrapB _⟩, ⟨by rw [show 3 - (k + 1) = nn by have := HN.out; omega]; exact HE.out⟩, ⟨(by repeat (with_reducible first | exact oa.out | apply ext_drew | apply ext_drewN | apply ext_alloc | refine blk_far ?_ (by show _ ≠ _; dsimp only; omega) _))⟩, ⟨(by repeat (with_reducible first | exact ob.out | apply ext_drew | apply ext_drewN | apply ext_alloc | refine blk_far ?_ (by show _ ≠ _; dsimp only; omega) _))⟩, ⟨(by (repeat (with_reducible first | exact r.out | apply Kd.F_drew | apply Kd.F_drewN | apply Kd.F_alloc | refine Kd.F_far ?_ ?_ _)); all_goals (intro j_ hj_; (try dsimp only at hj_); (try dsimp only); (try simp only [sz_alloc, sz_drew, sz_drewN, sz_set] at hj_); omega))⟩, ⟨(by repeat (first | (with_reducible first | exact HB.out | exact Below.refl _ _ | apply below_alloc | apply pw_below_drewN | apply below_drew | refine below_set ?_ (by omega)) | exact HB.out))⟩⟩
        case measure => simp [intOf]; omega
    rw [if_neg h10] at hw
    have t10 : (Go.bits .and .u64 e 10 == 0) = false := beq_eq_false_iff_ne.2 h10
    clear h10
    obtain ⟨my, hmy⟩ : ∃ my, mayZ e status priv kind = my := ⟨_, rfl⟩
    have HMY : Aside0 (∀ W, Calls Try.prog 21 #[.int .u64 e, .int .u64 status, .int .i64 priv, .int .i64 kind] W fun e w' => e = .returned (.bool my) ∧ Drawn0 W w') := ⟨fun W => by rw [← hmy]; exact sv39_may.calls e status priv kind _ W (may_is e status priv kind)⟩
    rw [hmy] at hw
    clear hmy
    cases my
    · rw [if_neg Bool.false_ne_true] at hw
      have HE := Aside0.mk hw
      clear hw
      go_wp2_with fail
      (go_at_call 18; (with_reducible refine (sext_c at_ 39 _ HAT.out (by decide)).mono ?_); rintro e_ w_ ⟨rfl, hd_⟩; obtain ⟨n_, rfl⟩ := hd_.out; clear hd_)
      go_wp2_with fail
      (go_at_call 17; (with_reducible refine (HFC.out _).mono ?_); rintro e_ w_ ⟨rfl, hd_⟩; obtain ⟨n_, rfl⟩ := hd_.out; clear hd_)
      go_wp2_with fail
      (go_at_call 19; (with_reducible refine (ram_Read.calls 3 _ _ _ _ _ _ _ _ (Kd.F_now (by (repeat (with_reducible first | exact r.out | apply Kd.F_drew | apply Kd.F_drewN | apply Kd.F_alloc | refine Kd.F_far ?_ ?_ _)); all_goals (intro j_ hj_; (try dsimp only at hj_); (try dsimp only); (try simp only [sz_alloc, sz_drew, sz_drewN, sz_set] at hj_); omega))) rc.out HRD.out).mono ?_); rintro e_ w2 ⟨rfl, hb_⟩; have HB_ : Aside0 (Below w.heap.size w w2) := Aside0.mk (below_step (by repeat (first | (with_reducible first | exact HB.out | exact Below.refl _ _ | apply below_alloc | apply pw_below_drewN | apply below_drew | refine below_set ?_ (by omega)) | exact HB.out)) hb_); have hzw2 := hb_.size; (try simp at hzw2); have oa_ := Aside0.mk (box_below hb_ (by repeat (with_reducible first | exact oa.out | apply ext_drew | apply ext_drewN | apply ext_alloc | refine blk_far ?_ (by show _ ≠ _; dsimp only; omega) _))); have ob_ := Aside0.mk (box_below hb_ (by repeat (with_reducible first | exact ob.out | apply ext_drew | apply ext_drewN | apply ext_alloc | refine blk_far ?_ (by show _ ≠ _; dsimp only; omega) _))); have r_ := Aside0.mk (Kd.F_below (by (repeat (with_reducible first | exact r.out | apply Kd.F_drew | apply Kd.F_drewN | apply Kd.F_alloc | refine Kd.F_far ?_ ?_ _)); all_goals (intro j_ hj_; (try dsimp only at hj_); (try dsimp only); (try simp only [sz_alloc, sz_drew, sz_drewN, sz_set] at hj_); omega)) hb_); clear r; have r := r_; clear r_; (try clear oa oac oaf oal); have oa := oa_; clear oa_; obtain ⟨oac, oaf, oal⟩ := cells_of oa.out; (try clear ob obc obf obl); have ob := ob_; clear ob_; obtain ⟨obc, obf, obl⟩ := cells_of ob.out; clear HB hb_; have HB := HB_; clear HB_)
      go_wp2_with fail
      (go_at_call 17; (with_reducible refine (HFN.out _).mono ?_); rintro e_ w_ ⟨rfl, hd_⟩; obtain ⟨n_, rfl⟩ := hd_.out; clear hd_)
      go_wp2_with fail
      (go_at_call 20; (with_reducible refine (HOD.out _).mono ?_); rintro e_ w_ ⟨rfl, hd_⟩; obtain ⟨n_, rfl⟩ := hd_.out; clear hd_)
      go_wp2_with fail
      (go_at_call 21; (with_reducible refine (HMY.out _).mono ?_); rintro e_ w_ ⟨rfl, hd_⟩; obtain ⟨n_, rfl⟩ := hd_.out; clear hd_)
      (go_wp2; (first | go_region | skip); (all_goals go_wp2))
      all_goals refine bodyPost_ret (v := .tuple #[.int .u64 0, .agg #[.slice A l.length c], .int .i64 (faultZ kind true), .bool false]) (by simp [results, Try.results9, go_sem, oac, obc] <;> first | assumption | omega | (symm; assumption)) rfl ?_
      all_goals (rw [← HE.out]; exact ⟨A, c, rfl, rc.out, (by refine F_res (ok := ?_) ?_ ?_; rotate_left; (repeat (with_reducible first | exact r.out | apply Kd.F_drew | apply Kd.F_drewN | apply Kd.F_alloc | refine Kd.F_far ?_ ?_ _)); all_goals (intro j_ hj_; (try dsimp only at hj_); (try dsimp only); (try simp only [sz_alloc, sz_drew, sz_drewN, sz_set] at hj_); first | omega | exact .inl hj_.1 | exact .inl hj_ | exact .inr (by omega) | (rcases hj_ with hj_ | hj_; exact .inl hj_.1; exact .inr (by omega)) | (rcases hj_ with hj_ | hj_; exact .inl hj_; exact .inr (by omega)) | (rcases hj_.1 with hk_ | hk_; (first | exact .inl hk_.1 | exact .inl hk_); exact .inr (by omega)))), (by repeat (first | (with_reducible first | exact HB.out | exact Below.refl _ _ | apply below_alloc | apply pw_below_drewN | apply below_drew | refine below_set ?_ (by omega)) | exact HB.out))⟩)
    rw [if_pos rfl] at hw
    have hnk : nn = 2 - k := by have := HN.out; omega
    subst hnk
    obtain ⟨v, hv⟩ : ∃ v, fieldZ at_ (lowZ k - 1) 0 = v := ⟨_, rfl⟩
    have HFL : Aside0 (∀ W, Calls Try.prog 17 #[.int .u64 at_, .int .i64 (12 + 9 * (2 - (k : Int)) - 1), .int .i64 0] W fun e w' => e = .returned (.int .u64 v) ∧ Drawn0 W w') := ⟨fun W => by have h_ := field_c at_ (12 + 9 * (2 - (k : Int)) - 1) 0 W HAT.out (by omega) (by decide); unfold lowZ at hv; rw [hv] at h_; exact h_⟩
    have HL2 : Aside0 (l.length < 140737488355328) := ⟨by have := HL.out; omega⟩
    rw [hv] at hw
    clear hv
    by_cases hM : Go.bits .and .u64 m (IntKind.u64.wrap (IntKind.u64.wrap (2 ^ (9 * (2 - k))) - 1)) > 0
    · rw [if_pos hM] at hw
      have HE := Aside0.mk hw
      have tM : decide (0 < Go.bits .and .u64 m (IntKind.u64.wrap (IntKind.u64.wrap (2 ^ (9 * (2 - k))) - 1))) = true := decide_eq_true hM
      clear hw hM
      go_wp2_with fail
      (go_at_call 18; (with_reducible refine (sext_c at_ 39 _ HAT.out (by decide)).mono ?_); rintro e_ w_ ⟨rfl, hd_⟩; obtain ⟨n_, rfl⟩ := hd_.out; clear hd_)
      go_wp2_with fail
      (go_at_call 17; (with_reducible refine (HFC.out _).mono ?_); rintro e_ w_ ⟨rfl, hd_⟩; obtain ⟨n_, rfl⟩ := hd_.out; clear hd_)
      go_wp2_with fail
      (go_at_call 19; (with_reducible refine (ram_Read.calls 3 _ _ _ _ _ _ _ _ (Kd.F_now (by (repeat (with_reducible first | exact r.out | apply Kd.F_drew | apply Kd.F_drewN | apply Kd.F_alloc | refine Kd.F_far ?_ ?_ _)); all_goals (intro j_ hj_; (try dsimp only at hj_); (try dsimp only); (try simp only [sz_alloc, sz_drew, sz_drewN, sz_set] at hj_); omega))) rc.out HRD.out).mono ?_); rintro e_ w2 ⟨rfl, hb_⟩; have HB_ : Aside0 (Below w.heap.size w w2) := Aside0.mk (below_step (by repeat (first | (with_reducible first | exact HB.out | exact Below.refl _ _ | apply below_alloc | apply pw_below_drewN | apply below_drew | refine below_set ?_ (by omega)) | exact HB.out)) hb_); have hzw2 := hb_.size; (try simp at hzw2); have oa_ := Aside0.mk (box_below hb_ (by repeat (with_reducible first | exact oa.out | apply ext_drew | apply ext_drewN | apply ext_alloc | refine blk_far ?_ (by show _ ≠ _; dsimp only; omega) _))); have ob_ := Aside0.mk (box_below hb_ (by repeat (with_reducible first | exact ob.out | apply ext_drew | apply ext_drewN | apply ext_alloc | refine blk_far ?_ (by show _ ≠ _; dsimp only; omega) _))); have r_ := Aside0.mk (Kd.F_below (by (repeat (with_reducible first | exact r.out | apply Kd.F_drew | apply Kd.F_drewN | apply Kd.F_alloc | refine Kd.F_far ?_ ?_ _)); all_goals (intro j_ hj_; (try dsimp only at hj_); (try dsimp only); (try simp only [sz_alloc, sz_drew, sz_drewN, sz_set] at hj_); omega)) hb_); clear r; have r := r_; clear r_; (try clear oa oac oaf oal); have oa := oa_; clear oa_; obtain ⟨oac, oaf, oal⟩ := cells_of oa.out; (try clear ob obc obf obl); have ob := ob_; clear ob_; obtain ⟨obc, obf, obl⟩ := cells_of ob.out; clear HB hb_; have HB := HB_; clear HB_)
      go_wp2_with fail
      (go_at_call 17; (with_reducible refine (HFN.out _).mono ?_); rintro e_ w_ ⟨rfl, hd_⟩; obtain ⟨n_, rfl⟩ := hd_.out; clear hd_)
      go_wp2_with fail
      (go_at_call 20; (with_reducible refine (HOD.out _).mono ?_); rintro e_ w_ ⟨rfl, hd_⟩; obtain ⟨n_, rfl⟩ := hd_.out; clear hd_)
      go_wp2_with fail
      (go_at_call 21; (with_reducible refine (HMY.out _).mono ?_); rintro e_ w_ ⟨rfl, hd_⟩; obtain ⟨n_, rfl⟩ := hd_.out; clear hd_)
      (go_wp2; (first | go_region | skip); (all_goals go_wp2))
      all_goals refine bodyPost_ret (v := .tuple #[.int .u64 0, .agg #[.slice A l.length c], .int .i64 (faultZ kind true), .bool false]) (by simp [results, Try.results9, go_sem, oac, obc] <;> first | assumption | omega | (symm; assumption)) rfl ?_
      all_goals (rw [← HE.out]; exact ⟨A, c, rfl, rc.out, (by refine F_res (ok := ?_) ?_ ?_; rotate_left; (repeat (with_reducible first | exact r.out | apply Kd.F_drew | apply Kd.F_drewN | apply Kd.F_alloc | refine Kd.F_far ?_ ?_ _)); all_goals (intro j_ hj_; (try dsimp only at hj_); (try dsimp only); (try simp only [sz_alloc, sz_drew, sz_drewN, sz_set] at hj_); first | omega | exact .inl hj_.1 | exact .inl hj_ | exact .inr (by omega) | (rcases hj_ with hj_ | hj_; exact .inl hj_.1; exact .inr (by omega)) | (rcases hj_ with hj_ | hj_; exact .inl hj_; exact .inr (by omega)) | (rcases hj_.1 with hk_ | hk_; (first | exact .inl hk_.1 | exact .inl hk_); exact .inr (by omega)))), (by repeat (first | (with_reducible first | exact HB.out | exact Below.refl _ _ | apply below_alloc | apply pw_below_drewN | apply below_drew | refine below_set ?_ (by omega)) | exact HB.out))⟩)
    rw [if_neg hM] at hw
    have tM : decide (0 < Go.bits .and .u64 m (IntKind.u64.wrap (IntKind.u64.wrap (2 ^ (9 * (2 - k))) - 1))) = false := decide_eq_false hM
    clear hM
    unfold markZ at hw
    by_cases h2 : kind = 2
    · rw [if_pos h2] at hw
      have t2 : (kind == 2) = true := beq_iff_eq.2 h2
      have HE := Aside0.mk hw
      clear hw h2
      go_wp2_with fail
      (go_at_call 18; (with_reducible refine (sext_c at_ 39 _ HAT.out (by decide)).mono ?_); rintro e_ w_ ⟨rfl, hd_⟩; obtain ⟨n_, rfl⟩ := hd_.out; clear hd_)
      go_wp2_with fail
      (go_at_call 17; (with_reducible refine (HFC.out _).mono ?_); rintro e_ w_ ⟨rfl, hd_⟩; obtain ⟨n_, rfl⟩ := hd_.out; clear hd_)
      go_wp2_with fail
      (go_at_call 19; (with_reducible refine (ram_Read.calls 3 _ _ _ _ _ _ _ _ (Kd.F_now (by (repeat (with_reducible first | exact r.out | apply Kd.F_drew | apply Kd.F_drewN | apply Kd.F_alloc | refine Kd.F_far ?_ ?_ _)); all_goals (intro j_ hj_; (try dsimp only at hj_); (try dsimp only); (try simp only [sz_alloc, sz_drew, sz_drewN, sz_set] at hj_); omega))) rc.out HRD.out).mono ?_); rintro e_ w2 ⟨rfl, hb_⟩; have HB_ : Aside0 (Below w.heap.size w w2) := Aside0.mk (below_step (by repeat (first | (with_reducible first | exact HB.out | exact Below.refl _ _ | apply below_alloc | apply pw_below_drewN | apply below_drew | refine below_set ?_ (by omega)) | exact HB.out)) hb_); have hzw2 := hb_.size; (try simp at hzw2); have oa_ := Aside0.mk (box_below hb_ (by repeat (with_reducible first | exact oa.out | apply ext_drew | apply ext_drewN | apply ext_alloc | refine blk_far ?_ (by show _ ≠ _; dsimp only; omega) _))); have ob_ := Aside0.mk (box_below hb_ (by repeat (with_reducible first | exact ob.out | apply ext_drew | apply ext_drewN | apply ext_alloc | refine blk_far ?_ (by show _ ≠ _; dsimp only; omega) _))); have r_ := Aside0.mk (Kd.F_below (by (repeat (with_reducible first | exact r.out | apply Kd.F_drew | apply Kd.F_drewN | apply Kd.F_alloc | refine Kd.F_far ?_ ?_ _)); all_goals (intro j_ hj_; (try dsimp only at hj_); (try dsimp only); (try simp only [sz_alloc, sz_drew, sz_drewN, sz_set] at hj_); omega)) hb_); clear r; have r := r_; clear r_; (try clear oa oac oaf oal); have oa := oa_; clear oa_; obtain ⟨oac, oaf, oal⟩ := cells_of oa.out; (try clear ob obc obf obl); have ob := ob_; clear ob_; obtain ⟨obc, obf, obl⟩ := cells_of ob.out; clear HB hb_; have HB := HB_; clear HB_)
      go_wp2_with fail
      (go_at_call 17; (with_reducible refine (HFN.out _).mono ?_); rintro e_ w_ ⟨rfl, hd_⟩; obtain ⟨n_, rfl⟩ := hd_.out; clear hd_)
      go_wp2_with fail
      (go_at_call 20; (with_reducible refine (HOD.out _).mono ?_); rintro e_ w_ ⟨rfl, hd_⟩; obtain ⟨n_, rfl⟩ := hd_.out; clear hd_)
      go_wp2_with fail
      (go_at_call 21; (with_reducible refine (HMY.out _).mono ?_); rintro e_ w_ ⟨rfl, hd_⟩; obtain ⟨n_, rfl⟩ := hd_.out; clear hd_)
      go_wp2_with fail
      (go_at_call 22; (with_reducible refine (ram_Write.runs A c l _ 8 (Go.bits .or .u64 (Go.bits .or .u64 e 64) 128) _ _ (by (repeat (with_reducible first | exact r.out | apply Kd.F_drew | apply Kd.F_drewN | apply Kd.F_alloc | refine Kd.F_far ?_ ?_ _)); all_goals (intro j_ hj_; (try dsimp only at hj_); (try dsimp only); (try simp only [sz_alloc, sz_drew, sz_drewN, sz_set] at hj_); omega)) rc.out (u64_wrapB _) HL2.out).mono ?_); rintro e_ w3 ⟨A_s, c_s, rfl, hc_s, hr_s, hb_⟩; have HB_ : Aside0 (Below w.heap.size w w3) := Aside0.mk (below_step (by repeat (first | (with_reducible first | exact HB.out | exact Below.refl _ _ | apply below_alloc | apply pw_below_drewN | apply below_drew | refine below_set ?_ (by omega)) | exact HB.out)) hb_); have hzw3 := hb_.size; (try simp at hzw3); have oa_ := Aside0.mk (box_below hb_ (by repeat (with_reducible first | exact oa.out | apply ext_drew | apply ext_drewN | apply ext_alloc | refine blk_far ?_ (by show _ ≠ _; dsimp only; omega) _))); have ob_ := Aside0.mk (box_below hb_ (by repeat (with_reducible first | exact ob.out | apply ext_drew | apply ext_drewN | apply ext_alloc | refine blk_far ?_ (by show _ ≠ _; dsimp only; omega) _))); (try clear oa oac oaf oal); have oa := oa_; clear oa_; obtain ⟨oac, oaf, oal⟩ := cells_of oa.out; (try clear ob obc obf obl); have ob := ob_; clear ob_; obtain ⟨obc, obf, obl⟩ := cells_of ob.out; clear HB hb_; have HB := HB_; clear HB_; have sc := Aside0.mk hc_s; have s := Aside0.mk (Kd.F_bound hr_s); clear hc_s hr_s; skip)
      go_wp2
      have hsum : IntKind.i64.wrap (12 + 9 * (2 - (k : Int)) - 1) = 12 + 9 * (2 - (k : Int)) - 1 := IntWalk.i64_in _ (by omega)
      go_region_with ((go_at_call 17; (with_reducible refine (HFL.out _).mono ?_); rintro e_ w_ ⟨rfl, hd_⟩; obtain ⟨n_, rfl⟩ := hd_.out; clear hd_))
      all_goals go_wp2
      all_goals refine bodyPost_ret (v := .tuple #[.int .u64 (Go.bits .or .u64 (IntKind.u64.wrap (m * 4096)) v), .agg #[.slice A_s (writeL l (IntKind.u64.wrap (T + IntKind.u64.wrap (8 * q))) 8 (Go.bits .or .u64 (Go.bits .or .u64 e 64) 128)).length c_s], .int .i64 0, .bool true]) (by simp [results, Try.results9, go_sem, oac, obc, obl] <;> first | assumption | omega | (symm; assumption)) rfl ?_
      all_goals (rw [← HE.out]; exact ⟨A_s, c_s, rfl, sc.out, (by refine F_res (ok := ?_) ?_ ?_; rotate_left; (repeat (with_reducible first | exact s.out | apply Kd.F_drew | apply Kd.F_drewN | apply Kd.F_alloc | refine Kd.F_far ?_ ?_ _)); all_goals (intro j_ hj_; (try dsimp only at hj_); (try dsimp only); (try simp only [sz_alloc, sz_drew, sz_drewN, sz_set] at hj_); first | omega | exact .inl hj_.1 | exact .inl hj_ | exact .inr (by omega) | (rcases hj_ with hj_ | hj_; exact .inl hj_.1; exact .inr (by omega)) | (rcases hj_ with hj_ | hj_; exact .inl hj_; exact .inr (by omega)) | (rcases hj_.1 with hk_ | hk_; (first | exact .inl hk_.1 | exact .inl hk_); exact .inr (by omega)))), (by repeat (first | (with_reducible first | exact HB.out | exact Below.refl _ _ | apply below_alloc | apply pw_below_drewN | apply below_drew | refine below_set ?_ (by omega)) | exact HB.out))⟩)
    · rw [if_neg h2] at hw
      have t2 : (kind == 2) = false := beq_eq_false_iff_ne.2 h2
      have HE := Aside0.mk hw
      clear hw h2
      go_wp2_with fail
      (go_at_call 18; (with_reducible refine (sext_c at_ 39 _ HAT.out (by decide)).mono ?_); rintro e_ w_ ⟨rfl, hd_⟩; obtain ⟨n_, rfl⟩ := hd_.out; clear hd_)
      go_wp2_with fail
      (go_at_call 17; (with_reducible refine (HFC.out _).mono ?_); rintro e_ w_ ⟨rfl, hd_⟩; obtain ⟨n_, rfl⟩ := hd_.out; clear hd_)
      go_wp2_with fail
      (go_at_call 19; (with_reducible refine (ram_Read.calls 3 _ _ _ _ _ _ _ _ (Kd.F_now (by (repeat (with_reducible first | exact r.out | apply Kd.F_drew | apply Kd.F_drewN | apply Kd.F_alloc | refine Kd.F_far ?_ ?_ _)); all_goals (intro j_ hj_; (try dsimp only at hj_); (try dsimp only); (try simp only [sz_alloc, sz_drew, sz_drewN, sz_set] at hj_); omega))) rc.out HRD.out).mono ?_); rintro e_ w2 ⟨rfl, hb_⟩; have HB_ : Aside0 (Below w.heap.size w w2) := Aside0.mk (below_step (by repeat (first | (with_reducible first | exact HB.out | exact Below.refl _ _ | apply below_alloc | apply pw_below_drewN | apply below_drew | refine below_set ?_ (by omega)) | exact HB.out)) hb_); have hzw2 := hb_.size; (try simp at hzw2); have oa_ := Aside0.mk (box_below hb_ (by repeat (with_reducible first | exact oa.out | apply ext_drew | apply ext_drewN | apply ext_alloc | refine blk_far ?_ (by show _ ≠ _; dsimp only; omega) _))); have ob_ := Aside0.mk (box_below hb_ (by repeat (with_reducible first | exact ob.out | apply ext_drew | apply ext_drewN | apply ext_alloc | refine blk_far ?_ (by show _ ≠ _; dsimp only; omega) _))); have r_ := Aside0.mk (Kd.F_below (by (repeat (with_reducible first | exact r.out | apply Kd.F_drew | apply Kd.F_drewN | apply Kd.F_alloc | refine Kd.F_far ?_ ?_ _)); all_goals (intro j_ hj_; (try dsimp only at hj_); (try dsimp only); (try simp only [sz_alloc, sz_drew, sz_drewN, sz_set] at hj_); omega)) hb_); clear r; have r := r_; clear r_; (try clear oa oac oaf oal); have oa := oa_; clear oa_; obtain ⟨oac, oaf, oal⟩ := cells_of oa.out; (try clear ob obc obf obl); have ob := ob_; clear ob_; obtain ⟨obc, obf, obl⟩ := cells_of ob.out; clear HB hb_; have HB := HB_; clear HB_)
      go_wp2_with fail
      (go_at_call 17; (with_reducible refine (HFN.out _).mono ?_); rintro e_ w_ ⟨rfl, hd_⟩; obtain ⟨n_, rfl⟩ := hd_.out; clear hd_)
      go_wp2_with fail
      (go_at_call 20; (with_reducible refine (HOD.out _).mono ?_); rintro e_ w_ ⟨rfl, hd_⟩; obtain ⟨n_, rfl⟩ := hd_.out; clear hd_)
      go_wp2_with fail
      (go_at_call 21; (with_reducible refine (HMY.out _).mono ?_); rintro e_ w_ ⟨rfl, hd_⟩; obtain ⟨n_, rfl⟩ := hd_.out; clear hd_)
      go_wp2_with fail
      (go_at_call 22; (with_reducible refine (ram_Write.runs A c l _ 8 (Go.bits .or .u64 e 64) _ _ (by (repeat (with_reducible first | exact r.out | apply Kd.F_drew | apply Kd.F_drewN | apply Kd.F_alloc | refine Kd.F_far ?_ ?_ _)); all_goals (intro j_ hj_; (try dsimp only at hj_); (try dsimp only); (try simp only [sz_alloc, sz_drew, sz_drewN, sz_set] at hj_); omega)) rc.out (u64_wrapB _) HL2.out).mono ?_); rintro e_ w3 ⟨A_s, c_s, rfl, hc_s, hr_s, hb_⟩; have HB_ : Aside0 (Below w.heap.size w w3) := Aside0.mk (below_step (by repeat (first | (with_reducible first | exact HB.out | exact Below.refl _ _ | apply below_alloc | apply pw_below_drewN | apply below_drew | refine below_set ?_ (by omega)) | exact HB.out)) hb_); have hzw3 := hb_.size; (try simp at hzw3); have oa_ := Aside0.mk (box_below hb_ (by repeat (with_reducible first | exact oa.out | apply ext_drew | apply ext_drewN | apply ext_alloc | refine blk_far ?_ (by show _ ≠ _; dsimp only; omega) _))); have ob_ := Aside0.mk (box_below hb_ (by repeat (with_reducible first | exact ob.out | apply ext_drew | apply ext_drewN | apply ext_alloc | refine blk_far ?_ (by show _ ≠ _; dsimp only; omega) _))); (try clear oa oac oaf oal); have oa := oa_; clear oa_; obtain ⟨oac, oaf, oal⟩ := cells_of oa.out; (try clear ob obc obf obl); have ob := ob_; clear ob_; obtain ⟨obc, obf, obl⟩ := cells_of ob.out; clear HB hb_; have HB := HB_; clear HB_; have sc := Aside0.mk hc_s; have s := Aside0.mk (Kd.F_bound hr_s); clear hc_s hr_s; skip)
      go_wp2
      have hsum : IntKind.i64.wrap (12 + 9 * (2 - (k : Int)) - 1) = 12 + 9 * (2 - (k : Int)) - 1 := IntWalk.i64_in _ (by omega)
      go_region_with ((go_at_call 17; (with_reducible refine (HFL.out _).mono ?_); rintro e_ w_ ⟨rfl, hd_⟩; obtain ⟨n_, rfl⟩ := hd_.out; clear hd_))
      all_goals go_wp2
      all_goals refine bodyPost_ret (v := .tuple #[.int .u64 (Go.bits .or .u64 (IntKind.u64.wrap (m * 4096)) v), .agg #[.slice A_s (writeL l (IntKind.u64.wrap (T + IntKind.u64.wrap (8 * q))) 8 (Go.bits .or .u64 e 64)).length c_s], .int .i64 0, .bool true]) (by simp [results, Try.results9, go_sem, oac, obc, obl] <;> first | assumption | omega | (symm; assumption)) rfl ?_
      all_goals (rw [← HE.out]; exact ⟨A_s, c_s, rfl, sc.out, (by refine F_res (ok := ?_) ?_ ?_; rotate_left; (repeat (with_reducible first | exact s.out | apply Kd.F_drew | apply Kd.F_drewN | apply Kd.F_alloc | refine Kd.F_far ?_ ?_ _)); all_goals (intro j_ hj_; (try dsimp only at hj_); (try dsimp only); (try simp only [sz_alloc, sz_drew, sz_drewN, sz_set] at hj_); first | omega | exact .inl hj_.1 | exact .inl hj_ | exact .inr (by omega) | (rcases hj_ with hj_ | hj_; exact .inl hj_.1; exact .inr (by omega)) | (rcases hj_ with hj_ | hj_; exact .inl hj_; exact .inr (by omega)) | (rcases hj_.1 with hk_ | hk_; (first | exact .inl hk_.1 | exact .inl hk_); exact .inr (by omega)))), (by repeat (first | (with_reducible first | exact HB.out | exact Below.refl _ _ | apply below_alloc | apply pw_below_drewN | apply below_drew | refine below_set ?_ (by omega)) | exact HB.out))⟩)
end
end Go.Proofs.Ytbidnolopbjlaaa.Q
