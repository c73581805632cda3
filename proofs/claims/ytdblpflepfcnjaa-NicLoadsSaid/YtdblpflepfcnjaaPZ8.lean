import Derived.Test.YtdblpflepfcnjaaPZ1
import Derived.Test.YtdblpflepfcnjaaPZ4
import Derived.Test.YtdblpflepfcnjaaPZ5
import Derived.Test.YtdblpflepfcnjaaPZ7
import Derived.Test.YtdblpflepfcnjaaPZ3
import Derived.Test.YtdblpflepfcnjaaPZ6
section
/- The document's Load. -/
namespace Go.Proofs.Ytdblpflepfcnjaa.Q
open Go.RowKit Go.Proofs.YtdblpflepfcnjaaW.PrintWords Go.Proofs.YtdblpflepfcnjaaW.PrintLast Go.Proofs.YtdblpflepfcnjaaW.PrintMore Go.Proofs.Ytdblpflepfcnjaa.L
attribute [local go_sem] Instr.field part asAgg lt_step max2_int min2_int max_two min_two max_three min_three max_four min_four lt_0_1 lt_0_2 lt_1_2 lt_0_3 lt_1_3 lt_2_3 lt_0_4 lt_1_4 lt_2_4 lt_3_4 lt_0_5 lt_1_5 lt_2_5 lt_3_5 lt_4_5 lt_0_6 lt_1_6 lt_2_6 lt_3_6 lt_4_6 lt_5_6 lt_0_7 lt_1_7 lt_2_7 lt_3_7 lt_4_7 lt_5_7 lt_6_7 lt_0_8 lt_1_8 lt_2_8 lt_3_8 lt_4_8 lt_5_8 lt_6_8 lt_7_8
set_option linter.unusedVariables false
set_option linter.unusedSimpArgs false
def regRL (c : Nat → Int) (mac : List Int) : List Int := [IntKind.u64.wrap (c 0), IntKind.u64.wrap (c 1), IntKind.u64.wrap (c 2), c 3, IntKind.u64.wrap (c 4), IntKind.u64.wrap (c 5), IntKind.u64.wrap (c 6), c 7, IntKind.u64.wrap (c 8), IntKind.u64.wrap (c 9), IntKind.u64.wrap (c 10), IntKind.u64.wrap (c 11), IntKind.u64.wrap (c 12), getB (mac.take 4) false, getB ((mac.drop 4).take 2) false]
def regR (c : Nat → Int) (mac : List Int) : Array Value := #[.int .u64 (IntKind.u64.wrap (c 0)), .int .u64 (IntKind.u64.wrap (c 1)), .int .u64 (IntKind.u64.wrap (c 2)), .int .u64 (c 3), .int .u64 (IntKind.u64.wrap (c 4)), .int .u64 (IntKind.u64.wrap (c 5)), .int .u64 (IntKind.u64.wrap (c 6)), .int .u64 (c 7), .int .u64 (IntKind.u64.wrap (c 8)), .int .u64 (IntKind.u64.wrap (c 9)), .int .u64 (IntKind.u64.wrap (c 10)), .int .u64 (IntKind.u64.wrap (c 11)), .int .u64 (IntKind.u64.wrap (c 12)), .int .u64 (getB (mac.take 4) false), .int .u64 (getB ((mac.drop 4).take 2) false)]
theorem mac_split (mac : List Int) (h6 : mac.length = 6) (hb : ∀ z ∈ mac, byte z) : Go.bits .and .u64 (getB mac false) 4294967295 = getB (mac.take 4) false ∧ getB mac false / 4294967296 = getB ((mac.drop 4).take 2) false := by
  match mac, h6, hb with
  | [a, b, c, d, e, f], _, hb =>
    have ha := hb a (by simp)
    have hb' := hb b (by simp)
    have hc := hb c (by simp)
    have hd := hb d (by simp)
    have he := hb e (by simp)
    have hf := hb f (by simp)
    unfold byte at ha hb' hc hd he hf
    have e1 : getB [a, b, c, d, e, f] false = a + 256 * b + 65536 * c + 16777216 * d + 4294967296 * e + 1099511627776 * f := by simp [getB, getLE]; omega
    have e2 : getB ([a, b, c, d, e, f].take 4) false = a + 256 * b + 65536 * c + 16777216 * d := by simp [getB, getLE]; omega
    have e3 : getB (([a, b, c, d, e, f].drop 4).take 2) false = e + 256 * f := by simp [getB, getLE]
    rw [e1, e2, e3]
    refine ⟨?_, by omega⟩
    rw [u64_and _ 4294967295 (by omega) (by omega) (by decide) (by decide)]
    obtain ⟨n, hn⟩ := Int.eq_ofNat_of_zero_le (show 0 ≤ a + 256 * b + 65536 * c + 16777216 * d + 4294967296 * e + 1099511627776 * f by omega)
    rw [hn]
    show ((n &&& 4294967295 : Nat) : Int) = _
    rw [show (4294967295 : Nat) = 2 ^ 32 - 1 from rfl, Nat.and_two_pow_sub_one_eq_mod]
    omega
theorem regR_is (c : Nat → Int) (mac : List Int) (h6 : mac.length = 6) (hb : ∀ z ∈ mac, byte z) : regRL c mac = regL c (getB mac false) := by
  have h := mac_split mac h6 hb
  unfold regRL regL
  rw [h.1, h.2]
def refuseR (c : Nat → Int) (m : Nat) (off size : Int) : Bool := !okC c m || (size != 4) || (Int.tmod off 4 != 0) || decide (off > 56)
theorem refuseR_is (c : Nat → Int) (m : Nat) (off size : Int) (h0 : 0 ≤ off) (h64 : off < 18446744073709551616) : refuseR c m off size = refuseZ c m off size := by
  unfold refuseR refuseZ
  have h3 : Go.bits .and .u64 off 3 = off % 4 := by
    rw [u64_and off 3 h0 h64 (by decide) (by decide)]
    obtain ⟨n, rfl⟩ := Int.eq_ofNat_of_zero_le h0
    show ((n &&& 3 : Nat) : Int) = _
    rw [show (3 : Nat) = 2 ^ 2 - 1 from rfl, Nat.and_two_pow_sub_one_eq_mod]
    omega
  rw [h3, Int.tmod_eq_emod_of_nonneg h0]
  cases okC c m <;> cases (size != 4) <;> simp
  by_cases h : off % 4 = 0
  · simp [h]; omega
  · have : 0 < off % 4 := by omega
    simp [h, this]
set_option maxHeartbeats 1600000 in
set_option maxRecDepth 100000 in
theorem rld_yes (cap : Nat) (mb mo : Nat) (mac : List Int) (c : Nat → Int) (off size : Int) (q : Nat) (w : World) (okm : Nat → Prop) (hm : Kd.F (Kd.int .u8) w okm (some ⟨mb, mo, none⟩) 6 mac) (hmc : 6 ≤ cap) (hmb : ∀ z ∈ mac, byte z) (hlen : mac.length = 6) (h3 : 0 ≤ c 3) (h7 : 0 ≤ c 7) (hk : okC c 6 = true) (hs : (size != 4) = false) (h4 : (Int.tmod off 4 != 0) = false) (h56 : decide (off > 56) = false) (hq : IntKind.u64.wrap (Int.tdiv off 4) = (q : Int)) (hq15 : q < 15) (V : Int) (hV : (regRL c mac).getD q 0 = V) :
    Calls Try.prog 14 #[.agg (C14 c (.slice (some ⟨mb, mo, none⟩) 6 cap)), .int .u64 off, .int .i64 size] w fun e w' => e = .returned (.tuple #[.int .u64 V, .bool true]) ∧ Below w.heap.size w w' := by
  have HB := Aside0.mk (Below.refl w.heap.size w)
  have HM := Aside0.mk (Kd.F_bound hm)
  have HMC := Aside0.mk hmc
  have HMB := Aside0.mk hmb
  have HLEN := Aside0.mk hlen
  have HK := Aside0.mk hk
  have H3 := Aside0.mk h3
  have H7 := Aside0.mk h7
  have HV := Aside0.mk hV
  have hu := Try.underlying25
  clear hm hmb hlen hk h3 h7 hV
  go_enter Try.func14, Try.ntmps14
  go_upto_region 1 with fail
  obtain ⟨wa, hwa, on0, hb_, hz0⟩ := letter1 w (.cells (C14 c (.slice (some ⟨mb, mo, none⟩) 6 cap)) 25 (0, 0))
  rw [hwa]
  clear hwa
  have hzwa := Nat.le_of_eq hz0.symm
  clear hz0
  have on := Aside0.mk on0
  clear on0
  obtain ⟨onc, onf, onl⟩ := cells_of on.out
  have HB_ : Aside0 (Below w.heap.size w wa) := ⟨hb_⟩
  have HM_ := Aside0.mk (Kd.F_below HM.out hb_)
  clear HM
  have HM := HM_
  clear HM_
  clear HB hb_
  have HB := HB_
  clear HB_
  go_wp2_with (first | ((with_reducible refine gate_dst (N := 9) rfl ?_); (try (refine gate_guard (by rfl) ?_; dsimp only)); refine wpList_load_row rfl 25 _ rfl _ (by rfl) _ (C14 c (.slice (some ⟨mb, mo, none⟩) 6 cap)) _ _ (eG on) Try.underlying25 rfl i25 ?_))
  (go_at_call 20; (with_reducible refine (rCheck_of true c (some ⟨mb, mo, none⟩) 6 cap _ H3.out H7.out HK.out).mono ?_); rintro e_ w1 ⟨rfl, hb_⟩; have HB_ : Aside0 (Below w.heap.size w w1) := Aside0.mk (below_step (bG HB) hb_); have hzw1 := hb_.size; (try simp at hzw1); have on_ := Aside0.mk (box_below hb_ (eG on)); have HM_ := Aside0.mk (Kd.F_below (fG HM) hb_); clear HM; have HM := HM_; clear HM_; (try clear on onc onf onl); have on := on_; clear on_; obtain ⟨onc, onf, onl⟩ := cells_of on.out; clear HB hb_; have HB := HB_; clear HB_)
  obtain ⟨i096, hi096, _, hsz96, _⟩ := info_parts infoB
  have hcut1 := cut_to (P := Try.prog) 23 5 .i64 Try.underlying23 hi096 (some ⟨mb, mo, none⟩) 6 cap 4 (by decide) (by decide) HMC.out
  have hcut2 := cut_from (P := Try.prog) 23 5 .i64 Try.underlying23 hi096 1 hsz96 (some ⟨mb, mo, none⟩) 6 cap 4 (by decide) (by decide)
  try rw [if_neg (by omega)] at hcut2
  simp only [Option.map_some, add_eq] at hcut2
  have HM1 := Aside0.mk (F_sub HM.out 0 4 (by decide))
  rw [Nat.add_zero, List.drop_zero] at HM1
  have HM2 := Aside0.mk (F_sub HM.out 4 2 (by decide))
  clear hi096 hsz96
  go_upto_region 3 with fail
  refine start_ (n := 47) (S := fun w' => w'.heap[w.heap.size]? = some (.cells (C14 c (.slice (some ⟨mb, mo, none⟩) 6 cap)) 25 (0, 0))) (ds := []) #[false, false, false, false, false, false, false, false, false, false, false, false, false, false, false, false, false, false, false, false, false, false, false, false, false, false, false, false, false, false, false, false, false, false, false, false, false, false, false, false, false, false, false, false, false, false, false] (by kernel_rfl) rfl rfl (eG on) (fun hHeld => ?_)
  refine pure_ (i := 0) (N := some 25) (v := ?_) (a' := ?_) #[true, false, false, false, false, false, false, false, false, false, false, false, false, false, false, false, false, false, false, false, false, false, false, false, false, false, false, false, false, false, false, false, false, false, false, false, false, false, false, false, false, false, false, false, false, false, false] rfl rfl (by kernel_rfl) (fun _ _ _ h => h) (Or.inl ⟨by rfl, ?_⟩) ?_ ?_
  rotate_left
  · intro w'
    go_simp
    with_reducible rfl
  rotate_left
  · simp only [Act.put, List.setIfInBounds_toArray, List.set_cons_zero, List.set_cons_succ, i64_w, i32_w]
    rfl
  refine take_ (i := 1) (N := some 26) (v := ?_) (a' := ?_) #[true, true, false, false, false, false, false, false, false, false, false, false, false, false, false, false, false, false, false, false, false, false, false, false, false, false, false, false, false, false, false, false, false, false, false, false, false, false, false, false, false, false, false, false, false, false, false] rfl rfl (by kernel_rfl) (fun _ _ _ h => h) (Or.inl ⟨by rfl, ?_⟩) hHeld ?_ ?_
  rotate_left
  · rintro w' h_
    replace h_ : w'.cell? ⟨w.heap.size, 0, none⟩ = some (.int .i64 (c 0)) := ((cells_of h_).1 0).trans rfl
    go_simp
    with_reducible rfl
  rotate_left
  · simp only [Act.put, List.setIfInBounds_toArray, List.set_cons_zero, List.set_cons_succ, i64_w, i32_w]
    rfl
  refine pure_ (i := 2) (N := some 27) (v := ?_) (a' := ?_) #[true, true, true, false, false, false, false, false, false, false, false, false, false, false, false, false, false, false, false, false, false, false, false, false, false, false, false, false, false, false, false, false, false, false, false, false, false, false, false, false, false, false, false, false, false, false, false] rfl rfl (by kernel_rfl) (fun _ _ _ h => h) (Or.inl ⟨by rfl, ?_⟩) ?_ ?_
  rotate_left
  · intro w'
    go_simp
    with_reducible rfl
  rotate_left
  · simp only [Act.put, List.setIfInBounds_toArray, List.set_cons_zero, List.set_cons_succ, i64_w, i32_w]
    rfl
  refine pure_ (i := 3) (N := some 28) (v := ?_) (a' := ?_) #[true, true, true, true, false, false, false, false, false, false, false, false, false, false, false, false, false, false, false, false, false, false, false, false, false, false, false, false, false, false, false, false, false, false, false, false, false, false, false, false, false, false, false, false, false, false, false] rfl rfl (by kernel_rfl) (fun _ _ _ h => h) (Or.inl ⟨by rfl, ?_⟩) ?_ ?_
  rotate_left
  · intro w'
    go_simp
    with_reducible rfl
  rotate_left
  · simp only [Act.put, List.setIfInBounds_toArray, List.set_cons_zero, List.set_cons_succ, i64_w, i32_w]
    rfl
  refine take_ (i := 4) (N := some 29) (v := ?_) (a' := ?_) #[true, true, true, true, true, false, false, false, false, false, false, false, false, false, false, false, false, false, false, false, false, false, false, false, false, false, false, false, false, false, false, false, false, false, false, false, false, false, false, false, false, false, false, false, false, false, false] rfl rfl (by kernel_rfl) (fun _ _ _ h => h) (Or.inl ⟨by rfl, ?_⟩) hHeld ?_ ?_
  rotate_left
  · rintro w' h_
    replace h_ : w'.cell? ⟨w.heap.size, 1, none⟩ = some (.int .i64 (c 1)) := ((cells_of h_).1 1).trans rfl
    go_simp
    with_reducible rfl
  rotate_left
  · simp only [Act.put, List.setIfInBounds_toArray, List.set_cons_zero, List.set_cons_succ, i64_w, i32_w]
    rfl
  refine pure_ (i := 5) (N := some 30) (v := ?_) (a' := ?_) #[true, true, true, true, true, true, false, false, false, false, false, false, false, false, false, false, false, false, false, false, false, false, false, false, false, false, false, false, false, false, false, false, false, false, false, false, false, false, false, false, false, false, false, false, false, false, false] rfl rfl (by kernel_rfl) (fun _ _ _ h => h) (Or.inl ⟨by rfl, ?_⟩) ?_ ?_
  rotate_left
  · intro w'
    go_simp
    with_reducible rfl
  rotate_left
  · simp only [Act.put, List.setIfInBounds_toArray, List.set_cons_zero, List.set_cons_succ, i64_w, i32_w]
    rfl
  refine pure_ (i := 6) (N := some 31) (v := ?_) (a' := ?_) #[true, true, true, true, true, true, true, false, false, false, false, false, false, false, false, false, false, false, false, false, false, false, false, false, false, false, false, false, false, false, false, false, false, false, false, false, false, false, false, false, false, false, false, false, false, false, false] rfl rfl (by kernel_rfl) (fun _ _ _ h => h) (Or.inl ⟨by rfl, ?_⟩) ?_ ?_
  rotate_left
  · intro w'
    go_simp
    with_reducible rfl
  rotate_left
  · simp only [Act.put, List.setIfInBounds_toArray, List.set_cons_zero, List.set_cons_succ, i64_w, i32_w]
    rfl
  refine take_ (i := 7) (N := some 32) (v := ?_) (a' := ?_) #[true, true, true, true, true, true, true, true, false, false, false, false, false, false, false, false, false, false, false, false, false, false, false, false, false, false, false, false, false, false, false, false, false, false, false, false, false, false, false, false, false, false, false, false, false, false, false] rfl rfl (by kernel_rfl) (fun _ _ _ h => h) (Or.inl ⟨by rfl, ?_⟩) hHeld ?_ ?_
  rotate_left
  · rintro w' h_
    replace h_ : w'.cell? ⟨w.heap.size, 2, none⟩ = some (.int .i64 (c 2)) := ((cells_of h_).1 2).trans rfl
    go_simp
    with_reducible rfl
  rotate_left
  · simp only [Act.put, List.setIfInBounds_toArray, List.set_cons_zero, List.set_cons_succ, i64_w, i32_w]
    rfl
  refine pure_ (i := 8) (N := some 33) (v := ?_) (a' := ?_) #[true, true, true, true, true, true, true, true, true, false, false, false, false, false, false, false, false, false, false, false, false, false, false, false, false, false, false, false, false, false, false, false, false, false, false, false, false, false, false, false, false, false, false, false, false, false, false] rfl rfl (by kernel_rfl) (fun _ _ _ h => h) (Or.inl ⟨by rfl, ?_⟩) ?_ ?_
  rotate_left
  · intro w'
    go_simp
    with_reducible rfl
  rotate_left
  · simp only [Act.put, List.setIfInBounds_toArray, List.set_cons_zero, List.set_cons_succ, i64_w, i32_w]
    rfl
  refine pure_ (i := 9) (N := some 34) (v := ?_) (a' := ?_) #[true, true, true, true, true, true, true, true, true, true, false, false, false, false, false, false, false, false, false, false, false, false, false, false, false, false, false, false, false, false, false, false, false, false, false, false, false, false, false, false, false, false, false, false, false, false, false] rfl rfl (by kernel_rfl) (fun _ _ _ h => h) (Or.inl ⟨by rfl, ?_⟩) ?_ ?_
  rotate_left
  · intro w'
    go_simp
    with_reducible rfl
  rotate_left
  · simp only [Act.put, List.setIfInBounds_toArray, List.set_cons_zero, List.set_cons_succ, i64_w, i32_w]
    rfl
  refine take_ (i := 10) (N := some 35) (v := ?_) (a' := ?_) #[true, true, true, true, true, true, true, true, true, true, true, false, false, false, false, false, false, false, false, false, false, false, false, false, false, false, false, false, false, false, false, false, false, false, false, false, false, false, false, false, false, false, false, false, false, false, false] rfl rfl (by kernel_rfl) (fun _ _ _ h => h) (Or.inl ⟨by rfl, ?_⟩) hHeld ?_ ?_
  rotate_left
  · rintro w' h_
    replace h_ : w'.cell? ⟨w.heap.size, 3, none⟩ = some (.int .u64 (c 3)) := ((cells_of h_).1 3).trans rfl
    go_simp
    with_reducible rfl
  rotate_left
  · simp only [Act.put, List.setIfInBounds_toArray, List.set_cons_zero, List.set_cons_succ, i64_w, i32_w]
    rfl
  refine pure_ (i := 11) (N := some 36) (v := ?_) (a' := ?_) #[true, true, true, true, true, true, true, true, true, true, true, true, false, false, false, false, false, false, false, false, false, false, false, false, false, false, false, false, false, false, false, false, false, false, false, false, false, false, false, false, false, false, false, false, false, false, false] rfl rfl (by kernel_rfl) (fun _ _ _ h => h) (Or.inl ⟨by rfl, ?_⟩) ?_ ?_
  rotate_left
  · intro w'
    go_simp
    with_reducible rfl
  rotate_left
  · simp only [Act.put, List.setIfInBounds_toArray, List.set_cons_zero, List.set_cons_succ, i64_w, i32_w]
    rfl
  refine take_ (i := 12) (N := some 37) (v := ?_) (a' := ?_) #[true, true, true, true, true, true, true, true, true, true, true, true, true, false, false, false, false, false, false, false, false, false, false, false, false, false, false, false, false, false, false, false, false, false, false, false, false, false, false, false, false, false, false, false, false, false, false] rfl rfl (by kernel_rfl) (fun _ _ _ h => h) (Or.inl ⟨by rfl, ?_⟩) hHeld ?_ ?_
  rotate_left
  · rintro w' h_
    replace h_ : w'.cell? ⟨w.heap.size, 4, none⟩ = some (.int .i64 (c 4)) := ((cells_of h_).1 4).trans rfl
    go_simp
    with_reducible rfl
  rotate_left
  · simp only [Act.put, List.setIfInBounds_toArray, List.set_cons_zero, List.set_cons_succ, i64_w, i32_w]
    rfl
  refine pure_ (i := 13) (N := some 38) (v := ?_) (a' := ?_) #[true, true, true, true, true, true, true, true, true, true, true, true, true, true, false, false, false, false, false, false, false, false, false, false, false, false, false, false, false, false, false, false, false, false, false, false, false, false, false, false, false, false, false, false, false, false, false] rfl rfl (by kernel_rfl) (fun _ _ _ h => h) (Or.inl ⟨by rfl, ?_⟩) ?_ ?_
  rotate_left
  · intro w'
    go_simp
    with_reducible rfl
  rotate_left
  · simp only [Act.put, List.setIfInBounds_toArray, List.set_cons_zero, List.set_cons_succ, i64_w, i32_w]
    rfl
  refine pure_ (i := 14) (N := some 39) (v := ?_) (a' := ?_) #[true, true, true, true, true, true, true, true, true, true, true, true, true, true, true, false, false, false, false, false, false, false, false, false, false, false, false, false, false, false, false, false, false, false, false, false, false, false, false, false, false, false, false, false, false, false, false] rfl rfl (by kernel_rfl) (fun _ _ _ h => h) (Or.inl ⟨by rfl, ?_⟩) ?_ ?_
  rotate_left
  · intro w'
    go_simp
    with_reducible rfl
  rotate_left
  · simp only [Act.put, List.setIfInBounds_toArray, List.set_cons_zero, List.set_cons_succ, i64_w, i32_w]
    rfl
  refine take_ (i := 15) (N := some 40) (v := ?_) (a' := ?_) #[true, true, true, true, true, true, true, true, true, true, true, true, true, true, true, true, false, false, false, false, false, false, false, false, false, false, false, false, false, false, false, false, false, false, false, false, false, false, false, false, false, false, false, false, false, false, false] rfl rfl (by kernel_rfl) (fun _ _ _ h => h) (Or.inl ⟨by rfl, ?_⟩) hHeld ?_ ?_
  rotate_left
  · rintro w' h_
    replace h_ : w'.cell? ⟨w.heap.size, 5, none⟩ = some (.int .i64 (c 5)) := ((cells_of h_).1 5).trans rfl
    go_simp
    with_reducible rfl
  rotate_left
  · simp only [Act.put, List.setIfInBounds_toArray, List.set_cons_zero, List.set_cons_succ, i64_w, i32_w]
    rfl
  refine pure_ (i := 16) (N := some 41) (v := ?_) (a' := ?_) #[true, true, true, true, true, true, true, true, true, true, true, true, true, true, true, true, true, false, false, false, false, false, false, false, false, false, false, false, false, false, false, false, false, false, false, false, false, false, false, false, false, false, false, false, false, false, false] rfl rfl (by kernel_rfl) (fun _ _ _ h => h) (Or.inl ⟨by rfl, ?_⟩) ?_ ?_
  rotate_left
  · intro w'
    go_simp
    with_reducible rfl
  rotate_left
  · simp only [Act.put, List.setIfInBounds_toArray, List.set_cons_zero, List.set_cons_succ, i64_w, i32_w]
    rfl
  refine pure_ (i := 17) (N := some 42) (v := ?_) (a' := ?_) #[true, true, true, true, true, true, true, true, true, true, true, true, true, true, true, true, true, true, false, false, false, false, false, false, false, false, false, false, false, false, false, false, false, false, false, false, false, false, false, false, false, false, false, false, false, false, false] rfl rfl (by kernel_rfl) (fun _ _ _ h => h) (Or.inl ⟨by rfl, ?_⟩) ?_ ?_
  rotate_left
  · intro w'
    go_simp
    with_reducible rfl
  rotate_left
  · simp only [Act.put, List.setIfInBounds_toArray, List.set_cons_zero, List.set_cons_succ, i64_w, i32_w]
    rfl
  refine take_ (i := 18) (N := some 43) (v := ?_) (a' := ?_) #[true, true, true, true, true, true, true, true, true, true, true, true, true, true, true, true, true, true, true, false, false, false, false, false, false, false, false, false, false, false, false, false, false, false, false, false, false, false, false, false, false, false, false, false, false, false, false] rfl rfl (by kernel_rfl) (fun _ _ _ h => h) (Or.inl ⟨by rfl, ?_⟩) hHeld ?_ ?_
  rotate_left
  · rintro w' h_
    replace h_ : w'.cell? ⟨w.heap.size, 6, none⟩ = some (.int .i64 (c 6)) := ((cells_of h_).1 6).trans rfl
    go_simp
    with_reducible rfl
  rotate_left
  · simp only [Act.put, List.setIfInBounds_toArray, List.set_cons_zero, List.set_cons_succ, i64_w, i32_w]
    rfl
  refine pure_ (i := 19) (N := some 44) (v := ?_) (a' := ?_) #[true, true, true, true, true, true, true, true, true, true, true, true, true, true, true, true, true, true, true, true, false, false, false, false, false, false, false, false, false, false, false, false, false, false, false, false, false, false, false, false, false, false, false, false, false, false, false] rfl rfl (by kernel_rfl) (fun _ _ _ h => h) (Or.inl ⟨by rfl, ?_⟩) ?_ ?_
  rotate_left
  · intro w'
    go_simp
    with_reducible rfl
  rotate_left
  · simp only [Act.put, List.setIfInBounds_toArray, List.set_cons_zero, List.set_cons_succ, i64_w, i32_w]
    rfl
  refine pure_ (i := 20) (N := some 45) (v := ?_) (a' := ?_) #[true, true, true, true, true, true, true, true, true, true, true, true, true, true, true, true, true, true, true, true, true, false, false, false, false, false, false, false, false, false, false, false, false, false, false, false, false, false, false, false, false, false, false, false, false, false, false] rfl rfl (by kernel_rfl) (fun _ _ _ h => h) (Or.inl ⟨by rfl, ?_⟩) ?_ ?_
  rotate_left
  · intro w'
    go_simp
    with_reducible rfl
  rotate_left
  · simp only [Act.put, List.setIfInBounds_toArray, List.set_cons_zero, List.set_cons_succ, i64_w, i32_w]
    rfl
  refine take_ (i := 21) (N := some 46) (v := ?_) (a' := ?_) #[true, true, true, true, true, true, true, true, true, true, true, true, true, true, true, true, true, true, true, true, true, true, false, false, false, false, false, false, false, false, false, false, false, false, false, false, false, false, false, false, false, false, false, false, false, false, false] rfl rfl (by kernel_rfl) (fun _ _ _ h => h) (Or.inl ⟨by rfl, ?_⟩) hHeld ?_ ?_
  rotate_left
  · rintro w' h_
    replace h_ : w'.cell? ⟨w.heap.size, 7, none⟩ = some (.int .u64 (c 7)) := ((cells_of h_).1 7).trans rfl
    go_simp
    with_reducible rfl
  rotate_left
  · simp only [Act.put, List.setIfInBounds_toArray, List.set_cons_zero, List.set_cons_succ, i64_w, i32_w]
    rfl
  refine pure_ (i := 22) (N := some 47) (v := ?_) (a' := ?_) #[true, true, true, true, true, true, true, true, true, true, true, true, true, true, true, true, true, true, true, true, true, true, true, false, false, false, false, false, false, false, false, false, false, false, false, false, false, false, false, false, false, false, false, false, false, false, false] rfl rfl (by kernel_rfl) (fun _ _ _ h => h) (Or.inl ⟨by rfl, ?_⟩) ?_ ?_
  rotate_left
  · intro w'
    go_simp
    with_reducible rfl
  rotate_left
  · simp only [Act.put, List.setIfInBounds_toArray, List.set_cons_zero, List.set_cons_succ, i64_w, i32_w]
    rfl
  refine take_ (i := 23) (N := some 48) (v := ?_) (a' := ?_) #[true, true, true, true, true, true, true, true, true, true, true, true, true, true, true, true, true, true, true, true, true, true, true, true, false, false, false, false, false, false, false, false, false, false, false, false, false, false, false, false, false, false, false, false, false, false, false] rfl rfl (by kernel_rfl) (fun _ _ _ h => h) (Or.inl ⟨by rfl, ?_⟩) hHeld ?_ ?_
  rotate_left
  · rintro w' h_
    replace h_ : w'.cell? ⟨w.heap.size, 8, none⟩ = some (.int .i64 (c 8)) := ((cells_of h_).1 8).trans rfl
    go_simp
    with_reducible rfl
  rotate_left
  · simp only [Act.put, List.setIfInBounds_toArray, List.set_cons_zero, List.set_cons_succ, i64_w, i32_w]
    rfl
  refine pure_ (i := 24) (N := some 49) (v := ?_) (a' := ?_) #[true, true, true, true, true, true, true, true, true, true, true, true, true, true, true, true, true, true, true, true, true, true, true, true, true, false, false, false, false, false, false, false, false, false, false, false, false, false, false, false, false, false, false, false, false, false, false] rfl rfl (by kernel_rfl) (fun _ _ _ h => h) (Or.inl ⟨by rfl, ?_⟩) ?_ ?_
  rotate_left
  · intro w'
    go_simp
    with_reducible rfl
  rotate_left
  · simp only [Act.put, List.setIfInBounds_toArray, List.set_cons_zero, List.set_cons_succ, i64_w, i32_w]
    rfl
  refine pure_ (i := 25) (N := some 50) (v := ?_) (a' := ?_) #[true, true, true, true, true, true, true, true, true, true, true, true, true, true, true, true, true, true, true, true, true, true, true, true, true, true, false, false, false, false, false, false, false, false, false, false, false, false, false, false, false, false, false, false, false, false, false] rfl rfl (by kernel_rfl) (fun _ _ _ h => h) (Or.inl ⟨by rfl, ?_⟩) ?_ ?_
  rotate_left
  · intro w'
    go_simp
    with_reducible rfl
  rotate_left
  · simp only [Act.put, List.setIfInBounds_toArray, List.set_cons_zero, List.set_cons_succ, i64_w, i32_w]
    rfl
  refine take_ (i := 26) (N := some 51) (v := ?_) (a' := ?_) #[true, true, true, true, true, true, true, true, true, true, true, true, true, true, true, true, true, true, true, true, true, true, true, true, true, true, true, false, false, false, false, false, false, false, false, false, false, false, false, false, false, false, false, false, false, false, false] rfl rfl (by kernel_rfl) (fun _ _ _ h => h) (Or.inl ⟨by rfl, ?_⟩) hHeld ?_ ?_
  rotate_left
  · rintro w' h_
    replace h_ : w'.cell? ⟨w.heap.size, 9, none⟩ = some (.int .i64 (c 9)) := ((cells_of h_).1 9).trans rfl
    go_simp
    with_reducible rfl
  rotate_left
  · simp only [Act.put, List.setIfInBounds_toArray, List.set_cons_zero, List.set_cons_succ, i64_w, i32_w]
    rfl
  refine pure_ (i := 27) (N := some 52) (v := ?_) (a' := ?_) #[true, true, true, true, true, true, true, true, true, true, true, true, true, true, true, true, true, true, true, true, true, true, true, true, true, true, true, true, false, false, false, false, false, false, false, false, false, false, false, false, false, false, false, false, false, false, false] rfl rfl (by kernel_rfl) (fun _ _ _ h => h) (Or.inl ⟨by rfl, ?_⟩) ?_ ?_
  rotate_left
  · intro w'
    go_simp
    with_reducible rfl
  rotate_left
  · simp only [Act.put, List.setIfInBounds_toArray, List.set_cons_zero, List.set_cons_succ, i64_w, i32_w]
    rfl
  refine pure_ (i := 28) (N := some 53) (v := ?_) (a' := ?_) #[true, true, true, true, true, true, true, true, true, true, true, true, true, true, true, true, true, true, true, true, true, true, true, true, true, true, true, true, true, false, false, false, false, false, false, false, false, false, false, false, false, false, false, false, false, false, false] rfl rfl (by kernel_rfl) (fun _ _ _ h => h) (Or.inl ⟨by rfl, ?_⟩) ?_ ?_
  rotate_left
  · intro w'
    go_simp
    with_reducible rfl
  rotate_left
  · simp only [Act.put, List.setIfInBounds_toArray, List.set_cons_zero, List.set_cons_succ, i64_w, i32_w]
    rfl
  refine take_ (i := 29) (N := some 54) (v := ?_) (a' := ?_) #[true, true, true, true, true, true, true, true, true, true, true, true, true, true, true, true, true, true, true, true, true, true, true, true, true, true, true, true, true, true, false, false, false, false, false, false, false, false, false, false, false, false, false, false, false, false, false] rfl rfl (by kernel_rfl) (fun _ _ _ h => h) (Or.inl ⟨by rfl, ?_⟩) hHeld ?_ ?_
  rotate_left
  · rintro w' h_
    replace h_ : w'.cell? ⟨w.heap.size, 10, none⟩ = some (.int .i64 (c 10)) := ((cells_of h_).1 10).trans rfl
    go_simp
    with_reducible rfl
  rotate_left
  · simp only [Act.put, List.setIfInBounds_toArray, List.set_cons_zero, List.set_cons_succ, i64_w, i32_w]
    rfl
  refine pure_ (i := 30) (N := some 55) (v := ?_) (a' := ?_) #[true, true, true, true, true, true, true, true, true, true, true, true, true, true, true, true, true, true, true, true, true, true, true, true, true, true, true, true, true, true, true, false, false, false, false, false, false, false, false, false, false, false, false, false, false, false, false] rfl rfl (by kernel_rfl) (fun _ _ _ h => h) (Or.inl ⟨by rfl, ?_⟩) ?_ ?_
  rotate_left
  · intro w'
    go_simp
    with_reducible rfl
  rotate_left
  · simp only [Act.put, List.setIfInBounds_toArray, List.set_cons_zero, List.set_cons_succ, i64_w, i32_w]
    rfl
  refine pure_ (i := 31) (N := some 56) (v := ?_) (a' := ?_) #[true, true, true, true, true, true, true, true, true, true, true, true, true, true, true, true, true, true, true, true, true, true, true, true, true, true, true, true, true, true, true, true, false, false, false, false, false, false, false, false, false, false, false, false, false, false, false] rfl rfl (by kernel_rfl) (fun _ _ _ h => h) (Or.inl ⟨by rfl, ?_⟩) ?_ ?_
  rotate_left
  · intro w'
    go_simp
    with_reducible rfl
  rotate_left
  · simp only [Act.put, List.setIfInBounds_toArray, List.set_cons_zero, List.set_cons_succ, i64_w, i32_w]
    rfl
  refine take_ (i := 32) (N := some 57) (v := ?_) (a' := ?_) #[true, true, true, true, true, true, true, true, true, true, true, true, true, true, true, true, true, true, true, true, true, true, true, true, true, true, true, true, true, true, true, true, true, false, false, false, false, false, false, false, false, false, false, false, false, false, false] rfl rfl (by kernel_rfl) (fun _ _ _ h => h) (Or.inl ⟨by rfl, ?_⟩) hHeld ?_ ?_
  rotate_left
  · rintro w' h_
    replace h_ : w'.cell? ⟨w.heap.size, 11, none⟩ = some (.int .i64 (c 11)) := ((cells_of h_).1 11).trans rfl
    go_simp
    with_reducible rfl
  rotate_left
  · simp only [Act.put, List.setIfInBounds_toArray, List.set_cons_zero, List.set_cons_succ, i64_w, i32_w]
    rfl
  refine pure_ (i := 33) (N := some 58) (v := ?_) (a' := ?_) #[true, true, true, true, true, true, true, true, true, true, true, true, true, true, true, true, true, true, true, true, true, true, true, true, true, true, true, true, true, true, true, true, true, true, false, false, false, false, false, false, false, false, false, false, false, false, false] rfl rfl (by kernel_rfl) (fun _ _ _ h => h) (Or.inl ⟨by rfl, ?_⟩) ?_ ?_
  rotate_left
  · intro w'
    go_simp
    with_reducible rfl
  rotate_left
  · simp only [Act.put, List.setIfInBounds_toArray, List.set_cons_zero, List.set_cons_succ, i64_w, i32_w]
    rfl
  refine pure_ (i := 34) (N := some 59) (v := ?_) (a' := ?_) #[true, true, true, true, true, true, true, true, true, true, true, true, true, true, true, true, true, true, true, true, true, true, true, true, true, true, true, true, true, true, true, true, true, true, true, false, false, false, false, false, false, false, false, false, false, false, false] rfl rfl (by kernel_rfl) (fun _ _ _ h => h) (Or.inl ⟨by rfl, ?_⟩) ?_ ?_
  rotate_left
  · intro w'
    go_simp
    with_reducible rfl
  rotate_left
  · simp only [Act.put, List.setIfInBounds_toArray, List.set_cons_zero, List.set_cons_succ, i64_w, i32_w]
    rfl
  refine take_ (i := 35) (N := some 60) (v := ?_) (a' := ?_) #[true, true, true, true, true, true, true, true, true, true, true, true, true, true, true, true, true, true, true, true, true, true, true, true, true, true, true, true, true, true, true, true, true, true, true, true, false, false, false, false, false, false, false, false, false, false, false] rfl rfl (by kernel_rfl) (fun _ _ _ h => h) (Or.inl ⟨by rfl, ?_⟩) hHeld ?_ ?_
  rotate_left
  · rintro w' h_
    replace h_ : w'.cell? ⟨w.heap.size, 12, none⟩ = some (.int .i64 (c 12)) := ((cells_of h_).1 12).trans rfl
    go_simp
    with_reducible rfl
  rotate_left
  · simp only [Act.put, List.setIfInBounds_toArray, List.set_cons_zero, List.set_cons_succ, i64_w, i32_w]
    rfl
  refine pure_ (i := 36) (N := some 61) (v := ?_) (a' := ?_) #[true, true, true, true, true, true, true, true, true, true, true, true, true, true, true, true, true, true, true, true, true, true, true, true, true, true, true, true, true, true, true, true, true, true, true, true, true, false, false, false, false, false, false, false, false, false, false] rfl rfl (by kernel_rfl) (fun _ _ _ h => h) (Or.inl ⟨by rfl, ?_⟩) ?_ ?_
  rotate_left
  · intro w'
    go_simp
    with_reducible rfl
  rotate_left
  · simp only [Act.put, List.setIfInBounds_toArray, List.set_cons_zero, List.set_cons_succ, i64_w, i32_w]
    rfl
  refine pure_ (i := 37) (N := some 62) (v := ?_) (a' := ?_) #[true, true, true, true, true, true, true, true, true, true, true, true, true, true, true, true, true, true, true, true, true, true, true, true, true, true, true, true, true, true, true, true, true, true, true, true, true, true, false, false, false, false, false, false, false, false, false] rfl rfl (by kernel_rfl) (fun _ _ _ h => h) (Or.inl ⟨by rfl, ?_⟩) ?_ ?_
  rotate_left
  · intro w'
    go_simp
    with_reducible rfl
  rotate_left
  · simp only [Act.put, List.setIfInBounds_toArray, List.set_cons_zero, List.set_cons_succ, i64_w, i32_w]
    rfl
  refine take_ (i := 38) (N := some 63) (v := ?_) (a' := ?_) #[true, true, true, true, true, true, true, true, true, true, true, true, true, true, true, true, true, true, true, true, true, true, true, true, true, true, true, true, true, true, true, true, true, true, true, true, true, true, true, false, false, false, false, false, false, false, false] rfl rfl (by kernel_rfl) (fun _ _ _ h => h) (Or.inl ⟨by rfl, ?_⟩) hHeld ?_ ?_
  rotate_left
  · rintro w' h_
    replace h_ : w'.cell? ⟨w.heap.size, 13, none⟩ = some (.slice (some ⟨mb, mo, none⟩) 6 cap) := ((cells_of h_).1 13).trans rfl
    go_simp
    with_reducible rfl
  rotate_left
  · simp only [Act.put, List.setIfInBounds_toArray, List.set_cons_zero, List.set_cons_succ, i64_w, i32_w]
    rfl
  refine pure_ (i := 39) (N := some 64) (v := ?_) (a' := ?_) #[true, true, true, true, true, true, true, true, true, true, true, true, true, true, true, true, true, true, true, true, true, true, true, true, true, true, true, true, true, true, true, true, true, true, true, true, true, true, true, true, false, false, false, false, false, false, false] rfl rfl (by kernel_rfl) (fun _ _ _ h => h) (Or.inl ⟨by rfl, ?_⟩) ?_ ?_
  rotate_left
  · intro w'
    go_simp
    with_reducible rfl
  rotate_left
  · simp only [Act.put, List.setIfInBounds_toArray, List.set_cons_zero, List.set_cons_succ, i64_w, i32_w]
    rfl
  refine pure_ (i := 41) (N := some 66) (v := ?_) (a' := ?_) #[true, true, true, true, true, true, true, true, true, true, true, true, true, true, true, true, true, true, true, true, true, true, true, true, true, true, true, true, true, true, true, true, true, true, true, true, true, true, true, true, false, true, false, false, false, false, false] rfl rfl (by kernel_rfl) (fun _ _ _ h => h) (Or.inl ⟨by rfl, ?_⟩) ?_ ?_
  rotate_left
  · intro w'
    go_simp
    with_reducible rfl
  rotate_left
  · simp only [Act.put, List.setIfInBounds_toArray, List.set_cons_zero, List.set_cons_succ, i64_w, i32_w]
    rfl
  refine take_ (i := 42) (N := some 67) (v := ?_) (a' := ?_) #[true, true, true, true, true, true, true, true, true, true, true, true, true, true, true, true, true, true, true, true, true, true, true, true, true, true, true, true, true, true, true, true, true, true, true, true, true, true, true, true, false, true, true, false, false, false, false] rfl rfl (by kernel_rfl) (fun _ _ _ h => h) (Or.inl ⟨by rfl, ?_⟩) hHeld ?_ ?_
  rotate_left
  · rintro w' h_
    replace h_ : w'.cell? ⟨w.heap.size, 13, none⟩ = some (.slice (some ⟨mb, mo, none⟩) 6 cap) := ((cells_of h_).1 13).trans rfl
    go_simp
    with_reducible rfl
  rotate_left
  · simp only [Act.put, List.setIfInBounds_toArray, List.set_cons_zero, List.set_cons_succ, i64_w, i32_w]
    rfl
  refine pure_ (i := 43) (N := some 68) (v := ?_) (a' := ?_) #[true, true, true, true, true, true, true, true, true, true, true, true, true, true, true, true, true, true, true, true, true, true, true, true, true, true, true, true, true, true, true, true, true, true, true, true, true, true, true, true, false, true, true, true, false, false, false] rfl rfl (by kernel_rfl) (fun _ _ _ h => h) (Or.inl ⟨by rfl, ?_⟩) ?_ ?_
  rotate_left
  · intro w'
    go_simp
    with_reducible rfl
  rotate_left
  · simp only [Act.put, List.setIfInBounds_toArray, List.set_cons_zero, List.set_cons_succ, i64_w, i32_w]
    rfl
  refine one_ (i := 40) (N := some 65) #[true, true, true, true, true, true, true, true, true, true, true, true, true, true, true, true, true, true, true, true, true, true, true, true, true, true, true, true, true, true, true, true, true, true, true, true, true, true, true, true, true, true, true, true, false, false, false] rfl rfl (by kernel_rfl) (by decide) (fun K hK => ?_)
  (refine goes_ Try.func39 (by kernel_rfl) rfl #[.slice (some ⟨mb, mo, none⟩) 4 cap, .bool false] (by rfl) rfl rfl (by (try simp only [List.map_toArray, List.map_cons, List.map_nil]); first | done | rfl) ?_; (with_reducible refine (rget_c 4 (some ⟨mb, mo, none⟩) cap (mac.take 4) _ (by simp [HLEN.out]) (Kd.F_now (fG HM1)) (by omega) (fun z hz => HMB.out z (List.mem_of_mem_take hz))).mono ?_); rintro e_ w4 ⟨rfl, hb_⟩; refine ⟨_, rfl, ?_⟩; have HB_ : Aside0 (Below w.heap.size w w4) := Aside0.mk (below_step (bG HB) hb_); have hzw4 := hb_.size; (try simp at hzw4); have on_ := Aside0.mk (box_below hb_ (eG on)); have HM2_ := Aside0.mk (Kd.F_below (fG HM2) hb_); clear HM2; have HM2 := HM2_; clear HM2_; (try clear on onc onf onl); have on := on_; clear on_; obtain ⟨onc, onf, onl⟩ := cells_of on.out; clear HB hb_; have HB := HB_; clear HB_)
  refine hK.out _ _ (eG on) (fun hHeld => ?_)
  clear hK K
  refine norm_ (a' := ?_) ?_ ?_
  rotate_left
  · simp only [Act.put, List.setIfInBounds_toArray, List.set_cons_zero, List.set_cons_succ, i64_w, i32_w]
    rfl
  refine one_ (i := 44) (N := some 69) #[true, true, true, true, true, true, true, true, true, true, true, true, true, true, true, true, true, true, true, true, true, true, true, true, true, true, true, true, true, true, true, true, true, true, true, true, true, true, true, true, true, true, true, true, true, false, false] rfl rfl (by kernel_rfl) (by decide) (fun K hK => ?_)
  (refine goes_ Try.func39 (by kernel_rfl) rfl #[.slice (some ⟨mb, mo + 4, none⟩) 2 (cap - 4), .bool false] (by rfl) rfl rfl (by (try simp only [List.map_toArray, List.map_cons, List.map_nil]); first | done | rfl) ?_; (with_reducible refine (rget_c 2 (some ⟨mb, mo + 4, none⟩) (cap - 4) ((mac.drop 4).take 2) _ (by simp [HLEN.out]) (Kd.F_now (fG HM2)) (by omega) (fun z hz => HMB.out z (List.mem_of_mem_drop (List.mem_of_mem_take hz)))).mono ?_); rintro e_ w5 ⟨rfl, hb_⟩; refine ⟨_, rfl, ?_⟩; have HB_ : Aside0 (Below w.heap.size w w5) := Aside0.mk (below_step (bG HB) hb_); have hzw5 := hb_.size; (try simp at hzw5); have on_ := Aside0.mk (box_below hb_ (eG on)); (try clear on onc onf onl); have on := on_; clear on_; obtain ⟨onc, onf, onl⟩ := cells_of on.out; clear HB hb_; have HB := HB_; clear HB_)
  refine hK.out _ _ (eG on) (fun hHeld => ?_)
  clear hK K
  refine norm_ (a' := ?_) ?_ ?_
  rotate_left
  · simp only [Act.put, List.setIfInBounds_toArray, List.set_cons_zero, List.set_cons_succ, i64_w, i32_w]
    rfl
  refine one_ (i := 45) (N := some 70) #[true, true, true, true, true, true, true, true, true, true, true, true, true, true, true, true, true, true, true, true, true, true, true, true, true, true, true, true, true, true, true, true, true, true, true, true, true, true, true, true, true, true, true, true, true, true, false] rfl rfl (by kernel_rfl) (by decide) (fun K hK => ?_)
  refine val_ (v := .slice (some ⟨(World.heap w5).size, 0, none⟩) 15 15) (w1 := World.alloc w5 (.cells (regR c mac) 22 (0, 0))) (by rfl) rfl ?_ ?_
  · first | kernel_rfl | (unfold regR; go_simp; done) | (unfold regR; go_simp; rfl)
  refine hK.out _ _ (eG on) (fun hHeld => ?_)
  clear hK K
  obtain ⟨w6, hw_, hx_, hb_, hz_⟩ := letter1 w5 (.cells (regR c mac) 22 (0, 0))
  rw [hw_] at hHeld ⊢
  clear hw_ hz_
  have on_ := Aside0.mk (box_below hb_ (eG on))
  (try clear on onc onf onl)
  have on := on_
  clear on_
  obtain ⟨onc, onf, onl⟩ := cells_of on.out
  have og := Aside0.mk hx_
  have HB_ : Aside0 (Below w.heap.size w w6) := Aside0.mk (below_step (bG HB) hb_)
  clear HB hb_ hx_
  have HB := HB_
  clear HB_
  refine norm_ (a' := ?_) ?_ ?_
  rotate_left
  · simp only [Act.put, List.setIfInBounds_toArray, List.set_cons_zero, List.set_cons_succ, i64_w, i32_w]
    rfl
  refine pure_ (i := 46) (N := some 8) (v := ?_) (a' := ?_) #[true, true, true, true, true, true, true, true, true, true, true, true, true, true, true, true, true, true, true, true, true, true, true, true, true, true, true, true, true, true, true, true, true, true, true, true, true, true, true, true, true, true, true, true, true, true, true] rfl rfl (by kernel_rfl) (fun _ _ _ h => h) (Or.inl ⟨by rfl, ?_⟩) ?_ ?_
  rotate_left
  · intro w'
    go_simp
    with_reducible rfl
  rotate_left
  · simp only [Act.put, List.setIfInBounds_toArray, List.set_cons_zero, List.set_cons_succ, i64_w, i32_w]
    rfl
  refine done_ (by kernel_rfl) ?_
  have hrow : Kd.C (Kd.int .u64) w6 (some ⟨w5.heap.size, 0, none⟩) 15 (regRL c mac) := C_blk og.out rfl (by decide) rfl
  have hcell : w6.cell? (Addr.add ⟨w5.heap.size, 0, none⟩ q) = some (.int .u64 ((regRL c mac).getD q 0)) := row_at3 (F_of_C (ok := fun _ => True) hrow (fun _ _ _ => trivial)) q hq15 rfl
  have hq0 : (q : Int) < 15 := by omega
  rw [HV.out, add_eq, Nat.zero_add] at hcell
  clear hrow hcut1 hcut2 og on onc onf onl
  go_wp2
  go_ret2
  exact ⟨rfl, HB.out⟩
set_option maxHeartbeats 1600000 in
set_option maxRecDepth 100000 in
theorem rld_no (A : Option Addr) (cap m : Nat) (c : Nat → Int) (off size : Int) (w : World) (k b4 b5 b6 : Bool) (h3 : 0 ≤ c 3) (h7 : 0 ≤ c 7) (hk : okC c m = k) (hs : (size != 4) = b4) (h4 : (Int.tmod off 4 != 0) = b5) (h56 : decide (off > 56) = b6) (hb : (!k || b4 || b5 || b6) = true) :
    Calls Try.prog 14 #[.agg (C14 c (.slice A m cap)), .int .u64 off, .int .i64 size] w fun e w' => e = .returned (.tuple #[.int .u64 0, .bool false]) ∧ Below w.heap.size w w' := by
  have HB := Aside0.mk (Below.refl w.heap.size w)
  have HK := Aside0.mk hk
  have H3 := Aside0.mk h3
  have H7 := Aside0.mk h7
  have hu := Try.underlying25
  clear hk h3 h7
  go_enter Try.func14, Try.ntmps14
  go_upto_region 1 with fail
  obtain ⟨wa, hwa, on0, hb_, hz0⟩ := letter1 w (.cells (C14 c (.slice A m cap)) 25 (0, 0))
  rw [hwa]
  clear hwa
  have hzwa := Nat.le_of_eq hz0.symm
  clear hz0
  have on := Aside0.mk on0
  clear on0
  obtain ⟨onc, onf, onl⟩ := cells_of on.out
  have HB_ : Aside0 (Below w.heap.size w wa) := ⟨hb_⟩
  clear HB hb_
  have HB := HB_
  clear HB_
  go_wp2_with (first | ((with_reducible refine gate_dst (N := 9) rfl ?_); (try (refine gate_guard (by rfl) ?_; dsimp only)); refine wpList_load_row rfl 25 _ rfl _ (by rfl) _ (C14 c (.slice A m cap)) _ _ (eG on) Try.underlying25 rfl i25 ?_))
  (go_at_call 20; (with_reducible refine (rCheck_of k c A m cap _ H3.out H7.out HK.out).mono ?_); rintro e_ w1 ⟨rfl, hb_⟩; have HB_ : Aside0 (Below w.heap.size w w1) := Aside0.mk (below_step (bG HB) hb_); have hzw1 := hb_.size; (try simp at hzw1); have on_ := Aside0.mk (box_below hb_ (eG on)); (try clear on onc onf onl); have on := on_; clear on_; obtain ⟨onc, onf, onl⟩ := cells_of on.out; clear HB hb_; have HB := HB_; clear HB_)
  cases k
  case false =>
    go_wp2
    go_ret2
    exact ⟨rfl, HB.out⟩
  case true =>
  cases b4
  case true =>
    go_wp2
    go_ret2
    exact ⟨rfl, HB.out⟩
  case false =>
  cases b5
  case true =>
    go_wp2
    go_ret2
    exact ⟨rfl, HB.out⟩
  case false =>
  obtain rfl : b6 = true := by simpa using hb
  go_wp2
  go_ret2
  exact ⟨rfl, HB.out⟩
theorem RLoad_is (A : Option Addr) (cap : Nat) (mac : List Int) (c : Nat → Int) (off size : Int) (w : World) (okm : Nat → Prop) (hm : Kd.F (Kd.int .u8) w okm A mac.length mac) (hmc : mac.length ≤ cap) (hmb : ∀ z ∈ mac, byte z) (h0 : 0 ≤ off) (h64 : off < 18446744073709551616) (h3 : 0 ≤ c 3) (h7 : 0 ≤ c 7) (b : Bool) (hb : refuseZ c mac.length off size = b) :
    Calls Try.prog 14 #[.agg (C14 c (.slice A mac.length cap)), .int .u64 off, .int .i64 size] w fun e w' => e = .returned (.tuple #[.int .u64 (if b then 0 else loadV c mac off), .bool (!b)]) ∧ Below w.heap.size w w' := by
  have hR := (refuseR_is c mac.length off size h0 h64).trans hb
  cases b with
  | true =>
    unfold refuseR at hR
    exact rld_no A cap mac.length c off size w _ _ _ _ h3 h7 rfl rfl rfl rfl hR
  | false =>
    unfold refuseR at hR
    simp only [Bool.or_eq_false_iff, Bool.not_eq_false'] at hR
    obtain ⟨⟨⟨hk, hs⟩, h4⟩, h56⟩ := hR
    have h6 : mac.length = 6 := ((okC_iff c _).1 hk).mac
    have hlt : off ≤ 56 := by have := of_decide_eq_false h56; omega
    obtain ⟨ad, rfl⟩ := row_some3 hm 0 (by omega)
    obtain ⟨mb, mo, e, _⟩ := F_cell' hm (by omega)
    injection e with e
    subst e
    have hV : (if (false : Bool) = true then (0 : Int) else loadV c mac off) = (regRL c mac).getD (off / 4).toNat 0 := by rw [regR_is c mac h6 hmb]; rfl
    rw [hV]
    rw [h6] at hm hmc hk ⊢
    exact rld_yes cap mb mo mac c off size (off / 4).toNat w okm hm hmc hmb h6 h3 h7 hk hs h4 h56 (by rw [Int.tdiv_eq_ediv_of_nonneg h0, IntKind.wrap_u64]; omega) (by omega) _ rfl
end Go.Proofs.Ytdblpflepfcnjaa.Q
end
section
/- The document's Store. -/
namespace Go.Proofs.Ytdblpflepfcnjaa.Q
open Go.RowKit Go.Proofs.YtdblpflepfcnjaaW.PrintWords Go.Proofs.YtdblpflepfcnjaaW.PrintLast Go.Proofs.YtdblpflepfcnjaaW.PrintMore Go.Proofs.Ytdblpflepfcnjaa.L
attribute [local go_sem] Instr.field part asAgg lt_step max2_int min2_int max_two min_two max_three min_three max_four min_four lt_0_1 lt_0_2 lt_1_2 lt_0_3 lt_1_3 lt_2_3 lt_0_4 lt_1_4 lt_2_4 lt_3_4 lt_0_5 lt_1_5 lt_2_5 lt_3_5 lt_4_5 lt_0_6 lt_1_6 lt_2_6 lt_3_6 lt_4_6 lt_5_6 lt_0_7 lt_1_7 lt_2_7 lt_3_7 lt_4_7 lt_5_7 lt_6_7 lt_0_8 lt_1_8 lt_2_8 lt_3_8 lt_4_8 lt_5_8 lt_6_8 lt_7_8
set_option linter.unusedVariables false
set_option linter.unusedSimpArgs false
theorem and_lo (y : Int) (k : Nat) (hk : k < 32) (h0 : 0 ≤ y) (h1 : y < 4294967296) : Go.bits .and .i64 y ((2 ^ k - 1 : Nat) : Int) = y % ((2 ^ k : Nat) : Int) := by
  obtain ⟨n, rfl⟩ := Int.eq_ofNat_of_zero_le h0
  rw [i64_and]
  have hn : n < 4294967296 := by omega
  have hp : 2 ^ k ≤ 2 ^ 31 := Nat.pow_le_pow_right (by decide) (by omega)
  have hp0 : 0 < 2 ^ k := Nat.two_pow_pos k
  have e : (bv (n : Int) &&& bv ((2 ^ k - 1 : Nat) : Int)).toNat = n % 2 ^ k := by
    unfold bv
    rw [BitVec.ofInt_natCast, BitVec.ofInt_natCast, BitVec.toNat_and, BitVec.toNat_ofNat, BitVec.toNat_ofNat, Nat.mod_eq_of_lt (by omega), Nat.mod_eq_of_lt (by omega), Nat.and_two_pow_sub_one_eq_mod]
  have hlt : n % 2 ^ k < 2 ^ k := Nat.mod_lt _ hp0
  rw [BitVec.toInt_eq_toNat_cond, if_pos (by rw [e]; omega), e]
  exact Int.natCast_emod n (2 ^ k)
theorem mod8 (y : Int) (h0 : 0 ≤ y) (h1 : y < 4294967296) : IntKind.i64.wrap (Int.tmod y 8) = Go.bits .and .i64 y 7 := by
  rw [show Go.bits .and .i64 y 7 = y % 8 from and_lo y 3 (by decide) h0 h1, Int.tmod_eq_emod_of_nonneg h0, IntKind.wrap_i64]; omega
theorem mod16 (y : Int) (h0 : 0 ≤ y) (h1 : y < 4294967296) : IntKind.i64.wrap (Int.tmod y 16) = Go.bits .and .i64 y 15 := by
  rw [show Go.bits .and .i64 y 15 = y % 16 from and_lo y 4 (by decide) h0 h1, Int.tmod_eq_emod_of_nonneg h0, IntKind.wrap_i64]; omega
theorem not16 (x y : Int) (hx : 0 ≤ x ∧ x < 16) (h0 : 0 ≤ y) (h1 : y < 4294967296) : Go.bits .andNot .i64 x (Go.bits .and .i64 y 15) = Go.bits .andNot .i64 x y := by
  rw [i64_andNot, i64_andNot, i64_and]
  refine congrArg BitVec.toInt ?_
  obtain ⟨n, rfl⟩ := Int.eq_ofNat_of_zero_le hx.1
  have hn : n < 16 := by omega
  have e : bv (bv y &&& bv 15).toInt = bv y &&& bv 15 := by unfold bv; rw [BitVec.ofInt_toInt]
  rw [e]
  refine BitVec.eq_of_getLsbD_eq fun i hi => ?_
  simp only [BitVec.getLsbD_and, BitVec.getLsbD_not, hi, decide_true, Bool.true_and]
  by_cases h4 : i < 4
  · have : (bv 15).getLsbD i = true := by
      have : ∀ j ∈ List.range 4, (bv 15).getLsbD j = true := by decide +kernel
      exact this i (List.mem_range.2 h4)
    rw [this]; simp
  · have : (bv (n : Int)).getLsbD i = false := by
      unfold bv
      rw [BitVec.ofInt_natCast, BitVec.getLsbD_ofNat, Nat.testBit_lt_two_pow (Nat.lt_of_lt_of_le hn (show 2 ^ 4 ≤ 2 ^ i from Nat.pow_le_pow_right (by decide) (by omega)))]
      simp
    rw [this]; simp
section
variable (A : Option Addr) (cap : Nat) (mac : List Int) (c : Nat → Int) (off size x : Int) (w : World) (okm : Nat → Prop) (hm : Kd.F (Kd.int .u8) w okm A mac.length mac) (hmc : mac.length ≤ cap) (hmb : ∀ z ∈ mac, byte z) (h0 : 0 ≤ off) (h64 : off < 18446744073709551616) (h3 : 0 ≤ c 3) (h7 : 0 ≤ c 7)
include hm hmc hmb h0 h64 h3 h7
set_option maxHeartbeats 1600000 in
set_option maxRecDepth 100000 in
theorem rstore_no (hb : refuseZ c mac.length off size = true) :
    Calls Try.prog 16 #[.agg (C14 c (.slice A mac.length cap)), .int .u64 off, .int .i64 size, .int .u64 x] w fun e w' => e = .returned (.tuple #[.agg (C14 c (.slice A mac.length cap)), .bool false]) ∧ Below w.heap.size w w' := by
  have HB := Aside0.mk (Below.refl w.heap.size w)
  have HM := Aside0.mk (Kd.F_bound hm)
  have HMC := Aside0.mk hmc
  have HMB := Aside0.mk hmb
  have HRB := Aside0.mk hb
  have H3 := Aside0.mk h3
  have H7 := Aside0.mk h7
  have hu := Try.underlying25
  clear hm hmc hmb hb h3 h7
  go_enter Try.func16, Try.ntmps16
  go_upto_region 1 with fail
  obtain ⟨wa, hwa, on0, pn0, hb_, hz0⟩ := letter2 w (.cells (C14 c (.slice A mac.length cap)) 25 (0, 0)) (.cells #[.int .i64 0, .int .i64 0, .int .i64 0, .int .u64 0, .int .i64 0, .int .i64 0, .int .i64 0, .int .u64 0, .int .i64 0, .int .i64 0, .int .i64 0, .int .i64 0, .int .i64 0, .slice none 0 0] 25 (0, 0))
  rw [hwa]
  clear hwa
  have hzwa := Nat.le_of_eq hz0.symm
  clear hz0
  have on := Aside0.mk on0
  have pn := Aside0.mk pn0
  clear on0 pn0
  obtain ⟨onc, onf, onl⟩ := cells_of on.out
  obtain ⟨pnc, pnf, pnl⟩ := cells_of pn.out
  have HB_ : Aside0 (Below w.heap.size w wa) := ⟨hb_⟩
  have HM_ := Aside0.mk (Kd.F_below HM.out hb_)
  clear HB HM hb_; have HB := HB_; have HM := HM_; clear HB_ HM_
  go_wp2_with (first | ((with_reducible refine gate_dst (N := 15) rfl ?_); (try (refine gate_guard (by rfl) ?_; dsimp only)); refine wpList_load_row rfl 25 _ rfl _ (by rfl) _ (C14 c (.slice A mac.length cap)) _ _ (eG on) Try.underlying25 rfl i25 ?_))
  (go_at_call 14; (with_reducible refine (RLoad_is A cap mac c off size _ _ HM.out HMC.out HMB.out h0 h64 H3.out H7.out _ HRB.out).mono ?_); rintro e_ w1 ⟨rfl, hb_⟩; have HB_ : Aside0 (Below w.heap.size w w1) := Aside0.mk (below_step (bG HB) hb_); have hzw1 := hb_.size; (try simp at hzw1); have on_ := Aside0.mk (box_below hb_ (eG on)); have pn_ := Aside0.mk (box_below hb_ (eG pn)); (try clear on onc onf onl); have on := on_; clear on_; obtain ⟨onc, onf, onl⟩ := cells_of on.out; (try clear pn pnc pnf pnl); have pn := pn_; clear pn_; obtain ⟨pnc, pnf, pnl⟩ := cells_of pn.out; clear HB hb_; have HB := HB_; clear HB_)
  go_wp2_with (first | ((with_reducible refine gate_dst (N := 23) rfl ?_); (try (refine gate_guard (by rfl) ?_; dsimp only)); refine wpList_load_row rfl 25 _ rfl _ (by rfl) _ (C14 c (.slice A mac.length cap)) _ _ (eG on) Try.underlying25 rfl i25 ?_) | ((with_reducible refine gate_store (t := 25) (p := 8) (v := .tmp 23) rfl ?_); refine wpList_store_all rfl 25 _ _ rfl rfl _ (C14 c (.slice A mac.length cap)) (by rfl) (by rfl) _ _ pn.out rfl i25 (C14_one _ _ _ _) ?_; rintro w2 ⟨hx_, hk_, hb_, hzz_⟩; have HB_ : Aside0 (Below w.heap.size w w2) := Aside0.mk (Below.trans (bG HB) (Below.mono hb_ (by first | omega | (simp only [sz_alloc, sz_drew, sz_drewN]; omega)))); have hzw2 := hzz_; (try simp at hzw2); clear hzz_; have on_ := Aside0.mk (st_put on.out hk_ (fun h_ => (by repeat (with_reducible first | exact h_ | apply ext_drew | apply ext_drewN | apply ext_alloc | refine blk_far ?_ (by show _ ≠ _; dsimp only; omega) _))) (by omega)); clear on onc onf onl; have on := on_; clear on_; obtain ⟨onc, onf, onl⟩ := cells_of on.out; (try clear pn pnc pnf pnl); have pn := Aside0.mk hx_; obtain ⟨pnc, pnf, pnl⟩ := cells_of pn.out; clear HB hb_ hk_ hx_; have HB := HB_; clear HB_))
  refine bodyPost_ret (results_ct rfl _ _ (w.heap.size + 1) 25 (C14 c (.slice A mac.length cap)) (0, 0) _ rfl pn.out Try.underlying25 rfl i25) rfl ⟨rfl, (bG HB)⟩
set_option maxHeartbeats 1600000 in
set_option maxRecDepth 100000 in
theorem rstore_yes (y : Int) (hx0 : 0 ≤ x) (hx1 : x < 18446744073709551616) (hy : IntKind.u32.wrap x = y) (hb : refuseZ c mac.length off size = false) :
    Calls Try.prog 16 #[.agg (C14 c (.slice A mac.length cap)), .int .u64 off, .int .i64 size, .int .u64 x] w fun e w' => e = .returned (.tuple #[.agg (C14 (stZ c (off / 4) y) (.slice A mac.length cap)), .bool true]) ∧ Below w.heap.size w w' := by
  have hy0 : 0 ≤ y := by rw [← hy, IntKind.wrap_u32]; omega
  have hy1 : y < 4294967296 := by rw [← hy, IntKind.wrap_u32]; omega
  have hyr : Int.tmod x 4294967296 = y := by rw [← hy, IntKind.wrap_u32, Int.tmod_eq_emod_of_nonneg hx0]
  have K : Ok c mac.length := (okC_iff c _).1 (by unfold refuseZ at hb; simp only [Bool.or_eq_false_iff, Bool.not_eq_false'] at hb; exact hb.1.1.1)
  have hy64 : IntKind.i64.wrap y = y := by rw [IntKind.wrap_i64]; omega
  have hy64' : wrap64 y = y := w64 (by omega) (by omega)
  have e8 : IntKind.i64.wrap (Int.tmod y 8) = Go.bits .and .i64 y 7 := (mod8 y hy0 hy1).trans rfl
  have e16 : IntKind.i64.wrap (Int.tmod y 16) = Go.bits .and .i64 y 15 := (mod16 y hy0 hy1).trans rfl
  have e8' : y % 8 = Go.bits .and .i64 y 7 := (and_lo y 3 (by decide) hy0 hy1).symm
  have e16' : y % 16 = Go.bits .and .i64 y 15 := (and_lo y 4 (by decide) hy0 hy1).symm
  have e1 : Go.bits .andNot .i64 (c 1) (Go.bits .and .i64 y 15) = Go.bits .andNot .i64 (c 1) y := not16 (c 1) y K.cause hy0 hy1
  have hw4 : IntKind.u64.wrap (c 4) = c 4 := by have := K.tn; rw [IntKind.wrap_u64]; omega
  have hw8 : IntKind.u64.wrap (c 8) = c 8 := by have := K.rn; rw [IntKind.wrap_u64]; omega
  clear K
  have HOF := Aside0.mk (refuse_off h0 h64 hb)
  have HB := Aside0.mk (Below.refl w.heap.size w)
  have HM := Aside0.mk (Kd.F_bound hm)
  have HMC := Aside0.mk hmc
  have HMB := Aside0.mk hmb
  have HRB := Aside0.mk hb
  have H3 := Aside0.mk h3
  have H7 := Aside0.mk h7
  have hu := Try.underlying25
  clear hm hmc hmb hb h3 h7
  go_enter Try.func16, Try.ntmps16
  go_upto_region 1 with fail
  obtain ⟨wa, hwa, on0, pn0, hb_, hz0⟩ := letter2 w (.cells (C14 c (.slice A mac.length cap)) 25 (0, 0)) (.cells #[.int .i64 0, .int .i64 0, .int .i64 0, .int .u64 0, .int .i64 0, .int .i64 0, .int .i64 0, .int .u64 0, .int .i64 0, .int .i64 0, .int .i64 0, .int .i64 0, .int .i64 0, .slice none 0 0] 25 (0, 0))
  rw [hwa]
  clear hwa
  have hzwa := Nat.le_of_eq hz0.symm
  clear hz0
  have on := Aside0.mk on0
  have pn := Aside0.mk pn0
  clear on0 pn0
  obtain ⟨onc, onf, onl⟩ := cells_of on.out
  obtain ⟨pnc, pnf, pnl⟩ := cells_of pn.out
  have HB_ : Aside0 (Below w.heap.size w wa) := ⟨hb_⟩
  have HM_ := Aside0.mk (Kd.F_below HM.out hb_)
  clear HB HM hb_; have HB := HB_; have HM := HM_; clear HB_ HM_
  go_wp2_with (first | ((with_reducible refine gate_dst (N := 15) rfl ?_); (try (refine gate_guard (by rfl) ?_; dsimp only)); refine wpList_load_row rfl 25 _ rfl _ (by rfl) _ (C14 c (.slice A mac.length cap)) _ _ (eG on) Try.underlying25 rfl i25 ?_))
  (go_at_call 14; (with_reducible refine (RLoad_is A cap mac c off size _ _ HM.out HMC.out HMB.out h0 h64 H3.out H7.out _ HRB.out).mono ?_); rintro e_ w1 ⟨rfl, hb_⟩; have HB_ : Aside0 (Below w.heap.size w w1) := Aside0.mk (below_step (bG HB) hb_); have hzw1 := hb_.size; (try simp at hzw1); have on_ := Aside0.mk (box_below hb_ (eG on)); have pn_ := Aside0.mk (box_below hb_ (eG pn)); (try clear on onc onf onl); have on := on_; clear on_; obtain ⟨onc, onf, onl⟩ := cells_of on.out; (try clear pn pnc pnf pnl); have pn := pn_; clear pn_; obtain ⟨pnc, pnf, pnl⟩ := cells_of pn.out; clear HB hb_; have HB := HB_; clear HB_)
  go_upto_region 5 with fail
  go_cut [13] (fun v wx => v = .bool (decide (1 ≤ y) && decide (y ≤ 64)) ∧ w1 = wx)
  case first =>
    go_wp2_with fail
    all_goals go_meet
    all_goals refine ⟨congrArg Value.bool ?_, rfl⟩
    all_goals (simp [*] <;> omega)
  case rest =>
  obtain ⟨rfl, hw_⟩ := hcut
  subst hw_
  have hc0 : World.cell? w1 ⟨w.heap.size, 0, none⟩ = some (.int .i64 (c 0)) := (onc 0).trans rfl
  have hc1 : World.cell? w1 ⟨w.heap.size, 1, none⟩ = some (.int .i64 (c 1)) := (onc 1).trans rfl
  have hc2 : World.cell? w1 ⟨w.heap.size, 2, none⟩ = some (.int .i64 (c 2)) := (onc 2).trans rfl
  have hc3 : World.cell? w1 ⟨w.heap.size, 3, none⟩ = some (.int .u64 (c 3)) := (onc 3).trans rfl
  have hc4 : World.cell? w1 ⟨w.heap.size, 4, none⟩ = some (.int .i64 (c 4)) := (onc 4).trans rfl
  have hc5 : World.cell? w1 ⟨w.heap.size, 5, none⟩ = some (.int .i64 (c 5)) := (onc 5).trans rfl
  have hc6 : World.cell? w1 ⟨w.heap.size, 6, none⟩ = some (.int .i64 (c 6)) := (onc 6).trans rfl
  have hc7 : World.cell? w1 ⟨w.heap.size, 7, none⟩ = some (.int .u64 (c 7)) := (onc 7).trans rfl
  have hc8 : World.cell? w1 ⟨w.heap.size, 8, none⟩ = some (.int .i64 (c 8)) := (onc 8).trans rfl
  have hc9 : World.cell? w1 ⟨w.heap.size, 9, none⟩ = some (.int .i64 (c 9)) := (onc 9).trans rfl
  have hc10 : World.cell? w1 ⟨w.heap.size, 10, none⟩ = some (.int .i64 (c 10)) := (onc 10).trans rfl
  have hc11 : World.cell? w1 ⟨w.heap.size, 11, none⟩ = some (.int .i64 (c 11)) := (onc 11).trans rfl
  have hc12 : World.cell? w1 ⟨w.heap.size, 12, none⟩ = some (.int .i64 (c 12)) := (onc 12).trans rfl
  clear onc
  have onc := trivial
  go_upto_block 0 with fail
  go_cut [13] (fun _ wx => Aside0 (wx.heap[w.heap.size]? = some (.cells (C14 (stZ c (off / 4) y) (.slice A mac.length cap)) 25 (0, 0))) ∧ Aside0 (wx.heap[w.heap.size + 1]? = some (.cells #[.int .i64 0, .int .i64 0, .int .i64 0, .int .u64 0, .int .i64 0, .int .i64 0, .int .i64 0, .int .u64 0, .int .i64 0, .int .i64 0, .int .i64 0, .int .i64 0, .int .i64 0, .slice none 0 0] 25 (0, 0))) ∧ Aside0 (Below w.heap.size w wx))
  case first =>
    clear hy hyr
    rcases HOF.out with rfl | rfl | rfl | rfl | rfl | rfl | rfl | rfl | rfl | rfl | rfl | rfl | rfl | rfl | rfl
    · go_wp2_with fail
      all_goals go_meet
      all_goals first | (exact ⟨⟨blk_put on.out 0 _ rfl⟩, ⟨(eG pn)⟩, ⟨(bG HB)⟩⟩)
    · go_wp2_with fail
      all_goals go_meet
      all_goals first | (exact ⟨⟨blk_put on.out 1 _ rfl⟩, ⟨(eG pn)⟩, ⟨(bG HB)⟩⟩)
    · go_wp2_with fail
      all_goals go_meet
      all_goals first | (exact ⟨⟨blk_put on.out 2 _ rfl⟩, ⟨(eG pn)⟩, ⟨(bG HB)⟩⟩)
    · go_wp2_with fail
      all_goals go_meet
      all_goals first | (exact ⟨⟨blk_put on.out 3 _ rfl⟩, ⟨(eG pn)⟩, ⟨(bG HB)⟩⟩)
    · go_wp2_with fail
      all_goals go_meet
      all_goals first | (rw [show stZ c (16 / 4) y = upd (upd (upd c 4 y) 5 0) 6 0 from st4p c y (by omega)]; exact ⟨⟨blk_put (cs' := C14 (upd (upd (upd c 4 y) 5 0) 6 0) (.slice A mac.length cap)) (blk_put (cs' := C14 (upd (upd c 4 y) 5 0) (.slice A mac.length cap)) (blk_put (cs' := C14 (upd c 4 y) (.slice A mac.length cap)) on.out 4 _ rfl) 5 _ rfl) 6 _ rfl⟩, ⟨(eG pn)⟩, ⟨(bG HB)⟩⟩) | (rw [show stZ c (16 / 4) y = c from st4n c y (by omega)]; exact ⟨on, pn, HB⟩)
    · go_wp2_with fail
      all_goals go_meet
      all_goals first | exact ⟨on, pn, HB⟩
    · go_wp2_with fail
      all_goals go_meet
      all_goals first | (rw [show stZ c (24 / 4) y = upd c 6 y from st6p c y (by omega)]; exact ⟨⟨blk_put on.out 6 _ rfl⟩, ⟨(eG pn)⟩, ⟨(bG HB)⟩⟩) | (rw [show stZ c (24 / 4) y = c from st6n c y (by omega)]; exact ⟨on, pn, HB⟩)
    · go_wp2_with fail
      all_goals go_meet
      all_goals first | (exact ⟨⟨blk_put on.out 7 _ rfl⟩, ⟨(eG pn)⟩, ⟨(bG HB)⟩⟩)
    · go_wp2_with fail
      all_goals go_meet
      all_goals first | (rw [show stZ c (32 / 4) y = upd (upd (upd c 8 y) 9 0) 10 0 from st8p c y (by omega)]; exact ⟨⟨blk_put (cs' := C14 (upd (upd (upd c 8 y) 9 0) 10 0) (.slice A mac.length cap)) (blk_put (cs' := C14 (upd (upd c 8 y) 9 0) (.slice A mac.length cap)) (blk_put (cs' := C14 (upd c 8 y) (.slice A mac.length cap)) on.out 8 _ rfl) 9 _ rfl) 10 _ rfl⟩, ⟨(eG pn)⟩, ⟨(bG HB)⟩⟩) | (rw [show stZ c (32 / 4) y = c from st8n c y (by omega)]; exact ⟨on, pn, HB⟩)
    · go_wp2_with fail
      all_goals go_meet
      all_goals first | exact ⟨on, pn, HB⟩
    · go_wp2_with fail
      all_goals go_meet
      all_goals first | (rw [show stZ c (40 / 4) y = upd c 10 y from st10p c y (by omega)]; exact ⟨⟨blk_put on.out 10 _ rfl⟩, ⟨(eG pn)⟩, ⟨(bG HB)⟩⟩) | (rw [show stZ c (40 / 4) y = c from st10n c y (by omega)]; exact ⟨on, pn, HB⟩)
    · go_wp2_with fail
      all_goals go_meet
      all_goals first | exact ⟨on, pn, HB⟩
    · go_wp2_with fail
      all_goals go_meet
      all_goals first | exact ⟨on, pn, HB⟩
    · go_wp2_with fail
      all_goals go_meet
      all_goals first | exact ⟨on, pn, HB⟩
    · go_wp2_with fail
      all_goals go_meet
      all_goals first | exact ⟨on, pn, HB⟩
  case rest =>
  obtain ⟨on, pn, HB⟩ := hcut
  rename World => w3
  obtain ⟨onc, onf, onl⟩ := cells_of on.out
  obtain ⟨pnc, pnf, pnl⟩ := cells_of pn.out
  go_wp2_with (first | ((with_reducible refine gate_dst (N := 99) rfl ?_); (try (refine gate_guard (by rfl) ?_; dsimp only)); refine wpList_load_row rfl 25 _ rfl _ (by rfl) _ (C14 (stZ c (off / 4) y) (.slice A mac.length cap)) _ _ (eG on) Try.underlying25 rfl i25 ?_) | ((with_reducible refine gate_store (t := 25) (p := 8) (v := .tmp 99) rfl ?_); refine wpList_store_all rfl 25 _ _ rfl rfl _ (C14 (stZ c (off / 4) y) (.slice A mac.length cap)) (by rfl) (by rfl) _ _ pn.out rfl i25 (C14_one _ _ _ _) ?_; rintro w4 ⟨hx_, hk_, hb_, hzz_⟩; have HB_ : Aside0 (Below w.heap.size w w4) := Aside0.mk (Below.trans (bG HB) (Below.mono hb_ (by first | omega | (simp only [sz_alloc, sz_drew, sz_drewN]; omega)))); have hzw4 := hzz_; (try simp at hzw4); clear hzz_; have on_ := Aside0.mk (st_put on.out hk_ (fun h_ => (by repeat (with_reducible first | exact h_ | apply ext_drew | apply ext_drewN | apply ext_alloc | refine blk_far ?_ (by show _ ≠ _; dsimp only; omega) _))) (by omega)); clear on onc onf onl; have on := on_; clear on_; obtain ⟨onc, onf, onl⟩ := cells_of on.out; (try clear pn pnc pnf pnl); have pn := Aside0.mk hx_; obtain ⟨pnc, pnf, pnl⟩ := cells_of pn.out; clear HB hb_ hk_ hx_; have HB := HB_; clear HB_))
  refine bodyPost_ret (results_ct rfl _ _ (w.heap.size + 1) 25 (C14 (stZ c (off / 4) y) (.slice A mac.length cap)) (0, 0) _ rfl pn.out Try.underlying25 rfl i25) rfl ⟨rfl, (bG HB)⟩
end
theorem RStore_is (A : Option Addr) (cap : Nat) (mac : List Int) (c : Nat → Int) (off size x : Int) (w : World) (okm : Nat → Prop) (hm : Kd.F (Kd.int .u8) w okm A mac.length mac) (hmc : mac.length ≤ cap) (hmb : ∀ z ∈ mac, byte z) (h0 : 0 ≤ off) (h64 : off < 18446744073709551616) (h3 : 0 ≤ c 3) (h7 : 0 ≤ c 7) (hx0 : 0 ≤ x) (hx1 : x < 18446744073709551616) (d : Nat → Int) (b : Bool) (hd : storeZ c mac.length off size x = d) (hb : (!refuseZ c mac.length off size) = b) :
    Calls Try.prog 16 #[.agg (C14 c (.slice A mac.length cap)), .int .u64 off, .int .i64 size, .int .u64 x] w fun e w' => e = .returned (.tuple #[.agg (C14 d (.slice A mac.length cap)), .bool b]) ∧ Below w.heap.size w w' := by
  subst hd hb
  unfold storeZ
  cases hr : refuseZ c mac.length off size with
  | true => exact rstore_no A cap mac c off size x w okm hm hmc hmb h0 h64 h3 h7 hr
  | false => exact rstore_yes A cap mac c off size x w okm hm hmc hmb h0 h64 h3 h7 _ hx0 hx1 rfl hr
end Go.Proofs.Ytdblpflepfcnjaa.Q
end
section
/- The document's New and Line. -/
namespace Go.Proofs.Ytdblpflepfcnjaa.Q
open Go.RowKit Go.Proofs.YtdblpflepfcnjaaW.PrintWords Go.Proofs.YtdblpflepfcnjaaW.PrintLast Go.Proofs.YtdblpflepfcnjaaW.PrintMore Go.Proofs.Ytdblpflepfcnjaa.L
attribute [local go_sem] Instr.field part asAgg lt_step max2_int min2_int max_two min_two max_three min_three max_four min_four lt_0_1 lt_0_2 lt_1_2 lt_0_3 lt_1_3 lt_2_3 lt_0_4 lt_1_4 lt_2_4 lt_3_4 lt_0_5 lt_1_5 lt_2_5 lt_3_5 lt_4_5 lt_0_6 lt_1_6 lt_2_6 lt_3_6 lt_4_6 lt_5_6 lt_0_7 lt_1_7 lt_2_7 lt_3_7 lt_4_7 lt_5_7 lt_6_7 lt_0_8 lt_1_8 lt_2_8 lt_3_8 lt_4_8 lt_5_8 lt_6_8 lt_7_8
set_option linter.unusedVariables false
set_option linter.unusedSimpArgs false
set_option maxHeartbeats 1600000 in
set_option maxRecDepth 100000 in
theorem RNew_yes (A : Option Addr) (cap : Nat) (mac : List Int) (w : World) (okm : Nat → Prop) (hm : Kd.F (Kd.int .u8) w okm A mac.length mac) (hmc : mac.length ≤ cap) (h6 : mac.length = 6) :
    Calls Try.prog 18 #[.slice A mac.length cap] w fun e w' => ∃ A' c', e = .returned (.tuple #[.agg (C14 new1 (.slice A' mac.length c')), .int .i64 0]) ∧ mac.length ≤ c' ∧ Kd.F (Kd.int .u8) w' (fun j => w.heap.size ≤ j) A' mac.length mac ∧ Below w.heap.size w w' := by
  have HB := Aside0.mk (Below.refl w.heap.size w)
  have HR := Aside0.mk (Kd.F_bound hm)
  have HMC := Aside0.mk hmc
  have hu := Try.underlying25
  have hb6 : ((mac.length : Int) != 6) = false := by rw [h6]; rfl
  have hi6 : decide ((mac.length : Int) = 6) = true := by rw [h6]; rfl
  have HL : Aside0 ((mac.length : Int) ≤ 70000) := ⟨by omega⟩
  clear hm hmc h6
  go_enter Try.func18, Try.ntmps18
  go_upto_region 1 with fail
  obtain ⟨wa, hwa, oz0, hb_, hz0⟩ := letter1 w (.cells #[.int .i64 0, .int .i64 0, .int .i64 0, .int .u64 0, .int .i64 0, .int .i64 0, .int .i64 0, .int .u64 0, .int .i64 0, .int .i64 0, .int .i64 0, .int .i64 0, .int .i64 0, .slice none 0 0] 25 (0, 0))
  rw [hwa]
  clear hwa
  have hzwa := Nat.le_of_eq hz0.symm
  clear hz0
  have orr := Aside0.mk oz0
  clear oz0
  obtain ⟨orrc, orrf, orrl⟩ := cells_of orr.out
  have HB_ : Aside0 (Below w.heap.size w wa) := ⟨hb_⟩
  have HR_ := Aside0.mk (Kd.F_below HR.out hb_)
  clear HB HR hb_; have HB := HB_; have HR := HR_; clear HB_ HR_
  go_wp2_with (first | ((with_reducible refine gate_dst (N := 8) rfl ?_); refine Kd.R_lit (Kd.int .u8) _ 5 ?hg (N := 8) ?hd (xs := ([] : List Int)) (inner := []) (ok := fun _ => True) (okp := fun _ => True) ?hr ?hp (fun _ hk => hk) trivial (Below.refl _ _) (Nat.le_refl _) (by simp) ?_; (case hd => rfl); (case hg => rfl); (case hr => first | (go_simp; done) | (go_simp; rfl)); (case hp => exact (Reps.none _ _)); intro v1 w1 ho1 hb hg_ hnew_; clear hg_ hnew_; have HO1 := Aside0.mk ho1; have HB1 := Aside0.mk hb; have orr1 := Aside0.mk (box_below hb orr.out); obtain ⟨orr1c, orr1f, orr1l⟩ := cells_of orr1.out; clear ho1 hb) | ((with_reducible refine gate_builtin (b := .append) (xs := #[.tmp 8, .tmp 9]) rfl ?_); at_builtin; refine Kd.R_append_rows (Kd.int .u8) (w0 := wa) (World.heap wa).size rfl (.tmp 8) (.tmp 9) 23 5 (.int .u8 0) 1 rfl Try.underlying23 infoB rfl (by decide) (by omega) v1 [] mac _ _ _ (fun _ => True) (fun _ => False) rfl rfl ?aO ?aR (fun _ _ h => h) (fun _ h => h.elim) ?aF ?aB ?aS ?aL ?_; (case aR => repeat (first | exact (Kd.C_below (Kd.F_now HR.out) HB1.out) | (with_reducible refine Kd.C_alloc ?_ _) | (with_reducible refine Kd.C_drewN ?_ _) | (with_reducible refine Kd.C_drew ?_))); (case aB => exact HB1.out); (case aF => exact (fun _ _ => trivial)); (case aO => exact HO1.out); (case aS => exact HB1.out.size); (case aL => have := HL.out; simp; omega); intro v2 w2 ho hb_ hg hat; rw [List.nil_append] at ho; have orr_ := Aside0.mk (box_below hb_ orr.out); clear orr orrc orrf orrl; have orr := orr_; clear orr_; obtain ⟨orrc, orrf, orrl⟩ := cells_of orr.out; have HR_ := Aside0.mk (Kd.F_below HR.out hb_); clear HR; have HR := HR_; clear HR_; have HB_ : Aside0 (Below w.heap.size w w2) := Aside0.mk (below_step HB.out hb_); have hzw2 := hb_.size; clear HB; have HB := HB_; clear HB_; obtain ⟨A_q, c_q, ev_, hc_q, hf_q⟩ := R_Fl ho; subst ev_; have q := Aside0.mk (Kd.F_bound hf_q); clear ho hf_q hg hat HO1 HB1) | ((with_reducible refine gate_store (t := 25) (p := 2) (v := .tmp 11) rfl ?_); refine wpList_store_all rfl 25 _ _ rfl rfl _ (C14 new1 (.slice A_q mac.length c_q)) (by rfl) (by rfl) _ _ orr.out rfl i25 (C14_one _ _ _ _) ?_; rintro w3 ⟨hx_, hk_, hb_, hzz_⟩; have HB_ : Aside0 (Below w.heap.size w w3) := Aside0.mk (Below.trans (bG HB) (Below.mono hb_ (by first | omega | (simp only [sz_alloc, sz_drew, sz_drewN]; omega)))); have hzw3 := Nat.le_of_eq hzz_.symm; (try simp at hzw3); clear hzz_; have q_ := Aside0.mk (Kd.F_step (fG q) (fun j_ hj_ hl_ => hk_ j_ (by (try dsimp only at hj_); (try simp only [sz_alloc, sz_drew, sz_drewN, sz_set] at hj_); omega))); clear q; have q := q_; clear q_; (try clear orr orrc orrf orrl); have orr := Aside0.mk hx_; obtain ⟨orrc, orrf, orrl⟩ := cells_of orr.out; clear HB hb_ hk_ hx_; have HB := HB_; clear HB_))
  refine bodyPost_ret (results_ct rfl _ _ w.heap.size 25 (C14 new1 (.slice A_q mac.length c_q)) (0, 0) _ rfl orr.out Try.underlying25 rfl i25) rfl ?_
  exact ⟨A_q, c_q, rfl, hc_q, (by refine F_res (ok := ?_) (fG q) ?_; intro j_ hj_; (try simp only [sz_alloc, sz_drew, sz_drewN, sz_set] at hj_); omega), (bG HB)⟩
set_option maxHeartbeats 1600000 in
set_option maxRecDepth 100000 in
theorem RNew_no (A : Option Addr) (cap : Nat) (mac : List Int) (w : World) (h6 : ((mac.length : Int) != 6) = true) :
    Calls Try.prog 18 #[.slice A mac.length cap] w fun e w' => e = .returned (.tuple #[.agg (C14 new0 (.slice none 0 0)), .int .i64 2]) ∧ Below w.heap.size w w' := by
  have HB := Aside0.mk (Below.refl w.heap.size w)
  have hu := Try.underlying25
  go_enter Try.func18, Try.ntmps18
  go_wp2
  refine bodyPost_ret (v := .tuple #[.agg (C14 new0 (.slice none 0 0)), .int .i64 2]) (by simp [results, Try.results18, go_sem, C14, new0] <;> first | assumption | omega | (symm; assumption)) rfl ?_
  exact ⟨rfl, (bG HB)⟩
set_option maxHeartbeats 1600000 in
set_option maxRecDepth 100000 in
theorem rline_is (c : Nat → Int) (A : Option Addr) (m cap : Nat) (w : World) (k : Bool) (hk : okC c m = k) (h3 : 0 ≤ c 3) (h7 : 0 ≤ c 7) (z : Bool) (hz : (Go.bits .and .i64 (c 1) (c 2) != 0) = z) : Calls Try.prog 22 #[.agg (C14 c (.slice A m cap))] w fun e w' => e = .returned (.bool (k && z)) ∧ Below w.heap.size w w' := by
  have HB := Aside0.mk (Below.refl w.heap.size w)
  have HK := Aside0.mk hk
  have H3 := Aside0.mk h3
  have H7 := Aside0.mk h7
  have hu := Try.underlying25
  clear hk h3 h7
  go_enter Try.func22, Try.ntmps22
  go_upto_region 1 with fail
  obtain ⟨wa, hwa, on0, hb_, hz0⟩ := letter1 w (.cells (C14 c (.slice A m cap)) 25 (0, 0))
  rw [hwa]
  clear hwa
  have hzwa := Nat.le_of_eq hz0.symm
  clear hz0
  have on := Aside0.mk on0
  clear on0
  obtain ⟨onc, onf, onl⟩ := cells_of on.out
  have HB_ : Aside0 (Below w.heap.size w wa) := ⟨hb_⟩
  clear HB hb_
  have HB := HB_
  clear HB_
  go_wp2_with (first | ((with_reducible refine gate_dst (N := 3) rfl ?_); (try (refine gate_guard (by rfl) ?_; dsimp only)); refine wpList_load_row rfl 25 _ rfl _ (by rfl) _ (C14 c (.slice A m cap)) _ _ (eG on) Try.underlying25 rfl i25 ?_))
  (go_at_call 20; (with_reducible refine (rCheck_of k c A m cap _ H3.out H7.out HK.out).mono ?_); rintro e_ w1 ⟨rfl, hb_⟩; have HB_ : Aside0 (Below w.heap.size w w1) := Aside0.mk (below_step (bG HB) hb_); have hzw1 := hb_.size; (try simp at hzw1); have on_ := Aside0.mk (box_below hb_ (eG on)); (try clear on onc onf onl); have on := on_; clear on_; obtain ⟨onc, onf, onl⟩ := cells_of on.out; clear HB hb_; have HB := HB_; clear HB_)
  have hc1 : World.cell? w1 ⟨w.heap.size, 1, none⟩ = some (.int .i64 (c 1)) := (onc 1).trans rfl
  have hc2 : World.cell? w1 ⟨w.heap.size, 2, none⟩ = some (.int .i64 (c 2)) := (onc 2).trans rfl
  clear onc
  have onc := trivial
  cases k
  all_goals go_wp2
  all_goals go_ret
  all_goals exact ⟨by simp [*], HB.out⟩
theorem RLine_is (c : Nat → Int) (A : Option Addr) (m cap : Nat) (w : World) (h3 : 0 ≤ c 3) (h7 : 0 ≤ c 7) (b : Bool) (hb : lineZ c m = b) : Calls Try.prog 22 #[.agg (C14 c (.slice A m cap))] w fun e w' => e = .returned (.bool b) ∧ Below w.heap.size w w' := by
  subst hb
  have h := rline_is c A m cap w _ rfl h3 h7 _ rfl
  have e : (okC c m && (Go.bits .and .i64 (c 1) (c 2) != 0)) = lineZ c m := by
    unfold lineZ
    cases hk : okC c m with
    | false => rfl
    | true =>
      have K := (okC_iff c m).1 hk
      obtain ⟨n, hn⟩ := Int.eq_ofNat_of_zero_le K.mask.1
      have := and_le (c 1) n (by have := K.mask.2; omega)
      rw [← hn] at this
      refine Bool.eq_iff_iff.2 ?_
      simp
      omega
  rw [e] at h
  exact h
theorem Line_of (b : Bool) (c : Nat → Int) (A : Option Addr) (m cap : Nat) (w : World) (hb : lineZ c m = b) : Calls Try.prog 21 #[.agg (C14 c (.slice A m cap))] w fun e w' => e = .returned (.bool b) ∧ Below w.heap.size w w' := by
  subst hb
  exact Line_is c A m cap w _ rfl
end Go.Proofs.Ytdblpflepfcnjaa.Q
end
section
/- The law's own memory; the document's Same on equal controllers. -/
namespace Go.Proofs.Ytdblpflepfcnjaa.Q
open Go.RowKit Go.Proofs.YtdblpflepfcnjaaW.PrintWords Go.Proofs.YtdblpflepfcnjaaW.PrintLast Go.Proofs.YtdblpflepfcnjaaW.PrintMore Go.Proofs.Ytdblpflepfcnjaa.L
attribute [local go_sem] Instr.field part asAgg lt_step max2_int min2_int max_two min_two max_three min_three max_four min_four lt_0_1 lt_0_2 lt_1_2 lt_0_3 lt_1_3 lt_2_3 lt_0_4 lt_1_4 lt_2_4 lt_3_4 lt_0_5 lt_1_5 lt_2_5 lt_3_5 lt_4_5 lt_0_6 lt_1_6 lt_2_6 lt_3_6 lt_4_6 lt_5_6 lt_0_7 lt_1_7 lt_2_7 lt_3_7 lt_4_7 lt_5_7 lt_6_7 lt_0_8 lt_1_8 lt_2_8 lt_3_8 lt_4_8 lt_5_8 lt_6_8 lt_7_8
set_option linter.unusedVariables false
set_option linter.unusedSimpArgs false
set_option maxHeartbeats 1600000 in
set_option maxRecDepth 100000 in
theorem Same_is (c : Nat → Int) (A : Option Addr) (cap : Nat) (A2 : Option Addr) (cap2 : Nat) (mac : List Int) (w : World) (okm okm2 : Nat → Prop) (hm : Kd.F (Kd.int .u8) w okm A mac.length mac) (hmc : mac.length ≤ cap) (hm2 : Kd.F (Kd.int .u8) w okm2 A2 mac.length mac) (hmc2 : mac.length ≤ cap2) :
    Calls Try.prog 19 #[.agg (C14 c (.slice A mac.length cap)), .agg (C14 c (.slice A2 mac.length cap2))] w fun e w' => e = .returned (.bool true) ∧ Below w.heap.size w w' := by
  have HB := Aside0.mk (Below.refl w.heap.size w)
  have HM := Aside0.mk (Kd.F_bound hm)
  have HM2 := Aside0.mk (Kd.F_bound hm2)
  have hu := Try.underlying25
  go_enter Try.func19, Try.ntmps19
  go_upto_region 1 with fail
  obtain ⟨wa, hwa, on0, om0, hb_, hz0⟩ := letter2 w (.cells (C14 c (.slice A mac.length cap)) 25 (0, 0)) (.cells (C14 c (.slice A2 mac.length cap2)) 25 (0, 0))
  rw [hwa]
  clear hwa
  obtain ⟨onc, onf, onl⟩ := cells_of on0
  obtain ⟨omc, omf, oml⟩ := cells_of om0
  have hcv3 := Kd.C_string (P := Try.prog) (A := A) (c := cap) Try.underlying23 Try.underlying5 Try.underlying9 (Kd.F_now (Kd.F_below HM.out hb_))
  have hcv4 := Kd.C_string (P := Try.prog) (A := A2) (c := cap2) Try.underlying23 Try.underlying5 Try.underlying9 (Kd.F_now (Kd.F_below HM2.out hb_))
  have hc0 : World.cell? wa ⟨w.heap.size, 0, none⟩ = some (.int .i64 (c 0)) := (onc 0).trans rfl
  have hc1 : World.cell? wa ⟨w.heap.size, 1, none⟩ = some (.int .i64 (c 1)) := (onc 1).trans rfl
  have hc2 : World.cell? wa ⟨w.heap.size, 2, none⟩ = some (.int .i64 (c 2)) := (onc 2).trans rfl
  have hc3 : World.cell? wa ⟨w.heap.size, 3, none⟩ = some (.int .u64 (c 3)) := (onc 3).trans rfl
  have hc4 : World.cell? wa ⟨w.heap.size, 4, none⟩ = some (.int .i64 (c 4)) := (onc 4).trans rfl
  have hc5 : World.cell? wa ⟨w.heap.size, 5, none⟩ = some (.int .i64 (c 5)) := (onc 5).trans rfl
  have hc6 : World.cell? wa ⟨w.heap.size, 6, none⟩ = some (.int .i64 (c 6)) := (onc 6).trans rfl
  have hc7 : World.cell? wa ⟨w.heap.size, 7, none⟩ = some (.int .u64 (c 7)) := (onc 7).trans rfl
  have hc8 : World.cell? wa ⟨w.heap.size, 8, none⟩ = some (.int .i64 (c 8)) := (onc 8).trans rfl
  have hc9 : World.cell? wa ⟨w.heap.size, 9, none⟩ = some (.int .i64 (c 9)) := (onc 9).trans rfl
  have hc10 : World.cell? wa ⟨w.heap.size, 10, none⟩ = some (.int .i64 (c 10)) := (onc 10).trans rfl
  have hc11 : World.cell? wa ⟨w.heap.size, 11, none⟩ = some (.int .i64 (c 11)) := (onc 11).trans rfl
  have hc12 : World.cell? wa ⟨w.heap.size, 12, none⟩ = some (.int .i64 (c 12)) := (onc 12).trans rfl
  have hd0 : World.cell? wa ⟨w.heap.size + 1, 0, none⟩ = some (.int .i64 (c 0)) := (omc 0).trans rfl
  have hd1 : World.cell? wa ⟨w.heap.size + 1, 1, none⟩ = some (.int .i64 (c 1)) := (omc 1).trans rfl
  have hd2 : World.cell? wa ⟨w.heap.size + 1, 2, none⟩ = some (.int .i64 (c 2)) := (omc 2).trans rfl
  have hd3 : World.cell? wa ⟨w.heap.size + 1, 3, none⟩ = some (.int .u64 (c 3)) := (omc 3).trans rfl
  have hd4 : World.cell? wa ⟨w.heap.size + 1, 4, none⟩ = some (.int .i64 (c 4)) := (omc 4).trans rfl
  have hd5 : World.cell? wa ⟨w.heap.size + 1, 5, none⟩ = some (.int .i64 (c 5)) := (omc 5).trans rfl
  have hd6 : World.cell? wa ⟨w.heap.size + 1, 6, none⟩ = some (.int .i64 (c 6)) := (omc 6).trans rfl
  have hd7 : World.cell? wa ⟨w.heap.size + 1, 7, none⟩ = some (.int .u64 (c 7)) := (omc 7).trans rfl
  have hd8 : World.cell? wa ⟨w.heap.size + 1, 8, none⟩ = some (.int .i64 (c 8)) := (omc 8).trans rfl
  have hd9 : World.cell? wa ⟨w.heap.size + 1, 9, none⟩ = some (.int .i64 (c 9)) := (omc 9).trans rfl
  have hd10 : World.cell? wa ⟨w.heap.size + 1, 10, none⟩ = some (.int .i64 (c 10)) := (omc 10).trans rfl
  have hd11 : World.cell? wa ⟨w.heap.size + 1, 11, none⟩ = some (.int .i64 (c 11)) := (omc 11).trans rfl
  have hd12 : World.cell? wa ⟨w.heap.size + 1, 12, none⟩ = some (.int .i64 (c 12)) := (omc 12).trans rfl
  have hc13 := (onc 13).trans (C14_mac c (.slice A mac.length cap))
  have hd13 := (omc 13).trans (C14_mac c (.slice A2 mac.length cap2))
  clear onc omc on0 om0 hz0 HM HM2 hm hm2
  go_wp2
  go_ret
  exact ⟨by first | rfl | (simp; done), (by repeat (first | (with_reducible first | exact hb_ | exact Below.refl _ _ | apply below_alloc | apply pw_below_drewN | apply below_drew | refine below_set ?_ (by omega)) | exact hb_))⟩
end Go.Proofs.Ytdblpflepfcnjaa.Q
end
