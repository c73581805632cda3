import Derived.Test.YtdblpflepfcnjaaHZ1
import Derived.Test.YtdblpflepfcnjaaHZ2
import Derived.Test.YtdblpflepfcnjaaHQx1
/- nic.fetch. -/
namespace Go.Proofs.Ytdblpflepfcnjaa.Q
open Go.RowKit Go.Proofs.YtdblpflepfcnjaaW.PrintWords Go.Proofs.YtdblpflepfcnjaaW.PrintLast Go.Proofs.YtdblpflepfcnjaaW.PrintMore Go.Proofs.Ytdblpflepfcnjaa.L
attribute [local go_sem] Instr.field part asAgg lt_step max2_int min2_int max_two min_two max_three min_three max_four min_four lt_0_1 lt_0_2 lt_1_2 lt_0_3 lt_1_3 lt_2_3 lt_0_4 lt_1_4 lt_2_4 lt_3_4 lt_0_5 lt_1_5 lt_2_5 lt_3_5 lt_4_5 lt_0_6 lt_1_6 lt_2_6 lt_3_6 lt_4_6 lt_5_6 lt_0_7 lt_1_7 lt_2_7 lt_3_7 lt_4_7 lt_5_7 lt_6_7 lt_0_8 lt_1_8 lt_2_8 lt_3_8 lt_4_8 lt_5_8 lt_6_8 lt_7_8
set_option linter.unusedVariables false
set_option linter.unusedSimpArgs false
def bufD (d : List Int) : Int := getB (d.take 8) false
def sizeD (d : List Int) : Int := getB ((d.drop 8).take 2) false
def flagD (d : List Int) : Int := d.getD 10 0
def restD (d : List Int) : Int := d.getD 11 0
theorem cut_len (l : List Int) (a k : Int) (hp : (placeZ l.length a k).2 = true) : (cutL l a k).length = k.toNat := by
  rcases placeZ_cases l.length a k with ⟨h1, h2, h3, e⟩ | ⟨_, e⟩
  · unfold cutL
    rw [List.length_drop, List.length_take]
    omega
  · rw [e] at hp; cases hp
theorem bytes_c (A : Option Addr) (cap : Nat) (l : List Int) (a k : Int) (n : Nat) (w : World) (hn : n = k.toNat) (hn0 : 0 < n) (hr : Kd.C (Kd.int .u8) w A l.length l) (hc : l.length ≤ cap) (ha : u64B a) (hk : i64B k) (hl : (l.length : Int) ≤ 70000) (hp : (placeZ l.length a k).2 = true) :
    Calls Try.prog 35 #[.agg #[.slice A l.length cap], .int .u64 a, .int .i64 k] w fun e w' => ∃ b o c, e = .returned (.tuple #[.slice (some ⟨b, o, none⟩) n c, .bool true]) ∧ n ≤ c ∧ Kd.F (Kd.int .u8) w' (fun j => w.heap.size ≤ j) (some ⟨b, o, none⟩) n (cutL l a k) ∧ w.heap.size ≤ b ∧ Below w.heap.size w w' := by
  have hb := bytes_is l a k ha hk hl 1
  have hlen := cut_len l a k hp
  rw [← hn] at hlen
  unfold bytesZ at hb
  rw [if_pos hp] at hb
  refine (ram_Bytes.calls 4 A cap l a k (cutL l a k) true w hr hc hb).mono ?_
  rintro e w' ⟨v, he, hR, hB⟩
  obtain ⟨A2, c2, ev, hc2, hF⟩ := R_Fl hR
  rw [hlen] at ev hc2 hF
  obtain ⟨b, o, eA, hcell⟩ := F_cell' hF hn0
  have hbk := R_block (A := A2) (n := n) (c := c2) (by rw [← ev]; exact hR) ⟨b, o, none⟩ eA hn0
  subst eA
  exact ⟨b, o, c2, by rw [he, ev], hc2, hF, hbk, hB⟩
theorem bytes_no (A : Option Addr) (cap : Nat) (l : List Int) (a k : Int) (w : World) (hr : Kd.C (Kd.int .u8) w A l.length l) (hc : l.length ≤ cap) (ha : u64B a) (hk : i64B k) (hl : (l.length : Int) ≤ 70000) (hp : (placeZ l.length a k).2 = false) :
    Calls Try.prog 35 #[.agg #[.slice A l.length cap], .int .u64 a, .int .i64 k] w fun e w' => ∃ v, e = .returned (.tuple #[v, .bool false]) ∧ Kd.R (Kd.int .u8) 5 w' w.heap.size (fun _ => True) v [] ∧ Below w.heap.size w w' := by
  have hb := bytes_is l a k ha hk hl 1
  unfold bytesZ at hb
  rw [hp, if_neg (by decide)] at hb
  exact ram_Bytes.calls 4 A cap l a k [] false w hr hc hb
theorem get_c (n : Nat) (A : Option Addr) (c : Nat) (l : List Int) (w : World) (hn : l.length = n) (hr : Kd.C (Kd.int .u8) w A n l) (hc : n ≤ c) (hb : ∀ x ∈ l, byte x) :
    Calls Try.prog 54 #[.slice A n c, .bool false] w fun e w' => e = .returned (.int .u64 (getB l false)) ∧ Below w.heap.size w w' := by
  subst hn
  exact bits_Get.calls A c l false _ w hr hc (by unfold bits_Get.f; exact if_pos (fun x hx => hb x (List.mem_of_mem_take hx)))
theorem getB_small (l : List Int) (hb : ∀ x ∈ l, byte x) (n : Nat) (hn : l.length = n) (h8 : n ≤ 8) : 0 ≤ getB l false ∧ getB l false < 256 ^ n := by
  unfold getB
  simp only [Bool.false_eq_true, if_false]
  rw [List.take_of_length_le (by omega)]
  have := getLE_range l hb
  rw [hn] at this
  exact this
theorem cut_byte (l : List Int) (a k : Int) (hb : ∀ z ∈ l, byte z) : ∀ z ∈ cutL l a k, byte z := fun z hz => hb z (List.mem_of_mem_take (List.mem_of_mem_drop hz))
theorem get_buf (A : Option Addr) (c : Nat) (d : List Int) (w : World) (hn : d.length = Int.toNat 16) (hb : ∀ x ∈ d, byte x) (hr : Kd.C (Kd.int .u8) w A 8 (d.take 8)) (hc : 8 ≤ c) :
    Calls Try.prog 54 #[.slice A 8 c, .bool false] w fun e w' => e = .returned (.int .u64 (bufD d)) ∧ Below w.heap.size w w' :=
  get_c 8 A c (d.take 8) w (by simp [hn]) hr hc (fun z hz => hb z (List.mem_of_mem_take hz))
theorem get_size (A : Option Addr) (c : Nat) (d : List Int) (w : World) (hn : d.length = Int.toNat 16) (hb : ∀ x ∈ d, byte x) (hr : Kd.C (Kd.int .u8) w A 2 ((d.drop 8).take 2)) (hc : 2 ≤ c) :
    Calls Try.prog 54 #[.slice A 2 c, .bool false] w fun e w' => e = .returned (.int .u64 (sizeD d)) ∧ Below w.heap.size w w' :=
  get_c 2 A c ((d.drop 8).take 2) w (by simp [hn]) hr hc (fun z hz => hb z (List.mem_of_mem_drop (List.mem_of_mem_take hz)))
theorem C_sub {k : IntKind} {W : World} {b o n : Nat} {xs : List Int} (h : Kd.C (Kd.int k) W (some ⟨b, o, none⟩) n xs) (i m : Nat) (him : i + m ≤ n) : Kd.C (Kd.int k) W (some ⟨b, o + i, none⟩) m ((xs.drop i).take m) := by
  obtain ⟨h1, h2, h3⟩ := Kd.reads_of_C (d := (0 : Int)) h
  have hl : xs.length = n := h.1
  refine Kd.C_of_reads (d := (0 : Int)) ⟨by rw [List.length_take, List.length_drop]; omega, by omega, fun hm => ⟨⟨b, o + i, none⟩, rfl, fun j hj => ?_⟩⟩
  obtain ⟨ad, e, hc⟩ := h3 (by omega)
  injection e with e; subst e
  have := hc (i + j) (by omega)
  rw [add_eq] at this ⊢
  rw [Nat.add_assoc, this, List.getD_eq_getElem?_getD, List.getD_eq_getElem?_getD, List.getElem?_take_of_lt hj, List.getElem?_drop]
theorem F_sub {k : IntKind} {W : World} {ok : Nat → Prop} {b o n : Nat} {xs : List Int} (h : Kd.F (Kd.int k) W ok (some ⟨b, o, none⟩) n xs) (i m : Nat) (him : i + m ≤ n) : Kd.F (Kd.int k) W ok (some ⟨b, o + i, none⟩) m ((xs.drop i).take m) :=
  fun W' hW => C_sub (h W' hW) i m him
theorem F_cells16 {W : World} {b o : Nat} {d : List Int} (h : Kd.C (Kd.int .u8) W (some ⟨b, o, none⟩) 16 d) : ∀ i, i < 16 → W.cell? ⟨b, o + i, none⟩ = some (.int .u8 (d.getD i 0)) := by
  intro i hi
  obtain ⟨_, _, h3⟩ := Kd.reads_of_C (d := (0 : Int)) h
  obtain ⟨ad, e, hc⟩ := h3 (by decide)
  injection e with e; subst e
  have := hc i hi
  rw [add_eq] at this
  exact this
theorem copy_flags (W : World) (g : Nat) (a b s : Int) (qb qo qc : Nat) (d : List Int) (hn : d.length = Int.toNat 16) (hg : W.heap[g]? = some (.cells #[.int .u64 a, .int .u64 b, .int .i64 s, .int .u8 0, .int .u8 0] 58 (0, 0))) (hd : ∀ i, i < 16 → W.cell? ⟨qb, qo + i, none⟩ = some (.int .u8 (d.getD i 0))) :
    (Builtin.copy_ #[23, 23] 3 #[.slice (some ⟨g, 3, none⟩) 2 2, .slice (some ⟨qb, qo + 10, none⟩) 2 qc]).run Try.prog W = .ok (goInt 2) (W.setRow g #[.int .u64 a, .int .u64 b, .int .i64 s, .int .u8 (flagD d), .int .u8 (restD d)]) :=
  run_copy_row (P := Try.prog) W 23 23 3 5 g 3 2 2 ⟨qb, qo + 10, none⟩ 2 qc #[.int .u64 a, .int .u64 b, .int .i64 s, .int .u8 0, .int .u8 0] 58 [.int .u8 (flagD d), .int .u8 (restD d)] Try.underlying23 infoS hg rfl
    (by intro j v hv
        match j, hv with
        | 0, hv => rw [add_eq]; exact (hd 10 (by decide)).trans hv
        | 1, hv => rw [add_eq]; exact (hd 11 (by decide)).trans hv
        | n + 2, hv => cases hv)
    (by simp) (by intro v hv; rcases List.mem_cons.1 hv with rfl | hv; rfl; rcases List.mem_cons.1 hv with rfl | hv; rfl; cases hv)
set_option maxHeartbeats 1600000 in
set_option maxRecDepth 100000 in
theorem fetch_no (A : Option Addr) (cap : Nat) (l : List Int) (base head at_ : Int) (w : World) (hat : IntKind.u64.wrap (base + IntKind.u64.wrap (16 * IntKind.u64.wrap head)) = at_) (hr : Kd.C (Kd.int .u8) w A l.length l) (hc : l.length ≤ cap) (ha : u64B at_) (hl : (l.length : Int) ≤ 70000) (hp : (placeZ l.length at_ 16).2 = false) :
    Calls Try.prog 32 #[.agg #[.slice A l.length cap], .int .u64 base, .int .i64 head] w fun e w' => e = .returned (.tuple #[.agg #[.int .u64 at_, .int .u64 0, .int .i64 0, .int .u8 0, .int .u8 0], .bool false]) ∧ Below w.heap.size w w' := by
  have HB := Aside0.mk (Below.refl w.heap.size w)
  have HR := Aside0.mk hr
  have HC := Aside0.mk hc
  have HA := Aside0.mk ha
  have HL := Aside0.mk hl
  have HP := Aside0.mk hp
  have hu := Try.underlying58
  clear hr hc ha hl hp
  go_enter Try.func32, Try.ntmps32
  go_wp2_with fail
  (go_at_call 35; (with_reducible refine (bytes_no A cap l at_ 16 _ (by repeat (first | exact HR.out | apply Kd.C_alloc)) HC.out HA.out (by unfold i64B; omega) HL.out HP.out).mono ?_); rintro e_ w1 ⟨v_q, rfl, hr_q, hb_⟩; have HB_ : Aside0 (Below w.heap.size w w1) := Aside0.mk (below_step (bG HB) hb_); have hzw1 := hb_.size; (try simp at hzw1); have oa_ := Aside0.mk (box_below hb_ (by repeat (with_reducible first | exact nb_1 w _ | apply ext_drew | apply ext_drewN | apply ext_alloc | refine blk_far ?_ (by show _ ≠ _; dsimp only; omega) _))); have ob_ := Aside0.mk (box_below hb_ (by repeat (with_reducible first | exact nb_2 w _ _ | apply ext_drew | apply ext_drewN | apply ext_alloc | refine blk_far ?_ (by show _ ≠ _; dsimp only; omega) _))); have oc_ := Aside0.mk (box_below hb_ (by repeat (with_reducible first | exact nb_3 w _ _ _ | apply ext_drew | apply ext_drewN | apply ext_alloc | refine blk_far ?_ (by show _ ≠ _; dsimp only; omega) _))); (try clear oa oac oaf oal); have oa := oa_; clear oa_; obtain ⟨oac, oaf, oal⟩ := cells_of oa.out; (try clear ob obc obf obl); have ob := ob_; clear ob_; obtain ⟨obc, obf, obl⟩ := cells_of ob.out; (try clear oc occ ocf ocl); have oc := oc_; clear oc_; obtain ⟨occ, ocf, ocl⟩ := cells_of oc.out; clear HB hb_; have HB := HB_; clear HB_; obtain ⟨A_q, c_q, ev_, hc_q, hf_q⟩ := R_Fl hr_q; subst ev_; have qc := Aside0.mk hc_q; have q := Aside0.mk (Kd.F_bound hf_q); clear hc_q hf_q hr_q; skip)
  go_wp2
  refine bodyPost_ret (v := .tuple #[.agg #[.int .u64 at_, .int .u64 0, .int .i64 0, .int .u8 0, .int .u8 0], .bool false]) (by simp [results, Try.results32, go_sem, obc, obf] <;> first | assumption | omega | (symm; assumption)) rfl ?_
  exact ⟨rfl, (bG HB)⟩
set_option maxHeartbeats 1600000 in
set_option maxRecDepth 100000 in
theorem fetch_yes (A : Option Addr) (cap : Nat) (l : List Int) (base head at_ : Int) (w : World) (hat : IntKind.u64.wrap (base + IntKind.u64.wrap (16 * IntKind.u64.wrap head)) = at_) (hr : Kd.C (Kd.int .u8) w A l.length l) (hc : l.length ≤ cap) (ha : u64B at_) (hl : (l.length : Int) ≤ 70000) (hby : ∀ z ∈ l, byte z) (hp : (placeZ l.length at_ 16).2 = true) :
    Calls Try.prog 32 #[.agg #[.slice A l.length cap], .int .u64 base, .int .i64 head] w fun e w' => e = .returned (.tuple #[.agg #[.int .u64 at_, .int .u64 (bufD (cutL l at_ 16)), .int .i64 (sizeD (cutL l at_ 16)), .int .u8 (flagD (cutL l at_ 16)), .int .u8 (restD (cutL l at_ 16))], .bool true]) ∧ Below w.heap.size w w' := by
  have HB := Aside0.mk (Below.refl w.heap.size w)
  have HR := Aside0.mk hr
  have HC := Aside0.mk hc
  have HA := Aside0.mk ha
  have HL := Aside0.mk hl
  have HP := Aside0.mk hp
  have hu := Try.underlying58
  have hu6 := Try.underlying56
  have hdl := cut_len l at_ 16 hp
  have hdb := cut_byte l at_ 16 hby
  obtain ⟨d, hd⟩ : ∃ d, cutL l at_ 16 = d := ⟨_, rfl⟩
  rw [hd] at hdl hdb ⊢
  have HD := Aside0.mk hd
  have HDL := Aside0.mk hdl
  have HDB := Aside0.mk hdb
  clear hr hc ha hl hp hd hby hdl hdb
  go_enter Try.func32, Try.ntmps32
  go_wp2_with fail
  (go_at_call 35; (with_reducible refine (bytes_c A cap l at_ 16 16 _ rfl (by decide) (by repeat (first | exact HR.out | apply Kd.C_alloc)) HC.out HA.out (by unfold i64B; omega) HL.out HP.out).mono ?_); rintro e_ w1 ⟨qb, qo, qc, rfl, hq1, hq2, hq3_, hb_⟩; have HB_ : Aside0 (Below w.heap.size w w1) := Aside0.mk (below_step (bG HB) hb_); have hzw1 := hb_.size; (try simp at hzw1); have oa_ := Aside0.mk (box_below hb_ (by repeat (with_reducible first | exact nb_1 w _ | apply ext_drew | apply ext_drewN | apply ext_alloc | refine blk_far ?_ (by show _ ≠ _; dsimp only; omega) _))); have ob_ := Aside0.mk (box_below hb_ (by repeat (with_reducible first | exact nb_2 w _ _ | apply ext_drew | apply ext_drewN | apply ext_alloc | refine blk_far ?_ (by show _ ≠ _; dsimp only; omega) _))); have oc_ := Aside0.mk (box_below hb_ (by repeat (with_reducible first | exact nb_3 w _ _ _ | apply ext_drew | apply ext_drewN | apply ext_alloc | refine blk_far ?_ (by show _ ≠ _; dsimp only; omega) _))); (try clear oa oac oaf oal); have oa := oa_; clear oa_; obtain ⟨oac, oaf, oal⟩ := cells_of oa.out; (try clear ob obc obf obl); have ob := ob_; clear ob_; obtain ⟨obc, obf, obl⟩ := cells_of ob.out; (try clear oc occ ocf ocl); have oc := oc_; clear oc_; obtain ⟨occ, ocf, ocl⟩ := cells_of oc.out; clear HB hb_; have HB := HB_; clear HB_; have hq1_ := Aside0.mk hq1; clear hq1; have hq1 := hq1_; clear hq1_; have hq2_ := Aside0.mk hq2; clear hq2; have hq2 := hq2_; clear hq2_; have hq3__ := Aside0.mk hq3_; clear hq3_; have hq3_ := hq3__; clear hq3__; skip)
  rw [HD.out] at hq2
  go_upto_region 5 with fail
  have hz1 := obl
  obtain ⟨i096, hi096, _, hsz96, _⟩ := info_parts infoB
  have hc8 := hq1.out
  have hcut1 := cut_to (P := Try.prog) 23 5 .i64 Try.underlying23 hi096 (some ⟨qb, qo, none⟩) 16 qc 8 (by decide) (by decide) hq1.out
  have hcut2 := cut_mid (P := Try.prog) 23 5 .i64 .i64 Try.underlying23 hi096 1 hsz96 (some ⟨qb, qo, none⟩) 16 qc 8 10 (by decide) (by decide) (by decide) hq1.out
  have hcut3 := cut_mid (P := Try.prog) 23 5 .i64 .i64 Try.underlying23 hi096 1 hsz96 (some ⟨qb, qo, none⟩) 16 qc 10 12 (by decide) (by decide) (by decide) hq1.out
  rw [if_neg (by omega)] at hcut2 hcut3
  simp only [Option.map_some, add_eq] at hcut2 hcut3
  have hq3 := Aside0.mk (F_sub hq2.out 0 8 (by decide))
  rw [Nat.add_zero, List.drop_zero] at hq3
  have hq4 := Aside0.mk (F_sub hq2.out 8 2 (by decide))
  have hsz := getB_small ((d.drop 8).take 2) (fun z hz => HDB.out z (List.mem_of_mem_drop (List.mem_of_mem_take hz))) 2 (by simp [HDL.out]) (by decide)
  have hs0 : 0 ≤ sizeD d := hsz.1
  have hs1 : sizeD d < 65536 := hsz.2
  clear hsz
  have hwz : wrap64 (sizeD d) = sizeD d := w64 (by omega) (by omega)
  have hbg : w.heap.size + 1 + 1 < qb := Nat.lt_of_lt_of_le (by simp) hq3_.out
  go_cut [] (fun wx => Aside0 (wx.heap[w.heap.size + 1]? = some (.cells #[.int .u64 0, .int .u64 0, .int .i64 0, .int .u8 0, .int .u8 0] 58 (0, 0))) ∧ Aside0 (wx.heap[w.heap.size + 1 + 1]? = some (.cells #[.int .u64 at_, .int .u64 (bufD d), .int .i64 (sizeD d), .int .u8 0, .int .u8 0] 58 (0, 0))) ∧ Aside0 (Kd.F (Kd.int .u8) wx (fun j => w.heap.size + 1 + 1 < j) (some ⟨qb, qo, none⟩) 16 d) ∧ Aside0 (Below w.heap.size w wx))
  case first =>
    refine start_ (n := 11) (S := fun w' => True) (ds := []) #[false, false, false, false, false, false, false, false, false, false, false] (by kernel_rfl) rfl rfl trivial (fun hHeld => ?_)
    refine pure_ (i := 0) (N := some 27) (v := ?_) (a' := ?_) #[true, false, false, false, false, false, false, false, false, false, false] rfl rfl (by kernel_rfl) (fun _ _ _ h => h) (Or.inl ⟨by rfl, ?_⟩) ?_ ?_
    rotate_left
    · intro w'
      go_simp
      with_reducible rfl
    rotate_left
    · simp only [Act.put, List.setIfInBounds_toArray, List.set_cons_zero, List.set_cons_succ, i64_w, i32_w]
      rfl
    refine pure_ (i := 1) (N := some 28) (v := ?_) (a' := ?_) #[true, true, false, false, false, false, false, false, false, false, false] rfl rfl (by kernel_rfl) (fun _ _ _ h => h) (Or.inl ⟨by rfl, ?_⟩) ?_ ?_
    rotate_left
    · intro w'
      go_simp
      with_reducible rfl
    rotate_left
    · simp only [Act.put, List.setIfInBounds_toArray, List.set_cons_zero, List.set_cons_succ, i64_w, i32_w]
      rfl
    refine pure_ (i := 3) (N := some 30) (v := ?_) (a' := ?_) #[true, true, false, true, false, false, false, false, false, false, false] rfl rfl (by kernel_rfl) (fun _ _ _ h => h) (Or.inl ⟨by rfl, ?_⟩) ?_ ?_
    rotate_left
    · intro w'
      go_simp
      with_reducible rfl
    rotate_left
    · simp only [Act.put, List.setIfInBounds_toArray, List.set_cons_zero, List.set_cons_succ, i64_w, i32_w]
      rfl
    refine pure_ (i := 4) (N := some 31) (v := ?_) (a' := ?_) #[true, true, false, true, true, false, false, false, false, false, false] rfl rfl (by kernel_rfl) (fun _ _ _ h => h) (Or.inl ⟨by rfl, ?_⟩) ?_ ?_
    rotate_left
    · intro w'
      go_simp
      with_reducible rfl
    rotate_left
    · simp only [Act.put, List.setIfInBounds_toArray, List.set_cons_zero, List.set_cons_succ, i64_w, i32_w]
      rfl
    refine one_ (i := 2) (N := some 29) #[true, true, true, true, true, false, false, false, false, false, false] rfl rfl (by kernel_rfl) (by decide) (fun K hK => ?_)
    (refine goes_ Try.func54 (by kernel_rfl) rfl #[.slice (some ⟨qb, qo, none⟩) 8 qc, .bool false] (by rfl) rfl rfl (by (try simp only [List.map_toArray, List.map_cons, List.map_nil]); first | done | rfl) ?_; (with_reducible refine (get_buf _ _ d _ HDL.out HDB.out (Kd.F_now (fG hq3)) (by omega)).mono ?_); rintro e_ w2 ⟨rfl, hb_⟩; refine ⟨_, rfl, ?_⟩; have HB_ : Aside0 (Below w.heap.size w w2) := Aside0.mk (below_step (bG HB) hb_); have hzw2 := hb_.size; (try simp at hzw2); have oa_ := Aside0.mk (box_below hb_ (eG oa)); have ob_ := Aside0.mk (box_below hb_ (eG ob)); have oc_ := Aside0.mk (box_below hb_ (eG oc)); have hq2_ := Aside0.mk (Kd.F_below (fG hq2) hb_); clear hq2; have hq2 := hq2_; clear hq2_; have hq3_ := Aside0.mk (Kd.F_below (fG hq3) hb_); clear hq3; have hq3 := hq3_; clear hq3_; have hq4_ := Aside0.mk (Kd.F_below (fG hq4) hb_); clear hq4; have hq4 := hq4_; clear hq4_; (try clear oa oac oaf oal); have oa := oa_; clear oa_; obtain ⟨oac, oaf, oal⟩ := cells_of oa.out; (try clear ob obc obf obl); have ob := ob_; clear ob_; obtain ⟨obc, obf, obl⟩ := cells_of ob.out; (try clear oc occ ocf ocl); have oc := oc_; clear oc_; obtain ⟨occ, ocf, ocl⟩ := cells_of oc.out; clear HB hb_; have HB := HB_; clear HB_)
    refine hK.out _ _ trivial (fun hHeld => ?_)
    clear hK K
    refine norm_ (a' := ?_) ?_ ?_
    rotate_left
    · simp only [Act.put, List.setIfInBounds_toArray, List.set_cons_zero, List.set_cons_succ, i64_w, i32_w]
      rfl
    refine one_ (i := 5) (N := some 32) #[true, true, true, true, true, true, false, false, false, false, false] rfl rfl (by kernel_rfl) (by decide) (fun K hK => ?_)
    (refine goes_ Try.func54 (by kernel_rfl) rfl #[.slice (some ⟨qb, qo + 8, none⟩) 2 (qc - 8), .bool false] (by rfl) rfl rfl (by (try simp only [List.map_toArray, List.map_cons, List.map_nil]); first | done | rfl) ?_; (with_reducible refine (get_size _ _ d _ HDL.out HDB.out (Kd.F_now (fG hq4)) (by omega)).mono ?_); rintro e_ w3 ⟨rfl, hb_⟩; refine ⟨_, rfl, ?_⟩; have HB_ : Aside0 (Below w.heap.size w w3) := Aside0.mk (below_step (bG HB) hb_); have hzw3 := hb_.size; (try simp at hzw3); have oa_ := Aside0.mk (box_below hb_ (eG oa)); have ob_ := Aside0.mk (box_below hb_ (eG ob)); have oc_ := Aside0.mk (box_below hb_ (eG oc)); have hq2_ := Aside0.mk (Kd.F_below (fG hq2) hb_); clear hq2; have hq2 := hq2_; clear hq2_; have hq3_ := Aside0.mk (Kd.F_below (fG hq3) hb_); clear hq3; have hq3 := hq3_; clear hq3_; have hq4_ := Aside0.mk (Kd.F_below (fG hq4) hb_); clear hq4; have hq4 := hq4_; clear hq4_; (try clear oa oac oaf oal); have oa := oa_; clear oa_; obtain ⟨oac, oaf, oal⟩ := cells_of oa.out; (try clear ob obc obf obl); have ob := ob_; clear ob_; obtain ⟨obc, obf, obl⟩ := cells_of ob.out; (try clear oc occ ocf ocl); have oc := oc_; clear oc_; obtain ⟨occ, ocf, ocl⟩ := cells_of oc.out; clear HB hb_; have HB := HB_; clear HB_)
    refine hK.out _ _ trivial (fun hHeld => ?_)
    clear hK K
    refine norm_ (a' := ?_) ?_ ?_
    rotate_left
    · simp only [Act.put, List.setIfInBounds_toArray, List.set_cons_zero, List.set_cons_succ, i64_w, i32_w]
      rfl
    refine pure_ (i := 6) (N := some 33) (v := ?_) (a' := ?_) #[true, true, true, true, true, true, true, false, false, false, false] rfl rfl (by kernel_rfl) (fun _ _ _ h => h) (Or.inl ⟨by rfl, ?_⟩) ?_ ?_
    rotate_left
    · intro w'
      go_simp
      with_reducible rfl
    rotate_left
    · simp only [Act.put, List.setIfInBounds_toArray, List.set_cons_zero, List.set_cons_succ, i64_w, i32_w]
      rfl
    refine pure_ (i := 7) (N := some 34) (v := ?_) (a' := ?_) #[true, true, true, true, true, true, true, true, false, false, false] rfl rfl (by kernel_rfl) (fun _ _ _ h => h) (Or.inl ⟨by rfl, ?_⟩) ?_ ?_
    rotate_left
    · intro w'
      go_simp
      with_reducible rfl
    rotate_left
    · simp only [Act.put, List.setIfInBounds_toArray, List.set_cons_zero, List.set_cons_succ, i64_w, i32_w]
      rfl
    refine one_ (i := 8) (N := none) #[true, true, true, true, true, true, true, true, true, false, false] rfl rfl (by kernel_rfl) (by decide) (fun K hK => ?_)
    refine skip_ (w1 := ?_) (by rfl) rfl ?_ ?_
    rotate_left
    · go_simp
      rfl
    (have hq2_ := Aside0.mk (Kd.F_far (p := ⟨w.heap.size + 1 + 1, 1, none⟩) hq2.out (fun j_ hj_ => by (try dsimp only at hj_); (try dsimp only); (try simp only [sz_alloc, sz_drew, sz_drewN, sz_set] at hj_); omega) (.int .u64 (bufD d))); clear hq2; have hq2 := hq2_; clear hq2_; have oa_ := Aside0.mk (blk_far (p := ⟨w.heap.size + 1 + 1, 1, none⟩) oa.out (by show _ ≠ _; dsimp only; omega) (.int .u64 (bufD d))); clear oa oac oaf oal; have oa := oa_; clear oa_; obtain ⟨oac, oaf, oal⟩ := cells_of oa.out; have ob_ := Aside0.mk (blk_far (p := ⟨w.heap.size + 1 + 1, 1, none⟩) ob.out (by show _ ≠ _; dsimp only; omega) (.int .u64 (bufD d))); clear ob obc obf obl; have ob := ob_; clear ob_; obtain ⟨obc, obf, obl⟩ := cells_of ob.out; have oc_ := Aside0.mk (blk_put oc.out 1 (.int .u64 (bufD d)) (cs' := #[.int .u64 at_, .int .u64 (bufD d), .int .i64 0, .int .u8 0, .int .u8 0]) rfl); clear oc occ ocf ocl; have oc := oc_; clear oc_; obtain ⟨occ, ocf, ocl⟩ := cells_of oc.out)
    refine hK.out _ _ trivial (fun hHeld => ?_)
    clear hK K
    refine pure_ (i := 9) (N := some 35) (v := ?_) (a' := ?_) #[true, true, true, true, true, true, true, true, true, true, false] rfl rfl (by kernel_rfl) (fun _ _ _ h => h) (Or.inl ⟨by rfl, ?_⟩) ?_ ?_
    rotate_left
    · intro w'
      go_simp
      with_reducible rfl
    rotate_left
    · simp only [Act.put, List.setIfInBounds_toArray, List.set_cons_zero, List.set_cons_succ, i64_w, i32_w]
      rfl
    refine one_ (i := 10) (N := none) #[true, true, true, true, true, true, true, true, true, true, true] rfl rfl (by kernel_rfl) (by decide) (fun K hK => ?_)
    refine skip_ (w1 := ?_) (by rfl) rfl ?_ ?_
    rotate_left
    · go_simp
      rfl
    (have hq2_ := Aside0.mk (Kd.F_far (p := ⟨w.heap.size + 1 + 1, 2, none⟩) hq2.out (fun j_ hj_ => by (try dsimp only at hj_); (try dsimp only); (try simp only [sz_alloc, sz_drew, sz_drewN, sz_set] at hj_); omega) (.int .i64 (sizeD d))); clear hq2; have hq2 := hq2_; clear hq2_; have oa_ := Aside0.mk (blk_far (p := ⟨w.heap.size + 1 + 1, 2, none⟩) oa.out (by show _ ≠ _; dsimp only; omega) (.int .i64 (sizeD d))); clear oa oac oaf oal; have oa := oa_; clear oa_; obtain ⟨oac, oaf, oal⟩ := cells_of oa.out; have ob_ := Aside0.mk (blk_far (p := ⟨w.heap.size + 1 + 1, 2, none⟩) ob.out (by show _ ≠ _; dsimp only; omega) (.int .i64 (sizeD d))); clear ob obc obf obl; have ob := ob_; clear ob_; obtain ⟨obc, obf, obl⟩ := cells_of ob.out; have oc_ := Aside0.mk (blk_put oc.out 2 (.int .i64 (sizeD d)) (cs' := #[.int .u64 at_, .int .u64 (bufD d), .int .i64 (sizeD d), .int .u8 0, .int .u8 0]) rfl); clear oc occ ocf ocl; have oc := oc_; clear oc_; obtain ⟨occ, ocf, ocl⟩ := cells_of oc.out)
    refine hK.out _ _ trivial (fun hHeld => ?_)
    clear hK K
    refine done_ (by kernel_rfl) ?_
    go_wp2_with fail
    go_meet
    exact ⟨⟨ob.out⟩, ⟨oc.out⟩, ⟨Kd.F_mono hq2.out (fun j h => by simp at h; omega)⟩, ⟨(bG HB)⟩⟩
  case rest =>
  clear oa oac oaf oal ob obc obf obl oc occ ocf ocl HB hcut1 hcut2 hwz hq2 hq3 hq4
  obtain ⟨ob, oc, hq2, HB⟩ := hcut
  rename World => w5
  obtain ⟨obc, obf, obl⟩ := cells_of ob.out
  obtain ⟨occ, ocf, ocl⟩ := cells_of oc.out
  go_upto_region 6 with fail
  have hcp := copy_flags w5.drew (w.heap.size + 1 + 1) at_ (bufD d) (sizeD d) qb qo (qc - 10) d HDL.out oc.out (F_cells16 (Kd.F_now hq2.out))
  obtain ⟨w6, hw6⟩ : ∃ w6, w6 = w5.drew.setRow (w.heap.size + 1 + 1) #[.int .u64 at_, .int .u64 (bufD d), .int .i64 (sizeD d), .int .u8 (flagD d), .int .u8 (restD d)] := ⟨_, rfl⟩
  rw [← hw6] at hcp
  have od := Aside0.mk (show w6.heap[w.heap.size + 1 + 1]? = some (.cells #[.int .u64 at_, .int .u64 (bufD d), .int .i64 (sizeD d), .int .u8 (flagD d), .int .u8 (restD d)] 58 (0, 0)) from by rw [hw6]; exact setRow_heap w5.drew _ _ _ _ _ oc.out)
  have oz := Aside0.mk (show w6.heap[w.heap.size + 1]? = some (.cells #[.int .u64 0, .int .u64 0, .int .i64 0, .int .u8 0, .int .u8 0] 58 (0, 0)) from by rw [hw6, setRow_other w5.drew _ _ _ (by omega)]; exact ob.out)
  have HB_ : Aside0 (Below w.heap.size w w6) := ⟨by rw [hw6]; exact below_setRow (bG HB) (by omega) _⟩
  clear hw6 obc obf obl occ ocf ocl
  go_cut [] (fun wx => wx = w6)
  case first =>
    refine start_ (n := 5) (S := fun w' => True) (ds := []) #[false, false, false, false, false] (by kernel_rfl) rfl rfl trivial (fun hHeld => ?_)
    refine pure_ (i := 0) (N := some 36) (v := ?_) (a' := ?_) #[true, false, false, false, false] rfl rfl (by kernel_rfl) (fun _ _ _ h => h) (Or.inl ⟨by rfl, ?_⟩) ?_ ?_
    rotate_left
    · intro w'
      go_simp
      with_reducible rfl
    rotate_left
    · simp only [Act.put, List.setIfInBounds_toArray, List.set_cons_zero, List.set_cons_succ, i64_w, i32_w]
      rfl
    refine pure_ (i := 1) (N := some 37) (v := ?_) (a' := ?_) #[true, true, false, false, false] rfl rfl (by kernel_rfl) (fun _ _ _ h => h) (Or.inl ⟨by rfl, ?_⟩) ?_ ?_
    rotate_left
    · intro w'
      go_simp
      with_reducible rfl
    rotate_left
    · simp only [Act.put, List.setIfInBounds_toArray, List.set_cons_zero, List.set_cons_succ, i64_w, i32_w]
      rfl
    refine pure_ (i := 2) (N := some 38) (v := ?_) (a' := ?_) #[true, true, true, false, false] rfl rfl (by kernel_rfl) (fun _ _ _ h => h) (Or.inl ⟨by rfl, ?_⟩) ?_ ?_
    rotate_left
    · intro w'
      go_simp
      with_reducible rfl
    rotate_left
    · simp only [Act.put, List.setIfInBounds_toArray, List.set_cons_zero, List.set_cons_succ, i64_w, i32_w]
      rfl
    refine pure_ (i := 3) (N := some 39) (v := ?_) (a' := ?_) #[true, true, true, true, false] rfl rfl (by kernel_rfl) (fun _ _ _ h => h) (Or.inl ⟨by rfl, ?_⟩) ?_ ?_
    rotate_left
    · intro w'
      go_simp
      with_reducible rfl
    rotate_left
    · simp only [Act.put, List.setIfInBounds_toArray, List.set_cons_zero, List.set_cons_succ, i64_w, i32_w]
      rfl
    refine one_ (i := 4) (N := some 40) #[true, true, true, true, true] rfl rfl (by kernel_rfl) (by decide) (fun K hK => ?_)
    refine val_ (v := .int .i64 2) (w1 := w6) (by rfl) rfl ?_ ?_
    · go_simp
    refine hK.out _ _ trivial (fun hHeld => ?_)
    clear hK K
    refine norm_ (a' := ?_) ?_ ?_
    rotate_left
    · simp only [Act.put, List.setIfInBounds_toArray, List.set_cons_zero, List.set_cons_succ, i64_w, i32_w]
      rfl
    refine done_ (by kernel_rfl) ?_
    go_wp2_with fail
    go_meet
    rfl
  case rest =>
  subst hcut
  obtain ⟨ozc, ozf, ozl⟩ := cells_of oz.out
  obtain ⟨odc, odf, odl⟩ := cells_of od.out
  clear HB; have HB := HB_; clear HB_
  go_wp2
  refine bodyPost_ret (v := .tuple #[.agg #[.int .u64 at_, .int .u64 (bufD d), .int .i64 (sizeD d), .int .u8 (flagD d), .int .u8 (restD d)], .bool true]) (by simp [results, Try.results32, go_sem, ozc, ozf] <;> first | assumption | omega | (symm; assumption)) rfl ?_
  exact ⟨rfl, (bG HB)⟩
end Go.Proofs.Ytdblpflepfcnjaa.Q
