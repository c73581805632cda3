import Derived.Test.YtdblpflepfcnjaaPZ1
import Derived.Laws.Slices
import Derived.Deep.Slices
import Derived.Lib.MakeNoZero
import Derived.Laws.BitsAllLaws
import Derived.Laws.BitsLemmas
import Derived.Test.YtdblpflepfcnjaaPXWWords
import Derived.Test.YtdblpflepfcnjaaPXWLast
import Derived.Test.YtdblpflepfcnjaaPXWMore
import Derived.ProofKit
import Derived.ChangeSame
section
/- nic.fetch. -/
namespace Go.Proofs.Ytdblpflepfcnjaa.Q
open Go.RowKit Go.Proofs.YtdblpflepfcnjaaW.PrintWords Go.Proofs.YtdblpflepfcnjaaW.PrintLast Go.Proofs.YtdblpflepfcnjaaW.PrintMore Go.Proofs.Ytdblpflepfcnjaa.L
attribute [local go_sem] Instr.field part asAgg lt_step max2_int min2_int max_two min_two max_three min_three max_four min_four lt_0_1 lt_0_2 lt_1_2 lt_0_3 lt_1_3 lt_2_3 lt_0_4 lt_1_4 lt_2_4 lt_3_4 lt_0_5 lt_1_5 lt_2_5 lt_3_5 lt_4_5 lt_0_6 lt_1_6 lt_2_6 lt_3_6 lt_4_6 lt_5_6 lt_0_7 lt_1_7 lt_2_7 lt_3_7 lt_4_7 lt_5_7 lt_6_7 lt_0_8 lt_1_8 lt_2_8 lt_3_8 lt_4_8 lt_5_8 lt_6_8 lt_7_8
set_option linter.unusedVariables false
set_option linter.unusedSimpArgs false
def bufD (d : List Int) : Int := getB (d.take 8) false
def sizeD (d : List Int) : Int := getB ((d.drop 8).take 2) false
def flagD (d : List Int) : Int := d.getD 10 0
def restD (d : List Int) : Int := d.getD 11 0
theorem cut_len (l : List Int) (a k : Int) (hp : (placeZ l.length a k).2 = true) : (cutL l a k).length = k.toNat := by
  rcases placeZ_cases l.length a k with ⟨h1, h2, h3, e⟩ | ⟨_, e⟩
  · unfold cutL
    rw [List.length_drop, List.length_take]
    omega
  · rw [e] at hp; cases hp
theorem bytes_c (A : Option Addr) (cap : Nat) (l : List Int) (a k : Int) (n : Nat) (w : World) (hn : n = k.toNat) (hn0 : 0 < n) (hr : Kd.C (Kd.int .u8) w A l.length l) (hc : l.length ≤ cap) (ha : u64B a) (hk : i64B k) (hl : (l.length : Int) ≤ 70000) (hp : (placeZ l.length a k).2 = true) :
    Calls Try.prog 35 #[.agg #[.slice A l.length cap], .int .u64 a, .int .i64 k] w fun e w' => ∃ b o c, e = .returned (.tuple #[.slice (some ⟨b, o, none⟩) n c, .bool true]) ∧ n ≤ c ∧ Kd.F (Kd.int .u8) w' (fun j => w.heap.size ≤ j) (some ⟨b, o, none⟩) n (cutL l a k) ∧ w.heap.size ≤ b ∧ Below w.heap.size w w' := by
  have hb := bytes_is l a k ha hk hl 1
  have hlen := cut_len l a k hp
  rw [← hn] at hlen
  unfold bytesZ at hb
  rw [if_pos hp] at hb
  refine (ram_Bytes.calls 4 A cap l a k (cutL l a k) true w hr hc hb).mono ?_
  rintro e w' ⟨v, he, hR, hB⟩
  obtain ⟨A2, c2, ev, hc2, hF⟩ := R_Fl hR
  rw [hlen] at ev hc2 hF
  obtain ⟨b, o, eA, hcell⟩ := F_cell' hF hn0
  have hbk := R_block (A := A2) (n := n) (c := c2) (by rw [← ev]; exact hR) ⟨b, o, none⟩ eA hn0
  subst eA
  exact ⟨b, o, c2, by rw [he, ev], hc2, hF, hbk, hB⟩
theorem bytes_no (A : Option Addr) (cap : Nat) (l : List Int) (a k : Int) (w : World) (hr : Kd.C (Kd.int .u8) w A l.length l) (hc : l.length ≤ cap) (ha : u64B a) (hk : i64B k) (hl : (l.length : Int) ≤ 70000) (hp : (placeZ l.length a k).2 = false) :
    Calls Try.prog 35 #[.agg #[.slice A l.length cap], .int .u64 a, .int .i64 k] w fun e w' => ∃ v, e = .returned (.tuple #[v, .bool false]) ∧ Kd.R (Kd.int .u8) 5 w' w.heap.size (fun _ => True) v [] ∧ Below w.heap.size w w' := by
  have hb := bytes_is l a k ha hk hl 1
  unfold bytesZ at hb
  rw [hp, if_neg (by decide)] at hb
  exact ram_Bytes.calls 4 A cap l a k [] false w hr hc hb
theorem get_c (n : Nat) (A : Option Addr) (c : Nat) (l : List Int) (w : World) (hn : l.length = n) (hr : Kd.C (Kd.int .u8) w A n l) (hc : n ≤ c) (hb : ∀ x ∈ l, byte x) :
    Calls Try.prog 54 #[.slice A n c, .bool false] w fun e w' => e = .returned (.int .u64 (getB l false)) ∧ Below w.heap.size w w' := by
  subst hn
  exact bits_Get.calls A c l false _ w hr hc (by unfold bits_Get.f; exact if_pos (fun x hx => hb x (List.mem_of_mem_take hx)))
theorem getB_small (l : List Int) (hb : ∀ x ∈ l, byte x) (n : Nat) (hn : l.length = n) (h8 : n ≤ 8) : 0 ≤ getB l false ∧ getB l false < 256 ^ n := by
  unfold getB
  simp only [Bool.false_eq_true, if_false]
  rw [List.take_of_length_le (by omega)]
  have := getLE_range l hb
  rw [hn] at this
  exact this
theorem cut_byte (l : List Int) (a k : Int) (hb : ∀ z ∈ l, byte z) : ∀ z ∈ cutL l a k, byte z := fun z hz => hb z (List.mem_of_mem_take (List.mem_of_mem_drop hz))
theorem get_buf (A : Option Addr) (c : Nat) (d : List Int) (w : World) (hn : d.length = Int.toNat 16) (hb : ∀ x ∈ d, byte x) (hr : Kd.C (Kd.int .u8) w A 8 (d.take 8)) (hc : 8 ≤ c) :
    Calls Try.prog 54 #[.slice A 8 c, .bool false] w fun e w' => e = .returned (.int .u64 (bufD d)) ∧ Below w.heap.size w w' :=
  get_c 8 A c (d.take 8) w (by simp [hn]) hr hc (fun z hz => hb z (List.mem_of_mem_take hz))
theorem get_size (A : Option Addr) (c : Nat) (d : List Int) (w : World) (hn : d.length = Int.toNat 16) (hb : ∀ x ∈ d, byte x) (hr : Kd.C (Kd.int .u8) w A 2 ((d.drop 8).take 2)) (hc : 2 ≤ c) :
    Calls Try.prog 54 #[.slice A 2 c, .bool false] w fun e w' => e = .returned (.int .u64 (sizeD d)) ∧ Below w.heap.size w w' :=
  get_c 2 A c ((d.drop 8).take 2) w (by simp [hn]) hr hc (fun z hz => hb z (List.mem_of_mem_drop (List.mem_of_mem_take hz)))
theorem C_sub {k : IntKind} {W : World} {b o n : Nat} {xs : List Int} (h : Kd.C (Kd.int k) W (some ⟨b, o, none⟩) n xs) (i m : Nat) (him : i + m ≤ n) : Kd.C (Kd.int k) W (some ⟨b, o + i, none⟩) m ((xs.drop i).take m) := by
  obtain ⟨h1, h2, h3⟩ := Kd.reads_of_C (d := (0 : Int)) h
  have hl : xs.length = n := h.1
  refine Kd.C_of_reads (d := (0 : Int)) ⟨by rw [List.length_take, List.length_drop]; omega, by omega, fun hm => ⟨⟨b, o + i, none⟩, rfl, fun j hj => ?_⟩⟩
  obtain ⟨ad, e, hc⟩ := h3 (by omega)
  injection e with e; subst e
  have := hc (i + j) (by omega)
  rw [add_eq] at this ⊢
  rw [Nat.add_assoc, this, List.getD_eq_getElem?_getD, List.getD_eq_getElem?_getD, List.getElem?_take_of_lt hj, List.getElem?_drop]
theorem F_sub {k : IntKind} {W : World} {ok : Nat → Prop} {b o n : Nat} {xs : List Int} (h : Kd.F (Kd.int k) W ok (some ⟨b, o, none⟩) n xs) (i m : Nat) (him : i + m ≤ n) : Kd.F (Kd.int k) W ok (some ⟨b, o + i, none⟩) m ((xs.drop i).take m) :=
  fun W' hW => C_sub (h W' hW) i m him
theorem F_cells16 {W : World} {b o : Nat} {d : List Int} (h : Kd.C (Kd.int .u8) W (some ⟨b, o, none⟩) 16 d) : ∀ i, i < 16 → W.cell? ⟨b, o + i, none⟩ = some (.int .u8 (d.getD i 0)) := by
  intro i hi
  obtain ⟨_, _, h3⟩ := Kd.reads_of_C (d := (0 : Int)) h
  obtain ⟨ad, e, hc⟩ := h3 (by decide)
  injection e with e; subst e
  have := hc i hi
  rw [add_eq] at this
  exact this
theorem copy_flags (W : World) (g : Nat) (a b s : Int) (qb qo qc : Nat) (d : List Int) (hn : d.length = Int.toNat 16) (hg : W.heap[g]? = some (.cells #[.int .u64 a, .int .u64 b, .int .i64 s, .int .u8 0, .int .u8 0] 58 (0, 0))) (hd : ∀ i, i < 16 → W.cell? ⟨qb, qo + i, none⟩ = some (.int .u8 (d.getD i 0))) :
    (Builtin.copy_ #[23, 23] 3 #[.slice (some ⟨g, 3, none⟩) 2 2, .slice (some ⟨qb, qo + 10, none⟩) 2 qc]).run Try.prog W = .ok (goInt 2) (W.setRow g #[.int .u64 a, .int .u64 b, .int .i64 s, .int .u8 (flagD d), .int .u8 (restD d)]) :=
  run_copy_row (P := Try.prog) W 23 23 3 5 g 3 2 2 ⟨qb, qo + 10, none⟩ 2 qc #[.int .u64 a, .int .u64 b, .int .i64 s, .int .u8 0, .int .u8 0] 58 [.int .u8 (flagD d), .int .u8 (restD d)] Try.underlying23 infoS hg rfl
    (by intro j v hv
        match j, hv with
        | 0, hv => rw [add_eq]; exact (hd 10 (by decide)).trans hv
        | 1, hv => rw [add_eq]; exact (hd 11 (by decide)).trans hv
        | n + 2, hv => cases hv)
    (by simp) (by intro v hv; rcases List.mem_cons.1 hv with rfl | hv; rfl; rcases List.mem_cons.1 hv with rfl | hv; rfl; cases hv)
set_option maxHeartbeats 1600000 in
set_option maxRecDepth 100000 in
theorem fetch_no (A : Option Addr) (cap : Nat) (l : List Int) (base head at_ : Int) (w : World) (hat : IntKind.u64.wrap (base + IntKind.u64.wrap (16 * IntKind.u64.wrap head)) = at_) (hr : Kd.C (Kd.int .u8) w A l.length l) (hc : l.length ≤ cap) (ha : u64B at_) (hl : (l.length : Int) ≤ 70000) (hp : (placeZ l.length at_ 16).2 = false) :
    Calls Try.prog 32 #[.agg #[.slice A l.length cap], .int .u64 base, .int .i64 head] w fun e w' => e = .returned (.tuple #[.agg #[.int .u64 at_, .int .u64 0, .int .i64 0, .int .u8 0, .int .u8 0], .bool false]) ∧ Below w.heap.size w w' := by
  have HB := Aside0.mk (Below.refl w.heap.size w)
  have HR := Aside0.mk hr
  have HC := Aside0.mk hc
  have HA := Aside0.mk ha
  have HL := Aside0.mk hl
  have HP := Aside0.mk hp
  have hu := Try.underlying58
  clear hr hc ha hl hp
  go_enter Try.func32, Try.ntmps32
  go_wp2_with fail
  (go_at_call 35; (with_reducible refine (bytes_no A cap l at_ 16 _ (by repeat (first | exact HR.out | apply Kd.C_alloc)) HC.out HA.out (by unfold i64B; omega) HL.out HP.out).mono ?_); rintro e_ w1 ⟨v_q, rfl, hr_q, hb_⟩; have HB_ : Aside0 (Below w.heap.size w w1) := Aside0.mk (below_step (bG HB) hb_); have hzw1 := hb_.size; (try simp at hzw1); have oa_ := Aside0.mk (box_below hb_ (by repeat (with_reducible first | exact nb_1 w _ | apply ext_drew | apply ext_drewN | apply ext_alloc | refine blk_far ?_ (by show _ ≠ _; dsimp only; omega) _))); have ob_ := Aside0.mk (box_below hb_ (by repeat (with_reducible first | exact nb_2 w _ _ | apply ext_drew | apply ext_drewN | apply ext_alloc | refine blk_far ?_ (by show _ ≠ _; dsimp only; omega) _))); have oc_ := Aside0.mk (box_below hb_ (by repeat (with_reducible first | exact nb_3 w _ _ _ | apply ext_drew | apply ext_drewN | apply ext_alloc | refine blk_far ?_ (by show _ ≠ _; dsimp only; omega) _))); (try clear oa oac oaf oal); have oa := oa_; clear oa_; obtain ⟨oac, oaf, oal⟩ := cells_of oa.out; (try clear ob obc obf obl); have ob := ob_; clear ob_; obtain ⟨obc, obf, obl⟩ := cells_of ob.out; (try clear oc occ ocf ocl); have oc := oc_; clear oc_; obtain ⟨occ, ocf, ocl⟩ := cells_of oc.out; clear HB hb_; have HB := HB_; clear HB_; obtain ⟨A_q, c_q, ev_, hc_q, hf_q⟩ := R_Fl hr_q; subst ev_; have qc := Aside0.mk hc_q; have q := Aside0.mk (Kd.F_bound hf_q); clear hc_q hf_q hr_q; skip)
  go_wp2
  refine bodyPost_ret (v := .tuple #[.agg #[.int .u64 at_, .int .u64 0, .int .i64 0, .int .u8 0, .int .u8 0], .bool false]) (by simp [results, Try.results32, go_sem, obc, obf] <;> first | assumption | omega | (symm; assumption)) rfl ?_
  exact ⟨rfl, (bG HB)⟩
set_option maxHeartbeats 1600000 in
set_option maxRecDepth 100000 in
theorem fetch_yes (A : Option Addr) (cap : Nat) (l : List Int) (base head at_ : Int) (w : World) (hat : IntKind.u64.wrap (base + IntKind.u64.wrap (16 * IntKind.u64.wrap head)) = at_) (hr : Kd.C (Kd.int .u8) w A l.length l) (hc : l.length ≤ cap) (ha : u64B at_) (hl : (l.length : Int) ≤ 70000) (hby : ∀ z ∈ l, byte z) (hp : (placeZ l.length at_ 16).2 = true) :
    Calls Try.prog 32 #[.agg #[.slice A l.length cap], .int .u64 base, .int .i64 head] w fun e w' => e = .returned (.tuple #[.agg #[.int .u64 at_, .int .u64 (bufD (cutL l at_ 16)), .int .i64 (sizeD (cutL l at_ 16)), .int .u8 (flagD (cutL l at_ 16)), .int .u8 (restD (cutL l at_ 16))], .bool true]) ∧ Below w.heap.size w w' := by
  have HB := Aside0.mk (Below.refl w.heap.size w)
  have HR := Aside0.mk hr
  have HC := Aside0.mk hc
  have HA := Aside0.mk ha
  have HL := Aside0.mk hl
  have HP := Aside0.mk hp
  have hu := Try.underlying58
  have hu6 := Try.underlying56
  have hdl := cut_len l at_ 16 hp
  have hdb := cut_byte l at_ 16 hby
  obtain ⟨d, hd⟩ : ∃ d, cutL l at_ 16 = d := ⟨_, rfl⟩
  rw [hd] at hdl hdb ⊢
  have HD := Aside0.mk hd
  have HDL := Aside0.mk hdl
  have HDB := Aside0.mk hdb
  clear hr hc ha hl hp hd hby hdl hdb
  go_enter Try.func32, Try.ntmps32
  go_wp2_with fail
  (go_at_call 35; (with_reducible refine (bytes_c A cap l at_ 16 16 _ rfl (by decide) (by repeat (first | exact HR.out | apply Kd.C_alloc)) HC.out HA.out (by unfold i64B; omega) HL.out HP.out).mono ?_); rintro e_ w1 ⟨qb, qo, qc, rfl, hq1, hq2, hq3_, hb_⟩; have HB_ : Aside0 (Below w.heap.size w w1) := Aside0.mk (below_step (bG HB) hb_); have hzw1 := hb_.size; (try simp at hzw1); have oa_ := Aside0.mk (box_below hb_ (by repeat (with_reducible first | exact nb_1 w _ | apply ext_drew | apply ext_drewN | apply ext_alloc | refine blk_far ?_ (by show _ ≠ _; dsimp only; omega) _))); have ob_ := Aside0.mk (box_below hb_ (by repeat (with_reducible first | exact nb_2 w _ _ | apply ext_drew | apply ext_drewN | apply ext_alloc | refine blk_far ?_ (by show _ ≠ _; dsimp only; omega) _))); have oc_ := Aside0.mk (box_below hb_ (by repeat (with_reducible first | exact nb_3 w _ _ _ | apply ext_drew | apply ext_drewN | apply ext_alloc | refine blk_far ?_ (by show _ ≠ _; dsimp only; omega) _))); (try clear oa oac oaf oal); have oa := oa_; clear oa_; obtain ⟨oac, oaf, oal⟩ := cells_of oa.out; (try clear ob obc obf obl); have ob := ob_; clear ob_; obtain ⟨obc, obf, obl⟩ := cells_of ob.out; (try clear oc occ ocf ocl); have oc := oc_; clear oc_; obtain ⟨occ, ocf, ocl⟩ := cells_of oc.out; clear HB hb_; have HB := HB_; clear HB_; have hq1_ := Aside0.mk hq1; clear hq1; have hq1 := hq1_; clear hq1_; have hq2_ := Aside0.mk hq2; clear hq2; have hq2 := hq2_; clear hq2_; have hq3__ := Aside0.mk hq3_; clear hq3_; have hq3_ := hq3__; clear hq3__; skip)
  rw [HD.out] at hq2
  go_upto_region 5 with fail
  have hz1 := obl
  obtain ⟨i096, hi096, _, hsz96, _⟩ := info_parts infoB
  have hc8 := hq1.out
  have hcut1 := cut_to (P := Try.prog) 23 5 .i64 Try.underlying23 hi096 (some ⟨qb, qo, none⟩) 16 qc 8 (by decide) (by decide) hq1.out
  have hcut2 := cut_mid (P := Try.prog) 23 5 .i64 .i64 Try.underlying23 hi096 1 hsz96 (some ⟨qb, qo, none⟩) 16 qc 8 10 (by decide) (by decide) (by decide) hq1.out
  have hcut3 := cut_mid (P := Try.prog) 23 5 .i64 .i64 Try.underlying23 hi096 1 hsz96 (some ⟨qb, qo, none⟩) 16 qc 10 12 (by decide) (by decide) (by decide) hq1.out
  rw [if_neg (by omega)] at hcut2 hcut3
  simp only [Option.map_some, add_eq] at hcut2 hcut3
  have hq3 := Aside0.mk (F_sub hq2.out 0 8 (by decide))
  rw [Nat.add_zero, List.drop_zero] at hq3
  have hq4 := Aside0.mk (F_sub hq2.out 8 2 (by decide))
  have hsz := getB_small ((d.drop 8).take 2) (fun z hz => HDB.out z (List.mem_of_mem_drop (List.mem_of_mem_take hz))) 2 (by simp [HDL.out]) (by decide)
  have hs0 : 0 ≤ sizeD d := hsz.1
  have hs1 : sizeD d < 65536 := hsz.2
  clear hsz
  have hwz : wrap64 (sizeD d) = sizeD d := w64 (by omega) (by omega)
  have hbg : w.heap.size + 1 + 1 < qb := Nat.lt_of_lt_of_le (by simp) hq3_.out
  go_cut [] (fun wx => Aside0 (wx.heap[w.heap.size + 1]? = some (.cells #[.int .u64 0, .int .u64 0, .int .i64 0, .int .u8 0, .int .u8 0] 58 (0, 0))) ∧ Aside0 (wx.heap[w.heap.size + 1 + 1]? = some (.cells #[.int .u64 at_, .int .u64 (bufD d), .int .i64 (sizeD d), .int .u8 0, .int .u8 0] 58 (0, 0))) ∧ Aside0 (Kd.F (Kd.int .u8) wx (fun j => w.heap.size + 1 + 1 < j) (some ⟨qb, qo, none⟩) 16 d) ∧ Aside0 (Below w.heap.size w wx))
  case first =>
    refine start_ (n := 11) (S := fun w' => True) (ds := []) #[false, false, false, false, false, false, false, false, false, false, false] (by kernel_rfl) rfl rfl trivial (fun hHeld => ?_)
    refine pure_ (i := 0) (N := some 27) (v := ?_) (a' := ?_) #[true, false, false, false, false, false, false, false, false, false, false] rfl rfl (by kernel_rfl) (fun _ _ _ h => h) (Or.inl ⟨by rfl, ?_⟩) ?_ ?_
    rotate_left
    · intro w'
      go_simp
      with_reducible rfl
    rotate_left
    · simp only [Act.put, List.setIfInBounds_toArray, List.set_cons_zero, List.set_cons_succ, i64_w, i32_w]
      rfl
    refine pure_ (i := 1) (N := some 28) (v := ?_) (a' := ?_) #[true, true, false, false, false, false, false, false, false, false, false] rfl rfl (by kernel_rfl) (fun _ _ _ h => h) (Or.inl ⟨by rfl, ?_⟩) ?_ ?_
    rotate_left
    · intro w'
      go_simp
      with_reducible rfl
    rotate_left
    · simp only [Act.put, List.setIfInBounds_toArray, List.set_cons_zero, List.set_cons_succ, i64_w, i32_w]
      rfl
    refine pure_ (i := 3) (N := some 30) (v := ?_) (a' := ?_) #[true, true, false, true, false, false, false, false, false, false, false] rfl rfl (by kernel_rfl) (fun _ _ _ h => h) (Or.inl ⟨by rfl, ?_⟩) ?_ ?_
    rotate_left
    · intro w'
      go_simp
      with_reducible rfl
    rotate_left
    · simp only [Act.put, List.setIfInBounds_toArray, List.set_cons_zero, List.set_cons_succ, i64_w, i32_w]
      rfl
    refine pure_ (i := 4) (N := some 31) (v := ?_) (a' := ?_) #[true, true, false, true, true, false, false, false, false, false, false] rfl rfl (by kernel_rfl) (fun _ _ _ h => h) (Or.inl ⟨by rfl, ?_⟩) ?_ ?_
    rotate_left
    · intro w'
      go_simp
      with_reducible rfl
    rotate_left
    · simp only [Act.put, List.setIfInBounds_toArray, List.set_cons_zero, List.set_cons_succ, i64_w, i32_w]
      rfl
    refine one_ (i := 2) (N := some 29) #[true, true, true, true, true, false, false, false, false, false, false] rfl rfl (by kernel_rfl) (by decide) (fun K hK => ?_)
    (refine goes_ Try.func54 (by kernel_rfl) rfl #[.slice (some ⟨qb, qo, none⟩) 8 qc, .bool false] (by rfl) rfl rfl (by (try simp only [List.map_toArray, List.map_cons, List.map_nil]); first | done | rfl) ?_; (with_reducible refine (get_buf _ _ d _ HDL.out HDB.out (Kd.F_now (fG hq3)) (by omega)).mono ?_); rintro e_ w2 ⟨rfl, hb_⟩; refine ⟨_, rfl, ?_⟩; have HB_ : Aside0 (Below w.heap.size w w2) := Aside0.mk (below_step (bG HB) hb_); have hzw2 := hb_.size; (try simp at hzw2); have oa_ := Aside0.mk (box_below hb_ (eG oa)); have ob_ := Aside0.mk (box_below hb_ (eG ob)); have oc_ := Aside0.mk (box_below hb_ (eG oc)); have hq2_ := Aside0.mk (Kd.F_below (fG hq2) hb_); clear hq2; have hq2 := hq2_; clear hq2_; have hq3_ := Aside0.mk (Kd.F_below (fG hq3) hb_); clear hq3; have hq3 := hq3_; clear hq3_; have hq4_ := Aside0.mk (Kd.F_below (fG hq4) hb_); clear hq4; have hq4 := hq4_; clear hq4_; (try clear oa oac oaf oal); have oa := oa_; clear oa_; obtain ⟨oac, oaf, oal⟩ := cells_of oa.out; (try clear ob obc obf obl); have ob := ob_; clear ob_; obtain ⟨obc, obf, obl⟩ := cells_of ob.out; (try clear oc occ ocf ocl); have oc := oc_; clear oc_; obtain ⟨occ, ocf, ocl⟩ := cells_of oc.out; clear HB hb_; have HB := HB_; clear HB_)
    refine hK.out _ _ trivial (fun hHeld => ?_)
    clear hK K
    refine norm_ (a' := ?_) ?_ ?_
    rotate_left
    · simp only [Act.put, List.setIfInBounds_toArray, List.set_cons_zero, List.set_cons_succ, i64_w, i32_w]
      rfl
    refine one_ (i := 5) (N := some 32) #[true, true, true, true, true, true, false, false, false, false, false] rfl rfl (by kernel_rfl) (by decide) (fun K hK => ?_)
    (refine goes_ Try.func54 (by kernel_rfl) rfl #[.slice (some ⟨qb, qo + 8, none⟩) 2 (qc - 8), .bool false] (by rfl) rfl rfl (by (try simp only [List.map_toArray, List.map_cons, List.map_nil]); first | done | rfl) ?_; (with_reducible refine (get_size _ _ d _ HDL.out HDB.out (Kd.F_now (fG hq4)) (by omega)).mono ?_); rintro e_ w3 ⟨rfl, hb_⟩; refine ⟨_, rfl, ?_⟩; have HB_ : Aside0 (Below w.heap.size w w3) := Aside0.mk (below_step (bG HB) hb_); have hzw3 := hb_.size; (try simp at hzw3); have oa_ := Aside0.mk (box_below hb_ (eG oa)); have ob_ := Aside0.mk (box_below hb_ (eG ob)); have oc_ := Aside0.mk (box_below hb_ (eG oc)); have hq2_ := Aside0.mk (Kd.F_below (fG hq2) hb_); clear hq2; have hq2 := hq2_; clear hq2_; have hq3_ := Aside0.mk (Kd.F_below (fG hq3) hb_); clear hq3; have hq3 := hq3_; clear hq3_; have hq4_ := Aside0.mk (Kd.F_below (fG hq4) hb_); clear hq4; have hq4 := hq4_; clear hq4_; (try clear oa oac oaf oal); have oa := oa_; clear oa_; obtain ⟨oac, oaf, oal⟩ := cells_of oa.out; (try clear ob obc obf obl); have ob := ob_; clear ob_; obtain ⟨obc, obf, obl⟩ := cells_of ob.out; (try clear oc occ ocf ocl); have oc := oc_; clear oc_; obtain ⟨occ, ocf, ocl⟩ := cells_of oc.out; clear HB hb_; have HB := HB_; clear HB_)
    refine hK.out _ _ trivial (fun hHeld => ?_)
    clear hK K
    refine norm_ (a' := ?_) ?_ ?_
    rotate_left
    · simp only [Act.put, List.setIfInBounds_toArray, List.set_cons_zero, List.set_cons_succ, i64_w, i32_w]
      rfl
    refine pure_ (i := 6) (N := some 33) (v := ?_) (a' := ?_) #[true, true, true, true, true, true, true, false, false, false, false] rfl rfl (by kernel_rfl) (fun _ _ _ h => h) (Or.inl ⟨by rfl, ?_⟩) ?_ ?_
    rotate_left
    · intro w'
      go_simp
      with_reducible rfl
    rotate_left
    · simp only [Act.put, List.setIfInBounds_toArray, List.set_cons_zero, List.set_cons_succ, i64_w, i32_w]
      rfl
    refine pure_ (i := 7) (N := some 34) (v := ?_) (a' := ?_) #[true, true, true, true, true, true, true, true, false, false, false] rfl rfl (by kernel_rfl) (fun _ _ _ h => h) (Or.inl ⟨by rfl, ?_⟩) ?_ ?_
    rotate_left
    · intro w'
      go_simp
      with_reducible rfl
    rotate_left
    · simp only [Act.put, List.setIfInBounds_toArray, List.set_cons_zero, List.set_cons_succ, i64_w, i32_w]
      rfl
    refine one_ (i := 8) (N := none) #[true, true, true, true, true, true, true, true, true, false, false] rfl rfl (by kernel_rfl) (by decide) (fun K hK => ?_)
    refine skip_ (w1 := ?_) (by rfl) rfl ?_ ?_
    rotate_left
    · go_simp
      rfl
    (have hq2_ := Aside0.mk (Kd.F_far (p := ⟨w.heap.size + 1 + 1, 1, none⟩) hq2.out (fun j_ hj_ => by (try dsimp only at hj_); (try dsimp only); (try simp only [sz_alloc, sz_drew, sz_drewN, sz_set] at hj_); omega) (.int .u64 (bufD d))); clear hq2; have hq2 := hq2_; clear hq2_; have oa_ := Aside0.mk (blk_far (p := ⟨w.heap.size + 1 + 1, 1, none⟩) oa.out (by show _ ≠ _; dsimp only; omega) (.int .u64 (bufD d))); clear oa oac oaf oal; have oa := oa_; clear oa_; obtain ⟨oac, oaf, oal⟩ := cells_of oa.out; have ob_ := Aside0.mk (blk_far (p := ⟨w.heap.size + 1 + 1, 1, none⟩) ob.out (by show _ ≠ _; dsimp only; omega) (.int .u64 (bufD d))); clear ob obc obf obl; have ob := ob_; clear ob_; obtain ⟨obc, obf, obl⟩ := cells_of ob.out; have oc_ := Aside0.mk (blk_put oc.out 1 (.int .u64 (bufD d)) (cs' := #[.int .u64 at_, .int .u64 (bufD d), .int .i64 0, .int .u8 0, .int .u8 0]) rfl); clear oc occ ocf ocl; have oc := oc_; clear oc_; obtain ⟨occ, ocf, ocl⟩ := cells_of oc.out)
    refine hK.out _ _ trivial (fun hHeld => ?_)
    clear hK K
    refine pure_ (i := 9) (N := some 35) (v := ?_) (a' := ?_) #[true, true, true, true, true, true, true, true, true, true, false] rfl rfl (by kernel_rfl) (fun _ _ _ h => h) (Or.inl ⟨by rfl, ?_⟩) ?_ ?_
    rotate_left
    · intro w'
      go_simp
      with_reducible rfl
    rotate_left
    · simp only [Act.put, List.setIfInBounds_toArray, List.set_cons_zero, List.set_cons_succ, i64_w, i32_w]
      rfl
    refine one_ (i := 10) (N := none) #[true, true, true, true, true, true, true, true, true, true, true] rfl rfl (by kernel_rfl) (by decide) (fun K hK => ?_)
    refine skip_ (w1 := ?_) (by rfl) rfl ?_ ?_
    rotate_left
    · go_simp
      rfl
    (have hq2_ := Aside0.mk (Kd.F_far (p := ⟨w.heap.size + 1 + 1, 2, none⟩) hq2.out (fun j_ hj_ => by (try dsimp only at hj_); (try dsimp only); (try simp only [sz_alloc, sz_drew, sz_drewN, sz_set] at hj_); omega) (.int .i64 (sizeD d))); clear hq2; have hq2 := hq2_; clear hq2_; have oa_ := Aside0.mk (blk_far (p := ⟨w.heap.size + 1 + 1, 2, none⟩) oa.out (by show _ ≠ _; dsimp only; omega) (.int .i64 (sizeD d))); clear oa oac oaf oal; have oa := oa_; clear oa_; obtain ⟨oac, oaf, oal⟩ := cells_of oa.out; have ob_ := Aside0.mk (blk_far (p := ⟨w.heap.size + 1 + 1, 2, none⟩) ob.out (by show _ ≠ _; dsimp only; omega) (.int .i64 (sizeD d))); clear ob obc obf obl; have ob := ob_; clear ob_; obtain ⟨obc, obf, obl⟩ := cells_of ob.out; have oc_ := Aside0.mk (blk_put oc.out 2 (.int .i64 (sizeD d)) (cs' := #[.int .u64 at_, .int .u64 (bufD d), .int .i64 (sizeD d), .int .u8 0, .int .u8 0]) rfl); clear oc occ ocf ocl; have oc := oc_; clear oc_; obtain ⟨occ, ocf, ocl⟩ := cells_of oc.out)
    refine hK.out _ _ trivial (fun hHeld => ?_)
    clear hK K
    refine done_ (by kernel_rfl) ?_
    go_wp2_with fail
    go_meet
    exact ⟨⟨ob.out⟩, ⟨oc.out⟩, ⟨Kd.F_mono hq2.out (fun j h => by simp at h; omega)⟩, ⟨(bG HB)⟩⟩
  case rest =>
  clear oa oac oaf oal ob obc obf obl oc occ ocf ocl HB hcut1 hcut2 hwz hq2 hq3 hq4
  obtain ⟨ob, oc, hq2, HB⟩ := hcut
  rename World => w5
  obtain ⟨obc, obf, obl⟩ := cells_of ob.out
  obtain ⟨occ, ocf, ocl⟩ := cells_of oc.out
  go_upto_region 6 with fail
  have hcp := copy_flags w5.drew (w.heap.size + 1 + 1) at_ (bufD d) (sizeD d) qb qo (qc - 10) d HDL.out oc.out (F_cells16 (Kd.F_now hq2.out))
  obtain ⟨w6, hw6⟩ : ∃ w6, w6 = w5.drew.setRow (w.heap.size + 1 + 1) #[.int .u64 at_, .int .u64 (bufD d), .int .i64 (sizeD d), .int .u8 (flagD d), .int .u8 (restD d)] := ⟨_, rfl⟩
  rw [← hw6] at hcp
  have od := Aside0.mk (show w6.heap[w.heap.size + 1 + 1]? = some (.cells #[.int .u64 at_, .int .u64 (bufD d), .int .i64 (sizeD d), .int .u8 (flagD d), .int .u8 (restD d)] 58 (0, 0)) from by rw [hw6]; exact setRow_heap w5.drew _ _ _ _ _ oc.out)
  have oz := Aside0.mk (show w6.heap[w.heap.size + 1]? = some (.cells #[.int .u64 0, .int .u64 0, .int .i64 0, .int .u8 0, .int .u8 0] 58 (0, 0)) from by rw [hw6, setRow_other w5.drew _ _ _ (by omega)]; exact ob.out)
  have HB_ : Aside0 (Below w.heap.size w w6) := ⟨by rw [hw6]; exact below_setRow (bG HB) (by omega) _⟩
  clear hw6 obc obf obl occ ocf ocl
  go_cut [] (fun wx => wx = w6)
  case first =>
    refine start_ (n := 5) (S := fun w' => True) (ds := []) #[false, false, false, false, false] (by kernel_rfl) rfl rfl trivial (fun hHeld => ?_)
    refine pure_ (i := 0) (N := some 36) (v := ?_) (a' := ?_) #[true, false, false, false, false] rfl rfl (by kernel_rfl) (fun _ _ _ h => h) (Or.inl ⟨by rfl, ?_⟩) ?_ ?_
    rotate_left
    · intro w'
      go_simp
      with_reducible rfl
    rotate_left
    · simp only [Act.put, List.setIfInBounds_toArray, List.set_cons_zero, List.set_cons_succ, i64_w, i32_w]
      rfl
    refine pure_ (i := 1) (N := some 37) (v := ?_) (a' := ?_) #[true, true, false, false, false] rfl rfl (by kernel_rfl) (fun _ _ _ h => h) (Or.inl ⟨by rfl, ?_⟩) ?_ ?_
    rotate_left
    · intro w'
      go_simp
      with_reducible rfl
    rotate_left
    · simp only [Act.put, List.setIfInBounds_toArray, List.set_cons_zero, List.set_cons_succ, i64_w, i32_w]
      rfl
    refine pure_ (i := 2) (N := some 38) (v := ?_) (a' := ?_) #[true, true, true, false, false] rfl rfl (by kernel_rfl) (fun _ _ _ h => h) (Or.inl ⟨by rfl, ?_⟩) ?_ ?_
    rotate_left
    · intro w'
      go_simp
      with_reducible rfl
    rotate_left
    · simp only [Act.put, List.setIfInBounds_toArray, List.set_cons_zero, List.set_cons_succ, i64_w, i32_w]
      rfl
    refine pure_ (i := 3) (N := some 39) (v := ?_) (a' := ?_) #[true, true, true, true, false] rfl rfl (by kernel_rfl) (fun _ _ _ h => h) (Or.inl ⟨by rfl, ?_⟩) ?_ ?_
    rotate_left
    · intro w'
      go_simp
      with_reducible rfl
    rotate_left
    · simp only [Act.put, List.setIfInBounds_toArray, List.set_cons_zero, List.set_cons_succ, i64_w, i32_w]
      rfl
    refine one_ (i := 4) (N := some 40) #[true, true, true, true, true] rfl rfl (by kernel_rfl) (by decide) (fun K hK => ?_)
    refine val_ (v := .int .i64 2) (w1 := w6) (by rfl) rfl ?_ ?_
    · go_simp
    refine hK.out _ _ trivial (fun hHeld => ?_)
    clear hK K
    refine norm_ (a' := ?_) ?_ ?_
    rotate_left
    · simp only [Act.put, List.setIfInBounds_toArray, List.set_cons_zero, List.set_cons_succ, i64_w, i32_w]
      rfl
    refine done_ (by kernel_rfl) ?_
    go_wp2_with fail
    go_meet
    rfl
  case rest =>
  subst hcut
  obtain ⟨ozc, ozf, ozl⟩ := cells_of oz.out
  obtain ⟨odc, odf, odl⟩ := cells_of od.out
  clear HB; have HB := HB_; clear HB_
  go_wp2
  refine bodyPost_ret (v := .tuple #[.agg #[.int .u64 at_, .int .u64 (bufD d), .int .i64 (sizeD d), .int .u8 (flagD d), .int .u8 (restD d)], .bool true]) (by simp [results, Try.results32, go_sem, ozc, ozf] <;> first | assumption | omega | (symm; assumption)) rfl ?_
  exact ⟨rfl, (bG HB)⟩
end Go.Proofs.Ytdblpflepfcnjaa.Q
end
section
/- Cuts of a row with a capacity of their own: xs[lo:hi:max]. -/
namespace Go.Proofs.Ytdblpflepfcnjaa.L
open Go.RowKit Go.Proofs.YtdblpflepfcnjaaW.PrintWords
theorem cut3_hm {P : Program} (t e : TypeId) {i : TypeInfo} (ht : P.underlying t = some (.slice e)) (hi : P.info? e = some i) (A : Option Addr) (n c h m : Nat) (h2 : h ≤ m) (h3 : m ≤ c) :
    ∀ W : World, (Instr.slice t (.slice A n c) none (some (.int .i64 h)) (some (.int .i64 m))).run P W = .ok (.slice A h m) W := by
  intro W
  have hel : P.elem t = e := by simp [Program.elem, ht]
  have hu : P.underlying t = some (.slice (P.elem t)) := by rw [hel]; exact ht
  have ha : (A.map fun x => x.add 0) = A := by cases A <;> simp [Addr.add]
  rw [run_slice_hm W t A n c hu .i64 .i64 h m (by omega) (by omega) (by omega), hel]
  simp [sizeOf, typeInfo, hi, sliced, Result.andThen, ha]
end Go.Proofs.Ytdblpflepfcnjaa.L
end
section
/- bytes.Repeat([]byte{0xff}, 6). -/
namespace Go.Proofs.Ytdblpflepfcnjaa.Q
open Go.RowKit Go.Proofs.YtdblpflepfcnjaaW.PrintWords Go.Proofs.YtdblpflepfcnjaaW.PrintLast Go.Proofs.YtdblpflepfcnjaaW.PrintMore Go.Proofs.Ytdblpflepfcnjaa.L
attribute [local go_sem] Instr.field part asAgg lt_step max2_int min2_int max_two min_two max_three min_three max_four min_four lt_0_1 lt_0_2 lt_1_2 lt_0_3 lt_1_3 lt_2_3 lt_0_4 lt_1_4 lt_2_4 lt_3_4 lt_0_5 lt_1_5 lt_2_5 lt_3_5 lt_4_5 lt_0_6 lt_1_6 lt_2_6 lt_3_6 lt_4_6 lt_5_6 lt_0_7 lt_1_7 lt_2_7 lt_3_7 lt_4_7 lt_5_7 lt_6_7 lt_0_8 lt_1_8 lt_2_8 lt_3_8 lt_4_8 lt_5_8 lt_6_8 lt_7_8
set_option linter.unusedVariables false
set_option linter.unusedSimpArgs false
set_option maxHeartbeats 1600000 in
set_option maxRecDepth 100000 in
theorem mul64_is (w : World) : Calls Try.prog 66 #[.int .u64 1, .int .u64 6] w fun e w' => e = .returned (.tuple #[.int .u64 0, .int .u64 6]) ∧ w = w' := by
  go_enter Try.func66, Try.ntmps66
  go_wp2
  go_ret2
  exact ⟨rfl, rfl⟩
set_option maxHeartbeats 1600000 in
set_option maxRecDepth 100000 in
theorem mul_is (w : World) : Calls Try.prog 61 #[.int .u64 1, .int .u64 6] w fun e w' => e = .returned (.tuple #[.int .u64 0, .int .u64 6]) ∧ w = w' := by
  go_enter Try.func61, Try.ntmps61
  go_wp2_with (go_at_call 66; (with_reducible refine (mul64_is _).mono ?_); rintro e_ w_ ⟨rfl, rfl⟩)
  go_ret2
  exact ⟨rfl, rfl⟩
def Pre (w : World) (g k : Nat) (W : World) : Prop := ∃ D : Array Value, W.heap[g]? = some (.cells D 5 (0, 0)) ∧ 6 ≤ D.size ∧ (∀ i, i < k → D[i]? = some (.int .u8 255)) ∧ Below w.heap.size w W
theorem Pre_drew {w : World} {g k : Nat} {W : World} (h : Pre w g k W) : Pre w g k W.drew := by
  obtain ⟨D, h1, h2, h3, h4⟩ := h
  exact ⟨D, h1, h2, h3, below_drew h4⟩
theorem Pre_cell {w : World} {g k : Nat} {W : World} (h : Pre w g k W) (j : Nat) (hj : j < k) : W.cell? (Addr.add ⟨g, 0, none⟩ j) = some (.int .u8 255) := by
  obtain ⟨D, h1, h2, h3, h4⟩ := h
  rw [add_eq, (cells_of h1).1, Nat.zero_add]
  exact h3 j hj
theorem cp (w W : World) (g k n m sc : Nat) (ad : Addr) (hp : Pre w g k W) (hgw : w.heap.size ≤ g) (hS : ∀ j, j < n → W.cell? (ad.add j) = some (.int .u8 255)) (hn : n = Nat.min m (6 - k)) (hk : k ≤ 6) :
    ∃ W', (Builtin.copy_ #[23, 23] 3 #[.slice (some ⟨g, k, none⟩) (6 - k) (6 - k), .slice (some ad) m sc]).run Try.prog W = .ok (.int .i64 n) W' ∧ Pre w g (k + n) W' := by
  obtain ⟨D, h1, h2, h3, h4⟩ := hp
  have hle : n ≤ 6 - k := by rw [hn]; exact Nat.min_le_right _ _
  have hr := run_copy_row (P := Try.prog) W 23 23 3 5 g k (6 - k) (6 - k) ad m sc D 5 (List.replicate n (.int .u8 255)) Try.underlying23 infoS h1 (by rw [List.length_replicate]; exact hn)
    (by intro j v hv
        have hj := (List.getElem?_eq_some_iff.1 hv).1
        rw [List.length_replicate] at hj
        rw [List.getElem?_replicate, if_pos hj] at hv
        rw [← hv]; exact hS j hj)
    (by rw [List.length_replicate]; omega) (by intro v hv; rw [List.eq_of_mem_replicate hv]; rfl)
  rw [List.length_replicate] at hr
  refine ⟨_, hr, _, setRow_heap W g _ _ _ _ h1, ?_, ?_, below_setRow h4 hgw _⟩
  · simp; omega
  · intro i hi
    have t1 : (D.toList.take k).length = k := by rw [List.length_take, Array.length_toList]; omega
    rw [List.getElem?_toArray]
    by_cases h : i < k
    · rw [List.append_assoc, List.getElem?_append_left (by omega), List.getElem?_take_of_lt h, Array.getElem?_toList]
      exact h3 i h
    · rw [List.append_assoc, List.getElem?_append_right (by omega), List.getElem?_append_left (by rw [List.length_replicate]; omega), t1, List.getElem?_replicate, if_pos (by omega)]
theorem Pre_F {w : World} {g : Nat} {W : World} (h : Pre w g 6 W) (hgw : w.heap.size ≤ g) : Kd.F (Kd.int .u8) W (fun j => w.heap.size ≤ j) (some ⟨g, 0, none⟩) 6 (List.replicate 6 255) := by
  refine F_of_C ?_ (fun ad e _ => by injection e with e; rw [← e]; exact hgw)
  refine Kd.C_of_reads (d := (0 : Int)) ⟨rfl, by decide, fun _ => ⟨_, rfl, fun j hj => ?_⟩⟩
  rw [Pre_cell h j hj]
  match j, hj with
  | 0, _ => rfl
  | 1, _ => rfl
  | 2, _ => rfl
  | 3, _ => rfl
  | 4, _ => rfl
  | 5, _ => rfl
  | n + 6, hj => omega
set_option maxHeartbeats 1600000 in
set_option maxRecDepth 100000 in
theorem repeat_is (b : Nat) (w : World) (hb : w.heap[b]? = some (.cells #[.int .u8 255] 5 (0, 0))) :
    Calls Try.prog 57 #[.slice (some ⟨b, 0, none⟩) 1 1, .int .i64 6] w fun e w' => ∃ g c, e = .returned (.slice (some ⟨g, 0, none⟩) 6 c) ∧ 6 ≤ c ∧ Kd.F (Kd.int .u8) w' (fun j => w.heap.size ≤ j) (some ⟨g, 0, none⟩) 6 (List.replicate 6 255) ∧ Below w.heap.size w w' := by
  obtain ⟨i096, hi096, _, hsz96, _⟩ := info_parts infoB
  obtain ⟨cs, hrunM, hle, _⟩ := Lib.run_makeNoZero (P := Try.prog) w #[3] 23 5 Try.underlying23 6 (by omega)
  have hcall : (callFunc 62 #[.int .i64 6]).run Try.prog w = .ok (.value (.slice (some ⟨w.heap.size, 0, none⟩) 6 cs.size)) ((w.alloc (.cells cs 5)).drewN 2) := by
    rw [run_callFunc_extern Try.func62 (by kernel_rfl) (by kernel_rfl) (by kernel_rfl) (e := Extern.BytealgMakeNoZero.makeNoZero #[3] #[23]) (by kernel_rfl), show (Value.int .i64 6) = .int .i64 ((6 : Nat) : Int) from rfl, hrunM]
    rfl
  obtain ⟨w1, hw1⟩ : ∃ w1, (w.alloc (.cells cs 5)).drewN 2 = w1 := ⟨_, rfl⟩
  rw [hw1] at hcall
  have P0 : Pre w w.heap.size 0 w1 := by
    subst hw1
    exact ⟨cs, ext_drewN (nb_1 w _) 2, hle, fun i hi => absurd hi (by omega), pw_below_drewN (below_alloc (Below.refl _ _) _) 2⟩
  have hlb : b < w.heap.size := (Array.getElem?_eq_some_iff.1 hb).1
  have hb1 : w1.cell? (Addr.add ⟨b, 0, none⟩ 0) = some (.int .u8 255) := by
    rw [add_eq]
    obtain ⟨D, h1, h2, h3, h4⟩ := P0
    rw [(cells_of (box_below h4 hb)).1]
    rfl
  clear hw1 hrunM hb
  have hcut := cut3_hm (P := Try.prog) 23 5 Try.underlying23 hi096 (some ⟨w.heap.size, 0, none⟩) 6 cs.size 6 6 (Nat.le_refl _) hle
  have hf1 := cut_from (P := Try.prog) 23 5 .i64 Try.underlying23 hi096 1 hsz96 (some ⟨w.heap.size, 0, none⟩) 6 6 1 (by decide) (by decide)
  have hf2 := cut_from (P := Try.prog) 23 5 .i64 Try.underlying23 hi096 1 hsz96 (some ⟨w.heap.size, 0, none⟩) 6 6 2 (by decide) (by decide)
  have hf4 := cut_from (P := Try.prog) 23 5 .i64 Try.underlying23 hi096 1 hsz96 (some ⟨w.heap.size, 0, none⟩) 6 6 4 (by decide) (by decide)
  rw [if_neg (by decide)] at hf1 hf2 hf4
  simp only [Option.map_some, add_eq, Nat.zero_add, Nat.mul_one] at hf1 hf2 hf4
  have ht1 := cut_to (P := Try.prog) 23 5 .i64 Try.underlying23 hi096 (some ⟨w.heap.size, 0, none⟩) 6 6 1 (by decide) (by decide) (by decide)
  have ht2 := cut_to (P := Try.prog) 23 5 .i64 Try.underlying23 hi096 (some ⟨w.heap.size, 0, none⟩) 6 6 2 (by decide) (by decide) (by decide)
  have ht4 := cut_to (P := Try.prog) 23 5 .i64 Try.underlying23 hi096 (some ⟨w.heap.size, 0, none⟩) 6 6 4 (by decide) (by decide) (by decide)
  obtain ⟨w2, hc1, P1⟩ : ∃ w2, (Builtin.copy_ #[23, 23] 3 #[.slice (some ⟨w.heap.size, 0, none⟩) 6 6, .slice (some ⟨b, 0, none⟩) 1 1]).run Try.prog w1 = .ok (.int .i64 1) w2 ∧ Pre w w.heap.size 1 w2 := cp w w1 w.heap.size 0 1 1 1 ⟨b, 0, none⟩ P0 (Nat.le_refl _) (fun j hj => by obtain rfl : j = 0 := (by omega); exact hb1) rfl (by decide)
  obtain ⟨w3, hc2, P2⟩ : ∃ w3, (Builtin.copy_ #[23, 23] 3 #[.slice (some ⟨w.heap.size, 1, none⟩) 5 5, .slice (some ⟨w.heap.size, 0, none⟩) 1 6]).run Try.prog w2.drew = .ok (.int .i64 1) w3 ∧ Pre w w.heap.size 2 w3 := cp w w2.drew w.heap.size 1 1 1 6 ⟨w.heap.size, 0, none⟩ (Pre_drew P1) (Nat.le_refl _) (fun j hj => Pre_cell (Pre_drew P1) j hj) rfl (by decide)
  obtain ⟨w4, hc3, P4⟩ : ∃ w4, (Builtin.copy_ #[23, 23] 3 #[.slice (some ⟨w.heap.size, 2, none⟩) 4 4, .slice (some ⟨w.heap.size, 0, none⟩) 2 6]).run Try.prog w3.drew = .ok (.int .i64 2) w4 ∧ Pre w w.heap.size 4 w4 := cp w w3.drew w.heap.size 2 2 2 6 ⟨w.heap.size, 0, none⟩ (Pre_drew P2) (Nat.le_refl _) (fun j hj => Pre_cell (Pre_drew P2) j hj) rfl (by decide)
  obtain ⟨w5, hc4, P6⟩ : ∃ w5, (Builtin.copy_ #[23, 23] 3 #[.slice (some ⟨w.heap.size, 4, none⟩) 2 2, .slice (some ⟨w.heap.size, 0, none⟩) 4 6]).run Try.prog w4.drew = .ok (.int .i64 2) w5 ∧ Pre w w.heap.size 6 w5 := cp w w4.drew w.heap.size 4 2 4 6 ⟨w.heap.size, 0, none⟩ (Pre_drew P4) (Nat.le_refl _) (fun j hj => Pre_cell (Pre_drew P4) j (by omega)) rfl (by decide)
  have HF := Aside0.mk (Pre_F P6 (Nat.le_refl _))
  obtain ⟨_, _, _, _, hBB⟩ := P6
  have HB := Aside0.mk hBB
  clear P0 P1 P2 P4 hb1 hBB hi096 hsz96
  have hlei : (6 : Int) ≤ (cs.size : Int) := by omega
  have hw2 : wrap64 2 = 2 := w64 (by decide) (by decide)
  have hw4 : wrap64 4 = 4 := w64 (by decide) (by decide)
  have hw6 : wrap64 6 = 6 := w64 (by decide) (by decide)
  go_enter Try.func57, Try.ntmps57
  go_wp2_with (go_at_call 61; (with_reducible refine (mul_is _).mono ?_); rintro e_ w_ ⟨rfl, rfl⟩)
  refine wp_loop_rounds 4 ?_
  rw [rounds_succ]
  go_wp2
  refine start_ (n := 10) (S := fun w' => True) (ds := []) #[false, false, false, false, false, false, false, false, false, false] (by kernel_rfl) rfl rfl trivial (fun hHeld => ?_)
  refine pure_ (i := 0) (N := some 67) (v := ?_) (a' := ?_) #[true, false, false, false, false, false, false, false, false, false] rfl rfl (by kernel_rfl) (fun _ _ _ h => h) (Or.inl ⟨by rfl, ?_⟩) ?_ ?_
  rotate_left
  · intro w'
    go_simp
    with_reducible rfl
  rotate_left
  · simp only [Act.put, List.setIfInBounds_toArray, List.set_cons_zero, List.set_cons_succ, i64_w, i32_w]
    rfl
  refine pure_ (i := 1) (N := some 68) (v := ?_) (a' := ?_) #[true, true, false, false, false, false, false, false, false, false] rfl rfl (by kernel_rfl) (fun _ _ _ h => h) (Or.inl ⟨by rfl, ?_⟩) ?_ ?_
  rotate_left
  · intro w'
    go_simp
    with_reducible rfl
  rotate_left
  · simp only [Act.put, List.setIfInBounds_toArray, List.set_cons_zero, List.set_cons_succ, i64_w, i32_w]
    rfl
  refine pure_ (i := 2) (N := some 69) (v := ?_) (a' := ?_) #[true, true, true, false, false, false, false, false, false, false] rfl rfl (by kernel_rfl) (fun _ _ _ h => h) (Or.inl ⟨by rfl, ?_⟩) ?_ ?_
  rotate_left
  · intro w'
    go_simp
    with_reducible rfl
  rotate_left
  · simp only [Act.put, List.setIfInBounds_toArray, List.set_cons_zero, List.set_cons_succ, i64_w, i32_w]
    rfl
  refine pure_ (i := 3) (N := some 70) (v := ?_) (a' := ?_) #[true, true, true, true, false, false, false, false, false, false] rfl rfl (by kernel_rfl) (fun _ _ _ h => h) (Or.inl ⟨by rfl, ?_⟩) ?_ ?_
  rotate_left
  · intro w'
    go_simp
    with_reducible rfl
  rotate_left
  · simp only [Act.put, List.setIfInBounds_toArray, List.set_cons_zero, List.set_cons_succ, i64_w, i32_w]
    rfl
  refine pure_ (i := 4) (N := some 71) (v := ?_) (a' := ?_) #[true, true, true, true, true, false, false, false, false, false] rfl rfl (by kernel_rfl) (fun _ _ _ h => h) (Or.inl ⟨by rfl, ?_⟩) ?_ ?_
  rotate_left
  · intro w'
    go_simp
    with_reducible rfl
  rotate_left
  · simp only [Act.put, List.setIfInBounds_toArray, List.set_cons_zero, List.set_cons_succ, i64_w, i32_w]
    rfl
  refine pure_ (i := 5) (N := some 72) (v := ?_) (a' := ?_) #[true, true, true, true, true, true, false, false, false, false] rfl rfl (by kernel_rfl) (fun _ _ _ h => h) (Or.inl ⟨by rfl, ?_⟩) ?_ ?_
  rotate_left
  · intro w'
    go_simp
    with_reducible rfl
  rotate_left
  · simp only [Act.put, List.setIfInBounds_toArray, List.set_cons_zero, List.set_cons_succ, i64_w, i32_w]
    rfl
  refine pure_ (i := 6) (N := some 73) (v := ?_) (a' := ?_) #[true, true, true, true, true, true, true, false, false, false] rfl rfl (by kernel_rfl) (fun _ _ _ h => h) (Or.inl ⟨by rfl, ?_⟩) ?_ ?_
  rotate_left
  · intro w'
    go_simp
    with_reducible rfl
  rotate_left
  · simp only [Act.put, List.setIfInBounds_toArray, List.set_cons_zero, List.set_cons_succ, i64_w, i32_w]
    rfl
  refine one_ (i := 7) (N := some 74) #[true, true, true, true, true, true, true, true, false, false] rfl rfl (by kernel_rfl) (by decide) (fun K hK => ?_)
  refine val_ (v := .int .i64 1) (w1 := w3) (by rfl) rfl ?_ ?_
  · go_simp
  refine hK.out _ _ trivial (fun hHeld => ?_)
  clear hK K
  refine norm_ (a' := ?_) ?_ ?_
  rotate_left
  · simp only [Act.put, List.setIfInBounds_toArray, List.set_cons_zero, List.set_cons_succ, i64_w, i32_w]
    rfl
  refine pure_ (i := 8) (N := some 75) (v := ?_) (a' := ?_) #[true, true, true, true, true, true, true, true, true, false] rfl rfl (by kernel_rfl) (fun _ _ _ h => h) (Or.inl ⟨by rfl, ?_⟩) ?_ ?_
  rotate_left
  · intro w'
    go_simp
    with_reducible rfl
  rotate_left
  · simp only [Act.put, List.setIfInBounds_toArray, List.set_cons_zero, List.set_cons_succ, i64_w, i32_w]
    rfl
  refine pure_ (i := 9) (N := some 10) (v := ?_) (a' := ?_) #[true, true, true, true, true, true, true, true, true, true] rfl rfl (by kernel_rfl) (fun _ _ _ h => h) (Or.inl ⟨by rfl, ?_⟩) ?_ ?_
  rotate_left
  · intro w'
    go_simp
    with_reducible rfl
  rotate_left
  · simp only [Act.put, List.setIfInBounds_toArray, List.set_cons_zero, List.set_cons_succ, i64_w, i32_w]
    rfl
  refine done_ (by kernel_rfl) ?_
  go_wp2
  rw [rounds_succ]
  go_wp2
  refine start_ (n := 10) (S := fun w' => True) (ds := []) #[false, false, false, false, false, false, false, false, false, false] (by kernel_rfl) rfl rfl trivial (fun hHeld => ?_)
  refine pure_ (i := 0) (N := some 67) (v := ?_) (a' := ?_) #[true, false, false, false, false, false, false, false, false, false] rfl rfl (by kernel_rfl) (fun _ _ _ h => h) (Or.inl ⟨by rfl, ?_⟩) ?_ ?_
  rotate_left
  · intro w'
    go_simp
    with_reducible rfl
  rotate_left
  · simp only [Act.put, List.setIfInBounds_toArray, List.set_cons_zero, List.set_cons_succ, i64_w, i32_w]
    rfl
  refine pure_ (i := 1) (N := some 68) (v := ?_) (a' := ?_) #[true, true, false, false, false, false, false, false, false, false] rfl rfl (by kernel_rfl) (fun _ _ _ h => h) (Or.inl ⟨by rfl, ?_⟩) ?_ ?_
  rotate_left
  · intro w'
    go_simp
    with_reducible rfl
  rotate_left
  · simp only [Act.put, List.setIfInBounds_toArray, List.set_cons_zero, List.set_cons_succ, i64_w, i32_w]
    rfl
  refine pure_ (i := 2) (N := some 69) (v := ?_) (a' := ?_) #[true, true, true, false, false, false, false, false, false, false] rfl rfl (by kernel_rfl) (fun _ _ _ h => h) (Or.inl ⟨by rfl, ?_⟩) ?_ ?_
  rotate_left
  · intro w'
    go_simp
    with_reducible rfl
  rotate_left
  · simp only [Act.put, List.setIfInBounds_toArray, List.set_cons_zero, List.set_cons_succ, i64_w, i32_w]
    rfl
  refine pure_ (i := 3) (N := some 70) (v := ?_) (a' := ?_) #[true, true, true, true, false, false, false, false, false, false] rfl rfl (by kernel_rfl) (fun _ _ _ h => h) (Or.inl ⟨by rfl, ?_⟩) ?_ ?_
  rotate_left
  · intro w'
    go_simp
    with_reducible rfl
  rotate_left
  · simp only [Act.put, List.setIfInBounds_toArray, List.set_cons_zero, List.set_cons_succ, i64_w, i32_w]
    rfl
  refine pure_ (i := 4) (N := some 71) (v := ?_) (a' := ?_) #[true, true, true, true, true, false, false, false, false, false] rfl rfl (by kernel_rfl) (fun _ _ _ h => h) (Or.inl ⟨by rfl, ?_⟩) ?_ ?_
  rotate_left
  · intro w'
    go_simp
    with_reducible rfl
  rotate_left
  · simp only [Act.put, List.setIfInBounds_toArray, List.set_cons_zero, List.set_cons_succ, i64_w, i32_w]
    rfl
  refine pure_ (i := 5) (N := some 72) (v := ?_) (a' := ?_) #[true, true, true, true, true, true, false, false, false, false] rfl rfl (by kernel_rfl) (fun _ _ _ h => h) (Or.inl ⟨by rfl, ?_⟩) ?_ ?_
  rotate_left
  · intro w'
    go_simp
    with_reducible rfl
  rotate_left
  · simp only [Act.put, List.setIfInBounds_toArray, List.set_cons_zero, List.set_cons_succ, i64_w, i32_w]
    rfl
  refine pure_ (i := 6) (N := some 73) (v := ?_) (a' := ?_) #[true, true, true, true, true, true, true, false, false, false] rfl rfl (by kernel_rfl) (fun _ _ _ h => h) (Or.inl ⟨by rfl, ?_⟩) ?_ ?_
  rotate_left
  · intro w'
    go_simp
    with_reducible rfl
  rotate_left
  · simp only [Act.put, List.setIfInBounds_toArray, List.set_cons_zero, List.set_cons_succ, i64_w, i32_w]
    rfl
  refine one_ (i := 7) (N := some 74) #[true, true, true, true, true, true, true, true, false, false] rfl rfl (by kernel_rfl) (by decide) (fun K hK => ?_)
  refine val_ (v := .int .i64 2) (w1 := w4) (by rfl) rfl ?_ ?_
  · go_simp
  refine hK.out _ _ trivial (fun hHeld => ?_)
  clear hK K
  refine norm_ (a' := ?_) ?_ ?_
  rotate_left
  · simp only [Act.put, List.setIfInBounds_toArray, List.set_cons_zero, List.set_cons_succ, i64_w, i32_w]
    rfl
  refine pure_ (i := 8) (N := some 75) (v := ?_) (a' := ?_) #[true, true, true, true, true, true, true, true, true, false] rfl rfl (by kernel_rfl) (fun _ _ _ h => h) (Or.inl ⟨by rfl, ?_⟩) ?_ ?_
  rotate_left
  · intro w'
    go_simp
    with_reducible rfl
  rotate_left
  · simp only [Act.put, List.setIfInBounds_toArray, List.set_cons_zero, List.set_cons_succ, i64_w, i32_w]
    rfl
  refine pure_ (i := 9) (N := some 10) (v := ?_) (a' := ?_) #[true, true, true, true, true, true, true, true, true, true] rfl rfl (by kernel_rfl) (fun _ _ _ h => h) (Or.inl ⟨by rfl, ?_⟩) ?_ ?_
  rotate_left
  · intro w'
    go_simp
    with_reducible rfl
  rotate_left
  · simp only [Act.put, List.setIfInBounds_toArray, List.set_cons_zero, List.set_cons_succ, i64_w, i32_w]
    rfl
  refine done_ (by kernel_rfl) ?_
  go_wp2
  rw [rounds_succ]
  go_wp2
  refine start_ (n := 10) (S := fun w' => True) (ds := []) #[false, false, false, false, false, false, false, false, false, false] (by kernel_rfl) rfl rfl trivial (fun hHeld => ?_)
  refine pure_ (i := 0) (N := some 67) (v := ?_) (a' := ?_) #[true, false, false, false, false, false, false, false, false, false] rfl rfl (by kernel_rfl) (fun _ _ _ h => h) (Or.inl ⟨by rfl, ?_⟩) ?_ ?_
  rotate_left
  · intro w'
    go_simp
    with_reducible rfl
  rotate_left
  · simp only [Act.put, List.setIfInBounds_toArray, List.set_cons_zero, List.set_cons_succ, i64_w, i32_w]
    rfl
  refine pure_ (i := 1) (N := some 68) (v := ?_) (a' := ?_) #[true, true, false, false, false, false, false, false, false, false] rfl rfl (by kernel_rfl) (fun _ _ _ h => h) (Or.inl ⟨by rfl, ?_⟩) ?_ ?_
  rotate_left
  · intro w'
    go_simp
    with_reducible rfl
  rotate_left
  · simp only [Act.put, List.setIfInBounds_toArray, List.set_cons_zero, List.set_cons_succ, i64_w, i32_w]
    rfl
  refine pure_ (i := 2) (N := some 69) (v := ?_) (a' := ?_) #[true, true, true, false, false, false, false, false, false, false] rfl rfl (by kernel_rfl) (fun _ _ _ h => h) (Or.inl ⟨by rfl, ?_⟩) ?_ ?_
  rotate_left
  · intro w'
    go_simp
    with_reducible rfl
  rotate_left
  · simp only [Act.put, List.setIfInBounds_toArray, List.set_cons_zero, List.set_cons_succ, i64_w, i32_w]
    rfl
  refine pure_ (i := 3) (N := some 70) (v := ?_) (a' := ?_) #[true, true, true, true, false, false, false, false, false, false] rfl rfl (by kernel_rfl) (fun _ _ _ h => h) (Or.inl ⟨by rfl, ?_⟩) ?_ ?_
  rotate_left
  · intro w'
    go_simp
    with_reducible rfl
  rotate_left
  · simp only [Act.put, List.setIfInBounds_toArray, List.set_cons_zero, List.set_cons_succ, i64_w, i32_w]
    rfl
  refine pure_ (i := 4) (N := some 71) (v := ?_) (a' := ?_) #[true, true, true, true, true, false, false, false, false, false] rfl rfl (by kernel_rfl) (fun _ _ _ h => h) (Or.inl ⟨by rfl, ?_⟩) ?_ ?_
  rotate_left
  · intro w'
    go_simp
    with_reducible rfl
  rotate_left
  · simp only [Act.put, List.setIfInBounds_toArray, List.set_cons_zero, List.set_cons_succ, i64_w, i32_w]
    rfl
  refine pure_ (i := 5) (N := some 72) (v := ?_) (a' := ?_) #[true, true, true, true, true, true, false, false, false, false] rfl rfl (by kernel_rfl) (fun _ _ _ h => h) (Or.inl ⟨by rfl, ?_⟩) ?_ ?_
  rotate_left
  · intro w'
    go_simp
    with_reducible rfl
  rotate_left
  · simp only [Act.put, List.setIfInBounds_toArray, List.set_cons_zero, List.set_cons_succ, i64_w, i32_w]
    rfl
  refine pure_ (i := 6) (N := some 73) (v := ?_) (a' := ?_) #[true, true, true, true, true, true, true, false, false, false] rfl rfl (by kernel_rfl) (fun _ _ _ h => h) (Or.inl ⟨by rfl, ?_⟩) ?_ ?_
  rotate_left
  · intro w'
    go_simp
    with_reducible rfl
  rotate_left
  · simp only [Act.put, List.setIfInBounds_toArray, List.set_cons_zero, List.set_cons_succ, i64_w, i32_w]
    rfl
  refine one_ (i := 7) (N := some 74) #[true, true, true, true, true, true, true, true, false, false] rfl rfl (by kernel_rfl) (by decide) (fun K hK => ?_)
  refine val_ (v := .int .i64 2) (w1 := w5) (by rfl) rfl ?_ ?_
  · go_simp
  refine hK.out _ _ trivial (fun hHeld => ?_)
  clear hK K
  refine norm_ (a' := ?_) ?_ ?_
  rotate_left
  · simp only [Act.put, List.setIfInBounds_toArray, List.set_cons_zero, List.set_cons_succ, i64_w, i32_w]
    rfl
  refine pure_ (i := 8) (N := some 75) (v := ?_) (a' := ?_) #[true, true, true, true, true, true, true, true, true, false] rfl rfl (by kernel_rfl) (fun _ _ _ h => h) (Or.inl ⟨by rfl, ?_⟩) ?_ ?_
  rotate_left
  · intro w'
    go_simp
    with_reducible rfl
  rotate_left
  · simp only [Act.put, List.setIfInBounds_toArray, List.set_cons_zero, List.set_cons_succ, i64_w, i32_w]
    rfl
  refine pure_ (i := 9) (N := some 10) (v := ?_) (a' := ?_) #[true, true, true, true, true, true, true, true, true, true] rfl rfl (by kernel_rfl) (fun _ _ _ h => h) (Or.inl ⟨by rfl, ?_⟩) ?_ ?_
  rotate_left
  · intro w'
    go_simp
    with_reducible rfl
  rotate_left
  · simp only [Act.put, List.setIfInBounds_toArray, List.set_cons_zero, List.set_cons_succ, i64_w, i32_w]
    rfl
  refine done_ (by kernel_rfl) ?_
  go_wp2
  rw [rounds_succ]
  go_wp2
  go_ret
  exact ⟨w.heap.size, 6, rfl, by decide, HF.out, HB.out⟩
end Go.Proofs.Ytdblpflepfcnjaa.Q
end
section
/- Whole numbers of 64 bits with a sign: their bits as vectors. -/
set_option linter.unusedVariables false
set_option linter.unusedSimpArgs false
namespace Go.Proofs.Ytdblpflepfcnjaa.L
open Go.RowKit
def bv (x : Int) : BitVec 64 := BitVec.ofInt 64 x
theorem wrap_toInt (v : BitVec 64) : IntKind.i64.wrap (v.toNat : Int) = v.toInt := by
  have e := BitVec.toInt_eq_toNat_bmod v
  rw [e]
  have hl := v.isLt
  have hw : IntKind.i64.wrap (v.toNat : Int) = if v.toNat < 9223372036854775808 then (v.toNat : Int) else (v.toNat : Int) - 18446744073709551616 := by
    rw [IntKind.wrap_i64]; split <;> omega
  rw [hw]
  unfold Int.bmod
  have hm : (v.toNat : Int) % ((2 ^ 64 : Nat) : Int) = v.toNat := by omega
  rw [hm]
  dsimp only
  have hz : ((2 ^ 64 : Nat) : Int) = 18446744073709551616 := by decide
  rw [hz]
  split <;> split <;> omega
theorem i64_and (x y : Int) : Go.bits .and .i64 x y = (bv x &&& bv y).toInt := wrap_toInt _
theorem i64_andNot (x y : Int) : Go.bits .andNot .i64 x y = (bv x &&& ~~~ bv y).toInt := wrap_toInt _
def m6 (x : Int) : Prop := x = 0 ∨ x = 2 ∨ x = 4 ∨ x = 6
instance (x : Int) : Decidable (m6 x) := inferInstanceAs (Decidable (_ ∨ _))
end Go.Proofs.Ytdblpflepfcnjaa.L
end
section
/- The contracts of the reference's Sext and Get (layer 1). -/
namespace Go.Proofs.Ytdblpflepfcnjaa.Q
open Go.RowKit Go.Proofs.YtdblpflepfcnjaaW.PrintWords Go.Proofs.YtdblpflepfcnjaaW.PrintLast Go.Proofs.YtdblpflepfcnjaaW.PrintMore Go.Proofs.Ytdblpflepfcnjaa.L
attribute [local go_sem] max2_int min2_int max_two min_two max_three min_three max_four min_four
set_option linter.unusedVariables false
set_option linter.unusedSimpArgs false

def drawbridgeref01_Get.f (l0 : List Int) (a1 : Bool) : Option Int := if ∀ x ∈ l0.take 8, byte x then some (getB l0 a1) else none
set_option maxHeartbeats 8000000 in
set_option maxRecDepth 100000 in
theorem drawbridgeref01_Get.calls (A0 : Option Addr) (c0 : Nat) (l0 : List Int) (a1 : Bool) (r : Int) (w : World) (hr0 : Kd.C (Kd.int .u8) w A0 l0.length l0) (hc0 : l0.length ≤ c0) (h : drawbridgeref01_Get.f l0 a1 = some r) :
    Calls Try.prog 39 #[.slice A0 l0.length c0, .bool a1] w fun e w' => e = .returned (.int .u64 r) ∧ Below w.heap.size w w' := by
  have HR0 := Aside0.mk hr0
  have HC0 := Aside0.mk hc0
  have HB := Aside0.mk (Below.refl w.heap.size w)
  have hm : l0.length ≤ 9223372036854775807 := hr0.2.1
  clear hr0 hc0
  unfold drawbridgeref01_Get.f at h
  by_cases hby : ∀ x ∈ l0.take 8, byte x
  · rw [if_pos hby] at h
    obtain rfl := Option.some.inj h
    clear h
    have HBY := Aside0.mk hby
    clear hby
    have H8 : (l0.length : Int) ≤ 8 ∨ 8 < (l0.length : Int) := by omega
    obtain ⟨N, hN⟩ : ∃ N : Nat, N = (l0.take 8).length := ⟨_, rfl⟩
    have hN8 : N ≤ 8 := by rw [hN]; simp; omega
    have hNl : N ≤ l0.length := by rw [hN]; simp; omega
    have hE : l0.length ≤ N ∨ 8 ≤ N := by rw [hN]; simp; omega
    have HN := Aside0.mk hN
    clear hN
    cases a1
    · have hbs : ∀ k, k < N → (l0.take 8).reverse[k]? = some (rd l0 ((N - 1 - k : Nat) : Int)) := fun k hk => by
        unfold rd; rw [Int.toNat_natCast]; exact rev8_at l0 k _ (by rw [← HN.out]; exact hk) (by rw [← HN.out]; omega)
      have HBS := Aside0.mk hbs
      clear hbs
      have HBR := Aside0.mk (fun x (hx : x ∈ (l0.take 8).reverse) => HBY.out x (List.mem_reverse.1 hx))
      have HNR : Aside0 (N = (l0.take 8).reverse.length) := ⟨by rw [List.length_reverse]; exact HN.out⟩
      rcases H8 with H8 | H8
      all_goals
        go_enter Try.func39, Try.ntmps39
        go_wp2
        go_loop [5, 7] (fun v5 v7 => ∃ k : Nat, k ≤ N ∧ v7 = .int .i64 k ∧ v5 = .int .u64 (getLE ((l0.take 8).reverse.take k).reverse)) (fun _ v7 => N - (intOf v7).toNat)
        case atStart => exact ⟨0, Nat.zero_le _, rfl, rfl⟩
        case round =>
          obtain ⟨k, hk, rfl, rfl⟩ := hrel
          by_cases hlt : k < N
          · obtain ⟨ad, rfl, hc⟩ := Kd.at_int HR0.out ((N - 1 - k : Nat) : Int) (by omega) (by omega)
            rw [Int.toNat_natCast] at hc
            have hc1 : l0.length ≤ 8 → w.cell? (ad.add (l0.length - 1 - k)) = some (.int .u8 (rd l0 ((N - 1 - k : Nat) : Int))) := fun h => by rw [show l0.length - 1 - k = N - 1 - k by omega]; exact hc
            have hc2 : 8 < l0.length → w.cell? (ad.add (8 - 1 - k)) = some (.int .u8 (rd l0 ((N - 1 - k : Nat) : Int))) := fun h => by rw [show 8 - 1 - k = N - 1 - k by omega]; exact hc
            first | (replace hc1 := hc1 (by omega)) | (replace hc2 := hc2 (by omega))
            go_wp2
            all_goals
              go_round
              case rel => exact ⟨k + 1, by omega, by go_num, congrArg _ (horner_step _ k _ (by have := HNR.out; omega) (by have := HNR.out; omega) HBR.out (HBS.out k hlt))⟩
              case measure => simp [intOf]; omega
          · go_wp2
            go_ret
            exact ⟨congrArg (fun z => Ending.returned (.int .u64 z)) (by rw [List.take_of_length_le (by have := HNR.out; omega), List.reverse_reverse]; rfl), HB.out⟩
    · have hbs : ∀ k, k < N → (l0.take 8)[k]? = some (rd l0 (k : Int)) := fun k hk => by
        rw [HN.out] at hk; unfold rd; rw [Int.toNat_natCast]; exact take8_at l0 k hk
      have HBS := Aside0.mk hbs
      clear hbs
      rcases H8 with H8 | H8
      all_goals
        go_enter Try.func39, Try.ntmps39
        go_wp2
        go_loop [5, 7] (fun v5 v7 => ∃ k : Nat, k ≤ N ∧ v7 = .int .i64 k ∧ v5 = .int .u64 (getLE ((l0.take 8).take k).reverse)) (fun _ v7 => N - (intOf v7).toNat)
        case atStart => exact ⟨0, Nat.zero_le _, rfl, rfl⟩
        case round =>
          obtain ⟨k, hk, rfl, rfl⟩ := hrel
          by_cases hlt : k < N
          · obtain ⟨ad, rfl, hc⟩ := Kd.at_int HR0.out (k : Int) (by omega) (by omega)
            rw [Int.toNat_natCast] at hc
            go_wp2
            all_goals
              go_round
              case rel => exact ⟨k + 1, by omega, by go_num, congrArg _ (horner_step _ k _ (by have := HN.out; omega) (by have := HN.out; omega) HBY.out (HBS.out k hlt))⟩
              case measure => simp [intOf]; omega
          · go_wp2
            go_ret
            exact ⟨congrArg (fun z => Ending.returned (.int .u64 z)) (by rw [List.take_of_length_le (by have := HN.out; omega)]; rfl), HB.out⟩
  · rw [if_neg hby] at h
    exact absurd h (by simp)

end Go.Proofs.Ytdblpflepfcnjaa.Q
end
section
/- The document's in, Check, wrong, dropped. -/
namespace Go.Proofs.Ytdblpflepfcnjaa.Q
open Go.RowKit Go.Proofs.YtdblpflepfcnjaaW.PrintWords Go.Proofs.YtdblpflepfcnjaaW.PrintLast Go.Proofs.YtdblpflepfcnjaaW.PrintMore Go.Proofs.Ytdblpflepfcnjaa.L
attribute [local go_sem] Instr.field part asAgg lt_step max2_int min2_int max_two min_two max_three min_three max_four min_four lt_0_1 lt_0_2 lt_1_2 lt_0_3 lt_1_3 lt_2_3 lt_0_4 lt_1_4 lt_2_4 lt_3_4 lt_0_5 lt_1_5 lt_2_5 lt_3_5 lt_4_5 lt_0_6 lt_1_6 lt_2_6 lt_3_6 lt_4_6 lt_5_6 lt_0_7 lt_1_7 lt_2_7 lt_3_7 lt_4_7 lt_5_7 lt_6_7 lt_0_8 lt_1_8 lt_2_8 lt_3_8 lt_4_8 lt_5_8 lt_6_8 lt_7_8
set_option linter.unusedVariables false
set_option linter.unusedSimpArgs false
def inB (n lo hi : Int) : Bool := decide (lo ≤ n) && decide (n ≤ hi)
def ringsB (c : Nat → Int) : Bool := inB (c 4) 1 64 && inB (c 8) 1 64 && inB (c 5) 0 (wrap64 (c 4 - 1)) && inB (c 6) 0 (wrap64 (c 4 - 1)) && inB (c 9) 0 (wrap64 (c 8 - 1)) && inB (c 10) 0 (wrap64 (c 8 - 1))
def okR (c : Nat → Int) (m : Nat) : Bool := decide (m = 6) && inB (c 0) 0 7 && inB (c 1) 0 15 && inB (c 2) 0 15 && decide (c 3 < 4294967296) && decide (c 7 < 4294967296) && ringsB c && inB (c 11) 0 2147483648 && inB (c 12) 0 2147483648
theorem okR_is (c : Nat → Int) (m : Nat) (h3 : 0 ≤ c 3) (h7 : 0 ≤ c 7) : okR c m = okC c m := by
  rw [Bool.eq_iff_iff, okC_iff]
  unfold okR ringsB inB
  simp only [Bool.and_eq_true, decide_eq_true_eq]
  constructor
  · rintro ⟨⟨⟨⟨⟨⟨⟨⟨h1, h2⟩, h4⟩, h5⟩, h6⟩, h8⟩, ⟨⟨⟨⟨⟨r1, r2⟩, r3⟩, r4⟩, r5⟩, r6⟩⟩, h9⟩, h10⟩
    rw [w64 (by omega) (by omega)] at r3 r4 r5 r6
    exact ⟨h1, by omega, by omega, by omega, by omega, by omega, by omega, by omega, by omega, by omega, by omega, by omega, by omega, by omega⟩
  · rintro ⟨h1, h2, h4, h5, h9, h10, tb, tn, th, tt, rb, rn, rh, rt⟩
    rw [w64 (by omega) (by omega), w64 (by omega) (by omega)]
    exact ⟨⟨⟨⟨⟨⟨⟨⟨h1, by omega⟩, by omega⟩, by omega⟩, by omega⟩, by omega⟩, ⟨⟨⟨⟨⟨by omega, by omega⟩, by omega⟩, by omega⟩, by omega⟩, by omega⟩⟩, by omega⟩, by omega⟩
set_option maxHeartbeats 1600000 in
set_option maxRecDepth 100000 in
theorem rin_is (n lo hi : Int) (w : World) : Calls Try.prog 42 #[.int .i64 n, .int .i64 lo, .int .i64 hi] w fun e w' => e = .returned (.bool (inB n lo hi)) ∧ w = w' := by
  unfold inB
  go_enter Try.func42, Try.ntmps42
  go_wp2
  all_goals go_ret
  all_goals exact ⟨by simp [*] <;> (intros; omega), rfl⟩
set_option maxHeartbeats 1600000 in
set_option maxRecDepth 100000 in
theorem rCheck_is (c : Nat → Int) (A : Option Addr) (m cap : Nat) (w : World) : Calls Try.prog 20 #[.agg (C14 c (.slice A m cap))] w fun e w' => e = .returned (.bool (okR c m)) ∧ Below w.heap.size w w' := by
  have HB := Aside0.mk (Below.refl w.heap.size w)
  have hu := Try.underlying25
  go_enter Try.func20, Try.ntmps20
  go_upto_region 1 with fail
  obtain ⟨wa, hwa, oc0, hb_, hz0⟩ := letter1 w (.cells (C14 c (.slice A m cap)) 25 (0, 0))
  rw [hwa]
  clear hwa
  obtain ⟨occ, ocf, ocl⟩ := cells_of oc0
  have hc0 := (occ 0).trans (C14_at c (.slice A m cap) 0 (by decide))
  have hc1 := (occ 1).trans (C14_at c (.slice A m cap) 1 (by decide))
  have hc2 := (occ 2).trans (C14_at c (.slice A m cap) 2 (by decide))
  have hc3 := (occ 3).trans (C14_at c (.slice A m cap) 3 (by decide))
  have hc4 := (occ 4).trans (C14_at c (.slice A m cap) 4 (by decide))
  have hc5 := (occ 5).trans (C14_at c (.slice A m cap) 5 (by decide))
  have hc6 := (occ 6).trans (C14_at c (.slice A m cap) 6 (by decide))
  have hc7 := (occ 7).trans (C14_at c (.slice A m cap) 7 (by decide))
  have hc8 := (occ 8).trans (C14_at c (.slice A m cap) 8 (by decide))
  have hc9 := (occ 9).trans (C14_at c (.slice A m cap) 9 (by decide))
  have hc10 := (occ 10).trans (C14_at c (.slice A m cap) 10 (by decide))
  have hc11 := (occ 11).trans (C14_at c (.slice A m cap) 11 (by decide))
  have hc12 := (occ 12).trans (C14_at c (.slice A m cap) 12 (by decide))
  have hc13 := (occ 13).trans (C14_mac c (.slice A m cap))
  simp only [show kd14 3 = .u64 from rfl, show kd14 7 = .u64 from rfl, show kd14 0 = .i64 from rfl, show kd14 1 = .i64 from rfl, show kd14 2 = .i64 from rfl, show kd14 4 = .i64 from rfl, show kd14 5 = .i64 from rfl, show kd14 6 = .i64 from rfl, show kd14 8 = .i64 from rfl, show kd14 9 = .i64 from rfl, show kd14 10 = .i64 from rfl, show kd14 11 = .i64 from rfl, show kd14 12 = .i64 from rfl] at hc0 hc1 hc2 hc3 hc4 hc5 hc6 hc7 hc8 hc9 hc10 hc11 hc12
  clear occ oc0 hz0
  go_cut [3] (fun v wx => v = .bool (ringsB c) ∧ wa = wx)
  case first =>
    go_wp2_with (first | (go_at_call 42; (with_reducible refine (rin_is (_) (_) (_) _).mono ?_); rintro e_ w_ ⟨rfl, rfl⟩))
    all_goals go_meet
    all_goals refine ⟨congrArg Value.bool ?_, rfl⟩
    all_goals (unfold ringsB; simp [*])
  case rest =>
  obtain ⟨rfl, rfl⟩ := hcut
  obtain ⟨rg, hrg⟩ : ∃ b, ringsB c = b := ⟨_, rfl⟩
  cases rg
  all_goals go_wp2_with (first | (go_at_call 42; (with_reducible refine (rin_is (_) (_) (_) _).mono ?_); rintro e_ w_ ⟨rfl, rfl⟩))
  all_goals go_ret
  all_goals refine ⟨congrArg (fun x => Ending.returned (.bool x)) ?_, (by repeat (first | (with_reducible first | exact hb_ | exact Below.refl _ _ | apply below_alloc | apply pw_below_drewN | apply below_drew | refine below_set ?_ (by omega)) | exact hb_))⟩
  all_goals (unfold okR; simp [*] <;> omega)
theorem rCheck_of (b : Bool) (c : Nat → Int) (A : Option Addr) (m cap : Nat) (w : World) (h3 : 0 ≤ c 3) (h7 : 0 ≤ c 7) (h : okC c m = b) : Calls Try.prog 20 #[.agg (C14 c (.slice A m cap))] w fun e w' => e = .returned (.bool b) ∧ Below w.heap.size w w' := by
  rw [← h, ← okR_is c m h3 h7]; exact rCheck_is c A m cap w
set_option maxHeartbeats 1600000 in
set_option maxRecDepth 100000 in
theorem rwrong_is (c : Nat → Int) (A : Option Addr) (m cap : Nat) (w : World) : Calls Try.prog 43 #[.agg (C14 c (.slice A m cap))] w fun e w' => e = .returned (.agg (C14 (failC c) (.slice A m cap))) ∧ Below w.heap.size w w' := by
  have HB := Aside0.mk (Below.refl w.heap.size w)
  have hu := Try.underlying25
  go_enter Try.func43, Try.ntmps43
  go_upto_region 1 with fail
  obtain ⟨wa, hwa, oc0, od0, hb_, hz0⟩ := letter2 w (.cells (C14 c (.slice A m cap)) 25 (0, 0)) (.cells #[.int .i64 0, .int .i64 0, .int .i64 0, .int .u64 0, .int .i64 0, .int .i64 0, .int .i64 0, .int .u64 0, .int .i64 0, .int .i64 0, .int .i64 0, .int .i64 0, .int .i64 0, .slice none 0 0] 25 (0, 0))
  rw [hwa]
  clear hwa
  have hzwa := Nat.le_of_eq hz0.symm
  clear hz0
  have oc := Aside0.mk oc0
  have od := Aside0.mk od0
  clear oc0 od0
  obtain ⟨occ, ocf, ocl⟩ := cells_of oc.out
  obtain ⟨odc, odf, odl⟩ := cells_of od.out
  have HB_ : Aside0 (Below w.heap.size w wa) := ⟨hb_⟩
  clear HB hb_; have HB := HB_; clear HB_
  have hck : wa.cell? ⟨w.heap.size, 12, none⟩ = some (.int .i64 (c 12)) := (occ 12).trans rfl
  have hcf := ocf 12
  clear occ
  have occ := trivial
  go_cut [] (fun wx => wa.setCell ⟨w.heap.size, 12, none⟩ (.int .i64 (mostZ (c 12))) = wx)
  case first =>
    go_wp2_with fail
    all_goals go_meet
    all_goals refine congrArg (fun x => wa.setCell ⟨w.heap.size, 12, none⟩ (.int .i64 x)) ?_
    all_goals (unfold mostZ; split <;> omega)
  case rest =>
  subst hcut
  (have od_ := Aside0.mk (blk_far (p := ⟨w.heap.size, 12, none⟩) od.out (by show _ ≠ _; dsimp only; omega) (.int .i64 (mostZ (c 12)))); clear od odc odf odl; have od := od_; clear od_; obtain ⟨odc, odf, odl⟩ := cells_of od.out; have oc_ := Aside0.mk (blk_put oc.out 12 (.int .i64 (mostZ (c 12))) (cs' := C14 (upd c 12 (mostZ (c 12))) (.slice A m cap)) rfl); clear oc occ ocf ocl; have oc := oc_; clear oc_; obtain ⟨occ, ocf, ocl⟩ := cells_of oc.out)
  have hc1 : (wa.setCell ⟨w.heap.size, 12, none⟩ (.int .i64 (mostZ (c 12)))).cell? ⟨w.heap.size, 1, none⟩ = some (.int .i64 (c 1)) := (occ 1).trans rfl
  clear hck occ
  have occ := trivial
  go_upto_region 3 with fail
  (have od_ := Aside0.mk (blk_far (p := ⟨w.heap.size, 1, none⟩) od.out (by show _ ≠ _; dsimp only; omega) (.int .i64 (Go.bits .or .i64 (c 1) 4))); clear od odc odf odl; have od := od_; clear od_; obtain ⟨odc, odf, odl⟩ := cells_of od.out; have oc_ := Aside0.mk (blk_put oc.out 1 (.int .i64 (Go.bits .or .i64 (c 1) 4)) (cs' := C14 (failC c) (.slice A m cap)) rfl); clear oc occ ocf ocl; have oc := oc_; clear oc_; obtain ⟨occ, ocf, ocl⟩ := cells_of oc.out)
  have HB_ : Aside0 (Below w.heap.size w _) := Aside0.mk (Below.setCell (Below.setCell HB.out (p := ⟨w.heap.size, 12, none⟩) (Nat.le_refl _) (.int .i64 (mostZ (c 12)))) (p := ⟨w.heap.size, 1, none⟩) (Nat.le_refl _) (.int .i64 (Go.bits .or .i64 (c 1) 4)))
  go_wp2_with (first | ((with_reducible refine gate_dst (N := 12) rfl ?_); (try (refine gate_guard (by rfl) ?_; dsimp only)); refine wpList_load_row rfl 25 _ rfl _ (by rfl) _ (C14 (failC c) (.slice A m cap)) _ _ (eG oc) Try.underlying25 rfl i25 ?_) | ((with_reducible refine gate_store (t := 25) (p := 2) (v := .tmp 12) rfl ?_); refine wpList_store_all rfl 25 _ _ rfl rfl _ (C14 (failC c) (.slice A m cap)) (by rfl) (by rfl) _ _ od.out rfl i25 (C14_one _ _ _ _) ?_; rintro w3 ⟨hx_, hk_, hb_, hzz_⟩; have HB_ : Aside0 (Below w.heap.size w w3) := Aside0.mk (Below.trans (bG HB) (Below.mono hb_ (by first | omega | (simp only [sz_alloc, sz_drew, sz_drewN]; omega)))); have hzw3 := hzz_; (try simp at hzw3); clear hzz_; have oc_ := Aside0.mk (st_put oc.out hk_ (fun h_ => (by repeat (with_reducible first | exact h_ | apply ext_drew | apply ext_drewN | apply ext_alloc | refine blk_far ?_ (by show _ ≠ _; dsimp only; omega) _))) (by omega)); clear oc occ ocf ocl; have oc := oc_; clear oc_; obtain ⟨occ, ocf, ocl⟩ := cells_of oc.out; (try clear od odc odf odl); have od := Aside0.mk hx_; obtain ⟨odc, odf, odl⟩ := cells_of od.out; clear HB hb_ hk_ hx_; have HB := HB_; clear HB_))
  refine bodyPost_ret (results_cell_row rfl _ _ (w.heap.size + 1) 25 (C14 (failC c) (.slice A m cap)) (0, 0) _ rfl od.out Try.underlying25 rfl i25) rfl ⟨rfl, (bG HB)⟩
end Go.Proofs.Ytdblpflepfcnjaa.Q
end
section
/- Arguments that lie in memory, opened: a row of whole numbers, a row of elements of whatever kind, as lists. -/
namespace Go.Proofs.Ytdblpflepfcnjaa.L
open Go.RowKit Go.Proofs.YtdblpflepfcnjaaW.PrintWords Go.Proofs.YtdblpflepfcnjaaW.PrintLast Go.Proofs.YtdblpflepfcnjaaW.PrintMore Go.ChangeShapes Go.WideShapes Go.Deep
section
variable {H : Type} {enc : TypeId × Value → H} {P : Program} {w : World} {base : Nat} {spare : Nat → Bool} {held : Bool} {n : Nat} {t e : TypeId} {c : Value} {x : DataW H × List MemPlace}
theorem leaf_int {k : IntKind} (ht : P.underlying t = some (.int k)) (h : DataW.trod enc P w base spare held n t [c] = some x) : ∃ a, c = .int k a ∧ (Lit.int k a).wf = true := by
  obtain ⟨a, he, _, hw⟩ := DataW.trod_int ht h
  exact ⟨a, by injection he, hw⟩
theorem leaf_rows {α : Type} {d : Kd α} (Q : α → Prop) (ht : P.underlying t = some (.slice e)) (hsz : P.cellsOf e = d.sz)
    (hel : ∀ (n : Nat) (cs : List Value) (y : DataW H × List MemPlace), cs.length = P.cellsOf e → DataW.trod enc P w base spare held n e cs = some y → ∃ s, d.K w s cs ∧ Q s)
    (h : DataW.trod enc P w base spare held n t [c] = some x) : ∃ (A : Option Addr) (cap : Nat) (l : List α), c = .slice A l.length cap ∧ d.C w A l.length l ∧ l.length ≤ cap ∧ l.length ≤ maxLen ∧ ∀ s ∈ l, Q s := by
  rcases open_slice ht h with ⟨hcs, _⟩ | ⟨a, len, cap, m, n', D, Pl, hcs, _, hl, hm, hmm, hx, hi⟩
  · injection hcs with hc
    exact ⟨none, 0, [], hc, ⟨rfl, Nat.zero_le _, fun hn => absurd hn (Nat.lt_irrefl 0)⟩, Nat.le_refl _, Nat.zero_le _, fun s hs => by cases hs⟩
  · have hc : c = .slice (some a) len cap := by injection hcs
    have hlm : len ≤ m := by rw [hmm]; split <;> omega
    have key : ∀ i, i < len → ∃ s cs, cs.length = d.sz ∧ d.K w s cs ∧ Q s ∧ ∀ j u, cs[j]? = some u → w.cell? (a.add (i * d.sz + j)) = some u := by
      intro i hil
      obtain ⟨cs', hcells, htr⟩ := hi i (by omega)
      rw [hsz] at hcells
      obtain ⟨_, hcl, hat⟩ := World.cells?_some hcells
      obtain ⟨s, hk, hq⟩ := hel n' cs' _ (by rw [hsz]; exact hcl) htr
      refine ⟨s, cs', hcl, hk, hq, fun j u hu => ?_⟩
      have hj : j < cs'.length := (List.getElem?_eq_some_iff.1 hu).1
      have := hat j (by omega)
      rw [Go.Deep.add_add] at this
      rw [this]; exact hu
    have ex : ∃ l : List α, l.length = len ∧ ∀ i s, l[i]? = some s → Q s ∧ ∃ cs, cs.length = d.sz ∧ d.K w s cs ∧ ∀ j u, cs[j]? = some u → w.cell? (a.add (i * d.sz + j)) = some u := by
      clear hi hc hl hm hmm hlm hcs hx
      induction len with
      | zero => exact ⟨[], rfl, fun i s hs => by simp at hs⟩
      | succ len ih =>
        obtain ⟨l, hll, hl⟩ := ih (fun i hil => key i (by omega))
        obtain ⟨s, cs, h1, h2, h3, h4⟩ := key len (by omega)
        refine ⟨l ++ [s], by simp [hll], fun i z hz => ?_⟩
        rcases Nat.lt_or_ge i l.length with hlt | hge
        · rw [List.getElem?_append_left hlt] at hz
          exact hl i z hz
        · have hi : i = len := by
            have := (List.getElem?_eq_some_iff.1 hz).1
            rw [List.length_append, List.length_singleton] at this
            omega
          subst hi
          rw [List.getElem?_append_right hge, hll, Nat.sub_self] at hz
          have : s = z := by simpa using hz
          subst this
          exact ⟨h3, cs, h1, h2, h4⟩
    obtain ⟨l, hll, hl'⟩ := ex
    refine ⟨some a, cap, l, by rw [hll]; exact hc, ⟨rfl, by rw [hll]; unfold maxLen at hm; omega, fun _ => ⟨a, rfl, fun j p hj => ?_⟩⟩, by omega, by omega, fun s hs => ?_⟩
    · obtain ⟨_, cs, h1, h2, h4⟩ := hl' j p hj
      exact ⟨cs, h1, h2, h4⟩
    · obtain ⟨i, hi'⟩ := List.getElem?_of_mem hs
      exact (hl' i s hi').1
theorem leaf_ints {k : IntKind} (ht : P.underlying t = some (.slice e)) (he : P.underlying e = some (.int k)) (hc1 : P.cellsOf e = 1) (h : DataW.trod enc P w base spare held n t [c] = some x) :
    ∃ (A : Option Addr) (cap : Nat) (l : List Int), c = .slice A l.length cap ∧ Kd.C (Kd.int k) w A l.length l ∧ l.length ≤ cap ∧ l.length ≤ maxLen ∧ ∀ z ∈ l, (Lit.int k z).wf = true :=
  leaf_rows (d := Kd.int k) (fun z => (Lit.int k z).wf = true) ht hc1 (fun n cs y hcs hy => by
    obtain ⟨a, rfl, _, hw⟩ := DataW.trod_int he hy
    exact ⟨a, rfl, hw⟩) h
/-- A struct's field, as a reading of its own cells. -/
theorem leaf_field {fs : Array Field} {cs : List Value} (ht : P.underlying t = some (.struct fs)) (h : DataW.trod enc P w base spare held n t cs = some x) :
    ∃ m, ∀ (i : Nat) (f : Field), fs[i]? = some f → ∃ y, DataW.trod enc P w base spare held m f.type ((cs.drop f.offset).take (P.cellsOf f.type)) = some y := by
  obtain ⟨xs, m, _, _, _, hlen, hg⟩ := DataW.trod_struct ht h
  refine ⟨m, fun i f hf => ?_⟩
  have hi : i < fs.size := (Array.getElem?_eq_some_iff.1 hf).1
  exact ⟨_, (hg i f hf).trans (List.getElem?_eq_getElem (by omega))⟩
end
end Go.Proofs.Ytdblpflepfcnjaa.L
end
