import Derived.Test.YtijdplpmcnhlbaaHZ1
import Derived.Test.YtijdplpmcnhlbaaHZ3
import Derived.Deep.RegionWith
import Derived.RegionTactic
/- host.Connect. -/
namespace Go.Proofs.Ytijdplpmcnhlbaa.Q
open Go.RowKit Go.Proofs.YtijdplpmcnhlbaaW.PrintWords Go.Proofs.YtijdplpmcnhlbaaW.PrintLast Go.Proofs.YtijdplpmcnhlbaaW.PrintMore Go.Proofs.Ytijdplpmcnhlbaa.L
attribute [local go_sem] Instr.field part asAgg lt_step max2_int min2_int max_two min_two max_three min_three max_four min_four lt_0_1 lt_0_2 lt_1_2 lt_0_3 lt_1_3 lt_2_3 lt_0_4 lt_1_4 lt_2_4 lt_3_4 lt_0_5 lt_1_5 lt_2_5 lt_3_5 lt_4_5 lt_0_6 lt_1_6 lt_2_6 lt_3_6 lt_4_6 lt_5_6 lt_0_7 lt_1_7 lt_2_7 lt_3_7 lt_4_7 lt_5_7 lt_6_7 lt_0_8 lt_1_8 lt_2_8 lt_3_8 lt_4_8 lt_5_8 lt_6_8 lt_7_8
set_option linter.unusedVariables false
set_option linter.unusedSimpArgs false
theorem ins_runs (b0 : Nat) (w : World) (v0 : Value) (l : List S34) (x : S34) (ok : Nat → Prop) (i vb : Nat) (hi : i ≤ l.length) (hl : l.length ≤ 100) (hR : Kd.R k34 34 w b0 ok v0 l) (hb0 : b0 ≤ w.heap.size) (hv : w.heap[vb]? = some (.cells (cells1 x).toArray 34 (0, 0))) (hne : ∀ k, v0.ownBlock = some k → k ≠ vb) :
    Calls Try.prog 20 #[v0, .int .i64 (i : Int), .slice (some ⟨vb, 0, none⟩) 1 1] w fun e w' => ∃ v, e = .returned v ∧ Kd.R k34 34 w' b0 (fun _ => True) v (l.take i ++ (x :: l.drop i)) ∧ Below b0 w w' := by
  by_cases h : i = l.length
  · subst h
    rw [List.take_length, List.drop_length]
    exact ins_end b0 vb ok v0 l x w hR hb0 hl hv
  · have hlt : i < l.length := by omega
    obtain ⟨g, cap, rfl, hg1, hg2⟩ := R_own hR (by omega)
    by_cases hroom : l.length + 1 ≤ cap
    · exact (ins_room b0 g cap i vb ok l x w hR hlt hroom (fun e => hne g rfl e.symm) hv).mono fun _ _ ⟨v, he, h1, h2⟩ => ⟨v, he, Kd.R_mono h1 fun _ _ => trivial, h2⟩
    · exact ins_grow b0 g cap i vb ok l x w hR hlt (by omega) hl hb0 hv
/-- The first place whose socket has not the number of its place. -/
def atS : List S34 → Int → Int
  | [], k => k
  | x :: l, k => if (x.f0 == k + 1) = true then atS l (k + 1) else k
theorem atS_step {l : List S34} {k : Nat} (hk : k < l.length) : atS (l.drop k) k = if ((rd_T34 l (k : Int)).f0 == (k : Int) + 1) = true then atS (l.drop (k + 1)) ((k + 1 : Nat) : Int) else (k : Int) := by
  rw [List.drop_eq_getElem_cons hk, atS]
  have : rd_T34 l (k : Int) = l[k] := by unfold rd_T34; rw [Int.toNat_natCast, List.getD_eq_getElem?_getD, List.getElem?_eq_getElem hk]; rfl
  rw [this, Int.natCast_succ]
theorem atS_ge : ∀ (l : List S34) (k : Int), k ≤ atS l k
  | [], k => Int.le_refl _
  | x :: l, k => by
    unfold atS
    split
    · have := atS_ge l (k + 1); omega
    · exact Int.le_refl _
def newS (k r p : Int) : S34 := ⟨k + 1, 1, r, p, false, false⟩
def conZ (l : List S34) (r p : Int) : List S34 × Int × Bool := (l.take (atS l 0).toNat ++ (newS (atS l 0) r p :: l.drop (atS l 0).toNat), atS l 0 + 1, true)
def host_Connect.f (l0 : List S34) (a1 : Int) (a2 : Int) : Option (List S34 × Int × Bool) := if l0.length ≤ 100 then (okS l0).map (fun c => if c then (if (l0.length : Int) = 8 then (l0, 0, false) else if a2 / 65536 = 0 then conZ l0 a1 a2 else (l0, 0, false)) else (l0, 0, false)) else none
section
variable (P0_ : Nat → Prop) (A0 : Option Addr) (c0 : Nat) (l0 : List S34) (a1 a2 : Int) (w : World)
set_option maxHeartbeats 1600000 in
set_option maxRecDepth 100000 in
theorem con_no (q : Bool) (hs0 : Kd.V k34 34 w w.heap.size P0_ (.slice A0 l0.length c0) l0) (h : okS l0 = some q) (hq : q = true → (l0.length : Int) = 8 ∨ ¬ a2 / 65536 = 0) :
    Calls Try.prog 7 #[.slice A0 l0.length c0, .int .u32 a1, .int .i64 a2] w fun e w' => e = .returned (.tuple #[.slice A0 l0.length c0, .int .i64 0, .bool false]) ∧ Below w.heap.size w w' := by
  have HB := Aside0.mk (Below.refl w.heap.size w)
  have HR := Aside0.mk (V_C hs0).2
  have HC := Aside0.mk (V_C hs0).1
  have HK : Aside0 (host_Chkp.f (l0.length + 2) l0 = some q) := ⟨h⟩
  have HX := Aside0.mk hq
  clear hs0 h hq
  cases q <;> cases h8 : ((l0.length : Int) == 8) <;> cases hp : (a2 / 65536 != 0)
  case true.false.false => exact absurd (HX.out rfl) (by rw [beq_eq_false_iff_ne] at h8; rw [bne_eq_false_iff_eq] at hp; rintro (h | h); exact h8 h; exact h hp)
  all_goals
    go_enter Try.func7, Try.ntmps7
    go_wp2_with fail
    (go_at_call 18; (with_reducible refine (host_Chkp.calls (l0.length + 2) _ _ l0 _ _ HR.out HC.out HK.out).mono ?_); rintro e_ w1 ⟨rfl, hb_⟩; have HB_ : Aside0 (Below w.heap.size w w1) := Aside0.mk (below_step (bG HB) hb_); have hzw1 := hb_.size; (try simp at hzw1); clear HB hb_; have HB := HB_; clear HB_)
    go_wp2
    refine bodyPost_ret (v := .tuple #[.slice A0 l0.length c0, .int .i64 0, .bool false]) (by simp [results, Try.results7, go_sem] <;> first | assumption | omega | (symm; assumption)) rfl ?_
    exact ⟨rfl, (bG HB)⟩
set_option maxHeartbeats 8000000 in
set_option maxRecDepth 100000 in
theorem con_do (K : Nat) (hs0 : Kd.V k34 34 w w.heap.size P0_ (.slice A0 l0.length c0) l0) (h : okS l0 = some true) (hl : l0.length ≤ 100) (h8 : ((l0.length : Int) == 8) = false) (hp : (a2 / 65536 != 0) = false) (hK : atS l0 0 = (K : Int)) :
    Calls Try.prog 7 #[.slice A0 l0.length c0, .int .u32 a1, .int .i64 a2] w fun e w' => ∃ v, e = .returned (.tuple #[v, .int .i64 ((K : Int) + 1), .bool true]) ∧ Kd.R k34 34 w' w.heap.size (fun _ => True) v (l0.take K ++ (newS (K : Int) a1 a2 :: l0.drop K)) ∧ Below w.heap.size w w' := by
  have HB := Aside0.mk (Below.refl w.heap.size w)
  have HR := Aside0.mk (V_C hs0).2
  have HC := Aside0.mk (V_C hs0).1
  have HK0 : Aside0 (host_Chkp.f (l0.length + 2) l0 = some true) := ⟨h⟩
  have HL := Aside0.mk (cl_ok (l := l0) (by omega))
  have HQ := Aside0.mk hl
  have HI : Aside0 (atS (l0.drop 0) ((0 : Nat) : Int) = (K : Int)) := ⟨hK⟩
  have INF : Aside0 (∀ z : Int, (Try.prog.info? 34).map (·.size) = some (#[.int .i64 z, .int .i64 1, .int .u32 a1, .int .i64 a2, .bool false, .bool false] : Array Value).size) := ⟨fun z => by kernel_rfl⟩
  have ONE : Aside0 (∀ z : Int, (#[.int .i64 z, .int .i64 1, .int .u32 a1, .int .i64 a2, .bool false, .bool false] : Array Value).all (·.oneCell') = true) := ⟨fun z => by simp [Value.oneCell']⟩
  clear hs0 h hK
  go_enter Try.func7, Try.ntmps7
  go_wp2_with fail
  (go_at_call 18; (with_reducible refine (host_Chkp.calls (l0.length + 2) _ _ l0 _ _ HR.out HC.out HK0.out).mono ?_); rintro e_ w1 ⟨rfl, hb_⟩; have HB_ : Aside0 (Below w.heap.size w w1) := Aside0.mk (below_step (bG HB) hb_); have hzw1 := hb_.size; (try simp at hzw1); clear HB hb_; have HB := HB_; clear HB_)
  go_wp2
  go_loop [9] (fun i => ∃ k : Nat, k ≤ l0.length ∧ i = .int .i64 k ∧ Aside0 (atS (l0.drop k) (k : Int) = (K : Int))) (fun i => l0.length - (intOf i).toNat)
  case atStart => exact ⟨0, Nat.zero_le _, rfl, HI⟩
  case round =>
    clear HI
    obtain ⟨k, hk, rfl, HK⟩ := hrel
    have hw : IntKind.i64.wrap ((k : Int) + 1) = (k : Int) + 1 := by rw [IntKind.wrap_i64]; omega
    by_cases hlt : k < l0.length
    · obtain ⟨ad, rfl, hc0, hc1, hc2, hc3, hc4, hc5⟩ := at_T34 (Kd.C_below HR.out HB.out) (k : Int) (by omega) (by omega)
      rw [Int.toNat_natCast] at hc0 hc1 hc2 hc3 hc4 hc5
      have hK := HK.out
      rw [atS_step hlt] at hK
      clear HK
      cases hp1 : ((rd_T34 l0 (k : Int)).f0 == (k : Int) + 1)
      · rw [hp1, if_neg (by decide)] at hK
        obtain rfl : k = K := by omega
        clear hK
        go_wp2_with (first | ((with_reducible refine gate_store (t := 34) (p := 10) (v := .tmp 45) rfl ?_); refine wpList_store_all rfl 34 _ _ rfl rfl _ (#[.int .i64 ((k : Int) + 1), .int .i64 1, .int .u32 a1, .int .i64 a2, .bool false, .bool false]) (by rfl) (by rfl) _ _ (nb_1 _ _) rfl (INF.out _) (ONE.out _) ?_; rintro w3 ⟨hx_, hk_, hb_, hzz_⟩; have HB_ : Aside0 (Below w.heap.size w w3) := Aside0.mk (Below.trans (bG HB) (Below.mono hb_ (by first | omega | (simp only [sz_alloc, sz_drew, sz_drewN]; omega)))); have hzw3 := hzz_; (try simp at hzw3); clear hzz_; (try clear ox oxc oxf oxl); have ox := Aside0.mk hx_; obtain ⟨oxc, oxf, oxl⟩ := cells_of ox.out; clear HB hb_ hk_ hx_; have HB := HB_; clear HB_))
        go_region_with (first
          | ((go_at_call 21; (with_reducible refine (api_Sock_21.calls _ _ l0 _ _ (Kd.C_below HR.out (bG HB)) HC.out HL.out).mono ?_); rintro e_ w4 ⟨v0, rfl, hR, hb_⟩; have HB_ : Aside0 (Below w.heap.size w w4) := Aside0.mk (below_step (bG HB) hb_); have hzw4 := hb_.size; (try simp at hzw4); have ox_ := Aside0.mk (box_below hb_ (eG ox)); have ov_ := Aside0.mk (box_below hb_ (by repeat (with_reducible first | exact nb_1 w3 _ | apply ext_drew | apply ext_drewN | apply ext_alloc | refine blk_far ?_ (by show _ ≠ _; dsimp only; omega) _))); (try clear ox oxc oxf oxl); have ox := ox_; clear ox_; obtain ⟨oxc, oxf, oxl⟩ := cells_of ox.out; (try clear ov ovc ovf ovl); have ov := ov_; clear ov_; obtain ⟨ovc, ovf, ovl⟩ := cells_of ov.out; clear HB hb_; have HB := HB_; clear HB_; have hR_ := Aside0.mk hR; clear hR; have hR := hR_; clear hR_; skip); obtain ⟨B_, hB_, hR⟩ : ∃ B_, (w3.heap.size + 1 ≤ B_ ∧ B_ ≤ w4.heap.size) ∧ Aside0 (Kd.R k34 34 w4 B_ (fun _ => True) v0 l0) := ⟨_, ⟨by (try simp only [sz_alloc, sz_drew, sz_drewN]); omega, by (try simp only [sz_alloc, sz_drew, sz_drewN]); omega⟩, hR⟩; obtain ⟨hB1, hB2⟩ := hB_)
          | ((go_at_call 21; (with_reducible refine (api_Sock_21.calls _ _ l0 _ _ (Kd.C_below HR.out (bG HB)) HC.out HL.out).mono ?_); rintro e_ w4 ⟨v0, rfl, hR, hb_⟩; have HB_ : Aside0 (Below w.heap.size w w4) := Aside0.mk (below_step (bG HB) hb_); have hzw4 := hb_.size; (try simp at hzw4); have ox_ := Aside0.mk (box_below hb_ (eG ox)); (try clear ox oxc oxf oxl); have ox := ox_; clear ox_; obtain ⟨oxc, oxf, oxl⟩ := cells_of ox.out; clear HB hb_; have HB := HB_; clear HB_; have hR_ := Aside0.mk hR; clear hR; have hR := hR_; clear hR_; skip); obtain ⟨B_, hB_, hR⟩ : ∃ B_, (w3.heap.size ≤ B_ ∧ B_ ≤ w4.heap.size) ∧ Aside0 (Kd.R k34 34 w4 B_ (fun _ => True) v0 l0) := ⟨_, ⟨by (try simp only [sz_alloc, sz_drew, sz_drewN]); omega, by (try simp only [sz_alloc, sz_drew, sz_drewN]); omega⟩, hR⟩; obtain ⟨hB1, hB2⟩ := hB_)
          | (go_at_call 20; (with_reducible refine Calls.mono (ins_runs B_ _ _ l0 (newS (k : Int) a1 a2) (fun _ => True) k _ hk HQ.out (by (repeat (first | exact hR.out | (with_reducible refine Kd.R_alloc ?_ _) | (with_reducible refine Kd.R_drewN ?_ _) | (with_reducible refine Kd.R_drew ?_)))) (by (try simp only [sz_alloc, sz_drew, sz_drewN]); omega) (show _ = some (Obj.cells #[.int .i64 ((k : Int) + 1), .int .i64 1, .int .u32 a1, .int .i64 a2, .bool false, .bool false] 34 (0, 0)) from (by repeat (with_reducible first | first | exact ov.out | (rw [← hzw3]; exact ov.out) | exact nb_1 _ _ | apply ext_drew | apply ext_drewN | apply ext_alloc | refine blk_far ?_ (by show _ ≠ _; dsimp only; omega) _))) (fun k_ hk_ => by have h1_ := Kd.R_base hR.out k_ hk_; have h2_ := Kd.R_lt hR.out k_ hk_; (try simp only [sz_alloc, sz_drew, sz_drewN]); omega)) ?_); rintro e_ w5 ⟨v1, rfl, hR1_, hb_⟩; have hR1 := Aside0.mk (Kd.R_lower hR1_ (show w.heap.size ≤ B_ by omega)); have HB_ : Aside0 (Below w.heap.size w w5) := Aside0.mk (Below.trans (bG HB) (Below.mono hb_ (show w.heap.size ≤ B_ by omega))); have ox_ := Aside0.mk ((hb_.block w1.heap.size (by omega)).trans (eG ox)); (try clear ox oxc oxf oxl); have ox := ox_; clear ox_; obtain ⟨oxc, oxf, oxl⟩ := cells_of ox.out;  clear HB hb_ hR1_; have HB := HB_; clear HB_))
        all_goals (go_wp2; (refine bodyPost_ret (v := .tuple #[v1, .int .i64 ((k : Int) + 1), .bool true]) (by simp [results, Try.results7, go_sem] <;> first | assumption | omega | (symm; assumption)) rfl ?_); exact ⟨_, rfl, hR1.out, HB.out⟩)
      · rw [hp1, if_pos rfl] at hK
        have HK := Aside0.mk hK
        clear hK
        go_wp2
        go_round
        case rel => exact ⟨k + 1, by omega, by go_num, HK⟩
        case measure => simp [intOf]; omega
    · have hK := HK.out
      rw [List.drop_of_length_le (by omega)] at hK
      obtain rfl : k = K := by have : (k : Int) = (K : Int) := hK; omega
      clear HK hK
      go_wp2_with (first | ((with_reducible refine gate_store (t := 34) (p := 10) (v := .tmp 45) rfl ?_); refine wpList_store_all rfl 34 _ _ rfl rfl _ (#[.int .i64 ((k : Int) + 1), .int .i64 1, .int .u32 a1, .int .i64 a2, .bool false, .bool false]) (by rfl) (by rfl) _ _ (nb_1 _ _) rfl (INF.out _) (ONE.out _) ?_; rintro w3 ⟨hx_, hk_, hb_, hzz_⟩; have HB_ : Aside0 (Below w.heap.size w w3) := Aside0.mk (Below.trans (bG HB) (Below.mono hb_ (by first | omega | (simp only [sz_alloc, sz_drew, sz_drewN]; omega)))); have hzw3 := hzz_; (try simp at hzw3); clear hzz_; (try clear ox oxc oxf oxl); have ox := Aside0.mk hx_; obtain ⟨oxc, oxf, oxl⟩ := cells_of ox.out; clear HB hb_ hk_ hx_; have HB := HB_; clear HB_))
      go_region_with (first
        | ((go_at_call 21; (with_reducible refine (api_Sock_21.calls _ _ l0 _ _ (Kd.C_below HR.out (bG HB)) HC.out HL.out).mono ?_); rintro e_ w4 ⟨v0, rfl, hR, hb_⟩; have HB_ : Aside0 (Below w.heap.size w w4) := Aside0.mk (below_step (bG HB) hb_); have hzw4 := hb_.size; (try simp at hzw4); have ox_ := Aside0.mk (box_below hb_ (eG ox)); have ov_ := Aside0.mk (box_below hb_ (by repeat (with_reducible first | exact nb_1 w3 _ | apply ext_drew | apply ext_drewN | apply ext_alloc | refine blk_far ?_ (by show _ ≠ _; dsimp only; omega) _))); (try clear ox oxc oxf oxl); have ox := ox_; clear ox_; obtain ⟨oxc, oxf, oxl⟩ := cells_of ox.out; (try clear ov ovc ovf ovl); have ov := ov_; clear ov_; obtain ⟨ovc, ovf, ovl⟩ := cells_of ov.out; clear HB hb_; have HB := HB_; clear HB_; have hR_ := Aside0.mk hR; clear hR; have hR := hR_; clear hR_; skip); obtain ⟨B_, hB_, hR⟩ : ∃ B_, (w3.heap.size + 1 ≤ B_ ∧ B_ ≤ w4.heap.size) ∧ Aside0 (Kd.R k34 34 w4 B_ (fun _ => True) v0 l0) := ⟨_, ⟨by (try simp only [sz_alloc, sz_drew, sz_drewN]); omega, by (try simp only [sz_alloc, sz_drew, sz_drewN]); omega⟩, hR⟩; obtain ⟨hB1, hB2⟩ := hB_)
        | ((go_at_call 21; (with_reducible refine (api_Sock_21.calls _ _ l0 _ _ (Kd.C_below HR.out (bG HB)) HC.out HL.out).mono ?_); rintro e_ w4 ⟨v0, rfl, hR, hb_⟩; have HB_ : Aside0 (Below w.heap.size w w4) := Aside0.mk (below_step (bG HB) hb_); have hzw4 := hb_.size; (try simp at hzw4); have ox_ := Aside0.mk (box_below hb_ (eG ox)); (try clear ox oxc oxf oxl); have ox := ox_; clear ox_; obtain ⟨oxc, oxf, oxl⟩ := cells_of ox.out; clear HB hb_; have HB := HB_; clear HB_; have hR_ := Aside0.mk hR; clear hR; have hR := hR_; clear hR_; skip); obtain ⟨B_, hB_, hR⟩ : ∃ B_, (w3.heap.size ≤ B_ ∧ B_ ≤ w4.heap.size) ∧ Aside0 (Kd.R k34 34 w4 B_ (fun _ => True) v0 l0) := ⟨_, ⟨by (try simp only [sz_alloc, sz_drew, sz_drewN]); omega, by (try simp only [sz_alloc, sz_drew, sz_drewN]); omega⟩, hR⟩; obtain ⟨hB1, hB2⟩ := hB_)
        | (go_at_call 20; (with_reducible refine Calls.mono (ins_runs B_ _ _ l0 (newS (k : Int) a1 a2) (fun _ => True) k _ hk HQ.out (by (repeat (first | exact hR.out | (with_reducible refine Kd.R_alloc ?_ _) | (with_reducible refine Kd.R_drewN ?_ _) | (with_reducible refine Kd.R_drew ?_)))) (by (try simp only [sz_alloc, sz_drew, sz_drewN]); omega) (show _ = some (Obj.cells #[.int .i64 ((k : Int) + 1), .int .i64 1, .int .u32 a1, .int .i64 a2, .bool false, .bool false] 34 (0, 0)) from (by repeat (with_reducible first | first | exact ov.out | (rw [← hzw3]; exact ov.out) | exact nb_1 _ _ | apply ext_drew | apply ext_drewN | apply ext_alloc | refine blk_far ?_ (by show _ ≠ _; dsimp only; omega) _))) (fun k_ hk_ => by have h1_ := Kd.R_base hR.out k_ hk_; have h2_ := Kd.R_lt hR.out k_ hk_; (try simp only [sz_alloc, sz_drew, sz_drewN]); omega)) ?_); rintro e_ w5 ⟨v1, rfl, hR1_, hb_⟩; have hR1 := Aside0.mk (Kd.R_lower hR1_ (show w.heap.size ≤ B_ by omega)); have HB_ : Aside0 (Below w.heap.size w w5) := Aside0.mk (Below.trans (bG HB) (Below.mono hb_ (show w.heap.size ≤ B_ by omega))); have ox_ := Aside0.mk ((hb_.block w1.heap.size (by omega)).trans (eG ox)); (try clear ox oxc oxf oxl); have ox := ox_; clear ox_; obtain ⟨oxc, oxf, oxl⟩ := cells_of ox.out;  clear HB hb_ hR1_; have HB := HB_; clear HB_))
      all_goals (go_wp2; (refine bodyPost_ret (v := .tuple #[v1, .int .i64 ((k : Int) + 1), .bool true]) (by simp [results, Try.results7, go_sem] <;> first | assumption | omega | (symm; assumption)) rfl ?_); exact ⟨_, rfl, hR1.out, HB.out⟩)
theorem host_Connect_c (r1 : List S34) (r2 : Int) (r3 : Bool) (hs0 : Kd.V k34 34 w w.heap.size (fun k_ => P0_ k_) (.slice A0 l0.length c0) l0) (h : host_Connect.f l0 a1 a2 = some (r1, r2, r3)) :
    Calls Try.prog 7 #[.slice A0 l0.length c0, .int .u32 a1, .int .i64 a2] w fun e w' => ∃ v0_ : Value, e = .returned (.tuple #[v0_, .int .i64 r2, .bool r3]) ∧ Kd.V k34 34 w' w.heap.size (fun k_ => (P0_ k_ ∨ w.heap.size ≤ k_)) v0_ r1 ∧ Below w.heap.size w w' := by
  unfold host_Connect.f at h
  split at h
  case isFalse => cases h
  case isTrue hl =>
  obtain ⟨q, hq, h⟩ := Option.map_eq_some_iff.1 h
  have hno : ∀ {e : Ending} {w' : World}, (e = .returned (.tuple #[.slice A0 l0.length c0, .int .i64 0, .bool false]) ∧ Below w.heap.size w w') → ∃ v0_ : Value, e = .returned (.tuple #[v0_, .int .i64 0, .bool false]) ∧ Kd.V k34 34 w' w.heap.size (fun k_ => (P0_ k_ ∨ w.heap.size ≤ k_)) v0_ l0 ∧ Below w.heap.size w w' := fun h => ⟨_, h.1, V_stay hs0 h.2, h.2⟩
  cases q with
  | false =>
    obtain ⟨rfl, rfl, rfl⟩ : l0 = r1 ∧ (0 : Int) = r2 ∧ false = r3 := by simpa using h
    exact (con_no P0_ A0 c0 l0 a1 a2 w false hs0 hq (fun h => by cases h)).mono fun _ _ h => hno h
  | true =>
    rw [if_pos rfl] at h
    by_cases h8 : (l0.length : Int) = 8
    · rw [if_pos h8] at h
      obtain ⟨rfl, rfl, rfl⟩ : l0 = r1 ∧ (0 : Int) = r2 ∧ false = r3 := by simpa using h
      exact (con_no P0_ A0 c0 l0 a1 a2 w true hs0 hq (fun _ => .inl h8)).mono fun _ _ h => hno h
    · rw [if_neg h8] at h
      by_cases hp : a2 / 65536 = 0
      · rw [if_pos hp] at h
        unfold conZ at h
        obtain ⟨K, hK⟩ : ∃ K : Nat, atS l0 0 = (K : Int) := ⟨(atS l0 0).toNat, by have := atS_ge l0 0; omega⟩
        rw [hK] at h
        simp only [Int.toNat_natCast, Prod.mk.injEq] at h
        obtain ⟨rfl, rfl, rfl⟩ := h
        exact (con_do P0_ A0 c0 l0 a1 a2 w K hs0 hq hl (beq_eq_false_iff_ne.2 h8) (bne_eq_false_iff_eq.2 hp) hK).mono fun _ _ ⟨v, he, hR, hb⟩ => ⟨v, he, V_new hR, hb⟩
      · rw [if_neg hp] at h
        obtain ⟨rfl, rfl, rfl⟩ : l0 = r1 ∧ (0 : Int) = r2 ∧ false = r3 := by simpa using h
        exact (con_no P0_ A0 c0 l0 a1 a2 w true hs0 hq (fun _ => .inr hp)).mono fun _ _ h => hno h
end
theorem host_Connect.calls (P0_ : Nat → Prop) (A0 : Option Addr) (c0 : Nat) (l0 : List (S34)) (a1 : Int) (a2 : Int) (r1 : List (S34)) (r2 : Int) (r3 : Bool) (w : World) (hs0 : Kd.V k34 34 w w.heap.size (fun k_ => P0_ k_) (.slice A0 l0.length c0) l0) (h : host_Connect.f l0 a1 a2 = some (r1, r2, r3)) :
    Calls Try.prog 7 #[.slice A0 l0.length c0, .int .u32 a1, .int .i64 a2] w fun e w' => ∃ v0_ : Value, e = .returned (.tuple #[v0_, .int .i64 r2, .bool r3]) ∧ Kd.V k34 34 w' w.heap.size (fun k_ => (P0_ k_ ∨ w.heap.size ≤ k_)) v0_ r1 ∧ Below w.heap.size w w' := host_Connect_c P0_ A0 c0 l0 a1 a2 w r1 r2 r3 hs0 h
end Go.Proofs.Ytijdplpmcnhlbaa.Q
