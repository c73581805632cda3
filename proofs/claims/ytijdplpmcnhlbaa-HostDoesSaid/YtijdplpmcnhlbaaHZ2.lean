import Derived.Test.YtijdplpmcnhlbaaHZ1
import Derived.Test.YtijdplpmcnhlbaaHHck0
import Derived.RegionTactic
import Derived.BigRegion
import Derived.Lib.SliceRun
import Derived.Lib.AppendZerosOnto
import Derived.Lib.Overlaps
import Derived.Deep.RegionLaw
import Derived.Deep.AppendSrc
section
/- slices.IndexFunc over sockets, with place's test; place. -/
namespace Go.Proofs.Ytijdplpmcnhlbaa.Q
open Go.RowKit Go.Proofs.YtijdplpmcnhlbaaW.PrintWords Go.Proofs.YtijdplpmcnhlbaaW.PrintLast Go.Proofs.YtijdplpmcnhlbaaW.PrintMore Go.Proofs.Ytijdplpmcnhlbaa.L
attribute [local go_sem] Instr.field part asAgg lt_step max2_int min2_int max_two min_two max_three min_three max_four min_four lt_0_1 lt_0_2 lt_1_2 lt_0_3 lt_1_3 lt_2_3 lt_0_4 lt_1_4 lt_2_4 lt_3_4 lt_0_5 lt_1_5 lt_2_5 lt_3_5 lt_4_5 lt_0_6 lt_1_6 lt_2_6 lt_3_6 lt_4_6 lt_5_6 lt_0_7 lt_1_7 lt_2_7 lt_3_7 lt_4_7 lt_5_7 lt_6_7 lt_0_8 lt_1_8 lt_2_8 lt_3_8 lt_4_8 lt_5_8 lt_6_8 lt_7_8
set_option linter.unusedVariables false
set_option linter.unusedSimpArgs false
/-- The place of the first that has a number; -1. -/
def idxS (n : Int) : List S34 → Int → Int
  | [], _ => -1
  | x :: l, i => if (x.f0 == n) = true then i else idxS n l (i + 1)
theorem idxS_step {n : Int} {l : List S34} {k : Nat} (hk : k < l.length) : idxS n (l.drop k) k = if ((rd_T34 l (k : Int)).f0 == n) = true then (k : Int) else idxS n (l.drop (k + 1)) ((k + 1 : Nat) : Int) := by
  rw [List.drop_eq_getElem_cons hk, idxS]
  have : rd_T34 l (k : Int) = l[k] := by unfold rd_T34; rw [Int.toNat_natCast, List.getD_eq_getElem?_getD, List.getElem?_eq_getElem hk]; rfl
  rw [this, Int.natCast_succ]
theorem same_runs (g : Nat) (n : Int) (x0 x1 x2 x3 : Int) (x4 x5 : Bool) (w : World) (hg : w.heap[g]? = some (.cells #[.int .i64 n] 3 (0, 0))) :
    Calls Try.prog 34 #[.agg #[.int .i64 x0, .int .i64 x1, .int .u32 x2, .int .i64 x3, .bool x4, .bool x5], .pointer (some ⟨g, 0, none⟩)] w fun e w' => e = .returned (.bool (x0 == n)) ∧ Below w.heap.size w w' := by
  have HB := Aside0.mk (Below.refl w.heap.size w)
  obtain ⟨hc, hf, hl⟩ := cells_of hg
  have HG := Aside0.mk hg
  clear hg
  go_enter Try.func34, Try.ntmps34
  go_wp2
  go_ret
  exact ⟨rfl, (bG HB)⟩
set_option maxHeartbeats 1600000 in
set_option maxRecDepth 100000 in
theorem index_runs (g : Nat) (n : Int) (A0 : Option Addr) (c0 : Nat) (l0 : List S34) (w : World) (hr0 : Kd.C k34 w A0 l0.length l0) (hg : w.heap[g]? = some (.cells #[.int .i64 n] 3 (0, 0))) :
    Calls Try.prog 33 #[.slice A0 l0.length c0, .func (.func 34) #[] #[.pointer (some ⟨g, 0, none⟩)]] w fun e w' => e = .returned (.int .i64 (idxS n l0 0)) ∧ Below w.heap.size w w' := by
  have HB := Aside0.mk (Below.refl w.heap.size w)
  have HR0 := Aside0.mk hr0
  have hm : l0.length ≤ 9223372036854775807 := hr0.2.1
  have oa := Aside0.mk hg
  clear hg
  obtain ⟨R, hR⟩ : ∃ R, idxS n l0 0 = R := ⟨_, rfl⟩
  have HI : Aside0 (idxS n (l0.drop 0) ((0 : Nat) : Int) = R) := ⟨hR⟩
  rw [hR]
  clear hr0 hR
  go_enter Try.func33, Try.ntmps33
  go_wp2
  go_loopw [8] (fun i wx => ∃ k : Nat, k ≤ l0.length ∧ i = .int .i64 k ∧ Aside0 (idxS n (l0.drop k) (k : Int) = R) ∧ Aside0 (wx.heap[g]? = some (.cells #[.int .i64 n] 3 (0, 0))) ∧ Aside0 (Below w.heap.size w wx)) (fun i _ => l0.length - (intOf i).toNat)
  case atStart => exact ⟨0, Nat.zero_le _, rfl, HI, oa, HB⟩
  case round =>
    clear HI oa HB
    obtain ⟨k, hk, rfl, HK, oa, HB⟩ := hrel
    have hz := HB.out.size
    by_cases hlt : k < l0.length
    · obtain ⟨ad, rfl, hc0, hc1, hc2, hc3, hc4, hc5⟩ := at_T34 (Kd.C_below HR0.out HB.out) (k : Int) (by omega) (by omega)
      rw [Int.toNat_natCast] at hc0 hc1 hc2 hc3 hc4 hc5
      have hK := HK.out
      rw [idxS_step hlt] at hK
      clear HK
      cases hp : ((rd_T34 l0 (k : Int)).f0 == n)
      · rw [hp, if_neg (by decide)] at hK
        have HK := Aside0.mk hK
        clear hK
        go_wp2_with fail
        (go_at_call 34; (with_reducible refine (same_runs g n _ _ _ _ _ _ _ (eG oa)).mono ?_); rintro e_ w1 ⟨rfl, hb_⟩; have HB_ : Aside0 (Below w.heap.size w w1) := Aside0.mk (below_step (bG HB) hb_); have hzw1 := hb_.size; (try simp at hzw1); have oa_ := Aside0.mk (box_below hb_ (eG oa)); (try clear oa oac oaf oal); have oa := oa_; clear oa_; obtain ⟨oac, oaf, oal⟩ := cells_of oa.out; clear HB hb_; have HB := HB_; clear HB_)
        rw [hp]
        go_wp2
        go_roundw
        case rel => exact ⟨k + 1, by omega, by go_num, HK, oa, HB⟩
        case measure => simp [intOf]; omega
      · rw [hp, if_pos rfl] at hK
        have HK := Aside0.mk hK
        clear hK
        go_wp2_with fail
        (go_at_call 34; (with_reducible refine (same_runs g n _ _ _ _ _ _ _ (eG oa)).mono ?_); rintro e_ w1 ⟨rfl, hb_⟩; have HB_ : Aside0 (Below w.heap.size w w1) := Aside0.mk (below_step (bG HB) hb_); have hzw1 := hb_.size; (try simp at hzw1); have oa_ := Aside0.mk (box_below hb_ (eG oa)); (try clear oa oac oaf oal); have oa := oa_; clear oa_; obtain ⟨oac, oaf, oal⟩ := cells_of oa.out; clear HB hb_; have HB := HB_; clear HB_)
        rw [hp]
        go_wp2
        go_ret
        exact ⟨by rw [← HK.out]; rfl, HB.out⟩
    · have hK := HK.out
      rw [List.drop_of_length_le (by omega)] at hK
      have HK2 : Aside0 ((-1 : Int) = R) := ⟨hK⟩
      clear HK hK
      go_wp2
      go_ret
      exact ⟨by rw [← HK2.out]; rfl, HB.out⟩
def okS (l : List S34) : Option Bool := host_Chkp.f (l.length + 2) l
def plS (l : List S34) (n : Int) : Int := idxS n l 0
def host_place.f (l0 : List S34) (a1 : Int) : Option Int := (okS l0).map fun c => if c then plS l0 a1 else -1
set_option maxHeartbeats 1600000 in
set_option maxRecDepth 100000 in
theorem place_bad (A0 : Option Addr) (c0 : Nat) (l0 : List S34) (a1 : Int) (w : World) (hr0 : Kd.C k34 w A0 l0.length l0) (hc0 : l0.length ≤ c0) (h : okS l0 = some false) :
    Calls Try.prog 22 #[.slice A0 l0.length c0, .int .i64 a1] w fun e w' => e = .returned (.int .i64 (-1)) ∧ Below w.heap.size w w' := by
  have HB := Aside0.mk (Below.refl w.heap.size w)
  have HR := Aside0.mk hr0
  have HC := Aside0.mk hc0
  have HK : Aside0 (host_Chkp.f (l0.length + 2) l0 = some false) := ⟨h⟩
  clear hr0 hc0 h
  go_enter Try.func22, Try.ntmps22
  go_wp2_with fail
  (go_at_call 18; (with_reducible refine (host_Chkp.calls (l0.length + 2) _ _ l0 _ _ (Kd.C_alloc HR.out _) HC.out HK.out).mono ?_); rintro e_ w1 ⟨rfl, hb_⟩; have HB_ : Aside0 (Below w.heap.size w w1) := Aside0.mk (below_step (bG HB) hb_); have hzw1 := hb_.size; (try simp at hzw1); clear HB hb_; have HB := HB_; clear HB_)
  go_wp2
  go_ret
  exact ⟨rfl, (bG HB)⟩
set_option maxHeartbeats 1600000 in
set_option maxRecDepth 100000 in
theorem place_ok (A0 : Option Addr) (c0 : Nat) (l0 : List S34) (a1 : Int) (w : World) (hr0 : Kd.C k34 w A0 l0.length l0) (hc0 : l0.length ≤ c0) (h : okS l0 = some true) :
    Calls Try.prog 22 #[.slice A0 l0.length c0, .int .i64 a1] w fun e w' => e = .returned (.int .i64 (plS l0 a1)) ∧ Below w.heap.size w w' := by
  have HB := Aside0.mk (Below.refl w.heap.size w)
  have HR := Aside0.mk hr0
  have HC := Aside0.mk hc0
  have HK : Aside0 (host_Chkp.f (l0.length + 2) l0 = some true) := ⟨h⟩
  clear hr0 hc0 h
  go_enter Try.func22, Try.ntmps22
  go_wp2_with fail
  (go_at_call 18; (with_reducible refine (host_Chkp.calls (l0.length + 2) _ _ l0 _ _ (Kd.C_alloc HR.out _) HC.out HK.out).mono ?_); rintro e_ w1 ⟨rfl, hb_⟩; have HB_ : Aside0 (Below w.heap.size w w1) := Aside0.mk (below_step (bG HB) hb_); have hzw1 := hb_.size; (try simp at hzw1); have oa_ := Aside0.mk (box_below hb_ (by repeat (with_reducible first | exact nb_1 w _ | apply ext_drew | apply ext_drewN | apply ext_alloc | refine blk_far ?_ (by show _ ≠ _; dsimp only; omega) _))); (try clear oa oac oaf oal); have oa := oa_; clear oa_; obtain ⟨oac, oaf, oal⟩ := cells_of oa.out; clear HB hb_; have HB := HB_; clear HB_)
  go_wp2_with fail
  (go_at_call 33; (with_reducible refine (index_runs _ a1 _ _ l0 _ (Kd.C_below HR.out HB.out) (eG oa)).mono ?_); rintro e_ w2 ⟨rfl, hb_⟩; have HB_ : Aside0 (Below w.heap.size w w2) := Aside0.mk (below_step (bG HB) hb_); have hzw2 := hb_.size; (try simp at hzw2); have oa_ := Aside0.mk (box_below hb_ (eG oa)); (try clear oa oac oaf oal); have oa := oa_; clear oa_; obtain ⟨oac, oaf, oal⟩ := cells_of oa.out; clear HB hb_; have HB := HB_; clear HB_)
  go_wp2
  go_ret
  exact ⟨rfl, (bG HB)⟩
theorem host_place.calls (A0 : Option Addr) (c0 : Nat) (l0 : List S34) (a1 : Int) (r : Int) (w : World) (hr0 : Kd.C k34 w A0 l0.length l0) (hc0 : l0.length ≤ c0) (h : host_place.f l0 a1 = some r) :
    Calls Try.prog 22 #[.slice A0 l0.length c0, .int .i64 a1] w fun e w' => e = .returned (.int .i64 r) ∧ Below w.heap.size w w' := by
  unfold host_place.f at h
  cases hk : okS l0 with
  | none => rw [hk] at h; cases h
  | some b =>
    rw [hk] at h
    cases b with
    | false => obtain rfl := Option.some.inj h; exact place_bad A0 c0 l0 a1 w hr0 hc0 hk
    | true => obtain rfl := Option.some.inj h; exact place_ok A0 c0 l0 a1 w hr0 hc0 hk
end Go.Proofs.Ytijdplpmcnhlbaa.Q
end
section
/- host.change, with each of the three tests that the program hands in; Find. -/
namespace Go.Proofs.Ytijdplpmcnhlbaa.Q
open Go.RowKit Go.Proofs.YtijdplpmcnhlbaaW.PrintWords Go.Proofs.YtijdplpmcnhlbaaW.PrintLast Go.Proofs.YtijdplpmcnhlbaaW.PrintMore Go.Proofs.Ytijdplpmcnhlbaa.L
attribute [local go_sem] Instr.field part asAgg lt_step max2_int min2_int max_two min_two max_three min_three max_four min_four lt_0_1 lt_0_2 lt_1_2 lt_0_3 lt_1_3 lt_2_3 lt_0_4 lt_1_4 lt_2_4 lt_3_4 lt_0_5 lt_1_5 lt_2_5 lt_3_5 lt_4_5 lt_0_6 lt_1_6 lt_2_6 lt_3_6 lt_4_6 lt_5_6 lt_0_7 lt_1_7 lt_2_7 lt_3_7 lt_4_7 lt_5_7 lt_6_7 lt_0_8 lt_1_8 lt_2_8 lt_3_8 lt_4_8 lt_5_8 lt_6_8 lt_7_8
set_option linter.unusedVariables false
set_option linter.unusedSimpArgs false
def mapS (m : Nat) (x : S34) : S34 := if m = 1 then { x with f1 := 2 } else if m = 4 then { x with f4 := true } else { x with f5 := true }
def setS (l : List S34) (i : Int) (m : Nat) : List S34 := l.set i.toNat (mapS m (rd_T34 l i))
theorem open_runs (g o : Nat) (u : Value) (w : World) (hc : w.cell? ⟨g, o + 1, none⟩ = some u) (hf : w.frozen? ⟨g, o + 1, none⟩ = false) :
    Calls Try.prog 24 #[.pointer (some ⟨g, o, none⟩)] w fun e w' => e = .returned (.tuple #[]) ∧ w' = w.setCell ⟨g, o + 1, none⟩ (.int .i64 2) := by
  go_enter Try.func24, Try.ntmps24
  go_wp2
  first | go_end0 | (refine bodyPost_ret (v := .tuple #[]) (by simp [results, Try.results24, go_sem] <;> first | assumption | omega | (symm; assumption)) rfl ?_)
  exact ⟨rfl, rfl⟩
theorem eof_runs (g o : Nat) (u : Value) (w : World) (hc : w.cell? ⟨g, o + 4, none⟩ = some u) (hf : w.frozen? ⟨g, o + 4, none⟩ = false) :
    Calls Try.prog 25 #[.pointer (some ⟨g, o, none⟩)] w fun e w' => e = .returned (.tuple #[]) ∧ w' = w.setCell ⟨g, o + 4, none⟩ (.bool true) := by
  go_enter Try.func25, Try.ntmps25
  go_wp2
  first | go_end0 | (refine bodyPost_ret (v := .tuple #[]) (by simp [results, Try.results25, go_sem] <;> first | assumption | omega | (symm; assumption)) rfl ?_)
  exact ⟨rfl, rfl⟩
theorem shut_runs (g o : Nat) (u : Value) (w : World) (hc : w.cell? ⟨g, o + 5, none⟩ = some u) (hf : w.frozen? ⟨g, o + 5, none⟩ = false) :
    Calls Try.prog 27 #[.pointer (some ⟨g, o, none⟩)] w fun e w' => e = .returned (.tuple #[]) ∧ w' = w.setCell ⟨g, o + 5, none⟩ (.bool true) := by
  go_enter Try.func27, Try.ntmps27
  go_wp2
  first | go_end0 | (refine bodyPost_ret (v := .tuple #[]) (by simp [results, Try.results27, go_sem] <;> first | assumption | omega | (symm; assumption)) rfl ?_)
  exact ⟨rfl, rfl⟩
theorem row_set {w : World} {base g n cap : Nat} {ok : Nat → Prop} {l : List S34} (h : Kd.R k34 34 w base ok (.slice (some ⟨g, 0, none⟩) n cap) l) (i : Int) (h0 : 0 ≤ i) (h1 : i < n) (j : Nat) (hj : j < 6) (u : Value) (x' : S34)
    (hx : ([.int .i64 (rd_T34 l i).f0, .int .i64 (rd_T34 l i).f1, .int .u32 (rd_T34 l i).f2, .int .i64 (rd_T34 l i).f3, .bool (rd_T34 l i).f4, .bool (rd_T34 l i).f5] : List Value).set j u = [.int .i64 x'.f0, .int .i64 x'.f1, .int .u32 x'.f2, .int .i64 x'.f3, .bool x'.f4, .bool x'.f5]) :
    (∃ v, w.cell? ⟨g, i.toNat * 6 + j, none⟩ = some v) ∧ w.frozen? ⟨g, i.toNat * 6 + j, none⟩ = false ∧ Kd.R k34 34 (w.setCell ⟨g, i.toNat * 6 + j, none⟩ u) base ok (.slice (some ⟨g, 0, none⟩) n cap) (l.set i.toNat x') := by
  obtain ⟨c, hcl, hM, hcc, hfz⟩ := Kd.R_elem h z34 i h0 h1
  have e := k34_openM hM
  have hc6 : c.length = 6 := hcl
  have hcs : ∃ v, c[j]? = some v := ⟨_, List.getElem?_eq_getElem (by omega)⟩
  obtain ⟨v, hv⟩ := hcs
  refine ⟨⟨v, hcc j v hv⟩, hfz j, ?_⟩
  have hseg : c.take j ++ [u] ++ c.drop (j + [u].length) = c.set j u := by
    rw [List.set_eq_take_append_cons_drop, if_pos (by omega)]
    simp
  have := (Kd.R_seg (seg := [u]) h i h0 h1 hcl hcc (by show j + 1 ≤ 6; omega) (x' := x') (okp := fun k => ok k ∧ k ≠ g) (by rw [hseg, e]; have hx2 := hx; unfold rd_T34 at hx2; rw [hx2]; exact k34_mkM _ _ _ x') (fun k hk => hk)).1
  exact this
theorem R_own {w : World} {base : Nat} {ok : Nat → Prop} {v : Value} {l : List S34} (h : Kd.R k34 34 w base ok v l) (hp : 0 < l.length) : ∃ g cap, v = .slice (some ⟨g, 0, none⟩) l.length cap ∧ base ≤ g ∧ g < w.heap.size := by
  obtain ⟨g, cap, a, b, c, _⟩ := Kd.R_form h hp
  exact ⟨g, cap, a, b, c⟩
theorem cl_ok {l : List S34} (h : l.length * 40 < 140737488355328) : api_Sock_21.f l = some l := if_pos h
set_option maxHeartbeats 1600000 in
set_option maxRecDepth 100000 in
theorem change_1 (A0 : Option Addr) (c0 : Nat) (l0 : List S34) (i : Int) (w : World) (hr0 : Kd.C k34 w A0 l0.length l0) (hc0 : l0.length ≤ c0) (hl : l0.length * 40 < 140737488355328) (h0 : 0 ≤ i) (h1 : i < l0.length) :
    Calls Try.prog 23 #[.slice A0 l0.length c0, .int .i64 i, .func (.func 24) #[] #[]] w fun e w' => ∃ v, e = .returned v ∧ Kd.R k34 34 w' w.heap.size (fun _ => True) v (setS l0 i 1) ∧ Below w.heap.size w w' := by
  have HR := Aside0.mk hr0
  have HC := Aside0.mk hc0
  have HL := Aside0.mk (cl_ok hl)
  clear hr0 hc0
  go_enter Try.func23, Try.ntmps23
  go_wp2_with fail
  go_at_call 21; refine (api_Sock_21.calls _ _ l0 _ _ HR.out HC.out HL.out).mono ?_; rintro e w1 ⟨v0, rfl, hR, hb⟩
  obtain ⟨g, cap, rfl, hg1, hg2⟩ := R_own hR (by omega)
  obtain ⟨⟨u, hu⟩, hf, hR2⟩ := row_set hR i h0 h1 1 (by decide) (.int .i64 2) (mapS 1 (rd_T34 l0 i)) rfl
  have HU := Aside0.mk hu
  have HF := Aside0.mk hf
  have HR2 := Aside0.mk hR2
  have HB := Aside0.mk hb
  have HG := Aside0.mk hg1
  clear hu hf hR2 hb hR hg1
  go_wp2_with fail
  go_at_call 24; refine (open_runs g (i.toNat * 6) u _ HU.out HF.out).mono ?_; rintro e w2 ⟨rfl, rfl⟩
  go_wp2
  go_ret
  exact ⟨_, rfl, HR2.out, Below.setCell HB.out (p := ⟨g, i.toNat * 6 + 1, none⟩) HG.out _⟩
set_option maxHeartbeats 1600000 in
set_option maxRecDepth 100000 in
theorem change_4 (A0 : Option Addr) (c0 : Nat) (l0 : List S34) (i : Int) (w : World) (hr0 : Kd.C k34 w A0 l0.length l0) (hc0 : l0.length ≤ c0) (hl : l0.length * 40 < 140737488355328) (h0 : 0 ≤ i) (h1 : i < l0.length) :
    Calls Try.prog 23 #[.slice A0 l0.length c0, .int .i64 i, .func (.func 25) #[] #[]] w fun e w' => ∃ v, e = .returned v ∧ Kd.R k34 34 w' w.heap.size (fun _ => True) v (setS l0 i 4) ∧ Below w.heap.size w w' := by
  have HR := Aside0.mk hr0
  have HC := Aside0.mk hc0
  have HL := Aside0.mk (cl_ok hl)
  clear hr0 hc0
  go_enter Try.func23, Try.ntmps23
  go_wp2_with fail
  go_at_call 21; refine (api_Sock_21.calls _ _ l0 _ _ HR.out HC.out HL.out).mono ?_; rintro e w1 ⟨v0, rfl, hR, hb⟩
  obtain ⟨g, cap, rfl, hg1, hg2⟩ := R_own hR (by omega)
  obtain ⟨⟨u, hu⟩, hf, hR2⟩ := row_set hR i h0 h1 4 (by decide) (.bool true) (mapS 4 (rd_T34 l0 i)) rfl
  have HU := Aside0.mk hu
  have HF := Aside0.mk hf
  have HR2 := Aside0.mk hR2
  have HB := Aside0.mk hb
  have HG := Aside0.mk hg1
  clear hu hf hR2 hb hR hg1
  go_wp2_with fail
  go_at_call 25; refine (eof_runs g (i.toNat * 6) u _ HU.out HF.out).mono ?_; rintro e w2 ⟨rfl, rfl⟩
  go_wp2
  go_ret
  exact ⟨_, rfl, HR2.out, Below.setCell HB.out (p := ⟨g, i.toNat * 6 + 4, none⟩) HG.out _⟩
set_option maxHeartbeats 1600000 in
set_option maxRecDepth 100000 in
theorem change_5 (A0 : Option Addr) (c0 : Nat) (l0 : List S34) (i : Int) (w : World) (hr0 : Kd.C k34 w A0 l0.length l0) (hc0 : l0.length ≤ c0) (hl : l0.length * 40 < 140737488355328) (h0 : 0 ≤ i) (h1 : i < l0.length) :
    Calls Try.prog 23 #[.slice A0 l0.length c0, .int .i64 i, .func (.func 27) #[] #[]] w fun e w' => ∃ v, e = .returned v ∧ Kd.R k34 34 w' w.heap.size (fun _ => True) v (setS l0 i 5) ∧ Below w.heap.size w w' := by
  have HR := Aside0.mk hr0
  have HC := Aside0.mk hc0
  have HL := Aside0.mk (cl_ok hl)
  clear hr0 hc0
  go_enter Try.func23, Try.ntmps23
  go_wp2_with fail
  go_at_call 21; refine (api_Sock_21.calls _ _ l0 _ _ HR.out HC.out HL.out).mono ?_; rintro e w1 ⟨v0, rfl, hR, hb⟩
  obtain ⟨g, cap, rfl, hg1, hg2⟩ := R_own hR (by omega)
  obtain ⟨⟨u, hu⟩, hf, hR2⟩ := row_set hR i h0 h1 5 (by decide) (.bool true) (mapS 5 (rd_T34 l0 i)) rfl
  have HU := Aside0.mk hu
  have HF := Aside0.mk hf
  have HR2 := Aside0.mk hR2
  have HB := Aside0.mk hb
  have HG := Aside0.mk hg1
  clear hu hf hR2 hb hR hg1
  go_wp2_with fail
  go_at_call 27; refine (shut_runs g (i.toNat * 6) u _ HU.out HF.out).mono ?_; rintro e w2 ⟨rfl, rfl⟩
  go_wp2
  go_ret
  exact ⟨_, rfl, HR2.out, Below.setCell HB.out (p := ⟨g, i.toNat * 6 + 5, none⟩) HG.out _⟩
end Go.Proofs.Ytijdplpmcnhlbaa.Q
end
section
/- host.Check, as its callers have it. -/
namespace Go.Proofs.Ytijdplpmcnhlbaa.Q
open Go.RowKit Go.Proofs.YtijdplpmcnhlbaaW.PrintWords Go.Proofs.YtijdplpmcnhlbaaW.PrintLast Go.Proofs.YtijdplpmcnhlbaaW.PrintMore Go.Proofs.Ytijdplpmcnhlbaa.L
attribute [local go_sem] Instr.field part asAgg lt_step max2_int min2_int max_two min_two max_three min_three max_four min_four lt_0_1 lt_0_2 lt_1_2 lt_0_3 lt_1_3 lt_2_3 lt_0_4 lt_1_4 lt_2_4 lt_3_4 lt_0_5 lt_1_5 lt_2_5 lt_3_5 lt_4_5 lt_0_6 lt_1_6 lt_2_6 lt_3_6 lt_4_6 lt_5_6 lt_0_7 lt_1_7 lt_2_7 lt_3_7 lt_4_7 lt_5_7 lt_6_7 lt_0_8 lt_1_8 lt_2_8 lt_3_8 lt_4_8 lt_5_8 lt_6_8 lt_7_8
set_option linter.unusedVariables false
set_option linter.unusedSimpArgs false
def host_Check.f (l0 : List S34) : Option Bool := okS l0
theorem host_Check.calls (A0 : Option Addr) (c0 : Nat) (l0 : List (S34)) (r : Bool) (w : World) (hr0 : Kd.C k34 w A0 l0.length l0) (hc0 : l0.length ≤ c0) (h : host_Check.f l0 = some r) :
    Calls Try.prog 18 #[.slice A0 l0.length c0] w fun e w' => e = .returned (.bool r) ∧ Below w.heap.size w w' :=
  host_Chkp.calls (l0.length + 2) A0 c0 l0 r w hr0 hc0 h
end Go.Proofs.Ytijdplpmcnhlbaa.Q
end
section
/- host.Find. -/
namespace Go.Proofs.Ytijdplpmcnhlbaa.Q
open Go.RowKit Go.Proofs.YtijdplpmcnhlbaaW.PrintWords Go.Proofs.YtijdplpmcnhlbaaW.PrintLast Go.Proofs.YtijdplpmcnhlbaaW.PrintMore Go.Proofs.Ytijdplpmcnhlbaa.L
attribute [local go_sem] Instr.field part asAgg lt_step max2_int min2_int max_two min_two max_three min_three max_four min_four lt_0_1 lt_0_2 lt_1_2 lt_0_3 lt_1_3 lt_2_3 lt_0_4 lt_1_4 lt_2_4 lt_3_4 lt_0_5 lt_1_5 lt_2_5 lt_3_5 lt_4_5 lt_0_6 lt_1_6 lt_2_6 lt_3_6 lt_4_6 lt_5_6 lt_0_7 lt_1_7 lt_2_7 lt_3_7 lt_4_7 lt_5_7 lt_6_7 lt_0_8 lt_1_8 lt_2_8 lt_3_8 lt_4_8 lt_5_8 lt_6_8 lt_7_8
set_option linter.unusedVariables false
set_option linter.unusedSimpArgs false
theorem idxS_range (n : Int) : ∀ (l : List S34) (k : Int), 0 ≤ k → idxS n l k = -1 ∨ (k ≤ idxS n l k ∧ idxS n l k < k + l.length)
  | [], k, h => .inl rfl
  | x :: l, k, h => by
    unfold idxS
    have hl : ((x :: l).length : Int) = l.length + 1 := by simp
    split
    · exact .inr ⟨Int.le_refl _, by omega⟩
    · rcases idxS_range n l (k + 1) (by omega) with h1 | h1
      · exact .inl h1
      · exact .inr ⟨by omega, by omega⟩
theorem place_range {l : List S34} {n i : Int} (h : host_place.f l n = some i) : i < 0 ∨ (0 ≤ i ∧ i < l.length) := by
  unfold host_place.f at h
  obtain ⟨c, _, hc⟩ := Option.map_eq_some_iff.1 h
  cases c with
  | false => left; obtain rfl : (-1 : Int) = i := hc; decide
  | true =>
    have hc2 : idxS n l 0 = i := hc
    rcases idxS_range n l 0 (Int.le_refl _) with h1 | h1
    · left; omega
    · right; omega
def host_Find.f (l0 : List S34) (a1 : Int) : Option (Int × Int × Int × Int × Bool × Bool × Bool) := (host_place.f l0 a1).map fun i => if i < 0 then (0, 0, 0, 0, false, false, false) else ((rd_T34 l0 i).f0, (rd_T34 l0 i).f1, (rd_T34 l0 i).f2, (rd_T34 l0 i).f3, (rd_T34 l0 i).f4, (rd_T34 l0 i).f5, true)
set_option maxHeartbeats 1600000 in
set_option maxRecDepth 100000 in
theorem find_no (A0 : Option Addr) (c0 : Nat) (l0 : List S34) (a1 i : Int) (w : World) (hr0 : Kd.C k34 w A0 l0.length l0) (hc0 : l0.length ≤ c0) (h : host_place.f l0 a1 = some i) (hi : i < 0) :
    Calls Try.prog 15 #[.slice A0 l0.length c0, .int .i64 a1] w fun e w' => e = .returned (.tuple #[.agg #[.int .i64 0, .int .i64 0, .int .u32 0, .int .i64 0, .bool false, .bool false], .bool false]) ∧ Below w.heap.size w w' := by
  have HB := Aside0.mk (Below.refl w.heap.size w)
  have HR := Aside0.mk hr0
  have HC := Aside0.mk hc0
  have HK := Aside0.mk h
  have hb : decide (i < 0) = true := decide_eq_true hi
  clear hr0 hc0 h hi
  go_enter Try.func15, Try.ntmps15
  go_wp2_with fail
  (go_at_call 22; (with_reducible refine (host_place.calls _ _ l0 a1 i _ (by first | exact HR.out | exact Kd.C_alloc HR.out _) HC.out HK.out).mono ?_); rintro e_ w1 ⟨rfl, hb_⟩; have HB_ : Aside0 (Below w.heap.size w w1) := Aside0.mk (below_step (bG HB) hb_); have hzw1 := hb_.size; (try simp at hzw1); have oa_ := Aside0.mk (box_below hb_ (by repeat (with_reducible first | exact nb_1 w _ | apply ext_drew | apply ext_drewN | apply ext_alloc | refine blk_far ?_ (by show _ ≠ _; dsimp only; omega) _))); (try clear oa oac oaf oal); have oa := oa_; clear oa_; obtain ⟨oac, oaf, oal⟩ := cells_of oa.out; clear HB hb_; have HB := HB_; clear HB_)
  go_wp2
  refine bodyPost_ret (results_ct rfl _ _ w.heap.size 34 #[.int .i64 0, .int .i64 0, .int .u32 0, .int .i64 0, .bool false, .bool false] (0, 0) _ rfl (blk_put (blk_put (blk_put (blk_put (blk_put (blk_put (oa.out) 0 (.int .i64 0) rfl) 1 (.int .i64 0) rfl) 2 (.int .u32 0) rfl) 3 (.int .i64 0) rfl) 4 (.bool false) rfl) 5 (.bool false) rfl) Try.underlying34 rfl (by kernel_rfl)) rfl ⟨rfl, (bG HB)⟩
set_option maxHeartbeats 1600000 in
set_option maxRecDepth 100000 in
theorem find_is (A0 : Option Addr) (c0 : Nat) (l0 : List S34) (a1 i : Int) (w : World) (hr0 : Kd.C k34 w A0 l0.length l0) (hc0 : l0.length ≤ c0) (h : host_place.f l0 a1 = some i) (h0 : 0 ≤ i) (h1 : i < l0.length) :
    Calls Try.prog 15 #[.slice A0 l0.length c0, .int .i64 a1] w fun e w' => e = .returned (.tuple #[.agg #[.int .i64 (rd_T34 l0 i).f0, .int .i64 (rd_T34 l0 i).f1, .int .u32 (rd_T34 l0 i).f2, .int .i64 (rd_T34 l0 i).f3, .bool (rd_T34 l0 i).f4, .bool (rd_T34 l0 i).f5], .bool true]) ∧ Below w.heap.size w w' := by
  have HB := Aside0.mk (Below.refl w.heap.size w)
  have HR := Aside0.mk hr0
  have HC := Aside0.mk hc0
  have HK := Aside0.mk h
  have hb : decide (i < 0) = false := decide_eq_false (by omega)
  have hb0 : decide (0 ≤ i) = true := decide_eq_true h0
  clear hr0 hc0 h
  go_enter Try.func15, Try.ntmps15
  go_wp2_with fail
  (go_at_call 22; (with_reducible refine (host_place.calls _ _ l0 a1 i _ (by first | exact HR.out | exact Kd.C_alloc HR.out _) HC.out HK.out).mono ?_); rintro e_ w1 ⟨rfl, hb_⟩; have HB_ : Aside0 (Below w.heap.size w w1) := Aside0.mk (below_step (bG HB) hb_); have hzw1 := hb_.size; (try simp at hzw1); have oa_ := Aside0.mk (box_below hb_ (by repeat (with_reducible first | exact nb_1 w _ | apply ext_drew | apply ext_drewN | apply ext_alloc | refine blk_far ?_ (by show _ ≠ _; dsimp only; omega) _))); (try clear oa oac oaf oal); have oa := oa_; clear oa_; obtain ⟨oac, oaf, oal⟩ := cells_of oa.out; clear HB hb_; have HB := HB_; clear HB_)
  obtain ⟨ad, rfl, hc0, hc1, hc2, hc3, hc4, hc5⟩ := at_T34 (Kd.C_below HR.out HB.out) i h0 h1
  go_wp2
  refine bodyPost_ret (results_ct rfl _ _ w.heap.size 34 #[.int .i64 (rd_T34 l0 i).f0, .int .i64 (rd_T34 l0 i).f1, .int .u32 (rd_T34 l0 i).f2, .int .i64 (rd_T34 l0 i).f3, .bool (rd_T34 l0 i).f4, .bool (rd_T34 l0 i).f5] (0, 0) _ rfl (blk_put (blk_put (blk_put (blk_put (blk_put (blk_put (oa.out) 0 (.int .i64 (rd_T34 l0 i).f0) rfl) 1 (.int .i64 (rd_T34 l0 i).f1) rfl) 2 (.int .u32 (rd_T34 l0 i).f2) rfl) 3 (.int .i64 (rd_T34 l0 i).f3) rfl) 4 (.bool (rd_T34 l0 i).f4) rfl) 5 (.bool (rd_T34 l0 i).f5) rfl) Try.underlying34 rfl (by kernel_rfl)) rfl ⟨rfl, (bG HB)⟩
theorem host_Find.calls (A0 : Option Addr) (c0 : Nat) (l0 : List S34) (a1 : Int) (r1 : Int) (r2 : Int) (r3 : Int) (r4 : Int) (r5 : Bool) (r6 : Bool) (r7 : Bool) (w : World) (hr0 : Kd.C k34 w A0 l0.length l0) (hc0 : l0.length ≤ c0) (h : host_Find.f l0 a1 = some (r1, r2, r3, r4, r5, r6, r7)) :
    Calls Try.prog 15 #[.slice A0 l0.length c0, .int .i64 a1] w fun e w' => e = .returned (.tuple #[.agg #[.int .i64 r1, .int .i64 r2, .int .u32 r3, .int .i64 r4, .bool r5, .bool r6], .bool r7]) ∧ Below w.heap.size w w' := by
  unfold host_Find.f at h
  obtain ⟨i, hi, h⟩ := Option.map_eq_some_iff.1 h
  rcases place_range hi with h1 | ⟨h0, h1⟩
  · rw [if_pos h1] at h
    simp only [Prod.mk.injEq] at h
    obtain ⟨rfl, rfl, rfl, rfl, rfl, rfl, rfl⟩ := h
    exact find_no A0 c0 l0 a1 i w hr0 hc0 hi h1
  · rw [if_neg (by omega)] at h
    simp only [Prod.mk.injEq] at h
    obtain ⟨rfl, rfl, rfl, rfl, rfl, rfl, rfl⟩ := h
    exact find_is A0 c0 l0 a1 i w hr0 hc0 hi h0 h1
end Go.Proofs.Ytijdplpmcnhlbaa.Q
end
section
/- host.Shut. -/
namespace Go.Proofs.Ytijdplpmcnhlbaa.Q
open Go.RowKit Go.Proofs.YtijdplpmcnhlbaaW.PrintWords Go.Proofs.YtijdplpmcnhlbaaW.PrintLast Go.Proofs.YtijdplpmcnhlbaaW.PrintMore Go.Proofs.Ytijdplpmcnhlbaa.L
attribute [local go_sem] Instr.field part asAgg lt_step max2_int min2_int max_two min_two max_three min_three max_four min_four lt_0_1 lt_0_2 lt_1_2 lt_0_3 lt_1_3 lt_2_3 lt_0_4 lt_1_4 lt_2_4 lt_3_4 lt_0_5 lt_1_5 lt_2_5 lt_3_5 lt_4_5 lt_0_6 lt_1_6 lt_2_6 lt_3_6 lt_4_6 lt_5_6 lt_0_7 lt_1_7 lt_2_7 lt_3_7 lt_4_7 lt_5_7 lt_6_7 lt_0_8 lt_1_8 lt_2_8 lt_3_8 lt_4_8 lt_5_8 lt_6_8 lt_7_8
set_option linter.unusedVariables false
set_option linter.unusedSimpArgs false
theorem V_C {w : World} {b : Nat} {P0_ : Nat → Prop} {A : Option Addr} {c : Nat} {l : List S34} (h : Kd.V k34 34 w b P0_ (.slice A l.length c) l) : l.length ≤ c ∧ Kd.C k34 w A l.length l := ⟨(Kd.V_at h).2.1, Kd.F_now (Kd.V_at h).2.2⟩
theorem V_stay {w w' : World} {b : Nat} {P0_ : Nat → Prop} {v : Value} {l : List S34} (h : Kd.V k34 34 w w.heap.size P0_ v l) (hb : Below w.heap.size w w') : Kd.V k34 34 w' b (fun k_ => P0_ k_ ∨ w.heap.size ≤ k_) v l := Kd.V_below (Kd.V_mono h fun _ hk => .inl hk) hb
theorem V_new {w w' : World} {P0_ : Nat → Prop} {v : Value} {l : List S34} (h : Kd.R k34 34 w' w.heap.size (fun _ => True) v l) : Kd.V k34 34 w' w.heap.size (fun k_ => P0_ k_ ∨ w.heap.size ≤ k_) v l :=
  Kd.V_mono (Kd.R_V (Kd.R_bound h)) fun _ hk => .inr hk.2.1
def shutZ (l : List S34) (i : Int) : List S34 × Bool := if i < 0 then (l, false) else if (rd_T34 l i).f1 != 2 then (l, false) else if (rd_T34 l i).f5 then (l, false) else (setS l i 5, true)
def host_Shut.f (l0 : List S34) (a1 : Int) : Option (List S34 × Bool) := if l0.length * 40 < 140737488355328 then (host_place.f l0 a1).map (shutZ l0) else none
section
variable (P0_ : Nat → Prop) (A0 : Option Addr) (c0 : Nat) (l0 : List S34) (a1 i : Int) (w : World)
set_option maxHeartbeats 1600000 in
set_option maxRecDepth 100000 in
theorem shut_no (hs0 : Kd.V k34 34 w w.heap.size P0_ (.slice A0 l0.length c0) l0) (h : host_place.f l0 a1 = some i) (hi : i < 0) :
    Calls Try.prog 11 #[.slice A0 l0.length c0, .int .i64 a1] w fun e w' => e = .returned (.tuple #[.slice A0 l0.length c0, .bool false]) ∧ Below w.heap.size w w' := by
  have HB := Aside0.mk (Below.refl w.heap.size w)
  have HR := Aside0.mk (V_C hs0).2
  have HC := Aside0.mk (V_C hs0).1
  have HK := Aside0.mk h
  have hb : decide (i < 0) = true := decide_eq_true hi
  clear hs0 h hi
  go_enter Try.func11, Try.ntmps11
  go_wp2_with fail
  (go_at_call 22; (with_reducible refine (host_place.calls _ _ l0 a1 i _ HR.out HC.out HK.out).mono ?_); rintro e_ w1 ⟨rfl, hb_⟩; have HB_ : Aside0 (Below w.heap.size w w1) := Aside0.mk (below_step (bG HB) hb_); have hzw1 := hb_.size; (try simp at hzw1); clear HB hb_; have HB := HB_; clear HB_)
  go_wp2
  go_ret2
  exact ⟨rfl, (bG HB)⟩
set_option maxHeartbeats 1600000 in
set_option maxRecDepth 100000 in
theorem shut_stay (hs0 : Kd.V k34 34 w w.heap.size P0_ (.slice A0 l0.length c0) l0) (h : host_place.f l0 a1 = some i) (h0 : 0 ≤ i) (h1 : i < l0.length) (q : Bool) (hq : ((rd_T34 l0 i).f1 != 2) = q) (hx : q = false → (rd_T34 l0 i).f5 = true) :
    Calls Try.prog 11 #[.slice A0 l0.length c0, .int .i64 a1] w fun e w' => e = .returned (.tuple #[.slice A0 l0.length c0, .bool false]) ∧ Below w.heap.size w w' := by
  have HB := Aside0.mk (Below.refl w.heap.size w)
  have HR := Aside0.mk (V_C hs0).2
  have HC := Aside0.mk (V_C hs0).1
  have HK := Aside0.mk h
  have hb : decide (i < 0) = false := decide_eq_false (by omega)
  clear hs0 h
  cases q
  · have hx := hx rfl
    go_enter Try.func11, Try.ntmps11
    go_wp2_with fail
    (go_at_call 22; (with_reducible refine (host_place.calls _ _ l0 a1 i _ HR.out HC.out HK.out).mono ?_); rintro e_ w1 ⟨rfl, hb_⟩; have HB_ : Aside0 (Below w.heap.size w w1) := Aside0.mk (below_step (bG HB) hb_); have hzw1 := hb_.size; (try simp at hzw1); clear HB hb_; have HB := HB_; clear HB_)
    obtain ⟨ad, rfl, hc0, hc1, hc2, hc3, hc4, hc5⟩ := at_T34 (Kd.C_below HR.out HB.out) i h0 h1
    go_wp2
    go_ret2
    exact ⟨rfl, (bG HB)⟩
  · clear hx
    go_enter Try.func11, Try.ntmps11
    go_wp2_with fail
    (go_at_call 22; (with_reducible refine (host_place.calls _ _ l0 a1 i _ HR.out HC.out HK.out).mono ?_); rintro e_ w1 ⟨rfl, hb_⟩; have HB_ : Aside0 (Below w.heap.size w w1) := Aside0.mk (below_step (bG HB) hb_); have hzw1 := hb_.size; (try simp at hzw1); clear HB hb_; have HB := HB_; clear HB_)
    obtain ⟨ad, rfl, hc0, hc1, hc2, hc3, hc4, hc5⟩ := at_T34 (Kd.C_below HR.out HB.out) i h0 h1
    go_wp2
    go_ret2
    exact ⟨rfl, (bG HB)⟩
set_option maxHeartbeats 1600000 in
set_option maxRecDepth 100000 in
theorem shut_do (hl : l0.length * 40 < 140737488355328) (hs0 : Kd.V k34 34 w w.heap.size P0_ (.slice A0 l0.length c0) l0) (h : host_place.f l0 a1 = some i) (h0 : 0 ≤ i) (h1 : i < l0.length) (hq : ((rd_T34 l0 i).f1 != 2) = false) (hx : (rd_T34 l0 i).f5 = false) :
    Calls Try.prog 11 #[.slice A0 l0.length c0, .int .i64 a1] w fun e w' => ∃ v, e = .returned (.tuple #[v, .bool true]) ∧ Kd.R k34 34 w' w.heap.size (fun _ => True) v (setS l0 i 5) ∧ Below w.heap.size w w' := by
  have HB := Aside0.mk (Below.refl w.heap.size w)
  have HR := Aside0.mk (V_C hs0).2
  have HC := Aside0.mk (V_C hs0).1
  have HK := Aside0.mk h
  have hb : decide (i < 0) = false := decide_eq_false (by omega)
  clear hs0 h
  go_enter Try.func11, Try.ntmps11
  go_wp2_with fail
  (go_at_call 22; (with_reducible refine (host_place.calls _ _ l0 a1 i _ HR.out HC.out HK.out).mono ?_); rintro e_ w1 ⟨rfl, hb_⟩; have HB_ : Aside0 (Below w.heap.size w w1) := Aside0.mk (below_step (bG HB) hb_); have hzw1 := hb_.size; (try simp at hzw1); clear HB hb_; have HB := HB_; clear HB_)
  obtain ⟨ad, rfl, hc0, hc1, hc2, hc3, hc4, hc5⟩ := at_T34 (Kd.C_below HR.out HB.out) i h0 h1
  go_wp2_with fail
  go_at_call 23; refine (change_5 _ _ l0 i _ (Kd.C_below HR.out HB.out) HC.out hl h0 h1).mono ?_; rintro e w2 ⟨v0, rfl, hR, hb2⟩
  have HR2 := Aside0.mk (Kd.R_lower hR (below_size HB.out))
  have HB2 := Aside0.mk (below_step HB.out hb2)
  clear hR hb2
  go_wp2
  go_ret2
  exact ⟨_, rfl, HR2.out, HB2.out⟩
theorem host_Shut_c (r1 : List S34) (r2 : Bool) (hs0 : Kd.V k34 34 w w.heap.size (fun k_ => P0_ k_) (.slice A0 l0.length c0) l0) (h : host_Shut.f l0 a1 = some (r1, r2)) :
    Calls Try.prog 11 #[.slice A0 l0.length c0, .int .i64 a1] w fun e w' => ∃ v0_ : Value, e = .returned (.tuple #[v0_, .bool r2]) ∧ Kd.V k34 34 w' w.heap.size (fun k_ => (P0_ k_ ∨ w.heap.size ≤ k_)) v0_ r1 ∧ Below w.heap.size w w' := by
  unfold host_Shut.f at h
  split at h
  case isFalse => cases h
  case isTrue hl =>
  obtain ⟨i, hi, h⟩ := Option.map_eq_some_iff.1 h
  unfold shutZ at h
  have hst : ∀ {e : Ending} {w' : World}, (e = .returned (.tuple #[.slice A0 l0.length c0, .bool false]) ∧ Below w.heap.size w w') → ∃ v0_ : Value, e = .returned (.tuple #[v0_, .bool false]) ∧ Kd.V k34 34 w' w.heap.size (fun k_ => (P0_ k_ ∨ w.heap.size ≤ k_)) v0_ l0 ∧ Below w.heap.size w w' := fun h => ⟨_, h.1, V_stay hs0 h.2, h.2⟩
  rcases place_range hi with h1 | ⟨h0, h1⟩
  · rw [if_pos h1] at h
    simp only [Prod.mk.injEq] at h
    obtain ⟨rfl, rfl⟩ := h
    exact (shut_no P0_ A0 c0 l0 a1 i w hs0 hi h1).mono fun _ _ h => hst h
  · rw [if_neg (by omega)] at h
    cases hq : ((rd_T34 l0 i).f1 != 2) with
    | true =>
      rw [hq, if_pos rfl] at h
      simp only [Prod.mk.injEq] at h
      obtain ⟨rfl, rfl⟩ := h
      exact (shut_stay P0_ A0 c0 l0 a1 i w hs0 hi h0 h1 true hq (fun h => by cases h)).mono fun _ _ h => hst h
    | false =>
      rw [hq, if_neg Bool.false_ne_true] at h
      cases hx : (rd_T34 l0 i).f5 with
      | true =>
        rw [hx, if_pos rfl] at h
        simp only [Prod.mk.injEq] at h
        obtain ⟨rfl, rfl⟩ := h
        exact (shut_stay P0_ A0 c0 l0 a1 i w hs0 hi h0 h1 false hq (fun _ => hx)).mono fun _ _ h => hst h
      | false =>
        rw [hx, if_neg Bool.false_ne_true] at h
        simp only [Prod.mk.injEq] at h
        obtain ⟨rfl, rfl⟩ := h
        exact (shut_do P0_ A0 c0 l0 a1 i w hl hs0 hi h0 h1 hq hx).mono fun _ _ ⟨v, he, hR, hb⟩ => ⟨v, he, V_new hR, hb⟩
end
theorem host_Shut.calls (P0_ : Nat → Prop) (A0 : Option Addr) (c0 : Nat) (l0 : List (S34)) (a1 : Int) (r1 : List (S34)) (r2 : Bool) (w : World) (hs0 : Kd.V k34 34 w w.heap.size (fun k_ => P0_ k_) (.slice A0 l0.length c0) l0) (h : host_Shut.f l0 a1 = some (r1, r2)) :
    Calls Try.prog 11 #[.slice A0 l0.length c0, .int .i64 a1] w fun e w' => ∃ v0_ : Value, e = .returned (.tuple #[v0_, .bool r2]) ∧ Kd.V k34 34 w' w.heap.size (fun k_ => (P0_ k_ ∨ w.heap.size ≤ k_)) v0_ r1 ∧ Below w.heap.size w w' := host_Shut_c P0_ A0 c0 l0 a1 w r1 r2 hs0 h
end Go.Proofs.Ytijdplpmcnhlbaa.Q
end
section
/- Sockets, plain facts: what the checks, the places, the changes are. -/
set_option linter.unusedVariables false
set_option linter.unusedSimpArgs false
namespace Go.Proofs.Ytijdplpmcnhlbaa.Q
open Go.RowKit Go.Proofs.YtijdplpmcnhlbaaW.PrintWords Go.Proofs.YtijdplpmcnhlbaaW.PrintLast Go.Proofs.YtijdplpmcnhlbaaW.PrintMore
def okI (x : S34) : Bool := decide (1 ≤ x.f0) && (decide (x.f0 ≤ 8) && (((x.f1 == 1 && (!x.f4 && !x.f5)) || x.f1 == 2) && x.f3 / 65536 == 0))
def okR : Int → List S34 → Bool
  | _, [] => true
  | last, x :: l => okI x && (decide (last < x.f0) && okR x.f0 l)
def okL (l : List S34) : Bool := okR 0 l && decide ((l.length : Int) ≤ 8)
theorem right_is (x : S34) : host_rightp.f x.f0 x.f1 x.f2 x.f3 x.f4 x.f5 = some (okI x) := by
  obtain ⟨a, b, c, d, e, f⟩ := x
  unfold host_rightp.f okI
  dsimp only
  by_cases h1 : b = 1
  · subst h1
    by_cases h0 : a ≥ 1 <;> by_cases h8 : a ≤ 8 <;> cases e <;> cases f <;> simp [h0, h8]
  · by_cases h2 : b = 2
    · subst h2
      by_cases h0 : a ≥ 1 <;> by_cases h8 : a ≤ 8 <;> cases e <;> cases f <;> simp [h0, h8]
    · by_cases h0 : a ≥ 1 <;> by_cases h8 : a ≤ 8 <;> cases e <;> cases f <;> simp [h0, h8, h1, h2]
theorem rd_at {l : List S34} {i : Nat} (h : i < l.length) : rd_T34 l (i : Int) = l[i] := by
  unfold rd_T34; rw [Int.toNat_natCast, List.getD_eq_getElem?_getD, List.getElem?_eq_getElem h]; rfl
theorem w64 {n : Nat} (h : n ≤ 1000) : wrap64 ((n : Int) + 1) = ((n + 1 : Nat) : Int) := by
  rw [show ((n + 1 : Nat) : Int) = (n : Int) + 1 by omega]
  unfold wrap64
  first | (rw [IntKind.wrap_i64]; omega) | omega
theorem hc_l0 (l : List S34) (hl : l.length ≤ 100) : ∀ (k i : Nat) (last : Int), i ≤ l.length → l.length - i < k → host_Chkp.l0 k l last l (l.length : Int) (i : Int) = some (okR last (l.drop i) && decide ((l.length : Int) ≤ 8))
  | 0, i, last, hi, hk => absurd hk (by omega)
  | k + 1, i, last, hi, hk => by
    unfold host_Chkp.l0
    by_cases h : i < l.length
    · rw [if_pos (by omega), if_pos (by omega), if_pos (by omega), right_is, Option.bind_some, rd_at h, List.drop_eq_getElem_cons h, okR]
      cases ho : okI l[i] with
      | false => rw [if_neg Bool.false_ne_true]; rfl
      | true =>
        rw [if_pos rfl]
        by_cases hlt : last < l[i].f0
        · rw [if_neg (by omega), w64 (by omega), hc_l0 l hl k (i + 1) _ (by omega) (by omega), decide_eq_true hlt, Bool.true_and, Bool.true_and]
        · rw [if_pos (by omega), decide_eq_false hlt]; rfl
    · rw [if_neg (by omega), List.drop_of_length_le (by omega)]; rfl
theorem hostCheck_is {l : List S34} (hl : l.length ≤ 100) {k : Nat} (hk : l.length < k) : host_Chkp.f k l = some (okL l) := hc_l0 l hl k 0 0 (by omega) (by omega)
theorem okS_is {l : List S34} (hl : l.length ≤ 100) : okS l = some (okL l) := hostCheck_is hl (by omega)
theorem okI_no {x : S34} : okI x = false ↔ (x.f0 < 1 ∨ x.f0 > 8 ∨ ¬ (x.f1 = 1 ∨ x.f1 = 2) ∨ (x.f3 < 0 ∨ x.f3 > 65535) ∨ (x.f1 = 1 ∧ (x.f4 = true ∨ x.f5 = true))) := by
  obtain ⟨a, b, c, d, e, f⟩ := x
  unfold okI
  dsimp only
  by_cases h1 : b = 1
  · subst h1
    cases e <;> cases f <;> simp <;> omega
  · by_cases h2 : b = 2
    · subst h2
      cases e <;> cases f <;> simp <;> omega
    · simp [h1, h2]
theorem okI_yes {x : S34} (h : okI x = true) : 1 ≤ x.f0 ∧ x.f0 ≤ 8 ∧ (x.f1 = 1 ∨ x.f1 = 2) ∧ (0 ≤ x.f3 ∧ x.f3 ≤ 65535) ∧ (x.f1 = 1 → x.f4 = false ∧ x.f5 = false) := by
  have hn : ¬ okI x = false := by rw [h]; exact Bool.noConfusion
  rw [okI_no] at hn
  refine ⟨by omega, by omega, by omega, ⟨by omega, by omega⟩, fun h1 => ?_⟩
  constructor
  · cases h4 : x.f4; rfl; exact absurd (.inr (.inr (.inr (.inr ⟨h1, .inl h4⟩)))) hn
  · cases h5 : x.f5; rfl; exact absurd (.inr (.inr (.inr (.inr ⟨h1, .inr h5⟩)))) hn
end Go.Proofs.Ytijdplpmcnhlbaa.Q
end
section
/- A row of sockets of one's own, as a block's cells; copy and clear over them. -/
namespace Go.Proofs.Ytijdplpmcnhlbaa.Q
open Go.RowKit Go.Proofs.YtijdplpmcnhlbaaW.PrintWords Go.Proofs.YtijdplpmcnhlbaaW.PrintLast Go.Proofs.YtijdplpmcnhlbaaW.PrintMore Go.Proofs.Ytijdplpmcnhlbaa.L
attribute [local go_sem] Instr.field part asAgg lt_step max2_int min2_int max_two min_two max_three min_three max_four min_four lt_0_1 lt_0_2 lt_1_2 lt_0_3 lt_1_3 lt_2_3 lt_0_4 lt_1_4 lt_2_4 lt_3_4 lt_0_5 lt_1_5 lt_2_5 lt_3_5 lt_4_5 lt_0_6 lt_1_6 lt_2_6 lt_3_6 lt_4_6 lt_5_6 lt_0_7 lt_1_7 lt_2_7 lt_3_7 lt_4_7 lt_5_7 lt_6_7 lt_0_8 lt_1_8 lt_2_8 lt_3_8 lt_4_8 lt_5_8 lt_6_8 lt_7_8
set_option linter.unusedVariables false
set_option linter.unusedSimpArgs false
def cells1 (x : S34) : List Value := [.int .i64 x.f0, .int .i64 x.f1, .int .u32 x.f2, .int .i64 x.f3, .bool x.f4, .bool x.f5]
def cellsL : List S34 → List Value
  | [] => []
  | x :: l => cells1 x ++ cellsL l
theorem cellsL_len : ∀ l : List S34, (cellsL l).length = l.length * 6
  | [] => rfl
  | x :: l => by rw [cellsL, List.length_append, cellsL_len l, List.length_cons]; show 6 + l.length * 6 = _; omega
theorem cellsL_append : ∀ a b : List S34, cellsL (a ++ b) = cellsL a ++ cellsL b
  | [], b => rfl
  | x :: a, b => by rw [List.cons_append, cellsL, cellsL, cellsL_append a b, List.append_assoc]
theorem cellsL_drop : ∀ (l : List S34) (k : Nat), (cellsL l).drop (k * 6) = cellsL (l.drop k)
  | l, 0 => by simp
  | [], k + 1 => by simp [cellsL]
  | x :: l, k + 1 => by
    rw [cellsL, List.drop_succ_cons, ← cellsL_drop l k]
    rw [show (k + 1) * 6 = (cells1 x).length + k * 6 by show _ = 6 + k * 6; omega, List.drop_length_add_append]
theorem cellsL_take : ∀ (l : List S34) (k : Nat), (cellsL l).take (k * 6) = cellsL (l.take k)
  | l, 0 => by simp [cellsL]
  | [], k + 1 => by simp [cellsL]
  | x :: l, k + 1 => by
    rw [cellsL, List.take_succ_cons, cellsL, ← cellsL_take l k]
    rw [show (k + 1) * 6 = (cells1 x).length + k * 6 by show _ = 6 + k * 6; omega, List.take_length_add_append]
theorem cellsL_one : ∀ (l : List S34) (v : Value), v ∈ cellsL l → v.oneCell' = true
  | [], v, h => by cases h
  | x :: l, v, h => by
    rw [cellsL, List.mem_append] at h
    rcases h with h | h
    · unfold cells1 at h
      simp only [List.mem_cons, List.not_mem_nil, or_false] at h
      rcases h with rfl | rfl | rfl | rfl | rfl | rfl <;> rfl
    · exact cellsL_one l v h
theorem reps_cells {w : World} {base : Nat} {ok : Nat → Prop} : ∀ (l : List S34) (inner : List Value), Reps (k34.M w base ok) 6 l inner → inner = cellsL l
  | [], inner, h => by
    have := h.1
    rw [List.length_nil, Nat.zero_mul] at this
    rw [List.length_eq_zero_iff.1 this]; rfl
  | x :: l, inner, h => by
    have hl : inner.length = (l.length + 1) * 6 := h.1
    have h0 := k34_openM (h.2 0 x rfl)
    rw [Nat.zero_mul, List.drop_zero] at h0
    have ht : Reps (k34.M w base ok) 6 l (inner.drop 6) := ⟨by rw [List.length_drop, hl]; omega, fun j p hp => by
      have := h.2 (j + 1) p (by simpa using hp)
      rw [List.drop_drop]
      rwa [show 6 + j * 6 = (j + 1) * 6 by omega]⟩
    rw [← List.take_append_drop 6 inner, reps_cells l _ ht, h0]; rfl
theorem cells_reps {w : World} {base : Nat} {ok : Nat → Prop} (l : List S34) : Reps (k34.M w base ok) 6 l (cellsL l) := by
  refine ⟨cellsL_len l, fun j p hp => ?_⟩
  have hj : j < l.length := (List.getElem?_eq_some_iff.1 hp).1
  have hpe := (List.getElem?_eq_some_iff.1 hp).2
  rw [cellsL_drop, List.drop_eq_getElem_cons hj, hpe, cellsL]
  have : ((cells1 p ++ cellsL (l.drop (j + 1))).take 6) = cells1 p := by
    rw [List.take_append_of_le_length (by show 6 ≤ 6; omega)]; rfl
  rw [this]
  exact k34_mkM _ _ _ p
theorem R_cells {w : World} {base g n cap : Nat} {ok : Nat → Prop} {l : List S34} (h : Kd.R k34 34 w base ok (.slice (some ⟨g, 0, none⟩) n cap) l) :
    ∃ cur, w.heap[g]? = some (.cells cur 34 (0, 0)) ∧ base ≤ g ∧ ok g ∧ n = l.length ∧ n ≤ cap ∧ cap ≤ maxLen ∧ cur.size = cap * 6 ∧ cur.toList.take (n * 6) = cellsL l := by
  obtain ⟨hok, inner, ⟨hl, ho⟩, hr⟩ := h
  have e := reps_cells l inner hr
  subst e
  rcases ho with ⟨hv, _⟩ | ⟨g', cap', cur, hv, hb, hh, hnc, hcm, hcs, ht⟩
  · cases hv
  injection hv with ha hn hc
  injection ha with ha
  injection ha with hg
  subst hg hc hn
  refine ⟨cur, hh, hb, hok g rfl, ?_, hnc, hcm, hcs, ht⟩
  rfl
theorem R_mk {w : World} {base g cap : Nat} {ok : Nat → Prop} {l : List S34} {cur : Array Value} (hh : w.heap[g]? = some (.cells cur 34 (0, 0))) (hb : base ≤ g) (hk : ok g) (hnc : l.length ≤ cap) (hcm : cap ≤ maxLen) (hcs : cur.size = cap * 6) (ht : cur.toList.take (l.length * 6) = cellsL l) :
    Kd.R k34 34 w base ok (.slice (some ⟨g, 0, none⟩) l.length cap) l := by
  refine ⟨fun k hk' => ?_, cellsL l, ⟨cellsL_len l, .inr ⟨g, cap, cur, rfl, hb, hh, hnc, hcm, hcs, ht⟩⟩, cells_reps l⟩
  have : g = k := by simpa [Value.ownBlock] using hk'
  rw [← this]; exact hk
/-- A block behind a run of stores. -/
theorem blk_cells {b t : Nat} : ∀ (vs : List Value) (o : Nat) (w : World) (cur : Array Value), w.heap[b]? = some (.cells cur t (0, 0)) → ∃ cur', (w.setCells b o vs).heap[b]? = some (.cells cur' t (0, 0)) ∧ cur'.size = cur.size ∧ ∀ j, j < cur.size → cur'[j]? = if o ≤ j ∧ j < o + vs.length then vs[j - o]? else cur[j]?
  | [], o, w, cur, h => ⟨cur, h, rfl, fun j hj => by rw [if_neg (by rintro ⟨a, b⟩; rw [List.length_nil] at b; omega)]⟩
  | v :: vs, o, w, cur, h => by
    obtain ⟨cur', h1, h2, h3⟩ := blk_cells vs (o + 1) (w.setCell ⟨b, o, none⟩ v) (cur.setIfInBounds o v) (blk_put h o v rfl)
    refine ⟨cur', h1, by rw [h2, Array.size_setIfInBounds], fun j hj => ?_⟩
    rw [h3 j (by simpa using hj), List.length_cons]
    by_cases hjo : j = o
    · subst hjo
      rw [if_neg (by omega), if_pos (by omega), Nat.sub_self, List.getElem?_cons_zero, Array.getElem?_setIfInBounds_self, if_pos hj]
    · by_cases hin : o + 1 ≤ j ∧ j < o + 1 + vs.length
      · rw [if_pos hin, if_pos (by omega), show j - o = (j - (o + 1)) + 1 by omega, List.getElem?_cons_succ]
      · rw [if_neg hin, if_neg (by omega), Array.getElem?_setIfInBounds_ne (by omega)]
theorem run_copy6 (w : World) (ty : TypeId) (b o dLen dCap : Nat) (a : Addr) (sLen sCap : Nat) (cs : List Value) (hn : cs.length = Nat.min sLen dLen * 6)
    (hsrc : ∀ j v, cs[j]? = some v → w.cell? (a.add j) = some v) (hc : ∀ j, j < cs.length → (w.cell? ⟨b, o + j, none⟩).isSome = true) (hf : ∀ j, j < cs.length → w.frozen? ⟨b, o + j, none⟩ = false) (h1 : ∀ v ∈ cs, v.oneCell' = true) :
    (Builtin.copy_ #[22, 22] ty #[.slice (some ⟨b, o, none⟩) dLen dCap, .slice (some a) sLen sCap]).run Try.prog w = .ok (goInt (Nat.min sLen dLen)) (w.setCells b o cs) := by
  have hl := run_loadCells_list (P := Try.prog) w a cs hsrc
  have hst := run_storeCells_cells (P := Try.prog) b o cs 0 w (by simpa using hc) (by simpa using hf) h1
  obtain ⟨i, hq, hi⟩ := Option.map_eq_some_iff.1 info34
  simp only [Prod.mk.injEq] at hi
  have hi6 : i.size = 6 := hi.2.1
  simp [Builtin.copy_, run_underlying Try.underlying22, Builtin.lenOf, Builtin.firstCells, sizeOf, typeInfo, hq, hi6, ← hn, hl, hst]
theorem zero34 (w : World) : (zeroValue 34).run Try.prog w = .ok (.agg #[(.int .i64 0), (.int .i64 0), (.int .u32 0), (.int .i64 0), (.bool false), (.bool false)]) w := by
  obtain ⟨i, hq, hi⟩ := Option.map_eq_some_iff.1 info34
  simp only [Prod.mk.injEq] at hi
  simp [zeroValue, typeInfo, hq, hi.1]
theorem run_clear6 (w : World) (ty : TypeId) (b o c : Nat)
    (hc : ∀ j, j < 6 → (w.cell? ⟨b, o + j, none⟩).isSome = true) (hf : ∀ j, j < 6 → w.frozen? ⟨b, o + j, none⟩ = false) :
    (Builtin.clear_ #[22] ty #[.slice (some ⟨b, o, none⟩) 1 c]).run Try.prog w = .ok (.tuple #[]) (w.setCells b o [(.int .i64 0), (.int .i64 0), (.int .u32 0), (.int .i64 0), (.bool false), (.bool false)]) := by
  have hst := run_storeCells_cells (P := Try.prog) b o [(.int .i64 0), (.int .i64 0), (.int .u32 0), (.int .i64 0), (.bool false), (.bool false)] 0 w (by simpa using hc) (by simpa using hf) (by intro v hv; simp only [List.mem_cons, List.not_mem_nil, or_false] at hv; rcases hv with rfl | rfl | rfl | rfl | rfl | rfl <;> rfl)
  simp only [Nat.add_zero] at hst
  have hz : (Builtin.zeroCells (Value.agg #[(.int .i64 0), (.int .i64 0), (.int .u32 0), (.int .i64 0), (.bool false), (.bool false)]).cells 1).toList = [(.int .i64 0), (.int .i64 0), (.int .u32 0), (.int .i64 0), (.bool false), (.bool false)] := by first | kernel_rfl | (simp [Builtin.zeroCells, Value.cells]; done) | decide
  simp [Builtin.clear_, run_underlying Try.underlying22, zero34, hz, hst]
end Go.Proofs.Ytijdplpmcnhlbaa.Q
end
section
/- slices.Delete over sockets: one element goes, in place. -/
namespace Go.Proofs.Ytijdplpmcnhlbaa.Q
open Go.RowKit Go.Proofs.YtijdplpmcnhlbaaW.PrintWords Go.Proofs.YtijdplpmcnhlbaaW.PrintLast Go.Proofs.YtijdplpmcnhlbaaW.PrintMore Go.Proofs.Ytijdplpmcnhlbaa.L
attribute [local go_sem] Instr.field part asAgg lt_step max2_int min2_int max_two min_two max_three min_three max_four min_four lt_0_1 lt_0_2 lt_1_2 lt_0_3 lt_1_3 lt_2_3 lt_0_4 lt_1_4 lt_2_4 lt_3_4 lt_0_5 lt_1_5 lt_2_5 lt_3_5 lt_4_5 lt_0_6 lt_1_6 lt_2_6 lt_3_6 lt_4_6 lt_5_6 lt_0_7 lt_1_7 lt_2_7 lt_3_7 lt_4_7 lt_5_7 lt_6_7 lt_0_8 lt_1_8 lt_2_8 lt_3_8 lt_4_8 lt_5_8 lt_6_8 lt_7_8
set_option linter.unusedVariables false
set_option linter.unusedSimpArgs false
theorem below_cells {b g : Nat} {w0 : World} (hg : b ≤ g) : ∀ (vs : List Value) (o : Nat) (w : World), Below b w0 w → Below b w0 (w.setCells g o vs)
  | [], o, w, h => h
  | v :: vs, o, w, h => below_cells hg vs (o + 1) _ (Below.setCell h (p := ⟨g, o, none⟩) hg v)
theorem del_cells {cur cur1 cur2 : Array Value} {L news z : List Value} {i n cap : Nat} (hi : i < n) (hnc : n ≤ cap) (hcs : cur.size = cap * 6) (hs1 : cur1.size = cur.size)
    (hc2 : ∀ j, j < cur.size → cur2[j]? = if (n - 1) * 6 ≤ j ∧ j < (n - 1) * 6 + z.length then z[j - (n - 1) * 6]? else cur1[j]?) (hc1 : ∀ j, j < cur.size → cur1[j]? = if i * 6 ≤ j ∧ j < i * 6 + news.length then news[j - i * 6]? else cur[j]?)
    (hcurl : ∀ j, j < n * 6 → cur[j]? = L[j]?) (hcl : L.length = n * 6) (hnl : news.length = (n - (i + 1)) * 6) : cur2.toList.take ((n - 1) * 6) = L.take (i * 6) ++ news := by
  apply List.ext_getElem?
  intro j
  have hnj : (n - 1) * 6 ≤ cap * 6 := Nat.mul_le_mul_right _ (by omega)
  have htl : (L.take (i * 6)).length = i * 6 := by rw [List.length_take, hcl]; omega
  by_cases hj : j < (n - 1) * 6
  · have e1 : cur2[j]? = cur1[j]? := by
      rw [hc2 j (by omega)]
      exact if_neg (by omega)
    rw [List.getElem?_take_of_lt hj, Array.getElem?_toList, e1]
    by_cases hji : j < i * 6
    · have e2 : cur1[j]? = cur[j]? := by
        rw [hc1 j (by omega)]
        exact if_neg (by omega)
      rw [e2, List.getElem?_append_left (by omega), List.getElem?_take_of_lt hji, hcurl j (by omega)]
    · have e2 : cur1[j]? = news[j - i * 6]? := by
        rw [hc1 j (by omega)]
        exact if_pos (by omega)
      rw [e2, List.getElem?_append_right (by omega), htl]
  · have h1 : (cur2.toList.take ((n - 1) * 6)).length ≤ j := by rw [List.length_take]; omega
    have h2 : (L.take (i * 6) ++ news).length ≤ j := by rw [List.length_append, htl, hnl]; omega
    rw [List.getElem?_eq_none h1, List.getElem?_eq_none h2]
set_option maxHeartbeats 1600000 in
set_option maxRecDepth 100000 in
theorem delete_runs (b0 g cap i : Nat) (ok : Nat → Prop) (l : List S34) (w : World) (hR : Kd.R k34 34 w b0 ok (.slice (some ⟨g, 0, none⟩) l.length cap) l) (hi : i < l.length) :
    Calls Try.prog 28 #[.slice (some ⟨g, 0, none⟩) l.length cap, .int .i64 (i : Int), .int .i64 ((i : Int) + 1)] w fun e w' => ∃ v, e = .returned v ∧ Kd.R k34 34 w' b0 ok v (l.take i ++ l.drop (i + 1)) ∧ Below b0 w w' := by
  obtain ⟨cur, hh, hb, hk, hn, hnc, hcm, hcs, ht⟩ := R_cells hR
  have hcm' : cap ≤ 9223372036854775807 := hcm
  obtain ⟨n, hnn⟩ : ∃ n, n = l.length := ⟨_, rfl⟩
  rw [← hnn] at hi hnc ht ⊢
  have hcell : ∀ j, w.cell? ⟨g, j, none⟩ = cur[j]? := fun j => blk_cell hh j
  have hfz : ∀ j, w.frozen? ⟨g, j, none⟩ = false := fun j => blk_frozen hh _
  obtain ⟨news, hnews⟩ : ∃ news, news = cellsL (l.drop (i + 1)) := ⟨_, rfl⟩
  have hnl : news.length = (n - (i + 1)) * 6 := by rw [hnews, cellsL_len, List.length_drop, hnn]
  have hcl : (cellsL l).length = n * 6 := by rw [cellsL_len, hnn]
  have hcurl : ∀ j, j < n * 6 → cur[j]? = (cellsL l)[j]? := fun j hj => by
    rw [← ht, List.getElem?_take, if_pos hj, Array.getElem?_toList]
  obtain ⟨A, hA, hsrc⟩ : ∃ A : Addr, (if cap = i + 1 then (some (⟨g, 0, none⟩ : Addr)) else some ⟨g, (i + 1) * 6, none⟩) = some A ∧ Hid (∀ t u, news[t]? = some u → w.drew.cell? (A.add t) = some u) := by
    by_cases h : cap = i + 1
    · refine ⟨⟨g, 0, none⟩, by simp [h], fun t u hu => ?_⟩
      have h0 : news.length = 0 := by rw [hnl]; omega
      rw [List.length_eq_zero_iff.1 h0] at hu
      simp at hu
    · refine ⟨⟨g, (i + 1) * 6, none⟩, by simp [h], fun t u hu => ?_⟩
      have htl : t < (n - (i + 1)) * 6 := by rw [← hnl]; exact (List.getElem?_eq_some_iff.1 hu).1
      rw [Addr.add_lit]
      show w.cell? _ = _
      rw [hcell, hcurl _ (by omega), ← hu, hnews, ← cellsL_drop, List.getElem?_drop]
  have s2 : Hid (∀ u ∈ news, u.oneCell' = true) := by rw [hnews]; exact fun u hu => cellsL_one _ u hu
  have s3 : Hid (∀ t, t < news.length → (w.drew.cell? ⟨g, 0 + i * 6 + t, none⟩).isSome = true ∧ w.drew.frozen? ⟨g, 0 + i * 6 + t, none⟩ = false) := by
    intro t htl
    rw [hnl] at htl
    refine ⟨?_, hfz _⟩
    show (w.cell? _).isSome = true
    rw [hcell, Array.getElem?_eq_getElem (by omega)]; rfl
  obtain ⟨W1, hW1⟩ : ∃ W1, W1 = w.drew.setCells g (0 + i * 6) news := ⟨_, rfl⟩
  obtain ⟨cur1, hh1, hs1, hc1⟩ := blk_cells (t := 34) news (0 + i * 6) w.drew cur (blk_drew hh)
  rw [← hW1] at hh1
  have hclr : ∀ ty c', (Builtin.clear_ #[22] ty #[.slice (some ⟨g, (n - 1) * 6, none⟩) (n - (n - 1)) c']).run Try.prog W1 = .ok (.tuple #[]) (W1.setCells g ((n - 1) * 6) [(.int .i64 0), (.int .i64 0), (.int .u32 0), (.int .i64 0), (.bool false), (.bool false)]) := fun ty c' => by
    rw [show n - (n - 1) = 1 by omega]
    exact run_clear6 W1 ty g ((n - 1) * 6) _ (fun j hj => by rw [blk_cell hh1, Array.getElem?_eq_getElem (by omega)]; rfl) (fun j _ => blk_frozen hh1 _)
  have HFIN : Aside0 (Kd.R k34 34 (W1.setCells g ((n - 1) * 6) [(.int .i64 0), (.int .i64 0), (.int .u32 0), (.int .i64 0), (.bool false), (.bool false)]) b0 ok (.slice (some ⟨g, 0, none⟩) (n - 1) cap) (l.take i ++ l.drop (i + 1)) ∧ Below b0 w (W1.setCells g ((n - 1) * 6) [(.int .i64 0), (.int .i64 0), (.int .u32 0), (.int .i64 0), (.bool false), (.bool false)])) := by
    refine ⟨?_, below_cells hb _ _ _ (by rw [hW1]; exact below_cells hb _ _ _ (below_drew1 (Below.refl _ _)))⟩
    obtain ⟨cur2, hh2, hs2, hc2⟩ := blk_cells (t := 34) [(.int .i64 0), (.int .i64 0), (.int .u32 0), (.int .i64 0), (.bool false), (.bool false)] ((n - 1) * 6) W1 cur1 hh1
    have hlen : (l.take i ++ l.drop (i + 1)).length = n - 1 := by rw [List.length_append, List.length_take, List.length_drop, ← hnn]; omega
    have hr := R_mk (cap := cap) (ok := ok) (base := b0) (l := l.take i ++ l.drop (i + 1)) hh2 hb hk (by rw [hlen]; omega) hcm (by rw [hs2, hs1, hcs]) ?_
    · rw [hlen] at hr; exact hr
    · rw [hlen, cellsL_append, ← cellsL_take, ← hnews]
      exact del_cells (n := n) (z := [(.int .i64 0), (.int .i64 0), (.int .u32 0), (.int .i64 0), (.bool false), (.bool false)]) hi hnc hcs hs1 (fun j hj => by have := hc2 j (by rw [hs1]; exact hj); exact this) (fun j hj => by have := hc1 j hj; rwa [Nat.zero_add] at this) hcurl hcl hnl
  have hW : Hid (W1 = w.drew.setCells g (0 + i * 6) news) := hW1
  have HN : Hid (news.length = (n - (i + 1)) * 6) := hnl
  have hic : i ≤ cap := by omega
  have hjc : i + 1 ≤ cap := by omega
  have hi0 : ((i : Int) == (i : Int) + 1) = false := beq_eq_false_iff_ne.2 (by omega)
  obtain ⟨i0, hi0, hzz⟩ := Option.map_eq_some_iff.1 info34
  simp only [Prod.mk.injEq] at hzz
  have hi6 : i0.size = 6 := hzz.2.1
  clear hW1 hR hzz hcell hcurl ht hnews hnl hn
  have hq1 : (0 : Int) ≤ (i : Int) + 1 := by omega
  have hq2 : (i : Int) + 1 ≤ (n : Int) := by omega
  subst hnn
  go_enter Try.func28, Try.ntmps28
  go_wp2_with fail
  go_region_law (refine step_append_room rfl (.tmp 22) (.tmp 25) 22 rfl 34 i0 6 Try.underlying22 hi0 hi6 g 0 i cap (by simp [Act.eval, Act.put]) A (l.length - (i + 1)) (cap - (i + 1)) news (by simp [Act.eval, Act.put]) HN.out hsrc.out s2.out (by omega) s3.out ?_; rw [← hW.out])
  rw [show i + (l.length - (i + 1)) = l.length - 1 by omega]
  have hq3 : ((l.length - 1 : Nat) : Int) ≤ (l.length : Int) := by omega
  have hq4 : (l.length : Int) ≤ (cap : Int) := by omega
  have hq5 : ¬ (cap = l.length - 1) := by omega
  go_wp2
  go_ret
  exact ⟨_, rfl, HFIN.out.1, HFIN.out.2⟩
end Go.Proofs.Ytijdplpmcnhlbaa.Q
end
section
/- host.Close. -/
namespace Go.Proofs.Ytijdplpmcnhlbaa.Q
open Go.RowKit Go.Proofs.YtijdplpmcnhlbaaW.PrintWords Go.Proofs.YtijdplpmcnhlbaaW.PrintLast Go.Proofs.YtijdplpmcnhlbaaW.PrintMore Go.Proofs.Ytijdplpmcnhlbaa.L
attribute [local go_sem] Instr.field part asAgg lt_step max2_int min2_int max_two min_two max_three min_three max_four min_four lt_0_1 lt_0_2 lt_1_2 lt_0_3 lt_1_3 lt_2_3 lt_0_4 lt_1_4 lt_2_4 lt_3_4 lt_0_5 lt_1_5 lt_2_5 lt_3_5 lt_4_5 lt_0_6 lt_1_6 lt_2_6 lt_3_6 lt_4_6 lt_5_6 lt_0_7 lt_1_7 lt_2_7 lt_3_7 lt_4_7 lt_5_7 lt_6_7 lt_0_8 lt_1_8 lt_2_8 lt_3_8 lt_4_8 lt_5_8 lt_6_8 lt_7_8
set_option linter.unusedVariables false
set_option linter.unusedSimpArgs false
def closeZ (l : List S34) (i : Int) : List S34 × Bool := if i < 0 then (l, false) else (l.take i.toNat ++ l.drop (i.toNat + 1), true)
def host_Close.f (l0 : List S34) (a1 : Int) : Option (List S34 × Bool) := if l0.length * 40 < 140737488355328 then (host_place.f l0 a1).map (closeZ l0) else none
section
variable (P0_ : Nat → Prop) (A0 : Option Addr) (c0 : Nat) (l0 : List S34) (a1 i : Int) (w : World)
set_option maxHeartbeats 1600000 in
set_option maxRecDepth 100000 in
theorem close_no (hs0 : Kd.V k34 34 w w.heap.size P0_ (.slice A0 l0.length c0) l0) (h : host_place.f l0 a1 = some i) (hi : i < 0) :
    Calls Try.prog 13 #[.slice A0 l0.length c0, .int .i64 a1] w fun e w' => e = .returned (.tuple #[.slice A0 l0.length c0, .bool false]) ∧ Below w.heap.size w w' := by
  have HB := Aside0.mk (Below.refl w.heap.size w)
  have HR := Aside0.mk (V_C hs0).2
  have HC := Aside0.mk (V_C hs0).1
  have HK := Aside0.mk h
  have hb : decide (i < 0) = true := decide_eq_true hi
  clear hs0 h hi
  go_enter Try.func13, Try.ntmps13
  go_wp2_with fail
  (go_at_call 22; (with_reducible refine (host_place.calls _ _ l0 a1 i _ HR.out HC.out HK.out).mono ?_); rintro e_ w1 ⟨rfl, hb_⟩; have HB_ : Aside0 (Below w.heap.size w w1) := Aside0.mk (below_step (bG HB) hb_); have hzw1 := hb_.size; (try simp at hzw1); clear HB hb_; have HB := HB_; clear HB_)
  go_wp2
  go_ret2
  exact ⟨rfl, (bG HB)⟩
set_option maxHeartbeats 1600000 in
set_option maxRecDepth 100000 in
theorem close_do (k : Nat) (hl : l0.length * 40 < 140737488355328) (hs0 : Kd.V k34 34 w w.heap.size P0_ (.slice A0 l0.length c0) l0) (h : host_place.f l0 a1 = some (k : Int)) (h1 : k < l0.length) :
    Calls Try.prog 13 #[.slice A0 l0.length c0, .int .i64 a1] w fun e w' => ∃ v, e = .returned (.tuple #[v, .bool true]) ∧ Kd.R k34 34 w' w.heap.size (fun _ => True) v (l0.take k ++ l0.drop (k + 1)) ∧ Below w.heap.size w w' := by
  have HB := Aside0.mk (Below.refl w.heap.size w)
  have HR := Aside0.mk (V_C hs0).2
  have HC := Aside0.mk (V_C hs0).1
  have HK := Aside0.mk h
  have HL := Aside0.mk (cl_ok hl)
  have hm : l0.length ≤ 9223372036854775807 := HR.out.2.1
  have hb : decide ((k : Int) < 0) = false := decide_eq_false (by omega)
  have hw : IntKind.i64.wrap ((k : Int) + 1) = (k : Int) + 1 := by rw [IntKind.wrap_i64]; omega
  clear hs0 h
  go_enter Try.func13, Try.ntmps13
  go_wp2_with fail
  (go_at_call 22; (with_reducible refine (host_place.calls _ _ l0 a1 k _ HR.out HC.out HK.out).mono ?_); rintro e_ w1 ⟨rfl, hb_⟩; have HB_ : Aside0 (Below w.heap.size w w1) := Aside0.mk (below_step (bG HB) hb_); have hzw1 := hb_.size; (try simp at hzw1); clear HB hb_; have HB := HB_; clear HB_)
  go_wp2_with fail
  go_at_call 21; refine (api_Sock_21.calls _ _ l0 _ _ (Kd.C_below HR.out HB.out) HC.out HL.out).mono ?_; rintro e w2 ⟨v0, rfl, hR, hb2⟩
  obtain ⟨g, cap, rfl, hg1, hg2⟩ := R_own hR (by omega)
  have HR2 := Aside0.mk (Kd.R_lower hR (below_size HB.out))
  have HB2 := Aside0.mk (below_step HB.out hb2)
  clear hR hb2
  go_wp2_with fail
  go_at_call 28; refine (delete_runs w.heap.size g cap k _ l0 _ HR2.out h1).mono ?_; rintro e w3 ⟨v1, rfl, hR3, hb3⟩
  have HR3 := Aside0.mk hR3
  have HB3 := Aside0.mk (HB2.out.trans hb3)
  clear hR3 hb3
  go_wp2
  go_ret2
  exact ⟨_, rfl, HR3.out, HB3.out⟩
theorem host_Close_c (r1 : List S34) (r2 : Bool) (hs0 : Kd.V k34 34 w w.heap.size (fun k_ => P0_ k_) (.slice A0 l0.length c0) l0) (h : host_Close.f l0 a1 = some (r1, r2)) :
    Calls Try.prog 13 #[.slice A0 l0.length c0, .int .i64 a1] w fun e w' => ∃ v0_ : Value, e = .returned (.tuple #[v0_, .bool r2]) ∧ Kd.V k34 34 w' w.heap.size (fun k_ => (P0_ k_ ∨ w.heap.size ≤ k_)) v0_ r1 ∧ Below w.heap.size w w' := by
  unfold host_Close.f at h
  split at h
  case isFalse => cases h
  case isTrue hl =>
  obtain ⟨i, hi, h⟩ := Option.map_eq_some_iff.1 h
  unfold closeZ at h
  rcases place_range hi with h1 | ⟨h0, h1⟩
  · rw [if_pos h1] at h
    simp only [Prod.mk.injEq] at h
    obtain ⟨rfl, rfl⟩ := h
    exact (close_no P0_ A0 c0 l0 a1 i w hs0 hi h1).mono fun _ _ h => ⟨_, h.1, V_stay hs0 h.2, h.2⟩
  · rw [if_neg (by omega)] at h
    simp only [Prod.mk.injEq] at h
    obtain ⟨rfl, rfl⟩ := h
    obtain ⟨k, rfl⟩ : ∃ k : Nat, i = k := ⟨i.toNat, by omega⟩
    exact (close_do P0_ A0 c0 l0 a1 w k hl hs0 hi (by omega)).mono fun _ _ ⟨v, he, hR, hb⟩ => ⟨v, he, V_new hR, hb⟩
end
theorem host_Close.calls (P0_ : Nat → Prop) (A0 : Option Addr) (c0 : Nat) (l0 : List (S34)) (a1 : Int) (r1 : List (S34)) (r2 : Bool) (w : World) (hs0 : Kd.V k34 34 w w.heap.size (fun k_ => P0_ k_) (.slice A0 l0.length c0) l0) (h : host_Close.f l0 a1 = some (r1, r2)) :
    Calls Try.prog 13 #[.slice A0 l0.length c0, .int .i64 a1] w fun e w' => ∃ v0_ : Value, e = .returned (.tuple #[v0_, .bool r2]) ∧ Kd.V k34 34 w' w.heap.size (fun k_ => (P0_ k_ ∨ w.heap.size ≤ k_)) v0_ r1 ∧ Below w.heap.size w w' := host_Close_c P0_ A0 c0 l0 a1 w r1 r2 hs0 h
end Go.Proofs.Ytijdplpmcnhlbaa.Q
end
