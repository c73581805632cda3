import Derived.Test.YtnjgejjijboibaaPZ1
import Derived.Test.YtnjgejjijboibaaPZ4
import Derived.Laws.StructEq
import Derived.Test.YtnjgejjijboibaaPZ2
import Derived.Lib.AppendZerosOnto
import Derived.Lib.Overlaps
import Derived.Deep.RegionLaw
import Derived.Deep.AppendSrc
section
/- nat.sift, nat.Expire. -/
namespace Go.Proofs.Ytnjgejjijboibaa.Q
open Go.RowKit Go.Proofs.YtnjgejjijboibaaW.PrintWords Go.Proofs.YtnjgejjijboibaaW.PrintLast Go.Proofs.YtnjgejjijboibaaW.PrintMore Go.Proofs.Ytnjgejjijboibaa.L
attribute [local go_sem] Instr.field part asAgg lt_step max2_int min2_int max_two min_two max_three min_three max_four min_four lt_0_1 lt_0_2 lt_1_2 lt_0_3 lt_1_3 lt_2_3 lt_0_4 lt_1_4 lt_2_4 lt_3_4 lt_0_5 lt_1_5 lt_2_5 lt_3_5 lt_4_5 lt_0_6 lt_1_6 lt_2_6 lt_3_6 lt_4_6 lt_5_6 lt_0_7 lt_1_7 lt_2_7 lt_3_7 lt_4_7 lt_5_7 lt_6_7 lt_0_8 lt_1_8 lt_2_8 lt_3_8 lt_4_8 lt_5_8 lt_6_8 lt_7_8
set_option linter.unusedVariables false
set_option linter.unusedSimpArgs false
theorem letter3 (w : World) (o p q : Obj) : ∃ w1, ((w.alloc o).alloc p).alloc q = w1 ∧ w1.heap[w.heap.size]? = some o ∧ w1.heap[w.heap.size + 1]? = some p ∧ w1.heap[w.heap.size + 1 + 1]? = some q ∧ Below w.heap.size w w1 ∧ w1.heap.size = w.heap.size + 1 + 1 + 1 :=
  ⟨_, rfl, ext_alloc (ext_alloc (nb_1 w o) p) q, ext_alloc (nb_2 w o p) q, nb_3 w o p q, Below.alloc (Below.alloc (Below.alloc (Below.refl _ _) (Nat.le_refl _) _) (by simp) _) (by simp; omega) _, by simp⟩
theorem i27 : (Try.prog.info? 27).map (·.size) = some 2 := by kernel_rfl
theorem one27 (A : Option Addr) (n k : Nat) (A' : Option Addr) (n' k' : Nat) : (#[.slice A n k, .slice A' n' k'] : Array Value).all (·.oneCell') = true := by simp [Value.oneCell']
theorem results_c {P : Program} {fn : Func} {p : Tmp} {ty : TypeId} (h : fn.results = #[.cell p ty]) (tmps : Array Value) (w : World) (g : Nat) (t : TypeId) (cs : Array Value) (fr : Nat × Nat) (d : TypeDesc)
    (hp : tmps.getD p undef = .pointer (some ⟨g, 0, none⟩)) (hg : w.heap[g]? = some (.cells cs t fr)) (hu : P.underlying ty = some d) (hd : (match d with | .struct _ | .array _ _ => true | _ => false) = true) (hi : (P.info? ty).map (·.size) = some cs.size) :
    (results fn tmps).run P w = .ok (.agg cs) w := by
  have h1 : tmps[p]?.getD undef = .pointer (some ⟨g, 0, none⟩) := by simpa using hp
  simp [results, h, h1, asAddr, run_loadVar_row w g t ty cs fr d hg hu hd hi]
def Blk48 (b g : Nat) (cur : Array Value) (t : TypeId) (A : Option Addr) (c : Nat) (l : List S48) : Prop := b ≤ g ∧ ((A = none ∧ l = [] ∧ c = 0) ∨ (A = some ⟨g, 0, none⟩ ∧ t = 48 ∧ cur.size = c * 5 ∧ c ≤ maxLen ∧ cur.toList.take (l.length * 5) = cellsL_48 l))
theorem R_of_Blk48 {W : World} {b g c : Nat} {cur : Array Value} {t : TypeId} {A : Option Addr} {l : List S48} (hh : W.heap[g]? = some (.cells cur t (0, 0))) (hb : Blk48 b g cur t A c l) (hlc : l.length ≤ c) (base : Nat) (hbase : base ≤ b) : Kd.R k48 48 W base (fun _ => True) (.slice A l.length c) l := by
  obtain ⟨hg, ⟨rfl, rfl, rfl⟩ | ⟨rfl, rfl, h1, h2, h3⟩⟩ := hb
  · exact Kd.R_nil _ _ _ _ _
  · exact R_mk_48 hh (Nat.le_trans hbase hg) trivial hlc h2 h1 h3
theorem C_nil48 (w : World) : Kd.C k48 w none ([] : List S48).length [] := ⟨rfl, by decide, fun h => absurd h (by decide)⟩
theorem idxnil48 (gt gn : Nat) (now : Int) (w : World) (ht : w.heap[gt]? = some (.cells #[.func (.func 28) #[] #[.pointer (some ⟨gn, 0, none⟩)]] 51 (0, 0))) (hn : w.heap[gn]? = some (.cells #[.int .i64 now] 3 (0, 0))) :
    Calls Try.prog 16 #[.slice none 0 0, .func (.func 35) #[] #[.pointer (some ⟨gt, 0, none⟩)]] w fun e w' => e = .returned (.int .i64 (-1)) ∧ Below w.heap.size w w' := indexS48_runs gt gn now none 0 [] w (C_nil48 w) ht hn
theorem del48_nil (gt gn : Nat) (now : Int) (w : World) (ht : w.heap[gt]? = some (.cells #[.func (.func 28) #[] #[.pointer (some ⟨gn, 0, none⟩)]] 51 (0, 0))) (hn : w.heap[gn]? = some (.cells #[.int .i64 now] 3 (0, 0))) :
    Calls Try.prog 33 #[.slice none 0 0, .func (.func 35) #[] #[.pointer (some ⟨gt, 0, none⟩)]] w fun e w' => e = .returned (.slice none 0 0) ∧ Below w.heap.size w w' := by
  have HT := Aside0.mk ht
  have HN := Aside0.mk hn
  clear ht hn
  go_enter Try.func33, Try.ntmps33
  go_wp2_with fail
  go_at_call 16
  with_reducible refine (idxnil48 gt gn now _ HT.out HN.out).mono ?_
  rintro e_ w1 ⟨rfl, hb_⟩
  go_wp2
  go_ret
  exact ⟨rfl, hb_⟩
set_option maxHeartbeats 1600000 in
set_option maxRecDepth 100000 in
theorem siftA48 (gn : Nat) (now : Int) (A0 : Option Addr) (c0 : Nat) (l : List S48) (w : World) (ok : Nat → Prop) (hr0 : Kd.F k48 w ok A0 l.length l) (hc0 : l.length ≤ c0) (hl : l.length ≤ 1000) (hn : w.heap[gn]? = some (.cells #[.int .i64 now] 3 (0, 0))) :
    Calls Try.prog 27 #[.slice A0 l.length c0, .func (.func 28) #[] #[.pointer (some ⟨gn, 0, none⟩)]] w fun e w' => ∃ g cur t A' c', e = .returned (.slice A' (l.filter (fun x => decide (x.f4 > now))).length c') ∧ w'.heap[g]? = some (.cells cur t (0, 0)) ∧ Blk48 w.heap.size g cur t A' c' (l.filter (fun x => decide (x.f4 > now))) ∧ (l.filter (fun x => decide (x.f4 > now))).length ≤ c' ∧ Kd.F k48 w' (fun j => w.heap.size ≤ j) A' (l.filter (fun x => decide (x.f4 > now))).length (l.filter (fun x => decide (x.f4 > now))) ∧ Below w.heap.size w w' := by
  have HB := Aside0.mk (Below.refl w.heap.size w)
  have HR := Aside0.mk (Kd.F_bound hr0)
  have HCL : Aside0 (clone48.f l = some l) := ⟨by unfold clone48.f; rw [if_pos (by omega)]⟩
  have HC := Aside0.mk hc0
  have HN := Aside0.mk hn
  have hgn := (cells_of hn).2.2
  clear hr0 hn
  go_enter Try.func27, Try.ntmps27
  go_upto_region 1 with fail
  obtain ⟨wa, hwa, ot0, hb_, hz0⟩ := letter1 w (.cells #[.func (.func 28) #[] #[.pointer (some ⟨gn, 0, none⟩)]] 51 (0, 0))
  rw [hwa]
  clear hwa
  have ot := Aside0.mk ot0
  have on := Aside0.mk (box_below hb_ HN.out)
  have HR_ := Aside0.mk (Kd.F_below HR.out hb_)
  have HB_ : Aside0 (Below w.heap.size w wa) := ⟨hb_⟩
  clear ot0 hb_ HB HR HN
  have hzwa := Nat.le_of_eq hz0.symm
  clear hz0
  obtain ⟨otc, otf, otl⟩ := cells_of ot.out
  go_wp2_with fail
  go_at_call 34
  with_reducible refine (clone48.calls A0 c0 l l _ (Kd.F_now HR_.out) HC.out HCL.out).mono ?_
  rintro e_ w1 ⟨v, rfl, hR, hb_⟩
  have HB1 : Aside0 (Below w.heap.size w w1) := ⟨below_step HB_.out hb_⟩
  have ot1 := Aside0.mk (box_below hb_ ot.out)
  have on1 := Aside0.mk (box_below hb_ on.out)
  have hz1 := hb_.size
  have hR' := hR
  clear hb_ ot on otc otf otl HB_ HR_
  rcases R_or48 hR' with ⟨rfl, rfl⟩ | ⟨g, cap, rfl, hbg, hcap⟩
  · clear hR hR'
    go_wp2_with fail
    go_at_call 33
    with_reducible refine (del48_nil w.heap.size gn now _ ot1.out on1.out).mono ?_
    rintro e_ w2 ⟨rfl, hb_⟩
    have HB2 : Aside0 (Below w.heap.size w w2) := ⟨below_step HB1.out hb_⟩
    have ot2 := Aside0.mk (box_below hb_ ot1.out)
    clear hb_
    go_wp2
    go_ret
    exact ⟨w.heap.size, _, _, none, 0, rfl, ot2.out, ⟨Nat.le_refl _, .inl ⟨rfl, rfl, rfl⟩⟩, Nat.le_refl _, F_of_C48 (C_nil48 _) (fun ad e _ => by cases e), HB2.out⟩
  · have HRR := Aside0.mk hR
    clear hR hR'
    go_wp2_with fail
    go_at_call 33
    with_reducible refine (del48_runs wa.heap.size w.heap.size gn now g cap _ l _ HRR.out ot1.out on1.out (by omega) (by omega)).mono ?_
    rintro e_ w2 ⟨v, rfl, hR2, hb_⟩
    have HB2 : Aside0 (Below w.heap.size w w2) := ⟨HB1.out.trans (Below.mono hb_ (by omega))⟩
    have HBD := Aside0.mk hb_
    have HR2 := Aside0.mk hR2
    clear hb_ hR2
    obtain ⟨A', c', rfl, hc', hF⟩ := R_F48 HR2.out
    have HF := Aside0.mk hF
    have hblk : ∃ g cur t, w2.heap[g]? = some (.cells cur t (0, 0)) ∧ Blk48 w.heap.size g cur t A' c' (l.filter (fun x => decide (x.f4 > now))) := by
      have ot2 : w2.heap[w.heap.size]? = some (.cells #[.func (.func 28) #[] #[.pointer (some ⟨gn, 0, none⟩)]] 51 (0, 0)) := low_box (Below.mono HBD.out (by omega)) (Nat.lt_succ_self _) ot1.out
      rcases R_or48 HR2.out with ⟨hv, hx⟩ | ⟨g2, cap2, hv, hb2, hcap2⟩
      · injection hv with e1 e2 e3
        exact ⟨w.heap.size, _, _, ot2, Nat.le_refl _, .inl ⟨e1, hx, e3⟩⟩
      · rw [hv] at HR2
        obtain ⟨cur, hh, h1, _, _, h4, h5, h6, h7⟩ := R_cells_48 HR2.out
        injection hv with e1 e2 e3
        exact ⟨g2, cur, _, hh, by omega, .inr ⟨e1, rfl, by rw [e3]; exact h6, by rw [e3]; exact h5, h7⟩⟩
    obtain ⟨gq, curq, tq, hq1, hq2⟩ := hblk
    have HQ1 := Aside0.mk hq1
    have HQ2 := Aside0.mk hq2
    clear hF HR2 HRR hq1 hq2 HBD
    go_wp2
    go_ret
    exact ⟨gq, curq, tq, A', c', rfl, HQ1.out, HQ2.out, hc', Kd.F_mono HF.out (fun j hj => by omega), HB2.out⟩
def Blk39 (b g : Nat) (cur : Array Value) (t : TypeId) (A : Option Addr) (c : Nat) (l : List S39) : Prop := b ≤ g ∧ ((A = none ∧ l = [] ∧ c = 0) ∨ (A = some ⟨g, 0, none⟩ ∧ t = 39 ∧ cur.size = c * 4 ∧ c ≤ maxLen ∧ cur.toList.take (l.length * 4) = cellsL_39 l))
theorem R_of_Blk39 {W : World} {b g c : Nat} {cur : Array Value} {t : TypeId} {A : Option Addr} {l : List S39} (hh : W.heap[g]? = some (.cells cur t (0, 0))) (hb : Blk39 b g cur t A c l) (hlc : l.length ≤ c) (base : Nat) (hbase : base ≤ b) : Kd.R k39 39 W base (fun _ => True) (.slice A l.length c) l := by
  obtain ⟨hg, ⟨rfl, rfl, rfl⟩ | ⟨rfl, rfl, h1, h2, h3⟩⟩ := hb
  · exact Kd.R_nil _ _ _ _ _
  · exact R_mk_39 hh (Nat.le_trans hbase hg) trivial hlc h2 h1 h3
theorem C_nil39 (w : World) : Kd.C k39 w none ([] : List S39).length [] := ⟨rfl, by decide, fun h => absurd h (by decide)⟩
theorem idxnil39 (gt gn : Nat) (now : Int) (w : World) (ht : w.heap[gt]? = some (.cells #[.func (.func 30) #[] #[.pointer (some ⟨gn, 0, none⟩)]] 60 (0, 0))) (hn : w.heap[gn]? = some (.cells #[.int .i64 now] 3 (0, 0))) :
    Calls Try.prog 23 #[.slice none 0 0, .func (.func 37) #[] #[.pointer (some ⟨gt, 0, none⟩)]] w fun e w' => e = .returned (.int .i64 (-1)) ∧ Below w.heap.size w w' := indexS39_runs gt gn now none 0 [] w (C_nil39 w) ht hn
theorem del39_nil (gt gn : Nat) (now : Int) (w : World) (ht : w.heap[gt]? = some (.cells #[.func (.func 30) #[] #[.pointer (some ⟨gn, 0, none⟩)]] 60 (0, 0))) (hn : w.heap[gn]? = some (.cells #[.int .i64 now] 3 (0, 0))) :
    Calls Try.prog 36 #[.slice none 0 0, .func (.func 37) #[] #[.pointer (some ⟨gt, 0, none⟩)]] w fun e w' => e = .returned (.slice none 0 0) ∧ Below w.heap.size w w' := by
  have HT := Aside0.mk ht
  have HN := Aside0.mk hn
  clear ht hn
  go_enter Try.func36, Try.ntmps36
  go_wp2_with fail
  go_at_call 23
  with_reducible refine (idxnil39 gt gn now _ HT.out HN.out).mono ?_
  rintro e_ w1 ⟨rfl, hb_⟩
  go_wp2
  go_ret
  exact ⟨rfl, hb_⟩
set_option maxHeartbeats 1600000 in
set_option maxRecDepth 100000 in
theorem siftA39 (gn : Nat) (now : Int) (A0 : Option Addr) (c0 : Nat) (l : List S39) (w : World) (ok : Nat → Prop) (hr0 : Kd.F k39 w ok A0 l.length l) (hc0 : l.length ≤ c0) (hl : l.length ≤ 1000) (hn : w.heap[gn]? = some (.cells #[.int .i64 now] 3 (0, 0))) :
    Calls Try.prog 29 #[.slice A0 l.length c0, .func (.func 30) #[] #[.pointer (some ⟨gn, 0, none⟩)]] w fun e w' => ∃ g cur t A' c', e = .returned (.slice A' (l.filter (fun x => decide (x.f3 > now))).length c') ∧ w'.heap[g]? = some (.cells cur t (0, 0)) ∧ Blk39 w.heap.size g cur t A' c' (l.filter (fun x => decide (x.f3 > now))) ∧ (l.filter (fun x => decide (x.f3 > now))).length ≤ c' ∧ Kd.F k39 w' (fun j => w.heap.size ≤ j) A' (l.filter (fun x => decide (x.f3 > now))).length (l.filter (fun x => decide (x.f3 > now))) ∧ Below w.heap.size w w' := by
  have HB := Aside0.mk (Below.refl w.heap.size w)
  have HR := Aside0.mk (Kd.F_bound hr0)
  have HCL : Aside0 (clone39.f l = some l) := ⟨by unfold clone39.f; rw [if_pos (by omega)]⟩
  have HC := Aside0.mk hc0
  have HN := Aside0.mk hn
  have hgn := (cells_of hn).2.2
  clear hr0 hn
  go_enter Try.func29, Try.ntmps29
  go_upto_region 1 with fail
  obtain ⟨wa, hwa, ot0, hb_, hz0⟩ := letter1 w (.cells #[.func (.func 30) #[] #[.pointer (some ⟨gn, 0, none⟩)]] 60 (0, 0))
  rw [hwa]
  clear hwa
  have ot := Aside0.mk ot0
  have on := Aside0.mk (box_below hb_ HN.out)
  have HR_ := Aside0.mk (Kd.F_below HR.out hb_)
  have HB_ : Aside0 (Below w.heap.size w wa) := ⟨hb_⟩
  clear ot0 hb_ HB HR HN
  have hzwa := Nat.le_of_eq hz0.symm
  clear hz0
  obtain ⟨otc, otf, otl⟩ := cells_of ot.out
  go_wp2_with fail
  go_at_call 26
  with_reducible refine (clone39.calls A0 c0 l l _ (Kd.F_now HR_.out) HC.out HCL.out).mono ?_
  rintro e_ w1 ⟨v, rfl, hR, hb_⟩
  have HB1 : Aside0 (Below w.heap.size w w1) := ⟨below_step HB_.out hb_⟩
  have ot1 := Aside0.mk (box_below hb_ ot.out)
  have on1 := Aside0.mk (box_below hb_ on.out)
  have hz1 := hb_.size
  have hR' := hR
  clear hb_ ot on otc otf otl HB_ HR_
  rcases R_or39 hR' with ⟨rfl, rfl⟩ | ⟨g, cap, rfl, hbg, hcap⟩
  · clear hR hR'
    go_wp2_with fail
    go_at_call 36
    with_reducible refine (del39_nil w.heap.size gn now _ ot1.out on1.out).mono ?_
    rintro e_ w2 ⟨rfl, hb_⟩
    have HB2 : Aside0 (Below w.heap.size w w2) := ⟨below_step HB1.out hb_⟩
    have ot2 := Aside0.mk (box_below hb_ ot1.out)
    clear hb_
    go_wp2
    go_ret
    exact ⟨w.heap.size, _, _, none, 0, rfl, ot2.out, ⟨Nat.le_refl _, .inl ⟨rfl, rfl, rfl⟩⟩, Nat.le_refl _, F_of_C39 (C_nil39 _) (fun ad e _ => by cases e), HB2.out⟩
  · have HRR := Aside0.mk hR
    clear hR hR'
    go_wp2_with fail
    go_at_call 36
    with_reducible refine (del39_runs wa.heap.size w.heap.size gn now g cap _ l _ HRR.out ot1.out on1.out (by omega) (by omega)).mono ?_
    rintro e_ w2 ⟨v, rfl, hR2, hb_⟩
    have HB2 : Aside0 (Below w.heap.size w w2) := ⟨HB1.out.trans (Below.mono hb_ (by omega))⟩
    have HBD := Aside0.mk hb_
    have HR2 := Aside0.mk hR2
    clear hb_ hR2
    obtain ⟨A', c', rfl, hc', hF⟩ := R_F39 HR2.out
    have HF := Aside0.mk hF
    have hblk : ∃ g cur t, w2.heap[g]? = some (.cells cur t (0, 0)) ∧ Blk39 w.heap.size g cur t A' c' (l.filter (fun x => decide (x.f3 > now))) := by
      have ot2 : w2.heap[w.heap.size]? = some (.cells #[.func (.func 30) #[] #[.pointer (some ⟨gn, 0, none⟩)]] 60 (0, 0)) := low_box (Below.mono HBD.out (by omega)) (Nat.lt_succ_self _) ot1.out
      rcases R_or39 HR2.out with ⟨hv, hx⟩ | ⟨g2, cap2, hv, hb2, hcap2⟩
      · injection hv with e1 e2 e3
        exact ⟨w.heap.size, _, _, ot2, Nat.le_refl _, .inl ⟨e1, hx, e3⟩⟩
      · rw [hv] at HR2
        obtain ⟨cur, hh, h1, _, _, h4, h5, h6, h7⟩ := R_cells_39 HR2.out
        injection hv with e1 e2 e3
        exact ⟨g2, cur, _, hh, by omega, .inr ⟨e1, rfl, by rw [e3]; exact h6, by rw [e3]; exact h5, h7⟩⟩
    obtain ⟨gq, curq, tq, hq1, hq2⟩ := hblk
    have HQ1 := Aside0.mk hq1
    have HQ2 := Aside0.mk hq2
    clear hF HR2 HRR hq1 hq2 HBD
    go_wp2
    go_ret
    exact ⟨gq, curq, tq, A', c', rfl, HQ1.out, HQ2.out, hc', Kd.F_mono HF.out (fun j hj => by omega), HB2.out⟩
set_option maxHeartbeats 1600000 in
set_option maxRecDepth 100000 in
theorem exp_yes (A0 : Option Addr) (c0 : Nat) (fl : List S48) (A1 : Option Addr) (c1 : Nat) (ql : List S39) (now : Int) (w : World) (ok0 ok1 : Nat → Prop) (hr0 : Kd.F k48 w ok0 A0 fl.length fl) (hc0 : fl.length ≤ c0) (hr1 : Kd.F k39 w ok1 A1 ql.length ql) (hc1 : ql.length ≤ c1) (hwf : ∀ x ∈ fl, wfF x) (hwq : ∀ x ∈ ql, wfQ x) (hl0 : fl.length ≤ 1000) (hl1 : ql.length ≤ 1000) (hm : mayZ fl ql now = true) :
    Calls Try.prog 13 #[.agg #[.slice A0 fl.length c0, .slice A1 ql.length c1], .int .i64 now] w fun e w' => ∃ g cur t g2 cur2 t2 A c A' c', e = .returned (.agg #[.slice A (fl.filter (fun x => decide (x.f4 > now))).length c, .slice A' (ql.filter (fun x => decide (x.f3 > now))).length c']) ∧ w'.heap[g]? = some (.cells cur t (0, 0)) ∧ Blk48 w.heap.size g cur t A c (fl.filter (fun x => decide (x.f4 > now))) ∧ w'.heap[g2]? = some (.cells cur2 t2 (0, 0)) ∧ Blk39 w.heap.size g2 cur2 t2 A' c' (ql.filter (fun x => decide (x.f3 > now))) ∧ g ≠ g2 ∧ (fl.filter (fun x => decide (x.f4 > now))).length ≤ c ∧ Kd.F k48 w' (fun j => w.heap.size ≤ j) A (fl.filter (fun x => decide (x.f4 > now))).length (fl.filter (fun x => decide (x.f4 > now))) ∧ (ql.filter (fun x => decide (x.f3 > now))).length ≤ c' ∧ Kd.F k39 w' (fun j => w.heap.size ≤ j) A' (ql.filter (fun x => decide (x.f3 > now))).length (ql.filter (fun x => decide (x.f3 > now))) ∧ Below w.heap.size w w' := by
  have HB := Aside0.mk (Below.refl w.heap.size w)
  have HR := Aside0.mk (Kd.F_bound hr0)
  have HQ := Aside0.mk (Kd.F_bound hr1)
  have HC0 := Aside0.mk hc0
  have HC1 := Aside0.mk hc1
  have HWF := Aside0.mk hwf
  have HWQ := Aside0.mk hwq
  have HM := Aside0.mk hm
  have hu := Try.underlying27
  clear hr0 hr1 hwf hwq hm hc0 hc1
  go_enter Try.func13, Try.ntmps13
  go_upto_region 1 with fail
  obtain ⟨wa, hwa, on0, oz0, or0, hb_, hz0⟩ := letter3 w (.cells #[.slice A0 fl.length c0, .slice A1 ql.length c1] 27 (0, 0)) (.cells #[.int .i64 now] 3 (0, 0)) (.cells #[.slice none 0 0, .slice none 0 0] 27 (0, 0))
  rw [hwa]
  clear hwa
  have on := Aside0.mk on0
  have oz := Aside0.mk oz0
  have orr := Aside0.mk or0
  have HR_ := Aside0.mk (Kd.F_below HR.out hb_)
  have HQ_ := Aside0.mk (Kd.F_below HQ.out hb_)
  have HB_ : Aside0 (Below w.heap.size w wa) := ⟨hb_⟩
  clear on0 oz0 or0 hb_ HB HR HQ
  have HB := HB_
  have HR := HR_
  have HQ := HQ_
  clear HB_ HR_ HQ_
  have hzwa := Nat.le_of_eq hz0.symm
  clear hz0
  obtain ⟨onc, onf, onl⟩ := cells_of on.out
  obtain ⟨ozc, ozf, ozl⟩ := cells_of oz.out
  obtain ⟨orrc, orrf, orrl⟩ := cells_of orr.out
  go_wp2_with fail
  (go_at_call 14; (with_reducible refine (may_runs A0 c0 fl A1 c1 ql now _ _ _ (fG HR) (fG HQ) HWF.out HWQ.out true HM.out).mono ?_); rintro e_ w1 ⟨rfl, hb_⟩; have HB_ : Aside0 (Below w.heap.size w w1) := Aside0.mk (below_step (bG HB) hb_); have hzw1 := hb_.size; (try simp at hzw1); have on_ := Aside0.mk (box_below hb_ (eG on)); have oz_ := Aside0.mk (box_below hb_ (eG oz)); have orr_ := Aside0.mk (box_below hb_ (eG orr)); have HR_ := Aside0.mk (Kd.F_below (fG HR) hb_); clear HR; have HR := HR_; clear HR_; have HQ_ := Aside0.mk (Kd.F_below (fG HQ) hb_); clear HQ; have HQ := HQ_; clear HQ_; (try clear on onc onf onl); have on := on_; clear on_; obtain ⟨onc, onf, onl⟩ := cells_of on.out; (try clear oz ozc ozf ozl); have oz := oz_; clear oz_; obtain ⟨ozc, ozf, ozl⟩ := cells_of oz.out; (try clear orr orrc orrf orrl); have orr := orr_; clear orr_; obtain ⟨orrc, orrf, orrl⟩ := cells_of orr.out; clear HB hb_; have HB := HB_; clear HB_)
  go_upto_region 3 with fail
  refine start_ (n := 10) (S := fun w' => w'.heap[w.heap.size]? = some (.cells #[.slice A0 fl.length c0, .slice A1 ql.length c1] 27 (0, 0))) (ds := []) #[false, false, false, false, false, false, false, false, false, false] (by kernel_rfl) rfl rfl (eG on) (fun hHeld => ?_)
  refine pure_ (i := 0) (N := some 10) (v := ?_) (a' := ?_) #[true, false, false, false, false, false, false, false, false, false] rfl rfl (by kernel_rfl) (fun _ _ _ h => h) (Or.inl ⟨by rfl, ?_⟩) ?_ ?_
  rotate_left
  · intro w'
    go_simp
    with_reducible rfl
  rotate_left
  · simp only [Act.put, List.setIfInBounds_toArray, List.set_cons_zero, List.set_cons_succ, i64_w, i32_w]
    rfl
  refine take_ (i := 1) (N := some 11) (v := ?_) (a' := ?_) #[true, true, false, false, false, false, false, false, false, false] rfl rfl (by kernel_rfl) (fun _ _ _ h => h) (Or.inl ⟨by rfl, ?_⟩) hHeld ?_ ?_
  rotate_left
  · rintro w' h_
    replace h_ : w'.cell? ⟨w.heap.size, 0, none⟩ = some (.slice A0 fl.length c0) := ((cells_of h_).1 0).trans rfl
    go_simp
    with_reducible rfl
  rotate_left
  · simp only [Act.put, List.setIfInBounds_toArray, List.set_cons_zero, List.set_cons_succ, i64_w, i32_w]
    rfl
  refine pure_ (i := 2) (N := some 12) (v := ?_) (a' := ?_) #[true, true, true, false, false, false, false, false, false, false] rfl rfl (by kernel_rfl) (fun _ _ _ h => h) (Or.inl ⟨by rfl, ?_⟩) ?_ ?_
  rotate_left
  · intro w'
    go_simp
    with_reducible rfl
  rotate_left
  · simp only [Act.put, List.setIfInBounds_toArray, List.set_cons_zero, List.set_cons_succ, i64_w, i32_w]
    rfl
  refine pure_ (i := 4) (N := some 14) (v := ?_) (a' := ?_) #[true, true, true, false, true, false, false, false, false, false] rfl rfl (by kernel_rfl) (fun _ _ _ h => h) (Or.inl ⟨by rfl, ?_⟩) ?_ ?_
  rotate_left
  · intro w'
    go_simp
    with_reducible rfl
  rotate_left
  · simp only [Act.put, List.setIfInBounds_toArray, List.set_cons_zero, List.set_cons_succ, i64_w, i32_w]
    rfl
  refine take_ (i := 5) (N := some 15) (v := ?_) (a' := ?_) #[true, true, true, false, true, true, false, false, false, false] rfl rfl (by kernel_rfl) (fun _ _ _ h => h) (Or.inl ⟨by rfl, ?_⟩) hHeld ?_ ?_
  rotate_left
  · rintro w' h_
    replace h_ : w'.cell? ⟨w.heap.size, 1, none⟩ = some (.slice A1 ql.length c1) := ((cells_of h_).1 1).trans rfl
    go_simp
    with_reducible rfl
  rotate_left
  · simp only [Act.put, List.setIfInBounds_toArray, List.set_cons_zero, List.set_cons_succ, i64_w, i32_w]
    rfl
  refine pure_ (i := 6) (N := some 16) (v := ?_) (a' := ?_) #[true, true, true, false, true, true, true, false, false, false] rfl rfl (by kernel_rfl) (fun _ _ _ h => h) (Or.inl ⟨by rfl, ?_⟩) ?_ ?_
  rotate_left
  · intro w'
    go_simp
    with_reducible rfl
  rotate_left
  · simp only [Act.put, List.setIfInBounds_toArray, List.set_cons_zero, List.set_cons_succ, i64_w, i32_w]
    rfl
  refine one_ (i := 3) (N := some 13) #[true, true, true, true, true, true, true, false, false, false] rfl rfl (by kernel_rfl) (by decide) (fun K hK => ?_)
  (refine goes_ Try.func27 (by kernel_rfl) rfl #[.slice A0 fl.length c0, .func (.func 28) #[] #[.pointer (some ⟨w.heap.size + 1, 0, none⟩)]] (by rfl) rfl rfl (by (try simp only [List.map_toArray, List.map_cons, List.map_nil]); first | done | rfl) ?_; (with_reducible refine (siftA48 (w.heap.size + 1) now A0 c0 fl _ _ (fG HR) HC0.out hl0 (eG oz)).mono ?_); rintro e_ w2 ⟨g, cur, t, A_s, c_s, rfl, og, hq, hc_s, hr_s, hb_⟩; refine ⟨_, rfl, ?_⟩; have HB_ : Aside0 (Below w.heap.size w w2) := Aside0.mk (below_step (bG HB) hb_); have hzw2 := hb_.size; (try simp at hzw2); have on_ := Aside0.mk (box_below hb_ (eG on)); have oz_ := Aside0.mk (box_below hb_ (eG oz)); have orr_ := Aside0.mk (box_below hb_ (eG orr)); have HR_ := Aside0.mk (Kd.F_below (fG HR) hb_); clear HR; have HR := HR_; clear HR_; have HQ_ := Aside0.mk (Kd.F_below (fG HQ) hb_); clear HQ; have HQ := HQ_; clear HQ_; (try clear on onc onf onl); have on := on_; clear on_; obtain ⟨onc, onf, onl⟩ := cells_of on.out; (try clear oz ozc ozf ozl); have oz := oz_; clear oz_; obtain ⟨ozc, ozf, ozl⟩ := cells_of oz.out; (try clear orr orrc orrf orrl); have orr := orr_; clear orr_; obtain ⟨orrc, orrf, orrl⟩ := cells_of orr.out; clear HB hb_; have HB := HB_; clear HB_; have sc := Aside0.mk hc_s; have s := Aside0.mk (Kd.F_bound hr_s); clear hc_s hr_s; have og_ := Aside0.mk og; clear og; have og := og_; clear og_; have hq_ := Aside0.mk hq; clear hq; have hq := hq_; clear hq_; skip); have hglt : g < w2.heap.size := (cells_of og.out).2.2
  refine hK.out _ _ (eG on) (fun hHeld => ?_)
  clear hK K
  refine norm_ (a' := ?_) ?_ ?_
  rotate_left
  · simp only [Act.put, List.setIfInBounds_toArray, List.set_cons_zero, List.set_cons_succ, i64_w, i32_w]
    rfl
  refine one_ (i := 7) (N := some 17) #[true, true, true, true, true, true, true, true, false, false] rfl rfl (by kernel_rfl) (by decide) (fun K hK => ?_)
  (refine goes_ Try.func29 (by kernel_rfl) rfl #[.slice A1 ql.length c1, .func (.func 30) #[] #[.pointer (some ⟨w.heap.size + 1, 0, none⟩)]] (by rfl) rfl rfl (by (try simp only [List.map_toArray, List.map_cons, List.map_nil]); first | done | rfl) ?_; (with_reducible refine (siftA39 (w.heap.size + 1) now A1 c1 ql _ _ (fG HQ) HC1.out hl1 (eG oz)).mono ?_); rintro e_ w3 ⟨g2, cur2, t2, A_q, c_q, rfl, og2, hq2, hc_q, hr_q, hb_⟩; refine ⟨_, rfl, ?_⟩; have HB_ : Aside0 (Below w.heap.size w w3) := Aside0.mk (below_step (bG HB) hb_); have hzw3 := hb_.size; (try simp at hzw3); have on_ := Aside0.mk (box_below hb_ (eG on)); have oz_ := Aside0.mk (box_below hb_ (eG oz)); have orr_ := Aside0.mk (box_below hb_ (eG orr)); have og_ := Aside0.mk (box_below hb_ (eG og)); have s_ := Aside0.mk (Kd.F_below (fG s) hb_); clear s; have s := s_; clear s_; (try clear on onc onf onl); have on := on_; clear on_; obtain ⟨onc, onf, onl⟩ := cells_of on.out; (try clear oz ozc ozf ozl); have oz := oz_; clear oz_; obtain ⟨ozc, ozf, ozl⟩ := cells_of oz.out; (try clear orr orrc orrf orrl); have orr := orr_; clear orr_; obtain ⟨orrc, orrf, orrl⟩ := cells_of orr.out; (try clear og ogc ogf ogl); have og := og_; clear og_; obtain ⟨ogc, ogf, ogl⟩ := cells_of og.out; clear HB hb_; have HB := HB_; clear HB_; have qc := Aside0.mk hc_q; have q := Aside0.mk (Kd.F_bound hr_q); clear hc_q hr_q; have og2_ := Aside0.mk og2; clear og2; have og2 := og2_; clear og2_; have hq2_ := Aside0.mk hq2; clear hq2; have hq2 := hq2_; clear hq2_; skip); have hgb : w1.heap.size ≤ g := hq.out.1; have hgb2 : w2.heap.size ≤ g2 := hq2.out.1; obtain ⟨og2c, og2f, og2l⟩ := cells_of og2.out
  refine hK.out _ _ (eG on) (fun hHeld => ?_)
  clear hK K
  refine norm_ (a' := ?_) ?_ ?_
  rotate_left
  · simp only [Act.put, List.setIfInBounds_toArray, List.set_cons_zero, List.set_cons_succ, i64_w, i32_w]
    rfl
  refine pure_ (i := 8) (N := some 18) (v := ?_) (a' := ?_) #[true, true, true, true, true, true, true, true, true, false] rfl rfl (by kernel_rfl) (fun _ _ _ h => h) (Or.inl ⟨by rfl, ?_⟩) ?_ ?_
  rotate_left
  · intro w'
    go_simp
    with_reducible rfl
  rotate_left
  · simp only [Act.put, List.setIfInBounds_toArray, List.set_cons_zero, List.set_cons_succ, i64_w, i32_w]
    rfl
  refine rowS_ (i := 9) #[true, true, true, true, true, true, true, true, true, true] rfl rfl (by kernel_rfl) (by decide) 27 _ _ rfl (w.heap.size + 1 + 1) (#[.slice A_s (fl.filter (fun x => decide (x.f4 > now))).length c_s, .slice A_q (ql.filter (fun x => decide (x.f3 > now))).length c_q]) (by rfl) (by rfl) (by rfl) (#[.slice none 0 0, .slice none 0 0]) 27 (eG orr) rfl i27 (one27 _ _ _ _ _ _) ?_
  (rintro w4 ⟨hx_, hk_, hb_, hzz_⟩; have HB_ : Aside0 (Below w.heap.size w w4) := Aside0.mk (Below.trans (bG HB) (Below.mono hb_ (by first | omega | (simp only [sz_alloc, sz_drew, sz_drewN]; omega)))); have hzw4 := hzz_; (try simp at hzw4); clear hzz_; have on_ := Aside0.mk (st_put on.out hk_ (fun h_ => (by repeat (with_reducible first | exact h_ | apply ext_drew | apply ext_drewN | apply ext_alloc | refine blk_far ?_ (by show _ ≠ _; dsimp only; omega) _))) (by omega)); clear on onc onf onl; have on := on_; clear on_; obtain ⟨onc, onf, onl⟩ := cells_of on.out; have oz_ := Aside0.mk (st_put oz.out hk_ (fun h_ => (by repeat (with_reducible first | exact h_ | apply ext_drew | apply ext_drewN | apply ext_alloc | refine blk_far ?_ (by show _ ≠ _; dsimp only; omega) _))) (by omega)); clear oz ozc ozf ozl; have oz := oz_; clear oz_; obtain ⟨ozc, ozf, ozl⟩ := cells_of oz.out; have og_ := Aside0.mk (st_put og.out hk_ (fun h_ => (by repeat (with_reducible first | exact h_ | apply ext_drew | apply ext_drewN | apply ext_alloc | refine blk_far ?_ (by show _ ≠ _; dsimp only; omega) _))) (by omega)); clear og ogc ogf ogl; have og := og_; clear og_; obtain ⟨ogc, ogf, ogl⟩ := cells_of og.out; have og2_ := Aside0.mk (st_put og2.out hk_ (fun h_ => (by repeat (with_reducible first | exact h_ | apply ext_drew | apply ext_drewN | apply ext_alloc | refine blk_far ?_ (by show _ ≠ _; dsimp only; omega) _))) (by omega)); clear og2 og2c og2f og2l; have og2 := og2_; clear og2_; obtain ⟨og2c, og2f, og2l⟩ := cells_of og2.out; have s_ := Aside0.mk (Kd.F_step (fG s) (fun j_ hj_ hl_ => hk_ j_ (by (try dsimp only at hj_); (try simp only [sz_alloc, sz_drew, sz_drewN, sz_set] at hj_); omega))); clear s; have s := s_; clear s_; have q_ := Aside0.mk (Kd.F_step (fG q) (fun j_ hj_ hl_ => hk_ j_ (by (try dsimp only at hj_); (try simp only [sz_alloc, sz_drew, sz_drewN, sz_set] at hj_); omega))); clear q; have q := q_; clear q_; (try clear orr orrc orrf orrl); have orr := Aside0.mk hx_; obtain ⟨orrc, orrf, orrl⟩ := cells_of orr.out; clear HB hb_ hk_ hx_; have HB := HB_; clear HB_)
  refine ⟨(eG on), ?_⟩
  refine done_ (by kernel_rfl) ?_
  go_wp2
  refine bodyPost_ret (results_c rfl _ _ (w.heap.size + 1 + 1) 27 (#[.slice A_s (fl.filter (fun x => decide (x.f4 > now))).length c_s, .slice A_q (ql.filter (fun x => decide (x.f3 > now))).length c_q]) (0, 0) _ rfl orr.out Try.underlying27 rfl i27) rfl ?_
  exact ⟨g, cur, t, g2, cur2, t2, A_s, c_s, A_q, c_q, rfl, (eG og), ⟨by omega, hq.out.2⟩, (eG og2), ⟨by omega, hq2.out.2⟩, by omega, sc.out, (Kd.F_mono (fG s) (fun j hj => by (try simp only [sz_alloc, sz_drew, sz_drewN, sz_set] at hj); omega)), qc.out, (Kd.F_mono (fG q) (fun j hj => by (try simp only [sz_alloc, sz_drew, sz_drewN, sz_set] at hj); omega)), (bG HB)⟩
end Go.Proofs.Ytnjgejjijboibaa.Q
end
section
/- nat.In. -/
namespace Go.Proofs.Ytnjgejjijboibaa.Q
open Go.RowKit Go.Proofs.YtnjgejjijboibaaW.PrintWords Go.Proofs.YtnjgejjijboibaaW.PrintLast Go.Proofs.YtnjgejjijboibaaW.PrintMore Go.Proofs.Ytnjgejjijboibaa.L
attribute [local go_sem] Instr.field part asAgg lt_step max2_int min2_int max_two min_two max_three min_three max_four min_four lt_0_1 lt_0_2 lt_1_2 lt_0_3 lt_1_3 lt_2_3 lt_0_4 lt_1_4 lt_2_4 lt_3_4 lt_0_5 lt_1_5 lt_2_5 lt_3_5 lt_4_5 lt_0_6 lt_1_6 lt_2_6 lt_3_6 lt_4_6 lt_5_6 lt_0_7 lt_1_7 lt_2_7 lt_3_7 lt_4_7 lt_5_7 lt_6_7 lt_0_8 lt_1_8 lt_2_8 lt_3_8 lt_4_8 lt_5_8 lt_6_8 lt_7_8
set_option linter.unusedVariables false
set_option linter.unusedSimpArgs false
theorem beq_flip (a b : Int) : (a == b) = (b == a) := Bool.eq_iff_iff.2 ⟨fun h => beq_iff_eq.2 (beq_iff_eq.1 h).symm, fun h => beq_iff_eq.2 (beq_iff_eq.1 h).symm⟩
theorem eq48 (x0 x1 x2 x3 x4 y1 y2 y3 : Int) (b : Bool) (hb : (x1 == y1 && x2 == y2 && x3 == y3) = b) (x y : Operand) (w : World) : (eqGuard .eql 48 x y (.agg #[.int .i64 x0, .int .i64 y1, .int .u32 y2, .int .i64 y3, .int .i64 x4]) (.agg #[.int .i64 x0, .int .i64 x1, .int .u32 x2, .int .i64 x3, .int .i64 x4])).run Try.prog w = .ok () w ∧
    (binOp .eql 48 (.agg #[.int .i64 x0, .int .i64 y1, .int .u32 y2, .int .i64 y3, .int .i64 x4]) (.agg #[.int .i64 x0, .int .i64 x1, .int .u32 x2, .int .i64 x3, .int .i64 x4])).run Try.prog w = .ok (.bool b) w := by
  constructor
  · exact run_eqGuard_agg _ _ _ _ _ _ _ (by kernel_rfl)
  · rw [run_eql_struct]
    have hu := Try.underlying48
    subst hb
    go_simp
    rw [beq_flip x1 y1, beq_flip x2 y2, beq_flip x3 y3]
    by_cases h1 : y1 = x1 <;> by_cases h2 : y2 = x2 <;> by_cases h3 : y3 = x3 <;> simp [h1, h2, h3]
def inP (host remote port now : Int) (x : S48) : Bool := (x.f1 == host && x.f2 == remote && x.f3 == port) && decide (x.f4 > now)
def inV (fl : List S48) (host remote port now : Int) : Int × Bool := match fl.find? (inP host remote port now) with | some x => (x.f0, true) | none => (0, false)
theorem find_step {fl : List S48} {p : S48 → Bool} {k : Nat} {x : S48} (hk : k < fl.length) (hx : fl[k] = x) : (fl.drop k).find? p = if p x = true then some x else (fl.drop (k + 1)).find? p := by
  rw [List.drop_eq_getElem_cons hk, hx, List.find?_cons]
  cases p x <;> simp
set_option maxHeartbeats 1600000 in
set_option maxRecDepth 100000 in
theorem in_no (A0 : Option Addr) (c0 : Nat) (fl : List S48) (A1 : Option Addr) (c1 : Nat) (ql : List S39) (now : Int) (w : World) (ok0 ok1 : Nat → Prop) (hr0 : Kd.F k48 w ok0 A0 fl.length fl) (hc0 : fl.length ≤ c0) (hr1 : Kd.F k39 w ok1 A1 ql.length ql) (hc1 : ql.length ≤ c1) (hwf : ∀ x ∈ fl, wfF x) (hwq : ∀ x ∈ ql, wfQ x) (host remote port : Int) (hm : mayZ fl ql now = false) :
    Calls Try.prog 9 #[.agg #[.slice A0 fl.length c0, .slice A1 ql.length c1], .int .i64 now, .int .i64 host, .int .u32 remote, .int .i64 port] w fun e w' => e = .returned (.tuple #[.int .i64 0, .bool false]) ∧ Below w.heap.size w w' := by
  have HB := Aside0.mk (Below.refl w.heap.size w)
  have HR := Aside0.mk (Kd.F_bound hr0)
  have HQ := Aside0.mk (Kd.F_bound hr1)
  have HC0 := Aside0.mk hc0
  have HC1 := Aside0.mk hc1
  have HWF := Aside0.mk hwf
  have HWQ := Aside0.mk hwq
  have HM := Aside0.mk hm
  have hu := Try.underlying27
  clear hr0 hr1 hwf hwq hm hc0 hc1
  go_enter Try.func9, Try.ntmps9
  go_upto_region 1 with fail
  obtain ⟨wa, hwa, on0, hb_, hz0⟩ := letter1 w (.cells #[.slice A0 fl.length c0, .slice A1 ql.length c1] 27 (0, 0))
  rw [hwa]
  clear hwa
  have on := Aside0.mk on0
  have HR_ := Aside0.mk (Kd.F_below HR.out hb_)
  have HQ_ := Aside0.mk (Kd.F_below HQ.out hb_)
  have HB_ : Aside0 (Below w.heap.size w wa) := ⟨hb_⟩
  clear on0 hb_ HB HR HQ
  have HB := HB_
  have HR := HR_
  have HQ := HQ_
  clear HB_ HR_ HQ_
  have hzwa := Nat.le_of_eq hz0.symm
  clear hz0
  obtain ⟨onc, onf, onl⟩ := cells_of on.out
  go_wp2_with fail
  (go_at_call 14; (with_reducible refine (may_runs A0 c0 fl A1 c1 ql now _ _ _ (fG HR) (fG HQ) HWF.out HWQ.out false HM.out).mono ?_); rintro e_ w1 ⟨rfl, hb_⟩; have HB_ : Aside0 (Below w.heap.size w w1) := Aside0.mk (below_step (bG HB) hb_); have hzw1 := hb_.size; (try simp at hzw1); have on_ := Aside0.mk (box_below hb_ (eG on)); have HR_ := Aside0.mk (Kd.F_below (fG HR) hb_); clear HR; have HR := HR_; clear HR_; have HQ_ := Aside0.mk (Kd.F_below (fG HQ) hb_); clear HQ; have HQ := HQ_; clear HQ_; (try clear on onc onf onl); have on := on_; clear on_; obtain ⟨onc, onf, onl⟩ := cells_of on.out; clear HB hb_; have HB := HB_; clear HB_)
  go_wp2
  go_ret2
  exact ⟨rfl, (bG HB)⟩
set_option maxHeartbeats 1600000 in
set_option maxRecDepth 100000 in
theorem in_yes (A0 : Option Addr) (c0 : Nat) (fl : List S48) (A1 : Option Addr) (c1 : Nat) (ql : List S39) (now : Int) (w : World) (ok0 ok1 : Nat → Prop) (hr0 : Kd.F k48 w ok0 A0 fl.length fl) (hc0 : fl.length ≤ c0) (hr1 : Kd.F k39 w ok1 A1 ql.length ql) (hc1 : ql.length ≤ c1) (hwf : ∀ x ∈ fl, wfF x) (hwq : ∀ x ∈ ql, wfQ x) (host remote port : Int) (hm : mayZ fl ql now = true) (v : Int) (b : Bool) (hv : inV fl host remote port now = (v, b)) :
    Calls Try.prog 9 #[.agg #[.slice A0 fl.length c0, .slice A1 ql.length c1], .int .i64 now, .int .i64 host, .int .u32 remote, .int .i64 port] w fun e w' => e = .returned (.tuple #[.int .i64 v, .bool b]) ∧ Below w.heap.size w w' := by
  have HV : Aside0 ((match (fl.drop 0).find? (inP host remote port now) with | some x => (x.f0, true) | none => ((0 : Int), false)) = (v, b)) := ⟨hv⟩
  have hlm : fl.length ≤ 9223372036854775807 := (Kd.F_now hr0).2.1
  clear hv
  have HB := Aside0.mk (Below.refl w.heap.size w)
  have HR := Aside0.mk (Kd.F_bound hr0)
  have HQ := Aside0.mk (Kd.F_bound hr1)
  have HC0 := Aside0.mk hc0
  have HC1 := Aside0.mk hc1
  have HWF := Aside0.mk hwf
  have HWQ := Aside0.mk hwq
  have HM := Aside0.mk hm
  have hu := Try.underlying27
  clear hr0 hr1 hwf hwq hm hc0 hc1
  go_enter Try.func9, Try.ntmps9
  go_upto_region 1 with fail
  obtain ⟨wa, hwa, on0, hb_, hz0⟩ := letter1 w (.cells #[.slice A0 fl.length c0, .slice A1 ql.length c1] 27 (0, 0))
  rw [hwa]
  clear hwa
  have on := Aside0.mk on0
  have HR_ := Aside0.mk (Kd.F_below HR.out hb_)
  have HQ_ := Aside0.mk (Kd.F_below HQ.out hb_)
  have HB_ : Aside0 (Below w.heap.size w wa) := ⟨hb_⟩
  clear on0 hb_ HB HR HQ
  have HB := HB_
  have HR := HR_
  have HQ := HQ_
  clear HB_ HR_ HQ_
  have hzwa := Nat.le_of_eq hz0.symm
  clear hz0
  obtain ⟨onc, onf, onl⟩ := cells_of on.out
  go_wp2_with fail
  (go_at_call 14; (with_reducible refine (may_runs A0 c0 fl A1 c1 ql now _ _ _ (fG HR) (fG HQ) HWF.out HWQ.out true HM.out).mono ?_); rintro e_ w1 ⟨rfl, hb_⟩; have HB_ : Aside0 (Below w.heap.size w w1) := Aside0.mk (below_step (bG HB) hb_); have hzw1 := hb_.size; (try simp at hzw1); have on_ := Aside0.mk (box_below hb_ (eG on)); have HR_ := Aside0.mk (Kd.F_below (fG HR) hb_); clear HR; have HR := HR_; clear HR_; have HQ_ := Aside0.mk (Kd.F_below (fG HQ) hb_); clear HQ; have HQ := HQ_; clear HQ_; (try clear on onc onf onl); have on := on_; clear on_; obtain ⟨onc, onf, onl⟩ := cells_of on.out; clear HB hb_; have HB := HB_; clear HB_)
  have HC := Aside0.mk (Kd.F_now HR.out)
  clear HR HQ
  go_wp2_with fail
  go_loopw [21] (fun i wx => ∃ k : Nat, k ≤ fl.length ∧ i = .int .i64 k ∧ Aside0 ((match (fl.drop k).find? (inP host remote port now) with | some x => (x.f0, true) | none => ((0 : Int), false)) = (v, b)) ∧ Aside0 (Below w1.heap.size w1 wx) ∧ Aside0 (Below w.heap.size w wx)) (fun i _ => fl.length - (intOf i).toNat)
  case atStart => exact ⟨0, Nat.zero_le _, rfl, HV, ⟨Below.refl _ _⟩, HB⟩
  case round =>
    clear HV HB on onc onf onl
    obtain ⟨k, hk, rfl, HV, HB1, HB⟩ := hrel
    have hz := HB.out.size
    by_cases hlt : k < fl.length
    · obtain ⟨ad, rfl, hc0, hc1, hc2, hc3, hc4⟩ := at_T48 (Kd.C_below HC.out HB1.out) (k : Int) (by omega) (by omega)
      rw [Int.toNat_natCast] at hc0 hc1 hc2 hc3 hc4
      obtain ⟨x, hx⟩ : ∃ x, rd_T48 fl (k : Int) = x := ⟨_, rfl⟩
      rw [hx] at hc0 hc1 hc2 hc3 hc4
      have hx' : fl[k] = x := by rw [← hx]; unfold rd_T48; rw [Int.toNat_natCast, List.getD_eq_getElem?_getD, List.getElem?_eq_getElem hlt]; rfl
      have hst := HV.out
      rw [find_step hlt hx'] at hst
      obtain ⟨r1, hr1⟩ : ∃ r, (x.f1 == host && x.f2 == remote && x.f3 == port) = r := ⟨_, rfl⟩
      obtain ⟨r2, hr2⟩ : ∃ r, decide (x.f4 > now) = r := ⟨_, rfl⟩
      rw [show inP host remote port now x = (r1 && r2) from by unfold inP; rw [hr1, hr2]] at hst
      have HST := Aside0.mk hst
      have HEQ := Aside0.mk (eq48 x.f0 x.f1 x.f2 x.f3 x.f4 host remote port r1 hr1)
      have HLT := Aside0.mk hlt
      have hlt' : (k : Int) < (fl.length : Int) := by omega
      clear hx hx' hst hr1 hlt HV
      go_upto_region 6 with fail
      obtain ⟨wL, hwL, o70, hb_, hz0⟩ := letter1 wr (.cells #[.int .i64 x.f0, .int .i64 x.f1, .int .u32 x.f2, .int .i64 x.f3, .int .i64 x.f4] 48 (0, 0))
      rw [hwL]
      clear hwL hc0 hc1 hc2 hc3 hc4
      have hzL := Nat.le_of_eq hz0.symm
      clear hz0
      have o7 := Aside0.mk o70
      clear o70
      obtain ⟨o7c, o7f, o7l⟩ := cells_of o7.out
      have HBL : Aside0 (Below w.heap.size w wL) := ⟨HB.out.trans (Below.mono hb_ hz)⟩
      have HBL1 : Aside0 (Below w1.heap.size w1 wL) := ⟨HB1.out.trans (Below.mono hb_ HB1.out.size)⟩
      clear HB HB1 hb_
      have hst := HST.out
      clear HST
      cases r1
      case false =>
        simp only [Bool.false_and, Bool.and_false, Bool.and_true, Bool.false_eq_true, if_false] at hst
        have HS2 := Aside0.mk hst
        clear hst
        go_wp2_with (first | ((with_reducible refine gate_dst (N := 34) rfl ?_); refine st_eq rfl rfl (by rfl) (by rfl) (HEQ.out _ _ _) ?_))
        go_roundw
        case rel => exact ⟨k + 1, by have := HLT.out; omega, by go_num, HS2, HBL1, HBL⟩
        case measure => have := HLT.out; simp [intOf]; omega
      case true =>
      cases r2
      case false =>
        simp only [Bool.false_and, Bool.and_false, Bool.and_true, Bool.false_eq_true, if_false] at hst
        have HS2 := Aside0.mk hst
        clear hst
        go_wp2_with (first | ((with_reducible refine gate_dst (N := 34) rfl ?_); refine st_eq rfl rfl (by rfl) (by rfl) (HEQ.out _ _ _) ?_))
        go_roundw
        case rel => exact ⟨k + 1, by have := HLT.out; omega, by go_num, HS2, HBL1, HBL⟩
        case measure => have := HLT.out; simp [intOf]; omega
      case true =>
        simp only [Bool.and_self, if_true] at hst
        injection hst with h1 h2
        subst h1 h2
        go_wp2_with (first | ((with_reducible refine gate_dst (N := 34) rfl ?_); refine st_eq rfl rfl (by rfl) (by rfl) (HEQ.out _ _ _) ?_))
        go_ret2
        exact ⟨rfl, HBL.out⟩
    · have hst := HV.out
      rw [List.drop_of_length_le (by omega)] at hst
      injection hst with h1 h2
      subst h1 h2
      go_wp2
      go_ret2
      exact ⟨rfl, HB.out⟩
end Go.Proofs.Ytnjgejjijboibaa.Q
end
section
/- nat.Open. -/
namespace Go.Proofs.Ytnjgejjijboibaa.Q
open Go.RowKit Go.Proofs.YtnjgejjijboibaaW.PrintWords Go.Proofs.YtnjgejjijboibaaW.PrintLast Go.Proofs.YtnjgejjijboibaaW.PrintMore Go.Proofs.Ytnjgejjijboibaa.L
attribute [local go_sem] Instr.field part asAgg lt_step max2_int min2_int max_two min_two max_three min_three max_four min_four lt_0_1 lt_0_2 lt_1_2 lt_0_3 lt_1_3 lt_2_3 lt_0_4 lt_1_4 lt_2_4 lt_3_4 lt_0_5 lt_1_5 lt_2_5 lt_3_5 lt_4_5 lt_0_6 lt_1_6 lt_2_6 lt_3_6 lt_4_6 lt_5_6 lt_0_7 lt_1_7 lt_2_7 lt_3_7 lt_4_7 lt_5_7 lt_6_7 lt_0_8 lt_1_8 lt_2_8 lt_3_8 lt_4_8 lt_5_8 lt_6_8 lt_7_8
set_option linter.unusedVariables false
set_option linter.unusedSimpArgs false
theorem letter5 (w : World) (o p q r s : Obj) : ∃ w1, ((((w.alloc o).alloc p).alloc q).alloc r).alloc s = w1 ∧ w1.heap[w.heap.size]? = some o ∧ w1.heap[w.heap.size + 1]? = some p ∧ w1.heap[w.heap.size + 1 + 1]? = some q ∧ w1.heap[w.heap.size + 1 + 1 + 1]? = some r ∧ w1.heap[w.heap.size + 1 + 1 + 1 + 1]? = some s ∧ Below w.heap.size w w1 ∧ w1.heap.size = w.heap.size + 1 + 1 + 1 + 1 + 1 := by
  obtain ⟨w4, h0, h1, h2, h3, h4, hb, hz⟩ := letter4 w o p q r
  refine ⟨w4.alloc s, by rw [h0], ext_alloc h1 s, ext_alloc h2 s, ext_alloc h3 s, ext_alloc h4 s, ?_, Below.alloc hb (by omega) _, by simp [hz]⟩
  rw [← hz]; exact nb_1 w4 s
theorem results_ctt {P : Program} {fn : Func} {p u v : Tmp} {ty : TypeId} (h : fn.results = #[.cell p ty, .tmp u, .tmp v]) (tmps : Array Value) (w : World) (g : Nat) (t : TypeId) (cs : Array Value) (fr : Nat × Nat) (d : TypeDesc)
    (hp : tmps.getD p undef = .pointer (some ⟨g, 0, none⟩)) (hg : w.heap[g]? = some (.cells cs t fr)) (hu : P.underlying ty = some d) (hd : (match d with | .struct _ | .array _ _ => true | _ => false) = true) (hi : (P.info? ty).map (·.size) = some cs.size) :
    (results fn tmps).run P w = .ok (.tuple #[.agg cs, tmps.getD u undef, tmps.getD v undef]) w := by
  have h1 : tmps[p]?.getD undef = .pointer (some ⟨g, 0, none⟩) := by simpa using hp
  simp [results, h, h1, asAddr, run_loadVar_row w g t ty cs fr d hg hu hd hi]
def OpenPost (ok0 ok1 : Nat → Prop) (w : World) (fl : List S48) (ql : List S39) (h : Int) (b : Bool) (e : Ending) (w' : World) : Prop :=
  ∃ A c A' c', e = .returned (.tuple #[.agg #[.slice A fl.length c, .slice A' ql.length c'], .int .i64 h, .bool b]) ∧ fl.length ≤ c ∧ Kd.F k48 w' (fun j => ok0 j ∨ w.heap.size ≤ j) A fl.length fl ∧ ql.length ≤ c' ∧ Kd.F k39 w' (fun j => ok1 j ∨ w.heap.size ≤ j) A' ql.length ql ∧ Below w.heap.size w w'
theorem indexW_of (R : Int) (g1 g2 g3 : Nat) (gu re po : Int) (A0 : Option Addr) (c0 : Nat) (l0 : List S48) (w : World) (hr0 : Kd.C k48 w A0 l0.length l0) (hb0 : w.heap[g1]? = some (.cells #[.int .i64 gu] 3 (0, 0))) (hb1 : w.heap[g2]? = some (.cells #[.int .u32 re] 22 (0, 0))) (hb2 : w.heap[g3]? = some (.cells #[.int .i64 po] 3 (0, 0))) (hR : idxP (fun x => (x.f0 == gu && x.f2 == re && x.f3 == po)) l0 0 = R) :
    Calls Try.prog 16 #[.slice A0 l0.length c0, .func (.func 17) #[] #[.pointer (some ⟨g1, 0, none⟩), .pointer (some ⟨g2, 0, none⟩), .pointer (some ⟨g3, 0, none⟩)]] w fun e w' => e = .returned (.int .i64 R) ∧ Below w.heap.size w w' := by
  subst hR
  exact indexW_runs g1 g2 g3 gu re po A0 c0 l0 w hr0 hb0 hb1 hb2
set_option maxHeartbeats 1600000 in
set_option maxRecDepth 100000 in
theorem open_no (A0 : Option Addr) (c0 : Nat) (fl : List S48) (A1 : Option Addr) (c1 : Nat) (ql : List S39) (now : Int) (w : World) (ok0 ok1 : Nat → Prop) (hr0 : Kd.F k48 w ok0 A0 fl.length fl) (hc0 : fl.length ≤ c0) (hr1 : Kd.F k39 w ok1 A1 ql.length ql) (hc1 : ql.length ≤ c1) (hwf : ∀ x ∈ fl, wfF x) (hwq : ∀ x ∈ ql, wfQ x) (guest remote port : Int) (m d : Bool) (hm : mayZ fl ql now = m) (hd : (wordB guest && wordB port) = d) (hx : (m && d) = false) :
    Calls Try.prog 7 #[.agg #[.slice A0 fl.length c0, .slice A1 ql.length c1], .int .i64 now, .int .i64 guest, .int .u32 remote, .int .i64 port] w (OpenPost ok0 ok1 w fl ql (0) false) := by
  have HB := Aside0.mk (Below.refl w.heap.size w)
  have HR := Aside0.mk (Kd.F_bound hr0)
  have HQ := Aside0.mk (Kd.F_bound hr1)
  have HC0 := Aside0.mk hc0
  have HC1 := Aside0.mk hc1
  have HWF := Aside0.mk hwf
  have HWQ := Aside0.mk hwq
  have HM := Aside0.mk hm
  have HD := Aside0.mk hd
  have hu := Try.underlying27
  clear hr0 hr1 hwf hwq hm hc0 hc1 hd
  go_enter Try.func7, Try.ntmps7
  go_upto_region 1 with fail
  obtain ⟨wa, hwa, on0, o10, o20, o30, or0, hb_, hz0⟩ := letter5 w (.cells #[.slice A0 fl.length c0, .slice A1 ql.length c1] 27 (0, 0)) (.cells #[.int .i64 guest] 3 (0, 0)) (.cells #[.int .u32 remote] 22 (0, 0)) (.cells #[.int .i64 port] 3 (0, 0)) (.cells #[.slice none 0 0, .slice none 0 0] 27 (0, 0))
  rw [hwa]
  clear hwa
  have on := Aside0.mk on0
  have o1 := Aside0.mk o10
  have o2 := Aside0.mk o20
  have o3 := Aside0.mk o30
  have orr := Aside0.mk or0
  have HR_ := Aside0.mk (Kd.F_below HR.out hb_)
  have HQ_ := Aside0.mk (Kd.F_below HQ.out hb_)
  have HB_ : Aside0 (Below w.heap.size w wa) := ⟨hb_⟩
  clear on0 o10 o20 o30 or0 hb_ HB HR HQ
  have HB := HB_
  have HR := HR_
  have HQ := HQ_
  clear HB_ HR_ HQ_
  have hzwa := Nat.le_of_eq hz0.symm
  clear hz0
  obtain ⟨onc, onf, onl⟩ := cells_of on.out
  obtain ⟨o1c, o1f, o1l⟩ := cells_of o1.out
  obtain ⟨o2c, o2f, o2l⟩ := cells_of o2.out
  obtain ⟨o3c, o3f, o3l⟩ := cells_of o3.out
  obtain ⟨orrc, orrf, orrl⟩ := cells_of orr.out
  go_wp2_with fail
  cases m
  case false =>
    (go_at_call 14; (with_reducible refine (may_runs A0 c0 fl A1 c1 ql now _ _ _ (fG HR) (fG HQ) HWF.out HWQ.out false HM.out).mono ?_); rintro e_ w1 ⟨rfl, hb_⟩; have HB_ : Aside0 (Below w.heap.size w w1) := Aside0.mk (below_step (bG HB) hb_); have hzw1 := hb_.size; (try simp at hzw1); have on_ := Aside0.mk (box_below hb_ (eG on)); have o1_ := Aside0.mk (box_below hb_ (eG o1)); have o2_ := Aside0.mk (box_below hb_ (eG o2)); have o3_ := Aside0.mk (box_below hb_ (eG o3)); have orr_ := Aside0.mk (box_below hb_ (eG orr)); have HR_ := Aside0.mk (Kd.F_below (fG HR) hb_); clear HR; have HR := HR_; clear HR_; have HQ_ := Aside0.mk (Kd.F_below (fG HQ) hb_); clear HQ; have HQ := HQ_; clear HQ_; (try clear on onc onf onl); have on := on_; clear on_; obtain ⟨onc, onf, onl⟩ := cells_of on.out; (try clear o1 o1c o1f o1l); have o1 := o1_; clear o1_; obtain ⟨o1c, o1f, o1l⟩ := cells_of o1.out; (try clear o2 o2c o2f o2l); have o2 := o2_; clear o2_; obtain ⟨o2c, o2f, o2l⟩ := cells_of o2.out; (try clear o3 o3c o3f o3l); have o3 := o3_; clear o3_; obtain ⟨o3c, o3f, o3l⟩ := cells_of o3.out; (try clear orr orrc orrf orrl); have orr := orr_; clear orr_; obtain ⟨orrc, orrf, orrl⟩ := cells_of orr.out; clear HB hb_; have HB := HB_; clear HB_)
    go_wp2
    refine bodyPost_ret (v := .tuple #[.agg #[.slice A0 fl.length c0, .slice A1 ql.length c1], .int .i64 0, .bool false]) (by simp [results, Try.results7, go_sem, orrc, orrf] <;> first | assumption | omega | (symm; assumption)) rfl ?_
    exact ⟨A0, c0, A1, c1, rfl, HC0.out, (Kd.F_mono (ok := fun k => ok0 k ∧ k < w.heap.size) (fG HR) (fun j hj => .inl hj.1)), HC1.out, (Kd.F_mono (ok := fun k => ok1 k ∧ k < w.heap.size) (fG HQ) (fun j hj => .inl hj.1)), (bG HB)⟩
  case true =>
    obtain rfl : d = false := by simpa using hx
    (go_at_call 14; (with_reducible refine (may_runs A0 c0 fl A1 c1 ql now _ _ _ (fG HR) (fG HQ) HWF.out HWQ.out true HM.out).mono ?_); rintro e_ w1 ⟨rfl, hb_⟩; have HB_ : Aside0 (Below w.heap.size w w1) := Aside0.mk (below_step (bG HB) hb_); have hzw1 := hb_.size; (try simp at hzw1); have on_ := Aside0.mk (box_below hb_ (eG on)); have o1_ := Aside0.mk (box_below hb_ (eG o1)); have o2_ := Aside0.mk (box_below hb_ (eG o2)); have o3_ := Aside0.mk (box_below hb_ (eG o3)); have orr_ := Aside0.mk (box_below hb_ (eG orr)); have HR_ := Aside0.mk (Kd.F_below (fG HR) hb_); clear HR; have HR := HR_; clear HR_; have HQ_ := Aside0.mk (Kd.F_below (fG HQ) hb_); clear HQ; have HQ := HQ_; clear HQ_; (try clear on onc onf onl); have on := on_; clear on_; obtain ⟨onc, onf, onl⟩ := cells_of on.out; (try clear o1 o1c o1f o1l); have o1 := o1_; clear o1_; obtain ⟨o1c, o1f, o1l⟩ := cells_of o1.out; (try clear o2 o2c o2f o2l); have o2 := o2_; clear o2_; obtain ⟨o2c, o2f, o2l⟩ := cells_of o2.out; (try clear o3 o3c o3f o3l); have o3 := o3_; clear o3_; obtain ⟨o3c, o3f, o3l⟩ := cells_of o3.out; (try clear orr orrc orrf orrl); have orr := orr_; clear orr_; obtain ⟨orrc, orrf, orrl⟩ := cells_of orr.out; clear HB hb_; have HB := HB_; clear HB_)
    go_wp2_with fail
    (go_at_call 15; (with_reducible refine (word_runs _ guest port _ (nb_1 _ _) false HD.out).mono ?_); rintro e_ w2 ⟨rfl, hb_⟩; have HB_ : Aside0 (Below w.heap.size w w2) := Aside0.mk (below_step (bG HB) hb_); have hzw2 := hb_.size; (try simp at hzw2); have on_ := Aside0.mk (box_below hb_ (eG on)); have o1_ := Aside0.mk (box_below hb_ (eG o1)); have o2_ := Aside0.mk (box_below hb_ (eG o2)); have o3_ := Aside0.mk (box_below hb_ (eG o3)); have orr_ := Aside0.mk (box_below hb_ (eG orr)); have HR_ := Aside0.mk (Kd.F_below (fG HR) hb_); clear HR; have HR := HR_; clear HR_; have HQ_ := Aside0.mk (Kd.F_below (fG HQ) hb_); clear HQ; have HQ := HQ_; clear HQ_; (try clear on onc onf onl); have on := on_; clear on_; obtain ⟨onc, onf, onl⟩ := cells_of on.out; (try clear o1 o1c o1f o1l); have o1 := o1_; clear o1_; obtain ⟨o1c, o1f, o1l⟩ := cells_of o1.out; (try clear o2 o2c o2f o2l); have o2 := o2_; clear o2_; obtain ⟨o2c, o2f, o2l⟩ := cells_of o2.out; (try clear o3 o3c o3f o3l); have o3 := o3_; clear o3_; obtain ⟨o3c, o3f, o3l⟩ := cells_of o3.out; (try clear orr orrc orrf orrl); have orr := orr_; clear orr_; obtain ⟨orrc, orrf, orrl⟩ := cells_of orr.out; clear HB hb_; have HB := HB_; clear HB_)
    go_wp2
    refine bodyPost_ret (v := .tuple #[.agg #[.slice A0 fl.length c0, .slice A1 ql.length c1], .int .i64 0, .bool false]) (by simp [results, Try.results7, go_sem, orrc, orrf] <;> first | assumption | omega | (symm; assumption)) rfl ?_
    exact ⟨A0, c0, A1, c1, rfl, HC0.out, (Kd.F_mono (ok := fun k => ok0 k ∧ k < w.heap.size) (fG HR) (fun j hj => .inl hj.1)), HC1.out, (Kd.F_mono (ok := fun k => ok1 k ∧ k < w.heap.size) (fG HQ) (fun j hj => .inl hj.1)), (bG HB)⟩
set_option maxHeartbeats 1600000 in
set_option maxRecDepth 100000 in
theorem open_full (A0 : Option Addr) (c0 : Nat) (fl : List S48) (A1 : Option Addr) (c1 : Nat) (ql : List S39) (now : Int) (w : World) (ok0 ok1 : Nat → Prop) (hr0 : Kd.F k48 w ok0 A0 fl.length fl) (hc0 : fl.length ≤ c0) (hr1 : Kd.F k39 w ok1 A1 ql.length ql) (hc1 : ql.length ≤ c1) (hwf : ∀ x ∈ fl, wfF x) (hwq : ∀ x ∈ ql, wfQ x) (guest remote port : Int) (hl0 : fl.length ≤ 1000) (hl1 : ql.length ≤ 1000) (hm : mayZ fl ql now = true) (hd : (wordB guest && wordB port) = true) (hadd : wrap64 (now + 60) = now + 60) (hi : idxP (fun x => (x.f0 == guest && x.f2 == remote && x.f3 == port)) (fl.filter (fun x => decide (x.f4 > now))) 0 = -1) (h16 : (((fl.filter (fun x => decide (x.f4 > now))).length : Int) == 16) = true) (h16' : ((fl.filter (fun x => decide (x.f4 > now))).length : Int) = 16 ↔ True) :
    Calls Try.prog 7 #[.agg #[.slice A0 fl.length c0, .slice A1 ql.length c1], .int .i64 now, .int .i64 guest, .int .u32 remote, .int .i64 port] w (OpenPost ok0 ok1 w (fl.filter (fun x => decide (x.f4 > now))) (ql.filter (fun x => decide (x.f3 > now))) (0) false) := by
  have HB := Aside0.mk (Below.refl w.heap.size w)
  have HR := Aside0.mk (Kd.F_bound hr0)
  have HQ := Aside0.mk (Kd.F_bound hr1)
  have HC0 := Aside0.mk hc0
  have HC1 := Aside0.mk hc1
  have HWF := Aside0.mk hwf
  have HWQ := Aside0.mk hwq
  have HM := Aside0.mk hm
  have HD := Aside0.mk hd
  have HL0 := Aside0.mk hl0
  have HL1 := Aside0.mk hl1
  have HIX := Aside0.mk hi
  have hu := Try.underlying27
  clear hr0 hr1 hwf hwq hm hc0 hc1 hd
  clear hl0 hl1 hi
  go_enter Try.func7, Try.ntmps7
  go_upto_region 1 with fail
  obtain ⟨wa, hwa, on0, o10, o20, o30, or0, hb_, hz0⟩ := letter5 w (.cells #[.slice A0 fl.length c0, .slice A1 ql.length c1] 27 (0, 0)) (.cells #[.int .i64 guest] 3 (0, 0)) (.cells #[.int .u32 remote] 22 (0, 0)) (.cells #[.int .i64 port] 3 (0, 0)) (.cells #[.slice none 0 0, .slice none 0 0] 27 (0, 0))
  rw [hwa]
  clear hwa
  have on := Aside0.mk on0
  have o1 := Aside0.mk o10
  have o2 := Aside0.mk o20
  have o3 := Aside0.mk o30
  have orr := Aside0.mk or0
  have HR_ := Aside0.mk (Kd.F_below HR.out hb_)
  have HQ_ := Aside0.mk (Kd.F_below HQ.out hb_)
  have HB_ : Aside0 (Below w.heap.size w wa) := ⟨hb_⟩
  clear on0 o10 o20 o30 or0 hb_ HB HR HQ
  have HB := HB_
  have HR := HR_
  have HQ := HQ_
  clear HB_ HR_ HQ_
  have hzwa := Nat.le_of_eq hz0.symm
  clear hz0
  obtain ⟨onc, onf, onl⟩ := cells_of on.out
  obtain ⟨o1c, o1f, o1l⟩ := cells_of o1.out
  obtain ⟨o2c, o2f, o2l⟩ := cells_of o2.out
  obtain ⟨o3c, o3f, o3l⟩ := cells_of o3.out
  obtain ⟨orrc, orrf, orrl⟩ := cells_of orr.out
  go_wp2_with fail
  (go_at_call 14; (with_reducible refine (may_runs A0 c0 fl A1 c1 ql now _ _ _ (fG HR) (fG HQ) HWF.out HWQ.out true HM.out).mono ?_); rintro e_ w1 ⟨rfl, hb_⟩; have HB_ : Aside0 (Below w.heap.size w w1) := Aside0.mk (below_step (bG HB) hb_); have hzw1 := hb_.size; (try simp at hzw1); have on_ := Aside0.mk (box_below hb_ (eG on)); have o1_ := Aside0.mk (box_below hb_ (eG o1)); have o2_ := Aside0.mk (box_below hb_ (eG o2)); have o3_ := Aside0.mk (box_below hb_ (eG o3)); have orr_ := Aside0.mk (box_below hb_ (eG orr)); have HR_ := Aside0.mk (Kd.F_below (fG HR) hb_); clear HR; have HR := HR_; clear HR_; have HQ_ := Aside0.mk (Kd.F_below (fG HQ) hb_); clear HQ; have HQ := HQ_; clear HQ_; (try clear on onc onf onl); have on := on_; clear on_; obtain ⟨onc, onf, onl⟩ := cells_of on.out; (try clear o1 o1c o1f o1l); have o1 := o1_; clear o1_; obtain ⟨o1c, o1f, o1l⟩ := cells_of o1.out; (try clear o2 o2c o2f o2l); have o2 := o2_; clear o2_; obtain ⟨o2c, o2f, o2l⟩ := cells_of o2.out; (try clear o3 o3c o3f o3l); have o3 := o3_; clear o3_; obtain ⟨o3c, o3f, o3l⟩ := cells_of o3.out; (try clear orr orrc orrf orrl); have orr := orr_; clear orr_; obtain ⟨orrc, orrf, orrl⟩ := cells_of orr.out; clear HB hb_; have HB := HB_; clear HB_)
  go_wp2_with fail
  (go_at_call 15; (with_reducible refine (word_runs _ guest port _ (nb_1 _ _) true HD.out).mono ?_); rintro e_ w2 ⟨rfl, hb_⟩; have HB_ : Aside0 (Below w.heap.size w w2) := Aside0.mk (below_step (bG HB) hb_); have hzw2 := hb_.size; (try simp at hzw2); have on_ := Aside0.mk (box_below hb_ (eG on)); have o1_ := Aside0.mk (box_below hb_ (eG o1)); have o2_ := Aside0.mk (box_below hb_ (eG o2)); have o3_ := Aside0.mk (box_below hb_ (eG o3)); have orr_ := Aside0.mk (box_below hb_ (eG orr)); have HR_ := Aside0.mk (Kd.F_below (fG HR) hb_); clear HR; have HR := HR_; clear HR_; have HQ_ := Aside0.mk (Kd.F_below (fG HQ) hb_); clear HQ; have HQ := HQ_; clear HQ_; (try clear on onc onf onl); have on := on_; clear on_; obtain ⟨onc, onf, onl⟩ := cells_of on.out; (try clear o1 o1c o1f o1l); have o1 := o1_; clear o1_; obtain ⟨o1c, o1f, o1l⟩ := cells_of o1.out; (try clear o2 o2c o2f o2l); have o2 := o2_; clear o2_; obtain ⟨o2c, o2f, o2l⟩ := cells_of o2.out; (try clear o3 o3c o3f o3l); have o3 := o3_; clear o3_; obtain ⟨o3c, o3f, o3l⟩ := cells_of o3.out; (try clear orr orrc orrf orrl); have orr := orr_; clear orr_; obtain ⟨orrc, orrf, orrl⟩ := cells_of orr.out; clear HB hb_; have HB := HB_; clear HB_)
  go_wp2_with fail
  (go_at_call 13; (with_reducible refine (exp_yes A0 c0 fl A1 c1 ql now _ _ _ (fG HR) HC0.out (fG HQ) HC1.out HWF.out HWQ.out HL0.out HL1.out HM.out).mono ?_); rintro e_ w3 ⟨g, cur, t, g2, cur2, t2, A_s, c_s, A_q, c_q, rfl, og, hq, og2, hq2, hne, hc_s, hr_s, hc_q, hr_q, hb_⟩; have HB_ : Aside0 (Below w.heap.size w w3) := Aside0.mk (below_step (bG HB) hb_); have hzw3 := hb_.size; (try simp at hzw3); have on_ := Aside0.mk (box_below hb_ (eG on)); have o1_ := Aside0.mk (box_below hb_ (eG o1)); have o2_ := Aside0.mk (box_below hb_ (eG o2)); have o3_ := Aside0.mk (box_below hb_ (eG o3)); have orr_ := Aside0.mk (box_below hb_ (eG orr)); (try clear on onc onf onl); have on := on_; clear on_; obtain ⟨onc, onf, onl⟩ := cells_of on.out; (try clear o1 o1c o1f o1l); have o1 := o1_; clear o1_; obtain ⟨o1c, o1f, o1l⟩ := cells_of o1.out; (try clear o2 o2c o2f o2l); have o2 := o2_; clear o2_; obtain ⟨o2c, o2f, o2l⟩ := cells_of o2.out; (try clear o3 o3c o3f o3l); have o3 := o3_; clear o3_; obtain ⟨o3c, o3f, o3l⟩ := cells_of o3.out; (try clear orr orrc orrf orrl); have orr := orr_; clear orr_; obtain ⟨orrc, orrf, orrl⟩ := cells_of orr.out; clear HB hb_; have HB := HB_; clear HB_; have sc := Aside0.mk hc_s; have s := Aside0.mk (Kd.F_bound hr_s); clear hc_s hr_s; have qc := Aside0.mk hc_q; have q := Aside0.mk (Kd.F_bound hr_q); clear hc_q hr_q; have og_ := Aside0.mk og; clear og; have og := og_; clear og_; have hq_ := Aside0.mk hq; clear hq; have hq := hq_; clear hq_; have og2_ := Aside0.mk og2; clear og2; have og2 := og2_; clear og2_; have hq2_ := Aside0.mk hq2; clear hq2; have hq2 := hq2_; clear hq2_; have hne_ := Aside0.mk hne; clear hne; have hne := hne_; clear hne_; skip)
  obtain ⟨ogc, ogf, ogl⟩ := cells_of og.out
  obtain ⟨og2c, og2f, og2l⟩ := cells_of og2.out
  have hg_lo : w2.heap.size ≤ g := hq.out.1
  have hg2_lo : w2.heap.size ≤ g2 := hq2.out.1
  have hg_hi : g < w3.heap.size := ogl
  have hg2_hi : g2 < w3.heap.size := og2l
  have hgne : g ≠ g2 := hne.out
  have s_ := Aside0.mk (F_of_C48 (ok := fun j => j = g) (Kd.F_now s.out) (fun ad e hp => by
    rcases hq.out.2 with ⟨h1, h2, _⟩ | ⟨h1, _⟩
    · rw [h1] at e; cases e
    · rw [h1] at e; injection e with e; rw [← e]))
  have q_ := Aside0.mk (F_of_C39 (ok := fun j => j = g2) (Kd.F_now q.out) (fun ad e hp => by
    rcases hq2.out.2 with ⟨h1, h2, _⟩ | ⟨h1, _⟩
    · rw [h1] at e; cases e
    · rw [h1] at e; injection e with e; rw [← e]))
  clear s q hne
  have s := s_
  have q := q_
  clear s_ q_
  go_upto_region 4 with fail
  obtain ⟨w4, hw_, om0, hb_, hz0⟩ := letter1 w3 (.cells #[.slice A_s (fl.filter (fun x => decide (x.f4 > now))).length c_s, .slice A_q (ql.filter (fun x => decide (x.f3 > now))).length c_q] 27 (0, 0))
  rw [hw_]
  clear hw_
  have hzw4 := Nat.le_of_eq hz0.symm
  clear hz0
  have on_ := Aside0.mk (box_below hb_ on.out)
  (try clear on onc onf onl)
  have on := on_
  clear on_
  obtain ⟨onc, onf, onl⟩ := cells_of on.out
  have o1_ := Aside0.mk (box_below hb_ o1.out)
  (try clear o1 o1c o1f o1l)
  have o1 := o1_
  clear o1_
  obtain ⟨o1c, o1f, o1l⟩ := cells_of o1.out
  have o2_ := Aside0.mk (box_below hb_ o2.out)
  (try clear o2 o2c o2f o2l)
  have o2 := o2_
  clear o2_
  obtain ⟨o2c, o2f, o2l⟩ := cells_of o2.out
  have o3_ := Aside0.mk (box_below hb_ o3.out)
  (try clear o3 o3c o3f o3l)
  have o3 := o3_
  clear o3_
  obtain ⟨o3c, o3f, o3l⟩ := cells_of o3.out
  have orr_ := Aside0.mk (box_below hb_ orr.out)
  (try clear orr orrc orrf orrl)
  have orr := orr_
  clear orr_
  obtain ⟨orrc, orrf, orrl⟩ := cells_of orr.out
  have og_ := Aside0.mk (box_below hb_ og.out)
  (try clear og ogc ogf ogl)
  have og := og_
  clear og_
  obtain ⟨ogc, ogf, ogl⟩ := cells_of og.out
  have og2_ := Aside0.mk (box_below hb_ og2.out)
  (try clear og2 og2c og2f og2l)
  have og2 := og2_
  clear og2_
  obtain ⟨og2c, og2f, og2l⟩ := cells_of og2.out
  have s_ := Aside0.mk (Kd.F_below s.out hb_)
  clear s
  have s := s_
  clear s_
  have q_ := Aside0.mk (Kd.F_below q.out hb_)
  clear q
  have q := q_
  clear q_
  have om := Aside0.mk om0
  clear om0
  obtain ⟨omc, omf, oml⟩ := cells_of om.out
  have HB_ : Aside0 (Below w.heap.size w w4) := Aside0.mk (below_step HB.out hb_)
  clear HB hb_
  have HB := HB_
  clear HB_
  go_wp2_with fail
  (go_at_call 16; (with_reducible refine (indexW_of (-1) _ _ _ guest remote port A_s c_s (fl.filter (fun x => decide (x.f4 > now))) _ (Kd.F_now (fG s)) (eG o1) (eG o2) (eG o3) HIX.out).mono ?_); rintro e_ w5 ⟨rfl, hb_⟩; have HB_ : Aside0 (Below w.heap.size w w5) := Aside0.mk (below_step (bG HB) hb_); have hzw5 := hb_.size; (try simp at hzw5); have on_ := Aside0.mk (box_below hb_ (eG on)); have o1_ := Aside0.mk (box_below hb_ (eG o1)); have o2_ := Aside0.mk (box_below hb_ (eG o2)); have o3_ := Aside0.mk (box_below hb_ (eG o3)); have orr_ := Aside0.mk (box_below hb_ (eG orr)); have og_ := Aside0.mk (box_below hb_ (eG og)); have og2_ := Aside0.mk (box_below hb_ (eG og2)); have om_ := Aside0.mk (box_below hb_ (eG om)); have s_ := Aside0.mk (Kd.F_below (fG s) hb_); clear s; have s := s_; clear s_; have q_ := Aside0.mk (Kd.F_below (fG q) hb_); clear q; have q := q_; clear q_; (try clear on onc onf onl); have on := on_; clear on_; obtain ⟨onc, onf, onl⟩ := cells_of on.out; (try clear o1 o1c o1f o1l); have o1 := o1_; clear o1_; obtain ⟨o1c, o1f, o1l⟩ := cells_of o1.out; (try clear o2 o2c o2f o2l); have o2 := o2_; clear o2_; obtain ⟨o2c, o2f, o2l⟩ := cells_of o2.out; (try clear o3 o3c o3f o3l); have o3 := o3_; clear o3_; obtain ⟨o3c, o3f, o3l⟩ := cells_of o3.out; (try clear orr orrc orrf orrl); have orr := orr_; clear orr_; obtain ⟨orrc, orrf, orrl⟩ := cells_of orr.out; (try clear og ogc ogf ogl); have og := og_; clear og_; obtain ⟨ogc, ogf, ogl⟩ := cells_of og.out; (try clear og2 og2c og2f og2l); have og2 := og2_; clear og2_; obtain ⟨og2c, og2f, og2l⟩ := cells_of og2.out; (try clear om omc omf oml); have om := om_; clear om_; obtain ⟨omc, omf, oml⟩ := cells_of om.out; clear HB hb_; have HB := HB_; clear HB_)
  go_upto_region 10 with fail
  go_wp2
  refine bodyPost_ret (v := .tuple #[.agg #[.slice A_s (fl.filter (fun x => decide (x.f4 > now))).length c_s, .slice A_q (ql.filter (fun x => decide (x.f3 > now))).length c_q], .int .i64 0, .bool false]) (by simp [results, Try.results7, go_sem, orrc, orrf] <;> first | assumption | omega | (symm; assumption)) rfl ?_
  exact ⟨A_s, c_s, A_q, c_q, rfl, sc.out, (Kd.F_mono (ok := fun j => j = g) (fG s) (fun j hj => by (try simp only [sz_alloc, sz_drew, sz_drewN, sz_set] at hj); exact .inr (by omega))), qc.out, (Kd.F_mono (ok := fun j => j = g2) (fG q) (fun j hj => by (try simp only [sz_alloc, sz_drew, sz_drewN, sz_set] at hj); exact .inr (by omega))), (bG HB)⟩
end Go.Proofs.Ytnjgejjijboibaa.Q
end
section
/- slices.Delete over questions: one element goes, in place. -/
namespace Go.Proofs.Ytnjgejjijboibaa.Q
open Go.RowKit Go.Proofs.YtnjgejjijboibaaW.PrintWords Go.Proofs.YtnjgejjijboibaaW.PrintLast Go.Proofs.YtnjgejjijboibaaW.PrintMore Go.Proofs.Ytnjgejjijboibaa.L
attribute [local go_sem] Instr.field part asAgg lt_step max2_int min2_int max_two min_two max_three min_three max_four min_four lt_0_1 lt_0_2 lt_1_2 lt_0_3 lt_1_3 lt_2_3 lt_0_4 lt_1_4 lt_2_4 lt_3_4 lt_0_5 lt_1_5 lt_2_5 lt_3_5 lt_4_5 lt_0_6 lt_1_6 lt_2_6 lt_3_6 lt_4_6 lt_5_6 lt_0_7 lt_1_7 lt_2_7 lt_3_7 lt_4_7 lt_5_7 lt_6_7 lt_0_8 lt_1_8 lt_2_8 lt_3_8 lt_4_8 lt_5_8 lt_6_8 lt_7_8
set_option linter.unusedVariables false
set_option linter.unusedSimpArgs false
theorem run_clear4 (w : World) (ty : TypeId) (b o c : Nat)
    (hc : ∀ j, j < 4 → (w.cell? ⟨b, o + j, none⟩).isSome = true) (hf : ∀ j, j < 4 → w.frozen? ⟨b, o + j, none⟩ = false) :
    (Builtin.clear_ #[25] ty #[.slice (some ⟨b, o, none⟩) 1 c]).run Try.prog w = .ok (.tuple #[]) (w.setCells b o [(.int .i64 0), (.int .i64 0), (.int .i64 0), (.int .i64 0)]) := by
  have hst := run_storeCells_cells (P := Try.prog) b o [(.int .i64 0), (.int .i64 0), (.int .i64 0), (.int .i64 0)] 0 w (by simpa using hc) (by simpa using hf) (by intro v hv; simp only [List.mem_cons, List.not_mem_nil, or_false] at hv; rcases hv with rfl | rfl | rfl | rfl <;> rfl)
  simp only [Nat.add_zero] at hst
  have hz : (Builtin.zeroCells (Value.agg #[(.int .i64 0), (.int .i64 0), (.int .i64 0), (.int .i64 0)]).cells 1).toList = [(.int .i64 0), (.int .i64 0), (.int .i64 0), (.int .i64 0)] := by first | kernel_rfl | (simp [Builtin.zeroCells, Value.cells]; done) | decide
  simp [Builtin.clear_, run_underlying Try.underlying25, zero39, hz, hst]
theorem del_cells {cur cur1 cur2 : Array Value} {L news z : List Value} {i n cap : Nat} (hi : i < n) (hnc : n ≤ cap) (hcs : cur.size = cap * 4) (hs1 : cur1.size = cur.size)
    (hc2 : ∀ j, j < cur.size → cur2[j]? = if (n - 1) * 4 ≤ j ∧ j < (n - 1) * 4 + z.length then z[j - (n - 1) * 4]? else cur1[j]?) (hc1 : ∀ j, j < cur.size → cur1[j]? = if i * 4 ≤ j ∧ j < i * 4 + news.length then news[j - i * 4]? else cur[j]?)
    (hcurl : ∀ j, j < n * 4 → cur[j]? = L[j]?) (hcl : L.length = n * 4) (hnl : news.length = (n - (i + 1)) * 4) : cur2.toList.take ((n - 1) * 4) = L.take (i * 4) ++ news := by
  apply List.ext_getElem?
  intro j
  have hnj : (n - 1) * 4 ≤ cap * 4 := Nat.mul_le_mul_right _ (by omega)
  have htl : (L.take (i * 4)).length = i * 4 := by rw [List.length_take, hcl]; omega
  by_cases hj : j < (n - 1) * 4
  · have e1 : cur2[j]? = cur1[j]? := by
      rw [hc2 j (by omega)]
      exact if_neg (by omega)
    rw [List.getElem?_take_of_lt hj, Array.getElem?_toList, e1]
    by_cases hji : j < i * 4
    · have e2 : cur1[j]? = cur[j]? := by
        rw [hc1 j (by omega)]
        exact if_neg (by omega)
      rw [e2, List.getElem?_append_left (by omega), List.getElem?_take_of_lt hji, hcurl j (by omega)]
    · have e2 : cur1[j]? = news[j - i * 4]? := by
        rw [hc1 j (by omega)]
        exact if_pos (by omega)
      rw [e2, List.getElem?_append_right (by omega), htl]
  · have h1 : (cur2.toList.take ((n - 1) * 4)).length ≤ j := by rw [List.length_take]; omega
    have h2 : (L.take (i * 4) ++ news).length ≤ j := by rw [List.length_append, htl, hnl]; omega
    rw [List.getElem?_eq_none h1, List.getElem?_eq_none h2]
set_option maxHeartbeats 1600000 in
set_option maxRecDepth 100000 in
theorem delete_runs (b0 g cap i : Nat) (ok : Nat → Prop) (l : List S39) (w : World) (hR : Kd.R k39 39 w b0 ok (.slice (some ⟨g, 0, none⟩) l.length cap) l) (hi : i < l.length) :
    Calls Try.prog 25 #[.slice (some ⟨g, 0, none⟩) l.length cap, .int .i64 (i : Int), .int .i64 ((i : Int) + 1)] w fun e w' => ∃ v, e = .returned v ∧ Kd.R k39 39 w' b0 ok v (l.take i ++ l.drop (i + 1)) ∧ Below b0 w w' := by
  obtain ⟨cur, hh, hb, hk, hn, hnc, hcm, hcs, ht⟩ := R_cells_39 hR
  have hcm' : cap ≤ 9223372036854775807 := hcm
  obtain ⟨n, hnn⟩ : ∃ n, n = l.length := ⟨_, rfl⟩
  rw [← hnn] at hi hnc ht ⊢
  have hcell : ∀ j, w.cell? ⟨g, j, none⟩ = cur[j]? := fun j => blk_cell hh j
  have hfz : ∀ j, w.frozen? ⟨g, j, none⟩ = false := fun j => blk_frozen hh _
  obtain ⟨news, hnews⟩ : ∃ news, news = cellsL_39 (l.drop (i + 1)) := ⟨_, rfl⟩
  have hnl : news.length = (n - (i + 1)) * 4 := by rw [hnews, cellsL_len_39, List.length_drop, hnn]
  have hcl : (cellsL_39 l).length = n * 4 := by rw [cellsL_len_39, hnn]
  have hcurl : ∀ j, j < n * 4 → cur[j]? = (cellsL_39 l)[j]? := fun j hj => by
    rw [← ht, List.getElem?_take, if_pos hj, Array.getElem?_toList]
  obtain ⟨A, hA, hsrc⟩ : ∃ A : Addr, (if cap = i + 1 then (some (⟨g, 0, none⟩ : Addr)) else some ⟨g, (i + 1) * 4, none⟩) = some A ∧ Hid (∀ t u, news[t]? = some u → w.drew.cell? (A.add t) = some u) := by
    by_cases h : cap = i + 1
    · refine ⟨⟨g, 0, none⟩, by simp [h], fun t u hu => ?_⟩
      have h0 : news.length = 0 := by rw [hnl]; omega
      rw [List.length_eq_zero_iff.1 h0] at hu
      simp at hu
    · refine ⟨⟨g, (i + 1) * 4, none⟩, by simp [h], fun t u hu => ?_⟩
      have htl : t < (n - (i + 1)) * 4 := by rw [← hnl]; exact (List.getElem?_eq_some_iff.1 hu).1
      rw [Addr.add_lit]
      show w.cell? _ = _
      rw [hcell, hcurl _ (by omega), ← hu, hnews, ← cellsL_drop_39, List.getElem?_drop]
  have s2 : Hid (∀ u ∈ news, u.oneCell' = true) := by rw [hnews]; exact fun u hu => cellsL_one_39 _ u hu
  have s3 : Hid (∀ t, t < news.length → (w.drew.cell? ⟨g, 0 + i * 4 + t, none⟩).isSome = true ∧ w.drew.frozen? ⟨g, 0 + i * 4 + t, none⟩ = false) := by
    intro t htl
    rw [hnl] at htl
    refine ⟨?_, hfz _⟩
    show (w.cell? _).isSome = true
    rw [hcell, Array.getElem?_eq_getElem (by omega)]; rfl
  obtain ⟨W1, hW1⟩ : ∃ W1, W1 = w.drew.setCells g (0 + i * 4) news := ⟨_, rfl⟩
  obtain ⟨cur1, hh1, hs1, hc1⟩ := blk_cells (t := 39) news (0 + i * 4) w.drew cur (blk_drew hh)
  rw [← hW1] at hh1
  have hclr : ∀ ty c', (Builtin.clear_ #[25] ty #[.slice (some ⟨g, (n - 1) * 4, none⟩) (n - (n - 1)) c']).run Try.prog W1 = .ok (.tuple #[]) (W1.setCells g ((n - 1) * 4) [(.int .i64 0), (.int .i64 0), (.int .i64 0), (.int .i64 0)]) := fun ty c' => by
    rw [show n - (n - 1) = 1 by omega]
    exact run_clear4 W1 ty g ((n - 1) * 4) _ (fun j hj => by rw [blk_cell hh1, Array.getElem?_eq_getElem (by omega)]; rfl) (fun j _ => blk_frozen hh1 _)
  have HFIN : Aside0 (Kd.R k39 39 (W1.setCells g ((n - 1) * 4) [(.int .i64 0), (.int .i64 0), (.int .i64 0), (.int .i64 0)]) b0 ok (.slice (some ⟨g, 0, none⟩) (n - 1) cap) (l.take i ++ l.drop (i + 1)) ∧ Below b0 w (W1.setCells g ((n - 1) * 4) [(.int .i64 0), (.int .i64 0), (.int .i64 0), (.int .i64 0)])) := by
    refine ⟨?_, below_cells hb _ _ _ (by rw [hW1]; exact below_cells hb _ _ _ (below_drew1 (Below.refl _ _)))⟩
    obtain ⟨cur2, hh2, hs2, hc2⟩ := blk_cells (t := 39) [(.int .i64 0), (.int .i64 0), (.int .i64 0), (.int .i64 0)] ((n - 1) * 4) W1 cur1 hh1
    have hlen : (l.take i ++ l.drop (i + 1)).length = n - 1 := by rw [List.length_append, List.length_take, List.length_drop, ← hnn]; omega
    have hr := R_mk_39 (cap := cap) (ok := ok) (base := b0) (l := l.take i ++ l.drop (i + 1)) hh2 hb hk (by rw [hlen]; omega) hcm (by rw [hs2, hs1, hcs]) ?_
    · rw [hlen] at hr; exact hr
    · rw [hlen, cellsL_append_39, ← cellsL_take_39, ← hnews]
      exact del_cells (n := n) (z := [(.int .i64 0), (.int .i64 0), (.int .i64 0), (.int .i64 0)]) hi hnc hcs hs1 (fun j hj => by have := hc2 j (by rw [hs1]; exact hj); exact this) (fun j hj => by have := hc1 j hj; rwa [Nat.zero_add] at this) hcurl hcl hnl
  have hW : Hid (W1 = w.drew.setCells g (0 + i * 4) news) := hW1
  have HN : Hid (news.length = (n - (i + 1)) * 4) := hnl
  have hic : i ≤ cap := by omega
  have hjc : i + 1 ≤ cap := by omega
  have hi0 : ((i : Int) == (i : Int) + 1) = false := beq_eq_false_iff_ne.2 (by omega)
  obtain ⟨i0, hi0, hzz⟩ := Option.map_eq_some_iff.1 info39
  simp only [Prod.mk.injEq] at hzz
  have hi4 : i0.size = 4 := hzz.2.1
  clear hW1 hR hzz hcell hcurl ht hnews hnl hn
  have hq1 : (0 : Int) ≤ (i : Int) + 1 := by omega
  have hq2 : (i : Int) + 1 ≤ (n : Int) := by omega
  subst hnn
  go_enter Try.func25, Try.ntmps25
  go_wp2_with fail
  go_region_law (refine step_append_room rfl (.tmp 22) (.tmp 25) 25 rfl 39 i0 4 Try.underlying25 hi0 hi4 g 0 i cap (by simp [Act.eval, Act.put]) A (l.length - (i + 1)) (cap - (i + 1)) news (by simp [Act.eval, Act.put]) HN.out hsrc.out s2.out (by omega) s3.out ?_; rw [← hW.out])
  rw [show i + (l.length - (i + 1)) = l.length - 1 by omega]
  have hq3 : ((l.length - 1 : Nat) : Int) ≤ (l.length : Int) := by omega
  have hq4 : (l.length : Int) ≤ (cap : Int) := by omega
  have hq5 : ¬ (cap = l.length - 1) := by omega
  go_wp2
  go_ret
  exact ⟨_, rfl, HFIN.out.1, HFIN.out.2⟩
end Go.Proofs.Ytnjgejjijboibaa.Q
end
