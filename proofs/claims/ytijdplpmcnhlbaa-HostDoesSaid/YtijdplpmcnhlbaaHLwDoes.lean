import Derived.Test.YtijdplpmcnhlbaaHZ1
import Derived.Test.YtijdplpmcnhlbaaHTsoc6
import Derived.Test.YtijdplpmcnhlbaaHQx7
import Derived.Test.YtijdplpmcnhlbaaHQx2
import Derived.Laws.StructEq
import Derived.Lib.SliceRun
/- HostDoes, walked: the program's sockets are the document's. -/
namespace Go.Proofs.Ytijdplpmcnhlbaa.Q
open Go.RowKit Go.Proofs.YtijdplpmcnhlbaaW.PrintWords Go.Proofs.YtijdplpmcnhlbaaW.PrintLast Go.Proofs.YtijdplpmcnhlbaaW.PrintMore Go.Proofs.Ytijdplpmcnhlbaa.L
attribute [local go_sem] Instr.field part asAgg lt_step max2_int min2_int max_two min_two max_three min_three max_four min_four lt_0_1 lt_0_2 lt_1_2 lt_0_3 lt_1_3 lt_2_3 lt_0_4 lt_1_4 lt_2_4 lt_3_4 lt_0_5 lt_1_5 lt_2_5 lt_3_5 lt_4_5 lt_0_6 lt_1_6 lt_2_6 lt_3_6 lt_4_6 lt_5_6 lt_0_7 lt_1_7 lt_2_7 lt_3_7 lt_4_7 lt_5_7 lt_6_7 lt_0_8 lt_1_8 lt_2_8 lt_3_8 lt_4_8 lt_5_8 lt_6_8 lt_7_8
set_option linter.unusedVariables false
set_option linter.unusedSimpArgs false
theorem F_in34 {W : World} {A : Option Addr} {n : Nat} {xs : List S34} (h : Kd.C k34 W A n xs) : Kd.F k34 W (fun j => j < W.heap.size) A n xs := by
  intro W' hW
  obtain ⟨h1, h2, h3⟩ := h
  refine ⟨h1, h2, fun hp => ?_⟩
  obtain ⟨ad, e, hc⟩ := h3 hp
  refine ⟨ad, e, fun i p hi => ?_⟩
  obtain ⟨c, hl, hK, hcell⟩ := hc i p hi
  refine ⟨c, hl, hK, fun q v hv => ?_⟩
  have h5 := hcell q v hv
  have h6 := World.block_lt_of_cell? W _ h5
  exact cell_of_heap h5 (hW _ h6 h6)
theorem same_c (x : List S34) (hx : x.length ≤ 100) (A : Option Addr) (c : Nat) (A' : Option Addr) (c' : Nat) (w : World) (h1 : Kd.C k34 w A x.length x) (h2 : x.length ≤ c) (h3 : Kd.C k34 w A' x.length x) (h4 : x.length ≤ c') :
    Calls Try.prog 17 #[.slice A x.length c, .slice A' x.length c'] w fun e w' => e = .returned (.bool true) ∧ Below w.heap.size w w' :=
  (drawbridgeref27_Same.calls (x.length + 4) A c x A' c' x true w h1 h2 h3 h4 (same_refl (l := x) (by omega) (k := x.length + 4) (by omega))).mono fun _ _ ⟨he, hd⟩ => ⟨he, hd.below⟩
theorem heads_c (w : World) : Calls Try.prog 6 #[] w fun e w' => e = .returned (.bool true) ∧ Below w.heap.size w w' := drawbridgelaw27_heads.calls true w drawbridgelaw27_heads.tells
/-! ### what the functions answer -/
theorem place_ex {l : List S34} (hl : l.length ≤ 100) (n : Int) : ∃ i, host_place.f l n = some i := ⟨_, place_of hl n⟩
theorem close_ex {l : List S34} (hl : l.length ≤ 40) (n : Int) : ∃ r b, host_Close.f l n = some (r, b) ∧ r.length ≤ 100 := by
  obtain ⟨i, hi⟩ := place_ex (l := l) (by omega) n
  unfold host_Close.f
  rw [if_pos (by omega), hi]
  refine ⟨(closeZ l i).1, (closeZ l i).2, rfl, ?_⟩
  unfold closeZ
  split
  · show l.length ≤ 100; omega
  · show (l.take i.toNat ++ l.drop (i.toNat + 1)).length ≤ 100
    rw [List.length_append, List.length_take, List.length_drop]; omega
theorem shut_ex {l : List S34} (hl : l.length ≤ 40) (n : Int) : ∃ r b, host_Shut.f l n = some (r, b) ∧ r.length ≤ 100 := by
  obtain ⟨i, hi⟩ := place_ex (l := l) (by omega) n
  unfold host_Shut.f
  rw [if_pos (by omega), hi]
  refine ⟨(shutZ l i).1, (shutZ l i).2, rfl, ?_⟩
  unfold shutZ
  repeat' split
  all_goals first | (show l.length ≤ 100; omega) | (show (setS l i 5).length ≤ 100; unfold setS; (try rw [List.length_append, List.length_take, List.length_cons, List.length_drop]); (try rw [List.length_set]); omega)
theorem find_ex {l : List S34} (hl : l.length ≤ 40) (n : Int) : ∃ x0 x1 x2 x3 x4 x5 b, host_Find.f l n = some (x0, x1, x2, x3, x4, x5, b) := by
  obtain ⟨i, hi⟩ := place_ex (l := l) (by omega) n
  unfold host_Find.f
  rw [hi]
  exact ⟨_, _, _, _, _, _, _, rfl⟩
theorem hear_ex {l : List S34} (hl : l.length ≤ 40) (kind id : Int) (D : List Int) (n : Int) : ∃ r b, host_Hear.f l kind id D n = some (r, b) ∧ r.length ≤ 100 := by
  obtain ⟨i, hi⟩ := place_ex (l := l) (by omega) id
  unfold host_Hear.f
  rw [if_pos (by omega), hi, Option.bind_some]
  split
  · exact ⟨_, _, rfl, by omega⟩
  split
  · exact close_ex hl id
  refine ⟨(hearZ l i kind D.length n).1, (hearZ l i kind D.length n).2, rfl, ?_⟩
  unfold hearZ
  repeat' split
  all_goals first | (show l.length ≤ 100; omega) | (show (setS l i _).length ≤ 100; unfold setS; (try rw [List.length_append, List.length_take, List.length_cons, List.length_drop]); (try rw [List.length_set]); omega)
theorem con_ex {l : List S34} (hl : l.length ≤ 40) (r p : Int) : ∃ x y z, host_Connect.f l r p = some (x, y, z) ∧ x.length ≤ 100 := by
  unfold host_Connect.f
  rw [if_pos (by omega), okS_is (by omega)]
  show ∃ x y z, some (if okL l = true then _ else _) = some (x, y, z) ∧ _
  split
  · split
    · exact ⟨_, _, _, rfl, by omega⟩
    · split
      · refine ⟨_, _, _, rfl, ?_⟩
        rw [List.length_append, List.length_take, List.length_cons, List.length_drop]; omega
      · exact ⟨_, _, _, rfl, by omega⟩
  · exact ⟨_, _, _, rfl, by omega⟩
theorem i25t : (Try.prog.info? 25).map (·.size) = some 4 := by kernel_rfl
theorem i34t : (Try.prog.info? 34).map (·.size) = some 6 := by kernel_rfl
theorem one34 (a b c d : Int) (e f : Bool) : (#[.int .i64 a, .int .i64 b, .int .u32 c, .int .i64 d, .bool e, .bool f] : Array Value).all (·.oneCell') = true := by simp [Value.oneCell']
set_option maxHeartbeats 1600000 in
set_option maxRecDepth 100000 in
theorem eq34 (a b c d : Int) (e f : Bool) (x y : Operand) (w : World) : (eqGuard .eql 34 x y (.agg #[.int .i64 a, .int .i64 b, .int .u32 c, .int .i64 d, .bool e, .bool f]) (.agg #[.int .i64 a, .int .i64 b, .int .u32 c, .int .i64 d, .bool e, .bool f])).run Try.prog w = .ok () w ∧
    (binOp .eql 34 (.agg #[.int .i64 a, .int .i64 b, .int .u32 c, .int .i64 d, .bool e, .bool f]) (.agg #[.int .i64 a, .int .i64 b, .int .u32 c, .int .i64 d, .bool e, .bool f])).run Try.prog w = .ok (.bool true) w := by
  constructor
  · exact run_eqGuard_agg _ _ _ _ _ _ _ (by kernel_rfl)
  · rw [run_eql_struct]
    have hu := Try.underlying34
    go_simp
section
variable (A0 : Option Addr) (c0 : Nat) (l : List S34) (kind id : Int) (D : Option Addr) (cD : Nat) (dl : List Int) (n remote port : Int) (w : World)
set_option maxHeartbeats 1600000 in
set_option maxRecDepth 100000 in
theorem does_q1 (hq : decide ((l.length : Int) > 40) = true) :
    Calls Try.prog 3 #[.slice A0 l.length c0, .agg #[.int .i64 kind, .int .i64 id, .slice D dl.length cD, .int .i64 n], .int .u32 remote, .int .i64 port] w fun e w' => e = .returned (.bool true) ∧ Below w.heap.size w w' := by
  have HB := Aside0.mk (Below.refl w.heap.size w)
  go_enter Try.func3, Try.ntmps3
  go_wp2_with fail
  (go_at_call 6; (with_reducible refine (heads_c _).mono ?_); rintro e_ w1 ⟨rfl, hb_⟩; have HB_ : Aside0 (Below w.heap.size w w1) := Aside0.mk (below_step (bG HB) hb_); have hzw1 := hb_.size; (try simp at hzw1); clear HB hb_; have HB := HB_; clear HB_)
  go_wp2
  go_ret
  exact ⟨rfl, (bG HB)⟩
set_option maxHeartbeats 1600000 in
set_option maxRecDepth 100000 in
theorem does_q2 (hq : decide ((l.length : Int) > 40) = false) (hq2 : decide ((dl.length : Int) > 5000) = true) :
    Calls Try.prog 3 #[.slice A0 l.length c0, .agg #[.int .i64 kind, .int .i64 id, .slice D dl.length cD, .int .i64 n], .int .u32 remote, .int .i64 port] w fun e w' => e = .returned (.bool true) ∧ Below w.heap.size w w' := by
  have HB := Aside0.mk (Below.refl w.heap.size w)
  have hu := Try.underlying25
  go_enter Try.func3, Try.ntmps3
  go_wp2_with fail
  (go_at_call 6; (with_reducible refine (heads_c _).mono ?_); rintro e_ w1 ⟨rfl, hb_⟩; have HB_ : Aside0 (Below w.heap.size w w1) := Aside0.mk (below_step (bG HB) hb_); have hzw1 := hb_.size; (try simp at hzw1); clear HB hb_; have HB := HB_; clear HB_)
  go_wp2
  go_ret
  exact ⟨rfl, (bG HB)⟩
set_option maxHeartbeats 1600000 in
set_option maxRecDepth 100000 in
theorem does_is (hq : decide ((l.length : Int) > 40) = false) (hq2 : decide ((dl.length : Int) > 5000) = false) (hr : Kd.C k34 w A0 l.length l) (hc : l.length ≤ c0) (hd : Kd.C (Kd.int .u8) w D dl.length dl) (hdc : dl.length ≤ cD) :
    Calls Try.prog 3 #[.slice A0 l.length c0, .agg #[.int .i64 kind, .int .i64 id, .slice D dl.length cD, .int .i64 n], .int .u32 remote, .int .i64 port] w fun e w' => e = .returned (.bool true) ∧ Below w.heap.size w w' := by
  have hl40 : l.length ≤ 40 := by have := of_decide_eq_false hq; omega
  obtain ⟨ra, rb, rc, hcon, hcl⟩ := con_ex hl40 remote port
  obtain ⟨ha, hb, hhe, hhl⟩ := hear_ex hl40 kind id dl n
  obtain ⟨sa, sb, hsh, hsl⟩ := shut_ex hl40 id
  obtain ⟨ca, cb, hcz, hczl⟩ := close_ex hl40 id
  obtain ⟨x0, x1, x2, x3, x4, x5, xb, hfi⟩ := find_ex hl40 id
  have HCON := Aside0.mk hcon
  have HCONR := Aside0.mk ((con_same (l := l) (by omega) remote port (k := l.length + 2) (by omega)).trans hcon)
  have HHE := Aside0.mk hhe
  have HHER := Aside0.mk ((hear_same (l := l) (by omega) kind id dl n).trans hhe)
  have HSH := Aside0.mk hsh
  have HSHR := Aside0.mk ((shut_same (l := l) (by omega) id).trans hsh)
  have HCZ := Aside0.mk hcz
  have HCZR := Aside0.mk ((close_same (l := l) (by omega) id).trans hcz)
  have HFI := Aside0.mk hfi
  have HFIR := Aside0.mk ((find_same (l := l) (by omega) id).trans hfi)
  have HCH : Aside0 (host_Check.f l = some (okL l)) := ⟨okS_is (by omega)⟩
  have HCHR := Aside0.mk (rcheck_is (l := l) (by omega))
  have HL := Aside0.mk (Kd.F_bound (F_in34 hr))
  have HLC := Aside0.mk hc
  have HD := Aside0.mk (Kd.F_bound (F_in hd))
  have HDC := Aside0.mk hdc
  have HL40 := Aside0.mk hl40
  have HB := Aside0.mk (Below.refl w.heap.size w)
  have hu := Try.underlying25
  have hu4 := Try.underlying34
  obtain ⟨ok, hok⟩ : ∃ ok, okL l = ok := ⟨_, rfl⟩
  rw [hok] at HCH HCHR
  clear hcon hhe hsh hcz hfi hr hc hd hdc hl40 hok
  have hcl1 := Aside0.mk hcl
  have hhl1 := Aside0.mk hhl
  have hsl1 := Aside0.mk hsl
  have hczl1 := Aside0.mk hczl
  clear hcl hhl hsl hczl
  go_enter Try.func3, Try.ntmps3
  go_upto_region 1 with fail
  obtain ⟨wa, hwa, ot0, hb_, hz0⟩ := letter1 w (.cells #[.int .i64 kind, .int .i64 id, .slice D dl.length cD, .int .i64 n] 25 (0, 0))
  rw [hwa]
  clear hwa
  have hzwa := Nat.le_of_eq hz0.symm
  clear hz0
  have ot := Aside0.mk ot0
  clear ot0
  obtain ⟨otc, otf, otl⟩ := cells_of ot.out
  have HB_ : Aside0 (Below w.heap.size w wa) := ⟨hb_⟩
  have HL_ := Aside0.mk (Kd.F_below HL.out hb_)
  have HD_ := Aside0.mk (Kd.F_below HD.out hb_)
  clear HB HL HD hb_
  have HB := HB_
  have HL := HL_
  have HD := HD_
  clear HB_ HL_ HD_
  go_upto_region 4 with (first | ((with_reducible refine gate_dst (N := 42) rfl ?_); refine Kd.R_lit k34 _ 34 ?hg (N := 42) ?hd (xs := ([] : List S34)) (inner := []) (ok := fun _ => True) (okp := fun _ => True) ?hr ?hp (fun _ hk => hk) trivial (Below.refl _ _) (Nat.le_refl _) (by simp) ?_; (case hd => rfl); (case hg => rfl); (case hr => first | (go_simp; done) | (go_simp; rfl)); (case hp => exact (Reps.none _ _)); intro v1 w1 ho1 hb hg_ hnew_; clear hg_ hnew_; have HO1 := Aside0.mk ho1; have HB1 := Aside0.mk hb; clear ho1 hb) | ((with_reducible refine gate_builtin (b := .append) (xs := #[.tmp 42, .tmp 43]) rfl ?_); at_builtin; refine Kd.R_append_rows k34 (w0 := wa) wa.heap.size rfl (.tmp 42) (.tmp 43) 22 34 (.agg #[(.int .i64 0), (.int .i64 0), (.int .u32 0), (.int .i64 0), (.bool false), (.bool false)]) 40 rfl Try.underlying22 info34 rfl (by decide) (by omega) v1 [] l _ _ _ (fun _ => True) (fun _ => False) rfl rfl ?aO ?aR (fun _ _ h => h) (fun _ h => h.elim) ?aF ?aB ?aS ?aL ?_; (case aR => repeat (first | exact (Kd.C_below (Kd.F_now HL.out) HB1.out) | (with_reducible refine Kd.C_alloc ?_ _) | (with_reducible refine Kd.C_drewN ?_ _) | (with_reducible refine Kd.C_drew ?_))); (case aB => exact HB1.out); (case aF => exact (fun _ _ => trivial)); (case aO => exact HO1.out); (case aS => exact HB1.out.size); (case aL => have := HL40.out; simp; omega); intro v2 w2 ho hb hg hat; rw [List.nil_append] at ho; have HO2 := Aside0.mk ho; have HB2 := Aside0.mk hb; clear ho hb hg hat))
  have HB_ : Aside0 (Below w.heap.size w w2) := Aside0.mk (below_step HB.out HB2.out)
  have ot_ := Aside0.mk (box_below HB2.out ot.out)
  have HL_ := Aside0.mk (Kd.F_below HL.out HB2.out)
  have HD_ := Aside0.mk (Kd.F_below HD.out HB2.out)
  have hzw2 := HB2.out.size
  clear HB ot otc otf otl HL HD HO1 HB1
  have HB := HB_
  have ot := ot_
  have HL := HL_
  have HD := HD_
  clear HB_ ot_ HL_ HD_ HB2
  obtain ⟨otc, otf, otl⟩ := cells_of ot.out
  obtain ⟨A_o, c_o, rfl, hoc, hof⟩ := Kd.R_V (base' := 0) (Kd.R_bound HO2.out)
  have OC := Aside0.mk hoc
  have O := Aside0.mk (Kd.F_bound hof)
  clear hoc hof HO2
  go_wp2_with fail
  (go_at_call 7; (with_reducible refine (host_Connect.calls _ A_o c_o l remote port ra rb rc _ (Kd.V_mk OC.out (fG O)) HCON.out).mono ?_); rintro e_ w3 ⟨v_a, rfl, ⟨A_a, c_a, rfl, hc_a, hr_a⟩, hb_⟩; have HB_ : Aside0 (Below w.heap.size w w3) := Aside0.mk (below_step (bG HB) hb_); have hzw3 := hb_.size; (try simp at hzw3); have ot_ := Aside0.mk (box_below hb_ (eG ot)); have O_ := Aside0.mk (Kd.F_below (fG O) hb_); clear O; have O := O_; clear O_; have HL_ := Aside0.mk (Kd.F_below (fG HL) hb_); clear HL; have HL := HL_; clear HL_; have HD_ := Aside0.mk (Kd.F_below (fG HD) hb_); clear HD; have HD := HD_; clear HD_; (try clear ot otc otf otl); have ot := ot_; clear ot_; obtain ⟨otc, otf, otl⟩ := cells_of ot.out; clear HB hb_; have HB := HB_; clear HB_; have ac := Aside0.mk hc_a; have a := Aside0.mk (Kd.F_bound hr_a); clear hc_a hr_a; skip)
  go_wp2_with fail
  (go_at_call 8; (with_reducible refine (drawbridgeref27_Connect.calls (l.length + 2) _ A0 c0 l remote port ra rb rc _ (Kd.V_mk HLC.out (fG HL)) HCONR.out).mono ?_); rintro e_ w4 ⟨v_d, rfl, ⟨A_d, c_d, rfl, hc_d, hr_d⟩, hb_⟩; have HB_ : Aside0 (Below w.heap.size w w4) := Aside0.mk (below_step (bG HB) hb_); have hzw4 := hb_.size; (try simp at hzw4); have ot_ := Aside0.mk (box_below hb_ (eG ot)); have O_ := Aside0.mk (Kd.F_below (fG O) hb_); clear O; have O := O_; clear O_; have HL_ := Aside0.mk (Kd.F_below (fG HL) hb_); clear HL; have HL := HL_; clear HL_; have HD_ := Aside0.mk (Kd.F_below (fG HD) hb_); clear HD; have HD := HD_; clear HD_; have a_ := Aside0.mk (Kd.F_below (fG a) hb_); clear a; have a := a_; clear a_; (try clear ot otc otf otl); have ot := ot_; clear ot_; obtain ⟨otc, otf, otl⟩ := cells_of ot.out; clear HB hb_; have HB := HB_; clear HB_; have dc := Aside0.mk hc_d; have d := Aside0.mk (Kd.F_bound hr_d); clear hc_d hr_d; skip)
  go_wp2_with (first | ((with_reducible refine gate_dst (N := 63) rfl ?_); (try (refine gate_guard (by rfl) ?_; dsimp only)); refine wpList_load_row rfl 25 _ rfl _ (by rfl) _ (#[.int .i64 kind, .int .i64 id, .slice D dl.length cD, .int .i64 n]) _ _ ot.out Try.underlying25 rfl i25t ?_))
  (go_at_call 9; (with_reducible refine (host_Hear.calls _ A_o c_o l kind id D cD dl n ha hb _ (Kd.V_mk OC.out (fG O)) (Kd.F_now (fG HD)) HDC.out HHE.out).mono ?_); rintro e_ w5 ⟨v_g, rfl, ⟨A_g, c_g, rfl, hc_g, hr_g⟩, hb_⟩; have HB_ : Aside0 (Below w.heap.size w w5) := Aside0.mk (below_step (bG HB) hb_); have hzw5 := hb_.size; (try simp at hzw5); have ot_ := Aside0.mk (box_below hb_ (eG ot)); have O_ := Aside0.mk (Kd.F_below (fG O) hb_); clear O; have O := O_; clear O_; have HL_ := Aside0.mk (Kd.F_below (fG HL) hb_); clear HL; have HL := HL_; clear HL_; have HD_ := Aside0.mk (Kd.F_below (fG HD) hb_); clear HD; have HD := HD_; clear HD_; have a_ := Aside0.mk (Kd.F_below (fG a) hb_); clear a; have a := a_; clear a_; have d_ := Aside0.mk (Kd.F_below (fG d) hb_); clear d; have d := d_; clear d_; (try clear ot otc otf otl); have ot := ot_; clear ot_; obtain ⟨otc, otf, otl⟩ := cells_of ot.out; clear HB hb_; have HB := HB_; clear HB_; have gc := Aside0.mk hc_g; have g := Aside0.mk (Kd.F_bound hr_g); clear hc_g hr_g; skip)
  go_wp2_with (first | ((with_reducible refine gate_dst (N := 69) rfl ?_); (try (refine gate_guard (by rfl) ?_; dsimp only)); refine wpList_load_row rfl 25 _ rfl _ (by rfl) _ (#[.int .i64 kind, .int .i64 id, .slice D dl.length cD, .int .i64 n]) _ _ ot.out Try.underlying25 rfl i25t ?_))
  (go_at_call 10; (with_reducible refine (drawbridgeref27_Hear.calls _ A0 c0 l kind id D cD dl n ha hb _ (Kd.V_mk HLC.out (fG HL)) (Kd.F_now (fG HD)) HDC.out HHER.out).mono ?_); rintro e_ w6 ⟨v_h, rfl, ⟨A_h, c_h, rfl, hc_h, hr_h⟩, hb_⟩; have HB_ : Aside0 (Below w.heap.size w w6) := Aside0.mk (below_step (bG HB) hb_); have hzw6 := hb_.size; (try simp at hzw6); have ot_ := Aside0.mk (box_below hb_ (eG ot)); have O_ := Aside0.mk (Kd.F_below (fG O) hb_); clear O; have O := O_; clear O_; have HL_ := Aside0.mk (Kd.F_below (fG HL) hb_); clear HL; have HL := HL_; clear HL_; have HD_ := Aside0.mk (Kd.F_below (fG HD) hb_); clear HD; have HD := HD_; clear HD_; have a_ := Aside0.mk (Kd.F_below (fG a) hb_); clear a; have a := a_; clear a_; have d_ := Aside0.mk (Kd.F_below (fG d) hb_); clear d; have d := d_; clear d_; have g_ := Aside0.mk (Kd.F_below (fG g) hb_); clear g; have g := g_; clear g_; (try clear ot otc otf otl); have ot := ot_; clear ot_; obtain ⟨otc, otf, otl⟩ := cells_of ot.out; clear HB hb_; have HB := HB_; clear HB_; have hc := Aside0.mk hc_h; have h := Aside0.mk (Kd.F_bound hr_h); clear hc_h hr_h; skip)
  go_wp2_with fail
  (go_at_call 11; (with_reducible refine (host_Shut.calls _ A_o c_o l id sa sb _ (Kd.V_mk OC.out (fG O)) HSH.out).mono ?_); rintro e_ w7 ⟨v_k, rfl, ⟨A_k, c_k, rfl, hc_k, hr_k⟩, hb_⟩; have HB_ : Aside0 (Below w.heap.size w w7) := Aside0.mk (below_step (bG HB) hb_); have hzw7 := hb_.size; (try simp at hzw7); have ot_ := Aside0.mk (box_below hb_ (eG ot)); have O_ := Aside0.mk (Kd.F_below (fG O) hb_); clear O; have O := O_; clear O_; have HL_ := Aside0.mk (Kd.F_below (fG HL) hb_); clear HL; have HL := HL_; clear HL_; have HD_ := Aside0.mk (Kd.F_below (fG HD) hb_); clear HD; have HD := HD_; clear HD_; have a_ := Aside0.mk (Kd.F_below (fG a) hb_); clear a; have a := a_; clear a_; have d_ := Aside0.mk (Kd.F_below (fG d) hb_); clear d; have d := d_; clear d_; have g_ := Aside0.mk (Kd.F_below (fG g) hb_); clear g; have g := g_; clear g_; have h_ := Aside0.mk (Kd.F_below (fG h) hb_); clear h; have h := h_; clear h_; (try clear ot otc otf otl); have ot := ot_; clear ot_; obtain ⟨otc, otf, otl⟩ := cells_of ot.out; clear HB hb_; have HB := HB_; clear HB_; have kc := Aside0.mk hc_k; have k := Aside0.mk (Kd.F_bound hr_k); clear hc_k hr_k; skip)
  go_wp2_with fail
  (go_at_call 12; (with_reducible refine (drawbridgeref27_Shut.calls _ A0 c0 l id sa sb _ (Kd.V_mk HLC.out (fG HL)) HSHR.out).mono ?_); rintro e_ w8 ⟨v_m, rfl, ⟨A_m, c_m, rfl, hc_m, hr_m⟩, hb_⟩; have HB_ : Aside0 (Below w.heap.size w w8) := Aside0.mk (below_step (bG HB) hb_); have hzw8 := hb_.size; (try simp at hzw8); have ot_ := Aside0.mk (box_below hb_ (eG ot)); have O_ := Aside0.mk (Kd.F_below (fG O) hb_); clear O; have O := O_; clear O_; have HL_ := Aside0.mk (Kd.F_below (fG HL) hb_); clear HL; have HL := HL_; clear HL_; have HD_ := Aside0.mk (Kd.F_below (fG HD) hb_); clear HD; have HD := HD_; clear HD_; have a_ := Aside0.mk (Kd.F_below (fG a) hb_); clear a; have a := a_; clear a_; have d_ := Aside0.mk (Kd.F_below (fG d) hb_); clear d; have d := d_; clear d_; have g_ := Aside0.mk (Kd.F_below (fG g) hb_); clear g; have g := g_; clear g_; have h_ := Aside0.mk (Kd.F_below (fG h) hb_); clear h; have h := h_; clear h_; have k_ := Aside0.mk (Kd.F_below (fG k) hb_); clear k; have k := k_; clear k_; (try clear ot otc otf otl); have ot := ot_; clear ot_; obtain ⟨otc, otf, otl⟩ := cells_of ot.out; clear HB hb_; have HB := HB_; clear HB_; have mc := Aside0.mk hc_m; have m := Aside0.mk (Kd.F_bound hr_m); clear hc_m hr_m; skip)
  go_wp2_with fail
  (go_at_call 13; (with_reducible refine (host_Close.calls _ A_o c_o l id ca cb _ (Kd.V_mk OC.out (fG O)) HCZ.out).mono ?_); rintro e_ w9 ⟨v_p, rfl, ⟨A_p, c_p, rfl, hc_p, hr_p⟩, hb_⟩; have HB_ : Aside0 (Below w.heap.size w w9) := Aside0.mk (below_step (bG HB) hb_); have hzw9 := hb_.size; (try simp at hzw9); have ot_ := Aside0.mk (box_below hb_ (eG ot)); have O_ := Aside0.mk (Kd.F_below (fG O) hb_); clear O; have O := O_; clear O_; have HL_ := Aside0.mk (Kd.F_below (fG HL) hb_); clear HL; have HL := HL_; clear HL_; have HD_ := Aside0.mk (Kd.F_below (fG HD) hb_); clear HD; have HD := HD_; clear HD_; have a_ := Aside0.mk (Kd.F_below (fG a) hb_); clear a; have a := a_; clear a_; have d_ := Aside0.mk (Kd.F_below (fG d) hb_); clear d; have d := d_; clear d_; have g_ := Aside0.mk (Kd.F_below (fG g) hb_); clear g; have g := g_; clear g_; have h_ := Aside0.mk (Kd.F_below (fG h) hb_); clear h; have h := h_; clear h_; have k_ := Aside0.mk (Kd.F_below (fG k) hb_); clear k; have k := k_; clear k_; have m_ := Aside0.mk (Kd.F_below (fG m) hb_); clear m; have m := m_; clear m_; (try clear ot otc otf otl); have ot := ot_; clear ot_; obtain ⟨otc, otf, otl⟩ := cells_of ot.out; clear HB hb_; have HB := HB_; clear HB_; have pc := Aside0.mk hc_p; have p := Aside0.mk (Kd.F_bound hr_p); clear hc_p hr_p; skip)
  go_wp2_with fail
  (go_at_call 14; (with_reducible refine (drawbridgeref27_Close.calls _ A0 c0 l id ca cb _ (Kd.V_mk HLC.out (fG HL)) HCZR.out).mono ?_); rintro e_ w10 ⟨v_r, rfl, ⟨A_r, c_r, rfl, hc_r, hr_r⟩, hb_⟩; have HB_ : Aside0 (Below w.heap.size w w10) := Aside0.mk (below_step (bG HB) hb_); have hzw10 := hb_.size; (try simp at hzw10); have ot_ := Aside0.mk (box_below hb_ (eG ot)); have O_ := Aside0.mk (Kd.F_below (fG O) hb_); clear O; have O := O_; clear O_; have HL_ := Aside0.mk (Kd.F_below (fG HL) hb_); clear HL; have HL := HL_; clear HL_; have HD_ := Aside0.mk (Kd.F_below (fG HD) hb_); clear HD; have HD := HD_; clear HD_; have a_ := Aside0.mk (Kd.F_below (fG a) hb_); clear a; have a := a_; clear a_; have d_ := Aside0.mk (Kd.F_below (fG d) hb_); clear d; have d := d_; clear d_; have g_ := Aside0.mk (Kd.F_below (fG g) hb_); clear g; have g := g_; clear g_; have h_ := Aside0.mk (Kd.F_below (fG h) hb_); clear h; have h := h_; clear h_; have k_ := Aside0.mk (Kd.F_below (fG k) hb_); clear k; have k := k_; clear k_; have m_ := Aside0.mk (Kd.F_below (fG m) hb_); clear m; have m := m_; clear m_; have p_ := Aside0.mk (Kd.F_below (fG p) hb_); clear p; have p := p_; clear p_; (try clear ot otc otf otl); have ot := ot_; clear ot_; obtain ⟨otc, otf, otl⟩ := cells_of ot.out; clear HB hb_; have HB := HB_; clear HB_; have rc := Aside0.mk hc_r; have r := Aside0.mk (Kd.F_bound hr_r); clear hc_r hr_r; skip)
  go_wp2_with fail
  (go_at_call 15; (with_reducible refine (host_Find.calls A_o c_o l id x0 x1 x2 x3 x4 x5 xb _ (Kd.F_now (fG O)) OC.out HFI.out).mono ?_); rintro e_ w11 ⟨rfl, hb_⟩; have HB_ : Aside0 (Below w.heap.size w w11) := Aside0.mk (below_step (bG HB) hb_); have hzw11 := hb_.size; (try simp at hzw11); have ot_ := Aside0.mk (box_below hb_ (eG ot)); have O_ := Aside0.mk (Kd.F_below (fG O) hb_); clear O; have O := O_; clear O_; have HL_ := Aside0.mk (Kd.F_below (fG HL) hb_); clear HL; have HL := HL_; clear HL_; have HD_ := Aside0.mk (Kd.F_below (fG HD) hb_); clear HD; have HD := HD_; clear HD_; have a_ := Aside0.mk (Kd.F_below (fG a) hb_); clear a; have a := a_; clear a_; have d_ := Aside0.mk (Kd.F_below (fG d) hb_); clear d; have d := d_; clear d_; have g_ := Aside0.mk (Kd.F_below (fG g) hb_); clear g; have g := g_; clear g_; have h_ := Aside0.mk (Kd.F_below (fG h) hb_); clear h; have h := h_; clear h_; have k_ := Aside0.mk (Kd.F_below (fG k) hb_); clear k; have k := k_; clear k_; have m_ := Aside0.mk (Kd.F_below (fG m) hb_); clear m; have m := m_; clear m_; have p_ := Aside0.mk (Kd.F_below (fG p) hb_); clear p; have p := p_; clear p_; have r_ := Aside0.mk (Kd.F_below (fG r) hb_); clear r; have r := r_; clear r_; (try clear ot otc otf otl); have ot := ot_; clear ot_; obtain ⟨otc, otf, otl⟩ := cells_of ot.out; clear HB hb_; have HB := HB_; clear HB_)
  go_upto_region 13 with (first | ((with_reducible refine gate_store (t := 34) (p := 28) (v := .tmp 106) rfl ?_); refine wpList_store_all rfl 34 _ _ rfl rfl _ (#[.int .i64 x0, .int .i64 x1, .int .u32 x2, .int .i64 x3, .bool x4, .bool x5]) (by rfl) (by rfl) _ _ (nb_1 _ _) rfl i34t (one34 _ _ _ _ _ _) ?_; rintro w12 ⟨hx_, hk_, hb_, hzz_⟩; have HB_ : Aside0 (Below w.heap.size w w12) := Aside0.mk (Below.trans (bG HB) (Below.mono hb_ (by first | omega | (simp only [sz_alloc, sz_drew, sz_drewN]; omega)))); have hzw12 := Nat.le_of_eq hzz_.symm; (try simp at hzw12); clear hzz_; have ot_ := Aside0.mk (st_put ot.out hk_ (fun h_ => (by repeat (with_reducible first | exact h_ | apply ext_drew | apply ext_drewN | apply ext_alloc | refine blk_far ?_ (by show _ ≠ _; dsimp only; omega) _))) (by omega)); clear ot otc otf otl; have ot := ot_; clear ot_; obtain ⟨otc, otf, otl⟩ := cells_of ot.out; have O_ := Aside0.mk (Kd.F_step (fG O) (fun j_ hj_ hl_ => hk_ j_ (by (try dsimp only at hj_); (try simp only [sz_alloc, sz_drew, sz_drewN, sz_set] at hj_); omega))); clear O; have O := O_; clear O_; have HL_ := Aside0.mk (Kd.F_step (fG HL) (fun j_ hj_ hl_ => hk_ j_ (by (try dsimp only at hj_); (try simp only [sz_alloc, sz_drew, sz_drewN, sz_set] at hj_); omega))); clear HL; have HL := HL_; clear HL_; have HD_ := Aside0.mk (Kd.F_step (fG HD) (fun j_ hj_ hl_ => hk_ j_ (by (try dsimp only at hj_); (try simp only [sz_alloc, sz_drew, sz_drewN, sz_set] at hj_); omega))); clear HD; have HD := HD_; clear HD_; have a_ := Aside0.mk (Kd.F_step (fG a) (fun j_ hj_ hl_ => hk_ j_ (by (try dsimp only at hj_); (try simp only [sz_alloc, sz_drew, sz_drewN, sz_set] at hj_); omega))); clear a; have a := a_; clear a_; have d_ := Aside0.mk (Kd.F_step (fG d) (fun j_ hj_ hl_ => hk_ j_ (by (try dsimp only at hj_); (try simp only [sz_alloc, sz_drew, sz_drewN, sz_set] at hj_); omega))); clear d; have d := d_; clear d_; have g_ := Aside0.mk (Kd.F_step (fG g) (fun j_ hj_ hl_ => hk_ j_ (by (try dsimp only at hj_); (try simp only [sz_alloc, sz_drew, sz_drewN, sz_set] at hj_); omega))); clear g; have g := g_; clear g_; have h_ := Aside0.mk (Kd.F_step (fG h) (fun j_ hj_ hl_ => hk_ j_ (by (try dsimp only at hj_); (try simp only [sz_alloc, sz_drew, sz_drewN, sz_set] at hj_); omega))); clear h; have h := h_; clear h_; have k_ := Aside0.mk (Kd.F_step (fG k) (fun j_ hj_ hl_ => hk_ j_ (by (try dsimp only at hj_); (try simp only [sz_alloc, sz_drew, sz_drewN, sz_set] at hj_); omega))); clear k; have k := k_; clear k_; have m_ := Aside0.mk (Kd.F_step (fG m) (fun j_ hj_ hl_ => hk_ j_ (by (try dsimp only at hj_); (try simp only [sz_alloc, sz_drew, sz_drewN, sz_set] at hj_); omega))); clear m; have m := m_; clear m_; have p_ := Aside0.mk (Kd.F_step (fG p) (fun j_ hj_ hl_ => hk_ j_ (by (try dsimp only at hj_); (try simp only [sz_alloc, sz_drew, sz_drewN, sz_set] at hj_); omega))); clear p; have p := p_; clear p_; have r_ := Aside0.mk (Kd.F_step (fG r) (fun j_ hj_ hl_ => hk_ j_ (by (try dsimp only at hj_); (try simp only [sz_alloc, sz_drew, sz_drewN, sz_set] at hj_); omega))); clear r; have r := r_; clear r_; (try clear ox oxc oxf oxl); have ox := Aside0.mk hx_; obtain ⟨oxc, oxf, oxl⟩ := cells_of ox.out; clear HB hb_ hk_ hx_; have HB := HB_; clear HB_))
  go_wp2_with fail
  (go_at_call 16; (with_reducible refine (drawbridgeref27_Find.calls A0 c0 l id x0 x1 x2 x3 x4 x5 xb _ (Kd.F_now (fG HL)) HLC.out HFIR.out).mono ?_); rintro e_ w13 ⟨rfl, hb_⟩; have HB_ : Aside0 (Below w.heap.size w w13) := Aside0.mk (below_step (bG HB) hb_); have hzw13 := hb_.size; (try simp at hzw13); have ot_ := Aside0.mk (box_below hb_ (eG ot)); have ox_ := Aside0.mk (box_below hb_ (eG ox)); have O_ := Aside0.mk (Kd.F_below (fG O) hb_); clear O; have O := O_; clear O_; have HL_ := Aside0.mk (Kd.F_below (fG HL) hb_); clear HL; have HL := HL_; clear HL_; have HD_ := Aside0.mk (Kd.F_below (fG HD) hb_); clear HD; have HD := HD_; clear HD_; have a_ := Aside0.mk (Kd.F_below (fG a) hb_); clear a; have a := a_; clear a_; have d_ := Aside0.mk (Kd.F_below (fG d) hb_); clear d; have d := d_; clear d_; have g_ := Aside0.mk (Kd.F_below (fG g) hb_); clear g; have g := g_; clear g_; have h_ := Aside0.mk (Kd.F_below (fG h) hb_); clear h; have h := h_; clear h_; have k_ := Aside0.mk (Kd.F_below (fG k) hb_); clear k; have k := k_; clear k_; have m_ := Aside0.mk (Kd.F_below (fG m) hb_); clear m; have m := m_; clear m_; have p_ := Aside0.mk (Kd.F_below (fG p) hb_); clear p; have p := p_; clear p_; have r_ := Aside0.mk (Kd.F_below (fG r) hb_); clear r; have r := r_; clear r_; (try clear ot otc otf otl); have ot := ot_; clear ot_; obtain ⟨otc, otf, otl⟩ := cells_of ot.out; (try clear ox oxc oxf oxl); have ox := ox_; clear ox_; obtain ⟨oxc, oxf, oxl⟩ := cells_of ox.out; clear HB hb_; have HB := HB_; clear HB_)
  go_upto_region 14 with (first | ((with_reducible refine gate_store (t := 34) (p := 30) (v := .tmp 113) rfl ?_); refine wpList_store_all rfl 34 _ _ rfl rfl _ (#[.int .i64 x0, .int .i64 x1, .int .u32 x2, .int .i64 x3, .bool x4, .bool x5]) (by rfl) (by rfl) _ _ (nb_1 _ _) rfl i34t (one34 _ _ _ _ _ _) ?_; rintro w14 ⟨hx_, hk_, hb_, hzz_⟩; have HB_ : Aside0 (Below w.heap.size w w14) := Aside0.mk (Below.trans (bG HB) (Below.mono hb_ (by first | omega | (simp only [sz_alloc, sz_drew, sz_drewN]; omega)))); have hzw14 := Nat.le_of_eq hzz_.symm; (try simp at hzw14); clear hzz_; have ot_ := Aside0.mk (st_put ot.out hk_ (fun h_ => (by repeat (with_reducible first | exact h_ | apply ext_drew | apply ext_drewN | apply ext_alloc | refine blk_far ?_ (by show _ ≠ _; dsimp only; omega) _))) (by omega)); clear ot otc otf otl; have ot := ot_; clear ot_; obtain ⟨otc, otf, otl⟩ := cells_of ot.out; have ox_ := Aside0.mk (st_put ox.out hk_ (fun h_ => (by repeat (with_reducible first | exact h_ | apply ext_drew | apply ext_drewN | apply ext_alloc | refine blk_far ?_ (by show _ ≠ _; dsimp only; omega) _))) (by omega)); clear ox oxc oxf oxl; have ox := ox_; clear ox_; obtain ⟨oxc, oxf, oxl⟩ := cells_of ox.out; have O_ := Aside0.mk (Kd.F_step (fG O) (fun j_ hj_ hl_ => hk_ j_ (by (try dsimp only at hj_); (try simp only [sz_alloc, sz_drew, sz_drewN, sz_set] at hj_); omega))); clear O; have O := O_; clear O_; have HL_ := Aside0.mk (Kd.F_step (fG HL) (fun j_ hj_ hl_ => hk_ j_ (by (try dsimp only at hj_); (try simp only [sz_alloc, sz_drew, sz_drewN, sz_set] at hj_); omega))); clear HL; have HL := HL_; clear HL_; have HD_ := Aside0.mk (Kd.F_step (fG HD) (fun j_ hj_ hl_ => hk_ j_ (by (try dsimp only at hj_); (try simp only [sz_alloc, sz_drew, sz_drewN, sz_set] at hj_); omega))); clear HD; have HD := HD_; clear HD_; have a_ := Aside0.mk (Kd.F_step (fG a) (fun j_ hj_ hl_ => hk_ j_ (by (try dsimp only at hj_); (try simp only [sz_alloc, sz_drew, sz_drewN, sz_set] at hj_); omega))); clear a; have a := a_; clear a_; have d_ := Aside0.mk (Kd.F_step (fG d) (fun j_ hj_ hl_ => hk_ j_ (by (try dsimp only at hj_); (try simp only [sz_alloc, sz_drew, sz_drewN, sz_set] at hj_); omega))); clear d; have d := d_; clear d_; have g_ := Aside0.mk (Kd.F_step (fG g) (fun j_ hj_ hl_ => hk_ j_ (by (try dsimp only at hj_); (try simp only [sz_alloc, sz_drew, sz_drewN, sz_set] at hj_); omega))); clear g; have g := g_; clear g_; have h_ := Aside0.mk (Kd.F_step (fG h) (fun j_ hj_ hl_ => hk_ j_ (by (try dsimp only at hj_); (try simp only [sz_alloc, sz_drew, sz_drewN, sz_set] at hj_); omega))); clear h; have h := h_; clear h_; have k_ := Aside0.mk (Kd.F_step (fG k) (fun j_ hj_ hl_ => hk_ j_ (by (try dsimp only at hj_); (try simp only [sz_alloc, sz_drew, sz_drewN, sz_set] at hj_); omega))); clear k; have k := k_; clear k_; have m_ := Aside0.mk (Kd.F_step (fG m) (fun j_ hj_ hl_ => hk_ j_ (by (try dsimp only at hj_); (try simp only [sz_alloc, sz_drew, sz_drewN, sz_set] at hj_); omega))); clear m; have m := m_; clear m_; have p_ := Aside0.mk (Kd.F_step (fG p) (fun j_ hj_ hl_ => hk_ j_ (by (try dsimp only at hj_); (try simp only [sz_alloc, sz_drew, sz_drewN, sz_set] at hj_); omega))); clear p; have p := p_; clear p_; have r_ := Aside0.mk (Kd.F_step (fG r) (fun j_ hj_ hl_ => hk_ j_ (by (try dsimp only at hj_); (try simp only [sz_alloc, sz_drew, sz_drewN, sz_set] at hj_); omega))); clear r; have r := r_; clear r_; (try clear oy oyc oyf oyl); have oy := Aside0.mk hx_; obtain ⟨oyc, oyf, oyl⟩ := cells_of oy.out; clear HB hb_ hk_ hx_; have HB := HB_; clear HB_))
  clear ot otc otf otl HD HDC
  go_wp2_with fail
  (go_at_call 17; (with_reducible refine (same_c ra hcl1.out _ _ _ _ _ (Kd.F_now (fG a)) ac.out (Kd.F_now (fG d)) dc.out).mono ?_); rintro e_ w15 ⟨rfl, hb_⟩; have HB_ : Aside0 (Below w.heap.size w w15) := Aside0.mk (below_step (bG HB) hb_); have hzw15 := hb_.size; (try simp at hzw15); have ox_ := Aside0.mk (box_below hb_ (eG ox)); have oy_ := Aside0.mk (box_below hb_ (eG oy)); have O_ := Aside0.mk (Kd.F_below (fG O) hb_); clear O; have O := O_; clear O_; have HL_ := Aside0.mk (Kd.F_below (fG HL) hb_); clear HL; have HL := HL_; clear HL_; have a_ := Aside0.mk (Kd.F_below (fG a) hb_); clear a; have a := a_; clear a_; have d_ := Aside0.mk (Kd.F_below (fG d) hb_); clear d; have d := d_; clear d_; have g_ := Aside0.mk (Kd.F_below (fG g) hb_); clear g; have g := g_; clear g_; have h_ := Aside0.mk (Kd.F_below (fG h) hb_); clear h; have h := h_; clear h_; have k_ := Aside0.mk (Kd.F_below (fG k) hb_); clear k; have k := k_; clear k_; have m_ := Aside0.mk (Kd.F_below (fG m) hb_); clear m; have m := m_; clear m_; have p_ := Aside0.mk (Kd.F_below (fG p) hb_); clear p; have p := p_; clear p_; have r_ := Aside0.mk (Kd.F_below (fG r) hb_); clear r; have r := r_; clear r_; (try clear ox oxc oxf oxl); have ox := ox_; clear ox_; obtain ⟨oxc, oxf, oxl⟩ := cells_of ox.out; (try clear oy oyc oyf oyl); have oy := oy_; clear oy_; obtain ⟨oyc, oyf, oyl⟩ := cells_of oy.out; clear HB hb_; have HB := HB_; clear HB_)
  go_wp2_with fail
  (go_at_call 17; (with_reducible refine (same_c ha hhl1.out _ _ _ _ _ (Kd.F_now (fG g)) gc.out (Kd.F_now (fG h)) hc.out).mono ?_); rintro e_ w16 ⟨rfl, hb_⟩; have HB_ : Aside0 (Below w.heap.size w w16) := Aside0.mk (below_step (bG HB) hb_); have hzw16 := hb_.size; (try simp at hzw16); have ox_ := Aside0.mk (box_below hb_ (eG ox)); have oy_ := Aside0.mk (box_below hb_ (eG oy)); have O_ := Aside0.mk (Kd.F_below (fG O) hb_); clear O; have O := O_; clear O_; have HL_ := Aside0.mk (Kd.F_below (fG HL) hb_); clear HL; have HL := HL_; clear HL_; have a_ := Aside0.mk (Kd.F_below (fG a) hb_); clear a; have a := a_; clear a_; have d_ := Aside0.mk (Kd.F_below (fG d) hb_); clear d; have d := d_; clear d_; have g_ := Aside0.mk (Kd.F_below (fG g) hb_); clear g; have g := g_; clear g_; have h_ := Aside0.mk (Kd.F_below (fG h) hb_); clear h; have h := h_; clear h_; have k_ := Aside0.mk (Kd.F_below (fG k) hb_); clear k; have k := k_; clear k_; have m_ := Aside0.mk (Kd.F_below (fG m) hb_); clear m; have m := m_; clear m_; have p_ := Aside0.mk (Kd.F_below (fG p) hb_); clear p; have p := p_; clear p_; have r_ := Aside0.mk (Kd.F_below (fG r) hb_); clear r; have r := r_; clear r_; (try clear ox oxc oxf oxl); have ox := ox_; clear ox_; obtain ⟨oxc, oxf, oxl⟩ := cells_of ox.out; (try clear oy oyc oyf oyl); have oy := oy_; clear oy_; obtain ⟨oyc, oyf, oyl⟩ := cells_of oy.out; clear HB hb_; have HB := HB_; clear HB_)
  go_wp2_with fail
  (go_at_call 17; (with_reducible refine (same_c sa hsl1.out _ _ _ _ _ (Kd.F_now (fG k)) kc.out (Kd.F_now (fG m)) mc.out).mono ?_); rintro e_ w17 ⟨rfl, hb_⟩; have HB_ : Aside0 (Below w.heap.size w w17) := Aside0.mk (below_step (bG HB) hb_); have hzw17 := hb_.size; (try simp at hzw17); have ox_ := Aside0.mk (box_below hb_ (eG ox)); have oy_ := Aside0.mk (box_below hb_ (eG oy)); have O_ := Aside0.mk (Kd.F_below (fG O) hb_); clear O; have O := O_; clear O_; have HL_ := Aside0.mk (Kd.F_below (fG HL) hb_); clear HL; have HL := HL_; clear HL_; have a_ := Aside0.mk (Kd.F_below (fG a) hb_); clear a; have a := a_; clear a_; have d_ := Aside0.mk (Kd.F_below (fG d) hb_); clear d; have d := d_; clear d_; have g_ := Aside0.mk (Kd.F_below (fG g) hb_); clear g; have g := g_; clear g_; have h_ := Aside0.mk (Kd.F_below (fG h) hb_); clear h; have h := h_; clear h_; have k_ := Aside0.mk (Kd.F_below (fG k) hb_); clear k; have k := k_; clear k_; have m_ := Aside0.mk (Kd.F_below (fG m) hb_); clear m; have m := m_; clear m_; have p_ := Aside0.mk (Kd.F_below (fG p) hb_); clear p; have p := p_; clear p_; have r_ := Aside0.mk (Kd.F_below (fG r) hb_); clear r; have r := r_; clear r_; (try clear ox oxc oxf oxl); have ox := ox_; clear ox_; obtain ⟨oxc, oxf, oxl⟩ := cells_of ox.out; (try clear oy oyc oyf oyl); have oy := oy_; clear oy_; obtain ⟨oyc, oyf, oyl⟩ := cells_of oy.out; clear HB hb_; have HB := HB_; clear HB_)
  go_wp2_with fail
  (go_at_call 17; (with_reducible refine (same_c ca hczl1.out _ _ _ _ _ (Kd.F_now (fG p)) pc.out (Kd.F_now (fG r)) rc.out).mono ?_); rintro e_ w18 ⟨rfl, hb_⟩; have HB_ : Aside0 (Below w.heap.size w w18) := Aside0.mk (below_step (bG HB) hb_); have hzw18 := hb_.size; (try simp at hzw18); have ox_ := Aside0.mk (box_below hb_ (eG ox)); have oy_ := Aside0.mk (box_below hb_ (eG oy)); have O_ := Aside0.mk (Kd.F_below (fG O) hb_); clear O; have O := O_; clear O_; have HL_ := Aside0.mk (Kd.F_below (fG HL) hb_); clear HL; have HL := HL_; clear HL_; have a_ := Aside0.mk (Kd.F_below (fG a) hb_); clear a; have a := a_; clear a_; have d_ := Aside0.mk (Kd.F_below (fG d) hb_); clear d; have d := d_; clear d_; have g_ := Aside0.mk (Kd.F_below (fG g) hb_); clear g; have g := g_; clear g_; have h_ := Aside0.mk (Kd.F_below (fG h) hb_); clear h; have h := h_; clear h_; have k_ := Aside0.mk (Kd.F_below (fG k) hb_); clear k; have k := k_; clear k_; have m_ := Aside0.mk (Kd.F_below (fG m) hb_); clear m; have m := m_; clear m_; have p_ := Aside0.mk (Kd.F_below (fG p) hb_); clear p; have p := p_; clear p_; have r_ := Aside0.mk (Kd.F_below (fG r) hb_); clear r; have r := r_; clear r_; (try clear ox oxc oxf oxl); have ox := ox_; clear ox_; obtain ⟨oxc, oxf, oxl⟩ := cells_of ox.out; (try clear oy oyc oyf oyl); have oy := oy_; clear oy_; obtain ⟨oyc, oyf, oyl⟩ := cells_of oy.out; clear HB hb_; have HB := HB_; clear HB_)
  go_wp2_with (first | ((with_reducible refine gate_dst (N := 160) rfl ?_); (try (refine gate_guard (by rfl) ?_; dsimp only)); refine wpList_load_row rfl 34 _ rfl _ (by rfl) _ (#[.int .i64 x0, .int .i64 x1, .int .u32 x2, .int .i64 x3, .bool x4, .bool x5]) _ _ ox.out Try.underlying34 rfl i34t ?_) | ((with_reducible refine gate_dst (N := 161) rfl ?_); (try (refine gate_guard (by rfl) ?_; dsimp only)); refine wpList_load_row rfl 34 _ rfl _ (by rfl) _ (#[.int .i64 x0, .int .i64 x1, .int .u32 x2, .int .i64 x3, .bool x4, .bool x5]) _ _ oy.out Try.underlying34 rfl i34t ?_) | ((with_reducible refine gate_dst (N := 162) rfl ?_); (try (refine gate_guard (by rfl) ?_; dsimp only)); refine st_eq rfl rfl (by rfl) (by rfl) (eq34 x0 x1 x2 x3 x4 x5 _ _ _) ?_))
  (go_at_call 18; (with_reducible refine (host_Check.calls A_o c_o l ok _ (Kd.F_now (fG O)) OC.out HCH.out).mono ?_); rintro e_ w19 ⟨rfl, hb_⟩; have HB_ : Aside0 (Below w.heap.size w w19) := Aside0.mk (below_step (bG HB) hb_); have hzw19 := hb_.size; (try simp at hzw19); have ox_ := Aside0.mk (box_below hb_ (eG ox)); have oy_ := Aside0.mk (box_below hb_ (eG oy)); have O_ := Aside0.mk (Kd.F_below (fG O) hb_); clear O; have O := O_; clear O_; have HL_ := Aside0.mk (Kd.F_below (fG HL) hb_); clear HL; have HL := HL_; clear HL_; have a_ := Aside0.mk (Kd.F_below (fG a) hb_); clear a; have a := a_; clear a_; have d_ := Aside0.mk (Kd.F_below (fG d) hb_); clear d; have d := d_; clear d_; have g_ := Aside0.mk (Kd.F_below (fG g) hb_); clear g; have g := g_; clear g_; have h_ := Aside0.mk (Kd.F_below (fG h) hb_); clear h; have h := h_; clear h_; have k_ := Aside0.mk (Kd.F_below (fG k) hb_); clear k; have k := k_; clear k_; have m_ := Aside0.mk (Kd.F_below (fG m) hb_); clear m; have m := m_; clear m_; have p_ := Aside0.mk (Kd.F_below (fG p) hb_); clear p; have p := p_; clear p_; have r_ := Aside0.mk (Kd.F_below (fG r) hb_); clear r; have r := r_; clear r_; (try clear ox oxc oxf oxl); have ox := ox_; clear ox_; obtain ⟨oxc, oxf, oxl⟩ := cells_of ox.out; (try clear oy oyc oyf oyl); have oy := oy_; clear oy_; obtain ⟨oyc, oyf, oyl⟩ := cells_of oy.out; clear HB hb_; have HB := HB_; clear HB_)
  go_wp2_with fail
  (go_at_call 19; (with_reducible refine (drawbridgeref27_Check.calls A0 c0 l ok _ (Kd.F_now (fG HL)) HLC.out HCHR.out).mono ?_); rintro e_ w20 ⟨rfl, hb_⟩; have HB_ : Aside0 (Below w.heap.size w w20) := Aside0.mk (below_step (bG HB) hb_); have hzw20 := hb_.size; (try simp at hzw20); have ox_ := Aside0.mk (box_below hb_ (eG ox)); have oy_ := Aside0.mk (box_below hb_ (eG oy)); have O_ := Aside0.mk (Kd.F_below (fG O) hb_); clear O; have O := O_; clear O_; have HL_ := Aside0.mk (Kd.F_below (fG HL) hb_); clear HL; have HL := HL_; clear HL_; have a_ := Aside0.mk (Kd.F_below (fG a) hb_); clear a; have a := a_; clear a_; have d_ := Aside0.mk (Kd.F_below (fG d) hb_); clear d; have d := d_; clear d_; have g_ := Aside0.mk (Kd.F_below (fG g) hb_); clear g; have g := g_; clear g_; have h_ := Aside0.mk (Kd.F_below (fG h) hb_); clear h; have h := h_; clear h_; have k_ := Aside0.mk (Kd.F_below (fG k) hb_); clear k; have k := k_; clear k_; have m_ := Aside0.mk (Kd.F_below (fG m) hb_); clear m; have m := m_; clear m_; have p_ := Aside0.mk (Kd.F_below (fG p) hb_); clear p; have p := p_; clear p_; have r_ := Aside0.mk (Kd.F_below (fG r) hb_); clear r; have r := r_; clear r_; (try clear ox oxc oxf oxl); have ox := ox_; clear ox_; obtain ⟨oxc, oxf, oxl⟩ := cells_of ox.out; (try clear oy oyc oyf oyl); have oy := oy_; clear oy_; obtain ⟨oyc, oyf, oyl⟩ := cells_of oy.out; clear HB hb_; have HB := HB_; clear HB_)
  go_wp2_with fail
  (go_at_call 17; (with_reducible refine (same_c l (by have := HL40.out; omega) _ _ _ _ _ (Kd.F_now (fG O)) OC.out (Kd.F_now (fG HL)) HLC.out).mono ?_); rintro e_ w21 ⟨rfl, hb_⟩; have HB_ : Aside0 (Below w.heap.size w w21) := Aside0.mk (below_step (bG HB) hb_); have hzw21 := hb_.size; (try simp at hzw21); have ox_ := Aside0.mk (box_below hb_ (eG ox)); have oy_ := Aside0.mk (box_below hb_ (eG oy)); have O_ := Aside0.mk (Kd.F_below (fG O) hb_); clear O; have O := O_; clear O_; have HL_ := Aside0.mk (Kd.F_below (fG HL) hb_); clear HL; have HL := HL_; clear HL_; have a_ := Aside0.mk (Kd.F_below (fG a) hb_); clear a; have a := a_; clear a_; have d_ := Aside0.mk (Kd.F_below (fG d) hb_); clear d; have d := d_; clear d_; have g_ := Aside0.mk (Kd.F_below (fG g) hb_); clear g; have g := g_; clear g_; have h_ := Aside0.mk (Kd.F_below (fG h) hb_); clear h; have h := h_; clear h_; have k_ := Aside0.mk (Kd.F_below (fG k) hb_); clear k; have k := k_; clear k_; have m_ := Aside0.mk (Kd.F_below (fG m) hb_); clear m; have m := m_; clear m_; have p_ := Aside0.mk (Kd.F_below (fG p) hb_); clear p; have p := p_; clear p_; have r_ := Aside0.mk (Kd.F_below (fG r) hb_); clear r; have r := r_; clear r_; (try clear ox oxc oxf oxl); have ox := ox_; clear ox_; obtain ⟨oxc, oxf, oxl⟩ := cells_of ox.out; (try clear oy oyc oyf oyl); have oy := oy_; clear oy_; obtain ⟨oyc, oyf, oyl⟩ := cells_of oy.out; clear HB hb_; have HB := HB_; clear HB_)
  go_wp2_with fail
  (go_at_call 6; (with_reducible refine (heads_c _).mono ?_); rintro e_ w22 ⟨rfl, hb_⟩; have HB_ : Aside0 (Below w.heap.size w w22) := Aside0.mk (below_step (bG HB) hb_); have hzw22 := hb_.size; (try simp at hzw22); have ox_ := Aside0.mk (box_below hb_ (eG ox)); have oy_ := Aside0.mk (box_below hb_ (eG oy)); have O_ := Aside0.mk (Kd.F_below (fG O) hb_); clear O; have O := O_; clear O_; have HL_ := Aside0.mk (Kd.F_below (fG HL) hb_); clear HL; have HL := HL_; clear HL_; have a_ := Aside0.mk (Kd.F_below (fG a) hb_); clear a; have a := a_; clear a_; have d_ := Aside0.mk (Kd.F_below (fG d) hb_); clear d; have d := d_; clear d_; have g_ := Aside0.mk (Kd.F_below (fG g) hb_); clear g; have g := g_; clear g_; have h_ := Aside0.mk (Kd.F_below (fG h) hb_); clear h; have h := h_; clear h_; have k_ := Aside0.mk (Kd.F_below (fG k) hb_); clear k; have k := k_; clear k_; have m_ := Aside0.mk (Kd.F_below (fG m) hb_); clear m; have m := m_; clear m_; have p_ := Aside0.mk (Kd.F_below (fG p) hb_); clear p; have p := p_; clear p_; have r_ := Aside0.mk (Kd.F_below (fG r) hb_); clear r; have r := r_; clear r_; (try clear ox oxc oxf oxl); have ox := ox_; clear ox_; obtain ⟨oxc, oxf, oxl⟩ := cells_of ox.out; (try clear oy oyc oyf oyl); have oy := oy_; clear oy_; obtain ⟨oyc, oyf, oyl⟩ := cells_of oy.out; clear HB hb_; have HB := HB_; clear HB_)
  go_wp2
  go_ret
  exact ⟨rfl, (bG HB)⟩
end
def drawbridgelaw27_HostDoes.f (l0 : List S34) (a1_0 : Int) (a1_1 : Int) (l1_2 : List Int) (a1_3 : Int) (a2 : Int) (a3 : Int) : Option Bool := some true
theorem drawbridgelaw27_HostDoes.calls (A0 : Option Addr) (c0 : Nat) (l0 : List S34) (a1_0 : Int) (a1_1 : Int) (A1_2 : Option Addr) (c1_2 : Nat) (l1_2 : List Int) (a1_3 : Int) (a2 : Int) (a3 : Int) (r : Bool) (w : World) (hr0 : Kd.C k34 w A0 l0.length l0) (hc0 : l0.length ≤ c0) (hr1_2 : Kd.C (Kd.int .u8) w A1_2 l1_2.length l1_2) (hc1_2 : l1_2.length ≤ c1_2) (h : drawbridgelaw27_HostDoes.f l0 a1_0 a1_1 l1_2 a1_3 a2 a3 = some r) :
    Calls Try.prog 3 #[.slice A0 l0.length c0, .agg #[.int .i64 a1_0, .int .i64 a1_1, .slice A1_2 l1_2.length c1_2, .int .i64 a1_3], .int .u32 a2, .int .i64 a3] w fun e w' => e = .returned (.bool r) ∧ Below w.heap.size w w' := by
  obtain rfl : true = r := Option.some.inj h
  cases hq : decide ((l0.length : Int) > 40) with
  | true => exact does_q1 A0 c0 l0 a1_0 a1_1 A1_2 c1_2 l1_2 a1_3 a2 a3 w hq
  | false =>
    cases hq2 : decide ((l1_2.length : Int) > 5000) with
    | true => exact does_q2 A0 c0 l0 a1_0 a1_1 A1_2 c1_2 l1_2 a1_3 a2 a3 w hq hq2
    | false => exact does_is A0 c0 l0 a1_0 a1_1 A1_2 c1_2 l1_2 a1_3 a2 a3 w hq hq2 hr0 hc0 hr1_2 hc1_2
end Go.Proofs.Ytijdplpmcnhlbaa.Q
