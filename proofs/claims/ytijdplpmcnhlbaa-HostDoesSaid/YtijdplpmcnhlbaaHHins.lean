import Derived.Test.YtijdplpmcnhlbaaHZ2
import Derived.Lib.AppendZeros
/- slices.Insert over sockets: one more, at the end, or in between, with room and without. -/
namespace Go.Proofs.Ytijdplpmcnhlbaa.Q
open Go.RowKit Go.Proofs.YtijdplpmcnhlbaaW.PrintWords Go.Proofs.YtijdplpmcnhlbaaW.PrintLast Go.Proofs.YtijdplpmcnhlbaaW.PrintMore Go.Proofs.Ytijdplpmcnhlbaa.L
attribute [local go_sem] Instr.field part asAgg lt_step max2_int min2_int max_two min_two max_three min_three max_four min_four lt_0_1 lt_0_2 lt_1_2 lt_0_3 lt_1_3 lt_2_3 lt_0_4 lt_1_4 lt_2_4 lt_3_4 lt_0_5 lt_1_5 lt_2_5 lt_3_5 lt_4_5 lt_0_6 lt_1_6 lt_2_6 lt_3_6 lt_4_6 lt_5_6 lt_0_7 lt_1_7 lt_2_7 lt_3_7 lt_4_7 lt_5_7 lt_6_7 lt_0_8 lt_1_8 lt_2_8 lt_3_8 lt_4_8 lt_5_8 lt_6_8 lt_7_8
set_option linter.unusedVariables false
set_option linter.unusedSimpArgs false
theorem wp_copy_eq {P : Program} (w : World) {o : Oper} {a : Act} {K : Act → World → Prop} {Q : Exit → Act → World → Prop} (d s : Operand) (t t' : TypeId)
    (ho : o.op = .call { callee := .builtin .copy, args := #[d, s], argTypes := #[t, t'] }) (v u : Value) (hd : a.eval d = v) (hs : a.eval s = u) {v' : Value} {w' : World}
    (hr : (Builtin.copy_ #[t, t'] o.type #[v, u]).run P w = .ok v' w') (h : K (a.put o.dst v') w') : o.wp P a w K Q := by
  unfold Oper.wp execOp
  simp only [ho, resolve, invoke, builtin, Sem.run_bind, Sem.run_pure, Result.andThen_ok, List.map_toArray, List.map_cons, List.map_nil, hd, hs, hr]
  exact h
theorem wpList_copy_eq {P : Program} (w : World) {ops : Array Oper} {rest : List Oper} {o : Oper} {a : Act} {Q : Exit → Act → World → Prop} (hgd : o.guard = none) (d s : Operand) (t t' : TypeId)
    (ho : o.op = .call { callee := .builtin .copy, args := #[d, s], argTypes := #[t, t'] }) (v u : Value) (hd : a.eval d = v) (hs : a.eval s = u) {v' : Value} {w' : World}
    (hr : (Builtin.copy_ #[t, t'] o.type #[v, u]).run P w = .ok v' w') (h : wpList P ops Q rest (a.put o.dst v') w') : wpList P ops Q (o :: rest) a w :=
  wpList_plain hgd fun _ hK => wp_copy_eq w d s t t' ho v u hd hs hr (hK _ _ h)
theorem step_copy_eq {P : Program} {ops : Array Oper} {o : Oper} {a : Act} {w : World} {K : Act → World → Prop} {Q : Exit → Act → World → Prop} {E : Prop}
    (hg : o.guard = none) (d x : Operand) (dT sT : TypeId) (hop : o.op = Op.call { callee := Callee.builtin Builtin.copy, args := #[d, x], argTypes := #[dT, sT] })
    (v u : Value) (hd : a.eval d = v) (hx : a.eval x = u) {v' : Value} {w' : World} (hr : (Builtin.copy_ #[dT, sT] o.type #[v, u]).run P w = .ok v' w') (hK : K (a.put o.dst v') w') :
    if Region.wanted o (yielded ops a.tmps) = true then Oper.wp P o a w K Q else E := by
  have hw : Region.wanted o (yielded ops a.tmps) = true := by simp [Region.wanted, hg]
  rw [if_pos hw]
  unfold Oper.wp
  simp [execOp, hop, resolve, invoke, builtin, hd, hx, hr, Result.andThen]
  exact hK
theorem C_sock {w : World} {vb : Nat} {x : S34} {t : TypeId} (h : w.heap[vb]? = some (.cells (cells1 x).toArray t (0, 0))) : Kd.C k34 w (some ⟨vb, 0, none⟩) 1 [x] := by
  refine ⟨rfl, by decide, fun _ => ⟨_, rfl, fun j p hp => ?_⟩⟩
  have hj : j < 1 := (List.getElem?_eq_some_iff.1 hp).1
  obtain rfl : j = 0 := by omega
  obtain rfl : x = p := by simpa using hp
  refine ⟨cells1 x, rfl, k34_mk w x, fun i u hu => ?_⟩
  rw [Nat.zero_mul, Nat.zero_add]
  have : Addr.add ⟨vb, 0, none⟩ i = ⟨vb, i, none⟩ := by rw [Addr.add_lit, Nat.zero_add]
  rw [this, blk_cell h, List.getElem?_toArray]
  exact hu
set_option maxHeartbeats 1600000 in
set_option maxRecDepth 100000 in
theorem ins_end (b0 vb : Nat) (ok : Nat → Prop) (v0 : Value) (l : List S34) (x : S34) (w : World) (hR : Kd.R k34 34 w b0 ok v0 l) (hb0 : b0 ≤ w.heap.size) (hl : l.length ≤ 100) (hv : w.heap[vb]? = some (.cells (cells1 x).toArray 34 (0, 0))) :
    Calls Try.prog 20 #[v0, .int .i64 (l.length : Int), .slice (some ⟨vb, 0, none⟩) 1 1] w fun e w' => ∃ v, e = .returned v ∧ Kd.R k34 34 w' b0 (fun _ => True) v (l ++ [x]) ∧ Below b0 w w' := by
  have HR := Aside0.mk (Kd.R_mono (ok' := fun _ => True) hR fun _ _ => trivial)
  have HV := Aside0.mk (C_sock hv)
  have HB := Aside0.mk (Below.refl b0 w)
  obtain ⟨A, c, rfl, hc, _⟩ := Kd.R_reads hR
  have hcm : c ≤ 9223372036854775807 := by
    by_cases hp : 0 < l.length
    · obtain ⟨g, cap, hg, _⟩ := R_own hR hp
      injection hg with h1 h2 h3
      subst h3 h1
      obtain ⟨_, _, _, _, _, _, hm, _⟩ := R_cells hR
      exact hm
    · obtain ⟨inner, ⟨_, ho⟩, _⟩ := hR.2
      rcases ho with ⟨hv0, _⟩ | ⟨g', cap', cur, hv0, _, _, _, hm, _⟩
      · injection hv0 with _ _ h3
        omega
      · injection hv0 with _ _ h3
        rw [h3]; exact hm
  clear hR hv
  go_enter Try.func20, Try.ntmps20
  go_wp2_with (first | ((with_reducible refine gate_builtin (b := .append) (xs := #[.tmp 23, .tmp 24]) rfl ?_); at_builtin; refine Kd.R_append_rows k34 (w0 := w) b0 rfl (.tmp 23) (.tmp 24) 22 34 (.agg #[(.int .i64 0), (.int .i64 0), (.int .u32 0), (.int .i64 0), (.bool false), (.bool false)]) 40 rfl Try.underlying22 info34 rfl (by decide) (by omega) _ l [x] _ _ _ (fun _ => True) (fun _ => False) rfl rfl HR.out HV.out (fun _ _ h => h) (fun _ h => h.elim) (fun _ _ => trivial) HB.out hb0 (by omega) ?_; intro v2 w2 ho hb hg hat; have HO2 := Aside0.mk ho; have HB2 := Aside0.mk hb; clear ho hb hg hat))
  all_goals (go_ret; exact ⟨_, rfl, HO2.out, HB2.out⟩)
theorem sizeOf34 (w : World) : (sizeOf 34).run Try.prog w = .ok 6 w := by
  obtain ⟨i, hq, hi⟩ := Option.map_eq_some_iff.1 info34
  simp only [Prod.mk.injEq] at hi
  simp [sizeOf, typeInfo, hq, hi.2.1]
theorem cells1_len (x : S34) : (cells1 x).length = 6 := rfl
/-- Two runs of stores, and what the block's first cells are then. -/
theorem ins_cells {cur cur1 cur2 : Array Value} {L vs : List Value} {i n cap : Nat} (hi : i < n) (hnc : n + 1 ≤ cap) (hcs : cur.size = cap * 6) (hs1 : cur1.size = cur.size) (hvs : vs.length = 6) (hL : L.length = n * 6)
    (hc1 : ∀ j, j < cur.size → cur1[j]? = if (i + 1) * 6 ≤ j ∧ j < (i + 1) * 6 + (L.drop (i * 6)).length then (L.drop (i * 6))[j - (i + 1) * 6]? else cur[j]?)
    (hc2 : ∀ j, j < cur.size → cur2[j]? = if i * 6 ≤ j ∧ j < i * 6 + vs.length then vs[j - i * 6]? else cur1[j]?)
    (hcur : ∀ j, j < i * 6 → cur[j]? = L[j]?) : cur2.toList.take ((n + 1) * 6) = L.take (i * 6) ++ (vs ++ L.drop (i * 6)) := by
  apply List.ext_getElem?
  intro j
  have hnj : (n + 1) * 6 ≤ cap * 6 := Nat.mul_le_mul_right _ hnc
  have htl : (L.take (i * 6)).length = i * 6 := by rw [List.length_take, hL]; omega
  have hdl : (L.drop (i * 6)).length = n * 6 - i * 6 := by rw [List.length_drop, hL]
  by_cases hj : j < (n + 1) * 6
  · rw [List.getElem?_take_of_lt hj, Array.getElem?_toList, hc2 j (by omega)]
    by_cases h1 : j < i * 6
    · have e1 : (if i * 6 ≤ j ∧ j < i * 6 + vs.length then vs[j - i * 6]? else cur1[j]?) = cur1[j]? := if_neg (by omega)
      have e2 : cur1[j]? = cur[j]? := by rw [hc1 j (by omega)]; exact if_neg (by omega)
      rw [e1, e2, List.getElem?_append_left (by omega), List.getElem?_take_of_lt h1, hcur j h1]
    · by_cases h2 : j < i * 6 + 6
      · have e1 : (if i * 6 ≤ j ∧ j < i * 6 + vs.length then vs[j - i * 6]? else cur1[j]?) = vs[j - i * 6]? := if_pos (by omega)
        rw [e1, List.getElem?_append_right (by omega), htl, List.getElem?_append_left (by omega)]
      · have e1 : (if i * 6 ≤ j ∧ j < i * 6 + vs.length then vs[j - i * 6]? else cur1[j]?) = cur1[j]? := if_neg (by omega)
        have e2 : cur1[j]? = (L.drop (i * 6))[j - (i + 1) * 6]? := by rw [hc1 j (by omega)]; exact if_pos (by omega)
        rw [e1, e2, List.getElem?_append_right (by omega), htl, List.getElem?_append_right (by omega), hvs]
        congr 1
        omega
  · have h1 : (cur2.toList.take ((n + 1) * 6)).length ≤ j := by rw [List.length_take]; omega
    have h2 : (L.take (i * 6) ++ (vs ++ L.drop (i * 6))).length ≤ j := by rw [List.length_append, List.length_append, htl, hdl, hvs]; omega
    rw [List.getElem?_eq_none h1, List.getElem?_eq_none h2]
set_option maxHeartbeats 1600000 in
set_option maxRecDepth 100000 in
theorem ins_room (b0 g cap i vb : Nat) (ok : Nat → Prop) (l : List S34) (x : S34) (w : World) (hR : Kd.R k34 34 w b0 ok (.slice (some ⟨g, 0, none⟩) l.length cap) l) (hi : i < l.length) (hroom : l.length + 1 ≤ cap) (hne : vb ≠ g) (hv : w.heap[vb]? = some (.cells (cells1 x).toArray 34 (0, 0))) :
    Calls Try.prog 20 #[.slice (some ⟨g, 0, none⟩) l.length cap, .int .i64 (i : Int), .slice (some ⟨vb, 0, none⟩) 1 1] w fun e w' => ∃ v, e = .returned v ∧ Kd.R k34 34 w' b0 ok v (l.take i ++ (x :: l.drop i)) ∧ Below b0 w w' := by
  obtain ⟨cur, hh, hb, hk, _, hnc, hcm, hcs, ht⟩ := R_cells hR
  have hcm' : cap ≤ 9223372036854775807 := hcm
  obtain ⟨n, hnn⟩ : ∃ n, n = l.length := ⟨_, rfl⟩
  rw [← hnn] at hi hnc ht hroom ⊢
  have hcl : (cellsL l).length = n * 6 := by rw [cellsL_len, hnn]
  have hcurl : ∀ j, j < n * 6 → cur[j]? = (cellsL l)[j]? := fun j hj => by rw [← ht, List.getElem?_take, if_pos hj, Array.getElem?_toList]
  have hcell : ∀ j, w.drew.cell? ⟨g, j, none⟩ = cur[j]? := fun j => blk_cell (blk_drew hh) j
  have hov : ∀ lb cb, (callFunc 31 #[.slice (some ⟨vb, 0, none⟩) 1 1, .slice (some ⟨g, (i + 1) * 6, none⟩) lb cb]).run Try.prog w = .ok (.value (.bool false)) w := fun lb cb => by
    rw [run_callFunc_extern Try.func31 (by kernel_rfl) (by kernel_rfl) (by kernel_rfl) (e := Extern.SlicesOverlaps.overlaps #[22, 22] #[4]) (by kernel_rfl),
      Lib.run_overlaps_apart w 22 4 34 Try.underlying22 6 sizeOf34 ⟨vb, 0, none⟩ ⟨g, (i + 1) * 6, none⟩ 1 1 lb cb hne 34 34 6 cur.size (by simp [World.shape?, hv]; rfl) (by simp [World.shape?, hh]) (by rw [hcs]; omega) (blk_frozen hv _) (blk_frozen hv _)]
    rfl
  have hdl : ((cellsL l).drop (i * 6)).length = (n - i) * 6 := by rw [List.length_drop, hcl]; omega
  obtain ⟨cur1, hh1, hs1, hc1⟩ := blk_cells (t := 34) ((cellsL l).drop (i * 6)) ((i + 1) * 6) w.drew cur (blk_drew hh)
  obtain ⟨W1, hW1⟩ : ∃ W1, W1 = w.drew.setCells g ((i + 1) * 6) ((cellsL l).drop (i * 6)) := ⟨_, rfl⟩
  rw [← hW1] at hh1
  have hcp1 : ∀ ty dc sc, (Builtin.copy_ #[22, 22] ty #[.slice (some ⟨g, (i + 1) * 6, none⟩) (n - i) dc, .slice (some ⟨g, i * 6, none⟩) (n + 1 - i) sc]).run Try.prog w.drew = .ok (goInt (Nat.min (n + 1 - i) (n - i))) W1 := fun ty dc sc => by
    rw [hW1]
    exact run_copy6 w.drew ty g ((i + 1) * 6) (n - i) dc ⟨g, i * 6, none⟩ (n + 1 - i) sc _ (by rw [hdl, show Nat.min (n + 1 - i) (n - i) = n - i by simp only [Nat.min_def]; split <;> omega])
      (fun j v hj => by
        have hjl : j < (n - i) * 6 := by rw [← hdl]; exact (List.getElem?_eq_some_iff.1 hj).1
        rw [Addr.add_lit, hcell, hcurl _ (by omega), ← hj, List.getElem?_drop])
      (fun j hj => by rw [hcell, Array.getElem?_eq_getElem (by omega)]; rfl) (fun j _ => blk_frozen (blk_drew hh) _) (fun v hv => cellsL_one _ v (List.mem_of_mem_drop hv))
  have hcp2 : ∀ ty dc, (Builtin.copy_ #[22, 22] ty #[.slice (some ⟨g, i * 6, none⟩) (n + 1 - i) dc, .slice (some ⟨vb, 0, none⟩) 1 1]).run Try.prog W1 = .ok (goInt (Nat.min 1 (n + 1 - i))) (W1.setCells g (i * 6) (cells1 x)) := fun ty dc =>
    run_copy6 W1 ty g (i * 6) (n + 1 - i) dc ⟨vb, 0, none⟩ 1 1 (cells1 x) (by rw [show Nat.min 1 (n + 1 - i) = 1 by simp only [Nat.min_def]; split <;> omega]; rfl)
      (fun j v hj => by
        rw [Addr.add_lit, Nat.zero_add, hW1, World.cell?_setCells_out g _ _ _ _ (fun h _ => absurd h hne)]
        show w.cell? _ = _
        rw [blk_cell hv, List.getElem?_toArray]
        exact hj)
      (fun j hj => by have hj6 : j < 6 := hj; rw [blk_cell hh1, Array.getElem?_eq_getElem (by omega)]; rfl) (fun j _ => blk_frozen hh1 _) (fun v hv => by unfold cells1 at hv; simp only [List.mem_cons, List.not_mem_nil, or_false] at hv; rcases hv with rfl | rfl | rfl | rfl | rfl | rfl <;> rfl)
  have HFIN : Aside0 (Kd.R k34 34 (W1.setCells g (i * 6) (cells1 x)) b0 ok (.slice (some ⟨g, 0, none⟩) (n + 1) cap) (l.take i ++ (x :: l.drop i)) ∧ Below b0 w (W1.setCells g (i * 6) (cells1 x))) := by
    refine ⟨?_, below_cells hb _ _ _ (by rw [hW1]; exact below_cells hb _ _ _ (below_drew1 (Below.refl _ _)))⟩
    obtain ⟨cur2, hh2, hs2, hc2⟩ := blk_cells (t := 34) (cells1 x) (i * 6) W1 cur1 hh1
    have hlen : (l.take i ++ (x :: l.drop i)).length = n + 1 := by rw [List.length_append, List.length_take, List.length_cons, List.length_drop, ← hnn]; omega
    have hr := R_mk (cap := cap) (ok := ok) (base := b0) (l := l.take i ++ (x :: l.drop i)) hh2 hb hk (by rw [hlen]; omega) hcm (by rw [hs2, hs1, hcs]) ?_
    · rw [hlen] at hr; exact hr
    · rw [hlen, cellsL_append, cellsL, ← cellsL_take, ← cellsL_drop]
      exact ins_cells hi hroom hcs hs1 (cells1_len x) hcl (fun j hj => hc1 j hj) (fun j hj => hc2 j (by rw [hs1]; exact hj)) (fun j hj => hcurl j (by omega))
  have hz2 : ((i : Int) == (n : Int)) = false := beq_eq_false_iff_ne.2 (by omega)
  have hz3 : ¬ ((n : Int) + 1 > (cap : Int)) := by omega
  have hb2 : ¬ (cap = i + 1) := by omega
  have hb3 : (i : Int) ≤ (n : Int) + 1 := by omega
  have hb4 : ¬ (cap = i) := by omega
  have hb5 : (n : Int) + 1 ≤ (cap : Int) := by omega
  have hw1 : IntKind.i64.wrap ((i : Int) + 1) = (i : Int) + 1 := by rw [IntKind.wrap_i64]; omega
  have hw2 : IntKind.i64.wrap ((n : Int) + 1) = (n : Int) + 1 := by rw [IntKind.wrap_i64]; omega
  have hb6 : (0 : Int) ≤ (i : Int) + 1 := by omega
  have hb7 : (i : Int) + 1 ≤ (n : Int) + 1 := by omega
  clear hW1 hR hcell hcurl ht hc1 hdl hcl
  subst hnn
  go_enter Try.func20, Try.ntmps20
  go_wp2_with (simp only [hov])
  go_region_law (refine step_copy_eq rfl _ _ 22 22 rfl _ _ (by simp [Act.eval, Act.put]) (by simp [Act.eval, Act.put]) (hcp1 _ _ _) ?_)
  go_wp2_with (at_builtin; refine wpList_copy_eq _ rfl _ _ 22 22 rfl _ _ rfl rfl (hcp2 _ _) ?_)
  go_ret
  exact ⟨_, rfl, HFIN.out.1, HFIN.out.2⟩
end Go.Proofs.Ytijdplpmcnhlbaa.Q
