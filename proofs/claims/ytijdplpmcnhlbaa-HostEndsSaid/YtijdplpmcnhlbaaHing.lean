/- slices.Insert over sockets: in between, without room: a new row. -/
import Derived.Test.YtijdplpmcnhlbaaHins
import Derived.Laws.NewBlocks
namespace Go.Proofs.Ytijdplpmcnhlbaa.Q
open Go.RowKit Go.Proofs.YtijdplpmcnhlbaaW.PrintWords Go.Proofs.YtijdplpmcnhlbaaW.PrintLast Go.Proofs.YtijdplpmcnhlbaaW.PrintMore Go.Proofs.Ytijdplpmcnhlbaa.L
attribute [local go_sem] Instr.field part asAgg lt_step max2_int min2_int max_two min_two max_three min_three max_four min_four lt_0_1 lt_0_2 lt_1_2 lt_0_3 lt_1_3 lt_2_3 lt_0_4 lt_1_4 lt_2_4 lt_3_4 lt_0_5 lt_1_5 lt_2_5 lt_3_5 lt_4_5 lt_0_6 lt_1_6 lt_2_6 lt_3_6 lt_4_6 lt_5_6 lt_0_7 lt_1_7 lt_2_7 lt_3_7 lt_4_7 lt_5_7 lt_6_7 lt_0_8 lt_1_8 lt_2_8 lt_3_8 lt_4_8 lt_5_8 lt_6_8 lt_7_8
set_option linter.unusedVariables false
set_option linter.unusedSimpArgs false
theorem ing_cells {cur cur1 cur2 : Array Value} {L vs : List Value} {i n G : Nat} (hi : i < n) (hnc : n + 1 ≤ G) (hcs : cur.size = G * 6) (hs1 : cur1.size = cur.size) (hvs : vs.length = 6) (hL : L.length = n * 6)
    (hc1 : ∀ j, j < cur.size → cur1[j]? = if i * 6 ≤ j ∧ j < i * 6 + vs.length then vs[j - i * 6]? else cur[j]?)
    (hc2 : ∀ j, j < cur.size → cur2[j]? = if (i + 1) * 6 ≤ j ∧ j < (i + 1) * 6 + (L.drop (i * 6)).length then (L.drop (i * 6))[j - (i + 1) * 6]? else cur1[j]?)
    (hcur : ∀ j, j < i * 6 → cur[j]? = L[j]?) : cur2.toList.take ((n + 1) * 6) = L.take (i * 6) ++ (vs ++ L.drop (i * 6)) := by
  apply List.ext_getElem?
  intro j
  have hnj : (n + 1) * 6 ≤ G * 6 := Nat.mul_le_mul_right _ hnc
  have htl : (L.take (i * 6)).length = i * 6 := by rw [List.length_take, hL]; omega
  have hdl : (L.drop (i * 6)).length = n * 6 - i * 6 := by rw [List.length_drop, hL]
  by_cases hj : j < (n + 1) * 6
  · rw [List.getElem?_take_of_lt hj, Array.getElem?_toList, hc2 j (by omega)]
    by_cases h1 : (i + 1) * 6 ≤ j
    · have e1 : (if (i + 1) * 6 ≤ j ∧ j < (i + 1) * 6 + (L.drop (i * 6)).length then (L.drop (i * 6))[j - (i + 1) * 6]? else cur1[j]?) = (L.drop (i * 6))[j - (i + 1) * 6]? := if_pos (by omega)
      rw [e1, List.getElem?_append_right (by omega), htl, List.getElem?_append_right (by omega), hvs]
      congr 1
      omega
    · have e1 : (if (i + 1) * 6 ≤ j ∧ j < (i + 1) * 6 + (L.drop (i * 6)).length then (L.drop (i * 6))[j - (i + 1) * 6]? else cur1[j]?) = cur1[j]? := if_neg (by omega)
      rw [e1]
      by_cases h2 : i * 6 ≤ j
      · have e2 : cur1[j]? = vs[j - i * 6]? := by rw [hc1 j (by omega)]; exact if_pos (by omega)
        rw [e2, List.getElem?_append_right (by omega), htl, List.getElem?_append_left (by omega)]
      · have e2 : cur1[j]? = cur[j]? := by rw [hc1 j (by omega)]; exact if_neg (by omega)
        rw [e2, List.getElem?_append_left (by omega), List.getElem?_take_of_lt (by omega), hcur j (by omega)]
  · have h1 : (cur2.toList.take ((n + 1) * 6)).length ≤ j := by rw [List.length_take]; omega
    have h2 : (L.take (i * 6) ++ (vs ++ L.drop (i * 6))).length ≤ j := by rw [List.length_append, List.length_append, htl, hdl, hvs]; omega
    rw [List.getElem?_eq_none h1, List.getElem?_eq_none h2]
theorem zeroCells_len (z : Array Value) (k : Nat) : (Builtin.zeroCells z k).size = k * z.size := by simp [Builtin.zeroCells]
set_option maxHeartbeats 1600000 in
set_option maxRecDepth 100000 in
theorem ins_grow (b0 g cap i vb : Nat) (ok : Nat → Prop) (l : List S34) (x : S34) (w : World) (hR : Kd.R k34 34 w b0 ok (.slice (some ⟨g, 0, none⟩) l.length cap) l) (hi : i < l.length) (hroom : cap < l.length + 1) (hbig : l.length ≤ 100) (hb0 : b0 ≤ w.heap.size) (hv : w.heap[vb]? = some (.cells (cells1 x).toArray 34 (0, 0))) :
    Calls Try.prog 20 #[.slice (some ⟨g, 0, none⟩) l.length cap, .int .i64 (i : Int), .slice (some ⟨vb, 0, none⟩) 1 1] w fun e w' => ∃ v, e = .returned v ∧ Kd.R k34 34 w' b0 (fun _ => True) v (l.take i ++ (x :: l.drop i)) ∧ Below b0 w w' := by
  obtain ⟨cur, hh, hb, hk, _, hnc, hcm, hcs, ht⟩ := R_cells hR
  have hgw : g < w.heap.size := blk_lt hh
  have hvw : vb < w.heap.size := blk_lt hv
  obtain ⟨n, hnn⟩ : ∃ n, n = l.length := ⟨_, rfl⟩
  rw [← hnn] at hi hnc ht hroom hbig ⊢
  obtain rfl : cap = n := by omega
  have hcl : (cellsL l).length = cap * 6 := by rw [cellsL_len, hnn]
  have hcurl : ∀ j, j < cap * 6 → cur[j]? = (cellsL l)[j]? := fun j hj => by rw [← ht, List.getElem?_take, if_pos hj, Array.getElem?_toList]
  obtain ⟨i0, hi0, hzz⟩ := Option.map_eq_some_iff.1 info34
  simp only [Prod.mk.injEq] at hzz
  obtain ⟨hz0, hzs, hzb⟩ := hzz
  have hold : (Builtin.firstCells i0.size i (.slice (some ⟨g, 0, none⟩) i cap)).run Try.prog w.drew = .ok ((cellsL l).take (i * 6)).toArray w.drew := by
    rw [hzs]
    exact run_firstCells_some w.drew 6 i ⟨g, 0, none⟩ i cap ((cellsL l).take (i * 6)) (by rw [List.length_take, hcl]; omega) (fun j v hj => by
      rw [Addr.add_lit, Nat.zero_add]
      show w.cell? _ = _
      rw [List.getElem?_take] at hj
      split at hj
      · rw [blk_cell hh, hcurl j (by omega)]; exact hj
      · cases hj)
  obtain ⟨G, hG⟩ : ∃ G, G = grownCap w (cap + 1) cap 34 := ⟨_, rfl⟩
  have hGn : cap + 1 ≤ G := by rw [hG]; exact grownCap_ge w _ _ _
  have hGm : G ≤ maxLen := by rw [hG]; exact grownCap_le_maxLen w (cap + 1) cap 34 (by unfold maxLen; omega)
  have hG63 : G ≤ 9223372036854775807 := hGm
  obtain ⟨ROW, hROW⟩ : ∃ ROW : Array Value, ROW = ((cellsL l).take (i * 6)).toArray ++ Builtin.zeroCells (Value.agg #[(.int .i64 0), (.int .i64 0), (.int .u32 0), (.int .i64 0), (.bool false), (.bool false)]).cells (cap + 1 - i) ++ Builtin.zeroCells (Value.agg #[(.int .i64 0), (.int .i64 0), (.int .u32 0), (.int .i64 0), (.bool false), (.bool false)]).cells (G - (cap + 1)) := ⟨_, rfl⟩
  have hkk : (cap : Int) + 1 - (i : Int) = ((cap + 1 - i : Nat) : Int) := by omega
  have hik : i + (cap + 1 - i) = cap + 1 := by omega
  have hrz : ∀ ty, (Builtin.append_ #[22, 3] ty #[.slice (some ⟨g, 0, none⟩) i cap, .int .i64 ((cap : Int) + 1 - (i : Int))]).run Try.prog w = .ok (.slice (some ⟨w.heap.size, 0, none⟩) (cap + 1) G) (w.drew.alloc (.cells ROW 34)) := fun ty => by
    have h := Lib.run_append_grow_zeros w 22 3 ty 34 i0 _ .i64 .i64 Try.underlying22 Try.underlying3 hi0 hz0 (some ⟨g, 0, none⟩) i cap ((cellsL l).take (i * 6)) hold (cap + 1 - i) (by omega) (by rw [hzs]; omega) (by omega) (by omega) (by rw [hzb]; omega) (by rw [hzb, hik]; exact growslice_fits (by omega) (by omega))
    rw [hik, ← hG, ← hROW] at h
    rw [hkk]
    exact h
  have hzc : (Value.agg #[(.int .i64 0), (.int .i64 0), (.int .u32 0), (.int .i64 0), (.bool false), (.bool false)]).cells.size = 6 := by kernel_rfl
  have hRs : ROW.size = G * 6 := by
    rw [hROW, Array.size_append, Array.size_append, zeroCells_len, zeroCells_len, hzc, List.size_toArray, List.length_take, hcl]
    omega
  have hRc : ∀ j, j < i * 6 → ROW[j]? = (cellsL l)[j]? := fun j hj => by
    have hlt : j < ((cellsL l).take (i * 6)).toArray.size := by rw [List.size_toArray, List.length_take, hcl]; omega
    rw [hROW, Array.append_assoc, Array.getElem?_append_left hlt, List.getElem?_toArray, List.getElem?_take_of_lt hj]
  obtain ⟨W1, hW1⟩ : ∃ W1, W1 = w.drew.alloc (.cells ROW 34) := ⟨_, rfl⟩
  have h1n : W1.heap[w.heap.size]? = some (.cells ROW 34 (0, 0)) := by rw [hW1]; exact nb_1 w.drew _
  have h1g : W1.heap[g]? = some (.cells cur 34 (0, 0)) := by rw [hW1]; exact ext_alloc (blk_drew hh) _
  have h1v : W1.heap[vb]? = some (.cells (cells1 x).toArray 34 (0, 0)) := by rw [hW1]; exact ext_alloc (blk_drew hv) _
  rw [← hW1] at hrz
  have hone : ∀ v ∈ cells1 x, v.oneCell' = true := fun v hv => by unfold cells1 at hv; simp only [List.mem_cons, List.not_mem_nil, or_false] at hv; rcases hv with rfl | rfl | rfl | rfl | rfl | rfl <;> rfl
  obtain ⟨W2, hW2⟩ : ∃ W2, W2 = W1.setCells w.heap.size (i * 6) (cells1 x) := ⟨_, rfl⟩
  obtain ⟨cur1, hh1, hs1, hc1⟩ := blk_cells (t := 34) (cells1 x) (i * 6) W1 ROW h1n
  rw [← hW2] at hh1
  have hcpA : ∀ ty dc, (Builtin.copy_ #[22, 22] ty #[.slice (some ⟨w.heap.size, i * 6, none⟩) (cap + 1 - i) dc, .slice (some ⟨vb, 0, none⟩) 1 1]).run Try.prog W1 = .ok (goInt (Nat.min 1 (cap + 1 - i))) W2 := fun ty dc => by
    rw [hW2]
    exact run_copy6 W1 ty w.heap.size (i * 6) (cap + 1 - i) dc ⟨vb, 0, none⟩ 1 1 (cells1 x) (by rw [show Nat.min 1 (cap + 1 - i) = 1 by simp only [Nat.min_def]; split <;> omega]; rfl)
      (fun j v hj => by
        rw [Addr.add_lit, Nat.zero_add, blk_cell h1v, List.getElem?_toArray]
        exact hj)
      (fun j hj => by have hj6 : j < 6 := hj; rw [blk_cell h1n, Array.getElem?_eq_getElem (by omega)]; rfl) (fun j _ => blk_frozen h1n _) hone
  have hdl : ((cellsL l).drop (i * 6)).length = (cap - i) * 6 := by rw [List.length_drop, hcl]; omega
  have hbN : g ≠ w.heap.size := by omega
  have hcpB : ∀ ty dc sc, (Builtin.copy_ #[22, 22] ty #[.slice (some ⟨w.heap.size, (i + 1) * 6, none⟩) (cap - i) dc, .slice (some ⟨g, i * 6, none⟩) (cap - i) sc]).run Try.prog W2.drew = .ok (goInt (Nat.min (cap - i) (cap - i))) (W2.drew.setCells w.heap.size ((i + 1) * 6) ((cellsL l).drop (i * 6))) := fun ty dc sc =>
    run_copy6 W2.drew ty w.heap.size ((i + 1) * 6) (cap - i) dc ⟨g, i * 6, none⟩ (cap - i) sc _ (by rw [hdl, show Nat.min (cap - i) (cap - i) = cap - i by simp only [Nat.min_def]; split <;> omega])
      (fun j v hj => by
        have hjl : j < (cap - i) * 6 := by rw [← hdl]; exact (List.getElem?_eq_some_iff.1 hj).1
        rw [Addr.add_lit]
        show W2.cell? _ = _
        rw [hW2, World.cell?_setCells_out _ _ _ _ _ (fun h _ => absurd h hbN), blk_cell h1g, hcurl _ (by omega), ← hj, List.getElem?_drop])
      (fun j hj => by rw [hdl] at hj; show (W2.cell? _).isSome = true; rw [blk_cell hh1, Array.getElem?_eq_getElem (by omega)]; rfl) (fun j _ => blk_frozen (blk_drew hh1) _) (fun v hv => cellsL_one _ v (List.mem_of_mem_drop hv))
  have HFIN : Aside0 (Kd.R k34 34 (W2.drew.setCells w.heap.size ((i + 1) * 6) ((cellsL l).drop (i * 6))) b0 (fun _ => True) (.slice (some ⟨w.heap.size, 0, none⟩) (cap + 1) G) (l.take i ++ (x :: l.drop i)) ∧ Below b0 w (W2.drew.setCells w.heap.size ((i + 1) * 6) ((cellsL l).drop (i * 6)))) := by
    refine ⟨?_, below_cells hb0 _ _ _ (below_drew1 (by rw [hW2, hW1]; exact below_cells hb0 _ _ _ (Below.alloc (below_drew1 (Below.refl _ _)) (by exact hb0) _)))⟩
    obtain ⟨cur2, hh2, hs2, hc2⟩ := blk_cells (t := 34) ((cellsL l).drop (i * 6)) ((i + 1) * 6) W2.drew cur1 (blk_drew hh1)
    have hlen : (l.take i ++ (x :: l.drop i)).length = cap + 1 := by rw [List.length_append, List.length_take, List.length_cons, List.length_drop, ← hnn]; omega
    have hr := R_mk (cap := G) (ok := fun _ => True) (base := b0) (l := l.take i ++ (x :: l.drop i)) hh2 hb0 trivial (by rw [hlen]; omega) hGm (by rw [hs2, hs1, hRs]) ?_
    · rw [hlen] at hr; exact hr
    · rw [hlen, cellsL_append, cellsL, ← cellsL_take, ← cellsL_drop]
      exact ing_cells hi hGn hRs hs1 (cells1_len x) hcl (fun j hj => hc1 j hj) (fun j hj => hc2 j (by rw [hs1]; exact hj)) hRc
  have hz2 : ((i : Int) == (cap : Int)) = false := beq_eq_false_iff_ne.2 (by omega)
  have hb2 : ¬ (cap = i) := by omega
  have hb3 : (i : Int) ≤ (cap : Int) + 1 := by omega
  have hb4 : ¬ (G = i) := by omega
  have hb5 : ¬ (G = i + 1) := by omega
  have hw1 : IntKind.i64.wrap ((i : Int) + 1) = (i : Int) + 1 := by rw [IntKind.wrap_i64]; omega
  have hw2 : IntKind.i64.wrap ((cap : Int) + 1) = (cap : Int) + 1 := by rw [IntKind.wrap_i64]; omega
  have hw3 : IntKind.i64.wrap ((cap : Int) + 1 - (i : Int)) = (cap : Int) + 1 - (i : Int) := by rw [IntKind.wrap_i64]; omega
  have hb6 : (0 : Int) ≤ (i : Int) + 1 := by omega
  have hb7 : (i : Int) + 1 ≤ (cap : Int) + 1 := by omega
  have hi' : (i : Int) ≤ (cap : Int) := by omega
  clear hW1 hW2 hR hcurl ht hc1 hdl hcl hold hROW hRc hRs hG hkk hik hi0 hz0 hzs hzb hzc hcs hs1
  subst hnn
  go_enter Try.func20, Try.ntmps20
  go_wp2_with (first
    | ((with_reducible refine gate_builtin (b := .append) (xs := #[.tmp 34, .tmp 39]) rfl ?_); at_builtin; refine Lib.wpList_append_run _ rfl _ _ _ _ rfl _ _ rfl rfl _ _ (hrz _) ?_)
    | ((with_reducible refine gate_builtin (b := .copy) (xs := #[.tmp 43, .tmp 44]) rfl ?_); at_builtin; refine wpList_copy_eq _ rfl _ _ 22 22 rfl _ _ rfl rfl (hcpA _ _) ?_))
  go_region_law (refine step_copy_eq rfl _ _ 22 22 rfl _ _ (by simp [Act.eval, Act.put]) (by simp [Act.eval, Act.put]) (hcpB _ _ _) ?_)
  go_wp2
  go_ret
  exact ⟨_, rfl, HFIN.out.1, HFIN.out.2⟩
end Go.Proofs.Ytijdplpmcnhlbaa.Q
