import Derived.Test.YtijdplpmcnhlbaaHHhw
import Derived.Test.YtijdplpmcnhlbaaHHins
import Derived.Laws.NewBlocks
import Derived.Test.YtijdplpmcnhlbaaHZ1
import Derived.Test.YtijdplpmcnhlbaaHHrc
import Derived.Test.YtijdplpmcnhlbaaHTsoc3
import Derived.Test.YtijdplpmcnhlbaaHZ2
section
/- host.Hear, as its callers have it. -/
namespace Go.Proofs.Ytijdplpmcnhlbaa.Q
open Go.RowKit Go.Proofs.YtijdplpmcnhlbaaW.PrintWords Go.Proofs.YtijdplpmcnhlbaaW.PrintLast Go.Proofs.YtijdplpmcnhlbaaW.PrintMore Go.Proofs.Ytijdplpmcnhlbaa.L
attribute [local go_sem] Instr.field part asAgg lt_step max2_int min2_int max_two min_two max_three min_three max_four min_four lt_0_1 lt_0_2 lt_1_2 lt_0_3 lt_1_3 lt_2_3 lt_0_4 lt_1_4 lt_2_4 lt_3_4 lt_0_5 lt_1_5 lt_2_5 lt_3_5 lt_4_5 lt_0_6 lt_1_6 lt_2_6 lt_3_6 lt_4_6 lt_5_6 lt_0_7 lt_1_7 lt_2_7 lt_3_7 lt_4_7 lt_5_7 lt_6_7 lt_0_8 lt_1_8 lt_2_8 lt_3_8 lt_4_8 lt_5_8 lt_6_8 lt_7_8
set_option linter.unusedVariables false
set_option linter.unusedSimpArgs false
def hearZ (l : List S34) (i kind dl n : Int) : List S34 × Bool :=
  if kind = 1 then (if ((rd_T34 l i).f1 == 2) = true then (l, false) else (setS l i 1, true))
  else if kind = 3 then (l, ((rd_T34 l i).f1 == 2) && (!(rd_T34 l i).f4 && decide (dl > 0)))
  else if kind = 4 then (if ((rd_T34 l i).f1 == 2) = true ∧ (rd_T34 l i).f4 = false then (setS l i 4, true) else (l, false))
  else if kind = 5 then (l, ((rd_T34 l i).f1 == 2) && (!(rd_T34 l i).f5 && decide (n ≥ 1)))
  else (l, false)
def host_Hear.f (l0 : List S34) (a1_0 : Int) (a1_1 : Int) (l1_2 : List Int) (a1_3 : Int) : Option (List S34 × Bool) :=
  if l0.length * 40 < 140737488355328 then (host_place.f l0 a1_1).bind (fun i => if i < 0 then some (l0, false) else if a1_0 = 2 then host_Close.f l0 a1_1 else some (hearZ l0 i a1_0 l1_2.length a1_3)) else none
theorem host_Hear.calls (P0_ : Nat → Prop) (A0 : Option Addr) (c0 : Nat) (l0 : List (S34)) (a1_0 : Int) (a1_1 : Int) (A1_2 : Option Addr) (c1_2 : Nat) (l1_2 : List Int) (a1_3 : Int) (r1 : List (S34)) (r2 : Bool) (w : World) (hs0 : Kd.V k34 34 w w.heap.size (fun k_ => P0_ k_) (.slice A0 l0.length c0) l0) (hr1_2 : Kd.C (Kd.int .u8) w A1_2 l1_2.length l1_2) (hc1_2 : l1_2.length ≤ c1_2) (h : host_Hear.f l0 a1_0 a1_1 l1_2 a1_3 = some (r1, r2)) :
    Calls Try.prog 9 #[.slice A0 l0.length c0, .agg #[.int .i64 a1_0, .int .i64 a1_1, .slice A1_2 l1_2.length c1_2, .int .i64 a1_3]] w fun e w' => ∃ v0_ : Value, e = .returned (.tuple #[v0_, .bool r2]) ∧ Kd.V k34 34 w' w.heap.size (fun k_ => (P0_ k_ ∨ w.heap.size ≤ k_)) v0_ r1 ∧ Below w.heap.size w w' := by
  unfold host_Hear.f at h
  split at h
  case isFalse => cases h
  case isTrue hl =>
  obtain ⟨i, hi, h⟩ := Option.bind_eq_some_iff.1 h
  have hst : ∀ {b : Bool} {e : Ending} {w' : World}, (e = .returned (.tuple #[.slice A0 l0.length c0, .bool b]) ∧ Below w.heap.size w w') → ∃ v0_ : Value, e = .returned (.tuple #[v0_, .bool b]) ∧ Kd.V k34 34 w' w.heap.size (fun k_ => (P0_ k_ ∨ w.heap.size ≤ k_)) v0_ l0 ∧ Below w.heap.size w w' := fun h => ⟨_, h.1, V_stay hs0 h.2, h.2⟩
  rcases place_range hi with h1 | ⟨h0, h1⟩
  · rw [if_pos h1] at h
    obtain ⟨rfl, rfl⟩ : l0 = r1 ∧ false = r2 := by simpa using h
    exact (hear_no P0_ A0 c0 l0 a1_1 i l1_2.length a1_3 w A1_2 c1_2 a1_0 hl hs0 hi h1).mono fun _ _ h => hst h
  rw [if_neg (by omega)] at h
  by_cases k2 : a1_0 = 2
  · subst k2
    rw [if_pos rfl] at h
    exact hear_reset P0_ A0 c0 l0 a1_1 i l1_2.length a1_3 w A1_2 c1_2 hl hs0 hi h0 h1 r1 r2 h
  rw [if_neg k2] at h
  have h := Option.some.inj h
  unfold hearZ at h
  by_cases k1 : a1_0 = 1
  · subst k1
    rw [if_pos rfl] at h
    by_cases ho : ((rd_T34 l0 i).f1 == 2) = true
    · rw [if_pos ho] at h
      obtain ⟨rfl, rfl⟩ : l0 = r1 ∧ false = r2 := by simpa using h
      exact (hear_openx P0_ A0 c0 l0 a1_1 i l1_2.length a1_3 w A1_2 c1_2 true hl hs0 hi h0 h1 rfl ho).mono fun _ _ h => hst h
    · rw [if_neg ho] at h
      obtain ⟨rfl, rfl⟩ : setS l0 i 1 = r1 ∧ true = r2 := by simpa using h
      exact (hear_open P0_ A0 c0 l0 a1_1 i l1_2.length a1_3 w A1_2 c1_2 hl hs0 hi h0 h1 (by simpa using ho)).mono fun _ _ ⟨v, he, hR, hb⟩ => ⟨v, he, V_new hR, hb⟩
  rw [if_neg k1] at h
  by_cases k3 : a1_0 = 3
  · subst k3
    rw [if_pos rfl] at h
    obtain ⟨rfl, rfl⟩ := Prod.mk.inj h
    exact (hear_data P0_ A0 c0 l0 a1_1 i l1_2.length a1_3 w A1_2 c1_2 _ _ _ hl hs0 hi h0 h1 rfl rfl rfl).mono fun _ _ h => hst h
  rw [if_neg k3] at h
  by_cases k4 : a1_0 = 4
  · subst k4
    rw [if_pos rfl] at h
    by_cases ho : ((rd_T34 l0 i).f1 == 2) = true ∧ (rd_T34 l0 i).f4 = false
    · rw [if_pos ho] at h
      obtain ⟨rfl, rfl⟩ : setS l0 i 4 = r1 ∧ true = r2 := by simpa using h
      exact (hear_eof P0_ A0 c0 l0 a1_1 i l1_2.length a1_3 w A1_2 c1_2 hl hs0 hi h0 h1 ho.1 ho.2).mono fun _ _ ⟨v, he, hR, hb⟩ => ⟨v, he, V_new hR, hb⟩
    · rw [if_neg ho] at h
      obtain ⟨rfl, rfl⟩ : l0 = r1 ∧ false = r2 := by simpa using h
      exact (hear_eofx P0_ A0 c0 l0 a1_1 i l1_2.length a1_3 w A1_2 c1_2 _ _ hl hs0 hi h0 h1 (fun h => by cases he : (rd_T34 l0 i).f4; exact absurd ⟨h, he⟩ ho; rfl) rfl rfl).mono fun _ _ h => hst h
  rw [if_neg k4] at h
  by_cases k5 : a1_0 = 5
  · subst k5
    rw [if_pos rfl] at h
    obtain ⟨rfl, rfl⟩ := Prod.mk.inj h
    exact (hear_took P0_ A0 c0 l0 a1_1 i l1_2.length a1_3 w A1_2 c1_2 _ _ _ hl hs0 hi h0 h1 rfl rfl rfl).mono fun _ _ h => hst h
  rw [if_neg k5] at h
  obtain ⟨rfl, rfl⟩ := Prod.mk.inj h
  exact (hear_other P0_ A0 c0 l0 a1_1 i l1_2.length a1_3 w A1_2 c1_2 a1_0 _ hl hs0 hi h0 h1 (beq_eq_false_iff_ne.2 k1) (beq_eq_false_iff_ne.2 k2) (beq_eq_false_iff_ne.2 k3) (beq_eq_false_iff_ne.2 k4) (beq_eq_false_iff_ne.2 k5) rfl).mono fun _ _ h => hst h
end Go.Proofs.Ytijdplpmcnhlbaa.Q
end
section
/- slices.Insert over sockets: in between, without room: a new row. -/
namespace Go.Proofs.Ytijdplpmcnhlbaa.Q
open Go.RowKit Go.Proofs.YtijdplpmcnhlbaaW.PrintWords Go.Proofs.YtijdplpmcnhlbaaW.PrintLast Go.Proofs.YtijdplpmcnhlbaaW.PrintMore Go.Proofs.Ytijdplpmcnhlbaa.L
attribute [local go_sem] Instr.field part asAgg lt_step max2_int min2_int max_two min_two max_three min_three max_four min_four lt_0_1 lt_0_2 lt_1_2 lt_0_3 lt_1_3 lt_2_3 lt_0_4 lt_1_4 lt_2_4 lt_3_4 lt_0_5 lt_1_5 lt_2_5 lt_3_5 lt_4_5 lt_0_6 lt_1_6 lt_2_6 lt_3_6 lt_4_6 lt_5_6 lt_0_7 lt_1_7 lt_2_7 lt_3_7 lt_4_7 lt_5_7 lt_6_7 lt_0_8 lt_1_8 lt_2_8 lt_3_8 lt_4_8 lt_5_8 lt_6_8 lt_7_8
set_option linter.unusedVariables false
set_option linter.unusedSimpArgs false
theorem ing_cells {cur cur1 cur2 : Array Value} {L vs : List Value} {i n G : Nat} (hi : i < n) (hnc : n + 1 ≤ G) (hcs : cur.size = G * 6) (hs1 : cur1.size = cur.size) (hvs : vs.length = 6) (hL : L.length = n * 6)
    (hc1 : ∀ j, j < cur.size → cur1[j]? = if i * 6 ≤ j ∧ j < i * 6 + vs.length then vs[j - i * 6]? else cur[j]?)
    (hc2 : ∀ j, j < cur.size → cur2[j]? = if (i + 1) * 6 ≤ j ∧ j < (i + 1) * 6 + (L.drop (i * 6)).length then (L.drop (i * 6))[j - (i + 1) * 6]? else cur1[j]?)
    (hcur : ∀ j, j < i * 6 → cur[j]? = L[j]?) : cur2.toList.take ((n + 1) * 6) = L.take (i * 6) ++ (vs ++ L.drop (i * 6)) := by
  apply List.ext_getElem?
  intro j
  have hnj : (n + 1) * 6 ≤ G * 6 := Nat.mul_le_mul_right _ hnc
  have htl : (L.take (i * 6)).length = i * 6 := by rw [List.length_take, hL]; omega
  have hdl : (L.drop (i * 6)).length = n * 6 - i * 6 := by rw [List.length_drop, hL]
  by_cases hj : j < (n + 1) * 6
  · rw [List.getElem?_take_of_lt hj, Array.getElem?_toList, hc2 j (by omega)]
    by_cases h1 : (i + 1) * 6 ≤ j
    · have e1 : (if (i + 1) * 6 ≤ j ∧ j < (i + 1) * 6 + (L.drop (i * 6)).length then (L.drop (i * 6))[j - (i + 1) * 6]? else cur1[j]?) = (L.drop (i * 6))[j - (i + 1) * 6]? := if_pos (by omega)
      rw [e1, List.getElem?_append_right (by omega), htl, List.getElem?_append_right (by omega), hvs]
      congr 1
      omega
    · have e1 : (if (i + 1) * 6 ≤ j ∧ j < (i + 1) * 6 + (L.drop (i * 6)).length then (L.drop (i * 6))[j - (i + 1) * 6]? else cur1[j]?) = cur1[j]? := if_neg (by omega)
      rw [e1]
      by_cases h2 : i * 6 ≤ j
      · have e2 : cur1[j]? = vs[j - i * 6]? := by rw [hc1 j (by omega)]; exact if_pos (by omega)
        rw [e2, List.getElem?_append_right (by omega), htl, List.getElem?_append_left (by omega)]
      · have e2 : cur1[j]? = cur[j]? := by rw [hc1 j (by omega)]; exact if_neg (by omega)
        rw [e2, List.getElem?_append_left (by omega), List.getElem?_take_of_lt (by omega), hcur j (by omega)]
  · have h1 : (cur2.toList.take ((n + 1) * 6)).length ≤ j := by rw [List.length_take]; omega
    have h2 : (L.take (i * 6) ++ (vs ++ L.drop (i * 6))).length ≤ j := by rw [List.length_append, List.length_append, htl, hdl, hvs]; omega
    rw [List.getElem?_eq_none h1, List.getElem?_eq_none h2]
theorem zeroCells_len (z : Array Value) (k : Nat) : (Builtin.zeroCells z k).size = k * z.size := by simp [Builtin.zeroCells]
set_option maxHeartbeats 1600000 in
set_option maxRecDepth 100000 in
theorem ins_grow (b0 g cap i vb : Nat) (ok : Nat → Prop) (l : List S34) (x : S34) (w : World) (hR : Kd.R k34 34 w b0 ok (.slice (some ⟨g, 0, none⟩) l.length cap) l) (hi : i < l.length) (hroom : cap < l.length + 1) (hbig : l.length ≤ 100) (hb0 : b0 ≤ w.heap.size) (hv : w.heap[vb]? = some (.cells (cells1 x).toArray 34 (0, 0))) :
    Calls Try.prog 20 #[.slice (some ⟨g, 0, none⟩) l.length cap, .int .i64 (i : Int), .slice (some ⟨vb, 0, none⟩) 1 1] w fun e w' => ∃ v, e = .returned v ∧ Kd.R k34 34 w' b0 (fun _ => True) v (l.take i ++ (x :: l.drop i)) ∧ Below b0 w w' := by
  obtain ⟨cur, hh, hb, hk, _, hnc, hcm, hcs, ht⟩ := R_cells hR
  have hgw : g < w.heap.size := blk_lt hh
  have hvw : vb < w.heap.size := blk_lt hv
  obtain ⟨n, hnn⟩ : ∃ n, n = l.length := ⟨_, rfl⟩
  rw [← hnn] at hi hnc ht hroom hbig ⊢
  obtain rfl : cap = n := by omega
  have hcl : (cellsL l).length = cap * 6 := by rw [cellsL_len, hnn]
  have hcurl : ∀ j, j < cap * 6 → cur[j]? = (cellsL l)[j]? := fun j hj => by rw [← ht, List.getElem?_take, if_pos hj, Array.getElem?_toList]
  obtain ⟨i0, hi0, hzz⟩ := Option.map_eq_some_iff.1 info34
  simp only [Prod.mk.injEq] at hzz
  obtain ⟨hz0, hzs, hzb⟩ := hzz
  have hold : (Builtin.firstCells i0.size i (.slice (some ⟨g, 0, none⟩) i cap)).run Try.prog w.drew = .ok ((cellsL l).take (i * 6)).toArray w.drew := by
    rw [hzs]
    exact run_firstCells_some w.drew 6 i ⟨g, 0, none⟩ i cap ((cellsL l).take (i * 6)) (by rw [List.length_take, hcl]; omega) (fun j v hj => by
      rw [Addr.add_lit, Nat.zero_add]
      show w.cell? _ = _
      rw [List.getElem?_take] at hj
      split at hj
      · rw [blk_cell hh, hcurl j (by omega)]; exact hj
      · cases hj)
  obtain ⟨G, hG⟩ : ∃ G, G = grownCap w (cap + 1) cap 34 := ⟨_, rfl⟩
  have hGn : cap + 1 ≤ G := by rw [hG]; exact grownCap_ge w _ _ _
  have hGm : G ≤ maxLen := by rw [hG]; exact grownCap_le_maxLen w (cap + 1) cap 34 (by unfold maxLen; omega)
  have hG63 : G ≤ 9223372036854775807 := hGm
  obtain ⟨ROW, hROW⟩ : ∃ ROW : Array Value, ROW = ((cellsL l).take (i * 6)).toArray ++ Builtin.zeroCells (Value.agg #[(.int .i64 0), (.int .i64 0), (.int .u32 0), (.int .i64 0), (.bool false), (.bool false)]).cells (cap + 1 - i) ++ Builtin.zeroCells (Value.agg #[(.int .i64 0), (.int .i64 0), (.int .u32 0), (.int .i64 0), (.bool false), (.bool false)]).cells (G - (cap + 1)) := ⟨_, rfl⟩
  have hkk : (cap : Int) + 1 - (i : Int) = ((cap + 1 - i : Nat) : Int) := by omega
  have hik : i + (cap + 1 - i) = cap + 1 := by omega
  have hrz : ∀ ty, (Builtin.append_ #[22, 3] ty #[.slice (some ⟨g, 0, none⟩) i cap, .int .i64 ((cap : Int) + 1 - (i : Int))]).run Try.prog w = .ok (.slice (some ⟨w.heap.size, 0, none⟩) (cap + 1) G) (w.drew.alloc (.cells ROW 34)) := fun ty => by
    have h := Lib.run_append_grow_zeros w 22 3 ty 34 i0 _ .i64 .i64 Try.underlying22 Try.underlying3 hi0 hz0 (some ⟨g, 0, none⟩) i cap ((cellsL l).take (i * 6)) hold (cap + 1 - i) (by omega) (by rw [hzs]; omega) (by omega) (by omega) (by rw [hzb]; omega) (by rw [hzb, hik]; exact growslice_fits (by omega) (by omega))
    rw [hik, ← hG, ← hROW] at h
    rw [hkk]
    exact h
  have hzc : (Value.agg #[(.int .i64 0), (.int .i64 0), (.int .u32 0), (.int .i64 0), (.bool false), (.bool false)]).cells.size = 6 := by kernel_rfl
  have hRs : ROW.size = G * 6 := by
    rw [hROW, Array.size_append, Array.size_append, zeroCells_len, zeroCells_len, hzc, List.size_toArray, List.length_take, hcl]
    omega
  have hRc : ∀ j, j < i * 6 → ROW[j]? = (cellsL l)[j]? := fun j hj => by
    have hlt : j < ((cellsL l).take (i * 6)).toArray.size := by rw [List.size_toArray, List.length_take, hcl]; omega
    rw [hROW, Array.append_assoc, Array.getElem?_append_left hlt, List.getElem?_toArray, List.getElem?_take_of_lt hj]
  obtain ⟨W1, hW1⟩ : ∃ W1, W1 = w.drew.alloc (.cells ROW 34) := ⟨_, rfl⟩
  have h1n : W1.heap[w.heap.size]? = some (.cells ROW 34 (0, 0)) := by rw [hW1]; exact nb_1 w.drew _
  have h1g : W1.heap[g]? = some (.cells cur 34 (0, 0)) := by rw [hW1]; exact ext_alloc (blk_drew hh) _
  have h1v : W1.heap[vb]? = some (.cells (cells1 x).toArray 34 (0, 0)) := by rw [hW1]; exact ext_alloc (blk_drew hv) _
  rw [← hW1] at hrz
  have hone : ∀ v ∈ cells1 x, v.oneCell' = true := fun v hv => by unfold cells1 at hv; simp only [List.mem_cons, List.not_mem_nil, or_false] at hv; rcases hv with rfl | rfl | rfl | rfl | rfl | rfl <;> rfl
  obtain ⟨W2, hW2⟩ : ∃ W2, W2 = W1.setCells w.heap.size (i * 6) (cells1 x) := ⟨_, rfl⟩
  obtain ⟨cur1, hh1, hs1, hc1⟩ := blk_cells (t := 34) (cells1 x) (i * 6) W1 ROW h1n
  rw [← hW2] at hh1
  have hcpA : ∀ ty dc, (Builtin.copy_ #[22, 22] ty #[.slice (some ⟨w.heap.size, i * 6, none⟩) (cap + 1 - i) dc, .slice (some ⟨vb, 0, none⟩) 1 1]).run Try.prog W1 = .ok (goInt (Nat.min 1 (cap + 1 - i))) W2 := fun ty dc => by
    rw [hW2]
    exact run_copy6 W1 ty w.heap.size (i * 6) (cap + 1 - i) dc ⟨vb, 0, none⟩ 1 1 (cells1 x) (by rw [show Nat.min 1 (cap + 1 - i) = 1 by simp only [Nat.min_def]; split <;> omega]; rfl)
      (fun j v hj => by
        rw [Addr.add_lit, Nat.zero_add, blk_cell h1v, List.getElem?_toArray]
        exact hj)
      (fun j hj => by have hj6 : j < 6 := hj; rw [blk_cell h1n, Array.getElem?_eq_getElem (by omega)]; rfl) (fun j _ => blk_frozen h1n _) hone
  have hdl : ((cellsL l).drop (i * 6)).length = (cap - i) * 6 := by rw [List.length_drop, hcl]; omega
  have hbN : g ≠ w.heap.size := by omega
  have hcpB : ∀ ty dc sc, (Builtin.copy_ #[22, 22] ty #[.slice (some ⟨w.heap.size, (i + 1) * 6, none⟩) (cap - i) dc, .slice (some ⟨g, i * 6, none⟩) (cap - i) sc]).run Try.prog W2.drew = .ok (goInt (Nat.min (cap - i) (cap - i))) (W2.drew.setCells w.heap.size ((i + 1) * 6) ((cellsL l).drop (i * 6))) := fun ty dc sc =>
    run_copy6 W2.drew ty w.heap.size ((i + 1) * 6) (cap - i) dc ⟨g, i * 6, none⟩ (cap - i) sc _ (by rw [hdl, show Nat.min (cap - i) (cap - i) = cap - i by simp only [Nat.min_def]; split <;> omega])
      (fun j v hj => by
        have hjl : j < (cap - i) * 6 := by rw [← hdl]; exact (List.getElem?_eq_some_iff.1 hj).1
        rw [Addr.add_lit]
        show W2.cell? _ = _
        rw [hW2, World.cell?_setCells_out _ _ _ _ _ (fun h _ => absurd h hbN), blk_cell h1g, hcurl _ (by omega), ← hj, List.getElem?_drop])
      (fun j hj => by rw [hdl] at hj; show (W2.cell? _).isSome = true; rw [blk_cell hh1, Array.getElem?_eq_getElem (by omega)]; rfl) (fun j _ => blk_frozen (blk_drew hh1) _) (fun v hv => cellsL_one _ v (List.mem_of_mem_drop hv))
  have HFIN : Aside0 (Kd.R k34 34 (W2.drew.setCells w.heap.size ((i + 1) * 6) ((cellsL l).drop (i * 6))) b0 (fun _ => True) (.slice (some ⟨w.heap.size, 0, none⟩) (cap + 1) G) (l.take i ++ (x :: l.drop i)) ∧ Below b0 w (W2.drew.setCells w.heap.size ((i + 1) * 6) ((cellsL l).drop (i * 6)))) := by
    refine ⟨?_, below_cells hb0 _ _ _ (below_drew1 (by rw [hW2, hW1]; exact below_cells hb0 _ _ _ (Below.alloc (below_drew1 (Below.refl _ _)) (by exact hb0) _)))⟩
    obtain ⟨cur2, hh2, hs2, hc2⟩ := blk_cells (t := 34) ((cellsL l).drop (i * 6)) ((i + 1) * 6) W2.drew cur1 (blk_drew hh1)
    have hlen : (l.take i ++ (x :: l.drop i)).length = cap + 1 := by rw [List.length_append, List.length_take, List.length_cons, List.length_drop, ← hnn]; omega
    have hr := R_mk (cap := G) (ok := fun _ => True) (base := b0) (l := l.take i ++ (x :: l.drop i)) hh2 hb0 trivial (by rw [hlen]; omega) hGm (by rw [hs2, hs1, hRs]) ?_
    · rw [hlen] at hr; exact hr
    · rw [hlen, cellsL_append, cellsL, ← cellsL_take, ← cellsL_drop]
      exact ing_cells hi hGn hRs hs1 (cells1_len x) hcl (fun j hj => hc1 j hj) (fun j hj => hc2 j (by rw [hs1]; exact hj)) hRc
  have hz2 : ((i : Int) == (cap : Int)) = false := beq_eq_false_iff_ne.2 (by omega)
  have hb2 : ¬ (cap = i) := by omega
  have hb3 : (i : Int) ≤ (cap : Int) + 1 := by omega
  have hb4 : ¬ (G = i) := by omega
  have hb5 : ¬ (G = i + 1) := by omega
  have hw1 : IntKind.i64.wrap ((i : Int) + 1) = (i : Int) + 1 := by rw [IntKind.wrap_i64]; omega
  have hw2 : IntKind.i64.wrap ((cap : Int) + 1) = (cap : Int) + 1 := by rw [IntKind.wrap_i64]; omega
  have hw3 : IntKind.i64.wrap ((cap : Int) + 1 - (i : Int)) = (cap : Int) + 1 - (i : Int) := by rw [IntKind.wrap_i64]; omega
  have hb6 : (0 : Int) ≤ (i : Int) + 1 := by omega
  have hb7 : (i : Int) + 1 ≤ (cap : Int) + 1 := by omega
  have hi' : (i : Int) ≤ (cap : Int) := by omega
  clear hW1 hW2 hR hcurl ht hc1 hdl hcl hold hROW hRc hRs hG hkk hik hi0 hz0 hzs hzb hzc hcs hs1
  subst hnn
  go_enter Try.func20, Try.ntmps20
  go_wp2_with (first
    | ((with_reducible refine gate_builtin (b := .append) (xs := #[.tmp 34, .tmp 39]) rfl ?_); at_builtin; refine Lib.wpList_append_run _ rfl _ _ _ _ rfl _ _ rfl rfl _ _ (hrz _) ?_)
    | ((with_reducible refine gate_builtin (b := .copy) (xs := #[.tmp 43, .tmp 44]) rfl ?_); at_builtin; refine wpList_copy_eq _ rfl _ _ 22 22 rfl _ _ rfl rfl (hcpA _ _) ?_))
  go_region_law (refine step_copy_eq rfl _ _ 22 22 rfl _ _ (by simp [Act.eval, Act.put]) (by simp [Act.eval, Act.put]) (hcpB _ _ _) ?_)
  go_wp2
  go_ret
  exact ⟨_, rfl, HFIN.out.1, HFIN.out.2⟩
end Go.Proofs.Ytijdplpmcnhlbaa.Q
end
section
/- ref27.place. -/
namespace Go.Proofs.Ytijdplpmcnhlbaa.Q
open Go.RowKit Go.Proofs.YtijdplpmcnhlbaaW.PrintWords Go.Proofs.YtijdplpmcnhlbaaW.PrintLast Go.Proofs.YtijdplpmcnhlbaaW.PrintMore Go.Proofs.Ytijdplpmcnhlbaa.L
attribute [local go_sem] Instr.field part asAgg lt_step max2_int min2_int max_two min_two max_three min_three max_four min_four lt_0_1 lt_0_2 lt_1_2 lt_0_3 lt_1_3 lt_2_3 lt_0_4 lt_1_4 lt_2_4 lt_3_4 lt_0_5 lt_1_5 lt_2_5 lt_3_5 lt_4_5 lt_0_6 lt_1_6 lt_2_6 lt_3_6 lt_4_6 lt_5_6 lt_0_7 lt_1_7 lt_2_7 lt_3_7 lt_4_7 lt_5_7 lt_6_7 lt_0_8 lt_1_8 lt_2_8 lt_3_8 lt_4_8 lt_5_8 lt_6_8 lt_7_8
set_option linter.unusedVariables false
set_option linter.unusedSimpArgs false
def drawbridgeref27_place.f (l0 : List S34) (a1 : Int) : Option Int := if l0.length ≤ 100 then some (if okL l0 = true then idxS a1 l0 0 else -1) else none
set_option maxHeartbeats 1600000 in
set_option maxRecDepth 100000 in
theorem rplace_no (A0 : Option Addr) (c0 : Nat) (l0 : List S34) (id : Int) (w : World) (hr0 : Kd.C k34 w A0 l0.length l0) (hc0 : l0.length ≤ c0) (hl : l0.length ≤ 100) (h : okL l0 = false) :
    Calls Try.prog 29 #[.slice A0 l0.length c0, .int .i64 id] w fun e w' => e = .returned (.int .i64 (-1)) ∧ Below w.heap.size w w' := by
  have HB := Aside0.mk (Below.refl w.heap.size w)
  have HR := Aside0.mk hr0
  have HC := Aside0.mk hc0
  have HK : Aside0 (drawbridgeref27_Check.f l0 = some false) := ⟨by unfold drawbridgeref27_Check.f; rw [if_pos hl, h]⟩
  clear hr0 hc0 h
  go_enter Try.func29, Try.ntmps29
  go_wp2
  go_loopw [5] (fun i wx => i = .int .i64 0 ∧ Aside0 (Below w.heap.size w wx)) (fun _ _ => 0)
  case atStart => exact ⟨rfl, HB⟩
  case round =>
    clear HB
    obtain ⟨rfl, HB⟩ := hrel
    have hz := HB.out.size
    rcases Nat.eq_zero_or_pos l0.length with hn | hn
    · obtain rfl : l0 = [] := List.length_eq_zero_iff.1 hn
      go_wp2
      go_ret
      exact ⟨rfl, (bG HB)⟩
    · go_wp2_with fail
      (go_at_call 19; (with_reducible refine (drawbridgeref27_Check.calls _ _ l0 false _ (Kd.C_below HR.out HB.out) HC.out HK.out).mono ?_); rintro e_ w1 ⟨rfl, hb_⟩; have HB_ : Aside0 (Below w.heap.size w w1) := Aside0.mk (below_step (bG HB) hb_); have hzw1 := hb_.size; (try simp at hzw1); clear HB hb_; have HB := HB_; clear HB_)
      go_wp2
      go_ret
      exact ⟨rfl, (bG HB)⟩
set_option maxHeartbeats 1600000 in
set_option maxRecDepth 100000 in
theorem rplace_ok (A0 : Option Addr) (c0 : Nat) (l0 : List S34) (id : Int) (w : World) (hr0 : Kd.C k34 w A0 l0.length l0) (hc0 : l0.length ≤ c0) (hl : l0.length ≤ 100) (h : okL l0 = true) :
    Calls Try.prog 29 #[.slice A0 l0.length c0, .int .i64 id] w fun e w' => e = .returned (.int .i64 (idxS id l0 0)) ∧ Below w.heap.size w w' := by
  have HB := Aside0.mk (Below.refl w.heap.size w)
  have HR := Aside0.mk hr0
  have HC := Aside0.mk hc0
  have HK : Aside0 (drawbridgeref27_Check.f l0 = some true) := ⟨by unfold drawbridgeref27_Check.f; rw [if_pos hl, h]⟩
  obtain ⟨R, hR⟩ : ∃ R, idxS id l0 0 = R := ⟨_, rfl⟩
  have HI : Aside0 (idxS id (l0.drop 0) ((0 : Nat) : Int) = R) := ⟨hR⟩
  rw [hR]
  clear hr0 hc0 h hR
  go_enter Try.func29, Try.ntmps29
  go_wp2
  go_loopw [5] (fun i wx => ∃ k : Nat, k ≤ l0.length ∧ i = .int .i64 k ∧ Aside0 (idxS id (l0.drop k) (k : Int) = R) ∧ Aside0 (Below w.heap.size w wx)) (fun i _ => l0.length - (intOf i).toNat)
  case atStart => exact ⟨0, Nat.zero_le _, rfl, HI, HB⟩
  case round =>
    clear HI HB
    obtain ⟨k, hk, rfl, HI, HB⟩ := hrel
    have hz := HB.out.size
    have hw : IntKind.i64.wrap ((k : Int) + 1) = (k : Int) + 1 := by rw [IntKind.wrap_i64]; omega
    by_cases hlt : k < l0.length
    · have hK := HI.out
      rw [idxS_step hlt] at hK
      clear HI
      have hb : decide ((k : Int) < (l0.length : Int)) = true := decide_eq_true (by omega)
      cases hp : ((rd_T34 l0 (k : Int)).f0 == id)
      · rw [hp, if_neg (by decide)] at hK
        have HI := Aside0.mk hK
        clear hK
        go_wp2_with fail
        (go_at_call 19; (with_reducible refine (drawbridgeref27_Check.calls _ _ l0 true _ (Kd.C_below HR.out HB.out) HC.out HK.out).mono ?_); rintro e_ w1 ⟨rfl, hb_⟩; have HB_ : Aside0 (Below w.heap.size w w1) := Aside0.mk (below_step (bG HB) hb_); have hzw1 := hb_.size; (try simp at hzw1); clear HB hb_; have HB := HB_; clear HB_)
        obtain ⟨ad, rfl, hc0, hc1, hc2, hc3, hc4, hc5⟩ := at_T34 (Kd.C_below HR.out HB.out) (k : Int) (by omega) (by omega)
        rw [Int.toNat_natCast] at hc0 hc1 hc2 hc3 hc4 hc5
        go_wp2
        refine ⟨⟨k + 1, by omega, by go_num, HI, HB⟩, ?_⟩
        simp [intOf]; omega
      · rw [hp, if_pos rfl] at hK
        have HI := Aside0.mk hK
        clear hK
        go_wp2_with fail
        (go_at_call 19; (with_reducible refine (drawbridgeref27_Check.calls _ _ l0 true _ (Kd.C_below HR.out HB.out) HC.out HK.out).mono ?_); rintro e_ w1 ⟨rfl, hb_⟩; have HB_ : Aside0 (Below w.heap.size w w1) := Aside0.mk (below_step (bG HB) hb_); have hzw1 := hb_.size; (try simp at hzw1); clear HB hb_; have HB := HB_; clear HB_)
        obtain ⟨ad, rfl, hc0, hc1, hc2, hc3, hc4, hc5⟩ := at_T34 (Kd.C_below HR.out HB.out) (k : Int) (by omega) (by omega)
        rw [Int.toNat_natCast] at hc0 hc1 hc2 hc3 hc4 hc5
        go_wp2
        go_ret
        exact ⟨by rw [← HI.out]; rfl, HB.out⟩
    · have hK := HI.out
      rw [List.drop_of_length_le (by omega)] at hK
      obtain rfl : (-1 : Int) = R := hK
      clear HI
      have hb : decide ((k : Int) < (l0.length : Int)) = false := decide_eq_false (by omega)
      go_wp2
      go_ret
      exact ⟨rfl, HB.out⟩
theorem drawbridgeref27_place.calls (A0 : Option Addr) (c0 : Nat) (l0 : List (S34)) (a1 : Int) (r : Int) (w : World) (hr0 : Kd.C k34 w A0 l0.length l0) (hc0 : l0.length ≤ c0) (h : drawbridgeref27_place.f l0 a1 = some r) :
    Calls Try.prog 29 #[.slice A0 l0.length c0, .int .i64 a1] w fun e w' => e = .returned (.int .i64 r) ∧ Below w.heap.size w w' := by
  unfold drawbridgeref27_place.f at h
  split at h
  case isFalse => cases h
  case isTrue hl =>
  obtain rfl := Option.some.inj h
  cases hk : okL l0 with
  | false => exact rplace_no A0 c0 l0 a1 w hr0 hc0 hl hk
  | true => exact rplace_ok A0 c0 l0 a1 w hr0 hc0 hl hk
end Go.Proofs.Ytijdplpmcnhlbaa.Q
end
section
/- Sockets, plain facts: what is told, shut, closed. -/
set_option linter.unusedVariables false
set_option linter.unusedSimpArgs false
namespace Go.Proofs.Ytijdplpmcnhlbaa.Q
open Go.RowKit Go.Proofs.YtijdplpmcnhlbaaW.PrintWords Go.Proofs.YtijdplpmcnhlbaaW.PrintLast Go.Proofs.YtijdplpmcnhlbaaW.PrintMore
theorem check_ok {l : List S34} (hl : l.length ≤ 100) : host_Check.f l = some (okL l) := okS_is hl
theorem place_at {l : List S34} (h : okL l = true) (n : Int) : host_place.f l n = some (idxS n l 0) := by
  unfold host_place.f
  rw [okS_is (by have := okL_len h; omega), h]; rfl
theorem close_at {l : List S34} (h : okL l = true) (n : Int) : host_Close.f l n = some (closeZ l (idxS n l 0)) := by
  unfold host_Close.f
  rw [if_pos (by have := okL_len h; omega), place_at h]; rfl
theorem shut_at {l : List S34} (h : okL l = true) (n : Int) : host_Shut.f l n = some (shutZ l (idxS n l 0)) := by
  unfold host_Shut.f
  rw [if_pos (by have := okL_len h; omega), place_at h]; rfl
def hearS (l : List S34) (kind id dl n : Int) : List S34 × Bool := if idxS id l 0 < 0 then (l, false) else if kind = 2 then closeZ l (idxS id l 0) else hearZ l (idxS id l 0) kind dl n
theorem hear_at {l : List S34} (h : okL l = true) (kind id : Int) (D : List Int) (n : Int) : host_Hear.f l kind id D n = some (hearS l kind id D.length n) := by
  unfold host_Hear.f hearS
  rw [if_pos (by have := okL_len h; omega), place_at h, Option.bind_some]
  split
  · rfl
  · split
    · exact close_at h id
    · rfl
theorem hearS_none {l : List S34} {id : Int} (hi : idxS id l 0 = -1) (kind dl n : Int) : hearS l kind id dl n = (l, false) := by
  unfold hearS
  rw [hi, if_pos (by decide)]
/-- What an end makes of a socket that is there. -/
theorem eof_mid {a : List S34} {x : S34} {b : List S34} {id : Int} (h : okL (a ++ x :: b) = true) (hx : x.f0 = id) (ha : ∀ y ∈ a, y.f0 ≠ id) (dl n : Int) :
    okL (hearS (a ++ x :: b) 4 id dl n).1 = true ∧ ((hearS (a ++ x :: b) 4 id dl n).2 = true → ∀ kind dl' n', (kind = 3 ∨ kind = 4) → (hearS (hearS (a ++ x :: b) 4 id dl n).1 kind id dl' n').2 = false) := by
  have hi : idxS id (a ++ x :: b) 0 = (a.length : Int) := by rw [idxS_skip id a _ 0 ha, idxS, if_pos (by simpa using hx)]; omega
  have ho := okR_okI (okL_R h) x (by simp)
  have e : hearS (a ++ x :: b) 4 id dl n = if (x.f1 == 2) = true ∧ x.f4 = false then (a ++ mapS 4 x :: b, true) else (a ++ x :: b, false) := by
    unfold hearS hearZ
    rw [hi, if_neg (by omega), if_neg (by decide), if_neg (by decide), if_neg (by decide), if_pos rfl, rd_mid, setS_mid]
  rw [e]
  by_cases hc : (x.f1 == 2) = true ∧ x.f4 = false
  · rw [if_pos hc]
    have h2 : x.f1 = 2 := by simpa using hc.1
    obtain ⟨m1, m2⟩ := map_ok 4 ho (.inr h2)
    refine ⟨ok_mid h m1 m2, fun _ kind dl' n' hk => ?_⟩
    have hi2 : idxS id (a ++ mapS 4 x :: b) 0 = (a.length : Int) := by rw [idxS_skip id a _ 0 ha, idxS, if_pos (by rw [m2]; simpa using hx)]; omega
    show (hearS (a ++ mapS 4 x :: b) kind id dl' n').2 = false
    unfold hearS hearZ
    rw [hi2, if_neg (by omega), if_neg (by omega), rd_mid]
    have f4 : (mapS 4 x).f4 = true := rfl
    rcases hk with rfl | rfl
    · rw [if_neg (by decide), if_pos rfl, f4]; simp
    · rw [if_neg (by decide), if_neg (by decide), if_pos rfl, f4, if_neg (by simp)]
  · rw [if_neg hc]
    exact ⟨h, fun hh => by cases hh⟩
theorem shut_mid {a : List S34} {x : S34} {b : List S34} {id : Int} (h : okL (a ++ x :: b) = true) (hx : x.f0 = id) (ha : ∀ y ∈ a, y.f0 ≠ id) :
    okL (shutZ (a ++ x :: b) (a.length : Int)).1 = true ∧ ((shutZ (a ++ x :: b) (a.length : Int)).2 = true → ∀ dl' n', (hearS (shutZ (a ++ x :: b) (a.length : Int)).1 5 id dl' n').2 = false) := by
  have ho := okR_okI (okL_R h) x (by simp)
  have e : shutZ (a ++ x :: b) (a.length : Int) = if x.f1 ≠ 2 then (a ++ x :: b, false) else if x.f5 = true then (a ++ x :: b, false) else (a ++ mapS 5 x :: b, true) := by
    unfold shutZ
    rw [if_neg (by omega), rd_mid, setS_mid]
    by_cases h2 : x.f1 = 2
    · simp [h2]
    · simp [h2]
  rw [e]
  by_cases h2 : x.f1 = 2
  · rw [if_neg (by simpa using h2)]
    by_cases h5 : x.f5 = true
    · rw [if_pos h5]; exact ⟨h, fun hh => by cases hh⟩
    · rw [if_neg h5]
      obtain ⟨m1, m2⟩ := map_ok 5 ho (.inr h2)
      refine ⟨ok_mid h m1 m2, fun _ dl' n' => ?_⟩
      have hi2 : idxS id (a ++ mapS 5 x :: b) 0 = (a.length : Int) := by rw [idxS_skip id a _ 0 ha, idxS, if_pos (by rw [m2]; simpa using hx)]; omega
      show (hearS (a ++ mapS 5 x :: b) 5 id dl' n').2 = false
      unfold hearS hearZ
      rw [hi2, if_neg (by omega), if_neg (by decide), rd_mid]
      have f5 : (mapS 5 x).f5 = true := rfl
      rw [if_neg (by decide), if_neg (by decide), if_neg (by decide), if_pos rfl, f5]; simp
  · rw [if_pos h2]; exact ⟨h, fun hh => by cases hh⟩
theorem hear_any (l : List S34) (h : okL l = true) (kind id : Int) (D : List Int) (n : Int) : ∃ r, host_Hear.f l kind id D n = some r := ⟨_, hear_at h kind id D n⟩
end Go.Proofs.Ytijdplpmcnhlbaa.Q
end
