/- slices.Delete over sockets: one element goes, in place. -/
import Derived.Test.YtijdplpmcnhlbaaHrow
namespace Go.Proofs.Ytijdplpmcnhlbaa.Q
open Go.RowKit Go.Proofs.YtijdplpmcnhlbaaW.PrintWords Go.Proofs.YtijdplpmcnhlbaaW.PrintLast Go.Proofs.YtijdplpmcnhlbaaW.PrintMore Go.Proofs.Ytijdplpmcnhlbaa.L
attribute [local go_sem] Instr.field part asAgg lt_step max2_int min2_int max_two min_two max_three min_three max_four min_four lt_0_1 lt_0_2 lt_1_2 lt_0_3 lt_1_3 lt_2_3 lt_0_4 lt_1_4 lt_2_4 lt_3_4 lt_0_5 lt_1_5 lt_2_5 lt_3_5 lt_4_5 lt_0_6 lt_1_6 lt_2_6 lt_3_6 lt_4_6 lt_5_6 lt_0_7 lt_1_7 lt_2_7 lt_3_7 lt_4_7 lt_5_7 lt_6_7 lt_0_8 lt_1_8 lt_2_8 lt_3_8 lt_4_8 lt_5_8 lt_6_8 lt_7_8
set_option linter.unusedVariables false
set_option linter.unusedSimpArgs false
theorem below_cells {b g : Nat} {w0 : World} (hg : b ≤ g) : ∀ (vs : List Value) (o : Nat) (w : World), Below b w0 w → Below b w0 (w.setCells g o vs)
  | [], o, w, h => h
  | v :: vs, o, w, h => below_cells hg vs (o + 1) _ (Below.setCell h (p := ⟨g, o, none⟩) hg v)
theorem del_cells {cur cur1 cur2 : Array Value} {L news z : List Value} {i n cap : Nat} (hi : i < n) (hnc : n ≤ cap) (hcs : cur.size = cap * 6) (hs1 : cur1.size = cur.size)
    (hc2 : ∀ j, j < cur.size → cur2[j]? = if (n - 1) * 6 ≤ j ∧ j < (n - 1) * 6 + z.length then z[j - (n - 1) * 6]? else cur1[j]?) (hc1 : ∀ j, j < cur.size → cur1[j]? = if i * 6 ≤ j ∧ j < i * 6 + news.length then news[j - i * 6]? else cur[j]?)
    (hcurl : ∀ j, j < n * 6 → cur[j]? = L[j]?) (hcl : L.length = n * 6) (hnl : news.length = (n - (i + 1)) * 6) : cur2.toList.take ((n - 1) * 6) = L.take (i * 6) ++ news := by
  apply List.ext_getElem?
  intro j
  have hnj : (n - 1) * 6 ≤ cap * 6 := Nat.mul_le_mul_right _ (by omega)
  have htl : (L.take (i * 6)).length = i * 6 := by rw [List.length_take, hcl]; omega
  by_cases hj : j < (n - 1) * 6
  · have e1 : cur2[j]? = cur1[j]? := by
      rw [hc2 j (by omega)]
      exact if_neg (by omega)
    rw [List.getElem?_take_of_lt hj, Array.getElem?_toList, e1]
    by_cases hji : j < i * 6
    · have e2 : cur1[j]? = cur[j]? := by
        rw [hc1 j (by omega)]
        exact if_neg (by omega)
      rw [e2, List.getElem?_append_left (by omega), List.getElem?_take_of_lt hji, hcurl j (by omega)]
    · have e2 : cur1[j]? = news[j - i * 6]? := by
        rw [hc1 j (by omega)]
        exact if_pos (by omega)
      rw [e2, List.getElem?_append_right (by omega), htl]
  · have h1 : (cur2.toList.take ((n - 1) * 6)).length ≤ j := by rw [List.length_take]; omega
    have h2 : (L.take (i * 6) ++ news).length ≤ j := by rw [List.length_append, htl, hnl]; omega
    rw [List.getElem?_eq_none h1, List.getElem?_eq_none h2]
set_option maxHeartbeats 1600000 in
set_option maxRecDepth 100000 in
theorem delete_runs (b0 g cap i : Nat) (ok : Nat → Prop) (l : List S34) (w : World) (hR : Kd.R k34 34 w b0 ok (.slice (some ⟨g, 0, none⟩) l.length cap) l) (hi : i < l.length) :
    Calls Try.prog 28 #[.slice (some ⟨g, 0, none⟩) l.length cap, .int .i64 (i : Int), .int .i64 ((i : Int) + 1)] w fun e w' => ∃ v, e = .returned v ∧ Kd.R k34 34 w' b0 ok v (l.take i ++ l.drop (i + 1)) ∧ Below b0 w w' := by
  obtain ⟨cur, hh, hb, hk, hn, hnc, hcm, hcs, ht⟩ := R_cells hR
  have hcm' : cap ≤ 9223372036854775807 := hcm
  obtain ⟨n, hnn⟩ : ∃ n, n = l.length := ⟨_, rfl⟩
  rw [← hnn] at hi hnc ht ⊢
  have hcell : ∀ j, w.cell? ⟨g, j, none⟩ = cur[j]? := fun j => blk_cell hh j
  have hfz : ∀ j, w.frozen? ⟨g, j, none⟩ = false := fun j => blk_frozen hh _
  obtain ⟨news, hnews⟩ : ∃ news, news = cellsL (l.drop (i + 1)) := ⟨_, rfl⟩
  have hnl : news.length = (n - (i + 1)) * 6 := by rw [hnews, cellsL_len, List.length_drop, hnn]
  have hcl : (cellsL l).length = n * 6 := by rw [cellsL_len, hnn]
  have hcurl : ∀ j, j < n * 6 → cur[j]? = (cellsL l)[j]? := fun j hj => by
    rw [← ht, List.getElem?_take, if_pos hj, Array.getElem?_toList]
  obtain ⟨A, hA, hsrc⟩ : ∃ A : Addr, (if cap = i + 1 then (some (⟨g, 0, none⟩ : Addr)) else some ⟨g, (i + 1) * 6, none⟩) = some A ∧ Hid (∀ t u, news[t]? = some u → w.drew.cell? (A.add t) = some u) := by
    by_cases h : cap = i + 1
    · refine ⟨⟨g, 0, none⟩, by simp [h], fun t u hu => ?_⟩
      have h0 : news.length = 0 := by rw [hnl]; omega
      rw [List.length_eq_zero_iff.1 h0] at hu
      simp at hu
    · refine ⟨⟨g, (i + 1) * 6, none⟩, by simp [h], fun t u hu => ?_⟩
      have htl : t < (n - (i + 1)) * 6 := by rw [← hnl]; exact (List.getElem?_eq_some_iff.1 hu).1
      rw [Addr.add_lit]
      show w.cell? _ = _
      rw [hcell, hcurl _ (by omega), ← hu, hnews, ← cellsL_drop, List.getElem?_drop]
  have s2 : Hid (∀ u ∈ news, u.oneCell' = true) := by rw [hnews]; exact fun u hu => cellsL_one _ u hu
  have s3 : Hid (∀ t, t < news.length → (w.drew.cell? ⟨g, 0 + i * 6 + t, none⟩).isSome = true ∧ w.drew.frozen? ⟨g, 0 + i * 6 + t, none⟩ = false) := by
    intro t htl
    rw [hnl] at htl
    refine ⟨?_, hfz _⟩
    show (w.cell? _).isSome = true
    rw [hcell, Array.getElem?_eq_getElem (by omega)]; rfl
  obtain ⟨W1, hW1⟩ : ∃ W1, W1 = w.drew.setCells g (0 + i * 6) news := ⟨_, rfl⟩
  obtain ⟨cur1, hh1, hs1, hc1⟩ := blk_cells (t := 34) news (0 + i * 6) w.drew cur (blk_drew hh)
  rw [← hW1] at hh1
  have hclr : ∀ ty c', (Builtin.clear_ #[22] ty #[.slice (some ⟨g, (n - 1) * 6, none⟩) (n - (n - 1)) c']).run Try.prog W1 = .ok (.tuple #[]) (W1.setCells g ((n - 1) * 6) [(.int .i64 0), (.int .i64 0), (.int .u32 0), (.int .i64 0), (.bool false), (.bool false)]) := fun ty c' => by
    rw [show n - (n - 1) = 1 by omega]
    exact run_clear6 W1 ty g ((n - 1) * 6) _ (fun j hj => by rw [blk_cell hh1, Array.getElem?_eq_getElem (by omega)]; rfl) (fun j _ => blk_frozen hh1 _)
  have HFIN : Aside0 (Kd.R k34 34 (W1.setCells g ((n - 1) * 6) [(.int .i64 0), (.int .i64 0), (.int .u32 0), (.int .i64 0), (.bool false), (.bool false)]) b0 ok (.slice (some ⟨g, 0, none⟩) (n - 1) cap) (l.take i ++ l.drop (i + 1)) ∧ Below b0 w (W1.setCells g ((n - 1) * 6) [(.int .i64 0), (.int .i64 0), (.int .u32 0), (.int .i64 0), (.bool false), (.bool false)])) := by
    refine ⟨?_, below_cells hb _ _ _ (by rw [hW1]; exact below_cells hb _ _ _ (below_drew1 (Below.refl _ _)))⟩
    obtain ⟨cur2, hh2, hs2, hc2⟩ := blk_cells (t := 34) [(.int .i64 0), (.int .i64 0), (.int .u32 0), (.int .i64 0), (.bool false), (.bool false)] ((n - 1) * 6) W1 cur1 hh1
    have hlen : (l.take i ++ l.drop (i + 1)).length = n - 1 := by rw [List.length_append, List.length_take, List.length_drop, ← hnn]; omega
    have hr := R_mk (cap := cap) (ok := ok) (base := b0) (l := l.take i ++ l.drop (i + 1)) hh2 hb hk (by rw [hlen]; omega) hcm (by rw [hs2, hs1, hcs]) ?_
    · rw [hlen] at hr; exact hr
    · rw [hlen, cellsL_append, ← cellsL_take, ← hnews]
      exact del_cells (n := n) (z := [(.int .i64 0), (.int .i64 0), (.int .u32 0), (.int .i64 0), (.bool false), (.bool false)]) hi hnc hcs hs1 (fun j hj => by have := hc2 j (by rw [hs1]; exact hj); exact this) (fun j hj => by have := hc1 j hj; rwa [Nat.zero_add] at this) hcurl hcl hnl
  have hW : Hid (W1 = w.drew.setCells g (0 + i * 6) news) := hW1
  have HN : Hid (news.length = (n - (i + 1)) * 6) := hnl
  have hic : i ≤ cap := by omega
  have hjc : i + 1 ≤ cap := by omega
  have hi0 : ((i : Int) == (i : Int) + 1) = false := beq_eq_false_iff_ne.2 (by omega)
  obtain ⟨i0, hi0, hzz⟩ := Option.map_eq_some_iff.1 info34
  simp only [Prod.mk.injEq] at hzz
  have hi6 : i0.size = 6 := hzz.2.1
  clear hW1 hR hzz hcell hcurl ht hnews hnl hn
  have hq1 : (0 : Int) ≤ (i : Int) + 1 := by omega
  have hq2 : (i : Int) + 1 ≤ (n : Int) := by omega
  subst hnn
  go_enter Try.func28, Try.ntmps28
  go_wp2_with fail
  go_region_law (refine step_append_room rfl (.tmp 22) (.tmp 25) 22 rfl 34 i0 6 Try.underlying22 hi0 hi6 g 0 i cap (by simp [Act.eval, Act.put]) A (l.length - (i + 1)) (cap - (i + 1)) news (by simp [Act.eval, Act.put]) HN.out hsrc.out s2.out (by omega) s3.out ?_; rw [← hW.out])
  rw [show i + (l.length - (i + 1)) = l.length - 1 by omega]
  have hq3 : ((l.length - 1 : Nat) : Int) ≤ (l.length : Int) := by omega
  have hq4 : (l.length : Int) ≤ (cap : Int) := by omega
  have hq5 : ¬ (cap = l.length - 1) := by omega
  go_wp2
  go_ret
  exact ⟨_, rfl, HFIN.out.1, HFIN.out.2⟩
end Go.Proofs.Ytijdplpmcnhlbaa.Q
