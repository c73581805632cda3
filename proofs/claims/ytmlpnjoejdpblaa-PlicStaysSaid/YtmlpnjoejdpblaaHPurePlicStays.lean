import Derived.Test.YtmlpnjoejdpblaaHSaidPlicStays
import Derived.Test.YtmlpnjoejdpblaaHZ1
namespace Go.Proofs.Ytmlpnjoejdpblaa.Pure
open Go.RowKit Go.Proofs.Ytmlpnjoejdpblaa.Q Go.Proofs.YtmlpnjoejdpblaaW.PrintWords Go.Proofs.YtmlpnjoejdpblaaW.PrintLast Go.Proofs.YtmlpnjoejdpblaaW.PrintMore Go.Proofs.Ytmlpnjoejdpblaa.L
theorem PlicStays : PlicStays.Said := by
  intro l0 p c l3 l4 x off v hl0 w0 wp wc hl3 w3 hl4 w4 wx woff wv
  by_cases hck : checkZ l0 p c l3 l4 = true
  · obtain ⟨a, b, e, f, g, h, rfl, rfl, rfl, ha, hb, hp, hc, he, hf, hg, hh⟩ := check_get hck (wf_R wp) (wf_R wc) (fun z hz => wf_R (w3 z hz))
    refine ⟨0, ?_⟩
    obtain ⟨y, p1, c1, ok1, e1, hp1, hc1, hy⟩ := load_keeps ha hb hp hc he hf hg hh off
    obtain ⟨l02, c2, l32, l42, ok2, e2, k2⟩ := store_keeps ha hb hp hc he hf hg hh off v
    have e3 := set_is ha hb hp hc he hf hg hh x
    have k3 := check_put ha hb (set_m6 ha hb hp hc he hf hg hh x) hc he hf hg hh
    have k1 := check_put ha hb hp1 hc1 he hf hg hh
    unfold drawbridgelaw10_PlicStays.f plic_Check.f drawbridgelaw10_heads.f
    rw [hck, Option.bind_some, if_pos rfl, e1, Option.bind_some, e2, Option.bind_some]
    dsimp only
    rw [k1, Option.bind_some, if_pos rfl, k2, Option.bind_some, if_pos rfl, e3, Option.bind_some]
    dsimp only
    rw [k3, Option.bind_some, if_pos rfl, if_pos hy]
    rfl
  · have hn := Bool.eq_false_iff.mpr hck
    have m : maxLen ≤ 9223372036854775807 := by decide
    refine ⟨l0.length + l3.length + l4.length + 1, ?_⟩
    unfold drawbridgelaw10_PlicStays.f plic_Set.f plic_Check.f drawbridgelaw10_heads.f
    rw [hn, Option.bind_some, if_neg (by decide), Option.bind_some, if_neg (by decide), Option.bind_some]
    dsimp only
    rw [same_refl _ l0 p c l3 l4 (by omega) (by omega) (by omega) (by omega) (by omega) (by omega), Option.bind_some, if_pos rfl]
    rfl
end Go.Proofs.Ytmlpnjoejdpblaa.Pure
