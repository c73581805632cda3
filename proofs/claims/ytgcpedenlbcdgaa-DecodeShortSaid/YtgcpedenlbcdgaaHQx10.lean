import Derived.Test.YtgcpedenlbcdgaaHZ1
import Derived.Test.YtgcpedenlbcdgaaHQx9
import Derived.Test.YtgcpedenlbcdgaaHDdec
-- Ytgcpedenlbcdgaa: written by a program for this claim (several laws of one seat at once)
namespace Go.Proofs.Ytgcpedenlbcdgaa.Q
open Go.RowKit Go.Proofs.YtgcpedenlbcdgaaW.PrintWords Go.Proofs.YtgcpedenlbcdgaaW.PrintLast Go.Proofs.YtgcpedenlbcdgaaW.PrintMore
attribute [local go_sem] max2_int min2_int max_two min_two max_three min_three max_four min_four   -- for this text's walks alone
set_option linter.unusedVariables false
set_option linter.unusedSimpArgs false

/-! ### drawbridgeref02_one: function 16 -/
def drawbridgeref02_one.f (k : Nat) (a0 : Int) : Option (Int × Bool) := (drawbridgeref02_f.f k a0 11 7).bind fun t235 => ((drawbridgeref02_f.f k a0 12 12).bind fun t236 => ((drawbridgeref02_f.f k a0 6 2).bind fun t237 => ((drawbridgeref02_sext.f (Go.bits .or .u32 ((t236 * 32) % 4294967296) t237) 6).bind fun t238 => ((drawbridgeref02_f.f k a0 15 13).bind fun t239 => (if t239 = 0 then ((drawbridgeref02_itype.f t238 t235 0 t235 19).bind fun t240 => (some (t240, true))) else (if t239 = 1 then ((drawbridgeref02_itype.f t238 t235 0 t235 27).bind fun t241 => (some (t241, (t235 != 0)))) else (if t239 = 2 then ((drawbridgeref02_itype.f t238 0 0 t235 19).bind fun t242 => (some (t242, true))) else (if t239 = 3 then (if t235 = 2 then ((drawbridgeref02_f.f k a0 12 12).bind fun t243 => ((drawbridgeref02_f.f k a0 6 6).bind fun t244 => ((drawbridgeref02_f.f k a0 5 5).bind fun t245 => ((drawbridgeref02_f.f k a0 4 3).bind fun t246 => ((drawbridgeref02_f.f k a0 2 2).bind fun t247 => ((drawbridgeref02_sext.f (Go.bits .or .u32 (Go.bits .or .u32 (Go.bits .or .u32 (Go.bits .or .u32 ((t243 * 512) % 4294967296) ((t244 * 16) % 4294967296)) ((t245 * 64) % 4294967296)) ((t246 * 128) % 4294967296)) ((t247 * 32) % 4294967296)) 10).bind fun t248 => ((drawbridgeref02_itype.f t248 2 0 2 19).bind fun t249 => (some (t249, (t248 != 0)))))))))) else (some (Go.bits .or .u32 (Go.bits .or .u32 ((t238 * 4096) % 4294967296) ((t235 * 128) % 4294967296)) 55, (t238 != 0)))) else (if t239 = 4 then ((drawbridgeref02_sums.f k a0).bind fun bt250 => (some (bt250.1, bt250.2))) else (if t239 = 5 then ((drawbridgeref02_f.f k a0 12 12).bind fun t252 => ((drawbridgeref02_f.f k a0 11 11).bind fun t253 => ((drawbridgeref02_f.f k a0 10 9).bind fun t254 => ((drawbridgeref02_f.f k a0 8 8).bind fun t255 => ((drawbridgeref02_f.f k a0 7 7).bind fun t256 => ((drawbridgeref02_f.f k a0 6 6).bind fun t257 => ((drawbridgeref02_f.f k a0 5 3).bind fun t258 => ((drawbridgeref02_f.f k a0 2 2).bind fun t259 => ((drawbridgeref02_sext.f (Go.bits .or .u32 (Go.bits .or .u32 (Go.bits .or .u32 (Go.bits .or .u32 (Go.bits .or .u32 (Go.bits .or .u32 (Go.bits .or .u32 ((t252 * 2048) % 4294967296) ((t253 * 16) % 4294967296)) ((t254 * 256) % 4294967296)) ((t255 * 1024) % 4294967296)) ((t256 * 64) % 4294967296)) ((t257 * 128) % 4294967296)) ((t258 * 2) % 4294967296)) ((t259 * 32) % 4294967296)) 12).bind fun t260 => ((drawbridgeref02_jtype.f t260 0).bind fun t261 => (some (t261, true)))))))))))) else ((drawbridgeref02_f.f k a0 12 12).bind fun t262 => ((drawbridgeref02_f.f k a0 11 10).bind fun t263 => ((drawbridgeref02_f.f k a0 6 5).bind fun t264 => ((drawbridgeref02_f.f k a0 4 3).bind fun t265 => ((drawbridgeref02_f.f k a0 2 2).bind fun t266 => ((drawbridgeref02_sext.f (Go.bits .or .u32 (Go.bits .or .u32 (Go.bits .or .u32 (Go.bits .or .u32 ((t262 * 256) % 4294967296) ((t263 * 8) % 4294967296)) ((t264 * 64) % 4294967296)) ((t265 * 2) % 4294967296)) ((t266 * 32) % 4294967296)) 9).bind fun t267 => ((drawbridgeref02_f.f k a0 9 7).bind fun t268 => ((drawbridgeref02_f.f k a0 13 13).bind fun t269 => ((drawbridgeref02_btype.f t267 ((8 + t268) % 4294967296) t269).bind fun t270 => (some (t270, true)))))))))))))))))))))
theorem drawbridgeref02_one.mono : ∀ a0 k, LeO (drawbridgeref02_one.f k a0) (drawbridgeref02_one.f (k + 1) a0) := by
  intro a0 k
  unfold drawbridgeref02_one.f
  repeat' first
      | (with_reducible exact drawbridgeref02_f.mono _ _ _ _)
      | (with_reducible exact drawbridgeref02_sums.mono _ _)
      | (with_reducible exact LeO.refl _)
      | (with_reducible exact LeO.none _)
      | (with_reducible refine LeO.ite ?_ ?_)
      | (with_reducible refine LeO.bind ?_ (fun _ => ?_))
      | exact drawbridgeref02_f.mono _ _ _ _
      | exact drawbridgeref02_sums.mono _ _
      | exact LeO.none _
      | refine LeO.ite ?_ ?_
      | refine LeO.bind ?_ (fun _ => ?_)
set_option maxHeartbeats 8000000 in
set_option maxRecDepth 100000 in
theorem drawbridgeref02_one.calls (k : Nat) (a0 : Int) (r1 : Int) (r2 : Bool) (w : World) (h : drawbridgeref02_one.f k a0 = some (r1, r2)) :
    Calls Try.prog 16 #[.int .u16 a0] w fun e w' => e = .returned (.tuple #[.int .u32 r1, .bool r2]) ∧ Drawn0 w w' := by
  have H : ((drawbridgeref02_f.f k a0 11 7).bind fun t235 => ((drawbridgeref02_f.f k a0 12 12).bind fun t236 => ((drawbridgeref02_f.f k a0 6 2).bind fun t237 => ((drawbridgeref02_sext.f (Go.bits .or .u32 ((t236 * 32) % 4294967296) t237) 6).bind fun t238 => ((drawbridgeref02_f.f k a0 15 13).bind fun t239 => (if t239 = 0 then ((drawbridgeref02_itype.f t238 t235 0 t235 19).bind fun t240 => (some (t240, true))) else (if t239 = 1 then ((drawbridgeref02_itype.f t238 t235 0 t235 27).bind fun t241 => (some (t241, (t235 != 0)))) else (if t239 = 2 then ((drawbridgeref02_itype.f t238 0 0 t235 19).bind fun t242 => (some (t242, true))) else (if t239 = 3 then (if t235 = 2 then ((drawbridgeref02_f.f k a0 12 12).bind fun t243 => ((drawbridgeref02_f.f k a0 6 6).bind fun t244 => ((drawbridgeref02_f.f k a0 5 5).bind fun t245 => ((drawbridgeref02_f.f k a0 4 3).bind fun t246 => ((drawbridgeref02_f.f k a0 2 2).bind fun t247 => ((drawbridgeref02_sext.f (Go.bits .or .u32 (Go.bits .or .u32 (Go.bits .or .u32 (Go.bits .or .u32 ((t243 * 512) % 4294967296) ((t244 * 16) % 4294967296)) ((t245 * 64) % 4294967296)) ((t246 * 128) % 4294967296)) ((t247 * 32) % 4294967296)) 10).bind fun t248 => ((drawbridgeref02_itype.f t248 2 0 2 19).bind fun t249 => (some (t249, (t248 != 0)))))))))) else (some (Go.bits .or .u32 (Go.bits .or .u32 ((t238 * 4096) % 4294967296) ((t235 * 128) % 4294967296)) 55, (t238 != 0)))) else (if t239 = 4 then ((drawbridgeref02_sums.f k a0).bind fun bt250 => (some (bt250.1, bt250.2))) else (if t239 = 5 then ((drawbridgeref02_f.f k a0 12 12).bind fun t252 => ((drawbridgeref02_f.f k a0 11 11).bind fun t253 => ((drawbridgeref02_f.f k a0 10 9).bind fun t254 => ((drawbridgeref02_f.f k a0 8 8).bind fun t255 => ((drawbridgeref02_f.f k a0 7 7).bind fun t256 => ((drawbridgeref02_f.f k a0 6 6).bind fun t257 => ((drawbridgeref02_f.f k a0 5 3).bind fun t258 => ((drawbridgeref02_f.f k a0 2 2).bind fun t259 => ((drawbridgeref02_sext.f (Go.bits .or .u32 (Go.bits .or .u32 (Go.bits .or .u32 (Go.bits .or .u32 (Go.bits .or .u32 (Go.bits .or .u32 (Go.bits .or .u32 ((t252 * 2048) % 4294967296) ((t253 * 16) % 4294967296)) ((t254 * 256) % 4294967296)) ((t255 * 1024) % 4294967296)) ((t256 * 64) % 4294967296)) ((t257 * 128) % 4294967296)) ((t258 * 2) % 4294967296)) ((t259 * 32) % 4294967296)) 12).bind fun t260 => ((drawbridgeref02_jtype.f t260 0).bind fun t261 => (some (t261, true)))))))))))) else ((drawbridgeref02_f.f k a0 12 12).bind fun t262 => ((drawbridgeref02_f.f k a0 11 10).bind fun t263 => ((drawbridgeref02_f.f k a0 6 5).bind fun t264 => ((drawbridgeref02_f.f k a0 4 3).bind fun t265 => ((drawbridgeref02_f.f k a0 2 2).bind fun t266 => ((drawbridgeref02_sext.f (Go.bits .or .u32 (Go.bits .or .u32 (Go.bits .or .u32 (Go.bits .or .u32 ((t262 * 256) % 4294967296) ((t263 * 8) % 4294967296)) ((t264 * 64) % 4294967296)) ((t265 * 2) % 4294967296)) ((t266 * 32) % 4294967296)) 9).bind fun t267 => ((drawbridgeref02_f.f k a0 9 7).bind fun t268 => ((drawbridgeref02_f.f k a0 13 13).bind fun t269 => ((drawbridgeref02_btype.f t267 ((8 + t268) % 4294967296) t269).bind fun t270 => (some (t270, true)))))))))))))))))))))) = some (r1, r2) := h
  clear h
  replace H := Option.bind_eq_some_iff.mp H
  obtain ⟨t235, A20, H⟩ := H
  replace H : ((drawbridgeref02_f.f k a0 12 12).bind fun t236 => ((drawbridgeref02_f.f k a0 6 2).bind fun t237 => ((drawbridgeref02_sext.f (Go.bits .or .u32 ((t236 * 32) % 4294967296) t237) 6).bind fun t238 => ((drawbridgeref02_f.f k a0 15 13).bind fun t239 => (if t239 = 0 then ((drawbridgeref02_itype.f t238 t235 0 t235 19).bind fun t240 => (some (t240, true))) else (if t239 = 1 then ((drawbridgeref02_itype.f t238 t235 0 t235 27).bind fun t241 => (some (t241, (t235 != 0)))) else (if t239 = 2 then ((drawbridgeref02_itype.f t238 0 0 t235 19).bind fun t242 => (some (t242, true))) else (if t239 = 3 then (if t235 = 2 then ((drawbridgeref02_f.f k a0 12 12).bind fun t243 => ((drawbridgeref02_f.f k a0 6 6).bind fun t244 => ((drawbridgeref02_f.f k a0 5 5).bind fun t245 => ((drawbridgeref02_f.f k a0 4 3).bind fun t246 => ((drawbridgeref02_f.f k a0 2 2).bind fun t247 => ((drawbridgeref02_sext.f (Go.bits .or .u32 (Go.bits .or .u32 (Go.bits .or .u32 (Go.bits .or .u32 ((t243 * 512) % 4294967296) ((t244 * 16) % 4294967296)) ((t245 * 64) % 4294967296)) ((t246 * 128) % 4294967296)) ((t247 * 32) % 4294967296)) 10).bind fun t248 => ((drawbridgeref02_itype.f t248 2 0 2 19).bind fun t249 => (some (t249, (t248 != 0)))))))))) else (some (Go.bits .or .u32 (Go.bits .or .u32 ((t238 * 4096) % 4294967296) ((t235 * 128) % 4294967296)) 55, (t238 != 0)))) else (if t239 = 4 then ((drawbridgeref02_sums.f k a0).bind fun bt250 => (some (bt250.1, bt250.2))) else (if t239 = 5 then ((drawbridgeref02_f.f k a0 12 12).bind fun t252 => ((drawbridgeref02_f.f k a0 11 11).bind fun t253 => ((drawbridgeref02_f.f k a0 10 9).bind fun t254 => ((drawbridgeref02_f.f k a0 8 8).bind fun t255 => ((drawbridgeref02_f.f k a0 7 7).bind fun t256 => ((drawbridgeref02_f.f k a0 6 6).bind fun t257 => ((drawbridgeref02_f.f k a0 5 3).bind fun t258 => ((drawbridgeref02_f.f k a0 2 2).bind fun t259 => ((drawbridgeref02_sext.f (Go.bits .or .u32 (Go.bits .or .u32 (Go.bits .or .u32 (Go.bits .or .u32 (Go.bits .or .u32 (Go.bits .or .u32 (Go.bits .or .u32 ((t252 * 2048) % 4294967296) ((t253 * 16) % 4294967296)) ((t254 * 256) % 4294967296)) ((t255 * 1024) % 4294967296)) ((t256 * 64) % 4294967296)) ((t257 * 128) % 4294967296)) ((t258 * 2) % 4294967296)) ((t259 * 32) % 4294967296)) 12).bind fun t260 => ((drawbridgeref02_jtype.f t260 0).bind fun t261 => (some (t261, true)))))))))))) else ((drawbridgeref02_f.f k a0 12 12).bind fun t262 => ((drawbridgeref02_f.f k a0 11 10).bind fun t263 => ((drawbridgeref02_f.f k a0 6 5).bind fun t264 => ((drawbridgeref02_f.f k a0 4 3).bind fun t265 => ((drawbridgeref02_f.f k a0 2 2).bind fun t266 => ((drawbridgeref02_sext.f (Go.bits .or .u32 (Go.bits .or .u32 (Go.bits .or .u32 (Go.bits .or .u32 ((t262 * 256) % 4294967296) ((t263 * 8) % 4294967296)) ((t264 * 64) % 4294967296)) ((t265 * 2) % 4294967296)) ((t266 * 32) % 4294967296)) 9).bind fun t267 => ((drawbridgeref02_f.f k a0 9 7).bind fun t268 => ((drawbridgeref02_f.f k a0 13 13).bind fun t269 => ((drawbridgeref02_btype.f t267 ((8 + t268) % 4294967296) t269).bind fun t270 => (some (t270, true))))))))))))))))))))) = some (r1, r2) := H
  have A2 := Aside0.mk A20
  clear A20
  replace H := Option.bind_eq_some_iff.mp H
  obtain ⟨t236, A30, H⟩ := H
  replace H : ((drawbridgeref02_f.f k a0 6 2).bind fun t237 => ((drawbridgeref02_sext.f (Go.bits .or .u32 ((t236 * 32) % 4294967296) t237) 6).bind fun t238 => ((drawbridgeref02_f.f k a0 15 13).bind fun t239 => (if t239 = 0 then ((drawbridgeref02_itype.f t238 t235 0 t235 19).bind fun t240 => (some (t240, true))) else (if t239 = 1 then ((drawbridgeref02_itype.f t238 t235 0 t235 27).bind fun t241 => (some (t241, (t235 != 0)))) else (if t239 = 2 then ((drawbridgeref02_itype.f t238 0 0 t235 19).bind fun t242 => (some (t242, true))) else (if t239 = 3 then (if t235 = 2 then ((drawbridgeref02_f.f k a0 12 12).bind fun t243 => ((drawbridgeref02_f.f k a0 6 6).bind fun t244 => ((drawbridgeref02_f.f k a0 5 5).bind fun t245 => ((drawbridgeref02_f.f k a0 4 3).bind fun t246 => ((drawbridgeref02_f.f k a0 2 2).bind fun t247 => ((drawbridgeref02_sext.f (Go.bits .or .u32 (Go.bits .or .u32 (Go.bits .or .u32 (Go.bits .or .u32 ((t243 * 512) % 4294967296) ((t244 * 16) % 4294967296)) ((t245 * 64) % 4294967296)) ((t246 * 128) % 4294967296)) ((t247 * 32) % 4294967296)) 10).bind fun t248 => ((drawbridgeref02_itype.f t248 2 0 2 19).bind fun t249 => (some (t249, (t248 != 0)))))))))) else (some (Go.bits .or .u32 (Go.bits .or .u32 ((t238 * 4096) % 4294967296) ((t235 * 128) % 4294967296)) 55, (t238 != 0)))) else (if t239 = 4 then ((drawbridgeref02_sums.f k a0).bind fun bt250 => (some (bt250.1, bt250.2))) else (if t239 = 5 then ((drawbridgeref02_f.f k a0 12 12).bind fun t252 => ((drawbridgeref02_f.f k a0 11 11).bind fun t253 => ((drawbridgeref02_f.f k a0 10 9).bind fun t254 => ((drawbridgeref02_f.f k a0 8 8).bind fun t255 => ((drawbridgeref02_f.f k a0 7 7).bind fun t256 => ((drawbridgeref02_f.f k a0 6 6).bind fun t257 => ((drawbridgeref02_f.f k a0 5 3).bind fun t258 => ((drawbridgeref02_f.f k a0 2 2).bind fun t259 => ((drawbridgeref02_sext.f (Go.bits .or .u32 (Go.bits .or .u32 (Go.bits .or .u32 (Go.bits .or .u32 (Go.bits .or .u32 (Go.bits .or .u32 (Go.bits .or .u32 ((t252 * 2048) % 4294967296) ((t253 * 16) % 4294967296)) ((t254 * 256) % 4294967296)) ((t255 * 1024) % 4294967296)) ((t256 * 64) % 4294967296)) ((t257 * 128) % 4294967296)) ((t258 * 2) % 4294967296)) ((t259 * 32) % 4294967296)) 12).bind fun t260 => ((drawbridgeref02_jtype.f t260 0).bind fun t261 => (some (t261, true)))))))))))) else ((drawbridgeref02_f.f k a0 12 12).bind fun t262 => ((drawbridgeref02_f.f k a0 11 10).bind fun t263 => ((drawbridgeref02_f.f k a0 6 5).bind fun t264 => ((drawbridgeref02_f.f k a0 4 3).bind fun t265 => ((drawbridgeref02_f.f k a0 2 2).bind fun t266 => ((drawbridgeref02_sext.f (Go.bits .or .u32 (Go.bits .or .u32 (Go.bits .or .u32 (Go.bits .or .u32 ((t262 * 256) % 4294967296) ((t263 * 8) % 4294967296)) ((t264 * 64) % 4294967296)) ((t265 * 2) % 4294967296)) ((t266 * 32) % 4294967296)) 9).bind fun t267 => ((drawbridgeref02_f.f k a0 9 7).bind fun t268 => ((drawbridgeref02_f.f k a0 13 13).bind fun t269 => ((drawbridgeref02_btype.f t267 ((8 + t268) % 4294967296) t269).bind fun t270 => (some (t270, true)))))))))))))))))))) = some (r1, r2) := H
  have A3 := Aside0.mk A30
  clear A30
  replace H := Option.bind_eq_some_iff.mp H
  obtain ⟨t237, A40, H⟩ := H
  replace H : ((drawbridgeref02_sext.f (Go.bits .or .u32 ((t236 * 32) % 4294967296) t237) 6).bind fun t238 => ((drawbridgeref02_f.f k a0 15 13).bind fun t239 => (if t239 = 0 then ((drawbridgeref02_itype.f t238 t235 0 t235 19).bind fun t240 => (some (t240, true))) else (if t239 = 1 then ((drawbridgeref02_itype.f t238 t235 0 t235 27).bind fun t241 => (some (t241, (t235 != 0)))) else (if t239 = 2 then ((drawbridgeref02_itype.f t238 0 0 t235 19).bind fun t242 => (some (t242, true))) else (if t239 = 3 then (if t235 = 2 then ((drawbridgeref02_f.f k a0 12 12).bind fun t243 => ((drawbridgeref02_f.f k a0 6 6).bind fun t244 => ((drawbridgeref02_f.f k a0 5 5).bind fun t245 => ((drawbridgeref02_f.f k a0 4 3).bind fun t246 => ((drawbridgeref02_f.f k a0 2 2).bind fun t247 => ((drawbridgeref02_sext.f (Go.bits .or .u32 (Go.bits .or .u32 (Go.bits .or .u32 (Go.bits .or .u32 ((t243 * 512) % 4294967296) ((t244 * 16) % 4294967296)) ((t245 * 64) % 4294967296)) ((t246 * 128) % 4294967296)) ((t247 * 32) % 4294967296)) 10).bind fun t248 => ((drawbridgeref02_itype.f t248 2 0 2 19).bind fun t249 => (some (t249, (t248 != 0)))))))))) else (some (Go.bits .or .u32 (Go.bits .or .u32 ((t238 * 4096) % 4294967296) ((t235 * 128) % 4294967296)) 55, (t238 != 0)))) else (if t239 = 4 then ((drawbridgeref02_sums.f k a0).bind fun bt250 => (some (bt250.1, bt250.2))) else (if t239 = 5 then ((drawbridgeref02_f.f k a0 12 12).bind fun t252 => ((drawbridgeref02_f.f k a0 11 11).bind fun t253 => ((drawbridgeref02_f.f k a0 10 9).bind fun t254 => ((drawbridgeref02_f.f k a0 8 8).bind fun t255 => ((drawbridgeref02_f.f k a0 7 7).bind fun t256 => ((drawbridgeref02_f.f k a0 6 6).bind fun t257 => ((drawbridgeref02_f.f k a0 5 3).bind fun t258 => ((drawbridgeref02_f.f k a0 2 2).bind fun t259 => ((drawbridgeref02_sext.f (Go.bits .or .u32 (Go.bits .or .u32 (Go.bits .or .u32 (Go.bits .or .u32 (Go.bits .or .u32 (Go.bits .or .u32 (Go.bits .or .u32 ((t252 * 2048) % 4294967296) ((t253 * 16) % 4294967296)) ((t254 * 256) % 4294967296)) ((t255 * 1024) % 4294967296)) ((t256 * 64) % 4294967296)) ((t257 * 128) % 4294967296)) ((t258 * 2) % 4294967296)) ((t259 * 32) % 4294967296)) 12).bind fun t260 => ((drawbridgeref02_jtype.f t260 0).bind fun t261 => (some (t261, true)))))))))))) else ((drawbridgeref02_f.f k a0 12 12).bind fun t262 => ((drawbridgeref02_f.f k a0 11 10).bind fun t263 => ((drawbridgeref02_f.f k a0 6 5).bind fun t264 => ((drawbridgeref02_f.f k a0 4 3).bind fun t265 => ((drawbridgeref02_f.f k a0 2 2).bind fun t266 => ((drawbridgeref02_sext.f (Go.bits .or .u32 (Go.bits .or .u32 (Go.bits .or .u32 (Go.bits .or .u32 ((t262 * 256) % 4294967296) ((t263 * 8) % 4294967296)) ((t264 * 64) % 4294967296)) ((t265 * 2) % 4294967296)) ((t266 * 32) % 4294967296)) 9).bind fun t267 => ((drawbridgeref02_f.f k a0 9 7).bind fun t268 => ((drawbridgeref02_f.f k a0 13 13).bind fun t269 => ((drawbridgeref02_btype.f t267 ((8 + t268) % 4294967296) t269).bind fun t270 => (some (t270, true))))))))))))))))))) = some (r1, r2) := H
  have A4 := Aside0.mk A40
  clear A40
  replace H := Option.bind_eq_some_iff.mp H
  obtain ⟨t238, A50, H⟩ := H
  replace H : ((drawbridgeref02_f.f k a0 15 13).bind fun t239 => (if t239 = 0 then ((drawbridgeref02_itype.f t238 t235 0 t235 19).bind fun t240 => (some (t240, true))) else (if t239 = 1 then ((drawbridgeref02_itype.f t238 t235 0 t235 27).bind fun t241 => (some (t241, (t235 != 0)))) else (if t239 = 2 then ((drawbridgeref02_itype.f t238 0 0 t235 19).bind fun t242 => (some (t242, true))) else (if t239 = 3 then (if t235 = 2 then ((drawbridgeref02_f.f k a0 12 12).bind fun t243 => ((drawbridgeref02_f.f k a0 6 6).bind fun t244 => ((drawbridgeref02_f.f k a0 5 5).bind fun t245 => ((drawbridgeref02_f.f k a0 4 3).bind fun t246 => ((drawbridgeref02_f.f k a0 2 2).bind fun t247 => ((drawbridgeref02_sext.f (Go.bits .or .u32 (Go.bits .or .u32 (Go.bits .or .u32 (Go.bits .or .u32 ((t243 * 512) % 4294967296) ((t244 * 16) % 4294967296)) ((t245 * 64) % 4294967296)) ((t246 * 128) % 4294967296)) ((t247 * 32) % 4294967296)) 10).bind fun t248 => ((drawbridgeref02_itype.f t248 2 0 2 19).bind fun t249 => (some (t249, (t248 != 0)))))))))) else (some (Go.bits .or .u32 (Go.bits .or .u32 ((t238 * 4096) % 4294967296) ((t235 * 128) % 4294967296)) 55, (t238 != 0)))) else (if t239 = 4 then ((drawbridgeref02_sums.f k a0).bind fun bt250 => (some (bt250.1, bt250.2))) else (if t239 = 5 then ((drawbridgeref02_f.f k a0 12 12).bind fun t252 => ((drawbridgeref02_f.f k a0 11 11).bind fun t253 => ((drawbridgeref02_f.f k a0 10 9).bind fun t254 => ((drawbridgeref02_f.f k a0 8 8).bind fun t255 => ((drawbridgeref02_f.f k a0 7 7).bind fun t256 => ((drawbridgeref02_f.f k a0 6 6).bind fun t257 => ((drawbridgeref02_f.f k a0 5 3).bind fun t258 => ((drawbridgeref02_f.f k a0 2 2).bind fun t259 => ((drawbridgeref02_sext.f (Go.bits .or .u32 (Go.bits .or .u32 (Go.bits .or .u32 (Go.bits .or .u32 (Go.bits .or .u32 (Go.bits .or .u32 (Go.bits .or .u32 ((t252 * 2048) % 4294967296) ((t253 * 16) % 4294967296)) ((t254 * 256) % 4294967296)) ((t255 * 1024) % 4294967296)) ((t256 * 64) % 4294967296)) ((t257 * 128) % 4294967296)) ((t258 * 2) % 4294967296)) ((t259 * 32) % 4294967296)) 12).bind fun t260 => ((drawbridgeref02_jtype.f t260 0).bind fun t261 => (some (t261, true)))))))))))) else ((drawbridgeref02_f.f k a0 12 12).bind fun t262 => ((drawbridgeref02_f.f k a0 11 10).bind fun t263 => ((drawbridgeref02_f.f k a0 6 5).bind fun t264 => ((drawbridgeref02_f.f k a0 4 3).bind fun t265 => ((drawbridgeref02_f.f k a0 2 2).bind fun t266 => ((drawbridgeref02_sext.f (Go.bits .or .u32 (Go.bits .or .u32 (Go.bits .or .u32 (Go.bits .or .u32 ((t262 * 256) % 4294967296) ((t263 * 8) % 4294967296)) ((t264 * 64) % 4294967296)) ((t265 * 2) % 4294967296)) ((t266 * 32) % 4294967296)) 9).bind fun t267 => ((drawbridgeref02_f.f k a0 9 7).bind fun t268 => ((drawbridgeref02_f.f k a0 13 13).bind fun t269 => ((drawbridgeref02_btype.f t267 ((8 + t268) % 4294967296) t269).bind fun t270 => (some (t270, true)))))))))))))))))) = some (r1, r2) := H
  have A5 := Aside0.mk A50
  clear A50
  replace H := Option.bind_eq_some_iff.mp H
  obtain ⟨t239, A60, H⟩ := H
  replace H : (if t239 = 0 then ((drawbridgeref02_itype.f t238 t235 0 t235 19).bind fun t240 => (some (t240, true))) else (if t239 = 1 then ((drawbridgeref02_itype.f t238 t235 0 t235 27).bind fun t241 => (some (t241, (t235 != 0)))) else (if t239 = 2 then ((drawbridgeref02_itype.f t238 0 0 t235 19).bind fun t242 => (some (t242, true))) else (if t239 = 3 then (if t235 = 2 then ((drawbridgeref02_f.f k a0 12 12).bind fun t243 => ((drawbridgeref02_f.f k a0 6 6).bind fun t244 => ((drawbridgeref02_f.f k a0 5 5).bind fun t245 => ((drawbridgeref02_f.f k a0 4 3).bind fun t246 => ((drawbridgeref02_f.f k a0 2 2).bind fun t247 => ((drawbridgeref02_sext.f (Go.bits .or .u32 (Go.bits .or .u32 (Go.bits .or .u32 (Go.bits .or .u32 ((t243 * 512) % 4294967296) ((t244 * 16) % 4294967296)) ((t245 * 64) % 4294967296)) ((t246 * 128) % 4294967296)) ((t247 * 32) % 4294967296)) 10).bind fun t248 => ((drawbridgeref02_itype.f t248 2 0 2 19).bind fun t249 => (some (t249, (t248 != 0)))))))))) else (some (Go.bits .or .u32 (Go.bits .or .u32 ((t238 * 4096) % 4294967296) ((t235 * 128) % 4294967296)) 55, (t238 != 0)))) else (if t239 = 4 then ((drawbridgeref02_sums.f k a0).bind fun bt250 => (some (bt250.1, bt250.2))) else (if t239 = 5 then ((drawbridgeref02_f.f k a0 12 12).bind fun t252 => ((drawbridgeref02_f.f k a0 11 11).bind fun t253 => ((drawbridgeref02_f.f k a0 10 9).bind fun t254 => ((drawbridgeref02_f.f k a0 8 8).bind fun t255 => ((drawbridgeref02_f.f k a0 7 7).bind fun t256 => ((drawbridgeref02_f.f k a0 6 6).bind fun t257 => ((drawbridgeref02_f.f k a0 5 3).bind fun t258 => ((drawbridgeref02_f.f k a0 2 2).bind fun t259 => ((drawbridgeref02_sext.f (Go.bits .or .u32 (Go.bits .or .u32 (Go.bits .or .u32 (Go.bits .or .u32 (Go.bits .or .u32 (Go.bits .or .u32 (Go.bits .or .u32 ((t252 * 2048) % 4294967296) ((t253 * 16) % 4294967296)) ((t254 * 256) % 4294967296)) ((t255 * 1024) % 4294967296)) ((t256 * 64) % 4294967296)) ((t257 * 128) % 4294967296)) ((t258 * 2) % 4294967296)) ((t259 * 32) % 4294967296)) 12).bind fun t260 => ((drawbridgeref02_jtype.f t260 0).bind fun t261 => (some (t261, true)))))))))))) else ((drawbridgeref02_f.f k a0 12 12).bind fun t262 => ((drawbridgeref02_f.f k a0 11 10).bind fun t263 => ((drawbridgeref02_f.f k a0 6 5).bind fun t264 => ((drawbridgeref02_f.f k a0 4 3).bind fun t265 => ((drawbridgeref02_f.f k a0 2 2).bind fun t266 => ((drawbridgeref02_sext.f (Go.bits .or .u32 (Go.bits .or .u32 (Go.bits .or .u32 (Go.bits .or .u32 ((t262 * 256) % 4294967296) ((t263 * 8) % 4294967296)) ((t264 * 64) % 4294967296)) ((t265 * 2) % 4294967296)) ((t266 * 32) % 4294967296)) 9).bind fun t267 => ((drawbridgeref02_f.f k a0 9 7).bind fun t268 => ((drawbridgeref02_f.f k a0 13 13).bind fun t269 => ((drawbridgeref02_btype.f t267 ((8 + t268) % 4294967296) t269).bind fun t270 => (some (t270, true))))))))))))))))) = some (r1, r2) := H
  have A6 := Aside0.mk A60
  clear A60
  by_cases c7 : t239 = 0
  · rw [if_pos c7] at H
    have c7b0 : (t239 == 0) = true := beq_iff_eq.mpr c7
    have c7b1 : (t239 != 0) = false := bne_eq_false_iff_eq.mpr c7
    clear c7
    replace H := Option.bind_eq_some_iff.mp H
    obtain ⟨t240, A80, H⟩ := H
    replace H : (some (t240, true)) = some (r1, r2) := H
    have A8 := Aside0.mk A80
    clear A80
    simp only [Option.some.injEq, Prod.mk.injEq] at H
    obtain ⟨rfl, rfl⟩ := H
    go_enter Try.func16, Try.ntmps16
    go_wp2_with (first | ((with_reducible refine gate_callee (f := 23) rfl ?_); refine goesL_ (some 10) rfl rfl Try.func23 (by kernel_rfl) rfl #[.int .u16 a0, .int .i64 11, .int .i64 7] rfl (by (try simp only [List.map_toArray, List.map_cons, List.map_nil]); first | done | rfl | (simp only [List.length_drop, List.length_take]; rfl)) ?_; (with_reducible refine (drawbridgeref02_f.calls k a0 11 7 t235 _ A2.out).mono ?_); rintro e w' ⟨rfl, ⟨nd, rfl⟩⟩; refine ⟨_, rfl, ?_⟩) | ((with_reducible refine gate_callee (f := 23) rfl ?_); refine goesL_ (some 12) rfl rfl Try.func23 (by kernel_rfl) rfl #[.int .u16 a0, .int .i64 12, .int .i64 12] rfl (by (try simp only [List.map_toArray, List.map_cons, List.map_nil]); first | done | rfl | (simp only [List.length_drop, List.length_take]; rfl)) ?_; (with_reducible refine (drawbridgeref02_f.calls k a0 12 12 t236 _ A3.out).mono ?_); rintro e w' ⟨rfl, ⟨nd, rfl⟩⟩; refine ⟨_, rfl, ?_⟩) | ((with_reducible refine gate_callee (f := 23) rfl ?_); refine goesL_ (some 15) rfl rfl Try.func23 (by kernel_rfl) rfl #[.int .u16 a0, .int .i64 6, .int .i64 2] rfl (by (try simp only [List.map_toArray, List.map_cons, List.map_nil]); first | done | rfl | (simp only [List.length_drop, List.length_take]; rfl)) ?_; (with_reducible refine (drawbridgeref02_f.calls k a0 6 2 t237 _ A4.out).mono ?_); rintro e w' ⟨rfl, ⟨nd, rfl⟩⟩; refine ⟨_, rfl, ?_⟩) | ((with_reducible refine gate_callee (f := 26) rfl ?_); refine goesL_ (some 17) rfl rfl Try.func26 (by kernel_rfl) rfl #[.int .u32 (Go.bits .or .u32 ((t236 * 32) % 4294967296) t237), .int .i64 6] rfl (by (try simp only [List.map_toArray, List.map_cons, List.map_nil]); first | done | rfl | (simp only [List.length_drop, List.length_take]; rfl)) ?_; (with_reducible refine (drawbridgeref02_sext.calls (Go.bits .or .u32 ((t236 * 32) % 4294967296) t237) 6 t238 _ A5.out).mono ?_); rintro e w' ⟨rfl, ⟨nd, rfl⟩⟩; refine ⟨_, rfl, ?_⟩) | ((with_reducible refine gate_callee (f := 23) rfl ?_); refine goesL_ (some 19) rfl rfl Try.func23 (by kernel_rfl) rfl #[.int .u16 a0, .int .i64 15, .int .i64 13] rfl (by (try simp only [List.map_toArray, List.map_cons, List.map_nil]); first | done | rfl | (simp only [List.length_drop, List.length_take]; rfl)) ?_; (with_reducible refine (drawbridgeref02_f.calls k a0 15 13 t239 _ A6.out).mono ?_); rintro e w' ⟨rfl, ⟨nd, rfl⟩⟩; refine ⟨_, rfl, ?_⟩) | ((with_reducible refine gate_callee (f := 24) rfl ?_); refine goesL_ (some 25) rfl rfl Try.func24 (by kernel_rfl) rfl #[.int .u32 t238, .int .u32 t235, .int .u32 0, .int .u32 t235, .int .u32 19] rfl (by (try simp only [List.map_toArray, List.map_cons, List.map_nil]); first | done | rfl | (simp only [List.length_drop, List.length_take]; rfl)) ?_; (with_reducible refine (drawbridgeref02_itype.calls t238 t235 0 t235 19 t240 _ A8.out).mono ?_); rintro e w' ⟨rfl, ⟨nd, rfl⟩⟩; refine ⟨_, rfl, ?_⟩))
    go_ret2
    exact ⟨by first | rfl | (simp; done) | (simp [*]; done), by repeat (first | exact Drawn0.refl _ | apply Drawn0.step)⟩
  · rw [if_neg c7] at H
    have c7b0 : (t239 == 0) = false := beq_eq_false_iff_ne.mpr c7
    have c7b1 : (t239 != 0) = true := bne_iff_ne.mpr c7
    by_cases c9 : t239 = 1
    · rw [if_pos c9] at H
      have c9b0 : (t239 == 1) = true := beq_iff_eq.mpr c9
      have c9b1 : (t239 != 1) = false := bne_eq_false_iff_eq.mpr c9
      clear c9
      replace H := Option.bind_eq_some_iff.mp H
      obtain ⟨t241, A100, H⟩ := H
      replace H : (some (t241, (t235 != 0))) = some (r1, r2) := H
      have A10 := Aside0.mk A100
      clear A100
      simp only [Option.some.injEq, Prod.mk.injEq] at H
      obtain ⟨rfl, rfl⟩ := H
      go_enter Try.func16, Try.ntmps16
      go_wp2_with (first | ((with_reducible refine gate_callee (f := 23) rfl ?_); refine goesL_ (some 10) rfl rfl Try.func23 (by kernel_rfl) rfl #[.int .u16 a0, .int .i64 11, .int .i64 7] rfl (by (try simp only [List.map_toArray, List.map_cons, List.map_nil]); first | done | rfl | (simp only [List.length_drop, List.length_take]; rfl)) ?_; (with_reducible refine (drawbridgeref02_f.calls k a0 11 7 t235 _ A2.out).mono ?_); rintro e w' ⟨rfl, ⟨nd, rfl⟩⟩; refine ⟨_, rfl, ?_⟩) | ((with_reducible refine gate_callee (f := 23) rfl ?_); refine goesL_ (some 12) rfl rfl Try.func23 (by kernel_rfl) rfl #[.int .u16 a0, .int .i64 12, .int .i64 12] rfl (by (try simp only [List.map_toArray, List.map_cons, List.map_nil]); first | done | rfl | (simp only [List.length_drop, List.length_take]; rfl)) ?_; (with_reducible refine (drawbridgeref02_f.calls k a0 12 12 t236 _ A3.out).mono ?_); rintro e w' ⟨rfl, ⟨nd, rfl⟩⟩; refine ⟨_, rfl, ?_⟩) | ((with_reducible refine gate_callee (f := 23) rfl ?_); refine goesL_ (some 15) rfl rfl Try.func23 (by kernel_rfl) rfl #[.int .u16 a0, .int .i64 6, .int .i64 2] rfl (by (try simp only [List.map_toArray, List.map_cons, List.map_nil]); first | done | rfl | (simp only [List.length_drop, List.length_take]; rfl)) ?_; (with_reducible refine (drawbridgeref02_f.calls k a0 6 2 t237 _ A4.out).mono ?_); rintro e w' ⟨rfl, ⟨nd, rfl⟩⟩; refine ⟨_, rfl, ?_⟩) | ((with_reducible refine gate_callee (f := 26) rfl ?_); refine goesL_ (some 17) rfl rfl Try.func26 (by kernel_rfl) rfl #[.int .u32 (Go.bits .or .u32 ((t236 * 32) % 4294967296) t237), .int .i64 6] rfl (by (try simp only [List.map_toArray, List.map_cons, List.map_nil]); first | done | rfl | (simp only [List.length_drop, List.length_take]; rfl)) ?_; (with_reducible refine (drawbridgeref02_sext.calls (Go.bits .or .u32 ((t236 * 32) % 4294967296) t237) 6 t238 _ A5.out).mono ?_); rintro e w' ⟨rfl, ⟨nd, rfl⟩⟩; refine ⟨_, rfl, ?_⟩) | ((with_reducible refine gate_callee (f := 23) rfl ?_); refine goesL_ (some 19) rfl rfl Try.func23 (by kernel_rfl) rfl #[.int .u16 a0, .int .i64 15, .int .i64 13] rfl (by (try simp only [List.map_toArray, List.map_cons, List.map_nil]); first | done | rfl | (simp only [List.length_drop, List.length_take]; rfl)) ?_; (with_reducible refine (drawbridgeref02_f.calls k a0 15 13 t239 _ A6.out).mono ?_); rintro e w' ⟨rfl, ⟨nd, rfl⟩⟩; refine ⟨_, rfl, ?_⟩) | ((with_reducible refine gate_callee (f := 24) rfl ?_); refine goesL_ (some 31) rfl rfl Try.func24 (by kernel_rfl) rfl #[.int .u32 t238, .int .u32 t235, .int .u32 0, .int .u32 t235, .int .u32 27] rfl (by (try simp only [List.map_toArray, List.map_cons, List.map_nil]); first | done | rfl | (simp only [List.length_drop, List.length_take]; rfl)) ?_; (with_reducible refine (drawbridgeref02_itype.calls t238 t235 0 t235 27 t241 _ A10.out).mono ?_); rintro e w' ⟨rfl, ⟨nd, rfl⟩⟩; refine ⟨_, rfl, ?_⟩))
      go_ret2
      exact ⟨by first | rfl | (simp; done) | (simp [*]; done), by repeat (first | exact Drawn0.refl _ | apply Drawn0.step)⟩
    · rw [if_neg c9] at H
      have c9b0 : (t239 == 1) = false := beq_eq_false_iff_ne.mpr c9
      have c9b1 : (t239 != 1) = true := bne_iff_ne.mpr c9
      by_cases c11 : t239 = 2
      · rw [if_pos c11] at H
        have c11b0 : (t239 == 2) = true := beq_iff_eq.mpr c11
        have c11b1 : (t239 != 2) = false := bne_eq_false_iff_eq.mpr c11
        clear c11
        replace H := Option.bind_eq_some_iff.mp H
        obtain ⟨t242, A120, H⟩ := H
        replace H : (some (t242, true)) = some (r1, r2) := H
        have A12 := Aside0.mk A120
        clear A120
        simp only [Option.some.injEq, Prod.mk.injEq] at H
        obtain ⟨rfl, rfl⟩ := H
        go_enter Try.func16, Try.ntmps16
        go_wp2_with (first | ((with_reducible refine gate_callee (f := 23) rfl ?_); refine goesL_ (some 10) rfl rfl Try.func23 (by kernel_rfl) rfl #[.int .u16 a0, .int .i64 11, .int .i64 7] rfl (by (try simp only [List.map_toArray, List.map_cons, List.map_nil]); first | done | rfl | (simp only [List.length_drop, List.length_take]; rfl)) ?_; (with_reducible refine (drawbridgeref02_f.calls k a0 11 7 t235 _ A2.out).mono ?_); rintro e w' ⟨rfl, ⟨nd, rfl⟩⟩; refine ⟨_, rfl, ?_⟩) | ((with_reducible refine gate_callee (f := 23) rfl ?_); refine goesL_ (some 12) rfl rfl Try.func23 (by kernel_rfl) rfl #[.int .u16 a0, .int .i64 12, .int .i64 12] rfl (by (try simp only [List.map_toArray, List.map_cons, List.map_nil]); first | done | rfl | (simp only [List.length_drop, List.length_take]; rfl)) ?_; (with_reducible refine (drawbridgeref02_f.calls k a0 12 12 t236 _ A3.out).mono ?_); rintro e w' ⟨rfl, ⟨nd, rfl⟩⟩; refine ⟨_, rfl, ?_⟩) | ((with_reducible refine gate_callee (f := 23) rfl ?_); refine goesL_ (some 15) rfl rfl Try.func23 (by kernel_rfl) rfl #[.int .u16 a0, .int .i64 6, .int .i64 2] rfl (by (try simp only [List.map_toArray, List.map_cons, List.map_nil]); first | done | rfl | (simp only [List.length_drop, List.length_take]; rfl)) ?_; (with_reducible refine (drawbridgeref02_f.calls k a0 6 2 t237 _ A4.out).mono ?_); rintro e w' ⟨rfl, ⟨nd, rfl⟩⟩; refine ⟨_, rfl, ?_⟩) | ((with_reducible refine gate_callee (f := 26) rfl ?_); refine goesL_ (some 17) rfl rfl Try.func26 (by kernel_rfl) rfl #[.int .u32 (Go.bits .or .u32 ((t236 * 32) % 4294967296) t237), .int .i64 6] rfl (by (try simp only [List.map_toArray, List.map_cons, List.map_nil]); first | done | rfl | (simp only [List.length_drop, List.length_take]; rfl)) ?_; (with_reducible refine (drawbridgeref02_sext.calls (Go.bits .or .u32 ((t236 * 32) % 4294967296) t237) 6 t238 _ A5.out).mono ?_); rintro e w' ⟨rfl, ⟨nd, rfl⟩⟩; refine ⟨_, rfl, ?_⟩) | ((with_reducible refine gate_callee (f := 23) rfl ?_); refine goesL_ (some 19) rfl rfl Try.func23 (by kernel_rfl) rfl #[.int .u16 a0, .int .i64 15, .int .i64 13] rfl (by (try simp only [List.map_toArray, List.map_cons, List.map_nil]); first | done | rfl | (simp only [List.length_drop, List.length_take]; rfl)) ?_; (with_reducible refine (drawbridgeref02_f.calls k a0 15 13 t239 _ A6.out).mono ?_); rintro e w' ⟨rfl, ⟨nd, rfl⟩⟩; refine ⟨_, rfl, ?_⟩) | ((with_reducible refine gate_callee (f := 24) rfl ?_); refine goesL_ (some 38) rfl rfl Try.func24 (by kernel_rfl) rfl #[.int .u32 t238, .int .u32 0, .int .u32 0, .int .u32 t235, .int .u32 19] rfl (by (try simp only [List.map_toArray, List.map_cons, List.map_nil]); first | done | rfl | (simp only [List.length_drop, List.length_take]; rfl)) ?_; (with_reducible refine (drawbridgeref02_itype.calls t238 0 0 t235 19 t242 _ A12.out).mono ?_); rintro e w' ⟨rfl, ⟨nd, rfl⟩⟩; refine ⟨_, rfl, ?_⟩))
        go_ret2
        exact ⟨by first | rfl | (simp; done) | (simp [*]; done), by repeat (first | exact Drawn0.refl _ | apply Drawn0.step)⟩
      · rw [if_neg c11] at H
        have c11b0 : (t239 == 2) = false := beq_eq_false_iff_ne.mpr c11
        have c11b1 : (t239 != 2) = true := bne_iff_ne.mpr c11
        by_cases c13 : t239 = 3
        · rw [if_pos c13] at H
          have c13b0 : (t239 == 3) = true := beq_iff_eq.mpr c13
          have c13b1 : (t239 != 3) = false := bne_eq_false_iff_eq.mpr c13
          clear c13
          by_cases c14 : t235 = 2
          · rw [if_pos c14] at H
            have c14b0 : (t235 == 2) = true := beq_iff_eq.mpr c14
            have c14b1 : (t235 != 2) = false := bne_eq_false_iff_eq.mpr c14
            clear c14
            replace H := Option.bind_eq_some_iff.mp H
            obtain ⟨t243, A150, H⟩ := H
            replace H : ((drawbridgeref02_f.f k a0 6 6).bind fun t244 => ((drawbridgeref02_f.f k a0 5 5).bind fun t245 => ((drawbridgeref02_f.f k a0 4 3).bind fun t246 => ((drawbridgeref02_f.f k a0 2 2).bind fun t247 => ((drawbridgeref02_sext.f (Go.bits .or .u32 (Go.bits .or .u32 (Go.bits .or .u32 (Go.bits .or .u32 ((t243 * 512) % 4294967296) ((t244 * 16) % 4294967296)) ((t245 * 64) % 4294967296)) ((t246 * 128) % 4294967296)) ((t247 * 32) % 4294967296)) 10).bind fun t248 => ((drawbridgeref02_itype.f t248 2 0 2 19).bind fun t249 => (some (t249, (t248 != 0))))))))) = some (r1, r2) := H
            have A15 := Aside0.mk A150
            clear A150
            replace H := Option.bind_eq_some_iff.mp H
            obtain ⟨t244, A160, H⟩ := H
            replace H : ((drawbridgeref02_f.f k a0 5 5).bind fun t245 => ((drawbridgeref02_f.f k a0 4 3).bind fun t246 => ((drawbridgeref02_f.f k a0 2 2).bind fun t247 => ((drawbridgeref02_sext.f (Go.bits .or .u32 (Go.bits .or .u32 (Go.bits .or .u32 (Go.bits .or .u32 ((t243 * 512) % 4294967296) ((t244 * 16) % 4294967296)) ((t245 * 64) % 4294967296)) ((t246 * 128) % 4294967296)) ((t247 * 32) % 4294967296)) 10).bind fun t248 => ((drawbridgeref02_itype.f t248 2 0 2 19).bind fun t249 => (some (t249, (t248 != 0)))))))) = some (r1, r2) := H
            have A16 := Aside0.mk A160
            clear A160
            replace H := Option.bind_eq_some_iff.mp H
            obtain ⟨t245, A170, H⟩ := H
            replace H : ((drawbridgeref02_f.f k a0 4 3).bind fun t246 => ((drawbridgeref02_f.f k a0 2 2).bind fun t247 => ((drawbridgeref02_sext.f (Go.bits .or .u32 (Go.bits .or .u32 (Go.bits .or .u32 (Go.bits .or .u32 ((t243 * 512) % 4294967296) ((t244 * 16) % 4294967296)) ((t245 * 64) % 4294967296)) ((t246 * 128) % 4294967296)) ((t247 * 32) % 4294967296)) 10).bind fun t248 => ((drawbridgeref02_itype.f t248 2 0 2 19).bind fun t249 => (some (t249, (t248 != 0))))))) = some (r1, r2) := H
            have A17 := Aside0.mk A170
            clear A170
            replace H := Option.bind_eq_some_iff.mp H
            obtain ⟨t246, A180, H⟩ := H
            replace H : ((drawbridgeref02_f.f k a0 2 2).bind fun t247 => ((drawbridgeref02_sext.f (Go.bits .or .u32 (Go.bits .or .u32 (Go.bits .or .u32 (Go.bits .or .u32 ((t243 * 512) % 4294967296) ((t244 * 16) % 4294967296)) ((t245 * 64) % 4294967296)) ((t246 * 128) % 4294967296)) ((t247 * 32) % 4294967296)) 10).bind fun t248 => ((drawbridgeref02_itype.f t248 2 0 2 19).bind fun t249 => (some (t249, (t248 != 0)))))) = some (r1, r2) := H
            have A18 := Aside0.mk A180
            clear A180
            replace H := Option.bind_eq_some_iff.mp H
            obtain ⟨t247, A190, H⟩ := H
            replace H : ((drawbridgeref02_sext.f (Go.bits .or .u32 (Go.bits .or .u32 (Go.bits .or .u32 (Go.bits .or .u32 ((t243 * 512) % 4294967296) ((t244 * 16) % 4294967296)) ((t245 * 64) % 4294967296)) ((t246 * 128) % 4294967296)) ((t247 * 32) % 4294967296)) 10).bind fun t248 => ((drawbridgeref02_itype.f t248 2 0 2 19).bind fun t249 => (some (t249, (t248 != 0))))) = some (r1, r2) := H
            have A19 := Aside0.mk A190
            clear A190
            replace H := Option.bind_eq_some_iff.mp H
            obtain ⟨t248, A200, H⟩ := H
            replace H : ((drawbridgeref02_itype.f t248 2 0 2 19).bind fun t249 => (some (t249, (t248 != 0)))) = some (r1, r2) := H
            have A20 := Aside0.mk A200
            clear A200
            replace H := Option.bind_eq_some_iff.mp H
            obtain ⟨t249, A210, H⟩ := H
            replace H : (some (t249, (t248 != 0))) = some (r1, r2) := H
            have A21 := Aside0.mk A210
            clear A210
            simp only [Option.some.injEq, Prod.mk.injEq] at H
            obtain ⟨rfl, rfl⟩ := H
            go_enter Try.func16, Try.ntmps16
            go_wp2_with (first | ((with_reducible refine gate_callee (f := 23) rfl ?_); refine goesL_ (some 10) rfl rfl Try.func23 (by kernel_rfl) rfl #[.int .u16 a0, .int .i64 11, .int .i64 7] rfl (by (try simp only [List.map_toArray, List.map_cons, List.map_nil]); first | done | rfl | (simp only [List.length_drop, List.length_take]; rfl)) ?_; (with_reducible refine (drawbridgeref02_f.calls k a0 11 7 t235 _ A2.out).mono ?_); rintro e w' ⟨rfl, ⟨nd, rfl⟩⟩; refine ⟨_, rfl, ?_⟩) | ((with_reducible refine gate_callee (f := 23) rfl ?_); refine goesL_ (some 12) rfl rfl Try.func23 (by kernel_rfl) rfl #[.int .u16 a0, .int .i64 12, .int .i64 12] rfl (by (try simp only [List.map_toArray, List.map_cons, List.map_nil]); first | done | rfl | (simp only [List.length_drop, List.length_take]; rfl)) ?_; (with_reducible refine (drawbridgeref02_f.calls k a0 12 12 t236 _ A3.out).mono ?_); rintro e w' ⟨rfl, ⟨nd, rfl⟩⟩; refine ⟨_, rfl, ?_⟩) | ((with_reducible refine gate_callee (f := 23) rfl ?_); refine goesL_ (some 15) rfl rfl Try.func23 (by kernel_rfl) rfl #[.int .u16 a0, .int .i64 6, .int .i64 2] rfl (by (try simp only [List.map_toArray, List.map_cons, List.map_nil]); first | done | rfl | (simp only [List.length_drop, List.length_take]; rfl)) ?_; (with_reducible refine (drawbridgeref02_f.calls k a0 6 2 t237 _ A4.out).mono ?_); rintro e w' ⟨rfl, ⟨nd, rfl⟩⟩; refine ⟨_, rfl, ?_⟩) | ((with_reducible refine gate_callee (f := 26) rfl ?_); refine goesL_ (some 17) rfl rfl Try.func26 (by kernel_rfl) rfl #[.int .u32 (Go.bits .or .u32 ((t236 * 32) % 4294967296) t237), .int .i64 6] rfl (by (try simp only [List.map_toArray, List.map_cons, List.map_nil]); first | done | rfl | (simp only [List.length_drop, List.length_take]; rfl)) ?_; (with_reducible refine (drawbridgeref02_sext.calls (Go.bits .or .u32 ((t236 * 32) % 4294967296) t237) 6 t238 _ A5.out).mono ?_); rintro e w' ⟨rfl, ⟨nd, rfl⟩⟩; refine ⟨_, rfl, ?_⟩) | ((with_reducible refine gate_callee (f := 23) rfl ?_); refine goesL_ (some 19) rfl rfl Try.func23 (by kernel_rfl) rfl #[.int .u16 a0, .int .i64 15, .int .i64 13] rfl (by (try simp only [List.map_toArray, List.map_cons, List.map_nil]); first | done | rfl | (simp only [List.length_drop, List.length_take]; rfl)) ?_; (with_reducible refine (drawbridgeref02_f.calls k a0 15 13 t239 _ A6.out).mono ?_); rintro e w' ⟨rfl, ⟨nd, rfl⟩⟩; refine ⟨_, rfl, ?_⟩) | ((with_reducible refine gate_callee (f := 23) rfl ?_); refine goesL_ (some 44) rfl rfl Try.func23 (by kernel_rfl) rfl #[.int .u16 a0, .int .i64 12, .int .i64 12] rfl (by (try simp only [List.map_toArray, List.map_cons, List.map_nil]); first | done | rfl | (simp only [List.length_drop, List.length_take]; rfl)) ?_; (with_reducible refine (drawbridgeref02_f.calls k a0 12 12 t243 _ A15.out).mono ?_); rintro e w' ⟨rfl, ⟨nd, rfl⟩⟩; refine ⟨_, rfl, ?_⟩) | ((with_reducible refine gate_callee (f := 23) rfl ?_); refine goesL_ (some 47) rfl rfl Try.func23 (by kernel_rfl) rfl #[.int .u16 a0, .int .i64 6, .int .i64 6] rfl (by (try simp only [List.map_toArray, List.map_cons, List.map_nil]); first | done | rfl | (simp only [List.length_drop, List.length_take]; rfl)) ?_; (with_reducible refine (drawbridgeref02_f.calls k a0 6 6 t244 _ A16.out).mono ?_); rintro e w' ⟨rfl, ⟨nd, rfl⟩⟩; refine ⟨_, rfl, ?_⟩) | ((with_reducible refine gate_callee (f := 23) rfl ?_); refine goesL_ (some 51) rfl rfl Try.func23 (by kernel_rfl) rfl #[.int .u16 a0, .int .i64 5, .int .i64 5] rfl (by (try simp only [List.map_toArray, List.map_cons, List.map_nil]); first | done | rfl | (simp only [List.length_drop, List.length_take]; rfl)) ?_; (with_reducible refine (drawbridgeref02_f.calls k a0 5 5 t245 _ A17.out).mono ?_); rintro e w' ⟨rfl, ⟨nd, rfl⟩⟩; refine ⟨_, rfl, ?_⟩) | ((with_reducible refine gate_callee (f := 23) rfl ?_); refine goesL_ (some 55) rfl rfl Try.func23 (by kernel_rfl) rfl #[.int .u16 a0, .int .i64 4, .int .i64 3] rfl (by (try simp only [List.map_toArray, List.map_cons, List.map_nil]); first | done | rfl | (simp only [List.length_drop, List.length_take]; rfl)) ?_; (with_reducible refine (drawbridgeref02_f.calls k a0 4 3 t246 _ A18.out).mono ?_); rintro e w' ⟨rfl, ⟨nd, rfl⟩⟩; refine ⟨_, rfl, ?_⟩) | ((with_reducible refine gate_callee (f := 23) rfl ?_); refine goesL_ (some 59) rfl rfl Try.func23 (by kernel_rfl) rfl #[.int .u16 a0, .int .i64 2, .int .i64 2] rfl (by (try simp only [List.map_toArray, List.map_cons, List.map_nil]); first | done | rfl | (simp only [List.length_drop, List.length_take]; rfl)) ?_; (with_reducible refine (drawbridgeref02_f.calls k a0 2 2 t247 _ A19.out).mono ?_); rintro e w' ⟨rfl, ⟨nd, rfl⟩⟩; refine ⟨_, rfl, ?_⟩) | ((with_reducible refine gate_callee (f := 26) rfl ?_); refine goesL_ (some 62) rfl rfl Try.func26 (by kernel_rfl) rfl #[.int .u32 (Go.bits .or .u32 (Go.bits .or .u32 (Go.bits .or .u32 (Go.bits .or .u32 ((t243 * 512) % 4294967296) ((t244 * 16) % 4294967296)) ((t245 * 64) % 4294967296)) ((t246 * 128) % 4294967296)) ((t247 * 32) % 4294967296)), .int .i64 10] rfl (by (try simp only [List.map_toArray, List.map_cons, List.map_nil]); first | done | rfl | (simp only [List.length_drop, List.length_take]; rfl)) ?_; (with_reducible refine (drawbridgeref02_sext.calls (Go.bits .or .u32 (Go.bits .or .u32 (Go.bits .or .u32 (Go.bits .or .u32 ((t243 * 512) % 4294967296) ((t244 * 16) % 4294967296)) ((t245 * 64) % 4294967296)) ((t246 * 128) % 4294967296)) ((t247 * 32) % 4294967296)) 10 t248 _ A20.out).mono ?_); rintro e w' ⟨rfl, ⟨nd, rfl⟩⟩; refine ⟨_, rfl, ?_⟩) | ((with_reducible refine gate_callee (f := 24) rfl ?_); refine goesL_ (some 64) rfl rfl Try.func24 (by kernel_rfl) rfl #[.int .u32 t248, .int .u32 2, .int .u32 0, .int .u32 2, .int .u32 19] rfl (by (try simp only [List.map_toArray, List.map_cons, List.map_nil]); first | done | rfl | (simp only [List.length_drop, List.length_take]; rfl)) ?_; (with_reducible refine (drawbridgeref02_itype.calls t248 2 0 2 19 t249 _ A21.out).mono ?_); rintro e w' ⟨rfl, ⟨nd, rfl⟩⟩; refine ⟨_, rfl, ?_⟩))
            go_ret2
            exact ⟨by first | rfl | (simp; done) | (simp [*]; done), by repeat (first | exact Drawn0.refl _ | apply Drawn0.step)⟩
          · rw [if_neg c14] at H
            have c14b0 : (t235 == 2) = false := beq_eq_false_iff_ne.mpr c14
            have c14b1 : (t235 != 2) = true := bne_iff_ne.mpr c14
            simp only [Option.some.injEq, Prod.mk.injEq] at H
            obtain ⟨rfl, rfl⟩ := H
            go_enter Try.func16, Try.ntmps16
            go_wp2_with (first | ((with_reducible refine gate_callee (f := 23) rfl ?_); refine goesL_ (some 10) rfl rfl Try.func23 (by kernel_rfl) rfl #[.int .u16 a0, .int .i64 11, .int .i64 7] rfl (by (try simp only [List.map_toArray, List.map_cons, List.map_nil]); first | done | rfl | (simp only [List.length_drop, List.length_take]; rfl)) ?_; (with_reducible refine (drawbridgeref02_f.calls k a0 11 7 t235 _ A2.out).mono ?_); rintro e w' ⟨rfl, ⟨nd, rfl⟩⟩; refine ⟨_, rfl, ?_⟩) | ((with_reducible refine gate_callee (f := 23) rfl ?_); refine goesL_ (some 12) rfl rfl Try.func23 (by kernel_rfl) rfl #[.int .u16 a0, .int .i64 12, .int .i64 12] rfl (by (try simp only [List.map_toArray, List.map_cons, List.map_nil]); first | done | rfl | (simp only [List.length_drop, List.length_take]; rfl)) ?_; (with_reducible refine (drawbridgeref02_f.calls k a0 12 12 t236 _ A3.out).mono ?_); rintro e w' ⟨rfl, ⟨nd, rfl⟩⟩; refine ⟨_, rfl, ?_⟩) | ((with_reducible refine gate_callee (f := 23) rfl ?_); refine goesL_ (some 15) rfl rfl Try.func23 (by kernel_rfl) rfl #[.int .u16 a0, .int .i64 6, .int .i64 2] rfl (by (try simp only [List.map_toArray, List.map_cons, List.map_nil]); first | done | rfl | (simp only [List.length_drop, List.length_take]; rfl)) ?_; (with_reducible refine (drawbridgeref02_f.calls k a0 6 2 t237 _ A4.out).mono ?_); rintro e w' ⟨rfl, ⟨nd, rfl⟩⟩; refine ⟨_, rfl, ?_⟩) | ((with_reducible refine gate_callee (f := 26) rfl ?_); refine goesL_ (some 17) rfl rfl Try.func26 (by kernel_rfl) rfl #[.int .u32 (Go.bits .or .u32 ((t236 * 32) % 4294967296) t237), .int .i64 6] rfl (by (try simp only [List.map_toArray, List.map_cons, List.map_nil]); first | done | rfl | (simp only [List.length_drop, List.length_take]; rfl)) ?_; (with_reducible refine (drawbridgeref02_sext.calls (Go.bits .or .u32 ((t236 * 32) % 4294967296) t237) 6 t238 _ A5.out).mono ?_); rintro e w' ⟨rfl, ⟨nd, rfl⟩⟩; refine ⟨_, rfl, ?_⟩) | ((with_reducible refine gate_callee (f := 23) rfl ?_); refine goesL_ (some 19) rfl rfl Try.func23 (by kernel_rfl) rfl #[.int .u16 a0, .int .i64 15, .int .i64 13] rfl (by (try simp only [List.map_toArray, List.map_cons, List.map_nil]); first | done | rfl | (simp only [List.length_drop, List.length_take]; rfl)) ?_; (with_reducible refine (drawbridgeref02_f.calls k a0 15 13 t239 _ A6.out).mono ?_); rintro e w' ⟨rfl, ⟨nd, rfl⟩⟩; refine ⟨_, rfl, ?_⟩))
            go_ret2
            exact ⟨by first | rfl | (simp; done) | (simp [*]; done), by repeat (first | exact Drawn0.refl _ | apply Drawn0.step)⟩
        · rw [if_neg c13] at H
          have c13b0 : (t239 == 3) = false := beq_eq_false_iff_ne.mpr c13
          have c13b1 : (t239 != 3) = true := bne_iff_ne.mpr c13
          by_cases c22 : t239 = 4
          · rw [if_pos c22] at H
            have c22b0 : (t239 == 4) = true := beq_iff_eq.mpr c22
            have c22b1 : (t239 != 4) = false := bne_eq_false_iff_eq.mpr c22
            clear c22
            replace H := Option.bind_eq_some_iff.mp H
            obtain ⟨⟨t250, t251⟩, A230, H⟩ := H
            replace H : (some (t250, t251)) = some (r1, r2) := H
            have A23 := Aside0.mk A230
            clear A230
            simp only [Option.some.injEq, Prod.mk.injEq] at H
            obtain ⟨rfl, rfl⟩ := H
            go_enter Try.func16, Try.ntmps16
            go_wp2_with (first | ((with_reducible refine gate_callee (f := 23) rfl ?_); refine goesL_ (some 10) rfl rfl Try.func23 (by kernel_rfl) rfl #[.int .u16 a0, .int .i64 11, .int .i64 7] rfl (by (try simp only [List.map_toArray, List.map_cons, List.map_nil]); first | done | rfl | (simp only [List.length_drop, List.length_take]; rfl)) ?_; (with_reducible refine (drawbridgeref02_f.calls k a0 11 7 t235 _ A2.out).mono ?_); rintro e w' ⟨rfl, ⟨nd, rfl⟩⟩; refine ⟨_, rfl, ?_⟩) | ((with_reducible refine gate_callee (f := 23) rfl ?_); refine goesL_ (some 12) rfl rfl Try.func23 (by kernel_rfl) rfl #[.int .u16 a0, .int .i64 12, .int .i64 12] rfl (by (try simp only [List.map_toArray, List.map_cons, List.map_nil]); first | done | rfl | (simp only [List.length_drop, List.length_take]; rfl)) ?_; (with_reducible refine (drawbridgeref02_f.calls k a0 12 12 t236 _ A3.out).mono ?_); rintro e w' ⟨rfl, ⟨nd, rfl⟩⟩; refine ⟨_, rfl, ?_⟩) | ((with_reducible refine gate_callee (f := 23) rfl ?_); refine goesL_ (some 15) rfl rfl Try.func23 (by kernel_rfl) rfl #[.int .u16 a0, .int .i64 6, .int .i64 2] rfl (by (try simp only [List.map_toArray, List.map_cons, List.map_nil]); first | done | rfl | (simp only [List.length_drop, List.length_take]; rfl)) ?_; (with_reducible refine (drawbridgeref02_f.calls k a0 6 2 t237 _ A4.out).mono ?_); rintro e w' ⟨rfl, ⟨nd, rfl⟩⟩; refine ⟨_, rfl, ?_⟩) | ((with_reducible refine gate_callee (f := 26) rfl ?_); refine goesL_ (some 17) rfl rfl Try.func26 (by kernel_rfl) rfl #[.int .u32 (Go.bits .or .u32 ((t236 * 32) % 4294967296) t237), .int .i64 6] rfl (by (try simp only [List.map_toArray, List.map_cons, List.map_nil]); first | done | rfl | (simp only [List.length_drop, List.length_take]; rfl)) ?_; (with_reducible refine (drawbridgeref02_sext.calls (Go.bits .or .u32 ((t236 * 32) % 4294967296) t237) 6 t238 _ A5.out).mono ?_); rintro e w' ⟨rfl, ⟨nd, rfl⟩⟩; refine ⟨_, rfl, ?_⟩) | ((with_reducible refine gate_callee (f := 23) rfl ?_); refine goesL_ (some 19) rfl rfl Try.func23 (by kernel_rfl) rfl #[.int .u16 a0, .int .i64 15, .int .i64 13] rfl (by (try simp only [List.map_toArray, List.map_cons, List.map_nil]); first | done | rfl | (simp only [List.length_drop, List.length_take]; rfl)) ?_; (with_reducible refine (drawbridgeref02_f.calls k a0 15 13 t239 _ A6.out).mono ?_); rintro e w' ⟨rfl, ⟨nd, rfl⟩⟩; refine ⟨_, rfl, ?_⟩) | ((with_reducible refine gate_callee (f := 27) rfl ?_); refine goesL_ (some 78) rfl rfl Try.func27 (by kernel_rfl) rfl #[.int .u16 a0] rfl (by (try simp only [List.map_toArray, List.map_cons, List.map_nil]); first | done | rfl | (simp only [List.length_drop, List.length_take]; rfl)) ?_; (with_reducible refine (drawbridgeref02_sums.calls k a0 t250 t251 _ A23.out).mono ?_); rintro e w' ⟨rfl, ⟨nd, rfl⟩⟩; refine ⟨_, rfl, ?_⟩))
            go_ret2
            exact ⟨by first | rfl | (simp; done) | (simp [*]; done), by repeat (first | exact Drawn0.refl _ | apply Drawn0.step)⟩
          · rw [if_neg c22] at H
            have c22b0 : (t239 == 4) = false := beq_eq_false_iff_ne.mpr c22
            have c22b1 : (t239 != 4) = true := bne_iff_ne.mpr c22
            by_cases c24 : t239 = 5
            · rw [if_pos c24] at H
              have c24b0 : (t239 == 5) = true := beq_iff_eq.mpr c24
              have c24b1 : (t239 != 5) = false := bne_eq_false_iff_eq.mpr c24
              clear c24
              replace H := Option.bind_eq_some_iff.mp H
              obtain ⟨t252, A250, H⟩ := H
              replace H : ((drawbridgeref02_f.f k a0 11 11).bind fun t253 => ((drawbridgeref02_f.f k a0 10 9).bind fun t254 => ((drawbridgeref02_f.f k a0 8 8).bind fun t255 => ((drawbridgeref02_f.f k a0 7 7).bind fun t256 => ((drawbridgeref02_f.f k a0 6 6).bind fun t257 => ((drawbridgeref02_f.f k a0 5 3).bind fun t258 => ((drawbridgeref02_f.f k a0 2 2).bind fun t259 => ((drawbridgeref02_sext.f (Go.bits .or .u32 (Go.bits .or .u32 (Go.bits .or .u32 (Go.bits .or .u32 (Go.bits .or .u32 (Go.bits .or .u32 (Go.bits .or .u32 ((t252 * 2048) % 4294967296) ((t253 * 16) % 4294967296)) ((t254 * 256) % 4294967296)) ((t255 * 1024) % 4294967296)) ((t256 * 64) % 4294967296)) ((t257 * 128) % 4294967296)) ((t258 * 2) % 4294967296)) ((t259 * 32) % 4294967296)) 12).bind fun t260 => ((drawbridgeref02_jtype.f t260 0).bind fun t261 => (some (t261, true))))))))))) = some (r1, r2) := H
              have A25 := Aside0.mk A250
              clear A250
              replace H := Option.bind_eq_some_iff.mp H
              obtain ⟨t253, A260, H⟩ := H
              replace H : ((drawbridgeref02_f.f k a0 10 9).bind fun t254 => ((drawbridgeref02_f.f k a0 8 8).bind fun t255 => ((drawbridgeref02_f.f k a0 7 7).bind fun t256 => ((drawbridgeref02_f.f k a0 6 6).bind fun t257 => ((drawbridgeref02_f.f k a0 5 3).bind fun t258 => ((drawbridgeref02_f.f k a0 2 2).bind fun t259 => ((drawbridgeref02_sext.f (Go.bits .or .u32 (Go.bits .or .u32 (Go.bits .or .u32 (Go.bits .or .u32 (Go.bits .or .u32 (Go.bits .or .u32 (Go.bits .or .u32 ((t252 * 2048) % 4294967296) ((t253 * 16) % 4294967296)) ((t254 * 256) % 4294967296)) ((t255 * 1024) % 4294967296)) ((t256 * 64) % 4294967296)) ((t257 * 128) % 4294967296)) ((t258 * 2) % 4294967296)) ((t259 * 32) % 4294967296)) 12).bind fun t260 => ((drawbridgeref02_jtype.f t260 0).bind fun t261 => (some (t261, true)))))))))) = some (r1, r2) := H
              have A26 := Aside0.mk A260
              clear A260
              replace H := Option.bind_eq_some_iff.mp H
              obtain ⟨t254, A270, H⟩ := H
              replace H : ((drawbridgeref02_f.f k a0 8 8).bind fun t255 => ((drawbridgeref02_f.f k a0 7 7).bind fun t256 => ((drawbridgeref02_f.f k a0 6 6).bind fun t257 => ((drawbridgeref02_f.f k a0 5 3).bind fun t258 => ((drawbridgeref02_f.f k a0 2 2).bind fun t259 => ((drawbridgeref02_sext.f (Go.bits .or .u32 (Go.bits .or .u32 (Go.bits .or .u32 (Go.bits .or .u32 (Go.bits .or .u32 (Go.bits .or .u32 (Go.bits .or .u32 ((t252 * 2048) % 4294967296) ((t253 * 16) % 4294967296)) ((t254 * 256) % 4294967296)) ((t255 * 1024) % 4294967296)) ((t256 * 64) % 4294967296)) ((t257 * 128) % 4294967296)) ((t258 * 2) % 4294967296)) ((t259 * 32) % 4294967296)) 12).bind fun t260 => ((drawbridgeref02_jtype.f t260 0).bind fun t261 => (some (t261, true))))))))) = some (r1, r2) := H
              have A27 := Aside0.mk A270
              clear A270
              replace H := Option.bind_eq_some_iff.mp H
              obtain ⟨t255, A280, H⟩ := H
              replace H : ((drawbridgeref02_f.f k a0 7 7).bind fun t256 => ((drawbridgeref02_f.f k a0 6 6).bind fun t257 => ((drawbridgeref02_f.f k a0 5 3).bind fun t258 => ((drawbridgeref02_f.f k a0 2 2).bind fun t259 => ((drawbridgeref02_sext.f (Go.bits .or .u32 (Go.bits .or .u32 (Go.bits .or .u32 (Go.bits .or .u32 (Go.bits .or .u32 (Go.bits .or .u32 (Go.bits .or .u32 ((t252 * 2048) % 4294967296) ((t253 * 16) % 4294967296)) ((t254 * 256) % 4294967296)) ((t255 * 1024) % 4294967296)) ((t256 * 64) % 4294967296)) ((t257 * 128) % 4294967296)) ((t258 * 2) % 4294967296)) ((t259 * 32) % 4294967296)) 12).bind fun t260 => ((drawbridgeref02_jtype.f t260 0).bind fun t261 => (some (t261, true)))))))) = some (r1, r2) := H
              have A28 := Aside0.mk A280
              clear A280
              replace H := Option.bind_eq_some_iff.mp H
              obtain ⟨t256, A290, H⟩ := H
              replace H : ((drawbridgeref02_f.f k a0 6 6).bind fun t257 => ((drawbridgeref02_f.f k a0 5 3).bind fun t258 => ((drawbridgeref02_f.f k a0 2 2).bind fun t259 => ((drawbridgeref02_sext.f (Go.bits .or .u32 (Go.bits .or .u32 (Go.bits .or .u32 (Go.bits .or .u32 (Go.bits .or .u32 (Go.bits .or .u32 (Go.bits .or .u32 ((t252 * 2048) % 4294967296) ((t253 * 16) % 4294967296)) ((t254 * 256) % 4294967296)) ((t255 * 1024) % 4294967296)) ((t256 * 64) % 4294967296)) ((t257 * 128) % 4294967296)) ((t258 * 2) % 4294967296)) ((t259 * 32) % 4294967296)) 12).bind fun t260 => ((drawbridgeref02_jtype.f t260 0).bind fun t261 => (some (t261, true))))))) = some (r1, r2) := H
              have A29 := Aside0.mk A290
              clear A290
              replace H := Option.bind_eq_some_iff.mp H
              obtain ⟨t257, A300, H⟩ := H
              replace H : ((drawbridgeref02_f.f k a0 5 3).bind fun t258 => ((drawbridgeref02_f.f k a0 2 2).bind fun t259 => ((drawbridgeref02_sext.f (Go.bits .or .u32 (Go.bits .or .u32 (Go.bits .or .u32 (Go.bits .or .u32 (Go.bits .or .u32 (Go.bits .or .u32 (Go.bits .or .u32 ((t252 * 2048) % 4294967296) ((t253 * 16) % 4294967296)) ((t254 * 256) % 4294967296)) ((t255 * 1024) % 4294967296)) ((t256 * 64) % 4294967296)) ((t257 * 128) % 4294967296)) ((t258 * 2) % 4294967296)) ((t259 * 32) % 4294967296)) 12).bind fun t260 => ((drawbridgeref02_jtype.f t260 0).bind fun t261 => (some (t261, true)))))) = some (r1, r2) := H
              have A30 := Aside0.mk A300
              clear A300
              replace H := Option.bind_eq_some_iff.mp H
              obtain ⟨t258, A310, H⟩ := H
              replace H : ((drawbridgeref02_f.f k a0 2 2).bind fun t259 => ((drawbridgeref02_sext.f (Go.bits .or .u32 (Go.bits .or .u32 (Go.bits .or .u32 (Go.bits .or .u32 (Go.bits .or .u32 (Go.bits .or .u32 (Go.bits .or .u32 ((t252 * 2048) % 4294967296) ((t253 * 16) % 4294967296)) ((t254 * 256) % 4294967296)) ((t255 * 1024) % 4294967296)) ((t256 * 64) % 4294967296)) ((t257 * 128) % 4294967296)) ((t258 * 2) % 4294967296)) ((t259 * 32) % 4294967296)) 12).bind fun t260 => ((drawbridgeref02_jtype.f t260 0).bind fun t261 => (some (t261, true))))) = some (r1, r2) := H
              have A31 := Aside0.mk A310
              clear A310
              replace H := Option.bind_eq_some_iff.mp H
              obtain ⟨t259, A320, H⟩ := H
              replace H : ((drawbridgeref02_sext.f (Go.bits .or .u32 (Go.bits .or .u32 (Go.bits .or .u32 (Go.bits .or .u32 (Go.bits .or .u32 (Go.bits .or .u32 (Go.bits .or .u32 ((t252 * 2048) % 4294967296) ((t253 * 16) % 4294967296)) ((t254 * 256) % 4294967296)) ((t255 * 1024) % 4294967296)) ((t256 * 64) % 4294967296)) ((t257 * 128) % 4294967296)) ((t258 * 2) % 4294967296)) ((t259 * 32) % 4294967296)) 12).bind fun t260 => ((drawbridgeref02_jtype.f t260 0).bind fun t261 => (some (t261, true)))) = some (r1, r2) := H
              have A32 := Aside0.mk A320
              clear A320
              replace H := Option.bind_eq_some_iff.mp H
              obtain ⟨t260, A330, H⟩ := H
              replace H : ((drawbridgeref02_jtype.f t260 0).bind fun t261 => (some (t261, true))) = some (r1, r2) := H
              have A33 := Aside0.mk A330
              clear A330
              replace H := Option.bind_eq_some_iff.mp H
              obtain ⟨t261, A340, H⟩ := H
              replace H : (some (t261, true)) = some (r1, r2) := H
              have A34 := Aside0.mk A340
              clear A340
              simp only [Option.some.injEq, Prod.mk.injEq] at H
              obtain ⟨rfl, rfl⟩ := H
              go_enter Try.func16, Try.ntmps16
              go_wp2_with (first | ((with_reducible refine gate_callee (f := 23) rfl ?_); refine goesL_ (some 10) rfl rfl Try.func23 (by kernel_rfl) rfl #[.int .u16 a0, .int .i64 11, .int .i64 7] rfl (by (try simp only [List.map_toArray, List.map_cons, List.map_nil]); first | done | rfl | (simp only [List.length_drop, List.length_take]; rfl)) ?_; (with_reducible refine (drawbridgeref02_f.calls k a0 11 7 t235 _ A2.out).mono ?_); rintro e w' ⟨rfl, ⟨nd, rfl⟩⟩; refine ⟨_, rfl, ?_⟩) | ((with_reducible refine gate_callee (f := 23) rfl ?_); refine goesL_ (some 12) rfl rfl Try.func23 (by kernel_rfl) rfl #[.int .u16 a0, .int .i64 12, .int .i64 12] rfl (by (try simp only [List.map_toArray, List.map_cons, List.map_nil]); first | done | rfl | (simp only [List.length_drop, List.length_take]; rfl)) ?_; (with_reducible refine (drawbridgeref02_f.calls k a0 12 12 t236 _ A3.out).mono ?_); rintro e w' ⟨rfl, ⟨nd, rfl⟩⟩; refine ⟨_, rfl, ?_⟩) | ((with_reducible refine gate_callee (f := 23) rfl ?_); refine goesL_ (some 15) rfl rfl Try.func23 (by kernel_rfl) rfl #[.int .u16 a0, .int .i64 6, .int .i64 2] rfl (by (try simp only [List.map_toArray, List.map_cons, List.map_nil]); first | done | rfl | (simp only [List.length_drop, List.length_take]; rfl)) ?_; (with_reducible refine (drawbridgeref02_f.calls k a0 6 2 t237 _ A4.out).mono ?_); rintro e w' ⟨rfl, ⟨nd, rfl⟩⟩; refine ⟨_, rfl, ?_⟩) | ((with_reducible refine gate_callee (f := 26) rfl ?_); refine goesL_ (some 17) rfl rfl Try.func26 (by kernel_rfl) rfl #[.int .u32 (Go.bits .or .u32 ((t236 * 32) % 4294967296) t237), .int .i64 6] rfl (by (try simp only [List.map_toArray, List.map_cons, List.map_nil]); first | done | rfl | (simp only [List.length_drop, List.length_take]; rfl)) ?_; (with_reducible refine (drawbridgeref02_sext.calls (Go.bits .or .u32 ((t236 * 32) % 4294967296) t237) 6 t238 _ A5.out).mono ?_); rintro e w' ⟨rfl, ⟨nd, rfl⟩⟩; refine ⟨_, rfl, ?_⟩) | ((with_reducible refine gate_callee (f := 23) rfl ?_); refine goesL_ (some 19) rfl rfl Try.func23 (by kernel_rfl) rfl #[.int .u16 a0, .int .i64 15, .int .i64 13] rfl (by (try simp only [List.map_toArray, List.map_cons, List.map_nil]); first | done | rfl | (simp only [List.length_drop, List.length_take]; rfl)) ?_; (with_reducible refine (drawbridgeref02_f.calls k a0 15 13 t239 _ A6.out).mono ?_); rintro e w' ⟨rfl, ⟨nd, rfl⟩⟩; refine ⟨_, rfl, ?_⟩) | ((with_reducible refine gate_callee (f := 23) rfl ?_); refine goesL_ (some 84) rfl rfl Try.func23 (by kernel_rfl) rfl #[.int .u16 a0, .int .i64 12, .int .i64 12] rfl (by (try simp only [List.map_toArray, List.map_cons, List.map_nil]); first | done | rfl | (simp only [List.length_drop, List.length_take]; rfl)) ?_; (with_reducible refine (drawbridgeref02_f.calls k a0 12 12 t252 _ A25.out).mono ?_); rintro e w' ⟨rfl, ⟨nd, rfl⟩⟩; refine ⟨_, rfl, ?_⟩) | ((with_reducible refine gate_callee (f := 23) rfl ?_); refine goesL_ (some 87) rfl rfl Try.func23 (by kernel_rfl) rfl #[.int .u16 a0, .int .i64 11, .int .i64 11] rfl (by (try simp only [List.map_toArray, List.map_cons, List.map_nil]); first | done | rfl | (simp only [List.length_drop, List.length_take]; rfl)) ?_; (with_reducible refine (drawbridgeref02_f.calls k a0 11 11 t253 _ A26.out).mono ?_); rintro e w' ⟨rfl, ⟨nd, rfl⟩⟩; refine ⟨_, rfl, ?_⟩) | ((with_reducible refine gate_callee (f := 23) rfl ?_); refine goesL_ (some 91) rfl rfl Try.func23 (by kernel_rfl) rfl #[.int .u16 a0, .int .i64 10, .int .i64 9] rfl (by (try simp only [List.map_toArray, List.map_cons, List.map_nil]); first | done | rfl | (simp only [List.length_drop, List.length_take]; rfl)) ?_; (with_reducible refine (drawbridgeref02_f.calls k a0 10 9 t254 _ A27.out).mono ?_); rintro e w' ⟨rfl, ⟨nd, rfl⟩⟩; refine ⟨_, rfl, ?_⟩) | ((with_reducible refine gate_callee (f := 23) rfl ?_); refine goesL_ (some 95) rfl rfl Try.func23 (by kernel_rfl) rfl #[.int .u16 a0, .int .i64 8, .int .i64 8] rfl (by (try simp only [List.map_toArray, List.map_cons, List.map_nil]); first | done | rfl | (simp only [List.length_drop, List.length_take]; rfl)) ?_; (with_reducible refine (drawbridgeref02_f.calls k a0 8 8 t255 _ A28.out).mono ?_); rintro e w' ⟨rfl, ⟨nd, rfl⟩⟩; refine ⟨_, rfl, ?_⟩) | ((with_reducible refine gate_callee (f := 23) rfl ?_); refine goesL_ (some 99) rfl rfl Try.func23 (by kernel_rfl) rfl #[.int .u16 a0, .int .i64 7, .int .i64 7] rfl (by (try simp only [List.map_toArray, List.map_cons, List.map_nil]); first | done | rfl | (simp only [List.length_drop, List.length_take]; rfl)) ?_; (with_reducible refine (drawbridgeref02_f.calls k a0 7 7 t256 _ A29.out).mono ?_); rintro e w' ⟨rfl, ⟨nd, rfl⟩⟩; refine ⟨_, rfl, ?_⟩) | ((with_reducible refine gate_callee (f := 23) rfl ?_); refine goesL_ (some 103) rfl rfl Try.func23 (by kernel_rfl) rfl #[.int .u16 a0, .int .i64 6, .int .i64 6] rfl (by (try simp only [List.map_toArray, List.map_cons, List.map_nil]); first | done | rfl | (simp only [List.length_drop, List.length_take]; rfl)) ?_; (with_reducible refine (drawbridgeref02_f.calls k a0 6 6 t257 _ A30.out).mono ?_); rintro e w' ⟨rfl, ⟨nd, rfl⟩⟩; refine ⟨_, rfl, ?_⟩) | ((with_reducible refine gate_callee (f := 23) rfl ?_); refine goesL_ (some 107) rfl rfl Try.func23 (by kernel_rfl) rfl #[.int .u16 a0, .int .i64 5, .int .i64 3] rfl (by (try simp only [List.map_toArray, List.map_cons, List.map_nil]); first | done | rfl | (simp only [List.length_drop, List.length_take]; rfl)) ?_; (with_reducible refine (drawbridgeref02_f.calls k a0 5 3 t258 _ A31.out).mono ?_); rintro e w' ⟨rfl, ⟨nd, rfl⟩⟩; refine ⟨_, rfl, ?_⟩) | ((with_reducible refine gate_callee (f := 23) rfl ?_); refine goesL_ (some 111) rfl rfl Try.func23 (by kernel_rfl) rfl #[.int .u16 a0, .int .i64 2, .int .i64 2] rfl (by (try simp only [List.map_toArray, List.map_cons, List.map_nil]); first | done | rfl | (simp only [List.length_drop, List.length_take]; rfl)) ?_; (with_reducible refine (drawbridgeref02_f.calls k a0 2 2 t259 _ A32.out).mono ?_); rintro e w' ⟨rfl, ⟨nd, rfl⟩⟩; refine ⟨_, rfl, ?_⟩) | ((with_reducible refine gate_callee (f := 26) rfl ?_); refine goesL_ (some 115) rfl rfl Try.func26 (by kernel_rfl) rfl #[.int .u32 (Go.bits .or .u32 (Go.bits .or .u32 (Go.bits .or .u32 (Go.bits .or .u32 (Go.bits .or .u32 (Go.bits .or .u32 (Go.bits .or .u32 ((t252 * 2048) % 4294967296) ((t253 * 16) % 4294967296)) ((t254 * 256) % 4294967296)) ((t255 * 1024) % 4294967296)) ((t256 * 64) % 4294967296)) ((t257 * 128) % 4294967296)) ((t258 * 2) % 4294967296)) ((t259 * 32) % 4294967296)), .int .i64 12] rfl (by (try simp only [List.map_toArray, List.map_cons, List.map_nil]); first | done | rfl | (simp only [List.length_drop, List.length_take]; rfl)) ?_; (with_reducible refine (drawbridgeref02_sext.calls (Go.bits .or .u32 (Go.bits .or .u32 (Go.bits .or .u32 (Go.bits .or .u32 (Go.bits .or .u32 (Go.bits .or .u32 (Go.bits .or .u32 ((t252 * 2048) % 4294967296) ((t253 * 16) % 4294967296)) ((t254 * 256) % 4294967296)) ((t255 * 1024) % 4294967296)) ((t256 * 64) % 4294967296)) ((t257 * 128) % 4294967296)) ((t258 * 2) % 4294967296)) ((t259 * 32) % 4294967296)) 12 t260 _ A33.out).mono ?_); rintro e w' ⟨rfl, ⟨nd, rfl⟩⟩; refine ⟨_, rfl, ?_⟩) | ((with_reducible refine gate_callee (f := 28) rfl ?_); refine goesL_ (some 116) rfl rfl Try.func28 (by kernel_rfl) rfl #[.int .u32 t260, .int .u32 0] rfl (by (try simp only [List.map_toArray, List.map_cons, List.map_nil]); first | done | rfl | (simp only [List.length_drop, List.length_take]; rfl)) ?_; (with_reducible refine (drawbridgeref02_jtype.calls t260 0 t261 _ A34.out).mono ?_); rintro e w' ⟨rfl, ⟨nd, rfl⟩⟩; refine ⟨_, rfl, ?_⟩))
              go_ret2
              exact ⟨by first | rfl | (simp; done) | (simp [*]; done), by repeat (first | exact Drawn0.refl _ | apply Drawn0.step)⟩
            · rw [if_neg c24] at H
              have c24b0 : (t239 == 5) = false := beq_eq_false_iff_ne.mpr c24
              have c24b1 : (t239 != 5) = true := bne_iff_ne.mpr c24
              replace H := Option.bind_eq_some_iff.mp H
              obtain ⟨t262, A350, H⟩ := H
              replace H : ((drawbridgeref02_f.f k a0 11 10).bind fun t263 => ((drawbridgeref02_f.f k a0 6 5).bind fun t264 => ((drawbridgeref02_f.f k a0 4 3).bind fun t265 => ((drawbridgeref02_f.f k a0 2 2).bind fun t266 => ((drawbridgeref02_sext.f (Go.bits .or .u32 (Go.bits .or .u32 (Go.bits .or .u32 (Go.bits .or .u32 ((t262 * 256) % 4294967296) ((t263 * 8) % 4294967296)) ((t264 * 64) % 4294967296)) ((t265 * 2) % 4294967296)) ((t266 * 32) % 4294967296)) 9).bind fun t267 => ((drawbridgeref02_f.f k a0 9 7).bind fun t268 => ((drawbridgeref02_f.f k a0 13 13).bind fun t269 => ((drawbridgeref02_btype.f t267 ((8 + t268) % 4294967296) t269).bind fun t270 => (some (t270, true)))))))))) = some (r1, r2) := H
              have A35 := Aside0.mk A350
              clear A350
              replace H := Option.bind_eq_some_iff.mp H
              obtain ⟨t263, A360, H⟩ := H
              replace H : ((drawbridgeref02_f.f k a0 6 5).bind fun t264 => ((drawbridgeref02_f.f k a0 4 3).bind fun t265 => ((drawbridgeref02_f.f k a0 2 2).bind fun t266 => ((drawbridgeref02_sext.f (Go.bits .or .u32 (Go.bits .or .u32 (Go.bits .or .u32 (Go.bits .or .u32 ((t262 * 256) % 4294967296) ((t263 * 8) % 4294967296)) ((t264 * 64) % 4294967296)) ((t265 * 2) % 4294967296)) ((t266 * 32) % 4294967296)) 9).bind fun t267 => ((drawbridgeref02_f.f k a0 9 7).bind fun t268 => ((drawbridgeref02_f.f k a0 13 13).bind fun t269 => ((drawbridgeref02_btype.f t267 ((8 + t268) % 4294967296) t269).bind fun t270 => (some (t270, true))))))))) = some (r1, r2) := H
              have A36 := Aside0.mk A360
              clear A360
              replace H := Option.bind_eq_some_iff.mp H
              obtain ⟨t264, A370, H⟩ := H
              replace H : ((drawbridgeref02_f.f k a0 4 3).bind fun t265 => ((drawbridgeref02_f.f k a0 2 2).bind fun t266 => ((drawbridgeref02_sext.f (Go.bits .or .u32 (Go.bits .or .u32 (Go.bits .or .u32 (Go.bits .or .u32 ((t262 * 256) % 4294967296) ((t263 * 8) % 4294967296)) ((t264 * 64) % 4294967296)) ((t265 * 2) % 4294967296)) ((t266 * 32) % 4294967296)) 9).bind fun t267 => ((drawbridgeref02_f.f k a0 9 7).bind fun t268 => ((drawbridgeref02_f.f k a0 13 13).bind fun t269 => ((drawbridgeref02_btype.f t267 ((8 + t268) % 4294967296) t269).bind fun t270 => (some (t270, true)))))))) = some (r1, r2) := H
              have A37 := Aside0.mk A370
              clear A370
              replace H := Option.bind_eq_some_iff.mp H
              obtain ⟨t265, A380, H⟩ := H
              replace H : ((drawbridgeref02_f.f k a0 2 2).bind fun t266 => ((drawbridgeref02_sext.f (Go.bits .or .u32 (Go.bits .or .u32 (Go.bits .or .u32 (Go.bits .or .u32 ((t262 * 256) % 4294967296) ((t263 * 8) % 4294967296)) ((t264 * 64) % 4294967296)) ((t265 * 2) % 4294967296)) ((t266 * 32) % 4294967296)) 9).bind fun t267 => ((drawbridgeref02_f.f k a0 9 7).bind fun t268 => ((drawbridgeref02_f.f k a0 13 13).bind fun t269 => ((drawbridgeref02_btype.f t267 ((8 + t268) % 4294967296) t269).bind fun t270 => (some (t270, true))))))) = some (r1, r2) := H
              have A38 := Aside0.mk A380
              clear A380
              replace H := Option.bind_eq_some_iff.mp H
              obtain ⟨t266, A390, H⟩ := H
              replace H : ((drawbridgeref02_sext.f (Go.bits .or .u32 (Go.bits .or .u32 (Go.bits .or .u32 (Go.bits .or .u32 ((t262 * 256) % 4294967296) ((t263 * 8) % 4294967296)) ((t264 * 64) % 4294967296)) ((t265 * 2) % 4294967296)) ((t266 * 32) % 4294967296)) 9).bind fun t267 => ((drawbridgeref02_f.f k a0 9 7).bind fun t268 => ((drawbridgeref02_f.f k a0 13 13).bind fun t269 => ((drawbridgeref02_btype.f t267 ((8 + t268) % 4294967296) t269).bind fun t270 => (some (t270, true)))))) = some (r1, r2) := H
              have A39 := Aside0.mk A390
              clear A390
              replace H := Option.bind_eq_some_iff.mp H
              obtain ⟨t267, A400, H⟩ := H
              replace H : ((drawbridgeref02_f.f k a0 9 7).bind fun t268 => ((drawbridgeref02_f.f k a0 13 13).bind fun t269 => ((drawbridgeref02_btype.f t267 ((8 + t268) % 4294967296) t269).bind fun t270 => (some (t270, true))))) = some (r1, r2) := H
              have A40 := Aside0.mk A400
              clear A400
              replace H := Option.bind_eq_some_iff.mp H
              obtain ⟨t268, A410, H⟩ := H
              replace H : ((drawbridgeref02_f.f k a0 13 13).bind fun t269 => ((drawbridgeref02_btype.f t267 ((8 + t268) % 4294967296) t269).bind fun t270 => (some (t270, true)))) = some (r1, r2) := H
              have A41 := Aside0.mk A410
              clear A410
              replace H := Option.bind_eq_some_iff.mp H
              obtain ⟨t269, A420, H⟩ := H
              replace H : ((drawbridgeref02_btype.f t267 ((8 + t268) % 4294967296) t269).bind fun t270 => (some (t270, true))) = some (r1, r2) := H
              have A42 := Aside0.mk A420
              clear A420
              replace H := Option.bind_eq_some_iff.mp H
              obtain ⟨t270, A430, H⟩ := H
              replace H : (some (t270, true)) = some (r1, r2) := H
              have A43 := Aside0.mk A430
              clear A430
              simp only [Option.some.injEq, Prod.mk.injEq] at H
              obtain ⟨rfl, rfl⟩ := H
              go_enter Try.func16, Try.ntmps16
              go_wp2_with (first | ((with_reducible refine gate_callee (f := 23) rfl ?_); refine goesL_ (some 10) rfl rfl Try.func23 (by kernel_rfl) rfl #[.int .u16 a0, .int .i64 11, .int .i64 7] rfl (by (try simp only [List.map_toArray, List.map_cons, List.map_nil]); first | done | rfl | (simp only [List.length_drop, List.length_take]; rfl)) ?_; (with_reducible refine (drawbridgeref02_f.calls k a0 11 7 t235 _ A2.out).mono ?_); rintro e w' ⟨rfl, ⟨nd, rfl⟩⟩; refine ⟨_, rfl, ?_⟩) | ((with_reducible refine gate_callee (f := 23) rfl ?_); refine goesL_ (some 12) rfl rfl Try.func23 (by kernel_rfl) rfl #[.int .u16 a0, .int .i64 12, .int .i64 12] rfl (by (try simp only [List.map_toArray, List.map_cons, List.map_nil]); first | done | rfl | (simp only [List.length_drop, List.length_take]; rfl)) ?_; (with_reducible refine (drawbridgeref02_f.calls k a0 12 12 t236 _ A3.out).mono ?_); rintro e w' ⟨rfl, ⟨nd, rfl⟩⟩; refine ⟨_, rfl, ?_⟩) | ((with_reducible refine gate_callee (f := 23) rfl ?_); refine goesL_ (some 15) rfl rfl Try.func23 (by kernel_rfl) rfl #[.int .u16 a0, .int .i64 6, .int .i64 2] rfl (by (try simp only [List.map_toArray, List.map_cons, List.map_nil]); first | done | rfl | (simp only [List.length_drop, List.length_take]; rfl)) ?_; (with_reducible refine (drawbridgeref02_f.calls k a0 6 2 t237 _ A4.out).mono ?_); rintro e w' ⟨rfl, ⟨nd, rfl⟩⟩; refine ⟨_, rfl, ?_⟩) | ((with_reducible refine gate_callee (f := 26) rfl ?_); refine goesL_ (some 17) rfl rfl Try.func26 (by kernel_rfl) rfl #[.int .u32 (Go.bits .or .u32 ((t236 * 32) % 4294967296) t237), .int .i64 6] rfl (by (try simp only [List.map_toArray, List.map_cons, List.map_nil]); first | done | rfl | (simp only [List.length_drop, List.length_take]; rfl)) ?_; (with_reducible refine (drawbridgeref02_sext.calls (Go.bits .or .u32 ((t236 * 32) % 4294967296) t237) 6 t238 _ A5.out).mono ?_); rintro e w' ⟨rfl, ⟨nd, rfl⟩⟩; refine ⟨_, rfl, ?_⟩) | ((with_reducible refine gate_callee (f := 23) rfl ?_); refine goesL_ (some 19) rfl rfl Try.func23 (by kernel_rfl) rfl #[.int .u16 a0, .int .i64 15, .int .i64 13] rfl (by (try simp only [List.map_toArray, List.map_cons, List.map_nil]); first | done | rfl | (simp only [List.length_drop, List.length_take]; rfl)) ?_; (with_reducible refine (drawbridgeref02_f.calls k a0 15 13 t239 _ A6.out).mono ?_); rintro e w' ⟨rfl, ⟨nd, rfl⟩⟩; refine ⟨_, rfl, ?_⟩) | ((with_reducible refine gate_callee (f := 23) rfl ?_); refine goesL_ (some 118) rfl rfl Try.func23 (by kernel_rfl) rfl #[.int .u16 a0, .int .i64 12, .int .i64 12] rfl (by (try simp only [List.map_toArray, List.map_cons, List.map_nil]); first | done | rfl | (simp only [List.length_drop, List.length_take]; rfl)) ?_; (with_reducible refine (drawbridgeref02_f.calls k a0 12 12 t262 _ A35.out).mono ?_); rintro e w' ⟨rfl, ⟨nd, rfl⟩⟩; refine ⟨_, rfl, ?_⟩) | ((with_reducible refine gate_callee (f := 23) rfl ?_); refine goesL_ (some 121) rfl rfl Try.func23 (by kernel_rfl) rfl #[.int .u16 a0, .int .i64 11, .int .i64 10] rfl (by (try simp only [List.map_toArray, List.map_cons, List.map_nil]); first | done | rfl | (simp only [List.length_drop, List.length_take]; rfl)) ?_; (with_reducible refine (drawbridgeref02_f.calls k a0 11 10 t263 _ A36.out).mono ?_); rintro e w' ⟨rfl, ⟨nd, rfl⟩⟩; refine ⟨_, rfl, ?_⟩) | ((with_reducible refine gate_callee (f := 23) rfl ?_); refine goesL_ (some 125) rfl rfl Try.func23 (by kernel_rfl) rfl #[.int .u16 a0, .int .i64 6, .int .i64 5] rfl (by (try simp only [List.map_toArray, List.map_cons, List.map_nil]); first | done | rfl | (simp only [List.length_drop, List.length_take]; rfl)) ?_; (with_reducible refine (drawbridgeref02_f.calls k a0 6 5 t264 _ A37.out).mono ?_); rintro e w' ⟨rfl, ⟨nd, rfl⟩⟩; refine ⟨_, rfl, ?_⟩) | ((with_reducible refine gate_callee (f := 23) rfl ?_); refine goesL_ (some 129) rfl rfl Try.func23 (by kernel_rfl) rfl #[.int .u16 a0, .int .i64 4, .int .i64 3] rfl (by (try simp only [List.map_toArray, List.map_cons, List.map_nil]); first | done | rfl | (simp only [List.length_drop, List.length_take]; rfl)) ?_; (with_reducible refine (drawbridgeref02_f.calls k a0 4 3 t265 _ A38.out).mono ?_); rintro e w' ⟨rfl, ⟨nd, rfl⟩⟩; refine ⟨_, rfl, ?_⟩) | ((with_reducible refine gate_callee (f := 23) rfl ?_); refine goesL_ (some 133) rfl rfl Try.func23 (by kernel_rfl) rfl #[.int .u16 a0, .int .i64 2, .int .i64 2] rfl (by (try simp only [List.map_toArray, List.map_cons, List.map_nil]); first | done | rfl | (simp only [List.length_drop, List.length_take]; rfl)) ?_; (with_reducible refine (drawbridgeref02_f.calls k a0 2 2 t266 _ A39.out).mono ?_); rintro e w' ⟨rfl, ⟨nd, rfl⟩⟩; refine ⟨_, rfl, ?_⟩) | ((with_reducible refine gate_callee (f := 26) rfl ?_); refine goesL_ (some 137) rfl rfl Try.func26 (by kernel_rfl) rfl #[.int .u32 (Go.bits .or .u32 (Go.bits .or .u32 (Go.bits .or .u32 (Go.bits .or .u32 ((t262 * 256) % 4294967296) ((t263 * 8) % 4294967296)) ((t264 * 64) % 4294967296)) ((t265 * 2) % 4294967296)) ((t266 * 32) % 4294967296)), .int .i64 9] rfl (by (try simp only [List.map_toArray, List.map_cons, List.map_nil]); first | done | rfl | (simp only [List.length_drop, List.length_take]; rfl)) ?_; (with_reducible refine (drawbridgeref02_sext.calls (Go.bits .or .u32 (Go.bits .or .u32 (Go.bits .or .u32 (Go.bits .or .u32 ((t262 * 256) % 4294967296) ((t263 * 8) % 4294967296)) ((t264 * 64) % 4294967296)) ((t265 * 2) % 4294967296)) ((t266 * 32) % 4294967296)) 9 t267 _ A40.out).mono ?_); rintro e w' ⟨rfl, ⟨nd, rfl⟩⟩; refine ⟨_, rfl, ?_⟩) | ((with_reducible refine gate_callee (f := 23) rfl ?_); refine goesL_ (some 139) rfl rfl Try.func23 (by kernel_rfl) rfl #[.int .u16 a0, .int .i64 9, .int .i64 7] rfl (by (try simp only [List.map_toArray, List.map_cons, List.map_nil]); first | done | rfl | (simp only [List.length_drop, List.length_take]; rfl)) ?_; (with_reducible refine (drawbridgeref02_f.calls k a0 9 7 t268 _ A41.out).mono ?_); rintro e w' ⟨rfl, ⟨nd, rfl⟩⟩; refine ⟨_, rfl, ?_⟩) | ((with_reducible refine gate_callee (f := 23) rfl ?_); refine goesL_ (some 142) rfl rfl Try.func23 (by kernel_rfl) rfl #[.int .u16 a0, .int .i64 13, .int .i64 13] rfl (by (try simp only [List.map_toArray, List.map_cons, List.map_nil]); first | done | rfl | (simp only [List.length_drop, List.length_take]; rfl)) ?_; (with_reducible refine (drawbridgeref02_f.calls k a0 13 13 t269 _ A42.out).mono ?_); rintro e w' ⟨rfl, ⟨nd, rfl⟩⟩; refine ⟨_, rfl, ?_⟩) | ((with_reducible refine gate_callee (f := 29) rfl ?_); refine goesL_ (some 143) rfl rfl Try.func29 (by kernel_rfl) rfl #[.int .u32 t267, .int .u32 ((8 + t268) % 4294967296), .int .u32 t269] rfl (by (try simp only [List.map_toArray, List.map_cons, List.map_nil]); first | done | rfl | (simp only [List.length_drop, List.length_take]; rfl)) ?_; (with_reducible refine (drawbridgeref02_btype.calls t267 ((8 + t268) % 4294967296) t269 t270 _ A43.out).mono ?_); rintro e w' ⟨rfl, ⟨nd, rfl⟩⟩; refine ⟨_, rfl, ?_⟩))
              go_ret2
              exact ⟨by first | rfl | (simp; done) | (simp [*]; done), by repeat (first | exact Drawn0.refl _ | apply Drawn0.step)⟩

/-! ### drawbridgeref02_two: function 17 -/
def drawbridgeref02_two.f (k : Nat) (a0 : Int) : Option (Int × Bool) := (drawbridgeref02_f.f k a0 11 7).bind fun t271 => ((drawbridgeref02_f.f k a0 6 2).bind fun t272 => ((drawbridgeref02_f.f k a0 15 13).bind fun t273 => (if t273 = 0 then ((drawbridgeref02_f.f k a0 12 12).bind fun t274 => ((drawbridgeref02_itype.f (Go.bits .or .u32 ((t274 * 32) % 4294967296) t272) t271 1 t271 19).bind fun t275 => (some (t275, true)))) else (if t273 = 2 then ((drawbridgeref02_f.f k a0 12 12).bind fun t276 => ((drawbridgeref02_f.f k a0 6 4).bind fun t277 => ((drawbridgeref02_f.f k a0 3 2).bind fun t278 => ((drawbridgeref02_itype.f (Go.bits .or .u32 (Go.bits .or .u32 ((t276 * 32) % 4294967296) ((t277 * 4) % 4294967296)) ((t278 * 64) % 4294967296)) 2 2 t271 3).bind fun t279 => (some (t279, (t271 != 0))))))) else (if t273 = 3 then ((drawbridgeref02_f.f k a0 12 12).bind fun t280 => ((drawbridgeref02_f.f k a0 6 5).bind fun t281 => ((drawbridgeref02_f.f k a0 4 2).bind fun t282 => ((drawbridgeref02_itype.f (Go.bits .or .u32 (Go.bits .or .u32 ((t280 * 32) % 4294967296) ((t281 * 8) % 4294967296)) ((t282 * 64) % 4294967296)) 2 3 t271 3).bind fun t283 => (some (t283, (t271 != 0))))))) else (if t273 = 4 then ((drawbridgeref02_f.f k a0 12 12).bind fun t284 => (if t272 = 0 then (if t271 = 0 then (some (1048691, (t284 == 1))) else ((drawbridgeref02_itype.f 0 t271 0 t284 103).bind fun t285 => (some (t285, true)))) else ((drawbridgeref02_rtype.f 0 t272 ((t284 * t271) % 4294967296) 0 t271 51).bind fun t286 => (some (t286, true))))) else (if t273 = 6 then ((drawbridgeref02_f.f k a0 12 9).bind fun t287 => ((drawbridgeref02_f.f k a0 8 7).bind fun t288 => ((drawbridgeref02_stype.f (Go.bits .or .u32 ((t287 * 4) % 4294967296) ((t288 * 64) % 4294967296)) t272 2 2).bind fun t289 => (some (t289, true))))) else (if t273 = 7 then ((drawbridgeref02_f.f k a0 12 10).bind fun t290 => ((drawbridgeref02_f.f k a0 9 7).bind fun t291 => ((drawbridgeref02_stype.f (Go.bits .or .u32 ((t290 * 8) % 4294967296) ((t291 * 64) % 4294967296)) t272 2 3).bind fun t292 => (some (t292, true))))) else (some (0, false))))))))))
theorem drawbridgeref02_two.mono : ∀ a0 k, LeO (drawbridgeref02_two.f k a0) (drawbridgeref02_two.f (k + 1) a0) := by
  intro a0 k
  unfold drawbridgeref02_two.f
  repeat' first
      | (with_reducible exact drawbridgeref02_f.mono _ _ _ _)
      | (with_reducible exact LeO.refl _)
      | (with_reducible exact LeO.none _)
      | (with_reducible refine LeO.ite ?_ ?_)
      | (with_reducible refine LeO.bind ?_ (fun _ => ?_))
      | exact drawbridgeref02_f.mono _ _ _ _
      | exact LeO.none _
      | refine LeO.ite ?_ ?_
      | refine LeO.bind ?_ (fun _ => ?_)
set_option maxHeartbeats 8000000 in
set_option maxRecDepth 100000 in
theorem drawbridgeref02_two.calls (k : Nat) (a0 : Int) (r1 : Int) (r2 : Bool) (w : World) (h : drawbridgeref02_two.f k a0 = some (r1, r2)) :
    Calls Try.prog 17 #[.int .u16 a0] w fun e w' => e = .returned (.tuple #[.int .u32 r1, .bool r2]) ∧ Drawn0 w w' := by
  have H : ((drawbridgeref02_f.f k a0 11 7).bind fun t271 => ((drawbridgeref02_f.f k a0 6 2).bind fun t272 => ((drawbridgeref02_f.f k a0 15 13).bind fun t273 => (if t273 = 0 then ((drawbridgeref02_f.f k a0 12 12).bind fun t274 => ((drawbridgeref02_itype.f (Go.bits .or .u32 ((t274 * 32) % 4294967296) t272) t271 1 t271 19).bind fun t275 => (some (t275, true)))) else (if t273 = 2 then ((drawbridgeref02_f.f k a0 12 12).bind fun t276 => ((drawbridgeref02_f.f k a0 6 4).bind fun t277 => ((drawbridgeref02_f.f k a0 3 2).bind fun t278 => ((drawbridgeref02_itype.f (Go.bits .or .u32 (Go.bits .or .u32 ((t276 * 32) % 4294967296) ((t277 * 4) % 4294967296)) ((t278 * 64) % 4294967296)) 2 2 t271 3).bind fun t279 => (some (t279, (t271 != 0))))))) else (if t273 = 3 then ((drawbridgeref02_f.f k a0 12 12).bind fun t280 => ((drawbridgeref02_f.f k a0 6 5).bind fun t281 => ((drawbridgeref02_f.f k a0 4 2).bind fun t282 => ((drawbridgeref02_itype.f (Go.bits .or .u32 (Go.bits .or .u32 ((t280 * 32) % 4294967296) ((t281 * 8) % 4294967296)) ((t282 * 64) % 4294967296)) 2 3 t271 3).bind fun t283 => (some (t283, (t271 != 0))))))) else (if t273 = 4 then ((drawbridgeref02_f.f k a0 12 12).bind fun t284 => (if t272 = 0 then (if t271 = 0 then (some (1048691, (t284 == 1))) else ((drawbridgeref02_itype.f 0 t271 0 t284 103).bind fun t285 => (some (t285, true)))) else ((drawbridgeref02_rtype.f 0 t272 ((t284 * t271) % 4294967296) 0 t271 51).bind fun t286 => (some (t286, true))))) else (if t273 = 6 then ((drawbridgeref02_f.f k a0 12 9).bind fun t287 => ((drawbridgeref02_f.f k a0 8 7).bind fun t288 => ((drawbridgeref02_stype.f (Go.bits .or .u32 ((t287 * 4) % 4294967296) ((t288 * 64) % 4294967296)) t272 2 2).bind fun t289 => (some (t289, true))))) else (if t273 = 7 then ((drawbridgeref02_f.f k a0 12 10).bind fun t290 => ((drawbridgeref02_f.f k a0 9 7).bind fun t291 => ((drawbridgeref02_stype.f (Go.bits .or .u32 ((t290 * 8) % 4294967296) ((t291 * 64) % 4294967296)) t272 2 3).bind fun t292 => (some (t292, true))))) else (some (0, false))))))))))) = some (r1, r2) := h
  clear h
  replace H := Option.bind_eq_some_iff.mp H
  obtain ⟨t271, A20, H⟩ := H
  replace H : ((drawbridgeref02_f.f k a0 6 2).bind fun t272 => ((drawbridgeref02_f.f k a0 15 13).bind fun t273 => (if t273 = 0 then ((drawbridgeref02_f.f k a0 12 12).bind fun t274 => ((drawbridgeref02_itype.f (Go.bits .or .u32 ((t274 * 32) % 4294967296) t272) t271 1 t271 19).bind fun t275 => (some (t275, true)))) else (if t273 = 2 then ((drawbridgeref02_f.f k a0 12 12).bind fun t276 => ((drawbridgeref02_f.f k a0 6 4).bind fun t277 => ((drawbridgeref02_f.f k a0 3 2).bind fun t278 => ((drawbridgeref02_itype.f (Go.bits .or .u32 (Go.bits .or .u32 ((t276 * 32) % 4294967296) ((t277 * 4) % 4294967296)) ((t278 * 64) % 4294967296)) 2 2 t271 3).bind fun t279 => (some (t279, (t271 != 0))))))) else (if t273 = 3 then ((drawbridgeref02_f.f k a0 12 12).bind fun t280 => ((drawbridgeref02_f.f k a0 6 5).bind fun t281 => ((drawbridgeref02_f.f k a0 4 2).bind fun t282 => ((drawbridgeref02_itype.f (Go.bits .or .u32 (Go.bits .or .u32 ((t280 * 32) % 4294967296) ((t281 * 8) % 4294967296)) ((t282 * 64) % 4294967296)) 2 3 t271 3).bind fun t283 => (some (t283, (t271 != 0))))))) else (if t273 = 4 then ((drawbridgeref02_f.f k a0 12 12).bind fun t284 => (if t272 = 0 then (if t271 = 0 then (some (1048691, (t284 == 1))) else ((drawbridgeref02_itype.f 0 t271 0 t284 103).bind fun t285 => (some (t285, true)))) else ((drawbridgeref02_rtype.f 0 t272 ((t284 * t271) % 4294967296) 0 t271 51).bind fun t286 => (some (t286, true))))) else (if t273 = 6 then ((drawbridgeref02_f.f k a0 12 9).bind fun t287 => ((drawbridgeref02_f.f k a0 8 7).bind fun t288 => ((drawbridgeref02_stype.f (Go.bits .or .u32 ((t287 * 4) % 4294967296) ((t288 * 64) % 4294967296)) t272 2 2).bind fun t289 => (some (t289, true))))) else (if t273 = 7 then ((drawbridgeref02_f.f k a0 12 10).bind fun t290 => ((drawbridgeref02_f.f k a0 9 7).bind fun t291 => ((drawbridgeref02_stype.f (Go.bits .or .u32 ((t290 * 8) % 4294967296) ((t291 * 64) % 4294967296)) t272 2 3).bind fun t292 => (some (t292, true))))) else (some (0, false)))))))))) = some (r1, r2) := H
  have A2 := Aside0.mk A20
  clear A20
  replace H := Option.bind_eq_some_iff.mp H
  obtain ⟨t272, A30, H⟩ := H
  replace H : ((drawbridgeref02_f.f k a0 15 13).bind fun t273 => (if t273 = 0 then ((drawbridgeref02_f.f k a0 12 12).bind fun t274 => ((drawbridgeref02_itype.f (Go.bits .or .u32 ((t274 * 32) % 4294967296) t272) t271 1 t271 19).bind fun t275 => (some (t275, true)))) else (if t273 = 2 then ((drawbridgeref02_f.f k a0 12 12).bind fun t276 => ((drawbridgeref02_f.f k a0 6 4).bind fun t277 => ((drawbridgeref02_f.f k a0 3 2).bind fun t278 => ((drawbridgeref02_itype.f (Go.bits .or .u32 (Go.bits .or .u32 ((t276 * 32) % 4294967296) ((t277 * 4) % 4294967296)) ((t278 * 64) % 4294967296)) 2 2 t271 3).bind fun t279 => (some (t279, (t271 != 0))))))) else (if t273 = 3 then ((drawbridgeref02_f.f k a0 12 12).bind fun t280 => ((drawbridgeref02_f.f k a0 6 5).bind fun t281 => ((drawbridgeref02_f.f k a0 4 2).bind fun t282 => ((drawbridgeref02_itype.f (Go.bits .or .u32 (Go.bits .or .u32 ((t280 * 32) % 4294967296) ((t281 * 8) % 4294967296)) ((t282 * 64) % 4294967296)) 2 3 t271 3).bind fun t283 => (some (t283, (t271 != 0))))))) else (if t273 = 4 then ((drawbridgeref02_f.f k a0 12 12).bind fun t284 => (if t272 = 0 then (if t271 = 0 then (some (1048691, (t284 == 1))) else ((drawbridgeref02_itype.f 0 t271 0 t284 103).bind fun t285 => (some (t285, true)))) else ((drawbridgeref02_rtype.f 0 t272 ((t284 * t271) % 4294967296) 0 t271 51).bind fun t286 => (some (t286, true))))) else (if t273 = 6 then ((drawbridgeref02_f.f k a0 12 9).bind fun t287 => ((drawbridgeref02_f.f k a0 8 7).bind fun t288 => ((drawbridgeref02_stype.f (Go.bits .or .u32 ((t287 * 4) % 4294967296) ((t288 * 64) % 4294967296)) t272 2 2).bind fun t289 => (some (t289, true))))) else (if t273 = 7 then ((drawbridgeref02_f.f k a0 12 10).bind fun t290 => ((drawbridgeref02_f.f k a0 9 7).bind fun t291 => ((drawbridgeref02_stype.f (Go.bits .or .u32 ((t290 * 8) % 4294967296) ((t291 * 64) % 4294967296)) t272 2 3).bind fun t292 => (some (t292, true))))) else (some (0, false))))))))) = some (r1, r2) := H
  have A3 := Aside0.mk A30
  clear A30
  replace H := Option.bind_eq_some_iff.mp H
  obtain ⟨t273, A40, H⟩ := H
  replace H : (if t273 = 0 then ((drawbridgeref02_f.f k a0 12 12).bind fun t274 => ((drawbridgeref02_itype.f (Go.bits .or .u32 ((t274 * 32) % 4294967296) t272) t271 1 t271 19).bind fun t275 => (some (t275, true)))) else (if t273 = 2 then ((drawbridgeref02_f.f k a0 12 12).bind fun t276 => ((drawbridgeref02_f.f k a0 6 4).bind fun t277 => ((drawbridgeref02_f.f k a0 3 2).bind fun t278 => ((drawbridgeref02_itype.f (Go.bits .or .u32 (Go.bits .or .u32 ((t276 * 32) % 4294967296) ((t277 * 4) % 4294967296)) ((t278 * 64) % 4294967296)) 2 2 t271 3).bind fun t279 => (some (t279, (t271 != 0))))))) else (if t273 = 3 then ((drawbridgeref02_f.f k a0 12 12).bind fun t280 => ((drawbridgeref02_f.f k a0 6 5).bind fun t281 => ((drawbridgeref02_f.f k a0 4 2).bind fun t282 => ((drawbridgeref02_itype.f (Go.bits .or .u32 (Go.bits .or .u32 ((t280 * 32) % 4294967296) ((t281 * 8) % 4294967296)) ((t282 * 64) % 4294967296)) 2 3 t271 3).bind fun t283 => (some (t283, (t271 != 0))))))) else (if t273 = 4 then ((drawbridgeref02_f.f k a0 12 12).bind fun t284 => (if t272 = 0 then (if t271 = 0 then (some (1048691, (t284 == 1))) else ((drawbridgeref02_itype.f 0 t271 0 t284 103).bind fun t285 => (some (t285, true)))) else ((drawbridgeref02_rtype.f 0 t272 ((t284 * t271) % 4294967296) 0 t271 51).bind fun t286 => (some (t286, true))))) else (if t273 = 6 then ((drawbridgeref02_f.f k a0 12 9).bind fun t287 => ((drawbridgeref02_f.f k a0 8 7).bind fun t288 => ((drawbridgeref02_stype.f (Go.bits .or .u32 ((t287 * 4) % 4294967296) ((t288 * 64) % 4294967296)) t272 2 2).bind fun t289 => (some (t289, true))))) else (if t273 = 7 then ((drawbridgeref02_f.f k a0 12 10).bind fun t290 => ((drawbridgeref02_f.f k a0 9 7).bind fun t291 => ((drawbridgeref02_stype.f (Go.bits .or .u32 ((t290 * 8) % 4294967296) ((t291 * 64) % 4294967296)) t272 2 3).bind fun t292 => (some (t292, true))))) else (some (0, false)))))))) = some (r1, r2) := H
  have A4 := Aside0.mk A40
  clear A40
  by_cases c5 : t273 = 0
  · rw [if_pos c5] at H
    have c5b0 : (t273 == 0) = true := beq_iff_eq.mpr c5
    have c5b1 : (t273 != 0) = false := bne_eq_false_iff_eq.mpr c5
    clear c5
    replace H := Option.bind_eq_some_iff.mp H
    obtain ⟨t274, A60, H⟩ := H
    replace H : ((drawbridgeref02_itype.f (Go.bits .or .u32 ((t274 * 32) % 4294967296) t272) t271 1 t271 19).bind fun t275 => (some (t275, true))) = some (r1, r2) := H
    have A6 := Aside0.mk A60
    clear A60
    replace H := Option.bind_eq_some_iff.mp H
    obtain ⟨t275, A70, H⟩ := H
    replace H : (some (t275, true)) = some (r1, r2) := H
    have A7 := Aside0.mk A70
    clear A70
    simp only [Option.some.injEq, Prod.mk.injEq] at H
    obtain ⟨rfl, rfl⟩ := H
    go_enter Try.func17, Try.ntmps17
    go_wp2_with (first | ((with_reducible refine gate_callee (f := 23) rfl ?_); refine goesL_ (some 8) rfl rfl Try.func23 (by kernel_rfl) rfl #[.int .u16 a0, .int .i64 11, .int .i64 7] rfl (by (try simp only [List.map_toArray, List.map_cons, List.map_nil]); first | done | rfl | (simp only [List.length_drop, List.length_take]; rfl)) ?_; (with_reducible refine (drawbridgeref02_f.calls k a0 11 7 t271 _ A2.out).mono ?_); rintro e w' ⟨rfl, ⟨nd, rfl⟩⟩; refine ⟨_, rfl, ?_⟩) | ((with_reducible refine gate_callee (f := 23) rfl ?_); refine goesL_ (some 10) rfl rfl Try.func23 (by kernel_rfl) rfl #[.int .u16 a0, .int .i64 6, .int .i64 2] rfl (by (try simp only [List.map_toArray, List.map_cons, List.map_nil]); first | done | rfl | (simp only [List.length_drop, List.length_take]; rfl)) ?_; (with_reducible refine (drawbridgeref02_f.calls k a0 6 2 t272 _ A3.out).mono ?_); rintro e w' ⟨rfl, ⟨nd, rfl⟩⟩; refine ⟨_, rfl, ?_⟩) | ((with_reducible refine gate_callee (f := 23) rfl ?_); refine goesL_ (some 12) rfl rfl Try.func23 (by kernel_rfl) rfl #[.int .u16 a0, .int .i64 15, .int .i64 13] rfl (by (try simp only [List.map_toArray, List.map_cons, List.map_nil]); first | done | rfl | (simp only [List.length_drop, List.length_take]; rfl)) ?_; (with_reducible refine (drawbridgeref02_f.calls k a0 15 13 t273 _ A4.out).mono ?_); rintro e w' ⟨rfl, ⟨nd, rfl⟩⟩; refine ⟨_, rfl, ?_⟩) | ((with_reducible refine gate_callee (f := 23) rfl ?_); refine goesL_ (some 16) rfl rfl Try.func23 (by kernel_rfl) rfl #[.int .u16 a0, .int .i64 12, .int .i64 12] rfl (by (try simp only [List.map_toArray, List.map_cons, List.map_nil]); first | done | rfl | (simp only [List.length_drop, List.length_take]; rfl)) ?_; (with_reducible refine (drawbridgeref02_f.calls k a0 12 12 t274 _ A6.out).mono ?_); rintro e w' ⟨rfl, ⟨nd, rfl⟩⟩; refine ⟨_, rfl, ?_⟩) | ((with_reducible refine gate_callee (f := 24) rfl ?_); refine goesL_ (some 22) rfl rfl Try.func24 (by kernel_rfl) rfl #[.int .u32 (Go.bits .or .u32 ((t274 * 32) % 4294967296) t272), .int .u32 t271, .int .u32 1, .int .u32 t271, .int .u32 19] rfl (by (try simp only [List.map_toArray, List.map_cons, List.map_nil]); first | done | rfl | (simp only [List.length_drop, List.length_take]; rfl)) ?_; (with_reducible refine (drawbridgeref02_itype.calls (Go.bits .or .u32 ((t274 * 32) % 4294967296) t272) t271 1 t271 19 t275 _ A7.out).mono ?_); rintro e w' ⟨rfl, ⟨nd, rfl⟩⟩; refine ⟨_, rfl, ?_⟩))
    go_ret2
    exact ⟨by first | rfl | (simp; done) | (simp [*]; done), by repeat (first | exact Drawn0.refl _ | apply Drawn0.step)⟩
  · rw [if_neg c5] at H
    have c5b0 : (t273 == 0) = false := beq_eq_false_iff_ne.mpr c5
    have c5b1 : (t273 != 0) = true := bne_iff_ne.mpr c5
    by_cases c8 : t273 = 2
    · rw [if_pos c8] at H
      have c8b0 : (t273 == 2) = true := beq_iff_eq.mpr c8
      have c8b1 : (t273 != 2) = false := bne_eq_false_iff_eq.mpr c8
      clear c8
      replace H := Option.bind_eq_some_iff.mp H
      obtain ⟨t276, A90, H⟩ := H
      replace H : ((drawbridgeref02_f.f k a0 6 4).bind fun t277 => ((drawbridgeref02_f.f k a0 3 2).bind fun t278 => ((drawbridgeref02_itype.f (Go.bits .or .u32 (Go.bits .or .u32 ((t276 * 32) % 4294967296) ((t277 * 4) % 4294967296)) ((t278 * 64) % 4294967296)) 2 2 t271 3).bind fun t279 => (some (t279, (t271 != 0)))))) = some (r1, r2) := H
      have A9 := Aside0.mk A90
      clear A90
      replace H := Option.bind_eq_some_iff.mp H
      obtain ⟨t277, A100, H⟩ := H
      replace H : ((drawbridgeref02_f.f k a0 3 2).bind fun t278 => ((drawbridgeref02_itype.f (Go.bits .or .u32 (Go.bits .or .u32 ((t276 * 32) % 4294967296) ((t277 * 4) % 4294967296)) ((t278 * 64) % 4294967296)) 2 2 t271 3).bind fun t279 => (some (t279, (t271 != 0))))) = some (r1, r2) := H
      have A10 := Aside0.mk A100
      clear A100
      replace H := Option.bind_eq_some_iff.mp H
      obtain ⟨t278, A110, H⟩ := H
      replace H : ((drawbridgeref02_itype.f (Go.bits .or .u32 (Go.bits .or .u32 ((t276 * 32) % 4294967296) ((t277 * 4) % 4294967296)) ((t278 * 64) % 4294967296)) 2 2 t271 3).bind fun t279 => (some (t279, (t271 != 0)))) = some (r1, r2) := H
      have A11 := Aside0.mk A110
      clear A110
      replace H := Option.bind_eq_some_iff.mp H
      obtain ⟨t279, A120, H⟩ := H
      replace H : (some (t279, (t271 != 0))) = some (r1, r2) := H
      have A12 := Aside0.mk A120
      clear A120
      simp only [Option.some.injEq, Prod.mk.injEq] at H
      obtain ⟨rfl, rfl⟩ := H
      go_enter Try.func17, Try.ntmps17
      go_wp2_with (first | ((with_reducible refine gate_callee (f := 23) rfl ?_); refine goesL_ (some 8) rfl rfl Try.func23 (by kernel_rfl) rfl #[.int .u16 a0, .int .i64 11, .int .i64 7] rfl (by (try simp only [List.map_toArray, List.map_cons, List.map_nil]); first | done | rfl | (simp only [List.length_drop, List.length_take]; rfl)) ?_; (with_reducible refine (drawbridgeref02_f.calls k a0 11 7 t271 _ A2.out).mono ?_); rintro e w' ⟨rfl, ⟨nd, rfl⟩⟩; refine ⟨_, rfl, ?_⟩) | ((with_reducible refine gate_callee (f := 23) rfl ?_); refine goesL_ (some 10) rfl rfl Try.func23 (by kernel_rfl) rfl #[.int .u16 a0, .int .i64 6, .int .i64 2] rfl (by (try simp only [List.map_toArray, List.map_cons, List.map_nil]); first | done | rfl | (simp only [List.length_drop, List.length_take]; rfl)) ?_; (with_reducible refine (drawbridgeref02_f.calls k a0 6 2 t272 _ A3.out).mono ?_); rintro e w' ⟨rfl, ⟨nd, rfl⟩⟩; refine ⟨_, rfl, ?_⟩) | ((with_reducible refine gate_callee (f := 23) rfl ?_); refine goesL_ (some 12) rfl rfl Try.func23 (by kernel_rfl) rfl #[.int .u16 a0, .int .i64 15, .int .i64 13] rfl (by (try simp only [List.map_toArray, List.map_cons, List.map_nil]); first | done | rfl | (simp only [List.length_drop, List.length_take]; rfl)) ?_; (with_reducible refine (drawbridgeref02_f.calls k a0 15 13 t273 _ A4.out).mono ?_); rintro e w' ⟨rfl, ⟨nd, rfl⟩⟩; refine ⟨_, rfl, ?_⟩) | ((with_reducible refine gate_callee (f := 23) rfl ?_); refine goesL_ (some 26) rfl rfl Try.func23 (by kernel_rfl) rfl #[.int .u16 a0, .int .i64 12, .int .i64 12] rfl (by (try simp only [List.map_toArray, List.map_cons, List.map_nil]); first | done | rfl | (simp only [List.length_drop, List.length_take]; rfl)) ?_; (with_reducible refine (drawbridgeref02_f.calls k a0 12 12 t276 _ A9.out).mono ?_); rintro e w' ⟨rfl, ⟨nd, rfl⟩⟩; refine ⟨_, rfl, ?_⟩) | ((with_reducible refine gate_callee (f := 23) rfl ?_); refine goesL_ (some 29) rfl rfl Try.func23 (by kernel_rfl) rfl #[.int .u16 a0, .int .i64 6, .int .i64 4] rfl (by (try simp only [List.map_toArray, List.map_cons, List.map_nil]); first | done | rfl | (simp only [List.length_drop, List.length_take]; rfl)) ?_; (with_reducible refine (drawbridgeref02_f.calls k a0 6 4 t277 _ A10.out).mono ?_); rintro e w' ⟨rfl, ⟨nd, rfl⟩⟩; refine ⟨_, rfl, ?_⟩) | ((with_reducible refine gate_callee (f := 23) rfl ?_); refine goesL_ (some 33) rfl rfl Try.func23 (by kernel_rfl) rfl #[.int .u16 a0, .int .i64 3, .int .i64 2] rfl (by (try simp only [List.map_toArray, List.map_cons, List.map_nil]); first | done | rfl | (simp only [List.length_drop, List.length_take]; rfl)) ?_; (with_reducible refine (drawbridgeref02_f.calls k a0 3 2 t278 _ A11.out).mono ?_); rintro e w' ⟨rfl, ⟨nd, rfl⟩⟩; refine ⟨_, rfl, ?_⟩) | ((with_reducible refine gate_callee (f := 24) rfl ?_); refine goesL_ (some 37) rfl rfl Try.func24 (by kernel_rfl) rfl #[.int .u32 (Go.bits .or .u32 (Go.bits .or .u32 ((t276 * 32) % 4294967296) ((t277 * 4) % 4294967296)) ((t278 * 64) % 4294967296)), .int .u32 2, .int .u32 2, .int .u32 t271, .int .u32 3] rfl (by (try simp only [List.map_toArray, List.map_cons, List.map_nil]); first | done | rfl | (simp only [List.length_drop, List.length_take]; rfl)) ?_; (with_reducible refine (drawbridgeref02_itype.calls (Go.bits .or .u32 (Go.bits .or .u32 ((t276 * 32) % 4294967296) ((t277 * 4) % 4294967296)) ((t278 * 64) % 4294967296)) 2 2 t271 3 t279 _ A12.out).mono ?_); rintro e w' ⟨rfl, ⟨nd, rfl⟩⟩; refine ⟨_, rfl, ?_⟩))
      go_ret2
      exact ⟨by first | rfl | (simp; done) | (simp [*]; done), by repeat (first | exact Drawn0.refl _ | apply Drawn0.step)⟩
    · rw [if_neg c8] at H
      have c8b0 : (t273 == 2) = false := beq_eq_false_iff_ne.mpr c8
      have c8b1 : (t273 != 2) = true := bne_iff_ne.mpr c8
      by_cases c13 : t273 = 3
      · rw [if_pos c13] at H
        have c13b0 : (t273 == 3) = true := beq_iff_eq.mpr c13
        have c13b1 : (t273 != 3) = false := bne_eq_false_iff_eq.mpr c13
        clear c13
        replace H := Option.bind_eq_some_iff.mp H
        obtain ⟨t280, A140, H⟩ := H
        replace H : ((drawbridgeref02_f.f k a0 6 5).bind fun t281 => ((drawbridgeref02_f.f k a0 4 2).bind fun t282 => ((drawbridgeref02_itype.f (Go.bits .or .u32 (Go.bits .or .u32 ((t280 * 32) % 4294967296) ((t281 * 8) % 4294967296)) ((t282 * 64) % 4294967296)) 2 3 t271 3).bind fun t283 => (some (t283, (t271 != 0)))))) = some (r1, r2) := H
        have A14 := Aside0.mk A140
        clear A140
        replace H := Option.bind_eq_some_iff.mp H
        obtain ⟨t281, A150, H⟩ := H
        replace H : ((drawbridgeref02_f.f k a0 4 2).bind fun t282 => ((drawbridgeref02_itype.f (Go.bits .or .u32 (Go.bits .or .u32 ((t280 * 32) % 4294967296) ((t281 * 8) % 4294967296)) ((t282 * 64) % 4294967296)) 2 3 t271 3).bind fun t283 => (some (t283, (t271 != 0))))) = some (r1, r2) := H
        have A15 := Aside0.mk A150
        clear A150
        replace H := Option.bind_eq_some_iff.mp H
        obtain ⟨t282, A160, H⟩ := H
        replace H : ((drawbridgeref02_itype.f (Go.bits .or .u32 (Go.bits .or .u32 ((t280 * 32) % 4294967296) ((t281 * 8) % 4294967296)) ((t282 * 64) % 4294967296)) 2 3 t271 3).bind fun t283 => (some (t283, (t271 != 0)))) = some (r1, r2) := H
        have A16 := Aside0.mk A160
        clear A160
        replace H := Option.bind_eq_some_iff.mp H
        obtain ⟨t283, A170, H⟩ := H
        replace H : (some (t283, (t271 != 0))) = some (r1, r2) := H
        have A17 := Aside0.mk A170
        clear A170
        simp only [Option.some.injEq, Prod.mk.injEq] at H
        obtain ⟨rfl, rfl⟩ := H
        go_enter Try.func17, Try.ntmps17
        go_wp2_with (first | ((with_reducible refine gate_callee (f := 23) rfl ?_); refine goesL_ (some 8) rfl rfl Try.func23 (by kernel_rfl) rfl #[.int .u16 a0, .int .i64 11, .int .i64 7] rfl (by (try simp only [List.map_toArray, List.map_cons, List.map_nil]); first | done | rfl | (simp only [List.length_drop, List.length_take]; rfl)) ?_; (with_reducible refine (drawbridgeref02_f.calls k a0 11 7 t271 _ A2.out).mono ?_); rintro e w' ⟨rfl, ⟨nd, rfl⟩⟩; refine ⟨_, rfl, ?_⟩) | ((with_reducible refine gate_callee (f := 23) rfl ?_); refine goesL_ (some 10) rfl rfl Try.func23 (by kernel_rfl) rfl #[.int .u16 a0, .int .i64 6, .int .i64 2] rfl (by (try simp only [List.map_toArray, List.map_cons, List.map_nil]); first | done | rfl | (simp only [List.length_drop, List.length_take]; rfl)) ?_; (with_reducible refine (drawbridgeref02_f.calls k a0 6 2 t272 _ A3.out).mono ?_); rintro e w' ⟨rfl, ⟨nd, rfl⟩⟩; refine ⟨_, rfl, ?_⟩) | ((with_reducible refine gate_callee (f := 23) rfl ?_); refine goesL_ (some 12) rfl rfl Try.func23 (by kernel_rfl) rfl #[.int .u16 a0, .int .i64 15, .int .i64 13] rfl (by (try simp only [List.map_toArray, List.map_cons, List.map_nil]); first | done | rfl | (simp only [List.length_drop, List.length_take]; rfl)) ?_; (with_reducible refine (drawbridgeref02_f.calls k a0 15 13 t273 _ A4.out).mono ?_); rintro e w' ⟨rfl, ⟨nd, rfl⟩⟩; refine ⟨_, rfl, ?_⟩) | ((with_reducible refine gate_callee (f := 23) rfl ?_); refine goesL_ (some 43) rfl rfl Try.func23 (by kernel_rfl) rfl #[.int .u16 a0, .int .i64 12, .int .i64 12] rfl (by (try simp only [List.map_toArray, List.map_cons, List.map_nil]); first | done | rfl | (simp only [List.length_drop, List.length_take]; rfl)) ?_; (with_reducible refine (drawbridgeref02_f.calls k a0 12 12 t280 _ A14.out).mono ?_); rintro e w' ⟨rfl, ⟨nd, rfl⟩⟩; refine ⟨_, rfl, ?_⟩) | ((with_reducible refine gate_callee (f := 23) rfl ?_); refine goesL_ (some 46) rfl rfl Try.func23 (by kernel_rfl) rfl #[.int .u16 a0, .int .i64 6, .int .i64 5] rfl (by (try simp only [List.map_toArray, List.map_cons, List.map_nil]); first | done | rfl | (simp only [List.length_drop, List.length_take]; rfl)) ?_; (with_reducible refine (drawbridgeref02_f.calls k a0 6 5 t281 _ A15.out).mono ?_); rintro e w' ⟨rfl, ⟨nd, rfl⟩⟩; refine ⟨_, rfl, ?_⟩) | ((with_reducible refine gate_callee (f := 23) rfl ?_); refine goesL_ (some 50) rfl rfl Try.func23 (by kernel_rfl) rfl #[.int .u16 a0, .int .i64 4, .int .i64 2] rfl (by (try simp only [List.map_toArray, List.map_cons, List.map_nil]); first | done | rfl | (simp only [List.length_drop, List.length_take]; rfl)) ?_; (with_reducible refine (drawbridgeref02_f.calls k a0 4 2 t282 _ A16.out).mono ?_); rintro e w' ⟨rfl, ⟨nd, rfl⟩⟩; refine ⟨_, rfl, ?_⟩) | ((with_reducible refine gate_callee (f := 24) rfl ?_); refine goesL_ (some 54) rfl rfl Try.func24 (by kernel_rfl) rfl #[.int .u32 (Go.bits .or .u32 (Go.bits .or .u32 ((t280 * 32) % 4294967296) ((t281 * 8) % 4294967296)) ((t282 * 64) % 4294967296)), .int .u32 2, .int .u32 3, .int .u32 t271, .int .u32 3] rfl (by (try simp only [List.map_toArray, List.map_cons, List.map_nil]); first | done | rfl | (simp only [List.length_drop, List.length_take]; rfl)) ?_; (with_reducible refine (drawbridgeref02_itype.calls (Go.bits .or .u32 (Go.bits .or .u32 ((t280 * 32) % 4294967296) ((t281 * 8) % 4294967296)) ((t282 * 64) % 4294967296)) 2 3 t271 3 t283 _ A17.out).mono ?_); rintro e w' ⟨rfl, ⟨nd, rfl⟩⟩; refine ⟨_, rfl, ?_⟩))
        go_ret2
        exact ⟨by first | rfl | (simp; done) | (simp [*]; done), by repeat (first | exact Drawn0.refl _ | apply Drawn0.step)⟩
      · rw [if_neg c13] at H
        have c13b0 : (t273 == 3) = false := beq_eq_false_iff_ne.mpr c13
        have c13b1 : (t273 != 3) = true := bne_iff_ne.mpr c13
        by_cases c18 : t273 = 4
        · rw [if_pos c18] at H
          have c18b0 : (t273 == 4) = true := beq_iff_eq.mpr c18
          have c18b1 : (t273 != 4) = false := bne_eq_false_iff_eq.mpr c18
          clear c18
          replace H := Option.bind_eq_some_iff.mp H
          obtain ⟨t284, A190, H⟩ := H
          replace H : (if t272 = 0 then (if t271 = 0 then (some (1048691, (t284 == 1))) else ((drawbridgeref02_itype.f 0 t271 0 t284 103).bind fun t285 => (some (t285, true)))) else ((drawbridgeref02_rtype.f 0 t272 ((t284 * t271) % 4294967296) 0 t271 51).bind fun t286 => (some (t286, true)))) = some (r1, r2) := H
          have A19 := Aside0.mk A190
          clear A190
          by_cases c20 : t272 = 0
          · rw [if_pos c20] at H
            have c20b0 : (t272 == 0) = true := beq_iff_eq.mpr c20
            have c20b1 : (t272 != 0) = false := bne_eq_false_iff_eq.mpr c20
            clear c20
            by_cases c21 : t271 = 0
            · rw [if_pos c21] at H
              have c21b0 : (t271 == 0) = true := beq_iff_eq.mpr c21
              have c21b1 : (t271 != 0) = false := bne_eq_false_iff_eq.mpr c21
              clear c21
              simp only [Option.some.injEq, Prod.mk.injEq] at H
              obtain ⟨rfl, rfl⟩ := H
              go_enter Try.func17, Try.ntmps17
              go_wp2_with (first | ((with_reducible refine gate_callee (f := 23) rfl ?_); refine goesL_ (some 8) rfl rfl Try.func23 (by kernel_rfl) rfl #[.int .u16 a0, .int .i64 11, .int .i64 7] rfl (by (try simp only [List.map_toArray, List.map_cons, List.map_nil]); first | done | rfl | (simp only [List.length_drop, List.length_take]; rfl)) ?_; (with_reducible refine (drawbridgeref02_f.calls k a0 11 7 t271 _ A2.out).mono ?_); rintro e w' ⟨rfl, ⟨nd, rfl⟩⟩; refine ⟨_, rfl, ?_⟩) | ((with_reducible refine gate_callee (f := 23) rfl ?_); refine goesL_ (some 10) rfl rfl Try.func23 (by kernel_rfl) rfl #[.int .u16 a0, .int .i64 6, .int .i64 2] rfl (by (try simp only [List.map_toArray, List.map_cons, List.map_nil]); first | done | rfl | (simp only [List.length_drop, List.length_take]; rfl)) ?_; (with_reducible refine (drawbridgeref02_f.calls k a0 6 2 t272 _ A3.out).mono ?_); rintro e w' ⟨rfl, ⟨nd, rfl⟩⟩; refine ⟨_, rfl, ?_⟩) | ((with_reducible refine gate_callee (f := 23) rfl ?_); refine goesL_ (some 12) rfl rfl Try.func23 (by kernel_rfl) rfl #[.int .u16 a0, .int .i64 15, .int .i64 13] rfl (by (try simp only [List.map_toArray, List.map_cons, List.map_nil]); first | done | rfl | (simp only [List.length_drop, List.length_take]; rfl)) ?_; (with_reducible refine (drawbridgeref02_f.calls k a0 15 13 t273 _ A4.out).mono ?_); rintro e w' ⟨rfl, ⟨nd, rfl⟩⟩; refine ⟨_, rfl, ?_⟩) | ((with_reducible refine gate_callee (f := 23) rfl ?_); refine goesL_ (some 60) rfl rfl Try.func23 (by kernel_rfl) rfl #[.int .u16 a0, .int .i64 12, .int .i64 12] rfl (by (try simp only [List.map_toArray, List.map_cons, List.map_nil]); first | done | rfl | (simp only [List.length_drop, List.length_take]; rfl)) ?_; (with_reducible refine (drawbridgeref02_f.calls k a0 12 12 t284 _ A19.out).mono ?_); rintro e w' ⟨rfl, ⟨nd, rfl⟩⟩; refine ⟨_, rfl, ?_⟩))
              go_ret2
              exact ⟨by first | rfl | (simp; done) | (simp [*]; done), by repeat (first | exact Drawn0.refl _ | apply Drawn0.step)⟩
            · rw [if_neg c21] at H
              have c21b0 : (t271 == 0) = false := beq_eq_false_iff_ne.mpr c21
              have c21b1 : (t271 != 0) = true := bne_iff_ne.mpr c21
              replace H := Option.bind_eq_some_iff.mp H
              obtain ⟨t285, A220, H⟩ := H
              replace H : (some (t285, true)) = some (r1, r2) := H
              have A22 := Aside0.mk A220
              clear A220
              simp only [Option.some.injEq, Prod.mk.injEq] at H
              obtain ⟨rfl, rfl⟩ := H
              go_enter Try.func17, Try.ntmps17
              go_wp2_with (first | ((with_reducible refine gate_callee (f := 23) rfl ?_); refine goesL_ (some 8) rfl rfl Try.func23 (by kernel_rfl) rfl #[.int .u16 a0, .int .i64 11, .int .i64 7] rfl (by (try simp only [List.map_toArray, List.map_cons, List.map_nil]); first | done | rfl | (simp only [List.length_drop, List.length_take]; rfl)) ?_; (with_reducible refine (drawbridgeref02_f.calls k a0 11 7 t271 _ A2.out).mono ?_); rintro e w' ⟨rfl, ⟨nd, rfl⟩⟩; refine ⟨_, rfl, ?_⟩) | ((with_reducible refine gate_callee (f := 23) rfl ?_); refine goesL_ (some 10) rfl rfl Try.func23 (by kernel_rfl) rfl #[.int .u16 a0, .int .i64 6, .int .i64 2] rfl (by (try simp only [List.map_toArray, List.map_cons, List.map_nil]); first | done | rfl | (simp only [List.length_drop, List.length_take]; rfl)) ?_; (with_reducible refine (drawbridgeref02_f.calls k a0 6 2 t272 _ A3.out).mono ?_); rintro e w' ⟨rfl, ⟨nd, rfl⟩⟩; refine ⟨_, rfl, ?_⟩) | ((with_reducible refine gate_callee (f := 23) rfl ?_); refine goesL_ (some 12) rfl rfl Try.func23 (by kernel_rfl) rfl #[.int .u16 a0, .int .i64 15, .int .i64 13] rfl (by (try simp only [List.map_toArray, List.map_cons, List.map_nil]); first | done | rfl | (simp only [List.length_drop, List.length_take]; rfl)) ?_; (with_reducible refine (drawbridgeref02_f.calls k a0 15 13 t273 _ A4.out).mono ?_); rintro e w' ⟨rfl, ⟨nd, rfl⟩⟩; refine ⟨_, rfl, ?_⟩) | ((with_reducible refine gate_callee (f := 23) rfl ?_); refine goesL_ (some 60) rfl rfl Try.func23 (by kernel_rfl) rfl #[.int .u16 a0, .int .i64 12, .int .i64 12] rfl (by (try simp only [List.map_toArray, List.map_cons, List.map_nil]); first | done | rfl | (simp only [List.length_drop, List.length_take]; rfl)) ?_; (with_reducible refine (drawbridgeref02_f.calls k a0 12 12 t284 _ A19.out).mono ?_); rintro e w' ⟨rfl, ⟨nd, rfl⟩⟩; refine ⟨_, rfl, ?_⟩) | ((with_reducible refine gate_callee (f := 24) rfl ?_); refine goesL_ (some 75) rfl rfl Try.func24 (by kernel_rfl) rfl #[.int .u32 0, .int .u32 t271, .int .u32 0, .int .u32 t284, .int .u32 103] rfl (by (try simp only [List.map_toArray, List.map_cons, List.map_nil]); first | done | rfl | (simp only [List.length_drop, List.length_take]; rfl)) ?_; (with_reducible refine (drawbridgeref02_itype.calls 0 t271 0 t284 103 t285 _ A22.out).mono ?_); rintro e w' ⟨rfl, ⟨nd, rfl⟩⟩; refine ⟨_, rfl, ?_⟩))
              go_ret2
              exact ⟨by first | rfl | (simp; done) | (simp [*]; done), by repeat (first | exact Drawn0.refl _ | apply Drawn0.step)⟩
          · rw [if_neg c20] at H
            have c20b0 : (t272 == 0) = false := beq_eq_false_iff_ne.mpr c20
            have c20b1 : (t272 != 0) = true := bne_iff_ne.mpr c20
            replace H := Option.bind_eq_some_iff.mp H
            obtain ⟨t286, A230, H⟩ := H
            replace H : (some (t286, true)) = some (r1, r2) := H
            have A23 := Aside0.mk A230
            clear A230
            simp only [Option.some.injEq, Prod.mk.injEq] at H
            obtain ⟨rfl, rfl⟩ := H
            go_enter Try.func17, Try.ntmps17
            go_wp2_with (first | ((with_reducible refine gate_callee (f := 23) rfl ?_); refine goesL_ (some 8) rfl rfl Try.func23 (by kernel_rfl) rfl #[.int .u16 a0, .int .i64 11, .int .i64 7] rfl (by (try simp only [List.map_toArray, List.map_cons, List.map_nil]); first | done | rfl | (simp only [List.length_drop, List.length_take]; rfl)) ?_; (with_reducible refine (drawbridgeref02_f.calls k a0 11 7 t271 _ A2.out).mono ?_); rintro e w' ⟨rfl, ⟨nd, rfl⟩⟩; refine ⟨_, rfl, ?_⟩) | ((with_reducible refine gate_callee (f := 23) rfl ?_); refine goesL_ (some 10) rfl rfl Try.func23 (by kernel_rfl) rfl #[.int .u16 a0, .int .i64 6, .int .i64 2] rfl (by (try simp only [List.map_toArray, List.map_cons, List.map_nil]); first | done | rfl | (simp only [List.length_drop, List.length_take]; rfl)) ?_; (with_reducible refine (drawbridgeref02_f.calls k a0 6 2 t272 _ A3.out).mono ?_); rintro e w' ⟨rfl, ⟨nd, rfl⟩⟩; refine ⟨_, rfl, ?_⟩) | ((with_reducible refine gate_callee (f := 23) rfl ?_); refine goesL_ (some 12) rfl rfl Try.func23 (by kernel_rfl) rfl #[.int .u16 a0, .int .i64 15, .int .i64 13] rfl (by (try simp only [List.map_toArray, List.map_cons, List.map_nil]); first | done | rfl | (simp only [List.length_drop, List.length_take]; rfl)) ?_; (with_reducible refine (drawbridgeref02_f.calls k a0 15 13 t273 _ A4.out).mono ?_); rintro e w' ⟨rfl, ⟨nd, rfl⟩⟩; refine ⟨_, rfl, ?_⟩) | ((with_reducible refine gate_callee (f := 23) rfl ?_); refine goesL_ (some 60) rfl rfl Try.func23 (by kernel_rfl) rfl #[.int .u16 a0, .int .i64 12, .int .i64 12] rfl (by (try simp only [List.map_toArray, List.map_cons, List.map_nil]); first | done | rfl | (simp only [List.length_drop, List.length_take]; rfl)) ?_; (with_reducible refine (drawbridgeref02_f.calls k a0 12 12 t284 _ A19.out).mono ?_); rintro e w' ⟨rfl, ⟨nd, rfl⟩⟩; refine ⟨_, rfl, ?_⟩) | ((with_reducible refine gate_callee (f := 30) rfl ?_); refine goesL_ (some 69) rfl rfl Try.func30 (by kernel_rfl) rfl #[.int .u32 0, .int .u32 t272, .int .u32 ((t284 * t271) % 4294967296), .int .u32 0, .int .u32 t271, .int .u32 51] rfl (by (try simp only [List.map_toArray, List.map_cons, List.map_nil]); first | done | rfl | (simp only [List.length_drop, List.length_take]; rfl)) ?_; (with_reducible refine (drawbridgeref02_rtype.calls 0 t272 ((t284 * t271) % 4294967296) 0 t271 51 t286 _ A23.out).mono ?_); rintro e w' ⟨rfl, ⟨nd, rfl⟩⟩; refine ⟨_, rfl, ?_⟩))
            go_ret2
            exact ⟨by first | rfl | (simp; done) | (simp [*]; done), by repeat (first | exact Drawn0.refl _ | apply Drawn0.step)⟩
        · rw [if_neg c18] at H
          have c18b0 : (t273 == 4) = false := beq_eq_false_iff_ne.mpr c18
          have c18b1 : (t273 != 4) = true := bne_iff_ne.mpr c18
          by_cases c24 : t273 = 6
          · rw [if_pos c24] at H
            have c24b0 : (t273 == 6) = true := beq_iff_eq.mpr c24
            have c24b1 : (t273 != 6) = false := bne_eq_false_iff_eq.mpr c24
            clear c24
            replace H := Option.bind_eq_some_iff.mp H
            obtain ⟨t287, A250, H⟩ := H
            replace H : ((drawbridgeref02_f.f k a0 8 7).bind fun t288 => ((drawbridgeref02_stype.f (Go.bits .or .u32 ((t287 * 4) % 4294967296) ((t288 * 64) % 4294967296)) t272 2 2).bind fun t289 => (some (t289, true)))) = some (r1, r2) := H
            have A25 := Aside0.mk A250
            clear A250
            replace H := Option.bind_eq_some_iff.mp H
            obtain ⟨t288, A260, H⟩ := H
            replace H : ((drawbridgeref02_stype.f (Go.bits .or .u32 ((t287 * 4) % 4294967296) ((t288 * 64) % 4294967296)) t272 2 2).bind fun t289 => (some (t289, true))) = some (r1, r2) := H
            have A26 := Aside0.mk A260
            clear A260
            replace H := Option.bind_eq_some_iff.mp H
            obtain ⟨t289, A270, H⟩ := H
            replace H : (some (t289, true)) = some (r1, r2) := H
            have A27 := Aside0.mk A270
            clear A270
            simp only [Option.some.injEq, Prod.mk.injEq] at H
            obtain ⟨rfl, rfl⟩ := H
            go_enter Try.func17, Try.ntmps17
            go_wp2_with (first | ((with_reducible refine gate_callee (f := 23) rfl ?_); refine goesL_ (some 8) rfl rfl Try.func23 (by kernel_rfl) rfl #[.int .u16 a0, .int .i64 11, .int .i64 7] rfl (by (try simp only [List.map_toArray, List.map_cons, List.map_nil]); first | done | rfl | (simp only [List.length_drop, List.length_take]; rfl)) ?_; (with_reducible refine (drawbridgeref02_f.calls k a0 11 7 t271 _ A2.out).mono ?_); rintro e w' ⟨rfl, ⟨nd, rfl⟩⟩; refine ⟨_, rfl, ?_⟩) | ((with_reducible refine gate_callee (f := 23) rfl ?_); refine goesL_ (some 10) rfl rfl Try.func23 (by kernel_rfl) rfl #[.int .u16 a0, .int .i64 6, .int .i64 2] rfl (by (try simp only [List.map_toArray, List.map_cons, List.map_nil]); first | done | rfl | (simp only [List.length_drop, List.length_take]; rfl)) ?_; (with_reducible refine (drawbridgeref02_f.calls k a0 6 2 t272 _ A3.out).mono ?_); rintro e w' ⟨rfl, ⟨nd, rfl⟩⟩; refine ⟨_, rfl, ?_⟩) | ((with_reducible refine gate_callee (f := 23) rfl ?_); refine goesL_ (some 12) rfl rfl Try.func23 (by kernel_rfl) rfl #[.int .u16 a0, .int .i64 15, .int .i64 13] rfl (by (try simp only [List.map_toArray, List.map_cons, List.map_nil]); first | done | rfl | (simp only [List.length_drop, List.length_take]; rfl)) ?_; (with_reducible refine (drawbridgeref02_f.calls k a0 15 13 t273 _ A4.out).mono ?_); rintro e w' ⟨rfl, ⟨nd, rfl⟩⟩; refine ⟨_, rfl, ?_⟩) | ((with_reducible refine gate_callee (f := 23) rfl ?_); refine goesL_ (some 81) rfl rfl Try.func23 (by kernel_rfl) rfl #[.int .u16 a0, .int .i64 12, .int .i64 9] rfl (by (try simp only [List.map_toArray, List.map_cons, List.map_nil]); first | done | rfl | (simp only [List.length_drop, List.length_take]; rfl)) ?_; (with_reducible refine (drawbridgeref02_f.calls k a0 12 9 t287 _ A25.out).mono ?_); rintro e w' ⟨rfl, ⟨nd, rfl⟩⟩; refine ⟨_, rfl, ?_⟩) | ((with_reducible refine gate_callee (f := 23) rfl ?_); refine goesL_ (some 84) rfl rfl Try.func23 (by kernel_rfl) rfl #[.int .u16 a0, .int .i64 8, .int .i64 7] rfl (by (try simp only [List.map_toArray, List.map_cons, List.map_nil]); first | done | rfl | (simp only [List.length_drop, List.length_take]; rfl)) ?_; (with_reducible refine (drawbridgeref02_f.calls k a0 8 7 t288 _ A26.out).mono ?_); rintro e w' ⟨rfl, ⟨nd, rfl⟩⟩; refine ⟨_, rfl, ?_⟩) | ((with_reducible refine gate_callee (f := 25) rfl ?_); refine goesL_ (some 88) rfl rfl Try.func25 (by kernel_rfl) rfl #[.int .u32 (Go.bits .or .u32 ((t287 * 4) % 4294967296) ((t288 * 64) % 4294967296)), .int .u32 t272, .int .u32 2, .int .u32 2] rfl (by (try simp only [List.map_toArray, List.map_cons, List.map_nil]); first | done | rfl | (simp only [List.length_drop, List.length_take]; rfl)) ?_; (with_reducible refine (drawbridgeref02_stype.calls (Go.bits .or .u32 ((t287 * 4) % 4294967296) ((t288 * 64) % 4294967296)) t272 2 2 t289 _ A27.out).mono ?_); rintro e w' ⟨rfl, ⟨nd, rfl⟩⟩; refine ⟨_, rfl, ?_⟩))
            go_ret2
            exact ⟨by first | rfl | (simp; done) | (simp [*]; done), by repeat (first | exact Drawn0.refl _ | apply Drawn0.step)⟩
          · rw [if_neg c24] at H
            have c24b0 : (t273 == 6) = false := beq_eq_false_iff_ne.mpr c24
            have c24b1 : (t273 != 6) = true := bne_iff_ne.mpr c24
            by_cases c28 : t273 = 7
            · rw [if_pos c28] at H
              have c28b0 : (t273 == 7) = true := beq_iff_eq.mpr c28
              have c28b1 : (t273 != 7) = false := bne_eq_false_iff_eq.mpr c28
              clear c28
              replace H := Option.bind_eq_some_iff.mp H
              obtain ⟨t290, A290, H⟩ := H
              replace H : ((drawbridgeref02_f.f k a0 9 7).bind fun t291 => ((drawbridgeref02_stype.f (Go.bits .or .u32 ((t290 * 8) % 4294967296) ((t291 * 64) % 4294967296)) t272 2 3).bind fun t292 => (some (t292, true)))) = some (r1, r2) := H
              have A29 := Aside0.mk A290
              clear A290
              replace H := Option.bind_eq_some_iff.mp H
              obtain ⟨t291, A300, H⟩ := H
              replace H : ((drawbridgeref02_stype.f (Go.bits .or .u32 ((t290 * 8) % 4294967296) ((t291 * 64) % 4294967296)) t272 2 3).bind fun t292 => (some (t292, true))) = some (r1, r2) := H
              have A30 := Aside0.mk A300
              clear A300
              replace H := Option.bind_eq_some_iff.mp H
              obtain ⟨t292, A310, H⟩ := H
              replace H : (some (t292, true)) = some (r1, r2) := H
              have A31 := Aside0.mk A310
              clear A310
              simp only [Option.some.injEq, Prod.mk.injEq] at H
              obtain ⟨rfl, rfl⟩ := H
              go_enter Try.func17, Try.ntmps17
              go_wp2_with (first | ((with_reducible refine gate_callee (f := 23) rfl ?_); refine goesL_ (some 8) rfl rfl Try.func23 (by kernel_rfl) rfl #[.int .u16 a0, .int .i64 11, .int .i64 7] rfl (by (try simp only [List.map_toArray, List.map_cons, List.map_nil]); first | done | rfl | (simp only [List.length_drop, List.length_take]; rfl)) ?_; (with_reducible refine (drawbridgeref02_f.calls k a0 11 7 t271 _ A2.out).mono ?_); rintro e w' ⟨rfl, ⟨nd, rfl⟩⟩; refine ⟨_, rfl, ?_⟩) | ((with_reducible refine gate_callee (f := 23) rfl ?_); refine goesL_ (some 10) rfl rfl Try.func23 (by kernel_rfl) rfl #[.int .u16 a0, .int .i64 6, .int .i64 2] rfl (by (try simp only [List.map_toArray, List.map_cons, List.map_nil]); first | done | rfl | (simp only [List.length_drop, List.length_take]; rfl)) ?_; (with_reducible refine (drawbridgeref02_f.calls k a0 6 2 t272 _ A3.out).mono ?_); rintro e w' ⟨rfl, ⟨nd, rfl⟩⟩; refine ⟨_, rfl, ?_⟩) | ((with_reducible refine gate_callee (f := 23) rfl ?_); refine goesL_ (some 12) rfl rfl Try.func23 (by kernel_rfl) rfl #[.int .u16 a0, .int .i64 15, .int .i64 13] rfl (by (try simp only [List.map_toArray, List.map_cons, List.map_nil]); first | done | rfl | (simp only [List.length_drop, List.length_take]; rfl)) ?_; (with_reducible refine (drawbridgeref02_f.calls k a0 15 13 t273 _ A4.out).mono ?_); rintro e w' ⟨rfl, ⟨nd, rfl⟩⟩; refine ⟨_, rfl, ?_⟩) | ((with_reducible refine gate_callee (f := 23) rfl ?_); refine goesL_ (some 92) rfl rfl Try.func23 (by kernel_rfl) rfl #[.int .u16 a0, .int .i64 12, .int .i64 10] rfl (by (try simp only [List.map_toArray, List.map_cons, List.map_nil]); first | done | rfl | (simp only [List.length_drop, List.length_take]; rfl)) ?_; (with_reducible refine (drawbridgeref02_f.calls k a0 12 10 t290 _ A29.out).mono ?_); rintro e w' ⟨rfl, ⟨nd, rfl⟩⟩; refine ⟨_, rfl, ?_⟩) | ((with_reducible refine gate_callee (f := 23) rfl ?_); refine goesL_ (some 95) rfl rfl Try.func23 (by kernel_rfl) rfl #[.int .u16 a0, .int .i64 9, .int .i64 7] rfl (by (try simp only [List.map_toArray, List.map_cons, List.map_nil]); first | done | rfl | (simp only [List.length_drop, List.length_take]; rfl)) ?_; (with_reducible refine (drawbridgeref02_f.calls k a0 9 7 t291 _ A30.out).mono ?_); rintro e w' ⟨rfl, ⟨nd, rfl⟩⟩; refine ⟨_, rfl, ?_⟩) | ((with_reducible refine gate_callee (f := 25) rfl ?_); refine goesL_ (some 99) rfl rfl Try.func25 (by kernel_rfl) rfl #[.int .u32 (Go.bits .or .u32 ((t290 * 8) % 4294967296) ((t291 * 64) % 4294967296)), .int .u32 t272, .int .u32 2, .int .u32 3] rfl (by (try simp only [List.map_toArray, List.map_cons, List.map_nil]); first | done | rfl | (simp only [List.length_drop, List.length_take]; rfl)) ?_; (with_reducible refine (drawbridgeref02_stype.calls (Go.bits .or .u32 ((t290 * 8) % 4294967296) ((t291 * 64) % 4294967296)) t272 2 3 t292 _ A31.out).mono ?_); rintro e w' ⟨rfl, ⟨nd, rfl⟩⟩; refine ⟨_, rfl, ?_⟩))
              go_ret2
              exact ⟨by first | rfl | (simp; done) | (simp [*]; done), by repeat (first | exact Drawn0.refl _ | apply Drawn0.step)⟩
            · rw [if_neg c28] at H
              have c28b0 : (t273 == 7) = false := beq_eq_false_iff_ne.mpr c28
              have c28b1 : (t273 != 7) = true := bne_iff_ne.mpr c28
              simp only [Option.some.injEq, Prod.mk.injEq] at H
              obtain ⟨rfl, rfl⟩ := H
              go_enter Try.func17, Try.ntmps17
              go_wp2_with (first | ((with_reducible refine gate_callee (f := 23) rfl ?_); refine goesL_ (some 8) rfl rfl Try.func23 (by kernel_rfl) rfl #[.int .u16 a0, .int .i64 11, .int .i64 7] rfl (by (try simp only [List.map_toArray, List.map_cons, List.map_nil]); first | done | rfl | (simp only [List.length_drop, List.length_take]; rfl)) ?_; (with_reducible refine (drawbridgeref02_f.calls k a0 11 7 t271 _ A2.out).mono ?_); rintro e w' ⟨rfl, ⟨nd, rfl⟩⟩; refine ⟨_, rfl, ?_⟩) | ((with_reducible refine gate_callee (f := 23) rfl ?_); refine goesL_ (some 10) rfl rfl Try.func23 (by kernel_rfl) rfl #[.int .u16 a0, .int .i64 6, .int .i64 2] rfl (by (try simp only [List.map_toArray, List.map_cons, List.map_nil]); first | done | rfl | (simp only [List.length_drop, List.length_take]; rfl)) ?_; (with_reducible refine (drawbridgeref02_f.calls k a0 6 2 t272 _ A3.out).mono ?_); rintro e w' ⟨rfl, ⟨nd, rfl⟩⟩; refine ⟨_, rfl, ?_⟩) | ((with_reducible refine gate_callee (f := 23) rfl ?_); refine goesL_ (some 12) rfl rfl Try.func23 (by kernel_rfl) rfl #[.int .u16 a0, .int .i64 15, .int .i64 13] rfl (by (try simp only [List.map_toArray, List.map_cons, List.map_nil]); first | done | rfl | (simp only [List.length_drop, List.length_take]; rfl)) ?_; (with_reducible refine (drawbridgeref02_f.calls k a0 15 13 t273 _ A4.out).mono ?_); rintro e w' ⟨rfl, ⟨nd, rfl⟩⟩; refine ⟨_, rfl, ?_⟩))
              go_ret2
              exact ⟨by first | rfl | (simp; done) | (simp [*]; done), by repeat (first | exact Drawn0.refl _ | apply Drawn0.step)⟩

/-! ### drawbridgeref02_Expand: function 9 -/
def drawbridgeref02_Expand.f (k : Nat) (a0 : Int) : Option (Int × Bool) := if (Int.tmod a0 4) = 0 then ((drawbridgeref02_zero.f k a0).bind fun bt293 => (if bt293.2 = true then (some (bt293.1, true)) else (some (0, false)))) else (if (Int.tmod a0 4) = 1 then ((drawbridgeref02_one.f k a0).bind fun bt295 => (if bt295.2 = true then (some (bt295.1, true)) else (some (0, false)))) else (if (Int.tmod a0 4) = 2 then ((drawbridgeref02_two.f k a0).bind fun bt297 => (if bt297.2 = true then (some (bt297.1, true)) else (some (0, false)))) else (some (0, false))))
theorem drawbridgeref02_Expand.mono : ∀ a0 k, LeO (drawbridgeref02_Expand.f k a0) (drawbridgeref02_Expand.f (k + 1) a0) := by
  intro a0 k
  unfold drawbridgeref02_Expand.f
  repeat' first
      | (with_reducible exact drawbridgeref02_one.mono _ _)
      | (with_reducible exact drawbridgeref02_two.mono _ _)
      | (with_reducible exact drawbridgeref02_zero.mono _ _)
      | (with_reducible exact LeO.refl _)
      | (with_reducible exact LeO.none _)
      | (with_reducible refine LeO.ite ?_ ?_)
      | (with_reducible refine LeO.bind ?_ (fun _ => ?_))
      | exact drawbridgeref02_one.mono _ _
      | exact drawbridgeref02_two.mono _ _
      | exact drawbridgeref02_zero.mono _ _
      | exact LeO.none _
      | refine LeO.ite ?_ ?_
      | refine LeO.bind ?_ (fun _ => ?_)
set_option maxHeartbeats 8000000 in
set_option maxRecDepth 100000 in
theorem drawbridgeref02_Expand.calls (k : Nat) (a0 : Int) (r1 : Int) (r2 : Bool) (w : World) (h : drawbridgeref02_Expand.f k a0 = some (r1, r2)) :
    Calls Try.prog 9 #[.int .u16 a0] w fun e w' => e = .returned (.tuple #[.int .u32 r1, .bool r2]) ∧ Drawn0 w w' := by
  have H : (if (Int.tmod a0 4) = 0 then ((drawbridgeref02_zero.f k a0).bind fun bt293 => (if bt293.2 = true then (some (bt293.1, true)) else (some (0, false)))) else (if (Int.tmod a0 4) = 1 then ((drawbridgeref02_one.f k a0).bind fun bt295 => (if bt295.2 = true then (some (bt295.1, true)) else (some (0, false)))) else (if (Int.tmod a0 4) = 2 then ((drawbridgeref02_two.f k a0).bind fun bt297 => (if bt297.2 = true then (some (bt297.1, true)) else (some (0, false)))) else (some (0, false))))) = some (r1, r2) := h
  clear h
  by_cases c2 : (Int.tmod a0 4) = 0
  · rw [if_pos c2] at H
    have c2b0 : ((Int.tmod a0 4) == 0) = true := beq_iff_eq.mpr c2
    have c2b1 : ((Int.tmod a0 4) != 0) = false := bne_eq_false_iff_eq.mpr c2
    clear c2
    replace H := Option.bind_eq_some_iff.mp H
    obtain ⟨⟨t293, t294⟩, A30, H⟩ := H
    replace H : (if t294 = true then (some (t293, true)) else (some (0, false))) = some (r1, r2) := H
    have A3 := Aside0.mk A30
    clear A30
    by_cases c4 : t294 = true
    · subst c4
      have H1 : (some (t293, true)) = some (r1, r2) := by rw [if_pos rfl] at H; exact H
      clear H
      have H := H1
      clear H1
      simp only [Option.some.injEq, Prod.mk.injEq] at H
      obtain ⟨rfl, rfl⟩ := H
      go_enter Try.func9, Try.ntmps9
      go_wp2_with (first | ((with_reducible refine gate_callee (f := 15) rfl ?_); refine goesL_ (some 12) rfl rfl Try.func15 (by kernel_rfl) rfl #[.int .u16 a0] rfl (by (try simp only [List.map_toArray, List.map_cons, List.map_nil]); first | done | rfl | (simp only [List.length_drop, List.length_take]; rfl)) ?_; (with_reducible refine (drawbridgeref02_zero.calls k a0 t293 true _ A3.out).mono ?_); rintro e w' ⟨rfl, ⟨nd, rfl⟩⟩; refine ⟨_, rfl, ?_⟩))
      go_ret2
      exact ⟨by first | rfl | (simp; done) | (simp [*]; done), by repeat (first | exact Drawn0.refl _ | apply Drawn0.step)⟩
    · replace c4 := Bool.eq_false_iff.mpr c4
      subst c4
      have H1 : (some (0, false)) = some (r1, r2) := by rw [if_neg (show ¬ (false = true) by decide)] at H; exact H
      clear H
      have H := H1
      clear H1
      simp only [Option.some.injEq, Prod.mk.injEq] at H
      obtain ⟨rfl, rfl⟩ := H
      go_enter Try.func9, Try.ntmps9
      go_wp2_with (first | ((with_reducible refine gate_callee (f := 15) rfl ?_); refine goesL_ (some 12) rfl rfl Try.func15 (by kernel_rfl) rfl #[.int .u16 a0] rfl (by (try simp only [List.map_toArray, List.map_cons, List.map_nil]); first | done | rfl | (simp only [List.length_drop, List.length_take]; rfl)) ?_; (with_reducible refine (drawbridgeref02_zero.calls k a0 t293 false _ A3.out).mono ?_); rintro e w' ⟨rfl, ⟨nd, rfl⟩⟩; refine ⟨_, rfl, ?_⟩))
      go_ret2
      exact ⟨by first | rfl | (simp; done) | (simp [*]; done), by repeat (first | exact Drawn0.refl _ | apply Drawn0.step)⟩
  · rw [if_neg c2] at H
    have c2b0 : ((Int.tmod a0 4) == 0) = false := beq_eq_false_iff_ne.mpr c2
    have c2b1 : ((Int.tmod a0 4) != 0) = true := bne_iff_ne.mpr c2
    by_cases c5 : (Int.tmod a0 4) = 1
    · rw [if_pos c5] at H
      have c5b0 : ((Int.tmod a0 4) == 1) = true := beq_iff_eq.mpr c5
      have c5b1 : ((Int.tmod a0 4) != 1) = false := bne_eq_false_iff_eq.mpr c5
      clear c5
      replace H := Option.bind_eq_some_iff.mp H
      obtain ⟨⟨t295, t296⟩, A60, H⟩ := H
      replace H : (if t296 = true then (some (t295, true)) else (some (0, false))) = some (r1, r2) := H
      have A6 := Aside0.mk A60
      clear A60
      by_cases c7 : t296 = true
      · subst c7
        have H1 : (some (t295, true)) = some (r1, r2) := by rw [if_pos rfl] at H; exact H
        clear H
        have H := H1
        clear H1
        simp only [Option.some.injEq, Prod.mk.injEq] at H
        obtain ⟨rfl, rfl⟩ := H
        go_enter Try.func9, Try.ntmps9
        go_wp2_with (first | ((with_reducible refine gate_callee (f := 16) rfl ?_); refine goesL_ (some 19) rfl rfl Try.func16 (by kernel_rfl) rfl #[.int .u16 a0] rfl (by (try simp only [List.map_toArray, List.map_cons, List.map_nil]); first | done | rfl | (simp only [List.length_drop, List.length_take]; rfl)) ?_; (with_reducible refine (drawbridgeref02_one.calls k a0 t295 true _ A6.out).mono ?_); rintro e w' ⟨rfl, ⟨nd, rfl⟩⟩; refine ⟨_, rfl, ?_⟩))
        go_ret2
        exact ⟨by first | rfl | (simp; done) | (simp [*]; done), by repeat (first | exact Drawn0.refl _ | apply Drawn0.step)⟩
      · replace c7 := Bool.eq_false_iff.mpr c7
        subst c7
        have H1 : (some (0, false)) = some (r1, r2) := by rw [if_neg (show ¬ (false = true) by decide)] at H; exact H
        clear H
        have H := H1
        clear H1
        simp only [Option.some.injEq, Prod.mk.injEq] at H
        obtain ⟨rfl, rfl⟩ := H
        go_enter Try.func9, Try.ntmps9
        go_wp2_with (first | ((with_reducible refine gate_callee (f := 16) rfl ?_); refine goesL_ (some 19) rfl rfl Try.func16 (by kernel_rfl) rfl #[.int .u16 a0] rfl (by (try simp only [List.map_toArray, List.map_cons, List.map_nil]); first | done | rfl | (simp only [List.length_drop, List.length_take]; rfl)) ?_; (with_reducible refine (drawbridgeref02_one.calls k a0 t295 false _ A6.out).mono ?_); rintro e w' ⟨rfl, ⟨nd, rfl⟩⟩; refine ⟨_, rfl, ?_⟩))
        go_ret2
        exact ⟨by first | rfl | (simp; done) | (simp [*]; done), by repeat (first | exact Drawn0.refl _ | apply Drawn0.step)⟩
    · rw [if_neg c5] at H
      have c5b0 : ((Int.tmod a0 4) == 1) = false := beq_eq_false_iff_ne.mpr c5
      have c5b1 : ((Int.tmod a0 4) != 1) = true := bne_iff_ne.mpr c5
      by_cases c8 : (Int.tmod a0 4) = 2
      · rw [if_pos c8] at H
        have c8b0 : ((Int.tmod a0 4) == 2) = true := beq_iff_eq.mpr c8
        have c8b1 : ((Int.tmod a0 4) != 2) = false := bne_eq_false_iff_eq.mpr c8
        clear c8
        replace H := Option.bind_eq_some_iff.mp H
        obtain ⟨⟨t297, t298⟩, A90, H⟩ := H
        replace H : (if t298 = true then (some (t297, true)) else (some (0, false))) = some (r1, r2) := H
        have A9 := Aside0.mk A90
        clear A90
        by_cases c10 : t298 = true
        · subst c10
          have H1 : (some (t297, true)) = some (r1, r2) := by rw [if_pos rfl] at H; exact H
          clear H
          have H := H1
          clear H1
          simp only [Option.some.injEq, Prod.mk.injEq] at H
          obtain ⟨rfl, rfl⟩ := H
          go_enter Try.func9, Try.ntmps9
          go_wp2_with (first | ((with_reducible refine gate_callee (f := 17) rfl ?_); refine goesL_ (some 26) rfl rfl Try.func17 (by kernel_rfl) rfl #[.int .u16 a0] rfl (by (try simp only [List.map_toArray, List.map_cons, List.map_nil]); first | done | rfl | (simp only [List.length_drop, List.length_take]; rfl)) ?_; (with_reducible refine (drawbridgeref02_two.calls k a0 t297 true _ A9.out).mono ?_); rintro e w' ⟨rfl, ⟨nd, rfl⟩⟩; refine ⟨_, rfl, ?_⟩))
          go_ret2
          exact ⟨by first | rfl | (simp; done) | (simp [*]; done), by repeat (first | exact Drawn0.refl _ | apply Drawn0.step)⟩
        · replace c10 := Bool.eq_false_iff.mpr c10
          subst c10
          have H1 : (some (0, false)) = some (r1, r2) := by rw [if_neg (show ¬ (false = true) by decide)] at H; exact H
          clear H
          have H := H1
          clear H1
          simp only [Option.some.injEq, Prod.mk.injEq] at H
          obtain ⟨rfl, rfl⟩ := H
          go_enter Try.func9, Try.ntmps9
          go_wp2_with (first | ((with_reducible refine gate_callee (f := 17) rfl ?_); refine goesL_ (some 26) rfl rfl Try.func17 (by kernel_rfl) rfl #[.int .u16 a0] rfl (by (try simp only [List.map_toArray, List.map_cons, List.map_nil]); first | done | rfl | (simp only [List.length_drop, List.length_take]; rfl)) ?_; (with_reducible refine (drawbridgeref02_two.calls k a0 t297 false _ A9.out).mono ?_); rintro e w' ⟨rfl, ⟨nd, rfl⟩⟩; refine ⟨_, rfl, ?_⟩))
          go_ret2
          exact ⟨by first | rfl | (simp; done) | (simp [*]; done), by repeat (first | exact Drawn0.refl _ | apply Drawn0.step)⟩
      · rw [if_neg c8] at H
        have c8b0 : ((Int.tmod a0 4) == 2) = false := beq_eq_false_iff_ne.mpr c8
        have c8b1 : ((Int.tmod a0 4) != 2) = true := bne_iff_ne.mpr c8
        simp only [Option.some.injEq, Prod.mk.injEq] at H
        obtain ⟨rfl, rfl⟩ := H
        go_enter Try.func9, Try.ntmps9
        go_wp2
        go_ret2
        exact ⟨by first | rfl | (simp; done) | (simp [*]; done), by repeat (first | exact Drawn0.refl _ | apply Drawn0.step)⟩

/-! ### drawbridgelaw03_DecodeShort: function 3 -/
def drawbridgelaw03_DecodeShort.f (k : Nat) (a0 : Int) : Option (Bool) := (drawbridgeref02_Expand.f k a0).bind fun bt299 => (if bt299.2 = true then ((decode_Decode.f bt299.1).bind fun bt301 => (if bt301.2.2.2.2.2.2.2 = true then (if bt301.1 ≥ 1 then (if bt301.1 ≤ 11 then ((drawbridgelaw03_heads.f).bind fun t310 => (some t310)) else (some false)) else (some false)) else (some false))) else ((drawbridgelaw03_heads.f).bind fun t311 => (some t311)))
theorem drawbridgelaw03_DecodeShort.mono : ∀ a0 k, LeO (drawbridgelaw03_DecodeShort.f k a0) (drawbridgelaw03_DecodeShort.f (k + 1) a0) := by
  intro a0 k
  unfold drawbridgelaw03_DecodeShort.f
  repeat' first
      | (with_reducible exact drawbridgeref02_Expand.mono _ _)
      | (with_reducible exact LeO.refl _)
      | (with_reducible exact LeO.none _)
      | (with_reducible refine LeO.ite ?_ ?_)
      | (with_reducible refine LeO.bind ?_ (fun _ => ?_))
      | exact drawbridgeref02_Expand.mono _ _
      | exact LeO.none _
      | refine LeO.ite ?_ ?_
      | refine LeO.bind ?_ (fun _ => ?_)
set_option maxHeartbeats 8000000 in
set_option maxRecDepth 100000 in
theorem drawbridgelaw03_DecodeShort.calls (k : Nat) (a0 : Int) (r : Bool) (w : World) (h : drawbridgelaw03_DecodeShort.f k a0 = some r) (hT_ : r = true) :
    Calls Try.prog 3 #[.int .u16 a0] w fun e w' => e = .returned (.bool r) ∧ Below w.heap.size w w' := by
  have hu30 := Try.underlying30
  have HB := Aside0.mk (Below.refl w.heap.size w)
  have H : ((drawbridgeref02_Expand.f k a0).bind fun bt299 => (if bt299.2 = true then ((decode_Decode.f bt299.1).bind fun bt301 => (if bt301.2.2.2.2.2.2.2 = true then (if bt301.1 ≥ 1 then (if bt301.1 ≤ 11 then ((drawbridgelaw03_heads.f).bind fun t310 => (some t310)) else (some false)) else (some false)) else (some false))) else ((drawbridgelaw03_heads.f).bind fun t311 => (some t311)))) = some r := h
  clear h
  replace H := Option.bind_eq_some_iff.mp H
  obtain ⟨⟨t299, t300⟩, A20, H⟩ := H
  replace H : (if t300 = true then ((decode_Decode.f t299).bind fun bt301 => (if bt301.2.2.2.2.2.2.2 = true then (if bt301.1 ≥ 1 then (if bt301.1 ≤ 11 then ((drawbridgelaw03_heads.f).bind fun t310 => (some t310)) else (some false)) else (some false)) else (some false))) else ((drawbridgelaw03_heads.f).bind fun t311 => (some t311))) = some r := H
  have A2 := Aside0.mk A20
  clear A20
  by_cases c3 : t300 = true
  · subst c3
    have H1 : ((decode_Decode.f t299).bind fun bt301 => (if bt301.2.2.2.2.2.2.2 = true then (if bt301.1 ≥ 1 then (if bt301.1 ≤ 11 then ((drawbridgelaw03_heads.f).bind fun t310 => (some t310)) else (some false)) else (some false)) else (some false))) = some r := by rw [if_pos rfl] at H; exact H
    clear H
    have H := H1
    clear H1
    replace H := Option.bind_eq_some_iff.mp H
    obtain ⟨⟨t301, t302, t303, t304, t305, t306, t307, t308⟩, A40, H⟩ := H
    replace H : (if t308 = true then (if t301 ≥ 1 then (if t301 ≤ 11 then ((drawbridgelaw03_heads.f).bind fun t310 => (some t310)) else (some false)) else (some false)) else (some false)) = some r := H
    have A4 := Aside0.mk A40
    clear A40
    by_cases c5 : t308 = true
    · subst c5
      have H1 : (if t301 ≥ 1 then (if t301 ≤ 11 then ((drawbridgelaw03_heads.f).bind fun t310 => (some t310)) else (some false)) else (some false)) = some r := by rw [if_pos rfl] at H; exact H
      clear H
      have H := H1
      clear H1
      by_cases c6 : t301 ≥ 1
      · rw [if_pos c6] at H
        have c6b0 : decide (1 ≤ t301) = true := decide_eq_true c6
        clear c6
        by_cases c7 : t301 ≤ 11
        · rw [if_pos c7] at H
          have c7b0 : decide (t301 ≤ 11) = true := decide_eq_true c7
          clear c7
          replace H := Option.bind_eq_some_iff.mp H
          obtain ⟨t310, A80, H⟩ := H
          replace H : (some t310) = some r := H
          have A8 := Aside0.mk A80
          clear A80
          clear hT_
          obtain rfl := Option.some.inj H
          go_enter Try.func3, Try.ntmps3
          go_wp2_with (first | ((with_reducible refine gate_callee (f := 9) rfl ?_); refine goesL_ (some 9) rfl rfl Try.func9 (by kernel_rfl) rfl #[.int .u16 a0] rfl (by (try simp only [List.map_toArray, List.map_cons, List.map_nil]); first | done | rfl | (simp only [List.length_drop, List.length_take]; rfl)) ?_; (with_reducible refine (drawbridgeref02_Expand.calls k a0 t299 true _ A2.out).mono ?_); rintro e w' ⟨rfl, ⟨nd, rfl⟩⟩; refine ⟨_, rfl, ?_⟩) | ((with_reducible refine gate_callee (f := 11) rfl ?_); refine goesL_ (some 17) rfl rfl Try.func11 (by kernel_rfl) rfl #[.int .u32 t299] rfl (by (try simp only [List.map_toArray, List.map_cons, List.map_nil]); first | done | rfl | (simp only [List.length_drop, List.length_take]; rfl)) ?_; (with_reducible refine (decode_Decode.calls t299 t301 t302 t303 t304 t305 t306 t307 true _ A4.out).mono ?_); rintro e w9 ⟨rfl, hb⟩; refine ⟨_, rfl, ?_⟩; have n0_ := Aside0.mk (below_step (by repeat (first | (with_reducible first | exact HB.out | apply below_alloc | apply pw_below_drewN | apply below_drew1) | exact HB.out)) hb); clear HB; have HB := n0_; clear n0_; (try clear hb); (try clear hb2); (try clear hk); (try clear hi)) | ((with_reducible refine gate_dst (N := 5) rfl ?_); refine box_event ?hg (N := 5) ?hd (cs := #[.int .i64 0, .int .i64 0, .bool false, .int .i64 0, .int .i64 0, .int .i64 0, .int .u64 0]) (t := 30) ?hr ?_; (case hd => rfl); (case hg => rfl); (case hr => first | (go_simp; done) | (go_simp; rfl)); intro gb309 hg w10 hbox hb; have n0_ := Aside0.mk (below_step (by repeat (first | (with_reducible first | exact HB.out | apply below_alloc | apply pw_below_drewN | apply below_drew1) | exact HB.out)) hb); have n1_ := Aside0.mk (hbox); have n2_ := Aside0.mk ((by rw [hg]; exact (below_size (by repeat (first | (with_reducible first | exact HB.out | apply below_alloc | apply pw_below_drewN | apply below_drew1) | exact HB.out))) : w.heap.size ≤ gb309)); have n3_ := Aside0.mk ((by rw [hg]; exact (below_size (by repeat (first | (with_reducible first | exact HB.out | apply below_alloc | apply pw_below_drewN | apply below_drew1) | exact HB.out))) : w.heap.size ≤ gb309)); clear HB; have HB := n0_; have BK309 := n1_; have GW309 := n2_; have GE309 := n3_; clear n0_ n1_ n2_ n3_; clear hb hbox hg; have hcz11_0 : w10.cell? ⟨gb309, 0, none⟩ = some (.int .i64 0) := (blk_cell BK309.out 0).trans rfl; have hcz11_1 : w10.cell? ⟨gb309, 1, none⟩ = some (.int .i64 0) := (blk_cell BK309.out 1).trans rfl; have hcz11_2 : w10.cell? ⟨gb309, 2, none⟩ = some (.bool false) := (blk_cell BK309.out 2).trans rfl; have hcz11_3 : w10.cell? ⟨gb309, 3, none⟩ = some (.int .i64 0) := (blk_cell BK309.out 3).trans rfl; have hcz11_4 : w10.cell? ⟨gb309, 4, none⟩ = some (.int .i64 0) := (blk_cell BK309.out 4).trans rfl; have hcz11_5 : w10.cell? ⟨gb309, 5, none⟩ = some (.int .i64 0) := (blk_cell BK309.out 5).trans rfl; have hcz11_6 : w10.cell? ⟨gb309, 6, none⟩ = some (.int .u64 0) := (blk_cell BK309.out 6).trans rfl; have hfz11_0 := blk_frozen BK309.out 0; have hfz11_1 := blk_frozen BK309.out 1; have hfz11_2 := blk_frozen BK309.out 2; have hfz11_3 := blk_frozen BK309.out 3; have hfz11_4 := blk_frozen BK309.out 4; have hfz11_5 := blk_frozen BK309.out 5; have hfz11_6 := blk_frozen BK309.out 6) | (go_at_call 10; (with_reducible refine (drawbridgelaw03_heads.calls  t310 _ A8.out).mono ?_); rintro e w12 ⟨rfl, hb⟩; have n0_ := Aside0.mk (blk_below (g := gb309) (o := .cells #[.int .i64 t301, .int .i64 t302, .bool t303, .int .i64 t304, .int .i64 t305, .int .i64 t306, .int .u64 t307] 30 (0, 0)) (by (with_reducible repeat (first | refine blk_drewN ?_ _ | refine blk_drew ?_ | refine blk_alloc ?_ _)); refine blk_put (cs := #[.int .i64 t301, .int .i64 t302, .bool t303, .int .i64 t304, .int .i64 t305, .int .i64 t306, .int .u64 0]) ?_ 6 _ rfl; (with_reducible repeat (first | refine blk_drewN ?_ _ | refine blk_drew ?_ | refine blk_alloc ?_ _)); refine blk_put (cs := #[.int .i64 t301, .int .i64 t302, .bool t303, .int .i64 t304, .int .i64 t305, .int .i64 0, .int .u64 0]) ?_ 5 _ rfl; (with_reducible repeat (first | refine blk_drewN ?_ _ | refine blk_drew ?_ | refine blk_alloc ?_ _)); refine blk_put (cs := #[.int .i64 t301, .int .i64 t302, .bool t303, .int .i64 t304, .int .i64 0, .int .i64 0, .int .u64 0]) ?_ 4 _ rfl; (with_reducible repeat (first | refine blk_drewN ?_ _ | refine blk_drew ?_ | refine blk_alloc ?_ _)); refine blk_put (cs := #[.int .i64 t301, .int .i64 t302, .bool t303, .int .i64 0, .int .i64 0, .int .i64 0, .int .u64 0]) ?_ 3 _ rfl; (with_reducible repeat (first | refine blk_drewN ?_ _ | refine blk_drew ?_ | refine blk_alloc ?_ _)); refine blk_put (cs := #[.int .i64 t301, .int .i64 t302, .bool false, .int .i64 0, .int .i64 0, .int .i64 0, .int .u64 0]) ?_ 2 _ rfl; (with_reducible repeat (first | refine blk_drewN ?_ _ | refine blk_drew ?_ | refine blk_alloc ?_ _)); refine blk_put (cs := #[.int .i64 t301, .int .i64 0, .bool false, .int .i64 0, .int .i64 0, .int .i64 0, .int .u64 0]) ?_ 1 _ rfl; (with_reducible repeat (first | refine blk_drewN ?_ _ | refine blk_drew ?_ | refine blk_alloc ?_ _)); refine blk_put (cs := #[.int .i64 0, .int .i64 0, .bool false, .int .i64 0, .int .i64 0, .int .i64 0, .int .u64 0]) ?_ 0 _ rfl; (with_reducible repeat (first | refine blk_drewN ?_ _ | refine blk_drew ?_ | refine blk_alloc ?_ _)); exact BK309.out) hb); have n1_ := Aside0.mk (below_step (by repeat (first | (with_reducible first | exact HB.out | apply below_alloc | apply pw_below_drewN | apply below_drew1 | refine below_set ?_ GE309.out) | exact HB.out)) hb); clear BK309; clear HB; have BK309 := n0_; have HB := n1_; clear n0_ n1_; (try clear hb); (try clear hb2); (try clear hk); (try clear hi)))
          go_ret
          exact ⟨by first | rfl | (simp [errW_none, errW_some] <;> rfl) | (simp [*, errW_none, errW_some] <;> rfl), by repeat (first | (with_reducible first | exact HB.out | apply below_alloc | apply pw_below_drewN | apply below_drew1 | refine below_set ?_ GE309.out) | exact HB.out)⟩
        · rw [if_neg c7] at H
          have c7b0 : decide (t301 ≤ 11) = false := decide_eq_false c7
          clear c7
          exact absurd ((Option.some.inj (show (some false) = some r from H)).trans hT_) (by decide)
      · rw [if_neg c6] at H
        have c6b0 : decide (1 ≤ t301) = false := decide_eq_false c6
        clear c6
        exact absurd ((Option.some.inj (show (some false) = some r from H)).trans hT_) (by decide)
    · replace c5 := Bool.eq_false_iff.mpr c5
      subst c5
      have H1 : (some false) = some r := by rw [if_neg (show ¬ (false = true) by decide)] at H; exact H
      clear H
      have H := H1
      clear H1
      exact absurd ((Option.some.inj (show (some false) = some r from H)).trans hT_) (by decide)
  · replace c3 := Bool.eq_false_iff.mpr c3
    subst c3
    have H1 : ((drawbridgelaw03_heads.f).bind fun t311 => (some t311)) = some r := by rw [if_neg (show ¬ (false = true) by decide)] at H; exact H
    clear H
    have H := H1
    clear H1
    replace H := Option.bind_eq_some_iff.mp H
    obtain ⟨t311, A220, H⟩ := H
    replace H : (some t311) = some r := H
    have A22 := Aside0.mk A220
    clear A220
    clear hT_
    obtain rfl := Option.some.inj H
    go_enter Try.func3, Try.ntmps3
    go_wp2_with (first | ((with_reducible refine gate_callee (f := 9) rfl ?_); refine goesL_ (some 9) rfl rfl Try.func9 (by kernel_rfl) rfl #[.int .u16 a0] rfl (by (try simp only [List.map_toArray, List.map_cons, List.map_nil]); first | done | rfl | (simp only [List.length_drop, List.length_take]; rfl)) ?_; (with_reducible refine (drawbridgeref02_Expand.calls k a0 t299 false _ A2.out).mono ?_); rintro e w' ⟨rfl, ⟨nd, rfl⟩⟩; refine ⟨_, rfl, ?_⟩) | ((with_reducible refine gate_callee (f := 10) rfl ?_); refine goesL_ (some 14) rfl rfl Try.func10 (by kernel_rfl) rfl #[] rfl (by (try simp only [List.map_toArray, List.map_cons, List.map_nil]); first | done | rfl | (simp only [List.length_drop, List.length_take]; rfl)) ?_; (with_reducible refine (drawbridgelaw03_heads.calls  t311 _ A22.out).mono ?_); rintro e w23 ⟨rfl, hb⟩; refine ⟨_, rfl, ?_⟩; have n0_ := Aside0.mk (below_step (by repeat (first | (with_reducible first | exact HB.out | apply below_alloc | apply pw_below_drewN | apply below_drew1) | exact HB.out)) hb); clear HB; have HB := n0_; clear n0_; (try clear hb); (try clear hb2); (try clear hk); (try clear hi)))
    go_ret
    exact ⟨by first | rfl | (simp [errW_none, errW_some] <;> rfl) | (simp [*, errW_none, errW_some] <;> rfl), by repeat (first | (with_reducible first | exact HB.out | apply below_alloc | apply pw_below_drewN | apply below_drew1) | exact HB.out)⟩

end Go.Proofs.Ytgcpedenlbcdgaa.Q
