import Derived.Test.YtgcpedenlbcdgaaHZ5
/- Layer 3, plain facts: what was taken apart is put together. -/
set_option linter.unusedVariables false
set_option linter.unusedSimpArgs false
namespace Go.Proofs.Ytgcpedenlbcdgaa.Q
open Go.RowKit Go.Proofs.YtgcpedenlbcdgaaW.PrintWords Go.Proofs.YtgcpedenlbcdgaaW.PrintLast Go.Proofs.YtgcpedenlbcdgaaW.PrintMore Go.Proofs.Ytgcpedenlbcdgaa.L
section
variable (x : Int) (hx : u32B x)
include hx
theorem w55 (o : fieldZ x 6 0 = 55) : wordV ⟨1, 0, false, (fieldZ x 11 7), 0, 0, sextZ ((fieldZ x 31 12) * 4096) 32⟩ = x := by
  have g11_7 := f11_7 x
  have g31_12 := f31_12 x
  have g6_0 := f6_0 x
  have x0 := hx.1
  have x1 := hx.2
  have k1 : msk ((fieldZ x 11 7) * 128) 3968 := by have := msk_mul (fieldZ x 11 7) 5 7 (by omega) (by omega); simpa using this
  have k2 : msk ((fieldZ x 31 12) * 4096) 4294963200 := by have := msk_mul (fieldZ x 31 12) 20 12 (by omega) (by omega); simpa using this
  obtain ⟨e1, m1⟩ := put_sum (op := 55) (k := 0) (hi := 0) (rd := (fieldZ x 11 7)) (r1 := 0) (r2 := 0) (A0 := 127) (show msk _ _ from ⟨by decide, by decide⟩) k1 (show msk _ 0 from ⟨by decide, by decide⟩) (show msk _ 0 from ⟨by decide, by decide⟩) (show msk _ 0 from ⟨by decide, by decide⟩) (show msk _ 0 from ⟨by decide, by decide⟩) (by decide)
  have hm : sextZ ((fieldZ x 31 12) * 4096) 32 % 4294967296 = (fieldZ x 31 12) * 4096 := by rw [sx32]; split <;> omega
  show Go.bits .or .u32 (putZ 55 0 0 (fieldZ x 11 7) 0 0) (Go.bits .andNot .u32 (sextZ ((fieldZ x 31 12) * 4096) 32 % 4294967296) 4095) = x
  rw [hm, andNot_4095 _ (by omega) (by omega), show (fieldZ x 31 12) * 4096 - (fieldZ x 31 12) * 4096 % 4096 = (fieldZ x 31 12) * 4096 by omega, e1, (msk_or m1 k2 (by decide) (by decide) (by decide)).1]
  omega
theorem w23 (o : fieldZ x 6 0 = 23) : wordV ⟨2, 0, false, (fieldZ x 11 7), 0, 0, sextZ ((fieldZ x 31 12) * 4096) 32⟩ = x := by
  have g11_7 := f11_7 x
  have g31_12 := f31_12 x
  have g6_0 := f6_0 x
  have x0 := hx.1
  have x1 := hx.2
  have k1 : msk ((fieldZ x 11 7) * 128) 3968 := by have := msk_mul (fieldZ x 11 7) 5 7 (by omega) (by omega); simpa using this
  have k2 : msk ((fieldZ x 31 12) * 4096) 4294963200 := by have := msk_mul (fieldZ x 31 12) 20 12 (by omega) (by omega); simpa using this
  obtain ⟨e1, m1⟩ := put_sum (op := 23) (k := 0) (hi := 0) (rd := (fieldZ x 11 7)) (r1 := 0) (r2 := 0) (A0 := 127) (show msk _ _ from ⟨by decide, by decide⟩) k1 (show msk _ 0 from ⟨by decide, by decide⟩) (show msk _ 0 from ⟨by decide, by decide⟩) (show msk _ 0 from ⟨by decide, by decide⟩) (show msk _ 0 from ⟨by decide, by decide⟩) (by decide)
  have hm : sextZ ((fieldZ x 31 12) * 4096) 32 % 4294967296 = (fieldZ x 31 12) * 4096 := by rw [sx32]; split <;> omega
  show Go.bits .or .u32 (putZ 23 0 0 (fieldZ x 11 7) 0 0) (Go.bits .andNot .u32 (sextZ ((fieldZ x 31 12) * 4096) 32 % 4294967296) 4095) = x
  rw [hm, andNot_4095 _ (by omega) (by omega), show (fieldZ x 31 12) * 4096 - (fieldZ x 31 12) * 4096 % 4096 = (fieldZ x 31 12) * 4096 by omega, e1, (msk_or m1 k2 (by decide) (by decide) (by decide)).1]
  omega
theorem w103 (o : fieldZ x 6 0 = 103) (k : (fieldZ x 14 12) = 0) : wordV ⟨4, 0, false, (fieldZ x 11 7), (fieldZ x 19 15), 0, sextZ (fieldZ x 31 20) 12⟩ = x := by
  have g11_7 := f11_7 x
  have g19_15 := f19_15 x
  have g14_12 := f14_12 x
  have g31_20 := f31_20 x
  have g6_0 := f6_0 x
  have x0 := hx.1
  have x1 := hx.2
  have k1 : msk ((fieldZ x 11 7) * 128) 3968 := by have := msk_mul (fieldZ x 11 7) 5 7 (by omega) (by omega); simpa using this
  have k3 : msk ((fieldZ x 19 15) * 32768) 1015808 := by have := msk_mul (fieldZ x 19 15) 5 15 (by omega) (by omega); simpa using this
  have k2 : msk ((fieldZ x 31 20) * 1048576) 4293918720 := by have := msk_mul (fieldZ x 31 20) 12 20 (by omega) (by omega); simpa using this
  obtain ⟨e1, m1⟩ := put_sum (op := 103) (k := 0) (hi := 0) (rd := (fieldZ x 11 7)) (r1 := (fieldZ x 19 15)) (r2 := 0) (A0 := 127) (show msk _ _ from ⟨by decide, by decide⟩) k1 (show msk _ 0 from ⟨by decide, by decide⟩) k3 (show msk _ 0 from ⟨by decide, by decide⟩) (show msk _ 0 from ⟨by decide, by decide⟩) (by decide)
  have hm : sextZ (fieldZ x 31 20) 12 % 4294967296 * 1048576 % 4294967296 = (fieldZ x 31 20) * 1048576 := by rw [sx12]; split <;> omega
  have hk : (fieldZ x 14 12) % 4294967296 = (fieldZ x 14 12) := by omega
  show Go.bits .or .u32 (putZ 103 0 0 (fieldZ x 11 7) (fieldZ x 19 15) 0) (sextZ (fieldZ x 31 20) 12 % 4294967296 * 1048576 % 4294967296) = x
  rw [hm, e1, (msk_or m1 k2 (by decide) (by decide) (by decide)).1]
  omega
theorem w3 (o : fieldZ x 6 0 = 3) : wordV ⟨6, (fieldZ x 14 12), false, (fieldZ x 11 7), (fieldZ x 19 15), 0, sextZ (fieldZ x 31 20) 12⟩ = x := by
  have g11_7 := f11_7 x
  have g19_15 := f19_15 x
  have g14_12 := f14_12 x
  have g31_20 := f31_20 x
  have g6_0 := f6_0 x
  have x0 := hx.1
  have x1 := hx.2
  have k1 : msk ((fieldZ x 11 7) * 128) 3968 := by have := msk_mul (fieldZ x 11 7) 5 7 (by omega) (by omega); simpa using this
  have k3 : msk ((fieldZ x 19 15) * 32768) 1015808 := by have := msk_mul (fieldZ x 19 15) 5 15 (by omega) (by omega); simpa using this
  have k2 : msk ((fieldZ x 31 20) * 1048576) 4293918720 := by have := msk_mul (fieldZ x 31 20) 12 20 (by omega) (by omega); simpa using this
  have k4 : msk ((fieldZ x 14 12) * 4096) 28672 := by have := msk_mul (fieldZ x 14 12) 3 12 (by omega) (by omega); simpa using this
  obtain ⟨e1, m1⟩ := put_sum (op := 3) (k := (fieldZ x 14 12)) (hi := 0) (rd := (fieldZ x 11 7)) (r1 := (fieldZ x 19 15)) (r2 := 0) (A0 := 127) (show msk _ _ from ⟨by decide, by decide⟩) k1 k4 k3 (show msk _ 0 from ⟨by decide, by decide⟩) (show msk _ 0 from ⟨by decide, by decide⟩) (by decide)
  have hm : sextZ (fieldZ x 31 20) 12 % 4294967296 * 1048576 % 4294967296 = (fieldZ x 31 20) * 1048576 := by rw [sx12]; split <;> omega
  have hk : (fieldZ x 14 12) % 4294967296 = (fieldZ x 14 12) := by omega
  show Go.bits .or .u32 (putZ 3 ((fieldZ x 14 12) % 4294967296) 0 (fieldZ x 11 7) (fieldZ x 19 15) 0) (sextZ (fieldZ x 31 20) 12 % 4294967296 * 1048576 % 4294967296) = x
  rw [hk]
  rw [hm, e1, (msk_or m1 k2 (by decide) (by decide) (by decide)).1]
  omega
theorem w19c (o : fieldZ x 6 0 = 19) : wordV ⟨8, (fieldZ x 14 12), false, (fieldZ x 11 7), (fieldZ x 19 15), 0, sextZ (fieldZ x 31 20) 12⟩ = x := by
  have g11_7 := f11_7 x
  have g19_15 := f19_15 x
  have g14_12 := f14_12 x
  have g31_20 := f31_20 x
  have g6_0 := f6_0 x
  have x0 := hx.1
  have x1 := hx.2
  have k1 : msk ((fieldZ x 11 7) * 128) 3968 := by have := msk_mul (fieldZ x 11 7) 5 7 (by omega) (by omega); simpa using this
  have k3 : msk ((fieldZ x 19 15) * 32768) 1015808 := by have := msk_mul (fieldZ x 19 15) 5 15 (by omega) (by omega); simpa using this
  have k2 : msk ((fieldZ x 31 20) * 1048576) 4293918720 := by have := msk_mul (fieldZ x 31 20) 12 20 (by omega) (by omega); simpa using this
  have k4 : msk ((fieldZ x 14 12) * 4096) 28672 := by have := msk_mul (fieldZ x 14 12) 3 12 (by omega) (by omega); simpa using this
  obtain ⟨e1, m1⟩ := put_sum (op := 19) (k := (fieldZ x 14 12)) (hi := 0) (rd := (fieldZ x 11 7)) (r1 := (fieldZ x 19 15)) (r2 := 0) (A0 := 127) (show msk _ _ from ⟨by decide, by decide⟩) k1 k4 k3 (show msk _ 0 from ⟨by decide, by decide⟩) (show msk _ 0 from ⟨by decide, by decide⟩) (by decide)
  have hm : sextZ (fieldZ x 31 20) 12 % 4294967296 * 1048576 % 4294967296 = (fieldZ x 31 20) * 1048576 := by rw [sx12]; split <;> omega
  have hk : (fieldZ x 14 12) % 4294967296 = (fieldZ x 14 12) := by omega
  show (if (fieldZ x 14 12) == 13 then Go.bits .or .u32 (putZ (Go.bits .or .u32 19 0) 5 32 (fieldZ x 11 7) (fieldZ x 19 15) 0) (sextZ (fieldZ x 31 20) 12 % 4294967296 * 1048576 % 4294967296) else Go.bits .or .u32 (putZ (Go.bits .or .u32 19 0) ((fieldZ x 14 12) % 4294967296) 0 (fieldZ x 11 7) (fieldZ x 19 15) 0) (sextZ (fieldZ x 31 20) 12 % 4294967296 * 1048576 % 4294967296)) = x
  rw [if_neg (show ¬ ((fieldZ x 14 12) == 13) = true from fun hz => by have := eq_of_beq hz; omega)]
  rw [hk]
  rw [show (Go.bits .or .u32 19 0) = 19 from by kernel_rfl]
  rw [hm, e1, (msk_or m1 k2 (by decide) (by decide) (by decide)).1]
  omega
theorem w27c (o : fieldZ x 6 0 = 27) : wordV ⟨8, (fieldZ x 14 12), true, (fieldZ x 11 7), (fieldZ x 19 15), 0, sextZ (fieldZ x 31 20) 12⟩ = x := by
  have g11_7 := f11_7 x
  have g19_15 := f19_15 x
  have g14_12 := f14_12 x
  have g31_20 := f31_20 x
  have g6_0 := f6_0 x
  have x0 := hx.1
  have x1 := hx.2
  have k1 : msk ((fieldZ x 11 7) * 128) 3968 := by have := msk_mul (fieldZ x 11 7) 5 7 (by omega) (by omega); simpa using this
  have k3 : msk ((fieldZ x 19 15) * 32768) 1015808 := by have := msk_mul (fieldZ x 19 15) 5 15 (by omega) (by omega); simpa using this
  have k2 : msk ((fieldZ x 31 20) * 1048576) 4293918720 := by have := msk_mul (fieldZ x 31 20) 12 20 (by omega) (by omega); simpa using this
  have k4 : msk ((fieldZ x 14 12) * 4096) 28672 := by have := msk_mul (fieldZ x 14 12) 3 12 (by omega) (by omega); simpa using this
  obtain ⟨e1, m1⟩ := put_sum (op := 27) (k := (fieldZ x 14 12)) (hi := 0) (rd := (fieldZ x 11 7)) (r1 := (fieldZ x 19 15)) (r2 := 0) (A0 := 127) (show msk _ _ from ⟨by decide, by decide⟩) k1 k4 k3 (show msk _ 0 from ⟨by decide, by decide⟩) (show msk _ 0 from ⟨by decide, by decide⟩) (by decide)
  have hm : sextZ (fieldZ x 31 20) 12 % 4294967296 * 1048576 % 4294967296 = (fieldZ x 31 20) * 1048576 := by rw [sx12]; split <;> omega
  have hk : (fieldZ x 14 12) % 4294967296 = (fieldZ x 14 12) := by omega
  show (if (fieldZ x 14 12) == 13 then Go.bits .or .u32 (putZ (Go.bits .or .u32 19 8) 5 32 (fieldZ x 11 7) (fieldZ x 19 15) 0) (sextZ (fieldZ x 31 20) 12 % 4294967296 * 1048576 % 4294967296) else Go.bits .or .u32 (putZ (Go.bits .or .u32 19 8) ((fieldZ x 14 12) % 4294967296) 0 (fieldZ x 11 7) (fieldZ x 19 15) 0) (sextZ (fieldZ x 31 20) 12 % 4294967296 * 1048576 % 4294967296)) = x
  rw [if_neg (show ¬ ((fieldZ x 14 12) == 13) = true from fun hz => by have := eq_of_beq hz; omega)]
  rw [hk]
  rw [show (Go.bits .or .u32 19 8) = 27 from by kernel_rfl]
  rw [hm, e1, (msk_or m1 k2 (by decide) (by decide) (by decide)).1]
  omega
theorem w19s (o : fieldZ x 6 0 = 19) (k : (fieldZ x 14 12) = 5) (h : (fieldZ x 31 26) = 16) : wordV ⟨8, 13, false, (fieldZ x 11 7), (fieldZ x 19 15), 0, (fieldZ x 25 20)⟩ = x := by
  have g11_7 := f11_7 x
  have g19_15 := f19_15 x
  have g14_12 := f14_12 x
  have g25_20 := f25_20 x
  have g31_26 := f31_26 x
  have g6_0 := f6_0 x
  have x0 := hx.1
  have x1 := hx.2
  have k1 : msk ((fieldZ x 11 7) * 128) 3968 := by have := msk_mul (fieldZ x 11 7) 5 7 (by omega) (by omega); simpa using this
  have k3 : msk ((fieldZ x 19 15) * 32768) 1015808 := by have := msk_mul (fieldZ x 19 15) 5 15 (by omega) (by omega); simpa using this
  have k2 : msk ((fieldZ x 25 20) * 1048576) 66060288 := by have := msk_mul (fieldZ x 25 20) 6 20 (by omega) (by omega); simpa using this
  obtain ⟨e1, m1⟩ := put_sum (op := 19) (k := 5) (hi := 32) (rd := (fieldZ x 11 7)) (r1 := (fieldZ x 19 15)) (r2 := 0) (A0 := 127) (show msk _ _ from ⟨by decide, by decide⟩) k1 (A2 := 20480) (show msk _ _ from ⟨by decide, by decide⟩) k3 (show msk _ 0 from ⟨by decide, by decide⟩) (A5 := 1073741824) (show msk _ _ from ⟨by decide, by decide⟩) (by decide)
  have hm : ((fieldZ x 25 20) % 4294967296 * 1048576 % 4294967296) = (fieldZ x 25 20) * 1048576 := by omega
  have hk : (fieldZ x 14 12) % 4294967296 = (fieldZ x 14 12) := by omega
  show Go.bits .or .u32 (putZ (Go.bits .or .u32 19 0) 5 32 (fieldZ x 11 7) (fieldZ x 19 15) 0) ((fieldZ x 25 20) % 4294967296 * 1048576 % 4294967296) = x
  rw [show (Go.bits .or .u32 19 0) = 19 from by kernel_rfl]
  rw [hm, e1, (msk_or m1 k2 (by decide) (by decide) (by decide)).1]
  omega
theorem w19z (o : fieldZ x 6 0 = 19) (h : (fieldZ x 31 26) = 0) : wordV ⟨8, (fieldZ x 14 12), false, (fieldZ x 11 7), (fieldZ x 19 15), 0, (fieldZ x 25 20)⟩ = x := by
  have g11_7 := f11_7 x
  have g19_15 := f19_15 x
  have g14_12 := f14_12 x
  have g25_20 := f25_20 x
  have g31_26 := f31_26 x
  have g6_0 := f6_0 x
  have x0 := hx.1
  have x1 := hx.2
  have k1 : msk ((fieldZ x 11 7) * 128) 3968 := by have := msk_mul (fieldZ x 11 7) 5 7 (by omega) (by omega); simpa using this
  have k3 : msk ((fieldZ x 19 15) * 32768) 1015808 := by have := msk_mul (fieldZ x 19 15) 5 15 (by omega) (by omega); simpa using this
  have k2 : msk ((fieldZ x 25 20) * 1048576) 66060288 := by have := msk_mul (fieldZ x 25 20) 6 20 (by omega) (by omega); simpa using this
  have k4 : msk ((fieldZ x 14 12) * 4096) 28672 := by have := msk_mul (fieldZ x 14 12) 3 12 (by omega) (by omega); simpa using this
  obtain ⟨e1, m1⟩ := put_sum (op := 19) (k := (fieldZ x 14 12)) (hi := 0) (rd := (fieldZ x 11 7)) (r1 := (fieldZ x 19 15)) (r2 := 0) (A0 := 127) (show msk _ _ from ⟨by decide, by decide⟩) k1 k4 k3 (show msk _ 0 from ⟨by decide, by decide⟩) (show msk _ 0 from ⟨by decide, by decide⟩) (by decide)
  have hm : ((fieldZ x 25 20) % 4294967296 * 1048576 % 4294967296) = (fieldZ x 25 20) * 1048576 := by omega
  have hk : (fieldZ x 14 12) % 4294967296 = (fieldZ x 14 12) := by omega
  show (if (fieldZ x 14 12) == 13 then Go.bits .or .u32 (putZ (Go.bits .or .u32 19 0) 5 32 (fieldZ x 11 7) (fieldZ x 19 15) 0) ((fieldZ x 25 20) % 4294967296 * 1048576 % 4294967296) else Go.bits .or .u32 (putZ (Go.bits .or .u32 19 0) ((fieldZ x 14 12) % 4294967296) 0 (fieldZ x 11 7) (fieldZ x 19 15) 0) ((fieldZ x 25 20) % 4294967296 * 1048576 % 4294967296)) = x
  rw [if_neg (show ¬ ((fieldZ x 14 12) == 13) = true from fun hz => by have := eq_of_beq hz; omega), hk]
  rw [show (Go.bits .or .u32 19 0) = 19 from by kernel_rfl]
  rw [hm, e1, (msk_or m1 k2 (by decide) (by decide) (by decide)).1]
  omega
theorem w27s (o : fieldZ x 6 0 = 27) (k : (fieldZ x 14 12) = 5) (h : (fieldZ x 31 25) = 32) : wordV ⟨8, 13, true, (fieldZ x 11 7), (fieldZ x 19 15), 0, (fieldZ x 24 20)⟩ = x := by
  have g11_7 := f11_7 x
  have g19_15 := f19_15 x
  have g14_12 := f14_12 x
  have g24_20 := f24_20 x
  have g31_25 := f31_25 x
  have g6_0 := f6_0 x
  have x0 := hx.1
  have x1 := hx.2
  have k1 : msk ((fieldZ x 11 7) * 128) 3968 := by have := msk_mul (fieldZ x 11 7) 5 7 (by omega) (by omega); simpa using this
  have k3 : msk ((fieldZ x 19 15) * 32768) 1015808 := by have := msk_mul (fieldZ x 19 15) 5 15 (by omega) (by omega); simpa using this
  have k2 : msk ((fieldZ x 24 20) * 1048576) 32505856 := by have := msk_mul (fieldZ x 24 20) 5 20 (by omega) (by omega); simpa using this
  obtain ⟨e1, m1⟩ := put_sum (op := 27) (k := 5) (hi := 32) (rd := (fieldZ x 11 7)) (r1 := (fieldZ x 19 15)) (r2 := 0) (A0 := 127) (show msk _ _ from ⟨by decide, by decide⟩) k1 (A2 := 20480) (show msk _ _ from ⟨by decide, by decide⟩) k3 (show msk _ 0 from ⟨by decide, by decide⟩) (A5 := 1073741824) (show msk _ _ from ⟨by decide, by decide⟩) (by decide)
  have hm : ((fieldZ x 24 20) % 4294967296 * 1048576 % 4294967296) = (fieldZ x 24 20) * 1048576 := by omega
  have hk : (fieldZ x 14 12) % 4294967296 = (fieldZ x 14 12) := by omega
  show Go.bits .or .u32 (putZ (Go.bits .or .u32 19 8) 5 32 (fieldZ x 11 7) (fieldZ x 19 15) 0) ((fieldZ x 24 20) % 4294967296 * 1048576 % 4294967296) = x
  rw [show (Go.bits .or .u32 19 8) = 27 from by kernel_rfl]
  rw [hm, e1, (msk_or m1 k2 (by decide) (by decide) (by decide)).1]
  omega
theorem w27z (o : fieldZ x 6 0 = 27) (h : (fieldZ x 31 25) = 0) : wordV ⟨8, (fieldZ x 14 12), true, (fieldZ x 11 7), (fieldZ x 19 15), 0, (fieldZ x 24 20)⟩ = x := by
  have g11_7 := f11_7 x
  have g19_15 := f19_15 x
  have g14_12 := f14_12 x
  have g24_20 := f24_20 x
  have g31_25 := f31_25 x
  have g6_0 := f6_0 x
  have x0 := hx.1
  have x1 := hx.2
  have k1 : msk ((fieldZ x 11 7) * 128) 3968 := by have := msk_mul (fieldZ x 11 7) 5 7 (by omega) (by omega); simpa using this
  have k3 : msk ((fieldZ x 19 15) * 32768) 1015808 := by have := msk_mul (fieldZ x 19 15) 5 15 (by omega) (by omega); simpa using this
  have k2 : msk ((fieldZ x 24 20) * 1048576) 32505856 := by have := msk_mul (fieldZ x 24 20) 5 20 (by omega) (by omega); simpa using this
  have k4 : msk ((fieldZ x 14 12) * 4096) 28672 := by have := msk_mul (fieldZ x 14 12) 3 12 (by omega) (by omega); simpa using this
  obtain ⟨e1, m1⟩ := put_sum (op := 27) (k := (fieldZ x 14 12)) (hi := 0) (rd := (fieldZ x 11 7)) (r1 := (fieldZ x 19 15)) (r2 := 0) (A0 := 127) (show msk _ _ from ⟨by decide, by decide⟩) k1 k4 k3 (show msk _ 0 from ⟨by decide, by decide⟩) (show msk _ 0 from ⟨by decide, by decide⟩) (by decide)
  have hm : ((fieldZ x 24 20) % 4294967296 * 1048576 % 4294967296) = (fieldZ x 24 20) * 1048576 := by omega
  have hk : (fieldZ x 14 12) % 4294967296 = (fieldZ x 14 12) := by omega
  show (if (fieldZ x 14 12) == 13 then Go.bits .or .u32 (putZ (Go.bits .or .u32 19 8) 5 32 (fieldZ x 11 7) (fieldZ x 19 15) 0) ((fieldZ x 24 20) % 4294967296 * 1048576 % 4294967296) else Go.bits .or .u32 (putZ (Go.bits .or .u32 19 8) ((fieldZ x 14 12) % 4294967296) 0 (fieldZ x 11 7) (fieldZ x 19 15) 0) ((fieldZ x 24 20) % 4294967296 * 1048576 % 4294967296)) = x
  rw [if_neg (show ¬ ((fieldZ x 14 12) == 13) = true from fun hz => by have := eq_of_beq hz; omega), hk]
  rw [show (Go.bits .or .u32 19 8) = 27 from by kernel_rfl]
  rw [hm, e1, (msk_or m1 k2 (by decide) (by decide) (by decide)).1]
  omega
theorem wcsr (o : fieldZ x 6 0 = 115) : wordV ⟨12, (fieldZ x 14 12), false, (fieldZ x 11 7), (fieldZ x 19 15), 0, (fieldZ x 31 20)⟩ = x := by
  have g11_7 := f11_7 x
  have g19_15 := f19_15 x
  have g14_12 := f14_12 x
  have g31_20 := f31_20 x
  have g6_0 := f6_0 x
  have x0 := hx.1
  have x1 := hx.2
  have k1 : msk ((fieldZ x 11 7) * 128) 3968 := by have := msk_mul (fieldZ x 11 7) 5 7 (by omega) (by omega); simpa using this
  have k3 : msk ((fieldZ x 19 15) * 32768) 1015808 := by have := msk_mul (fieldZ x 19 15) 5 15 (by omega) (by omega); simpa using this
  have k2 : msk ((fieldZ x 31 20) * 1048576) 4293918720 := by have := msk_mul (fieldZ x 31 20) 12 20 (by omega) (by omega); simpa using this
  have k4 : msk ((fieldZ x 14 12) * 4096) 28672 := by have := msk_mul (fieldZ x 14 12) 3 12 (by omega) (by omega); simpa using this
  obtain ⟨e1, m1⟩ := put_sum (op := 115) (k := (fieldZ x 14 12)) (hi := 0) (rd := (fieldZ x 11 7)) (r1 := (fieldZ x 19 15)) (r2 := 0) (A0 := 127) (show msk _ _ from ⟨by decide, by decide⟩) k1 k4 k3 (show msk _ 0 from ⟨by decide, by decide⟩) (show msk _ 0 from ⟨by decide, by decide⟩) (by decide)
  have hm : (fieldZ x 31 20) % 4294967296 * 1048576 % 4294967296 = (fieldZ x 31 20) * 1048576 := by omega
  have hk : (fieldZ x 14 12) % 4294967296 = (fieldZ x 14 12) := by omega
  show Go.bits .or .u32 (putZ 115 ((fieldZ x 14 12) % 4294967296) 0 (fieldZ x 11 7) (fieldZ x 19 15) 0) ((fieldZ x 31 20) % 4294967296 * 1048576 % 4294967296) = x
  rw [hk]
  rw [hm, e1, (msk_or m1 k2 (by decide) (by decide) (by decide)).1]
  omega
theorem wsf (o : fieldZ x 6 0 = 115) (k : (fieldZ x 14 12) = 0) (h : (fieldZ x 31 25) = 9) (r : (fieldZ x 11 7) = 0) : wordV ⟨11, 5, false, 0, (fieldZ x 19 15), (fieldZ x 24 20), 0⟩ = x := by
  have g11_7 := f11_7 x
  have g19_15 := f19_15 x
  have g24_20 := f24_20 x
  have g14_12 := f14_12 x
  have g31_25 := f31_25 x
  have g6_0 := f6_0 x
  have x0 := hx.1
  have x1 := hx.2
  have k3 : msk ((fieldZ x 19 15) * 32768) 1015808 := by have := msk_mul (fieldZ x 19 15) 5 15 (by omega) (by omega); simpa using this
  have k4 : msk ((fieldZ x 24 20) * 1048576) 32505856 := by have := msk_mul (fieldZ x 24 20) 5 20 (by omega) (by omega); simpa using this
  obtain ⟨e1, m1⟩ := put_sum (op := 115) (k := 0) (hi := 9) (rd := 0) (r1 := (fieldZ x 19 15)) (r2 := (fieldZ x 24 20)) (A0 := 127) (show msk _ _ from ⟨by decide, by decide⟩) (show msk _ 0 from ⟨by decide, by decide⟩) (show msk _ 0 from ⟨by decide, by decide⟩) k3 k4 (A5 := 301989888) (show msk _ _ from ⟨by decide, by decide⟩) (by decide)
  show putZ 115 0 9 0 (fieldZ x 19 15) (fieldZ x 24 20) = x
  rw [e1]
  omega
theorem w51_0 (o : fieldZ x 6 0 = 51) (h : (fieldZ x 31 25) = 0) : wordV ⟨9, (fieldZ x 14 12), false, (fieldZ x 11 7), (fieldZ x 19 15), (fieldZ x 24 20), 0⟩ = x := by
  have g11_7 := f11_7 x
  have g19_15 := f19_15 x
  have g24_20 := f24_20 x
  have g14_12 := f14_12 x
  have g31_25 := f31_25 x
  have g6_0 := f6_0 x
  have x0 := hx.1
  have x1 := hx.2
  have k1 : msk ((fieldZ x 11 7) * 128) 3968 := by have := msk_mul (fieldZ x 11 7) 5 7 (by omega) (by omega); simpa using this
  have k2 : msk ((fieldZ x 14 12) * 4096) 28672 := by have := msk_mul (fieldZ x 14 12) 3 12 (by omega) (by omega); simpa using this
  have k3 : msk ((fieldZ x 19 15) * 32768) 1015808 := by have := msk_mul (fieldZ x 19 15) 5 15 (by omega) (by omega); simpa using this
  have k4 : msk ((fieldZ x 24 20) * 1048576) 32505856 := by have := msk_mul (fieldZ x 24 20) 5 20 (by omega) (by omega); simpa using this
  obtain ⟨e1, m1⟩ := put_sum (op := 51) (k := (fieldZ x 14 12)) (hi := 0) (rd := (fieldZ x 11 7)) (r1 := (fieldZ x 19 15)) (r2 := (fieldZ x 24 20)) (A0 := 127) (show msk _ _ from ⟨by decide, by decide⟩) k1 k2 k3 k4 (A5 := 0) (show msk _ _ from ⟨by decide, by decide⟩) (by decide)
  show putZ (Go.bits .or .u32 51 0) (Go.bits .and .u32 (((fieldZ x 14 12)) % 4294967296) 7) (Go.bits .or .i64 (Go.bits .and .i64 (((fieldZ x 14 12)) / 16) 1) (wrap64 (Go.bits .and .i64 (((fieldZ x 14 12)) / 8) 1 * 32)) % 4294967296) (fieldZ x 11 7) (fieldZ x 19 15) (fieldZ x 24 20) = x
  have hh : Go.bits .and .u32 (((fieldZ x 14 12)) % 4294967296) 7 = (fieldZ x 14 12) ∧ Go.bits .or .i64 (Go.bits .and .i64 (((fieldZ x 14 12)) / 16) 1) (wrap64 (Go.bits .and .i64 (((fieldZ x 14 12)) / 8) 1 * 32)) % 4294967296 = 0 := by
    have hr : (fieldZ x 14 12) = 0 ∨ (fieldZ x 14 12) = 1 ∨ (fieldZ x 14 12) = 2 ∨ (fieldZ x 14 12) = 3 ∨ (fieldZ x 14 12) = 4 ∨ (fieldZ x 14 12) = 5 ∨ (fieldZ x 14 12) = 6 ∨ (fieldZ x 14 12) = 7 := by omega
    clear e1 m1 k1 k2 k3 k4
    generalize (fieldZ x 14 12) = q at *
    rcases hr with rfl | rfl | rfl | rfl | rfl | rfl | rfl | rfl <;> exact ⟨by kernel_rfl, by kernel_rfl⟩
  rw [show (Go.bits .or .u32 51 0) = 51 from by kernel_rfl, hh.1, hh.2, e1]
  omega
theorem w51_1 (o : fieldZ x 6 0 = 51) (h : (fieldZ x 31 25) = 1) : wordV ⟨9, 16 + (fieldZ x 14 12), false, (fieldZ x 11 7), (fieldZ x 19 15), (fieldZ x 24 20), 0⟩ = x := by
  have g11_7 := f11_7 x
  have g19_15 := f19_15 x
  have g24_20 := f24_20 x
  have g14_12 := f14_12 x
  have g31_25 := f31_25 x
  have g6_0 := f6_0 x
  have x0 := hx.1
  have x1 := hx.2
  have k1 : msk ((fieldZ x 11 7) * 128) 3968 := by have := msk_mul (fieldZ x 11 7) 5 7 (by omega) (by omega); simpa using this
  have k2 : msk ((fieldZ x 14 12) * 4096) 28672 := by have := msk_mul (fieldZ x 14 12) 3 12 (by omega) (by omega); simpa using this
  have k3 : msk ((fieldZ x 19 15) * 32768) 1015808 := by have := msk_mul (fieldZ x 19 15) 5 15 (by omega) (by omega); simpa using this
  have k4 : msk ((fieldZ x 24 20) * 1048576) 32505856 := by have := msk_mul (fieldZ x 24 20) 5 20 (by omega) (by omega); simpa using this
  obtain ⟨e1, m1⟩ := put_sum (op := 51) (k := (fieldZ x 14 12)) (hi := 1) (rd := (fieldZ x 11 7)) (r1 := (fieldZ x 19 15)) (r2 := (fieldZ x 24 20)) (A0 := 127) (show msk _ _ from ⟨by decide, by decide⟩) k1 k2 k3 k4 (A5 := 33554432) (show msk _ _ from ⟨by decide, by decide⟩) (by decide)
  show putZ (Go.bits .or .u32 51 0) (Go.bits .and .u32 ((16 + (fieldZ x 14 12)) % 4294967296) 7) (Go.bits .or .i64 (Go.bits .and .i64 ((16 + (fieldZ x 14 12)) / 16) 1) (wrap64 (Go.bits .and .i64 ((16 + (fieldZ x 14 12)) / 8) 1 * 32)) % 4294967296) (fieldZ x 11 7) (fieldZ x 19 15) (fieldZ x 24 20) = x
  have hh : Go.bits .and .u32 ((16 + (fieldZ x 14 12)) % 4294967296) 7 = (fieldZ x 14 12) ∧ Go.bits .or .i64 (Go.bits .and .i64 ((16 + (fieldZ x 14 12)) / 16) 1) (wrap64 (Go.bits .and .i64 ((16 + (fieldZ x 14 12)) / 8) 1 * 32)) % 4294967296 = 1 := by
    have hr : (fieldZ x 14 12) = 0 ∨ (fieldZ x 14 12) = 1 ∨ (fieldZ x 14 12) = 2 ∨ (fieldZ x 14 12) = 3 ∨ (fieldZ x 14 12) = 4 ∨ (fieldZ x 14 12) = 5 ∨ (fieldZ x 14 12) = 6 ∨ (fieldZ x 14 12) = 7 := by omega
    clear e1 m1 k1 k2 k3 k4
    generalize (fieldZ x 14 12) = q at *
    rcases hr with rfl | rfl | rfl | rfl | rfl | rfl | rfl | rfl <;> exact ⟨by kernel_rfl, by kernel_rfl⟩
  rw [show (Go.bits .or .u32 51 0) = 51 from by kernel_rfl, hh.1, hh.2, e1]
  omega
theorem w51_2 (o : fieldZ x 6 0 = 51) (h : (fieldZ x 31 25) = 32) (hk : (fieldZ x 14 12) = 0 ∨ (fieldZ x 14 12) = 5) : wordV ⟨9, (fieldZ x 14 12) + 8, false, (fieldZ x 11 7), (fieldZ x 19 15), (fieldZ x 24 20), 0⟩ = x := by
  have g11_7 := f11_7 x
  have g19_15 := f19_15 x
  have g24_20 := f24_20 x
  have g14_12 := f14_12 x
  have g31_25 := f31_25 x
  have g6_0 := f6_0 x
  have x0 := hx.1
  have x1 := hx.2
  have k1 : msk ((fieldZ x 11 7) * 128) 3968 := by have := msk_mul (fieldZ x 11 7) 5 7 (by omega) (by omega); simpa using this
  have k2 : msk ((fieldZ x 14 12) * 4096) 28672 := by have := msk_mul (fieldZ x 14 12) 3 12 (by omega) (by omega); simpa using this
  have k3 : msk ((fieldZ x 19 15) * 32768) 1015808 := by have := msk_mul (fieldZ x 19 15) 5 15 (by omega) (by omega); simpa using this
  have k4 : msk ((fieldZ x 24 20) * 1048576) 32505856 := by have := msk_mul (fieldZ x 24 20) 5 20 (by omega) (by omega); simpa using this
  obtain ⟨e1, m1⟩ := put_sum (op := 51) (k := (fieldZ x 14 12)) (hi := 32) (rd := (fieldZ x 11 7)) (r1 := (fieldZ x 19 15)) (r2 := (fieldZ x 24 20)) (A0 := 127) (show msk _ _ from ⟨by decide, by decide⟩) k1 k2 k3 k4 (A5 := 1073741824) (show msk _ _ from ⟨by decide, by decide⟩) (by decide)
  show putZ (Go.bits .or .u32 51 0) (Go.bits .and .u32 (((fieldZ x 14 12) + 8) % 4294967296) 7) (Go.bits .or .i64 (Go.bits .and .i64 (((fieldZ x 14 12) + 8) / 16) 1) (wrap64 (Go.bits .and .i64 (((fieldZ x 14 12) + 8) / 8) 1 * 32)) % 4294967296) (fieldZ x 11 7) (fieldZ x 19 15) (fieldZ x 24 20) = x
  have hh : Go.bits .and .u32 (((fieldZ x 14 12) + 8) % 4294967296) 7 = (fieldZ x 14 12) ∧ Go.bits .or .i64 (Go.bits .and .i64 (((fieldZ x 14 12) + 8) / 16) 1) (wrap64 (Go.bits .and .i64 (((fieldZ x 14 12) + 8) / 8) 1 * 32)) % 4294967296 = 32 := by
    have hr : (fieldZ x 14 12) = 0 ∨ (fieldZ x 14 12) = 5 := hk
    clear e1 m1 k1 k2 k3 k4
    generalize (fieldZ x 14 12) = q at *
    rcases hr with rfl | rfl <;> exact ⟨by kernel_rfl, by kernel_rfl⟩
  rw [show (Go.bits .or .u32 51 0) = 51 from by kernel_rfl, hh.1, hh.2, e1]
  omega
theorem w59_0 (o : fieldZ x 6 0 = 59) (h : (fieldZ x 31 25) = 0) : wordV ⟨9, (fieldZ x 14 12), true, (fieldZ x 11 7), (fieldZ x 19 15), (fieldZ x 24 20), 0⟩ = x := by
  have g11_7 := f11_7 x
  have g19_15 := f19_15 x
  have g24_20 := f24_20 x
  have g14_12 := f14_12 x
  have g31_25 := f31_25 x
  have g6_0 := f6_0 x
  have x0 := hx.1
  have x1 := hx.2
  have k1 : msk ((fieldZ x 11 7) * 128) 3968 := by have := msk_mul (fieldZ x 11 7) 5 7 (by omega) (by omega); simpa using this
  have k2 : msk ((fieldZ x 14 12) * 4096) 28672 := by have := msk_mul (fieldZ x 14 12) 3 12 (by omega) (by omega); simpa using this
  have k3 : msk ((fieldZ x 19 15) * 32768) 1015808 := by have := msk_mul (fieldZ x 19 15) 5 15 (by omega) (by omega); simpa using this
  have k4 : msk ((fieldZ x 24 20) * 1048576) 32505856 := by have := msk_mul (fieldZ x 24 20) 5 20 (by omega) (by omega); simpa using this
  obtain ⟨e1, m1⟩ := put_sum (op := 59) (k := (fieldZ x 14 12)) (hi := 0) (rd := (fieldZ x 11 7)) (r1 := (fieldZ x 19 15)) (r2 := (fieldZ x 24 20)) (A0 := 127) (show msk _ _ from ⟨by decide, by decide⟩) k1 k2 k3 k4 (A5 := 0) (show msk _ _ from ⟨by decide, by decide⟩) (by decide)
  show putZ (Go.bits .or .u32 51 8) (Go.bits .and .u32 (((fieldZ x 14 12)) % 4294967296) 7) (Go.bits .or .i64 (Go.bits .and .i64 (((fieldZ x 14 12)) / 16) 1) (wrap64 (Go.bits .and .i64 (((fieldZ x 14 12)) / 8) 1 * 32)) % 4294967296) (fieldZ x 11 7) (fieldZ x 19 15) (fieldZ x 24 20) = x
  have hh : Go.bits .and .u32 (((fieldZ x 14 12)) % 4294967296) 7 = (fieldZ x 14 12) ∧ Go.bits .or .i64 (Go.bits .and .i64 (((fieldZ x 14 12)) / 16) 1) (wrap64 (Go.bits .and .i64 (((fieldZ x 14 12)) / 8) 1 * 32)) % 4294967296 = 0 := by
    have hr : (fieldZ x 14 12) = 0 ∨ (fieldZ x 14 12) = 1 ∨ (fieldZ x 14 12) = 2 ∨ (fieldZ x 14 12) = 3 ∨ (fieldZ x 14 12) = 4 ∨ (fieldZ x 14 12) = 5 ∨ (fieldZ x 14 12) = 6 ∨ (fieldZ x 14 12) = 7 := by omega
    clear e1 m1 k1 k2 k3 k4
    generalize (fieldZ x 14 12) = q at *
    rcases hr with rfl | rfl | rfl | rfl | rfl | rfl | rfl | rfl <;> exact ⟨by kernel_rfl, by kernel_rfl⟩
  rw [show (Go.bits .or .u32 51 8) = 59 from by kernel_rfl, hh.1, hh.2, e1]
  omega
theorem w59_1 (o : fieldZ x 6 0 = 59) (h : (fieldZ x 31 25) = 1) : wordV ⟨9, 16 + (fieldZ x 14 12), true, (fieldZ x 11 7), (fieldZ x 19 15), (fieldZ x 24 20), 0⟩ = x := by
  have g11_7 := f11_7 x
  have g19_15 := f19_15 x
  have g24_20 := f24_20 x
  have g14_12 := f14_12 x
  have g31_25 := f31_25 x
  have g6_0 := f6_0 x
  have x0 := hx.1
  have x1 := hx.2
  have k1 : msk ((fieldZ x 11 7) * 128) 3968 := by have := msk_mul (fieldZ x 11 7) 5 7 (by omega) (by omega); simpa using this
  have k2 : msk ((fieldZ x 14 12) * 4096) 28672 := by have := msk_mul (fieldZ x 14 12) 3 12 (by omega) (by omega); simpa using this
  have k3 : msk ((fieldZ x 19 15) * 32768) 1015808 := by have := msk_mul (fieldZ x 19 15) 5 15 (by omega) (by omega); simpa using this
  have k4 : msk ((fieldZ x 24 20) * 1048576) 32505856 := by have := msk_mul (fieldZ x 24 20) 5 20 (by omega) (by omega); simpa using this
  obtain ⟨e1, m1⟩ := put_sum (op := 59) (k := (fieldZ x 14 12)) (hi := 1) (rd := (fieldZ x 11 7)) (r1 := (fieldZ x 19 15)) (r2 := (fieldZ x 24 20)) (A0 := 127) (show msk _ _ from ⟨by decide, by decide⟩) k1 k2 k3 k4 (A5 := 33554432) (show msk _ _ from ⟨by decide, by decide⟩) (by decide)
  show putZ (Go.bits .or .u32 51 8) (Go.bits .and .u32 ((16 + (fieldZ x 14 12)) % 4294967296) 7) (Go.bits .or .i64 (Go.bits .and .i64 ((16 + (fieldZ x 14 12)) / 16) 1) (wrap64 (Go.bits .and .i64 ((16 + (fieldZ x 14 12)) / 8) 1 * 32)) % 4294967296) (fieldZ x 11 7) (fieldZ x 19 15) (fieldZ x 24 20) = x
  have hh : Go.bits .and .u32 ((16 + (fieldZ x 14 12)) % 4294967296) 7 = (fieldZ x 14 12) ∧ Go.bits .or .i64 (Go.bits .and .i64 ((16 + (fieldZ x 14 12)) / 16) 1) (wrap64 (Go.bits .and .i64 ((16 + (fieldZ x 14 12)) / 8) 1 * 32)) % 4294967296 = 1 := by
    have hr : (fieldZ x 14 12) = 0 ∨ (fieldZ x 14 12) = 1 ∨ (fieldZ x 14 12) = 2 ∨ (fieldZ x 14 12) = 3 ∨ (fieldZ x 14 12) = 4 ∨ (fieldZ x 14 12) = 5 ∨ (fieldZ x 14 12) = 6 ∨ (fieldZ x 14 12) = 7 := by omega
    clear e1 m1 k1 k2 k3 k4
    generalize (fieldZ x 14 12) = q at *
    rcases hr with rfl | rfl | rfl | rfl | rfl | rfl | rfl | rfl <;> exact ⟨by kernel_rfl, by kernel_rfl⟩
  rw [show (Go.bits .or .u32 51 8) = 59 from by kernel_rfl, hh.1, hh.2, e1]
  omega
theorem w59_2 (o : fieldZ x 6 0 = 59) (h : (fieldZ x 31 25) = 32) (hk : (fieldZ x 14 12) = 0 ∨ (fieldZ x 14 12) = 5) : wordV ⟨9, (fieldZ x 14 12) + 8, true, (fieldZ x 11 7), (fieldZ x 19 15), (fieldZ x 24 20), 0⟩ = x := by
  have g11_7 := f11_7 x
  have g19_15 := f19_15 x
  have g24_20 := f24_20 x
  have g14_12 := f14_12 x
  have g31_25 := f31_25 x
  have g6_0 := f6_0 x
  have x0 := hx.1
  have x1 := hx.2
  have k1 : msk ((fieldZ x 11 7) * 128) 3968 := by have := msk_mul (fieldZ x 11 7) 5 7 (by omega) (by omega); simpa using this
  have k2 : msk ((fieldZ x 14 12) * 4096) 28672 := by have := msk_mul (fieldZ x 14 12) 3 12 (by omega) (by omega); simpa using this
  have k3 : msk ((fieldZ x 19 15) * 32768) 1015808 := by have := msk_mul (fieldZ x 19 15) 5 15 (by omega) (by omega); simpa using this
  have k4 : msk ((fieldZ x 24 20) * 1048576) 32505856 := by have := msk_mul (fieldZ x 24 20) 5 20 (by omega) (by omega); simpa using this
  obtain ⟨e1, m1⟩ := put_sum (op := 59) (k := (fieldZ x 14 12)) (hi := 32) (rd := (fieldZ x 11 7)) (r1 := (fieldZ x 19 15)) (r2 := (fieldZ x 24 20)) (A0 := 127) (show msk _ _ from ⟨by decide, by decide⟩) k1 k2 k3 k4 (A5 := 1073741824) (show msk _ _ from ⟨by decide, by decide⟩) (by decide)
  show putZ (Go.bits .or .u32 51 8) (Go.bits .and .u32 (((fieldZ x 14 12) + 8) % 4294967296) 7) (Go.bits .or .i64 (Go.bits .and .i64 (((fieldZ x 14 12) + 8) / 16) 1) (wrap64 (Go.bits .and .i64 (((fieldZ x 14 12) + 8) / 8) 1 * 32)) % 4294967296) (fieldZ x 11 7) (fieldZ x 19 15) (fieldZ x 24 20) = x
  have hh : Go.bits .and .u32 (((fieldZ x 14 12) + 8) % 4294967296) 7 = (fieldZ x 14 12) ∧ Go.bits .or .i64 (Go.bits .and .i64 (((fieldZ x 14 12) + 8) / 16) 1) (wrap64 (Go.bits .and .i64 (((fieldZ x 14 12) + 8) / 8) 1 * 32)) % 4294967296 = 32 := by
    have hr : (fieldZ x 14 12) = 0 ∨ (fieldZ x 14 12) = 5 := hk
    clear e1 m1 k1 k2 k3 k4
    generalize (fieldZ x 14 12) = q at *
    rcases hr with rfl | rfl <;> exact ⟨by kernel_rfl, by kernel_rfl⟩
  rw [show (Go.bits .or .u32 51 8) = 59 from by kernel_rfl, hh.1, hh.2, e1]
  omega
end
end Go.Proofs.Ytgcpedenlbcdgaa.Q
