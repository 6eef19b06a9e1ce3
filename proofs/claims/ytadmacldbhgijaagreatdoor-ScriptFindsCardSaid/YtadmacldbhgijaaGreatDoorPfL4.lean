/- ScriptFinds: what is asked of the handles of the fifth pattern, and answered. -/
import Derived.Test.YtadmacldbhgijaaGreatDoorPfH
/- ScriptFinds: what is asked of the handles of pattern 4, and answered. -/
noncomputable section PFndR4
set_option linter.unusedVariables false
set_option maxRecDepth 1000000
namespace Go.Wx
open Go.RowKit Go.Proofs
/-- 2447 operations. -/
theorem Tryz.frP4_0 : GoodR Tryz.prog 8 32 [.pointer (some ⟨606, 0, none⟩), .int .u8 102, .string ⟨⟨[]⟩⟩] (Tryz.gB :: Tryz.fBP4) (.string ⟨⟨[110, 111, 110, 101]⟩⟩) := goodR_of Tryz.env8_ok (n := 40) (m := 607) (by kernel_rfl) (by kernel_rfl) (by kernel_rfl)
/-- 4054 operations. -/
theorem Tryz.frP4_1 : GoodR Tryz.prog 8 32 [.pointer (some ⟨606, 0, none⟩), .int .u8 102, .string ⟨⟨[97]⟩⟩] (Tryz.gB :: Tryz.fBP4) (.string ⟨⟨[48, 32, 49, 32, 48, 32, 49, 32, 45, 49, 32, 45, 49]⟩⟩) := goodR_of Tryz.env8_ok (n := 40) (m := 607) (by kernel_rfl) (by kernel_rfl) (by kernel_rfl)
/-- 4575 operations. -/
theorem Tryz.frP4_2 : GoodR Tryz.prog 8 32 [.pointer (some ⟨606, 0, none⟩), .int .u8 102, .string ⟨⟨[99, 99, 98, 100]⟩⟩] (Tryz.gB :: Tryz.fBP4) (.string ⟨⟨[110, 111, 110, 101]⟩⟩) := goodR_of Tryz.env8_ok (n := 40) (m := 607) (by kernel_rfl) (by kernel_rfl) (by kernel_rfl)
/-- 3511 operations. -/
theorem Tryz.frP4_3 : GoodR Tryz.prog 8 32 [.pointer (some ⟨606, 0, none⟩), .int .u8 102, .string ⟨⟨[120, 121]⟩⟩] (Tryz.gB :: Tryz.fBP4) (.string ⟨⟨[110, 111, 110, 101]⟩⟩) := goodR_of Tryz.env8_ok (n := 40) (m := 607) (by kernel_rfl) (by kernel_rfl) (by kernel_rfl)
/-- 4019 operations. -/
theorem Tryz.frP4_4 : GoodR Tryz.prog 8 32 [.pointer (some ⟨606, 0, none⟩), .int .u8 102, .string ⟨⟨[122, 49, 50]⟩⟩] (Tryz.gB :: Tryz.fBP4) (.string ⟨⟨[110, 111, 110, 101]⟩⟩) := goodR_of Tryz.env8_ok (n := 40) (m := 607) (by kernel_rfl) (by kernel_rfl) (by kernel_rfl)
/-- 4040 operations. -/
theorem Tryz.frP4_5 : GoodR Tryz.prog 8 32 [.pointer (some ⟨606, 0, none⟩), .int .u8 102, .string ⟨⟨[97, 98]⟩⟩] (Tryz.gB :: Tryz.fBP4) (.string ⟨⟨[48, 32, 50, 32, 48, 32, 49, 32, 49, 32, 50]⟩⟩) := goodR_of Tryz.env8_ok (n := 40) (m := 607) (by kernel_rfl) (by kernel_rfl) (by kernel_rfl)
/-- 4586 operations. -/
theorem Tryz.frP4_6 : GoodR Tryz.prog 8 32 [.pointer (some ⟨606, 0, none⟩), .int .u8 102, .string ⟨⟨[98, 97]⟩⟩] (Tryz.gB :: Tryz.fBP4) (.string ⟨⟨[49, 32, 50, 32, 49, 32, 50, 32, 45, 49, 32, 45, 49]⟩⟩) := goodR_of Tryz.env8_ok (n := 40) (m := 607) (by kernel_rfl) (by kernel_rfl) (by kernel_rfl)
/-- 2430 operations. -/
theorem Tryz.frP4_7 : GoodR Tryz.prog 8 32 [.pointer (some ⟨606, 0, none⟩), .int .u8 99, .string ⟨⟨[]⟩⟩] (Tryz.gB :: Tryz.fBP4) (.string ⟨⟨[110, 111]⟩⟩) := goodR_of Tryz.env8_ok (n := 40) (m := 607) (by kernel_rfl) (by kernel_rfl) (by kernel_rfl)
/-- 3069 operations. -/
theorem Tryz.frP4_8 : GoodR Tryz.prog 8 32 [.pointer (some ⟨606, 0, none⟩), .int .u8 99, .string ⟨⟨[97]⟩⟩] (Tryz.gB :: Tryz.fBP4) (.string ⟨⟨[121, 101, 115]⟩⟩) := goodR_of Tryz.env8_ok (n := 40) (m := 607) (by kernel_rfl) (by kernel_rfl) (by kernel_rfl)
/-- 4558 operations. -/
theorem Tryz.frP4_9 : GoodR Tryz.prog 8 32 [.pointer (some ⟨606, 0, none⟩), .int .u8 99, .string ⟨⟨[99, 99, 98, 100]⟩⟩] (Tryz.gB :: Tryz.fBP4) (.string ⟨⟨[110, 111]⟩⟩) := goodR_of Tryz.env8_ok (n := 40) (m := 607) (by kernel_rfl) (by kernel_rfl) (by kernel_rfl)
/-- 3494 operations. -/
theorem Tryz.frP4_10 : GoodR Tryz.prog 8 32 [.pointer (some ⟨606, 0, none⟩), .int .u8 99, .string ⟨⟨[120, 121]⟩⟩] (Tryz.gB :: Tryz.fBP4) (.string ⟨⟨[110, 111]⟩⟩) := goodR_of Tryz.env8_ok (n := 40) (m := 607) (by kernel_rfl) (by kernel_rfl) (by kernel_rfl)
/-- 4002 operations. -/
theorem Tryz.frP4_11 : GoodR Tryz.prog 8 32 [.pointer (some ⟨606, 0, none⟩), .int .u8 99, .string ⟨⟨[122, 49, 50]⟩⟩] (Tryz.gB :: Tryz.fBP4) (.string ⟨⟨[110, 111]⟩⟩) := goodR_of Tryz.env8_ok (n := 40) (m := 607) (by kernel_rfl) (by kernel_rfl) (by kernel_rfl)
/-- 3193 operations. -/
theorem Tryz.frP4_12 : GoodR Tryz.prog 8 32 [.pointer (some ⟨606, 0, none⟩), .int .u8 99, .string ⟨⟨[97, 98]⟩⟩] (Tryz.gB :: Tryz.fBP4) (.string ⟨⟨[121, 101, 115]⟩⟩) := goodR_of Tryz.env8_ok (n := 40) (m := 607) (by kernel_rfl) (by kernel_rfl) (by kernel_rfl)
/-- 3601 operations. -/
theorem Tryz.frP4_13 : GoodR Tryz.prog 8 32 [.pointer (some ⟨606, 0, none⟩), .int .u8 99, .string ⟨⟨[98, 97]⟩⟩] (Tryz.gB :: Tryz.fBP4) (.string ⟨⟨[121, 101, 115]⟩⟩) := goodR_of Tryz.env8_ok (n := 40) (m := 607) (by kernel_rfl) (by kernel_rfl) (by kernel_rfl)
/-- 4311 operations. -/
theorem Tryz.frP4_14 : GoodR Tryz.prog 8 32 [.pointer (some ⟨606, 0, none⟩), .int .u8 118, .string ⟨⟨[]⟩⟩] (Tryz.gB :: Tryz.fBP4) (.string ⟨⟨[121, 101, 115]⟩⟩) := goodR_of Tryz.env8_ok (n := 40) (m := 607) (by kernel_rfl) (by kernel_rfl) (by kernel_rfl)
/-- 5891 operations. -/
theorem Tryz.frP4_15 : GoodR Tryz.prog 8 32 [.pointer (some ⟨606, 0, none⟩), .int .u8 118, .string ⟨⟨[97]⟩⟩] (Tryz.gB :: Tryz.fBP4) (.string ⟨⟨[121, 101, 115]⟩⟩) := goodR_of Tryz.env8_ok (n := 40) (m := 607) (by kernel_rfl) (by kernel_rfl) (by kernel_rfl)
/-- 8535 operations. -/
theorem Tryz.frP4_16 : GoodR Tryz.prog 8 32 [.pointer (some ⟨606, 0, none⟩), .int .u8 118, .string ⟨⟨[99, 99, 98, 100]⟩⟩] (Tryz.gB :: Tryz.fBP4) (.string ⟨⟨[121, 101, 115]⟩⟩) := goodR_of Tryz.env8_ok (n := 40) (m := 607) (by kernel_rfl) (by kernel_rfl) (by kernel_rfl)
/-- 6423 operations. -/
theorem Tryz.frP4_17 : GoodR Tryz.prog 8 32 [.pointer (some ⟨606, 0, none⟩), .int .u8 118, .string ⟨⟨[120, 121]⟩⟩] (Tryz.gB :: Tryz.fBP4) (.string ⟨⟨[121, 101, 115]⟩⟩) := goodR_of Tryz.env8_ok (n := 40) (m := 607) (by kernel_rfl) (by kernel_rfl) (by kernel_rfl)
/-- 7447 operations. -/
theorem Tryz.frP4_18 : GoodR Tryz.prog 8 32 [.pointer (some ⟨606, 0, none⟩), .int .u8 118, .string ⟨⟨[122, 49, 50]⟩⟩] (Tryz.gB :: Tryz.fBP4) (.string ⟨⟨[121, 101, 115]⟩⟩) := goodR_of Tryz.env8_ok (n := 40) (m := 607) (by kernel_rfl) (by kernel_rfl) (by kernel_rfl)
/-- 6386 operations. -/
theorem Tryz.frP4_19 : GoodR Tryz.prog 8 32 [.pointer (some ⟨606, 0, none⟩), .int .u8 118, .string ⟨⟨[97, 98]⟩⟩] (Tryz.gB :: Tryz.fBP4) (.string ⟨⟨[121, 101, 115]⟩⟩) := goodR_of Tryz.env8_ok (n := 40) (m := 607) (by kernel_rfl) (by kernel_rfl) (by kernel_rfl)
/-- 6947 operations. -/
theorem Tryz.frP4_20 : GoodR Tryz.prog 8 32 [.pointer (some ⟨606, 0, none⟩), .int .u8 118, .string ⟨⟨[98, 97]⟩⟩] (Tryz.gB :: Tryz.fBP4) (.string ⟨⟨[121, 101, 115]⟩⟩) := goodR_of Tryz.env8_ok (n := 40) (m := 607) (by kernel_rfl) (by kernel_rfl) (by kernel_rfl)
/-- 862 operations. -/
theorem Tryz.frT4_0 : GoodR Tryz.prog 8 32 [.pointer (some ⟨266, 0, none⟩), .int .u8 99, .string ⟨⟨[]⟩⟩] (Tryz.gB :: Tryz.fBT4) (.string ⟨⟨[110, 111]⟩⟩) := goodR_of Tryz.env8_ok (n := 40) (m := 267) (by kernel_rfl) (by kernel_rfl) (by kernel_rfl)
/-- 1009 operations. -/
theorem Tryz.frT4_1 : GoodR Tryz.prog 8 32 [.pointer (some ⟨266, 0, none⟩), .int .u8 99, .string ⟨⟨[97]⟩⟩] (Tryz.gB :: Tryz.fBT4) (.string ⟨⟨[121, 101, 115]⟩⟩) := goodR_of Tryz.env8_ok (n := 40) (m := 267) (by kernel_rfl) (by kernel_rfl) (by kernel_rfl)
/-- 1462 operations. -/
theorem Tryz.frT4_2 : GoodR Tryz.prog 8 32 [.pointer (some ⟨266, 0, none⟩), .int .u8 99, .string ⟨⟨[99, 99, 98, 100]⟩⟩] (Tryz.gB :: Tryz.fBT4) (.string ⟨⟨[110, 111]⟩⟩) := goodR_of Tryz.env8_ok (n := 40) (m := 267) (by kernel_rfl) (by kernel_rfl) (by kernel_rfl)
/-- 1162 operations. -/
theorem Tryz.frT4_3 : GoodR Tryz.prog 8 32 [.pointer (some ⟨266, 0, none⟩), .int .u8 99, .string ⟨⟨[120, 121]⟩⟩] (Tryz.gB :: Tryz.fBT4) (.string ⟨⟨[110, 111]⟩⟩) := goodR_of Tryz.env8_ok (n := 40) (m := 267) (by kernel_rfl) (by kernel_rfl) (by kernel_rfl)
/-- 1312 operations. -/
theorem Tryz.frT4_4 : GoodR Tryz.prog 8 32 [.pointer (some ⟨266, 0, none⟩), .int .u8 99, .string ⟨⟨[122, 49, 50]⟩⟩] (Tryz.gB :: Tryz.fBT4) (.string ⟨⟨[110, 111]⟩⟩) := goodR_of Tryz.env8_ok (n := 40) (m := 267) (by kernel_rfl) (by kernel_rfl) (by kernel_rfl)
/-- 1009 operations. -/
theorem Tryz.frT4_5 : GoodR Tryz.prog 8 32 [.pointer (some ⟨266, 0, none⟩), .int .u8 99, .string ⟨⟨[97, 98]⟩⟩] (Tryz.gB :: Tryz.fBT4) (.string ⟨⟨[121, 101, 115]⟩⟩) := goodR_of Tryz.env8_ok (n := 40) (m := 267) (by kernel_rfl) (by kernel_rfl) (by kernel_rfl)
/-- 1159 operations. -/
theorem Tryz.frT4_6 : GoodR Tryz.prog 8 32 [.pointer (some ⟨266, 0, none⟩), .int .u8 99, .string ⟨⟨[98, 97]⟩⟩] (Tryz.gB :: Tryz.fBT4) (.string ⟨⟨[121, 101, 115]⟩⟩) := goodR_of Tryz.env8_ok (n := 40) (m := 267) (by kernel_rfl) (by kernel_rfl) (by kernel_rfl)
/-- 1271 operations. -/
theorem Tryz.frT4_7 : GoodR Tryz.prog 8 32 [.pointer (some ⟨266, 0, none⟩), .int .u8 118, .string ⟨⟨[]⟩⟩] (Tryz.gB :: Tryz.fBT4) (.string ⟨⟨[121, 101, 115]⟩⟩) := goodR_of Tryz.env8_ok (n := 40) (m := 267) (by kernel_rfl) (by kernel_rfl) (by kernel_rfl)
/-- 1495 operations. -/
theorem Tryz.frT4_8 : GoodR Tryz.prog 8 32 [.pointer (some ⟨266, 0, none⟩), .int .u8 118, .string ⟨⟨[97]⟩⟩] (Tryz.gB :: Tryz.fBT4) (.string ⟨⟨[121, 101, 115]⟩⟩) := goodR_of Tryz.env8_ok (n := 40) (m := 267) (by kernel_rfl) (by kernel_rfl) (by kernel_rfl)
/-- 2244 operations. -/
theorem Tryz.frT4_9 : GoodR Tryz.prog 8 32 [.pointer (some ⟨266, 0, none⟩), .int .u8 118, .string ⟨⟨[99, 99, 98, 100]⟩⟩] (Tryz.gB :: Tryz.fBT4) (.string ⟨⟨[121, 101, 115]⟩⟩) := goodR_of Tryz.env8_ok (n := 40) (m := 267) (by kernel_rfl) (by kernel_rfl) (by kernel_rfl)
/-- 1759 operations. -/
theorem Tryz.frT4_10 : GoodR Tryz.prog 8 32 [.pointer (some ⟨266, 0, none⟩), .int .u8 118, .string ⟨⟨[120, 121]⟩⟩] (Tryz.gB :: Tryz.fBT4) (.string ⟨⟨[121, 101, 115]⟩⟩) := goodR_of Tryz.env8_ok (n := 40) (m := 267) (by kernel_rfl) (by kernel_rfl) (by kernel_rfl)
/-- 1933 operations. -/
theorem Tryz.frT4_11 : GoodR Tryz.prog 8 32 [.pointer (some ⟨266, 0, none⟩), .int .u8 118, .string ⟨⟨[122, 49, 50]⟩⟩] (Tryz.gB :: Tryz.fBT4) (.string ⟨⟨[121, 101, 115]⟩⟩) := goodR_of Tryz.env8_ok (n := 40) (m := 267) (by kernel_rfl) (by kernel_rfl) (by kernel_rfl)
/-- 1498 operations. -/
theorem Tryz.frT4_12 : GoodR Tryz.prog 8 32 [.pointer (some ⟨266, 0, none⟩), .int .u8 118, .string ⟨⟨[97, 98]⟩⟩] (Tryz.gB :: Tryz.fBT4) (.string ⟨⟨[121, 101, 115]⟩⟩) := goodR_of Tryz.env8_ok (n := 40) (m := 267) (by kernel_rfl) (by kernel_rfl) (by kernel_rfl)
/-- 1736 operations. -/
theorem Tryz.frT4_13 : GoodR Tryz.prog 8 32 [.pointer (some ⟨266, 0, none⟩), .int .u8 118, .string ⟨⟨[98, 97]⟩⟩] (Tryz.gB :: Tryz.fBT4) (.string ⟨⟨[121, 101, 115]⟩⟩) := goodR_of Tryz.env8_ok (n := 40) (m := 267) (by kernel_rfl) (by kernel_rfl) (by kernel_rfl)
end Go.Wx
end PFndR4
