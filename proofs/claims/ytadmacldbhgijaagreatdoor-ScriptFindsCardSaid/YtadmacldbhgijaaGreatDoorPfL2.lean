/- ScriptFinds: what is asked of the handles of the third pattern, and answered. -/
import Derived.Test.YtadmacldbhgijaaGreatDoorPfH
/- ScriptFinds: what is asked of the handles of pattern 2, and answered. -/
noncomputable section PFndR2
set_option linter.unusedVariables false
set_option maxRecDepth 1000000
namespace Go.Wx
open Go.RowKit Go.Proofs
/-- 1940 operations. -/
theorem Tryz.frP2_0 : GoodR Tryz.prog 8 32 [.pointer (some ⟨430, 0, none⟩), .int .u8 102, .string ⟨⟨[]⟩⟩] (Tryz.gB :: Tryz.fBP2) (.string ⟨⟨[110, 111, 110, 101]⟩⟩) := goodR_of Tryz.env8_ok (n := 40) (m := 431) (by kernel_rfl) (by kernel_rfl) (by kernel_rfl)
/-- 2617 operations. -/
theorem Tryz.frP2_1 : GoodR Tryz.prog 8 32 [.pointer (some ⟨430, 0, none⟩), .int .u8 102, .string ⟨⟨[97]⟩⟩] (Tryz.gB :: Tryz.fBP2) (.string ⟨⟨[110, 111, 110, 101]⟩⟩) := goodR_of Tryz.env8_ok (n := 40) (m := 431) (by kernel_rfl) (by kernel_rfl) (by kernel_rfl)
/-- 4648 operations. -/
theorem Tryz.frP2_2 : GoodR Tryz.prog 8 32 [.pointer (some ⟨430, 0, none⟩), .int .u8 102, .string ⟨⟨[99, 99, 98, 100]⟩⟩] (Tryz.gB :: Tryz.fBP2) (.string ⟨⟨[110, 111, 110, 101]⟩⟩) := goodR_of Tryz.env8_ok (n := 40) (m := 431) (by kernel_rfl) (by kernel_rfl) (by kernel_rfl)
/-- 2516 operations. -/
theorem Tryz.frP2_3 : GoodR Tryz.prog 8 32 [.pointer (some ⟨430, 0, none⟩), .int .u8 102, .string ⟨⟨[120, 121]⟩⟩] (Tryz.gB :: Tryz.fBP2) (.string ⟨⟨[48, 32, 50]⟩⟩) := goodR_of Tryz.env8_ok (n := 40) (m := 431) (by kernel_rfl) (by kernel_rfl) (by kernel_rfl)
/-- 3995 operations. -/
theorem Tryz.frP2_4 : GoodR Tryz.prog 8 32 [.pointer (some ⟨430, 0, none⟩), .int .u8 102, .string ⟨⟨[122, 49, 50]⟩⟩] (Tryz.gB :: Tryz.fBP2) (.string ⟨⟨[110, 111, 110, 101]⟩⟩) := goodR_of Tryz.env8_ok (n := 40) (m := 431) (by kernel_rfl) (by kernel_rfl) (by kernel_rfl)
/-- 3294 operations. -/
theorem Tryz.frP2_5 : GoodR Tryz.prog 8 32 [.pointer (some ⟨430, 0, none⟩), .int .u8 102, .string ⟨⟨[97, 98]⟩⟩] (Tryz.gB :: Tryz.fBP2) (.string ⟨⟨[110, 111, 110, 101]⟩⟩) := goodR_of Tryz.env8_ok (n := 40) (m := 431) (by kernel_rfl) (by kernel_rfl) (by kernel_rfl)
/-- 3294 operations. -/
theorem Tryz.frP2_6 : GoodR Tryz.prog 8 32 [.pointer (some ⟨430, 0, none⟩), .int .u8 102, .string ⟨⟨[98, 97]⟩⟩] (Tryz.gB :: Tryz.fBP2) (.string ⟨⟨[110, 111, 110, 101]⟩⟩) := goodR_of Tryz.env8_ok (n := 40) (m := 431) (by kernel_rfl) (by kernel_rfl) (by kernel_rfl)
/-- 1923 operations. -/
theorem Tryz.frP2_7 : GoodR Tryz.prog 8 32 [.pointer (some ⟨430, 0, none⟩), .int .u8 99, .string ⟨⟨[]⟩⟩] (Tryz.gB :: Tryz.fBP2) (.string ⟨⟨[110, 111]⟩⟩) := goodR_of Tryz.env8_ok (n := 40) (m := 431) (by kernel_rfl) (by kernel_rfl) (by kernel_rfl)
/-- 2600 operations. -/
theorem Tryz.frP2_8 : GoodR Tryz.prog 8 32 [.pointer (some ⟨430, 0, none⟩), .int .u8 99, .string ⟨⟨[97]⟩⟩] (Tryz.gB :: Tryz.fBP2) (.string ⟨⟨[110, 111]⟩⟩) := goodR_of Tryz.env8_ok (n := 40) (m := 431) (by kernel_rfl) (by kernel_rfl) (by kernel_rfl)
/-- 4631 operations. -/
theorem Tryz.frP2_9 : GoodR Tryz.prog 8 32 [.pointer (some ⟨430, 0, none⟩), .int .u8 99, .string ⟨⟨[99, 99, 98, 100]⟩⟩] (Tryz.gB :: Tryz.fBP2) (.string ⟨⟨[110, 111]⟩⟩) := goodR_of Tryz.env8_ok (n := 40) (m := 431) (by kernel_rfl) (by kernel_rfl) (by kernel_rfl)
/-- 2165 operations. -/
theorem Tryz.frP2_10 : GoodR Tryz.prog 8 32 [.pointer (some ⟨430, 0, none⟩), .int .u8 99, .string ⟨⟨[120, 121]⟩⟩] (Tryz.gB :: Tryz.fBP2) (.string ⟨⟨[121, 101, 115]⟩⟩) := goodR_of Tryz.env8_ok (n := 40) (m := 431) (by kernel_rfl) (by kernel_rfl) (by kernel_rfl)
/-- 3978 operations. -/
theorem Tryz.frP2_11 : GoodR Tryz.prog 8 32 [.pointer (some ⟨430, 0, none⟩), .int .u8 99, .string ⟨⟨[122, 49, 50]⟩⟩] (Tryz.gB :: Tryz.fBP2) (.string ⟨⟨[110, 111]⟩⟩) := goodR_of Tryz.env8_ok (n := 40) (m := 431) (by kernel_rfl) (by kernel_rfl) (by kernel_rfl)
/-- 3277 operations. -/
theorem Tryz.frP2_12 : GoodR Tryz.prog 8 32 [.pointer (some ⟨430, 0, none⟩), .int .u8 99, .string ⟨⟨[97, 98]⟩⟩] (Tryz.gB :: Tryz.fBP2) (.string ⟨⟨[110, 111]⟩⟩) := goodR_of Tryz.env8_ok (n := 40) (m := 431) (by kernel_rfl) (by kernel_rfl) (by kernel_rfl)
/-- 3277 operations. -/
theorem Tryz.frP2_13 : GoodR Tryz.prog 8 32 [.pointer (some ⟨430, 0, none⟩), .int .u8 99, .string ⟨⟨[98, 97]⟩⟩] (Tryz.gB :: Tryz.fBP2) (.string ⟨⟨[110, 111]⟩⟩) := goodR_of Tryz.env8_ok (n := 40) (m := 431) (by kernel_rfl) (by kernel_rfl) (by kernel_rfl)
/-- 3347 operations. -/
theorem Tryz.frP2_14 : GoodR Tryz.prog 8 32 [.pointer (some ⟨430, 0, none⟩), .int .u8 118, .string ⟨⟨[]⟩⟩] (Tryz.gB :: Tryz.fBP2) (.string ⟨⟨[121, 101, 115]⟩⟩) := goodR_of Tryz.env8_ok (n := 40) (m := 431) (by kernel_rfl) (by kernel_rfl) (by kernel_rfl)
/-- 4625 operations. -/
theorem Tryz.frP2_15 : GoodR Tryz.prog 8 32 [.pointer (some ⟨430, 0, none⟩), .int .u8 118, .string ⟨⟨[97]⟩⟩] (Tryz.gB :: Tryz.fBP2) (.string ⟨⟨[121, 101, 115]⟩⟩) := goodR_of Tryz.env8_ok (n := 40) (m := 431) (by kernel_rfl) (by kernel_rfl) (by kernel_rfl)
/-- 8459 operations. -/
theorem Tryz.frP2_16 : GoodR Tryz.prog 8 32 [.pointer (some ⟨430, 0, none⟩), .int .u8 118, .string ⟨⟨[99, 99, 98, 100]⟩⟩] (Tryz.gB :: Tryz.fBP2) (.string ⟨⟨[121, 101, 115]⟩⟩) := goodR_of Tryz.env8_ok (n := 40) (m := 431) (by kernel_rfl) (by kernel_rfl) (by kernel_rfl)
/-- 4924 operations. -/
theorem Tryz.frP2_17 : GoodR Tryz.prog 8 32 [.pointer (some ⟨430, 0, none⟩), .int .u8 118, .string ⟨⟨[120, 121]⟩⟩] (Tryz.gB :: Tryz.fBP2) (.string ⟨⟨[121, 101, 115]⟩⟩) := goodR_of Tryz.env8_ok (n := 40) (m := 431) (by kernel_rfl) (by kernel_rfl) (by kernel_rfl)
/-- 7213 operations. -/
theorem Tryz.frP2_18 : GoodR Tryz.prog 8 32 [.pointer (some ⟨430, 0, none⟩), .int .u8 118, .string ⟨⟨[122, 49, 50]⟩⟩] (Tryz.gB :: Tryz.fBP2) (.string ⟨⟨[121, 101, 115]⟩⟩) := goodR_of Tryz.env8_ok (n := 40) (m := 431) (by kernel_rfl) (by kernel_rfl) (by kernel_rfl)
/-- 5903 operations. -/
theorem Tryz.frP2_19 : GoodR Tryz.prog 8 32 [.pointer (some ⟨430, 0, none⟩), .int .u8 118, .string ⟨⟨[97, 98]⟩⟩] (Tryz.gB :: Tryz.fBP2) (.string ⟨⟨[121, 101, 115]⟩⟩) := goodR_of Tryz.env8_ok (n := 40) (m := 431) (by kernel_rfl) (by kernel_rfl) (by kernel_rfl)
/-- 5903 operations. -/
theorem Tryz.frP2_20 : GoodR Tryz.prog 8 32 [.pointer (some ⟨430, 0, none⟩), .int .u8 118, .string ⟨⟨[98, 97]⟩⟩] (Tryz.gB :: Tryz.fBP2) (.string ⟨⟨[121, 101, 115]⟩⟩) := goodR_of Tryz.env8_ok (n := 40) (m := 431) (by kernel_rfl) (by kernel_rfl) (by kernel_rfl)
/-- 862 operations. -/
theorem Tryz.frT2_0 : GoodR Tryz.prog 8 32 [.pointer (some ⟨266, 0, none⟩), .int .u8 99, .string ⟨⟨[]⟩⟩] (Tryz.gB :: Tryz.fBT2) (.string ⟨⟨[110, 111]⟩⟩) := goodR_of Tryz.env8_ok (n := 40) (m := 267) (by kernel_rfl) (by kernel_rfl) (by kernel_rfl)
/-- 1012 operations. -/
theorem Tryz.frT2_1 : GoodR Tryz.prog 8 32 [.pointer (some ⟨266, 0, none⟩), .int .u8 99, .string ⟨⟨[97]⟩⟩] (Tryz.gB :: Tryz.fBT2) (.string ⟨⟨[110, 111]⟩⟩) := goodR_of Tryz.env8_ok (n := 40) (m := 267) (by kernel_rfl) (by kernel_rfl) (by kernel_rfl)
/-- 1462 operations. -/
theorem Tryz.frT2_2 : GoodR Tryz.prog 8 32 [.pointer (some ⟨266, 0, none⟩), .int .u8 99, .string ⟨⟨[99, 99, 98, 100]⟩⟩] (Tryz.gB :: Tryz.fBT2) (.string ⟨⟨[110, 111]⟩⟩) := goodR_of Tryz.env8_ok (n := 40) (m := 267) (by kernel_rfl) (by kernel_rfl) (by kernel_rfl)
/-- 1159 operations. -/
theorem Tryz.frT2_3 : GoodR Tryz.prog 8 32 [.pointer (some ⟨266, 0, none⟩), .int .u8 99, .string ⟨⟨[120, 121]⟩⟩] (Tryz.gB :: Tryz.fBT2) (.string ⟨⟨[121, 101, 115]⟩⟩) := goodR_of Tryz.env8_ok (n := 40) (m := 267) (by kernel_rfl) (by kernel_rfl) (by kernel_rfl)
/-- 1312 operations. -/
theorem Tryz.frT2_4 : GoodR Tryz.prog 8 32 [.pointer (some ⟨266, 0, none⟩), .int .u8 99, .string ⟨⟨[122, 49, 50]⟩⟩] (Tryz.gB :: Tryz.fBT2) (.string ⟨⟨[110, 111]⟩⟩) := goodR_of Tryz.env8_ok (n := 40) (m := 267) (by kernel_rfl) (by kernel_rfl) (by kernel_rfl)
/-- 1162 operations. -/
theorem Tryz.frT2_5 : GoodR Tryz.prog 8 32 [.pointer (some ⟨266, 0, none⟩), .int .u8 99, .string ⟨⟨[97, 98]⟩⟩] (Tryz.gB :: Tryz.fBT2) (.string ⟨⟨[110, 111]⟩⟩) := goodR_of Tryz.env8_ok (n := 40) (m := 267) (by kernel_rfl) (by kernel_rfl) (by kernel_rfl)
/-- 1162 operations. -/
theorem Tryz.frT2_6 : GoodR Tryz.prog 8 32 [.pointer (some ⟨266, 0, none⟩), .int .u8 99, .string ⟨⟨[98, 97]⟩⟩] (Tryz.gB :: Tryz.fBT2) (.string ⟨⟨[110, 111]⟩⟩) := goodR_of Tryz.env8_ok (n := 40) (m := 267) (by kernel_rfl) (by kernel_rfl) (by kernel_rfl)
/-- 1271 operations. -/
theorem Tryz.frT2_7 : GoodR Tryz.prog 8 32 [.pointer (some ⟨266, 0, none⟩), .int .u8 118, .string ⟨⟨[]⟩⟩] (Tryz.gB :: Tryz.fBT2) (.string ⟨⟨[121, 101, 115]⟩⟩) := goodR_of Tryz.env8_ok (n := 40) (m := 267) (by kernel_rfl) (by kernel_rfl) (by kernel_rfl)
/-- 1480 operations. -/
theorem Tryz.frT2_8 : GoodR Tryz.prog 8 32 [.pointer (some ⟨266, 0, none⟩), .int .u8 118, .string ⟨⟨[97]⟩⟩] (Tryz.gB :: Tryz.fBT2) (.string ⟨⟨[121, 101, 115]⟩⟩) := goodR_of Tryz.env8_ok (n := 40) (m := 267) (by kernel_rfl) (by kernel_rfl) (by kernel_rfl)
/-- 2107 operations. -/
theorem Tryz.frT2_9 : GoodR Tryz.prog 8 32 [.pointer (some ⟨266, 0, none⟩), .int .u8 118, .string ⟨⟨[99, 99, 98, 100]⟩⟩] (Tryz.gB :: Tryz.fBT2) (.string ⟨⟨[121, 101, 115]⟩⟩) := goodR_of Tryz.env8_ok (n := 40) (m := 267) (by kernel_rfl) (by kernel_rfl) (by kernel_rfl)
/-- 1736 operations. -/
theorem Tryz.frT2_10 : GoodR Tryz.prog 8 32 [.pointer (some ⟨266, 0, none⟩), .int .u8 118, .string ⟨⟨[120, 121]⟩⟩] (Tryz.gB :: Tryz.fBT2) (.string ⟨⟨[121, 101, 115]⟩⟩) := goodR_of Tryz.env8_ok (n := 40) (m := 267) (by kernel_rfl) (by kernel_rfl) (by kernel_rfl)
/-- 1933 operations. -/
theorem Tryz.frT2_11 : GoodR Tryz.prog 8 32 [.pointer (some ⟨266, 0, none⟩), .int .u8 118, .string ⟨⟨[122, 49, 50]⟩⟩] (Tryz.gB :: Tryz.fBT2) (.string ⟨⟨[121, 101, 115]⟩⟩) := goodR_of Tryz.env8_ok (n := 40) (m := 267) (by kernel_rfl) (by kernel_rfl) (by kernel_rfl)
/-- 1689 operations. -/
theorem Tryz.frT2_12 : GoodR Tryz.prog 8 32 [.pointer (some ⟨266, 0, none⟩), .int .u8 118, .string ⟨⟨[97, 98]⟩⟩] (Tryz.gB :: Tryz.fBT2) (.string ⟨⟨[121, 101, 115]⟩⟩) := goodR_of Tryz.env8_ok (n := 40) (m := 267) (by kernel_rfl) (by kernel_rfl) (by kernel_rfl)
/-- 1689 operations. -/
theorem Tryz.frT2_13 : GoodR Tryz.prog 8 32 [.pointer (some ⟨266, 0, none⟩), .int .u8 118, .string ⟨⟨[98, 97]⟩⟩] (Tryz.gB :: Tryz.fBT2) (.string ⟨⟨[121, 101, 115]⟩⟩) := goodR_of Tryz.env8_ok (n := 40) (m := 267) (by kernel_rfl) (by kernel_rfl) (by kernel_rfl)
end Go.Wx
end PFndR2
