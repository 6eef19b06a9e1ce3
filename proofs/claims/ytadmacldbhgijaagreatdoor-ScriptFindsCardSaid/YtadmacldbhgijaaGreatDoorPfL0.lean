/- ScriptFinds: what is asked of the handles of the first pattern, and answered. -/
import Derived.Test.YtadmacldbhgijaaGreatDoorPfH
/- ScriptFinds: what is asked of the handles of pattern 0, and answered. -/
noncomputable section PFndR0
set_option linter.unusedVariables false
set_option maxRecDepth 1000000
namespace Go.Wx
open Go.RowKit Go.Proofs
/-- 1301 operations. -/
theorem Tryz.frP0_0 : GoodR Tryz.prog 8 32 [.pointer (some ⟨315, 0, none⟩), .int .u8 102, .string ⟨⟨[]⟩⟩] (Tryz.gB :: Tryz.fBP0) (.string ⟨⟨[110, 111, 110, 101]⟩⟩) := goodR_of Tryz.env8_ok (n := 40) (m := 316) (by kernel_rfl) (by kernel_rfl) (by kernel_rfl)
/-- 1850 operations. -/
theorem Tryz.frP0_1 : GoodR Tryz.prog 8 32 [.pointer (some ⟨315, 0, none⟩), .int .u8 102, .string ⟨⟨[97]⟩⟩] (Tryz.gB :: Tryz.fBP0) (.string ⟨⟨[48, 32, 49]⟩⟩) := goodR_of Tryz.env8_ok (n := 40) (m := 316) (by kernel_rfl) (by kernel_rfl) (by kernel_rfl)
/-- 2929 operations. -/
theorem Tryz.frP0_2 : GoodR Tryz.prog 8 32 [.pointer (some ⟨315, 0, none⟩), .int .u8 102, .string ⟨⟨[99, 99, 98, 100]⟩⟩] (Tryz.gB :: Tryz.fBP0) (.string ⟨⟨[110, 111, 110, 101]⟩⟩) := goodR_of Tryz.env8_ok (n := 40) (m := 316) (by kernel_rfl) (by kernel_rfl) (by kernel_rfl)
/-- 2115 operations. -/
theorem Tryz.frP0_3 : GoodR Tryz.prog 8 32 [.pointer (some ⟨315, 0, none⟩), .int .u8 102, .string ⟨⟨[120, 121]⟩⟩] (Tryz.gB :: Tryz.fBP0) (.string ⟨⟨[110, 111, 110, 101]⟩⟩) := goodR_of Tryz.env8_ok (n := 40) (m := 316) (by kernel_rfl) (by kernel_rfl) (by kernel_rfl)
/-- 2498 operations. -/
theorem Tryz.frP0_4 : GoodR Tryz.prog 8 32 [.pointer (some ⟨315, 0, none⟩), .int .u8 102, .string ⟨⟨[122, 49, 50]⟩⟩] (Tryz.gB :: Tryz.fBP0) (.string ⟨⟨[110, 111, 110, 101]⟩⟩) := goodR_of Tryz.env8_ok (n := 40) (m := 316) (by kernel_rfl) (by kernel_rfl) (by kernel_rfl)
/-- 1850 operations. -/
theorem Tryz.frP0_5 : GoodR Tryz.prog 8 32 [.pointer (some ⟨315, 0, none⟩), .int .u8 102, .string ⟨⟨[97, 98]⟩⟩] (Tryz.gB :: Tryz.fBP0) (.string ⟨⟨[48, 32, 49]⟩⟩) := goodR_of Tryz.env8_ok (n := 40) (m := 316) (by kernel_rfl) (by kernel_rfl) (by kernel_rfl)
/-- 2257 operations. -/
theorem Tryz.frP0_6 : GoodR Tryz.prog 8 32 [.pointer (some ⟨315, 0, none⟩), .int .u8 102, .string ⟨⟨[98, 97]⟩⟩] (Tryz.gB :: Tryz.fBP0) (.string ⟨⟨[49, 32, 50]⟩⟩) := goodR_of Tryz.env8_ok (n := 40) (m := 316) (by kernel_rfl) (by kernel_rfl) (by kernel_rfl)
/-- 1284 operations. -/
theorem Tryz.frP0_7 : GoodR Tryz.prog 8 32 [.pointer (some ⟨315, 0, none⟩), .int .u8 99, .string ⟨⟨[]⟩⟩] (Tryz.gB :: Tryz.fBP0) (.string ⟨⟨[110, 111]⟩⟩) := goodR_of Tryz.env8_ok (n := 40) (m := 316) (by kernel_rfl) (by kernel_rfl) (by kernel_rfl)
/-- 1499 operations. -/
theorem Tryz.frP0_8 : GoodR Tryz.prog 8 32 [.pointer (some ⟨315, 0, none⟩), .int .u8 99, .string ⟨⟨[97]⟩⟩] (Tryz.gB :: Tryz.fBP0) (.string ⟨⟨[121, 101, 115]⟩⟩) := goodR_of Tryz.env8_ok (n := 40) (m := 316) (by kernel_rfl) (by kernel_rfl) (by kernel_rfl)
/-- 2912 operations. -/
theorem Tryz.frP0_9 : GoodR Tryz.prog 8 32 [.pointer (some ⟨315, 0, none⟩), .int .u8 99, .string ⟨⟨[99, 99, 98, 100]⟩⟩] (Tryz.gB :: Tryz.fBP0) (.string ⟨⟨[110, 111]⟩⟩) := goodR_of Tryz.env8_ok (n := 40) (m := 316) (by kernel_rfl) (by kernel_rfl) (by kernel_rfl)
/-- 2098 operations. -/
theorem Tryz.frP0_10 : GoodR Tryz.prog 8 32 [.pointer (some ⟨315, 0, none⟩), .int .u8 99, .string ⟨⟨[120, 121]⟩⟩] (Tryz.gB :: Tryz.fBP0) (.string ⟨⟨[110, 111]⟩⟩) := goodR_of Tryz.env8_ok (n := 40) (m := 316) (by kernel_rfl) (by kernel_rfl) (by kernel_rfl)
/-- 2481 operations. -/
theorem Tryz.frP0_11 : GoodR Tryz.prog 8 32 [.pointer (some ⟨315, 0, none⟩), .int .u8 99, .string ⟨⟨[122, 49, 50]⟩⟩] (Tryz.gB :: Tryz.fBP0) (.string ⟨⟨[110, 111]⟩⟩) := goodR_of Tryz.env8_ok (n := 40) (m := 316) (by kernel_rfl) (by kernel_rfl) (by kernel_rfl)
/-- 1499 operations. -/
theorem Tryz.frP0_12 : GoodR Tryz.prog 8 32 [.pointer (some ⟨315, 0, none⟩), .int .u8 99, .string ⟨⟨[97, 98]⟩⟩] (Tryz.gB :: Tryz.fBP0) (.string ⟨⟨[121, 101, 115]⟩⟩) := goodR_of Tryz.env8_ok (n := 40) (m := 316) (by kernel_rfl) (by kernel_rfl) (by kernel_rfl)
/-- 1906 operations. -/
theorem Tryz.frP0_13 : GoodR Tryz.prog 8 32 [.pointer (some ⟨315, 0, none⟩), .int .u8 99, .string ⟨⟨[98, 97]⟩⟩] (Tryz.gB :: Tryz.fBP0) (.string ⟨⟨[121, 101, 115]⟩⟩) := goodR_of Tryz.env8_ok (n := 40) (m := 316) (by kernel_rfl) (by kernel_rfl) (by kernel_rfl)
/-- 2305 operations. -/
theorem Tryz.frP0_14 : GoodR Tryz.prog 8 32 [.pointer (some ⟨315, 0, none⟩), .int .u8 118, .string ⟨⟨[]⟩⟩] (Tryz.gB :: Tryz.fBP0) (.string ⟨⟨[121, 101, 115]⟩⟩) := goodR_of Tryz.env8_ok (n := 40) (m := 316) (by kernel_rfl) (by kernel_rfl) (by kernel_rfl)
/-- 3094 operations. -/
theorem Tryz.frP0_15 : GoodR Tryz.prog 8 32 [.pointer (some ⟨315, 0, none⟩), .int .u8 118, .string ⟨⟨[97]⟩⟩] (Tryz.gB :: Tryz.fBP0) (.string ⟨⟨[121, 101, 115]⟩⟩) := goodR_of Tryz.env8_ok (n := 40) (m := 316) (by kernel_rfl) (by kernel_rfl) (by kernel_rfl)
/-- 5693 operations. -/
theorem Tryz.frP0_16 : GoodR Tryz.prog 8 32 [.pointer (some ⟨315, 0, none⟩), .int .u8 118, .string ⟨⟨[99, 99, 98, 100]⟩⟩] (Tryz.gB :: Tryz.fBP0) (.string ⟨⟨[121, 101, 115]⟩⟩) := goodR_of Tryz.env8_ok (n := 40) (m := 316) (by kernel_rfl) (by kernel_rfl) (by kernel_rfl)
/-- 3999 operations. -/
theorem Tryz.frP0_17 : GoodR Tryz.prog 8 32 [.pointer (some ⟨315, 0, none⟩), .int .u8 118, .string ⟨⟨[120, 121]⟩⟩] (Tryz.gB :: Tryz.fBP0) (.string ⟨⟨[121, 101, 115]⟩⟩) := goodR_of Tryz.env8_ok (n := 40) (m := 316) (by kernel_rfl) (by kernel_rfl) (by kernel_rfl)
/-- 4814 operations. -/
theorem Tryz.frP0_18 : GoodR Tryz.prog 8 32 [.pointer (some ⟨315, 0, none⟩), .int .u8 118, .string ⟨⟨[122, 49, 50]⟩⟩] (Tryz.gB :: Tryz.fBP0) (.string ⟨⟨[121, 101, 115]⟩⟩) := goodR_of Tryz.env8_ok (n := 40) (m := 316) (by kernel_rfl) (by kernel_rfl) (by kernel_rfl)
/-- 3223 operations. -/
theorem Tryz.frP0_19 : GoodR Tryz.prog 8 32 [.pointer (some ⟨315, 0, none⟩), .int .u8 118, .string ⟨⟨[97, 98]⟩⟩] (Tryz.gB :: Tryz.fBP0) (.string ⟨⟨[121, 101, 115]⟩⟩) := goodR_of Tryz.env8_ok (n := 40) (m := 316) (by kernel_rfl) (by kernel_rfl) (by kernel_rfl)
/-- 3941 operations. -/
theorem Tryz.frP0_20 : GoodR Tryz.prog 8 32 [.pointer (some ⟨315, 0, none⟩), .int .u8 118, .string ⟨⟨[98, 97]⟩⟩] (Tryz.gB :: Tryz.fBP0) (.string ⟨⟨[121, 101, 115]⟩⟩) := goodR_of Tryz.env8_ok (n := 40) (m := 316) (by kernel_rfl) (by kernel_rfl) (by kernel_rfl)
/-- 736 operations. -/
theorem Tryz.frT0_0 : GoodR Tryz.prog 8 32 [.pointer (some ⟨236, 0, none⟩), .int .u8 99, .string ⟨⟨[]⟩⟩] (Tryz.gB :: Tryz.fBT0) (.string ⟨⟨[110, 111]⟩⟩) := goodR_of Tryz.env8_ok (n := 40) (m := 237) (by kernel_rfl) (by kernel_rfl) (by kernel_rfl)
/-- 883 operations. -/
theorem Tryz.frT0_1 : GoodR Tryz.prog 8 32 [.pointer (some ⟨236, 0, none⟩), .int .u8 99, .string ⟨⟨[97]⟩⟩] (Tryz.gB :: Tryz.fBT0) (.string ⟨⟨[121, 101, 115]⟩⟩) := goodR_of Tryz.env8_ok (n := 40) (m := 237) (by kernel_rfl) (by kernel_rfl) (by kernel_rfl)
/-- 1336 operations. -/
theorem Tryz.frT0_2 : GoodR Tryz.prog 8 32 [.pointer (some ⟨236, 0, none⟩), .int .u8 99, .string ⟨⟨[99, 99, 98, 100]⟩⟩] (Tryz.gB :: Tryz.fBT0) (.string ⟨⟨[110, 111]⟩⟩) := goodR_of Tryz.env8_ok (n := 40) (m := 237) (by kernel_rfl) (by kernel_rfl) (by kernel_rfl)
/-- 1036 operations. -/
theorem Tryz.frT0_3 : GoodR Tryz.prog 8 32 [.pointer (some ⟨236, 0, none⟩), .int .u8 99, .string ⟨⟨[120, 121]⟩⟩] (Tryz.gB :: Tryz.fBT0) (.string ⟨⟨[110, 111]⟩⟩) := goodR_of Tryz.env8_ok (n := 40) (m := 237) (by kernel_rfl) (by kernel_rfl) (by kernel_rfl)
/-- 1142 operations. -/
theorem Tryz.frT0_4 : GoodR Tryz.prog 8 32 [.pointer (some ⟨236, 0, none⟩), .int .u8 99, .string ⟨⟨[122, 49, 50]⟩⟩] (Tryz.gB :: Tryz.fBT0) (.string ⟨⟨[110, 111]⟩⟩) := goodR_of Tryz.env8_ok (n := 40) (m := 237) (by kernel_rfl) (by kernel_rfl) (by kernel_rfl)
/-- 883 operations. -/
theorem Tryz.frT0_5 : GoodR Tryz.prog 8 32 [.pointer (some ⟨236, 0, none⟩), .int .u8 99, .string ⟨⟨[97, 98]⟩⟩] (Tryz.gB :: Tryz.fBT0) (.string ⟨⟨[121, 101, 115]⟩⟩) := goodR_of Tryz.env8_ok (n := 40) (m := 237) (by kernel_rfl) (by kernel_rfl) (by kernel_rfl)
/-- 1033 operations. -/
theorem Tryz.frT0_6 : GoodR Tryz.prog 8 32 [.pointer (some ⟨236, 0, none⟩), .int .u8 99, .string ⟨⟨[98, 97]⟩⟩] (Tryz.gB :: Tryz.fBT0) (.string ⟨⟨[121, 101, 115]⟩⟩) := goodR_of Tryz.env8_ok (n := 40) (m := 237) (by kernel_rfl) (by kernel_rfl) (by kernel_rfl)
/-- 1086 operations. -/
theorem Tryz.frT0_7 : GoodR Tryz.prog 8 32 [.pointer (some ⟨236, 0, none⟩), .int .u8 118, .string ⟨⟨[]⟩⟩] (Tryz.gB :: Tryz.fBT0) (.string ⟨⟨[121, 101, 115]⟩⟩) := goodR_of Tryz.env8_ok (n := 40) (m := 237) (by kernel_rfl) (by kernel_rfl) (by kernel_rfl)
/-- 1310 operations. -/
theorem Tryz.frT0_8 : GoodR Tryz.prog 8 32 [.pointer (some ⟨236, 0, none⟩), .int .u8 118, .string ⟨⟨[97]⟩⟩] (Tryz.gB :: Tryz.fBT0) (.string ⟨⟨[121, 101, 115]⟩⟩) := goodR_of Tryz.env8_ok (n := 40) (m := 237) (by kernel_rfl) (by kernel_rfl) (by kernel_rfl)
/-- 1998 operations. -/
theorem Tryz.frT0_9 : GoodR Tryz.prog 8 32 [.pointer (some ⟨236, 0, none⟩), .int .u8 118, .string ⟨⟨[99, 99, 98, 100]⟩⟩] (Tryz.gB :: Tryz.fBT0) (.string ⟨⟨[121, 101, 115]⟩⟩) := goodR_of Tryz.env8_ok (n := 40) (m := 237) (by kernel_rfl) (by kernel_rfl) (by kernel_rfl)
/-- 1542 operations. -/
theorem Tryz.frT0_10 : GoodR Tryz.prog 8 32 [.pointer (some ⟨236, 0, none⟩), .int .u8 118, .string ⟨⟨[120, 121]⟩⟩] (Tryz.gB :: Tryz.fBT0) (.string ⟨⟨[121, 101, 115]⟩⟩) := goodR_of Tryz.env8_ok (n := 40) (m := 237) (by kernel_rfl) (by kernel_rfl) (by kernel_rfl)
/-- 1688 operations. -/
theorem Tryz.frT0_11 : GoodR Tryz.prog 8 32 [.pointer (some ⟨236, 0, none⟩), .int .u8 118, .string ⟨⟨[122, 49, 50]⟩⟩] (Tryz.gB :: Tryz.fBT0) (.string ⟨⟨[121, 101, 115]⟩⟩) := goodR_of Tryz.env8_ok (n := 40) (m := 237) (by kernel_rfl) (by kernel_rfl) (by kernel_rfl)
/-- 1313 operations. -/
theorem Tryz.frT0_12 : GoodR Tryz.prog 8 32 [.pointer (some ⟨236, 0, none⟩), .int .u8 118, .string ⟨⟨[97, 98]⟩⟩] (Tryz.gB :: Tryz.fBT0) (.string ⟨⟨[121, 101, 115]⟩⟩) := goodR_of Tryz.env8_ok (n := 40) (m := 237) (by kernel_rfl) (by kernel_rfl) (by kernel_rfl)
/-- 1538 operations. -/
theorem Tryz.frT0_13 : GoodR Tryz.prog 8 32 [.pointer (some ⟨236, 0, none⟩), .int .u8 118, .string ⟨⟨[98, 97]⟩⟩] (Tryz.gB :: Tryz.fBT0) (.string ⟨⟨[121, 101, 115]⟩⟩) := goodR_of Tryz.env8_ok (n := 40) (m := 237) (by kernel_rfl) (by kernel_rfl) (by kernel_rfl)
end Go.Wx
end PFndR0
