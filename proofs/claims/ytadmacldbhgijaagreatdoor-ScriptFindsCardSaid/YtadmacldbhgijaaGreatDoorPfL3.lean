/- ScriptFinds: what is asked of the handles of the fourth pattern, and answered. -/
import Derived.Test.YtadmacldbhgijaaGreatDoorPfH
/- ScriptFinds: what is asked of the handles of pattern 3, and answered. -/
noncomputable section PFndR3
set_option linter.unusedVariables false
set_option maxRecDepth 1000000
namespace Go.Wx
open Go.RowKit Go.Proofs
/-- 1443 operations. -/
theorem Tryz.frP3_0 : GoodR Tryz.prog 8 32 [.pointer (some ⟨356, 0, none⟩), .int .u8 102, .string ⟨⟨[]⟩⟩] (Tryz.gB :: Tryz.fBP3) (.string ⟨⟨[110, 111, 110, 101]⟩⟩) := goodR_of Tryz.env8_ok (n := 40) (m := 357) (by kernel_rfl) (by kernel_rfl) (by kernel_rfl)
/-- 1850 operations. -/
theorem Tryz.frP3_1 : GoodR Tryz.prog 8 32 [.pointer (some ⟨356, 0, none⟩), .int .u8 102, .string ⟨⟨[97]⟩⟩] (Tryz.gB :: Tryz.fBP3) (.string ⟨⟨[110, 111, 110, 101]⟩⟩) := goodR_of Tryz.env8_ok (n := 40) (m := 357) (by kernel_rfl) (by kernel_rfl) (by kernel_rfl)
/-- 3071 operations. -/
theorem Tryz.frP3_2 : GoodR Tryz.prog 8 32 [.pointer (some ⟨356, 0, none⟩), .int .u8 102, .string ⟨⟨[99, 99, 98, 100]⟩⟩] (Tryz.gB :: Tryz.fBP3) (.string ⟨⟨[110, 111, 110, 101]⟩⟩) := goodR_of Tryz.env8_ok (n := 40) (m := 357) (by kernel_rfl) (by kernel_rfl) (by kernel_rfl)
/-- 2257 operations. -/
theorem Tryz.frP3_3 : GoodR Tryz.prog 8 32 [.pointer (some ⟨356, 0, none⟩), .int .u8 102, .string ⟨⟨[120, 121]⟩⟩] (Tryz.gB :: Tryz.fBP3) (.string ⟨⟨[110, 111, 110, 101]⟩⟩) := goodR_of Tryz.env8_ok (n := 40) (m := 357) (by kernel_rfl) (by kernel_rfl) (by kernel_rfl)
/-- 2876 operations. -/
theorem Tryz.frP3_4 : GoodR Tryz.prog 8 32 [.pointer (some ⟨356, 0, none⟩), .int .u8 102, .string ⟨⟨[122, 49, 50]⟩⟩] (Tryz.gB :: Tryz.fBP3) (.string ⟨⟨[49, 32, 51]⟩⟩) := goodR_of Tryz.env8_ok (n := 40) (m := 357) (by kernel_rfl) (by kernel_rfl) (by kernel_rfl)
/-- 2257 operations. -/
theorem Tryz.frP3_5 : GoodR Tryz.prog 8 32 [.pointer (some ⟨356, 0, none⟩), .int .u8 102, .string ⟨⟨[97, 98]⟩⟩] (Tryz.gB :: Tryz.fBP3) (.string ⟨⟨[110, 111, 110, 101]⟩⟩) := goodR_of Tryz.env8_ok (n := 40) (m := 357) (by kernel_rfl) (by kernel_rfl) (by kernel_rfl)
/-- 2257 operations. -/
theorem Tryz.frP3_6 : GoodR Tryz.prog 8 32 [.pointer (some ⟨356, 0, none⟩), .int .u8 102, .string ⟨⟨[98, 97]⟩⟩] (Tryz.gB :: Tryz.fBP3) (.string ⟨⟨[110, 111, 110, 101]⟩⟩) := goodR_of Tryz.env8_ok (n := 40) (m := 357) (by kernel_rfl) (by kernel_rfl) (by kernel_rfl)
/-- 1426 operations. -/
theorem Tryz.frP3_7 : GoodR Tryz.prog 8 32 [.pointer (some ⟨356, 0, none⟩), .int .u8 99, .string ⟨⟨[]⟩⟩] (Tryz.gB :: Tryz.fBP3) (.string ⟨⟨[110, 111]⟩⟩) := goodR_of Tryz.env8_ok (n := 40) (m := 357) (by kernel_rfl) (by kernel_rfl) (by kernel_rfl)
/-- 1833 operations. -/
theorem Tryz.frP3_8 : GoodR Tryz.prog 8 32 [.pointer (some ⟨356, 0, none⟩), .int .u8 99, .string ⟨⟨[97]⟩⟩] (Tryz.gB :: Tryz.fBP3) (.string ⟨⟨[110, 111]⟩⟩) := goodR_of Tryz.env8_ok (n := 40) (m := 357) (by kernel_rfl) (by kernel_rfl) (by kernel_rfl)
/-- 3054 operations. -/
theorem Tryz.frP3_9 : GoodR Tryz.prog 8 32 [.pointer (some ⟨356, 0, none⟩), .int .u8 99, .string ⟨⟨[99, 99, 98, 100]⟩⟩] (Tryz.gB :: Tryz.fBP3) (.string ⟨⟨[110, 111]⟩⟩) := goodR_of Tryz.env8_ok (n := 40) (m := 357) (by kernel_rfl) (by kernel_rfl) (by kernel_rfl)
/-- 2240 operations. -/
theorem Tryz.frP3_10 : GoodR Tryz.prog 8 32 [.pointer (some ⟨356, 0, none⟩), .int .u8 99, .string ⟨⟨[120, 121]⟩⟩] (Tryz.gB :: Tryz.fBP3) (.string ⟨⟨[110, 111]⟩⟩) := goodR_of Tryz.env8_ok (n := 40) (m := 357) (by kernel_rfl) (by kernel_rfl) (by kernel_rfl)
/-- 2525 operations. -/
theorem Tryz.frP3_11 : GoodR Tryz.prog 8 32 [.pointer (some ⟨356, 0, none⟩), .int .u8 99, .string ⟨⟨[122, 49, 50]⟩⟩] (Tryz.gB :: Tryz.fBP3) (.string ⟨⟨[121, 101, 115]⟩⟩) := goodR_of Tryz.env8_ok (n := 40) (m := 357) (by kernel_rfl) (by kernel_rfl) (by kernel_rfl)
/-- 2240 operations. -/
theorem Tryz.frP3_12 : GoodR Tryz.prog 8 32 [.pointer (some ⟨356, 0, none⟩), .int .u8 99, .string ⟨⟨[97, 98]⟩⟩] (Tryz.gB :: Tryz.fBP3) (.string ⟨⟨[110, 111]⟩⟩) := goodR_of Tryz.env8_ok (n := 40) (m := 357) (by kernel_rfl) (by kernel_rfl) (by kernel_rfl)
/-- 2240 operations. -/
theorem Tryz.frP3_13 : GoodR Tryz.prog 8 32 [.pointer (some ⟨356, 0, none⟩), .int .u8 99, .string ⟨⟨[98, 97]⟩⟩] (Tryz.gB :: Tryz.fBP3) (.string ⟨⟨[110, 111]⟩⟩) := goodR_of Tryz.env8_ok (n := 40) (m := 357) (by kernel_rfl) (by kernel_rfl) (by kernel_rfl)
/-- 2558 operations. -/
theorem Tryz.frP3_14 : GoodR Tryz.prog 8 32 [.pointer (some ⟨356, 0, none⟩), .int .u8 118, .string ⟨⟨[]⟩⟩] (Tryz.gB :: Tryz.fBP3) (.string ⟨⟨[121, 101, 115]⟩⟩) := goodR_of Tryz.env8_ok (n := 40) (m := 357) (by kernel_rfl) (by kernel_rfl) (by kernel_rfl)
/-- 3405 operations. -/
theorem Tryz.frP3_15 : GoodR Tryz.prog 8 32 [.pointer (some ⟨356, 0, none⟩), .int .u8 118, .string ⟨⟨[97]⟩⟩] (Tryz.gB :: Tryz.fBP3) (.string ⟨⟨[121, 101, 115]⟩⟩) := goodR_of Tryz.env8_ok (n := 40) (m := 357) (by kernel_rfl) (by kernel_rfl) (by kernel_rfl)
/-- 5946 operations. -/
theorem Tryz.frP3_16 : GoodR Tryz.prog 8 32 [.pointer (some ⟨356, 0, none⟩), .int .u8 118, .string ⟨⟨[99, 99, 98, 100]⟩⟩] (Tryz.gB :: Tryz.fBP3) (.string ⟨⟨[121, 101, 115]⟩⟩) := goodR_of Tryz.env8_ok (n := 40) (m := 357) (by kernel_rfl) (by kernel_rfl) (by kernel_rfl)
/-- 4252 operations. -/
theorem Tryz.frP3_17 : GoodR Tryz.prog 8 32 [.pointer (some ⟨356, 0, none⟩), .int .u8 118, .string ⟨⟨[120, 121]⟩⟩] (Tryz.gB :: Tryz.fBP3) (.string ⟨⟨[121, 101, 115]⟩⟩) := goodR_of Tryz.env8_ok (n := 40) (m := 357) (by kernel_rfl) (by kernel_rfl) (by kernel_rfl)
/-- 5176 operations. -/
theorem Tryz.frP3_18 : GoodR Tryz.prog 8 32 [.pointer (some ⟨356, 0, none⟩), .int .u8 118, .string ⟨⟨[122, 49, 50]⟩⟩] (Tryz.gB :: Tryz.fBP3) (.string ⟨⟨[121, 101, 115]⟩⟩) := goodR_of Tryz.env8_ok (n := 40) (m := 357) (by kernel_rfl) (by kernel_rfl) (by kernel_rfl)
/-- 4252 operations. -/
theorem Tryz.frP3_19 : GoodR Tryz.prog 8 32 [.pointer (some ⟨356, 0, none⟩), .int .u8 118, .string ⟨⟨[97, 98]⟩⟩] (Tryz.gB :: Tryz.fBP3) (.string ⟨⟨[121, 101, 115]⟩⟩) := goodR_of Tryz.env8_ok (n := 40) (m := 357) (by kernel_rfl) (by kernel_rfl) (by kernel_rfl)
/-- 4252 operations. -/
theorem Tryz.frP3_20 : GoodR Tryz.prog 8 32 [.pointer (some ⟨356, 0, none⟩), .int .u8 118, .string ⟨⟨[98, 97]⟩⟩] (Tryz.gB :: Tryz.fBP3) (.string ⟨⟨[121, 101, 115]⟩⟩) := goodR_of Tryz.env8_ok (n := 40) (m := 357) (by kernel_rfl) (by kernel_rfl) (by kernel_rfl)
/-- 736 operations. -/
theorem Tryz.frT3_0 : GoodR Tryz.prog 8 32 [.pointer (some ⟨236, 0, none⟩), .int .u8 99, .string ⟨⟨[]⟩⟩] (Tryz.gB :: Tryz.fBT3) (.string ⟨⟨[110, 111]⟩⟩) := goodR_of Tryz.env8_ok (n := 40) (m := 237) (by kernel_rfl) (by kernel_rfl) (by kernel_rfl)
/-- 886 operations. -/
theorem Tryz.frT3_1 : GoodR Tryz.prog 8 32 [.pointer (some ⟨236, 0, none⟩), .int .u8 99, .string ⟨⟨[97]⟩⟩] (Tryz.gB :: Tryz.fBT3) (.string ⟨⟨[110, 111]⟩⟩) := goodR_of Tryz.env8_ok (n := 40) (m := 237) (by kernel_rfl) (by kernel_rfl) (by kernel_rfl)
/-- 1336 operations. -/
theorem Tryz.frT3_2 : GoodR Tryz.prog 8 32 [.pointer (some ⟨236, 0, none⟩), .int .u8 99, .string ⟨⟨[99, 99, 98, 100]⟩⟩] (Tryz.gB :: Tryz.fBT3) (.string ⟨⟨[110, 111]⟩⟩) := goodR_of Tryz.env8_ok (n := 40) (m := 237) (by kernel_rfl) (by kernel_rfl) (by kernel_rfl)
/-- 1036 operations. -/
theorem Tryz.frT3_3 : GoodR Tryz.prog 8 32 [.pointer (some ⟨236, 0, none⟩), .int .u8 99, .string ⟨⟨[120, 121]⟩⟩] (Tryz.gB :: Tryz.fBT3) (.string ⟨⟨[110, 111]⟩⟩) := goodR_of Tryz.env8_ok (n := 40) (m := 237) (by kernel_rfl) (by kernel_rfl) (by kernel_rfl)
/-- 1033 operations. -/
theorem Tryz.frT3_4 : GoodR Tryz.prog 8 32 [.pointer (some ⟨236, 0, none⟩), .int .u8 99, .string ⟨⟨[122, 49, 50]⟩⟩] (Tryz.gB :: Tryz.fBT3) (.string ⟨⟨[121, 101, 115]⟩⟩) := goodR_of Tryz.env8_ok (n := 40) (m := 237) (by kernel_rfl) (by kernel_rfl) (by kernel_rfl)
/-- 1036 operations. -/
theorem Tryz.frT3_5 : GoodR Tryz.prog 8 32 [.pointer (some ⟨236, 0, none⟩), .int .u8 99, .string ⟨⟨[97, 98]⟩⟩] (Tryz.gB :: Tryz.fBT3) (.string ⟨⟨[110, 111]⟩⟩) := goodR_of Tryz.env8_ok (n := 40) (m := 237) (by kernel_rfl) (by kernel_rfl) (by kernel_rfl)
/-- 1036 operations. -/
theorem Tryz.frT3_6 : GoodR Tryz.prog 8 32 [.pointer (some ⟨236, 0, none⟩), .int .u8 99, .string ⟨⟨[98, 97]⟩⟩] (Tryz.gB :: Tryz.fBT3) (.string ⟨⟨[110, 111]⟩⟩) := goodR_of Tryz.env8_ok (n := 40) (m := 237) (by kernel_rfl) (by kernel_rfl) (by kernel_rfl)
/-- 1086 operations. -/
theorem Tryz.frT3_7 : GoodR Tryz.prog 8 32 [.pointer (some ⟨236, 0, none⟩), .int .u8 118, .string ⟨⟨[]⟩⟩] (Tryz.gB :: Tryz.fBT3) (.string ⟨⟨[121, 101, 115]⟩⟩) := goodR_of Tryz.env8_ok (n := 40) (m := 237) (by kernel_rfl) (by kernel_rfl) (by kernel_rfl)
/-- 1314 operations. -/
theorem Tryz.frT3_8 : GoodR Tryz.prog 8 32 [.pointer (some ⟨236, 0, none⟩), .int .u8 118, .string ⟨⟨[97]⟩⟩] (Tryz.gB :: Tryz.fBT3) (.string ⟨⟨[121, 101, 115]⟩⟩) := goodR_of Tryz.env8_ok (n := 40) (m := 237) (by kernel_rfl) (by kernel_rfl) (by kernel_rfl)
/-- 1998 operations. -/
theorem Tryz.frT3_9 : GoodR Tryz.prog 8 32 [.pointer (some ⟨236, 0, none⟩), .int .u8 118, .string ⟨⟨[99, 99, 98, 100]⟩⟩] (Tryz.gB :: Tryz.fBT3) (.string ⟨⟨[121, 101, 115]⟩⟩) := goodR_of Tryz.env8_ok (n := 40) (m := 237) (by kernel_rfl) (by kernel_rfl) (by kernel_rfl)
/-- 1542 operations. -/
theorem Tryz.frT3_10 : GoodR Tryz.prog 8 32 [.pointer (some ⟨236, 0, none⟩), .int .u8 118, .string ⟨⟨[120, 121]⟩⟩] (Tryz.gB :: Tryz.fBT3) (.string ⟨⟨[121, 101, 115]⟩⟩) := goodR_of Tryz.env8_ok (n := 40) (m := 237) (by kernel_rfl) (by kernel_rfl) (by kernel_rfl)
/-- 1541 operations. -/
theorem Tryz.frT3_11 : GoodR Tryz.prog 8 32 [.pointer (some ⟨236, 0, none⟩), .int .u8 118, .string ⟨⟨[122, 49, 50]⟩⟩] (Tryz.gB :: Tryz.fBT3) (.string ⟨⟨[121, 101, 115]⟩⟩) := goodR_of Tryz.env8_ok (n := 40) (m := 237) (by kernel_rfl) (by kernel_rfl) (by kernel_rfl)
/-- 1542 operations. -/
theorem Tryz.frT3_12 : GoodR Tryz.prog 8 32 [.pointer (some ⟨236, 0, none⟩), .int .u8 118, .string ⟨⟨[97, 98]⟩⟩] (Tryz.gB :: Tryz.fBT3) (.string ⟨⟨[121, 101, 115]⟩⟩) := goodR_of Tryz.env8_ok (n := 40) (m := 237) (by kernel_rfl) (by kernel_rfl) (by kernel_rfl)
/-- 1542 operations. -/
theorem Tryz.frT3_13 : GoodR Tryz.prog 8 32 [.pointer (some ⟨236, 0, none⟩), .int .u8 118, .string ⟨⟨[98, 97]⟩⟩] (Tryz.gB :: Tryz.fBT3) (.string ⟨⟨[121, 101, 115]⟩⟩) := goodR_of Tryz.env8_ok (n := 40) (m := 237) (by kernel_rfl) (by kernel_rfl) (by kernel_rfl)
end Go.Wx
end PFndR3
