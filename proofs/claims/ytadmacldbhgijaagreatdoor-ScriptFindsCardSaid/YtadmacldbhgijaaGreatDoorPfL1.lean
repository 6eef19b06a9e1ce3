/- ScriptFinds: what is asked of the handles of the second pattern, and answered. -/
import Derived.Test.YtadmacldbhgijaaGreatDoorPfH
/- ScriptFinds: what is asked of the handles of pattern 1, and answered. -/
noncomputable section PFndR1
set_option linter.unusedVariables false
set_option maxRecDepth 1000000
namespace Go.Wx
open Go.RowKit Go.Proofs
/-- 3284 operations. -/
theorem Tryz.frP1_0 : GoodR Tryz.prog 8 32 [.pointer (some ⟨715, 0, none⟩), .int .u8 102, .string ⟨⟨[]⟩⟩] (Tryz.gB :: Tryz.fBP1) (.string ⟨⟨[110, 111, 110, 101]⟩⟩) := goodR_of Tryz.env8_ok (n := 40) (m := 716) (by kernel_rfl) (by kernel_rfl) (by kernel_rfl)
/-- 4354 operations. -/
theorem Tryz.frP1_1 : GoodR Tryz.prog 8 32 [.pointer (some ⟨715, 0, none⟩), .int .u8 102, .string ⟨⟨[97]⟩⟩] (Tryz.gB :: Tryz.fBP1) (.string ⟨⟨[110, 111, 110, 101]⟩⟩) := goodR_of Tryz.env8_ok (n := 40) (m := 716) (by kernel_rfl) (by kernel_rfl) (by kernel_rfl)
/-- 6510 operations. -/
theorem Tryz.frP1_2 : GoodR Tryz.prog 8 32 [.pointer (some ⟨715, 0, none⟩), .int .u8 102, .string ⟨⟨[99, 99, 98, 100]⟩⟩] (Tryz.gB :: Tryz.fBP1) (.string ⟨⟨[48, 32, 52, 32, 50, 32, 51]⟩⟩) := goodR_of Tryz.env8_ok (n := 40) (m := 716) (by kernel_rfl) (by kernel_rfl) (by kernel_rfl)
/-- 5496 operations. -/
theorem Tryz.frP1_3 : GoodR Tryz.prog 8 32 [.pointer (some ⟨715, 0, none⟩), .int .u8 102, .string ⟨⟨[120, 121]⟩⟩] (Tryz.gB :: Tryz.fBP1) (.string ⟨⟨[110, 111, 110, 101]⟩⟩) := goodR_of Tryz.env8_ok (n := 40) (m := 716) (by kernel_rfl) (by kernel_rfl) (by kernel_rfl)
/-- 6530 operations. -/
theorem Tryz.frP1_4 : GoodR Tryz.prog 8 32 [.pointer (some ⟨715, 0, none⟩), .int .u8 102, .string ⟨⟨[122, 49, 50]⟩⟩] (Tryz.gB :: Tryz.fBP1) (.string ⟨⟨[110, 111, 110, 101]⟩⟩) := goodR_of Tryz.env8_ok (n := 40) (m := 716) (by kernel_rfl) (by kernel_rfl) (by kernel_rfl)
/-- 5731 operations. -/
theorem Tryz.frP1_5 : GoodR Tryz.prog 8 32 [.pointer (some ⟨715, 0, none⟩), .int .u8 102, .string ⟨⟨[97, 98]⟩⟩] (Tryz.gB :: Tryz.fBP1) (.string ⟨⟨[110, 111, 110, 101]⟩⟩) := goodR_of Tryz.env8_ok (n := 40) (m := 716) (by kernel_rfl) (by kernel_rfl) (by kernel_rfl)
/-- 5731 operations. -/
theorem Tryz.frP1_6 : GoodR Tryz.prog 8 32 [.pointer (some ⟨715, 0, none⟩), .int .u8 102, .string ⟨⟨[98, 97]⟩⟩] (Tryz.gB :: Tryz.fBP1) (.string ⟨⟨[110, 111, 110, 101]⟩⟩) := goodR_of Tryz.env8_ok (n := 40) (m := 716) (by kernel_rfl) (by kernel_rfl) (by kernel_rfl)
/-- 3267 operations. -/
theorem Tryz.frP1_7 : GoodR Tryz.prog 8 32 [.pointer (some ⟨715, 0, none⟩), .int .u8 99, .string ⟨⟨[]⟩⟩] (Tryz.gB :: Tryz.fBP1) (.string ⟨⟨[110, 111]⟩⟩) := goodR_of Tryz.env8_ok (n := 40) (m := 716) (by kernel_rfl) (by kernel_rfl) (by kernel_rfl)
/-- 4337 operations. -/
theorem Tryz.frP1_8 : GoodR Tryz.prog 8 32 [.pointer (some ⟨715, 0, none⟩), .int .u8 99, .string ⟨⟨[97]⟩⟩] (Tryz.gB :: Tryz.fBP1) (.string ⟨⟨[110, 111]⟩⟩) := goodR_of Tryz.env8_ok (n := 40) (m := 716) (by kernel_rfl) (by kernel_rfl) (by kernel_rfl)
/-- 5911 operations. -/
theorem Tryz.frP1_9 : GoodR Tryz.prog 8 32 [.pointer (some ⟨715, 0, none⟩), .int .u8 99, .string ⟨⟨[99, 99, 98, 100]⟩⟩] (Tryz.gB :: Tryz.fBP1) (.string ⟨⟨[121, 101, 115]⟩⟩) := goodR_of Tryz.env8_ok (n := 40) (m := 716) (by kernel_rfl) (by kernel_rfl) (by kernel_rfl)
/-- 5479 operations. -/
theorem Tryz.frP1_10 : GoodR Tryz.prog 8 32 [.pointer (some ⟨715, 0, none⟩), .int .u8 99, .string ⟨⟨[120, 121]⟩⟩] (Tryz.gB :: Tryz.fBP1) (.string ⟨⟨[110, 111]⟩⟩) := goodR_of Tryz.env8_ok (n := 40) (m := 716) (by kernel_rfl) (by kernel_rfl) (by kernel_rfl)
/-- 6513 operations. -/
theorem Tryz.frP1_11 : GoodR Tryz.prog 8 32 [.pointer (some ⟨715, 0, none⟩), .int .u8 99, .string ⟨⟨[122, 49, 50]⟩⟩] (Tryz.gB :: Tryz.fBP1) (.string ⟨⟨[110, 111]⟩⟩) := goodR_of Tryz.env8_ok (n := 40) (m := 716) (by kernel_rfl) (by kernel_rfl) (by kernel_rfl)
/-- 5714 operations. -/
theorem Tryz.frP1_12 : GoodR Tryz.prog 8 32 [.pointer (some ⟨715, 0, none⟩), .int .u8 99, .string ⟨⟨[97, 98]⟩⟩] (Tryz.gB :: Tryz.fBP1) (.string ⟨⟨[110, 111]⟩⟩) := goodR_of Tryz.env8_ok (n := 40) (m := 716) (by kernel_rfl) (by kernel_rfl) (by kernel_rfl)
/-- 5714 operations. -/
theorem Tryz.frP1_13 : GoodR Tryz.prog 8 32 [.pointer (some ⟨715, 0, none⟩), .int .u8 99, .string ⟨⟨[98, 97]⟩⟩] (Tryz.gB :: Tryz.fBP1) (.string ⟨⟨[110, 111]⟩⟩) := goodR_of Tryz.env8_ok (n := 40) (m := 716) (by kernel_rfl) (by kernel_rfl) (by kernel_rfl)
/-- 5634 operations. -/
theorem Tryz.frP1_14 : GoodR Tryz.prog 8 32 [.pointer (some ⟨715, 0, none⟩), .int .u8 118, .string ⟨⟨[]⟩⟩] (Tryz.gB :: Tryz.fBP1) (.string ⟨⟨[121, 101, 115]⟩⟩) := goodR_of Tryz.env8_ok (n := 40) (m := 716) (by kernel_rfl) (by kernel_rfl) (by kernel_rfl)
/-- 7540 operations. -/
theorem Tryz.frP1_15 : GoodR Tryz.prog 8 32 [.pointer (some ⟨715, 0, none⟩), .int .u8 118, .string ⟨⟨[97]⟩⟩] (Tryz.gB :: Tryz.fBP1) (.string ⟨⟨[121, 101, 115]⟩⟩) := goodR_of Tryz.env8_ok (n := 40) (m := 716) (by kernel_rfl) (by kernel_rfl) (by kernel_rfl)
/-- 12119 operations. -/
theorem Tryz.frP1_16 : GoodR Tryz.prog 8 32 [.pointer (some ⟨715, 0, none⟩), .int .u8 118, .string ⟨⟨[99, 99, 98, 100]⟩⟩] (Tryz.gB :: Tryz.fBP1) (.string ⟨⟨[121, 101, 115]⟩⟩) := goodR_of Tryz.env8_ok (n := 40) (m := 716) (by kernel_rfl) (by kernel_rfl) (by kernel_rfl)
/-- 9542 operations. -/
theorem Tryz.frP1_17 : GoodR Tryz.prog 8 32 [.pointer (some ⟨715, 0, none⟩), .int .u8 118, .string ⟨⟨[120, 121]⟩⟩] (Tryz.gB :: Tryz.fBP1) (.string ⟨⟨[121, 101, 115]⟩⟩) := goodR_of Tryz.env8_ok (n := 40) (m := 716) (by kernel_rfl) (by kernel_rfl) (by kernel_rfl)
/-- 11400 operations. -/
theorem Tryz.frP1_18 : GoodR Tryz.prog 8 32 [.pointer (some ⟨715, 0, none⟩), .int .u8 118, .string ⟨⟨[122, 49, 50]⟩⟩] (Tryz.gB :: Tryz.fBP1) (.string ⟨⟨[121, 101, 115]⟩⟩) := goodR_of Tryz.env8_ok (n := 40) (m := 716) (by kernel_rfl) (by kernel_rfl) (by kernel_rfl)
/-- 9900 operations. -/
theorem Tryz.frP1_19 : GoodR Tryz.prog 8 32 [.pointer (some ⟨715, 0, none⟩), .int .u8 118, .string ⟨⟨[97, 98]⟩⟩] (Tryz.gB :: Tryz.fBP1) (.string ⟨⟨[121, 101, 115]⟩⟩) := goodR_of Tryz.env8_ok (n := 40) (m := 716) (by kernel_rfl) (by kernel_rfl) (by kernel_rfl)
/-- 9900 operations. -/
theorem Tryz.frP1_20 : GoodR Tryz.prog 8 32 [.pointer (some ⟨715, 0, none⟩), .int .u8 118, .string ⟨⟨[98, 97]⟩⟩] (Tryz.gB :: Tryz.fBP1) (.string ⟨⟨[121, 101, 115]⟩⟩) := goodR_of Tryz.env8_ok (n := 40) (m := 716) (by kernel_rfl) (by kernel_rfl) (by kernel_rfl)
/-- 988 operations. -/
theorem Tryz.frT1_0 : GoodR Tryz.prog 8 32 [.pointer (some ⟨296, 0, none⟩), .int .u8 99, .string ⟨⟨[]⟩⟩] (Tryz.gB :: Tryz.fBT1) (.string ⟨⟨[110, 111]⟩⟩) := goodR_of Tryz.env8_ok (n := 40) (m := 297) (by kernel_rfl) (by kernel_rfl) (by kernel_rfl)
/-- 1138 operations. -/
theorem Tryz.frT1_1 : GoodR Tryz.prog 8 32 [.pointer (some ⟨296, 0, none⟩), .int .u8 99, .string ⟨⟨[97]⟩⟩] (Tryz.gB :: Tryz.fBT1) (.string ⟨⟨[110, 111]⟩⟩) := goodR_of Tryz.env8_ok (n := 40) (m := 297) (by kernel_rfl) (by kernel_rfl) (by kernel_rfl)
/-- 1607 operations. -/
theorem Tryz.frT1_2 : GoodR Tryz.prog 8 32 [.pointer (some ⟨296, 0, none⟩), .int .u8 99, .string ⟨⟨[99, 99, 98, 100]⟩⟩] (Tryz.gB :: Tryz.fBT1) (.string ⟨⟨[121, 101, 115]⟩⟩) := goodR_of Tryz.env8_ok (n := 40) (m := 297) (by kernel_rfl) (by kernel_rfl) (by kernel_rfl)
/-- 1332 operations. -/
theorem Tryz.frT1_3 : GoodR Tryz.prog 8 32 [.pointer (some ⟨296, 0, none⟩), .int .u8 99, .string ⟨⟨[120, 121]⟩⟩] (Tryz.gB :: Tryz.fBT1) (.string ⟨⟨[110, 111]⟩⟩) := goodR_of Tryz.env8_ok (n := 40) (m := 297) (by kernel_rfl) (by kernel_rfl) (by kernel_rfl)
/-- 1460 operations. -/
theorem Tryz.frT1_4 : GoodR Tryz.prog 8 32 [.pointer (some ⟨296, 0, none⟩), .int .u8 99, .string ⟨⟨[122, 49, 50]⟩⟩] (Tryz.gB :: Tryz.fBT1) (.string ⟨⟨[110, 111]⟩⟩) := goodR_of Tryz.env8_ok (n := 40) (m := 297) (by kernel_rfl) (by kernel_rfl) (by kernel_rfl)
/-- 1288 operations. -/
theorem Tryz.frT1_5 : GoodR Tryz.prog 8 32 [.pointer (some ⟨296, 0, none⟩), .int .u8 99, .string ⟨⟨[97, 98]⟩⟩] (Tryz.gB :: Tryz.fBT1) (.string ⟨⟨[110, 111]⟩⟩) := goodR_of Tryz.env8_ok (n := 40) (m := 297) (by kernel_rfl) (by kernel_rfl) (by kernel_rfl)
/-- 1288 operations. -/
theorem Tryz.frT1_6 : GoodR Tryz.prog 8 32 [.pointer (some ⟨296, 0, none⟩), .int .u8 99, .string ⟨⟨[98, 97]⟩⟩] (Tryz.gB :: Tryz.fBT1) (.string ⟨⟨[110, 111]⟩⟩) := goodR_of Tryz.env8_ok (n := 40) (m := 297) (by kernel_rfl) (by kernel_rfl) (by kernel_rfl)
/-- 1456 operations. -/
theorem Tryz.frT1_7 : GoodR Tryz.prog 8 32 [.pointer (some ⟨296, 0, none⟩), .int .u8 118, .string ⟨⟨[]⟩⟩] (Tryz.gB :: Tryz.fBT1) (.string ⟨⟨[121, 101, 115]⟩⟩) := goodR_of Tryz.env8_ok (n := 40) (m := 297) (by kernel_rfl) (by kernel_rfl) (by kernel_rfl)
/-- 1665 operations. -/
theorem Tryz.frT1_8 : GoodR Tryz.prog 8 32 [.pointer (some ⟨296, 0, none⟩), .int .u8 118, .string ⟨⟨[97]⟩⟩] (Tryz.gB :: Tryz.fBT1) (.string ⟨⟨[121, 101, 115]⟩⟩) := goodR_of Tryz.env8_ok (n := 40) (m := 297) (by kernel_rfl) (by kernel_rfl) (by kernel_rfl)
/-- 2441 operations. -/
theorem Tryz.frT1_9 : GoodR Tryz.prog 8 32 [.pointer (some ⟨296, 0, none⟩), .int .u8 118, .string ⟨⟨[99, 99, 98, 100]⟩⟩] (Tryz.gB :: Tryz.fBT1) (.string ⟨⟨[121, 101, 115]⟩⟩) := goodR_of Tryz.env8_ok (n := 40) (m := 297) (by kernel_rfl) (by kernel_rfl) (by kernel_rfl)
/-- 2020 operations. -/
theorem Tryz.frT1_10 : GoodR Tryz.prog 8 32 [.pointer (some ⟨296, 0, none⟩), .int .u8 118, .string ⟨⟨[120, 121]⟩⟩] (Tryz.gB :: Tryz.fBT1) (.string ⟨⟨[121, 101, 115]⟩⟩) := goodR_of Tryz.env8_ok (n := 40) (m := 297) (by kernel_rfl) (by kernel_rfl) (by kernel_rfl)
/-- 2156 operations. -/
theorem Tryz.frT1_11 : GoodR Tryz.prog 8 32 [.pointer (some ⟨296, 0, none⟩), .int .u8 118, .string ⟨⟨[122, 49, 50]⟩⟩] (Tryz.gB :: Tryz.fBT1) (.string ⟨⟨[121, 101, 115]⟩⟩) := goodR_of Tryz.env8_ok (n := 40) (m := 297) (by kernel_rfl) (by kernel_rfl) (by kernel_rfl)
/-- 1890 operations. -/
theorem Tryz.frT1_12 : GoodR Tryz.prog 8 32 [.pointer (some ⟨296, 0, none⟩), .int .u8 118, .string ⟨⟨[97, 98]⟩⟩] (Tryz.gB :: Tryz.fBT1) (.string ⟨⟨[121, 101, 115]⟩⟩) := goodR_of Tryz.env8_ok (n := 40) (m := 297) (by kernel_rfl) (by kernel_rfl) (by kernel_rfl)
/-- 1890 operations. -/
theorem Tryz.frT1_13 : GoodR Tryz.prog 8 32 [.pointer (some ⟨296, 0, none⟩), .int .u8 118, .string ⟨⟨[98, 97]⟩⟩] (Tryz.gB :: Tryz.fBT1) (.string ⟨⟨[121, 101, 115]⟩⟩) := goodR_of Tryz.env8_ok (n := 40) (m := 297) (by kernel_rfl) (by kernel_rfl) (by kernel_rfl)
end Go.Wx
end PFndR1
