/- ScriptFinds: what pattern.Program tells of the five patterns; what handle.Load makes of the five tables. -/
import Derived.Test.YtadmacldbhgijaaGreatDoorPfH
/- ScriptFinds: proved calls with flat arguments and a flat result. -/
noncomputable section PFndFP
set_option linter.unusedVariables false
set_option maxRecDepth 1000000
namespace Go.Wx
open Go.RowKit Go.Proofs
/-- 4209 operations. -/
theorem Tryz.ffP0 : Good Tryz.prog 12 [.string ⟨⟨[97]⟩⟩] (.agg #[.string ⟨⟨[87, 88, 80, 1, 1, 0, 2, 4, 1, 1, 97, 0, 3, 17, 4, 4, 1, 0, 0, 1, 2, 0, 0, 4, 3, 0, 1, 0, 0, 0, 0, 0, 42, 224, 1, 147]⟩⟩, .int .i64 1, .int .i64 0, .int .i64 0]) := good_of Tryz.nil_ok rfl (n := 40) (by kernel_rfl) (by kernel_rfl) (by kernel_rfl)
/-- 14138 operations. -/
theorem Tryz.ffP1 : Good Tryz.prog 12 [.string ⟨⟨[40, 98, 124, 99, 41, 42, 100]⟩⟩] (.agg #[.string ⟨⟨[87, 88, 80, 1, 1, 1, 2, 10, 3, 1, 98, 0, 1, 99, 0, 1, 100, 0, 3, 49, 12, 4, 1, 0, 0, 2, 2, 9, 0, 4, 3, 0, 2, 2, 4, 6, 0, 1, 5, 0, 0, 3, 7, 0, 0, 1, 7, 0, 1, 4, 8, 0, 3, 3, 1, 0, 0, 1, 10, 0, 2, 4, 11, 0, 1, 0, 0, 0, 0, 0, 0, 0, 170, 82, 2, 238]⟩⟩, .int .i64 7, .int .i64 0, .int .i64 1]) := good_of Tryz.nil_ok rfl (n := 40) (by kernel_rfl) (by kernel_rfl) (by kernel_rfl)
/-- 8012 operations. -/
theorem Tryz.ffP2 : Good Tryz.prog 12 [.string ⟨⟨[120, 63, 121]⟩⟩] (.agg #[.string ⟨⟨[87, 88, 80, 1, 1, 0, 2, 7, 2, 1, 120, 0, 1, 121, 0, 3, 25, 6, 4, 1, 0, 0, 2, 2, 3, 0, 1, 3, 0, 0, 1, 4, 0, 1, 4, 5, 0, 1, 0, 0, 0, 0, 0, 0, 81, 128, 2, 66]⟩⟩, .int .i64 3, .int .i64 0, .int .i64 0]) := good_of Tryz.nil_ok rfl (n := 40) (by kernel_rfl) (by kernel_rfl) (by kernel_rfl)
/-- 5184 operations. -/
theorem Tryz.ffP3 : Good Tryz.prog 12 [.string ⟨⟨[92, 100, 43]⟩⟩] (.agg #[.string ⟨⟨[87, 88, 80, 1, 1, 0, 2, 4, 1, 1, 48, 9, 3, 21, 5, 4, 1, 0, 0, 1, 2, 0, 0, 2, 1, 3, 0, 4, 4, 0, 1, 0, 0, 0, 0, 0, 45, 180, 1, 119]⟩⟩, .int .i64 3, .int .i64 0, .int .i64 0]) := good_of Tryz.nil_ok rfl (n := 40) (by kernel_rfl) (by kernel_rfl) (by kernel_rfl)
/-- 11833 operations. -/
theorem Tryz.ffP4 : Good Tryz.prog 12 [.string ⟨⟨[40, 97, 41, 40, 98, 41, 63]⟩⟩] (.agg #[.string ⟨⟨[87, 88, 80, 1, 1, 2, 2, 7, 2, 1, 97, 0, 1, 98, 0, 3, 41, 10, 4, 1, 0, 0, 4, 2, 0, 2, 1, 3, 0, 0, 4, 4, 0, 3, 2, 5, 8, 0, 4, 6, 0, 4, 1, 7, 0, 1, 4, 8, 0, 5, 4, 9, 0, 1, 0, 0, 0, 0, 0, 0, 116, 255, 2, 107]⟩⟩, .int .i64 7, .int .i64 0, .int .i64 2]) := good_of Tryz.nil_ok rfl (n := 40) (by kernel_rfl) (by kernel_rfl) (by kernel_rfl)
end Go.Wx
end PFndFP
/- ScriptFinds: what handle.Load makes. -/
noncomputable section PFndMT
set_option linter.unusedVariables false
set_option maxRecDepth 1000000
namespace Go.Wx
open Go.RowKit Go.Proofs
/-- 7758 operations. -/
theorem Tryz.fmT0 : GoodM Tryz.prog 8 18 [.string ⟨⟨[87, 88, 84, 4, 4, 3, 0, 97, 1, 5, 7, 2, 0, 1, 0, 1, 1, 1, 6, 3, 2, 0, 1, 0, 31, 229, 1, 143]⟩⟩] (.tuple #[.pointer (some ⟨236, 0, none⟩), .int .i64 0]) Tryz.fBT0 237 := goodM_of Tryz.env8_ok (n := 40) (by kernel_rfl) (by kernel_rfl) (by show 8 ≤ bigN; decide)
/-- 10020 operations. -/
theorem Tryz.fmT1 : GoodM Tryz.prog 8 18 [.string ⟨⟨[87, 88, 84, 4, 6, 5, 0, 98, 1, 1, 1, 5, 11, 2, 0, 0, 0, 1, 0, 1, 1, 1, 1, 1, 6, 3, 2, 0, 1, 0, 0, 0, 45, 0, 1, 156]⟩⟩] (.tuple #[.pointer (some ⟨296, 0, none⟩), .int .i64 0]) Tryz.fBT1 297 := goodM_of Tryz.env8_ok (n := 40) (by kernel_rfl) (by kernel_rfl) (by show 8 ≤ bigN; decide)
/-- 8889 operations. -/
theorem Tryz.fmT2 : GoodM Tryz.prog 8 18 [.string ⟨⟨[87, 88, 84, 4, 5, 4, 0, 120, 1, 1, 5, 9, 2, 0, 0, 1, 0, 1, 1, 1, 1, 6, 3, 2, 0, 1, 0, 0, 40, 54, 1, 172]⟩⟩] (.tuple #[.pointer (some ⟨266, 0, none⟩), .int .i64 0]) Tryz.fBT2 267 := goodM_of Tryz.env8_ok (n := 40) (by kernel_rfl) (by kernel_rfl) (by show 8 ≤ bigN; decide)
/-- 7758 operations. -/
theorem Tryz.fmT3 : GoodM Tryz.prog 8 18 [.string ⟨⟨[87, 88, 84, 4, 4, 3, 0, 48, 10, 5, 7, 2, 0, 1, 0, 1, 1, 1, 6, 3, 2, 0, 1, 0, 29, 52, 1, 103]⟩⟩] (.tuple #[.pointer (some ⟨236, 0, none⟩), .int .i64 0]) Tryz.fBT3 237 := goodM_of Tryz.env8_ok (n := 40) (by kernel_rfl) (by kernel_rfl) (by show 8 ≤ bigN; decide)
/-- 8889 operations. -/
theorem Tryz.fmT4 : GoodM Tryz.prog 8 18 [.string ⟨⟨[87, 88, 84, 4, 5, 4, 0, 97, 1, 1, 5, 9, 2, 0, 1, 0, 0, 1, 1, 1, 1, 6, 3, 2, 0, 1, 0, 0, 38, 84, 1, 149]⟩⟩] (.tuple #[.pointer (some ⟨266, 0, none⟩), .int .i64 0]) Tryz.fBT4 267 := goodM_of Tryz.env8_ok (n := 40) (by kernel_rfl) (by kernel_rfl) (by show 8 ≤ bigN; decide)
end Go.Wx
end PFndMT
