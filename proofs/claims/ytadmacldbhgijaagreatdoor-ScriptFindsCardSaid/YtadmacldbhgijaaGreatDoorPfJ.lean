/- ScriptFinds: what pattern.Table tells of the five patterns; what handle.Load makes of the five programs. -/
import Derived.Test.YtadmacldbhgijaaGreatDoorPfH
/- ScriptFinds: proved calls with flat arguments and a flat result. -/
noncomputable section PFndFT
set_option linter.unusedVariables false
set_option maxRecDepth 1000000
namespace Go.Wx
open Go.RowKit Go.Proofs
/-- 6519 operations. -/
theorem Tryz.ffT0 : Good Tryz.prog 30 [.string ⟨⟨[97]⟩⟩] (.agg #[.string ⟨⟨[87, 88, 84, 4, 4, 3, 0, 97, 1, 5, 7, 2, 0, 1, 0, 1, 1, 1, 6, 3, 2, 0, 1, 0, 31, 229, 1, 143]⟩⟩, .int .i64 1, .int .i64 0, .int .i64 0]) := good_of Tryz.nil_ok rfl (n := 40) (by kernel_rfl) (by kernel_rfl) (by kernel_rfl)
/-- 18737 operations. -/
theorem Tryz.ffT1 : Good Tryz.prog 30 [.string ⟨⟨[40, 98, 124, 99, 41, 42, 100]⟩⟩] (.agg #[.string ⟨⟨[87, 88, 84, 4, 6, 5, 0, 98, 1, 1, 1, 5, 11, 2, 0, 0, 0, 1, 0, 1, 1, 1, 1, 1, 6, 3, 2, 0, 1, 0, 0, 0, 45, 0, 1, 156]⟩⟩, .int .i64 7, .int .i64 0, .int .i64 0]) := good_of Tryz.nil_ok rfl (n := 40) (by kernel_rfl) (by kernel_rfl) (by kernel_rfl)
/-- 11607 operations. -/
theorem Tryz.ffT2 : Good Tryz.prog 30 [.string ⟨⟨[120, 63, 121]⟩⟩] (.agg #[.string ⟨⟨[87, 88, 84, 4, 5, 4, 0, 120, 1, 1, 5, 9, 2, 0, 0, 1, 0, 1, 1, 1, 1, 6, 3, 2, 0, 1, 0, 0, 40, 54, 1, 172]⟩⟩, .int .i64 3, .int .i64 0, .int .i64 0]) := good_of Tryz.nil_ok rfl (n := 40) (by kernel_rfl) (by kernel_rfl) (by kernel_rfl)
/-- 7244 operations. -/
theorem Tryz.ffT3 : Good Tryz.prog 30 [.string ⟨⟨[92, 100, 43]⟩⟩] (.agg #[.string ⟨⟨[87, 88, 84, 4, 4, 3, 0, 48, 10, 5, 7, 2, 0, 1, 0, 1, 1, 1, 6, 3, 2, 0, 1, 0, 29, 52, 1, 103]⟩⟩, .int .i64 3, .int .i64 0, .int .i64 0]) := good_of Tryz.nil_ok rfl (n := 40) (by kernel_rfl) (by kernel_rfl) (by kernel_rfl)
/-- 13397 operations. -/
theorem Tryz.ffT4 : Good Tryz.prog 30 [.string ⟨⟨[40, 97, 41, 40, 98, 41, 63]⟩⟩] (.agg #[.string ⟨⟨[87, 88, 84, 4, 5, 4, 0, 97, 1, 1, 5, 9, 2, 0, 1, 0, 0, 1, 1, 1, 1, 6, 3, 2, 0, 1, 0, 0, 38, 84, 1, 149]⟩⟩, .int .i64 7, .int .i64 0, .int .i64 0]) := good_of Tryz.nil_ok rfl (n := 40) (by kernel_rfl) (by kernel_rfl) (by kernel_rfl)
end Go.Wx
end PFndFT
/- ScriptFinds: what handle.Load makes. -/
noncomputable section PFndMP
set_option linter.unusedVariables false
set_option maxRecDepth 1000000
namespace Go.Wx
open Go.RowKit Go.Proofs
/-- 10520 operations. -/
theorem Tryz.fmP0 : GoodM Tryz.prog 8 18 [.string ⟨⟨[87, 88, 80, 1, 1, 0, 2, 4, 1, 1, 97, 0, 3, 17, 4, 4, 1, 0, 0, 1, 2, 0, 0, 4, 3, 0, 1, 0, 0, 0, 0, 0, 42, 224, 1, 147]⟩⟩] (.tuple #[.pointer (some ⟨315, 0, none⟩), .int .i64 0]) Tryz.fBP0 316 := goodM_of Tryz.env8_ok (n := 40) (by kernel_rfl) (by kernel_rfl) (by show 8 ≤ bigN; decide)
/-- 24370 operations. -/
theorem Tryz.fmP1 : GoodM Tryz.prog 8 18 [.string ⟨⟨[87, 88, 80, 1, 1, 1, 2, 10, 3, 1, 98, 0, 1, 99, 0, 1, 100, 0, 3, 49, 12, 4, 1, 0, 0, 2, 2, 9, 0, 4, 3, 0, 2, 2, 4, 6, 0, 1, 5, 0, 0, 3, 7, 0, 0, 1, 7, 0, 1, 4, 8, 0, 3, 3, 1, 0, 0, 1, 10, 0, 2, 4, 11, 0, 1, 0, 0, 0, 0, 0, 0, 0, 170, 82, 2, 238]⟩⟩] (.tuple #[.pointer (some ⟨715, 0, none⟩), .int .i64 0]) Tryz.fBP1 716 := goodM_of Tryz.env8_ok (n := 40) (by kernel_rfl) (by kernel_rfl) (by show 8 ≤ bigN; decide)
/-- 14528 operations. -/
theorem Tryz.fmP2 : GoodM Tryz.prog 8 18 [.string ⟨⟨[87, 88, 80, 1, 1, 0, 2, 7, 2, 1, 120, 0, 1, 121, 0, 3, 25, 6, 4, 1, 0, 0, 2, 2, 3, 0, 1, 3, 0, 0, 1, 4, 0, 1, 4, 5, 0, 1, 0, 0, 0, 0, 0, 0, 81, 128, 2, 66]⟩⟩] (.tuple #[.pointer (some ⟨430, 0, none⟩), .int .i64 0]) Tryz.fBP2 431 := goodM_of Tryz.env8_ok (n := 40) (by kernel_rfl) (by kernel_rfl) (by show 8 ≤ bigN; decide)
/-- 11954 operations. -/
theorem Tryz.fmP3 : GoodM Tryz.prog 8 18 [.string ⟨⟨[87, 88, 80, 1, 1, 0, 2, 4, 1, 1, 48, 9, 3, 21, 5, 4, 1, 0, 0, 1, 2, 0, 0, 2, 1, 3, 0, 4, 4, 0, 1, 0, 0, 0, 0, 0, 45, 180, 1, 119]⟩⟩] (.tuple #[.pointer (some ⟨356, 0, none⟩), .int .i64 0]) Tryz.fBP3 357 := goodM_of Tryz.env8_ok (n := 40) (by kernel_rfl) (by kernel_rfl) (by show 8 ≤ bigN; decide)
/-- 20408 operations. -/
theorem Tryz.fmP4 : GoodM Tryz.prog 8 18 [.string ⟨⟨[87, 88, 80, 1, 1, 2, 2, 7, 2, 1, 97, 0, 1, 98, 0, 3, 41, 10, 4, 1, 0, 0, 4, 2, 0, 2, 1, 3, 0, 0, 4, 4, 0, 3, 2, 5, 8, 0, 4, 6, 0, 4, 1, 7, 0, 1, 4, 8, 0, 5, 4, 9, 0, 1, 0, 0, 0, 0, 0, 0, 116, 255, 2, 107]⟩⟩] (.tuple #[.pointer (some ⟨606, 0, none⟩), .int .i64 0]) Tryz.fBP4 607 := goodM_of Tryz.env8_ok (n := 40) (by kernel_rfl) (by kernel_rfl) (by show 8 ≤ bigN; decide)
end Go.Wx
end PFndMP
