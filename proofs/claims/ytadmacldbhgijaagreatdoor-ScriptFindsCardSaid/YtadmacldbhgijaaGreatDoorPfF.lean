/- The examples of the chapter hold: the function examples answers true, whatever the world. -/
import Derived.Test.YtadmacldbhgijaaGreatDoorPfE
/- Proved calls with flat arguments and a flat result: the kernel has run them. -/
noncomputable section POrcA
set_option linter.unusedVariables false
set_option maxRecDepth 1000000
namespace Go.Wx
open Go.RowKit Go.Proofs
/-- 90 waxwork/script.Hex: operations, function. -/
theorem Tryz.oa0 : Good Tryz.prog 9 [.string ⟨⟨[10]⟩⟩] (.string ⟨⟨[48, 97]⟩⟩) := good_of Tryz.nil_ok rfl (n := 40) (by kernel_rfl) (by kernel_rfl) (by kernel_rfl)
/-- 827 waxwork/pattern.Program: operations, function. -/
theorem Tryz.oa1 : Good Tryz.prog 12 [.string ⟨⟨[97, 41]⟩⟩] (.agg #[.string ⟨⟨[]⟩⟩, .int .i64 1, .int .i64 2, .int .i64 0]) := good_of Tryz.nil_ok rfl (n := 40) (by kernel_rfl) (by kernel_rfl) (by kernel_rfl)
/-- 4959 waxwork/seal.Blob: operations, function. -/
theorem Tryz.oa2 : Good Tryz.prog 36 [.string ⟨⟨[87, 88, 84, 4, 5, 4, 0, 97, 1, 1, 5, 13, 3, 0, 1, 0, 0, 0, 1, 2, 0, 2, 2, 2, 2, 6, 4, 3, 0, 0, 1, 0, 45, 40, 1, 163]⟩⟩] (.tuple #[.int .i64 2, .int .i64 0]) := good_of Tryz.nil_ok rfl (n := 40) (by kernel_rfl) (by kernel_rfl) (by kernel_rfl)
/-- 12136 waxwork/pattern.Table: operations, function. -/
theorem Tryz.oa3 : Good Tryz.prog 30 [.string ⟨⟨[97, 98]⟩⟩] (.agg #[.string ⟨⟨[87, 88, 84, 4, 5, 4, 0, 97, 1, 1, 5, 13, 3, 0, 1, 0, 0, 0, 1, 2, 0, 2, 2, 2, 2, 6, 4, 3, 0, 0, 1, 0, 45, 40, 1, 163]⟩⟩, .int .i64 2, .int .i64 0, .int .i64 0]) := good_of Tryz.nil_ok rfl (n := 40) (by kernel_rfl) (by kernel_rfl) (by kernel_rfl)
/-- 9979 waxwork/seal.Blob: operations, function. -/
theorem Tryz.oa4 : Good Tryz.prog 36 [.string ⟨⟨[87, 88, 80, 1, 1, 2, 2, 7, 2, 1, 97, 0, 1, 98, 0, 3, 45, 11, 4, 1, 0, 0, 4, 2, 0, 2, 2, 3, 5, 0, 1, 4, 0, 0, 3, 2, 0, 0, 4, 6, 0, 3, 4, 7, 0, 4, 1, 8, 0, 1, 4, 9, 0, 5, 4, 10, 0, 1, 0, 0, 0, 0, 0, 0, 127, 63, 2, 119]⟩⟩] (.tuple #[.int .i64 1, .int .i64 0]) := good_of Tryz.nil_ok rfl (n := 40) (by kernel_rfl) (by kernel_rfl) (by kernel_rfl)
/-- 12228 waxwork/pattern.Program: operations, function. -/
theorem Tryz.oa5 : Good Tryz.prog 12 [.string ⟨⟨[40, 97, 42, 41, 40, 98, 41]⟩⟩] (.agg #[.string ⟨⟨[87, 88, 80, 1, 1, 2, 2, 7, 2, 1, 97, 0, 1, 98, 0, 3, 45, 11, 4, 1, 0, 0, 4, 2, 0, 2, 2, 3, 5, 0, 1, 4, 0, 0, 3, 2, 0, 0, 4, 6, 0, 3, 4, 7, 0, 4, 1, 8, 0, 1, 4, 9, 0, 5, 4, 10, 0, 1, 0, 0, 0, 0, 0, 0, 127, 63, 2, 119]⟩⟩, .int .i64 7, .int .i64 0, .int .i64 2]) := good_of Tryz.nil_ok rfl (n := 40) (by kernel_rfl) (by kernel_rfl) (by kernel_rfl)
def Tryz.oaT : Tbl := [(9, [([.string ⟨⟨[10]⟩⟩], .string ⟨⟨[48, 97]⟩⟩)]), (12, [([.string ⟨⟨[97, 41]⟩⟩], .agg #[.string ⟨⟨[]⟩⟩, .int .i64 1, .int .i64 2, .int .i64 0]), ([.string ⟨⟨[40, 97, 42, 41, 40, 98, 41]⟩⟩], .agg #[.string ⟨⟨[87, 88, 80, 1, 1, 2, 2, 7, 2, 1, 97, 0, 1, 98, 0, 3, 45, 11, 4, 1, 0, 0, 4, 2, 0, 2, 2, 3, 5, 0, 1, 4, 0, 0, 3, 2, 0, 0, 4, 6, 0, 3, 4, 7, 0, 4, 1, 8, 0, 1, 4, 9, 0, 5, 4, 10, 0, 1, 0, 0, 0, 0, 0, 0, 127, 63, 2, 119]⟩⟩, .int .i64 7, .int .i64 0, .int .i64 2])]), (36, [([.string ⟨⟨[87, 88, 84, 4, 5, 4, 0, 97, 1, 1, 5, 13, 3, 0, 1, 0, 0, 0, 1, 2, 0, 2, 2, 2, 2, 6, 4, 3, 0, 0, 1, 0, 45, 40, 1, 163]⟩⟩], .tuple #[.int .i64 2, .int .i64 0]), ([.string ⟨⟨[87, 88, 80, 1, 1, 2, 2, 7, 2, 1, 97, 0, 1, 98, 0, 3, 45, 11, 4, 1, 0, 0, 4, 2, 0, 2, 2, 3, 5, 0, 1, 4, 0, 0, 3, 2, 0, 0, 4, 6, 0, 3, 4, 7, 0, 4, 1, 8, 0, 1, 4, 9, 0, 5, 4, 10, 0, 1, 0, 0, 0, 0, 0, 0, 127, 63, 2, 119]⟩⟩], .tuple #[.int .i64 1, .int .i64 0])]), (30, [([.string ⟨⟨[97, 98]⟩⟩], .agg #[.string ⟨⟨[87, 88, 84, 4, 5, 4, 0, 97, 1, 1, 5, 13, 3, 0, 1, 0, 0, 0, 1, 2, 0, 2, 2, 2, 2, 6, 4, 3, 0, 0, 1, 0, 45, 40, 1, 163]⟩⟩, .int .i64 2, .int .i64 0, .int .i64 0])])]
theorem Tryz.oaT_ok : ∀ x ∈ Tryz.oaT, ∀ y ∈ x.2, Good Tryz.prog x.1 y.1 y.2 := by
  intro x hx y hy
  unfold Tryz.oaT at hx
  simp only [List.mem_cons, List.not_mem_nil, or_false] at hx
  rcases hx with rfl | rfl | rfl | rfl
  · simp only [List.mem_cons, List.not_mem_nil, or_false] at hy
    rcases hy with rfl
    exact Tryz.oa0
  · simp only [List.mem_cons, List.not_mem_nil, or_false] at hy
    rcases hy with rfl | rfl
    · exact Tryz.oa1
    · exact Tryz.oa5
  · simp only [List.mem_cons, List.not_mem_nil, or_false] at hy
    rcases hy with rfl | rfl
    · exact Tryz.oa2
    · exact Tryz.oa4
  · simp only [List.mem_cons, List.not_mem_nil, or_false] at hy
    rcases hy with rfl
    exact Tryz.oa3
end Go.Wx
end POrcA
/- examples() of chapter 22 is true: the kernel has run it. -/
noncomputable section PExA
set_option linter.unusedVariables false
set_option maxRecDepth 1000000
namespace Go.Wx
open Go.RowKit Go.Proofs
theorem Tryz.ex : Good Tryz.prog 8 [] (.bool true) := good_of (Tryz.env_ok Tryz.oaT_ok) rfl (n := 40) (by kernel_rfl) (by kernel_rfl) (by kernel_rfl)
end Go.Wx
end PExA
