/- ScriptFinds: the seven texts against the first pattern, run by the kernel. -/
import Derived.Test.YtadmacldbhgijaaGreatDoorPfM
/- ScriptFinds: the cases of pattern 0, run by the kernel. -/
noncomputable section PFndC0
set_option linter.unusedVariables false
set_option maxRecDepth 1000000
namespace Go.Wx
open Go.RowKit Go.Proofs
theorem Tryz.fc0_0 : Tryz.FindRuns Tryz.fE0 0 0 := ⟨fun a b => by kernel_rfl, fun a b => by kernel_rfl, fun a b => by kernel_rfl⟩
theorem Tryz.fc0_1 : Tryz.FindRuns Tryz.fE0 0 1 := ⟨fun a b => by kernel_rfl, fun a b => by kernel_rfl, fun a b => by kernel_rfl⟩
theorem Tryz.fc0_2 : Tryz.FindRuns Tryz.fE0 0 2 := ⟨fun a b => by kernel_rfl, fun a b => by kernel_rfl, fun a b => by kernel_rfl⟩
theorem Tryz.fc0_3 : Tryz.FindRuns Tryz.fE0 0 3 := ⟨fun a b => by kernel_rfl, fun a b => by kernel_rfl, fun a b => by kernel_rfl⟩
theorem Tryz.fc0_4 : Tryz.FindRuns Tryz.fE0 0 4 := ⟨fun a b => by kernel_rfl, fun a b => by kernel_rfl, fun a b => by kernel_rfl⟩
theorem Tryz.fc0_5 : Tryz.FindRuns Tryz.fE0 0 5 := ⟨fun a b => by kernel_rfl, fun a b => by kernel_rfl, fun a b => by kernel_rfl⟩
theorem Tryz.fc0_6 : Tryz.FindRuns Tryz.fE0 0 6 := ⟨fun a b => by kernel_rfl, fun a b => by kernel_rfl, fun a b => by kernel_rfl⟩
end Go.Wx
end PFndC0
