/- ScriptFinds: the seven texts against the fifth pattern, run by the kernel. -/
import Derived.Test.YtadmacldbhgijaaGreatDoorPfM
/- ScriptFinds: the cases of pattern 4, run by the kernel. -/
noncomputable section PFndC4
set_option linter.unusedVariables false
set_option maxRecDepth 1000000
namespace Go.Wx
open Go.RowKit Go.Proofs
theorem Tryz.fc4_0 : Tryz.FindRuns Tryz.fE4 4 0 := ⟨fun a b => by kernel_rfl, fun a b => by kernel_rfl, fun a b => by kernel_rfl⟩
theorem Tryz.fc4_1 : Tryz.FindRuns Tryz.fE4 4 1 := ⟨fun a b => by kernel_rfl, fun a b => by kernel_rfl, fun a b => by kernel_rfl⟩
theorem Tryz.fc4_2 : Tryz.FindRuns Tryz.fE4 4 2 := ⟨fun a b => by kernel_rfl, fun a b => by kernel_rfl, fun a b => by kernel_rfl⟩
theorem Tryz.fc4_3 : Tryz.FindRuns Tryz.fE4 4 3 := ⟨fun a b => by kernel_rfl, fun a b => by kernel_rfl, fun a b => by kernel_rfl⟩
theorem Tryz.fc4_4 : Tryz.FindRuns Tryz.fE4 4 4 := ⟨fun a b => by kernel_rfl, fun a b => by kernel_rfl, fun a b => by kernel_rfl⟩
theorem Tryz.fc4_5 : Tryz.FindRuns Tryz.fE4 4 5 := ⟨fun a b => by kernel_rfl, fun a b => by kernel_rfl, fun a b => by kernel_rfl⟩
theorem Tryz.fc4_6 : Tryz.FindRuns Tryz.fE4 4 6 := ⟨fun a b => by kernel_rfl, fun a b => by kernel_rfl, fun a b => by kernel_rfl⟩
end Go.Wx
end PFndC4
