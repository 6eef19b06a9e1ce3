/- ScriptFinds: the seven texts against the second pattern, run by the kernel. -/
import Derived.Test.YtadmacldbhgijaaGreatDoorPfM
/- ScriptFinds: the cases of pattern 1, run by the kernel. -/
noncomputable section PFndC1
set_option linter.unusedVariables false
set_option maxRecDepth 1000000
namespace Go.Wx
open Go.RowKit Go.Proofs
theorem Tryz.fc1_0 : Tryz.FindRuns Tryz.fE1 1 0 := ⟨fun a b => by kernel_rfl, fun a b => by kernel_rfl, fun a b => by kernel_rfl⟩
theorem Tryz.fc1_1 : Tryz.FindRuns Tryz.fE1 1 1 := ⟨fun a b => by kernel_rfl, fun a b => by kernel_rfl, fun a b => by kernel_rfl⟩
theorem Tryz.fc1_2 : Tryz.FindRuns Tryz.fE1 1 2 := ⟨fun a b => by kernel_rfl, fun a b => by kernel_rfl, fun a b => by kernel_rfl⟩
theorem Tryz.fc1_3 : Tryz.FindRuns Tryz.fE1 1 3 := ⟨fun a b => by kernel_rfl, fun a b => by kernel_rfl, fun a b => by kernel_rfl⟩
theorem Tryz.fc1_4 : Tryz.FindRuns Tryz.fE1 1 4 := ⟨fun a b => by kernel_rfl, fun a b => by kernel_rfl, fun a b => by kernel_rfl⟩
theorem Tryz.fc1_5 : Tryz.FindRuns Tryz.fE1 1 5 := ⟨fun a b => by kernel_rfl, fun a b => by kernel_rfl, fun a b => by kernel_rfl⟩
theorem Tryz.fc1_6 : Tryz.FindRuns Tryz.fE1 1 6 := ⟨fun a b => by kernel_rfl, fun a b => by kernel_rfl, fun a b => by kernel_rfl⟩
end Go.Wx
end PFndC1
