/- ScriptFinds: the seven texts against the fourth pattern, run by the kernel. -/
import Derived.Test.YtadmacldbhgijaaGreatDoorPfM
/- ScriptFinds: the cases of pattern 3, run by the kernel. -/
noncomputable section PFndC3
set_option linter.unusedVariables false
set_option maxRecDepth 1000000
namespace Go.Wx
open Go.RowKit Go.Proofs
theorem Tryz.fc3_0 : Tryz.FindRuns Tryz.fE3 3 0 := ⟨fun a b => by kernel_rfl, fun a b => by kernel_rfl, fun a b => by kernel_rfl⟩
theorem Tryz.fc3_1 : Tryz.FindRuns Tryz.fE3 3 1 := ⟨fun a b => by kernel_rfl, fun a b => by kernel_rfl, fun a b => by kernel_rfl⟩
theorem Tryz.fc3_2 : Tryz.FindRuns Tryz.fE3 3 2 := ⟨fun a b => by kernel_rfl, fun a b => by kernel_rfl, fun a b => by kernel_rfl⟩
theorem Tryz.fc3_3 : Tryz.FindRuns Tryz.fE3 3 3 := ⟨fun a b => by kernel_rfl, fun a b => by kernel_rfl, fun a b => by kernel_rfl⟩
theorem Tryz.fc3_4 : Tryz.FindRuns Tryz.fE3 3 4 := ⟨fun a b => by kernel_rfl, fun a b => by kernel_rfl, fun a b => by kernel_rfl⟩
theorem Tryz.fc3_5 : Tryz.FindRuns Tryz.fE3 3 5 := ⟨fun a b => by kernel_rfl, fun a b => by kernel_rfl, fun a b => by kernel_rfl⟩
theorem Tryz.fc3_6 : Tryz.FindRuns Tryz.fE3 3 6 := ⟨fun a b => by kernel_rfl, fun a b => by kernel_rfl, fun a b => by kernel_rfl⟩
end Go.Wx
end PFndC3
