/- ScriptFinds: the seven texts against the third pattern, run by the kernel. -/
import Derived.Test.YtadmacldbhgijaaGreatDoorPfM
/- ScriptFinds: the cases of pattern 2, run by the kernel. -/
noncomputable section PFndC2
set_option linter.unusedVariables false
set_option maxRecDepth 1000000
namespace Go.Wx
open Go.RowKit Go.Proofs
theorem Tryz.fc2_0 : Tryz.FindRuns Tryz.fE2 2 0 := ⟨fun a b => by kernel_rfl, fun a b => by kernel_rfl, fun a b => by kernel_rfl⟩
theorem Tryz.fc2_1 : Tryz.FindRuns Tryz.fE2 2 1 := ⟨fun a b => by kernel_rfl, fun a b => by kernel_rfl, fun a b => by kernel_rfl⟩
theorem Tryz.fc2_2 : Tryz.FindRuns Tryz.fE2 2 2 := ⟨fun a b => by kernel_rfl, fun a b => by kernel_rfl, fun a b => by kernel_rfl⟩
theorem Tryz.fc2_3 : Tryz.FindRuns Tryz.fE2 2 3 := ⟨fun a b => by kernel_rfl, fun a b => by kernel_rfl, fun a b => by kernel_rfl⟩
theorem Tryz.fc2_4 : Tryz.FindRuns Tryz.fE2 2 4 := ⟨fun a b => by kernel_rfl, fun a b => by kernel_rfl, fun a b => by kernel_rfl⟩
theorem Tryz.fc2_5 : Tryz.FindRuns Tryz.fE2 2 5 := ⟨fun a b => by kernel_rfl, fun a b => by kernel_rfl, fun a b => by kernel_rfl⟩
theorem Tryz.fc2_6 : Tryz.FindRuns Tryz.fE2 2 6 := ⟨fun a b => by kernel_rfl, fun a b => by kernel_rfl, fun a b => by kernel_rfl⟩
end Go.Wx
end PFndC2
