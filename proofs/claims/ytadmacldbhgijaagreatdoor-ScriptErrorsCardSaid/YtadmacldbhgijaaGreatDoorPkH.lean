/- ScriptErrors: the evaluator says true of the lines 0 to 127, whatever the rest. -/
import Derived.Test.YtadmacldbhgijaaGreatDoorPkG
import Derived.KernelRfl
/- ScriptErrors: the lines 0 to 31, the rest a variable. -/
noncomputable section PErrC0
set_option maxRecDepth 1000000
namespace Go.Wx
open Go.RowKit Go.Proofs
theorem Tryz.erc0 (l : List UInt8) : (List.range' 0 32).map (fun k => (Tryz.chk k l, Tryz.erB (Tryz.er1 k l))) = List.replicate 32 (true, .string ⟨⟨l⟩⟩) := by kernel_rfl
end Go.Wx
end PErrC0
/- ScriptErrors: the lines 32 to 63, the rest a variable. -/
noncomputable section PErrC1
set_option maxRecDepth 1000000
namespace Go.Wx
open Go.RowKit Go.Proofs
theorem Tryz.erc1 (l : List UInt8) : (List.range' 32 32).map (fun k => (Tryz.chk k l, Tryz.erB (Tryz.er1 k l))) = List.replicate 32 (true, .string ⟨⟨l⟩⟩) := by kernel_rfl
end Go.Wx
end PErrC1
/- ScriptErrors: the lines 64 to 95, the rest a variable. -/
noncomputable section PErrC2
set_option maxRecDepth 1000000
namespace Go.Wx
open Go.RowKit Go.Proofs
theorem Tryz.erc2 (l : List UInt8) : (List.range' 64 32).map (fun k => (Tryz.chk k l, Tryz.erB (Tryz.er1 k l))) = List.replicate 32 (true, .string ⟨⟨l⟩⟩) := by kernel_rfl
end Go.Wx
end PErrC2
/- ScriptErrors: the lines 96 to 127, the rest a variable. -/
noncomputable section PErrC3
set_option maxRecDepth 1000000
namespace Go.Wx
open Go.RowKit Go.Proofs
theorem Tryz.erc3 (l : List UInt8) : (List.range' 96 32).map (fun k => (Tryz.chk k l, Tryz.erB (Tryz.er1 k l))) = List.replicate 32 (true, .string ⟨⟨l⟩⟩) := by kernel_rfl
end Go.Wx
end PErrC3
