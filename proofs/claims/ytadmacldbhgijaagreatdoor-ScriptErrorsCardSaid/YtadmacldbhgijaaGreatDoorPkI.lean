/- ScriptErrors: the evaluator says true of the lines 128 to 255, whatever the rest. -/
import Derived.Test.YtadmacldbhgijaaGreatDoorPkG
import Derived.KernelRfl
/- ScriptErrors: the lines 128 to 159, the rest a variable. -/
noncomputable section PErrC4
set_option maxRecDepth 1000000
namespace Go.Wx
open Go.RowKit Go.Proofs
theorem Tryz.erc4 (l : List UInt8) : (List.range' 128 32).map (fun k => (Tryz.chk k l, Tryz.erB (Tryz.er1 k l))) = List.replicate 32 (true, .string ⟨⟨l⟩⟩) := by kernel_rfl
end Go.Wx
end PErrC4
/- ScriptErrors: the lines 160 to 191, the rest a variable. -/
noncomputable section PErrC5
set_option maxRecDepth 1000000
namespace Go.Wx
open Go.RowKit Go.Proofs
theorem Tryz.erc5 (l : List UInt8) : (List.range' 160 32).map (fun k => (Tryz.chk k l, Tryz.erB (Tryz.er1 k l))) = List.replicate 32 (true, .string ⟨⟨l⟩⟩) := by kernel_rfl
end Go.Wx
end PErrC5
/- ScriptErrors: the lines 192 to 223, the rest a variable. -/
noncomputable section PErrC6
set_option maxRecDepth 1000000
namespace Go.Wx
open Go.RowKit Go.Proofs
theorem Tryz.erc6 (l : List UInt8) : (List.range' 192 32).map (fun k => (Tryz.chk k l, Tryz.erB (Tryz.er1 k l))) = List.replicate 32 (true, .string ⟨⟨l⟩⟩) := by kernel_rfl
end Go.Wx
end PErrC6
/- ScriptErrors: the lines 224 to 255, the rest a variable. -/
noncomputable section PErrC7
set_option maxRecDepth 1000000
namespace Go.Wx
open Go.RowKit Go.Proofs
theorem Tryz.erc7 (l : List UInt8) : (List.range' 224 32).map (fun k => (Tryz.chk k l, Tryz.erB (Tryz.er1 k l))) = List.replicate 32 (true, .string ⟨⟨l⟩⟩) := by kernel_rfl
end Go.Wx
end PErrC7
