/- ScriptHex: the closed facts of its second row, each by the kernel. -/
import Derived.Test.YtadmacldbhgijaaGreatDoorCards
import Derived.Test.YtadmacldbhgijaaGreatDoorTie
import Derived.WalkKit
import Derived.ProofKit
import Derived.OpenShut
import Derived.Lay
import Derived.SevenTiedAt
import Derived.SizedLaws
/- ScriptHex: the second row's closed facts, each by the kernel. -/
section PHexF
set_option maxRecDepth 100000
namespace Go.Proofs.YtadmacldbhgijaaGreatDoor
open Go.ChangeShapes Go.WideShapes Go.ChangeAt Go.RowKit
theorem c_laidOut : laidOutB Tryz.prog = true := by kernel_rfl
theorem c_mapsRowed : mapsRowed Tryz.prog = true := by kernel_rfl
theorem c_plainKeys : Tryz.prog.plainKeys = false := by kernel_rfl
theorem c_heard : Tryz.prog.stopsHeard = true := by kernel_rfl
theorem c_enter : Tryz.prog.mayEnter = true := by kernel_rfl
theorem c_lifted : (Rows.scriptHexUptoRow.lifted == Tryz.prog.liftsFinal) = true := by kernel_rfl
theorem c_make : (Tryz.prog.make == some Rows.scriptHexUptoRow.make) = true := by kernel_rfl
theorem c_stops : (Tryz.prog.stops == []) = true := by kernel_rfl
theorem c_knobs : (Tryz.prog.stopKnobs == []) = true := by kernel_rfl
theorem c_main : Tryz.pinned.checked.prog.mainIs = some (true, "7fa848b02abeb2cd05fdf6b44a7d0c0877fd6f266eed8a3d21edb2acefdc907b".toList) := by kernel_rfl
theorem c_looks : true = Tryz.pinned.checked.prog.looks [] := by kernel_rfl
theorem k3_name : Tryz.pinned.checked.prog.funcNamed Rows.scriptHexUptoRow.func = some 3 := by kernel_rfl
theorem k3_wf : Rows.scriptHexUptoRow.wf (OpenSpec.ofChange (Rows.OpenSpec.upto Rows.scriptHexSpec).bare) = true := by kernel_rfl
theorem k3_inPlace : (Rows.scriptHexUptoRow.inPlace == Tryz.prog.inPlace 3) = true := by kernel_rfl
theorem k3_unfollowed : (Rows.scriptHexUptoRow.unfollowed == Tryz.prog.unfollowed 3) = true := by kernel_rfl
theorem k3_recurses : (Rows.scriptHexUptoRow.recurses == Tryz.prog.recurses 3) = true := by kernel_rfl
theorem k3_named : (Rows.scriptHexUptoRow.named == Tryz.prog.varsNamed 3) = true := by kernel_rfl
theorem k3_joined : joinedFacts Tryz.prog 3 Tryz.f3 (Rows.OpenSpec.upto Rows.scriptHexSpec).bare Rows.scriptHexUptoRow = true := by
  unfold joinedFacts
  rw [k3_wf, c_laidOut, c_mapsRowed, c_stops, c_knobs, k3_inPlace, k3_unfollowed, k3_recurses, k3_named, c_plainKeys, c_heard, c_enter, c_lifted, c_make]
  kernel_rfl
theorem k3_inst : Tryz.f3.isInstance Tryz.pinned.checked.prog Rows.scriptHexUptoRow.origin Rows.scriptHexUptoRow.targs := (of_decide_eq_true (by kernel_rfl))
theorem k3_wrap : Tryz.f3.isWrapper Tryz.pinned.checked.prog Rows.scriptHexUptoRow.wrapper Rows.scriptHexUptoRow.mainSum := (by unfold Func.isWrapper; first | (rw [if_pos (by decide +kernel)]; kernel_rfl) | (rw [if_neg (by decide +kernel)]; exact ⟨rfl, rfl⟩))
theorem k3_text : Rows.scriptHexUptoRow.wfByText (Rows.OpenSpec.upto Rows.scriptHexSpec) = true := by kernel_rfl
theorem k3_goes : false = Rows.scriptHexUptoRow.goesBy Tryz.pinned.checked.prog := by kernel_rfl
theorem k3_noInit : Tryz.prog.inits.idxOf? 3 = none := by kernel_rfl
theorem k3_wants : ([9, 22, 5].all fun u => !Tryz.prog.wantsStandIn u) = true := by kernel_rfl
theorem own3 : ownKnob Tryz.prog.godebug = none := by kernel_rfl
end Go.Proofs.YtadmacldbhgijaaGreatDoor
end PHexF
