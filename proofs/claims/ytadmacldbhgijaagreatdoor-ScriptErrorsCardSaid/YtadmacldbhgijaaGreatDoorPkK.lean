/- ScriptErrors: the closed facts of its row, each by the kernel. -/
import Derived.Test.YtadmacldbhgijaaGreatDoorCards
import Derived.Test.YtadmacldbhgijaaGreatDoorTie
import Derived.WalkKit
import Derived.ProofKit
import Derived.OpenShut
import Derived.Lay
import Derived.SevenTiedAt
import Derived.SizedLaws
/- ScriptErrors: the row's closed facts, each by the kernel. -/
section PErrF
set_option maxRecDepth 100000
namespace Go.Proofs.YtadmacldbhgijaaGreatDoor
open Go.ChangeShapes Go.WideShapes Go.ChangeAt Go.RowKit
theorem c_laidOut : laidOutB Tryz.prog = true := by kernel_rfl
theorem c_mapsRowed : mapsRowed Tryz.prog = true := by kernel_rfl
theorem c_plainKeys : Tryz.prog.plainKeys = false := by kernel_rfl
theorem c_heard : Tryz.prog.stopsHeard = true := by kernel_rfl
theorem c_enter : Tryz.prog.mayEnter = true := by kernel_rfl
theorem c_lifted : (Rows.scriptErrorsRow.lifted == Tryz.prog.liftsFinal) = true := by kernel_rfl
theorem c_make : (Tryz.prog.make == some Rows.scriptErrorsRow.make) = true := by kernel_rfl
theorem c_stops : (Tryz.prog.stops == []) = true := by kernel_rfl
theorem c_knobs : (Tryz.prog.stopKnobs == []) = true := by kernel_rfl
theorem c_main : Tryz.pinned.checked.prog.mainIs = some (true, "7fa848b02abeb2cd05fdf6b44a7d0c0877fd6f266eed8a3d21edb2acefdc907b".toList) := by kernel_rfl
theorem c_looks : true = Tryz.pinned.checked.prog.looks [] := by kernel_rfl
theorem k7_name : Tryz.pinned.checked.prog.funcNamed Rows.scriptErrorsRow.func = some 7 := by kernel_rfl
theorem k7_wf : Rows.scriptErrorsRow.wf (OpenSpec.ofChange Rows.scriptErrorsSpec) = true := by kernel_rfl
theorem k7_inPlace : (Rows.scriptErrorsRow.inPlace == Tryz.prog.inPlace 7) = true := by kernel_rfl
theorem k7_unfollowed : (Rows.scriptErrorsRow.unfollowed == Tryz.prog.unfollowed 7) = true := by kernel_rfl
theorem k7_recurses : (Rows.scriptErrorsRow.recurses == Tryz.prog.recurses 7) = true := by kernel_rfl
theorem k7_named : (Rows.scriptErrorsRow.named == Tryz.prog.varsNamed 7) = true := by kernel_rfl
theorem k7_joined : joinedFacts Tryz.prog 7 Tryz.f7 Rows.scriptErrorsSpec Rows.scriptErrorsRow = true := by
  unfold joinedFacts
  rw [k7_wf, c_laidOut, c_mapsRowed, c_stops, c_knobs, k7_inPlace, k7_unfollowed, k7_recurses, k7_named, c_plainKeys, c_heard, c_enter, c_lifted, c_make]
  kernel_rfl
theorem k7_inst : Tryz.f7.isInstance Tryz.pinned.checked.prog Rows.scriptErrorsRow.origin Rows.scriptErrorsRow.targs := (of_decide_eq_true (by kernel_rfl))
theorem k7_wrap : Tryz.f7.isWrapper Tryz.pinned.checked.prog Rows.scriptErrorsRow.wrapper Rows.scriptErrorsRow.mainSum := (by unfold Func.isWrapper; first | (rw [if_pos (by decide +kernel)]; kernel_rfl) | (rw [if_neg (by decide +kernel)]; exact ⟨rfl, rfl⟩))
theorem k7_text : Rows.scriptErrorsRow.wfByText (OpenSpec.ofChange Rows.scriptErrorsSpec) = true := by kernel_rfl
theorem k7_goes : false = Rows.scriptErrorsRow.goesBy Tryz.pinned.checked.prog := by kernel_rfl
theorem k7_noInit : Tryz.prog.inits.idxOf? 7 = none := by kernel_rfl
theorem k7_wants : ([5, 9].all fun u => !Tryz.prog.wantsStandIn u) = true := by kernel_rfl
theorem own7 : ownKnob Tryz.prog.godebug = none := by kernel_rfl
end Go.Proofs.YtadmacldbhgijaaGreatDoor
end PErrF
