/- ScriptFinds: the closed facts of its row, each by the kernel. -/
import Derived.Test.YtadmacldbhgijaaGreatDoorCards
import Derived.Test.YtadmacldbhgijaaGreatDoorTie
import Derived.WalkKit
import Derived.ProofKit
import Derived.OpenShut
import Derived.Lay
import Derived.SevenTiedAt
import Derived.SizedLaws
/- ScriptFinds: the row's closed facts, each by the kernel. -/
section PFndF
set_option maxRecDepth 100000
namespace Go.Proofs.YtadmacldbhgijaaGreatDoor
open Go.ChangeShapes Go.WideShapes Go.ChangeAt Go.RowKit
theorem c_laidOut : laidOutB Tryz.prog = true := by kernel_rfl
theorem c_mapsRowed : mapsRowed Tryz.prog = true := by kernel_rfl
theorem c_plainKeys : Tryz.prog.plainKeys = false := by kernel_rfl
theorem c_heard : Tryz.prog.stopsHeard = true := by kernel_rfl
theorem c_enter : Tryz.prog.mayEnter = true := by kernel_rfl
theorem c_lifted : (Rows.scriptFindsRow.lifted == Tryz.prog.liftsFinal) = true := by kernel_rfl
theorem c_make : (Tryz.prog.make == some Rows.scriptFindsRow.make) = true := by kernel_rfl
theorem c_stops : (Tryz.prog.stops == []) = true := by kernel_rfl
theorem c_knobs : (Tryz.prog.stopKnobs == []) = true := by kernel_rfl
theorem c_main : Tryz.pinned.checked.prog.mainIs = some (true, "7fa848b02abeb2cd05fdf6b44a7d0c0877fd6f266eed8a3d21edb2acefdc907b".toList) := by kernel_rfl
theorem c_looks : true = Tryz.pinned.checked.prog.looks [] := by kernel_rfl
theorem k6_name : Tryz.pinned.checked.prog.funcNamed Rows.scriptFindsRow.func = some 6 := by kernel_rfl
theorem k6_wf : Rows.scriptFindsRow.wf (OpenSpec.ofChange (OpenSpec.ofChange Rows.scriptFindsSpec).bare) = true := by kernel_rfl
theorem k6_inPlace : (Rows.scriptFindsRow.inPlace == Tryz.prog.inPlace 6) = true := by kernel_rfl
theorem k6_unfollowed : (Rows.scriptFindsRow.unfollowed == Tryz.prog.unfollowed 6) = true := by kernel_rfl
theorem k6_recurses : (Rows.scriptFindsRow.recurses == Tryz.prog.recurses 6) = true := by kernel_rfl
theorem k6_named : (Rows.scriptFindsRow.named == Tryz.prog.varsNamed 6) = true := by kernel_rfl
theorem k6_joined : joinedFacts Tryz.prog 6 Tryz.f6 (OpenSpec.ofChange Rows.scriptFindsSpec).bare Rows.scriptFindsRow = true := by
  unfold joinedFacts
  rw [k6_wf, c_laidOut, c_mapsRowed, c_stops, c_knobs, k6_inPlace, k6_unfollowed, k6_recurses, k6_named, c_plainKeys, c_heard, c_enter, c_lifted, c_make]
  kernel_rfl
theorem k6_inst : Tryz.f6.isInstance Tryz.pinned.checked.prog Rows.scriptFindsRow.origin Rows.scriptFindsRow.targs := (of_decide_eq_true (by kernel_rfl))
theorem k6_wrap : Tryz.f6.isWrapper Tryz.pinned.checked.prog Rows.scriptFindsRow.wrapper Rows.scriptFindsRow.mainSum := (by unfold Func.isWrapper; first | (rw [if_pos (by decide +kernel)]; kernel_rfl) | (rw [if_neg (by decide +kernel)]; exact ⟨rfl, rfl⟩))
theorem k6_text : Rows.scriptFindsRow.wfByText (OpenSpec.ofChange Rows.scriptFindsSpec) = true := by kernel_rfl
theorem k6_goes : false = Rows.scriptFindsRow.goesBy Tryz.pinned.checked.prog := by kernel_rfl
theorem k6_noInit : Tryz.prog.inits.idxOf? 6 = none := by kernel_rfl
theorem k6_wants : ([5].all fun u => !Tryz.prog.wantsStandIn u) = true := by kernel_rfl
theorem own6 : ownKnob Tryz.prog.godebug = none := by kernel_rfl
end Go.Proofs.YtadmacldbhgijaaGreatDoor
end PFndF
