/- ScriptFinds: whatever the pattern and the text, it answers true and leaves its arguments as they were: the tied card of the given row, under the row's own conditions alone. -/
import Derived.Test.YtadmacldbhgijaaGreatDoorPfO
import Derived.Test.YtadmacldbhgijaaGreatDoorPfP
import Derived.Deep.DeepHandedRow
import Derived.JoinedCond
import Derived.Lib.LaidU8
/- ScriptFinds: for every pattern of the list and every text of it the statement is true; the arguments read as they did. Card of the given row. -/
section PFndRow
namespace Go.Proofs.YtadmacldbhgijaaGreatDoor
open Go.ChangeShapes Go.WideShapes Go.ChangeAt Go.RowKit
set_option linter.unusedVariables false
def pow10Z : List Int := [1, 10, 100, 1000, 10000, 100000, 1000000, 10000000, 100000000, 1000000000, 10000000000, 100000000000, 1000000000000, 10000000000000, 100000000000000, 1000000000000000, 10000000000000000, 100000000000000000, 1000000000000000000, 10000000000000000000]
theorem g1_size : 1 < Tryz.prog.globals.size := of_decide_eq_true (by kernel_rfl)
theorem g1_row : ((begin Tryz.prog (fun _ _ => 0) default).world.heap[1]?).bind Obj.row? = some (Array.replicate 20 (.int .u64 0), 340) := by kernel_rfl
theorem g1_name : Tryz.prog.globalNamed "internal/strconv.uint64pow10" = some 1 := by kernel_rfl
theorem g1_type : (Tryz.prog.globals[1]?).map (·.type) = some 340 := by kernel_rfl
theorem g1_arr : ∃ e, Tryz.prog.underlying 340 = some (.array 20 e) ∧ Tryz.prog.underlying e = some (.int .u64) ∧ Tryz.prog.cellsOf e = 1 := ⟨151, by kernel_rfl, by kernel_rfl, by kernel_rfl⟩
theorem g1_cells : Tryz.prog.cellsOf 340 = 20 := by kernel_rfl
set_option maxRecDepth 100000 in
theorem g1_mem : (("internal/strconv.uint64pow10", Rows.laid_internal_strconv_uint64pow10) : String × DataW Unit) ∈ Rows.scriptFindsRow.laid := List.mem_of_getElem? (i := 2) rfl
set_option maxRecDepth 100000 in
theorem g1_data : (Rows.laid_internal_strconv_uint64pow10 : DataW Unit) = .agg (pow10Z.map fun z => .lit (.int .u64 z)) := rfl
theorem pow_laid {W : World} (h : laidMetH Tryz.prog Rows.scriptFindsRow.laid W) (hs : W.ShapedOpen Tryz.prog) : W.heap[1]? = some (.cells Go.Wx.Tryz.pow10.toArray 340 (0, 0)) := by
  obtain ⟨cs, h1, -, -⟩ := hs.1 1 _ 340 g1_size g1_row
  rw [MakeChecks.laidMetH_plain _ _ _ (by kernel_rfl)] at h
  obtain ⟨g, t, cs', fuel, p, e1, e2, e3, e4⟩ := Go.Lib.laidMet.reads h g1_mem
  rw [g1_name] at e1
  cases e1
  rw [g1_type] at e2
  cases e2
  unfold World.var? at e3
  rw [g1_name] at e3
  simp only [Option.bind_some, h1] at e3
  cases e3
  obtain ⟨e, ht, he, hce⟩ := g1_arr
  rw [g1_data] at e4
  have := Go.Lib.cells_of_tab ht he hce g1_cells e4
  rw [h1]
  have hc : cs = Go.Wx.Tryz.pow10.toArray := by
    rw [← Array.toList_inj, this]
    rfl
  rw [hc]
set_option maxRecDepth 100000 in
theorem wit6_laid (os : Os) (args : Array Value) : laidMetH Tryz.prog Rows.scriptFindsRow.laid ((World.laidAll Tryz.prog os Rows.scriptFindsRow.laid).forCall (fun _ _ => 0) ⟨#[], args, []⟩).memory := by
  rw [MakeChecks.laidMetH_plain _ _ _ (by kernel_rfl)]
  exact laidMet_laidAll _ (by kernel_rfl) (by kernel_rfl)
theorem wit6_shaped (os : Os) (args : Array Value) : ((World.laidAll Tryz.prog os Rows.scriptFindsRow.laid).forCall (fun _ _ => 0) ⟨#[], args, []⟩).Shaped Tryz.prog := World.shaped_of_ZipB (by kernel_rfl) (by kernel_rfl)
theorem wit6_ok (os : Os) : Input.okWideB Tryz.prog ((World.laidAll Tryz.prog os Rows.scriptFindsRow.laid).forCall (fun _ _ => 0) ⟨#[], #[.int .u8 0, .int .u8 0], []⟩) 6 ⟨#[], #[.int .u8 0, .int .u8 0], []⟩ = true := by kernel_rfl
theorem wit6_reads (os : Os) {H : Type} (enc : TypeId × Value → H) : ∃ places, DataW.whole enc Tryz.prog ((World.laidAll Tryz.prog os Rows.scriptFindsRow.laid).forCall (fun _ _ => 0) ⟨#[], #[.int .u8 0, .int .u8 0], []⟩).memory Tryz.f6.params.toList (OpenSpec.ofChange Rows.scriptFindsSpec).vars false #[Value.int .u8 0, Value.int .u8 0].toList 8 = some ([.lit (.int .u8 0), .lit (.int .u8 0)], [], places) :=
  ⟨[], by kernel_rfl⟩
set_option maxRecDepth 100000 in
theorem lifted6 (os : Os) (started : os.Started) (H : Type) (enc : TypeId × Value → H) (F : Stop.Interp) :
    ReturnsInHanded {} Tryz.checked os 6 .any ((OpenSpec.ofChange Rows.scriptFindsSpec).preRow enc Tryz.prog Tryz.f6 Rows.scriptFindsRow.domain false Rows.scriptFindsRow.laid) (((OpenSpec.ofChange Rows.scriptFindsSpec).at F).post enc Tryz.prog Tryz.f6 false true false false) := by
  obtain ⟨places, hx⟩ := wit6_reads os enc
  refine returnsInHanded_of_row (C := Tryz.checked) (s := OpenSpec.ofChange Rows.scriptFindsSpec) own6 started k6_noInit Tryz.func6
    ⟨World.laidAll Tryz.prog os Rows.scriptFindsRow.laid, fun _ _ => 0, ⟨#[], #[.int .u8 0, .int .u8 0], []⟩, World.laidAll_os _ _ _, wit6_shaped os _, (Input.okWide_of_okWideB (base := 0) (wit6_ok os)).1, (Input.okWide_of_okWideB (wit6_ok os)).2,
      OpenSpec.preRow_of_cond 8 hx (by kernel_rfl) (fun k hk => by cases hk) (by kernel_rfl) (wit6_laid os _), by
        simp only [Assume.holds]
        exact ⟨by simp, by simp, fun _ => Modest.zero, by simp, by simp⟩⟩ ?_
  intro W base args ds gs before hval0 hW _ _ hZ hL hsh _
  have hval : ∀ (j : Nat) t v, Tryz.f6.params[j]? = some t → args[j]? = some v → Value.okWide Tryz.prog W .any base t v := hval0
  have hW' := hW
  obtain ⟨p, q, hA0, hV, rfl, _, _⟩ := hW
  have hA : DataW.TrodAll enc Tryz.prog W 0 (fun _ => true) true Tryz.f6.params.toList args.toList ds p := hA0
  rw [Tryz.params6] at hA hval
  obtain ⟨v0, vs0, d0, ds0, p0, q0, hargs, rfl, rfl, h0, r0⟩ := trodAll_cons hA
  obtain ⟨v1, vs1, d1, ds1, p1, q1, rfl, rfl, rfl, h1, r1⟩ := trodAll_cons r0
  obtain ⟨rfl, rfl, rfl⟩ := trodAll_nil r1
  obtain rfl : args = #[v0, v1] := by cases args; simp_all
  obtain ⟨rfl, rfl⟩ := trodVars_none hV
  obtain ⟨a0, rfl, rfl, rfl, w0⟩ := open_int Tryz.underlying5 (hval 0 5 v0 rfl rfl) h0
  obtain ⟨a1, rfl, rfl, rfl, w1⟩ := open_int Tryz.underlying5 (hval 1 5 v1 rfl rfl) h1
  clear hA0 hval0
  simp only [List.append_nil] at hW'
  have hx0 : 0 ≤ a0 ∧ a0 ≤ 255 := by simpa [Lit.wf, IntKind.min, IntKind.max, IntKind.signed, IntKind.bits] using w0
  have hx1 : 0 ≤ a1 ∧ a1 ≤ 255 := by simpa [Lit.wf, IntKind.min, IntKind.max, IntKind.signed, IntKind.bits] using w1
  refine (Go.Wx.Tryz.fi_walk hx0.1 hx1.1 (pow_laid hL hsh)).mono fun e W' ⟨he, hg⟩ => ?_
  subst he
  exact ⟨_, rfl, _, _, _, [], [], [], hW', trodAll_mk1 (shut_bool Tryz.underlying4 _), trodAll_cons_mk (shut_int Tryz.underlying5 w0) (trodAll_cons_mk (shut_int Tryz.underlying5 w1) trodAll_mk0), rfl, hg.frame _, fun h => by cases h⟩
theorem said6 : Rows.ScriptFindsSaid :=
  OpenClaim.holds_of_cond 6 Tryz.f6 rfl rfl rfl rfl rfl rfl rfl ⟨rfl, rfl, rfl, rfl, rfl⟩ rfl rfl rfl rfl rfl k6_name Tryz.func6 k6_joined
    k6_inst k6_wrap
    (fun os started H enc _ F => by rw [OpenClaim.pre_eq_preRow]; exact lifted6 os started H enc F)
theorem plain6 (f : FuncId) (fn : Func) (hf : Tryz.pinned.checked.prog.funcNamed "waxwork/waxworklaw22.ScriptFinds" = some f) (hfn : Tryz.pinned.checked.prog.funcs[f]? = some fn) :
    true = Tryz.pinned.checked.prog.looks [] ∧ ∀ (j : Nat) t, fn.params[j]? = some t → Tryz.pinned.checked.prog.wantsStandIn t = false := by
  obtain rfl : f = 6 := Option.some.inj (k6_name.symm.trans hf) |>.symm
  obtain rfl : fn = Tryz.f6 := (Option.some.inj (Tryz.func6.symm.trans hfn)).symm
  refine ⟨c_looks, fun j t ht => ?_⟩
  rw [Tryz.params6] at ht
  have hm : t ∈ [5, 5] := by simpa using Array.mem_of_getElem? ht
  have hm : t ∈ [5] := by simpa using hm
  exact (show Tryz.prog.wantsStandIn t = false by simpa using List.all_eq_true.1 k6_wants t hm)
/-- The statement. -/
theorem findsCard : Rows.ScriptFindsCardSaid :=
  Claim7.holds_tied_plain_at .later [] _ _ _ _ said6 (fun _ h => by cases h) k6_text (fun _ h => by cases h) scriptFinds_row_tie rfl ⟨rfl, rfl⟩ c_main rfl plain6 k6_goes
end Go.Proofs.YtadmacldbhgijaaGreatDoor
end PFndRow
