/- ScriptHex: for every text, place and byte whose bulk is at most 1048576 it answers true and leaves its arguments as they were: the tied card of the given second row, under the row's own conditions alone. -/
import Derived.Test.YtadmacldbhgijaaGreatDoorPhG
import Derived.Test.YtadmacldbhgijaaGreatDoorPhH
import Derived.Deep.DeepHandedRow
import Derived.JoinedCond
/- ScriptHex: for every text, place and byte, whose bulk is at most 1048576, the statement is true and the arguments read as they did. Card of the given second row. -/
section PHexRow
namespace Go.Proofs.YtadmacldbhgijaaGreatDoor
open Go.ChangeShapes Go.WideShapes Go.ChangeAt Go.RowKit
open Go.ChangeMaps (open_string shut_string)
set_option linter.unusedVariables false
set_option maxRecDepth 100000 in
theorem wit3_laid (os : Os) (args : Array Value) : laidMetH Tryz.prog Rows.scriptHexUptoRow.laid ((World.laidAll Tryz.prog os Rows.scriptHexUptoRow.laid).forCall (fun _ _ => 0) ⟨#[], args, []⟩).memory := by
  rw [MakeChecks.laidMetH_plain _ _ _ (by kernel_rfl)]
  exact laidMet_laidAll _ (by kernel_rfl) (by kernel_rfl)
theorem wit3_shaped (os : Os) (args : Array Value) : ((World.laidAll Tryz.prog os Rows.scriptHexUptoRow.laid).forCall (fun _ _ => 0) ⟨#[], args, []⟩).Shaped Tryz.prog := World.shaped_of_ZipB (by kernel_rfl) (by kernel_rfl)
theorem wit3_ok (os : Os) : Input.okWideB Tryz.prog ((World.laidAll Tryz.prog os Rows.scriptHexUptoRow.laid).forCall (fun _ _ => 0) ⟨#[], #[.string ⟨#[]⟩, .int .u16 0, .int .u8 0], []⟩) 3 ⟨#[], #[.string ⟨#[]⟩, .int .u16 0, .int .u8 0], []⟩ = true := by kernel_rfl
theorem wit3_reads (os : Os) {H : Type} (enc : TypeId × Value → H) : ∃ places, DataW.whole enc Tryz.prog ((World.laidAll Tryz.prog os Rows.scriptHexUptoRow.laid).forCall (fun _ _ => 0) ⟨#[], #[.string ⟨#[]⟩, .int .u16 0, .int .u8 0], []⟩).memory Tryz.f3.params.toList (Rows.OpenSpec.upto Rows.scriptHexSpec).vars false #[Value.string ⟨#[]⟩, Value.int .u16 0, Value.int .u8 0].toList 8 = some ([.lit (.string []), .lit (.int .u16 0), .lit (.int .u8 0)], [], places) :=
  ⟨[], by kernel_rfl⟩
set_option maxRecDepth 100000 in
theorem lifted3 (os : Os) (started : os.Started) (H : Type) (enc : TypeId × Value → H) (F : Stop.Interp) :
    ReturnsInHanded {} Tryz.checked os 3 .any ((Rows.OpenSpec.upto Rows.scriptHexSpec).preRow enc Tryz.prog Tryz.f3 Rows.scriptHexUptoRow.domain false Rows.scriptHexUptoRow.laid) (((Rows.OpenSpec.upto Rows.scriptHexSpec).at F).post enc Tryz.prog Tryz.f3 false true false false) := by
  obtain ⟨places, hx⟩ := wit3_reads os enc
  refine returnsInHanded_of_row (C := Tryz.checked) (s := Rows.OpenSpec.upto Rows.scriptHexSpec) own3 started k3_noInit Tryz.func3
    ⟨World.laidAll Tryz.prog os Rows.scriptHexUptoRow.laid, fun _ _ => 0, ⟨#[], #[.string ⟨#[]⟩, .int .u16 0, .int .u8 0], []⟩, World.laidAll_os _ _ _, wit3_shaped os _, (Input.okWide_of_okWideB (base := 0) (wit3_ok os)).1, (Input.okWide_of_okWideB (wit3_ok os)).2,
      OpenSpec.preRow_of_cond 8 hx (by kernel_rfl) (fun k hk => by cases hk; kernel_rfl) (by kernel_rfl) (wit3_laid os _), by
        simp only [Assume.holds]
        exact ⟨by simp, by simp, fun _ => Modest.zero, by simp, by simp⟩⟩ ?_
  intro W base args ds gs before hval0 hW _ hcond hZ hL _ _
  have hval : ∀ (j : Nat) t v, Tryz.f3.params[j]? = some t → args[j]? = some v → Value.okWide Tryz.prog W .any base t v := hval0
  have hW' := hW
  obtain ⟨p, q, hA0, hV, rfl, _, _⟩ := hW
  have hA : DataW.TrodAll enc Tryz.prog W 0 (fun _ => true) true Tryz.f3.params.toList args.toList ds p := hA0
  rw [Tryz.params3] at hA hval
  obtain ⟨v0, vs0, d0, ds0, p0, q0, hargs, rfl, rfl, h0, r0⟩ := trodAll_cons hA
  obtain ⟨v1, vs1, d1, ds1, p1, q1, rfl, rfl, rfl, h1, r1⟩ := trodAll_cons r0
  obtain ⟨v2, vs2, d2, ds2, p2, q2, rfl, rfl, rfl, h2, r2⟩ := trodAll_cons r1
  obtain ⟨rfl, rfl, rfl⟩ := trodAll_nil r2
  obtain rfl : args = #[v0, v1, v2] := by cases args; simp_all
  obtain ⟨rfl, rfl⟩ := trodVars_none hV
  obtain ⟨s, rfl, rfl, rfl, ws⟩ := open_string Tryz.underlying9 (hval 0 9 v0 rfl rfl) h0
  obtain ⟨a1, rfl, rfl, rfl, w1⟩ := open_int Tryz.underlying22 (hval 1 22 v1 rfl rfl) h1
  obtain ⟨a2, rfl, rfl, rfl, w2⟩ := open_int Tryz.underlying5 (hval 2 5 v2 rfl rfl) h2
  clear hA0 hval0
  simp only [List.append_nil] at hW' hcond
  have hb := of_decide_eq_true (hcond _ rfl)
  simp only [Rows.uptoBulkAll, Rows.uptoBulk] at hb
  have hs : s.size ≤ 1048576 := by
    have : s.data.toList.length = s.size := by simp
    omega
  have hx1 : 0 ≤ a1 ∧ a1 ≤ 65535 := by simpa [Lit.wf, IntKind.min, IntKind.max, IntKind.signed, IntKind.bits] using w1
  have hx2 : 0 ≤ a2 ∧ a2 ≤ 255 := by simpa [Lit.wf, IntKind.min, IntKind.max, IntKind.signed, IntKind.bits] using w2
  obtain ⟨n, rfl⟩ := Int.eq_ofNat_of_zero_le hx1.1
  obtain ⟨c, rfl⟩ : ∃ c : UInt8, a2 = (c.toNat : Int) := ⟨UInt8.ofNat a2.toNat, by rw [UInt8.toNat_ofNat']; omega⟩
  refine (hexlaw_any s hs n (by omega) c W).mono fun e W' ⟨he, hg⟩ => ?_
  subst he
  exact ⟨_, rfl, _, _, _, [], [], [], hW', trodAll_mk1 (shut_bool Tryz.underlying4 _), trodAll_cons_mk (shut_string Tryz.underlying9 ws) (trodAll_cons_mk (shut_int Tryz.underlying22 w1) (trodAll_cons_mk (shut_int Tryz.underlying5 w2) trodAll_mk0)), rfl, hg.frame _, fun h => by cases h⟩
theorem said3 : Rows.ScriptHexUptoSaid :=
  OpenClaim.holds_of_cond 3 Tryz.f3 rfl rfl rfl rfl rfl rfl rfl ⟨rfl, rfl, rfl, rfl, rfl⟩ rfl rfl rfl rfl rfl k3_name Tryz.func3 k3_joined
    k3_inst k3_wrap
    (fun os started H enc _ F => by rw [OpenClaim.pre_eq_preRow]; exact lifted3 os started H enc F)
theorem plain3 (f : FuncId) (fn : Func) (hf : Tryz.pinned.checked.prog.funcNamed "waxwork/waxworklaw22.ScriptHex" = some f) (hfn : Tryz.pinned.checked.prog.funcs[f]? = some fn) :
    true = Tryz.pinned.checked.prog.looks [] ∧ ∀ (j : Nat) t, fn.params[j]? = some t → Tryz.pinned.checked.prog.wantsStandIn t = false := by
  obtain rfl : f = 3 := Option.some.inj (k3_name.symm.trans hf) |>.symm
  obtain rfl : fn = Tryz.f3 := (Option.some.inj (Tryz.func3.symm.trans hfn)).symm
  refine ⟨c_looks, fun j t ht => ?_⟩
  rw [Tryz.params3] at ht
  have hm : t ∈ [9, 22, 5] := by simpa using Array.mem_of_getElem? ht
  exact (show Tryz.prog.wantsStandIn t = false by simpa using List.all_eq_true.1 k3_wants t hm)
/-- The statement. -/
theorem hexCard : Rows.ScriptHexUptoCardSaid :=
  Claim7.holds_tied_plain_at .later [] _ _ _ _ said3 (fun _ h => by cases h) k3_text (fun _ h => by cases h) scriptHexUpto_row_tie rfl ⟨rfl, rfl⟩ c_main rfl plain3 k3_goes
end Go.Proofs.YtadmacldbhgijaaGreatDoor
end PHexRow
