/- ScriptErrors: if the evaluator says true of a line and a rest, so does the program. -/
import Derived.Test.YtadmacldbhgijaaGreatDoorPkE
import Derived.Test.YtadmacldbhgijaaGreatDoorPkF
import Derived.KernelRfl
/- ScriptErrors: what the kernel runs, the rest a variable. -/
noncomputable section PErrA
set_option linter.unusedVariables false
set_option linter.unusedSimpArgs false
set_option maxRecDepth 1000000
namespace Go.Wx
open Go.RowKit Go.Proofs
noncomputable def Tryz.erT : Tbl := (8, [([], .bool true)]) :: Tryz.oaT
theorem Tryz.erT_ok : ∀ x ∈ Tryz.erT, ∀ y ∈ x.2, Good Tryz.prog x.1 y.1 y.2 := by
  intro x hx y hy
  rcases List.mem_cons.1 hx with rfl | hx
  · simp only [List.mem_cons, List.not_mem_nil, or_false] at hy
    subst hy
    exact Tryz.ex
  · exact Tryz.oaT_ok x hx y hy
noncomputable def Tryz.erE : Env := Tryz.env Tryz.erT
noncomputable def Tryz.erC : CallF := evCall Tryz.erE 39
noncomputable def bodyC (f : Func) : Code := match f.body with
  | some c => c
  | none => .skip
noncomputable def regOps : Code → Array Oper
  | .region _ ops _ => ops
  | _ => #[]
noncomputable def Tryz.er10 : Array Oper := regOps (firstC (tailC 8 (bodyC Tryz.f7)))
abbrev RunR := Option (Ex × Tm × St)
noncomputable def Tryz.er1 (k : Nat) (l : List UInt8) : RunR := match frontE Tryz.prog 0 Tryz.erC 8 (bodyC Tryz.f7) (tm0 [.int .u8 k, .string ⟨⟨l⟩⟩] 67) st0 with
  | some (.norm, tm, st) => evOps Tryz.prog 0 Tryz.erC true Tryz.er10 (Tryz.er10.toList.take 7) tm st
  | _ => none
noncomputable def Tryz.er2 (r : RunR) : RunR := match r with
  | some (.norm, tm, st) => (match tm.get 32, tm.get 33 with
    | .string a, .string b => (match Nat.ble a.data.toList.length 1000 with
      | true => (match evOps Tryz.prog 0 Tryz.erC true Tryz.er10 (Tryz.er10.toList.drop 8) (tm.put (some 34) (.string ⟨⟨a.data.toList ++ b.data.toList⟩⟩)) st with
        | some (.norm, tm2, st2) => evCode Tryz.prog 0 Tryz.erC false (nextC (tailC 8 (bodyC Tryz.f7))) tm2 st2
        | _ => none)
      | false => none)
    | _, _ => none)
  | _ => none
noncomputable def Tryz.erB (r : RunR) : Value := match r with
  | some (_, tm, _) => tm.get 33
  | none => undef
noncomputable def Tryz.erOk (r : RunR) : Bool := match r with
  | some (.ret, tm, _) => (match tm.ds, tm.get 4 with
    | [], .bool true => true
    | _, _ => false)
  | _ => false
noncomputable def Tryz.chk (k : Nat) (l : List UInt8) : Bool := Tryz.erOk (Tryz.er2 (Tryz.er1 k l))
end Go.Wx
end PErrA
/- ScriptErrors: what the kernel ran is what the program does. -/
noncomputable section PErrB
set_option linter.unusedVariables false
set_option linter.unusedSimpArgs false
set_option maxRecDepth 100000
namespace Go.Wx
open Go.RowKit Go.Proofs
theorem Tryz.er_ok : Tryz.erE.Ok := Tryz.env_ok Tryz.erT_ok
theorem Tryz.er_call : CallOk Tryz.prog 0 Tryz.erC := evCall_ok Tryz.er_ok 39
theorem Tryz.body7 : Tryz.f7.body = some (bodyC Tryz.f7) := by kernel_rfl
theorem Tryz.res7 : Tryz.f7.results = #[.tmp 4] := by kernel_rfl
theorem Tryz.tail7 : tailC 8 (bodyC Tryz.f7) = .seq (.region 10 Tryz.er10 false) (nextC (tailC 8 (bodyC Tryz.f7))) := by kernel_rfl
theorem Tryz.size10 : Tryz.er10.size = 10 := by kernel_rfl
noncomputable def Tryz.er10o : Oper := (Tryz.er10[7]?).getD default
theorem Tryz.er10_at : Tryz.er10[7]? = some Tryz.er10o := by kernel_rfl
theorem Tryz.er10_g : Tryz.er10o.guard = none := by kernel_rfl
theorem Tryz.er10_op : Tryz.er10o.op = .binOp .add 9 (.tmp 32) (.tmp 33) 9 := by kernel_rfl
theorem Tryz.er10_d : Tryz.er10o.dst = some 34 := by kernel_rfl
theorem Tryz.er_sound {k : Nat} {l : List UInt8} (h : Tryz.chk k l = true) (hbB : Tryz.erB (Tryz.er1 k l) = .string ⟨⟨l⟩⟩) (hl : l.length ≤ 1152921504606846976) (w : World) :
    Calls Tryz.prog 7 #[.int .u8 k, .string ⟨⟨l⟩⟩] w fun e w' => e = .returned (.bool true) ∧ Below w.heap.size w w' := by
  unfold Tryz.chk at h
  cases h1 : Tryz.er1 k l with
  | none => rw [h1] at h; cases h
  | some res =>
    obtain ⟨x, tm, st⟩ := res
    rw [h1] at h hbB
    unfold Tryz.er2 at h
    cases x <;> dsimp only at h <;> try (cases h; done)
    have hb33 : tm.get 33 = .string ⟨⟨l⟩⟩ := hbB
    rw [hb33] at h
    generalize ha32 : tm.get 32 = v32 at h
    cases v32 <;> dsimp only at h <;> try (cases h; done)
    rename_i s
    cases hsz : Nat.ble s.data.toList.length 1000 with
    | false => rw [hsz] at h; cases h
    | true =>
      rw [hsz] at h
      dsimp only at h
      have hs1000 : s.data.toList.length ≤ 1000 := by rwa [Nat.ble_eq] at hsz
      generalize hev : evOps Tryz.prog 0 Tryz.erC true Tryz.er10 (Tryz.er10.toList.drop 8) (tm.put (some 34) (.string ⟨⟨s.data.toList ++ l⟩⟩)) st = r2 at h
      cases r2 with
      | none => cases h
      | some r2 =>
        obtain ⟨x2, tm2, st2⟩ := r2
        cases x2 <;> dsimp only at h <;> try (cases h; done)
        generalize hrest : nextC (tailC 8 (bodyC Tryz.f7)) = rest at h
        generalize hev4 : evCode Tryz.prog 0 Tryz.erC false rest tm2 st2 = r4 at h
        unfold Tryz.erOk at h
        cases r4 with
        | none => cases h
        | some r4 =>
          obtain ⟨x4, tm4, st4⟩ := r4
          cases x4 <;> dsimp only at h <;> try (cases h; done)
          have hds : tm4.ds = [] ∧ tm4.get 4 = .bool true := by
            split at h
            · exact ⟨by assumption, by assumption⟩
            · cases h
          unfold Tryz.er1 at h1
          generalize hf : frontE Tryz.prog 0 Tryz.erC 8 (bodyC Tryz.f7) (tm0 [.int .u8 k, .string ⟨⟨l⟩⟩] 67) st0 = r1 at h1
          cases r1 with
          | none => cases h1
          | some r1 =>
            obtain ⟨x1, tm1, st1⟩ := r1
            cases x1 <;> dsimp only at h1 <;> try (cases h1; done)
            have hA : VRs (fun _ => none) [.int .u8 k, .string ⟨⟨l⟩⟩] [.int .u8 k, .string ⟨⟨l⟩⟩] := .cons (.flat rfl) (.cons (.flat rfl) .nil)
            have hT0 := tm0_TR hA (n := 67) (show max 67 2 ≤ bigN by decide)
            refine Calls.mono (R := CallR Tryz.prog 0 (fun _ => none) st0 w (.ret (.bool true)) st4) (callsIn_fw.1 (callsIn_of_wp_marks (F := fw none) (n := 0) Tryz.func7 Tryz.body7 trivial ?_)) ?_
            · rw [Tryz.ntmps7]
              refine frontE_sound Tryz.er_call Tryz.mixed 8 _ _ _ _ _ _ hf (fun _ => none) w _ (RR.start Tryz.prog w) hT0 .nil (Stp.refl _ _ _) fun M1 w1 a1 hR1 hT1 hD1 hS1 => ?_
              rw [Tryz.tail7, hrest]
              refine wpIn_seq (wpIn_mono (Q := QS Tryz.prog 0 (fun _ => none) st0 w .norm tm2 st2) (wpIn_region ?_) ?_)
              · rw [Tryz.size10, List.range_eq_range']
                have hlen : (Tryz.er10.toList.take 7).length = 7 := by rw [List.length_take, Array.length_toList, Tryz.size10]; rfl
                have := evOps_part Tryz.er_call Tryz.er10 (M0 := fun _ => none) (st0 := st0) (w0 := w) (Q := QS Tryz.prog 0 (fun _ => none) st0 w .norm tm2 st2) 3 (Tryz.er10.toList.take 7) 0 tm1 st1 tm st (fun i o hi => by
                  rw [Nat.zero_add, ← Array.getElem?_toList]
                  rw [List.getElem?_take] at hi
                  split at hi
                  · exact hi
                  · cases hi) h1 M1 w1 a1 hR1 hT1 hD1 hS1 (fun M2 w2 a2 hR2 hT2 hD2 hS2 => by
                  rw [hlen]
                  have e32 := (ha32 ▸ hT2.get 32).string
                  have e33 := (hb33 ▸ hT2.get 33).string
                  refine concat_op (k := 7) (m := 2) (s := s) (u := ⟨⟨l⟩⟩) Tryz.er10_at Tryz.er10_g Tryz.er10_op e32 e33 ?_ ?_
                  · have e1 : s.size = s.data.toList.length := by rw [Array.length_toList]; rfl
                    have e2 : (⟨⟨l⟩⟩ : ByteArray).size = l.length := rfl
                    omega
                  · have hl2 : (Tryz.er10.toList.drop 8).length = 2 := by rw [List.length_drop, Array.length_toList, Tryz.size10]
                    have := evOps_sound Tryz.er_call (ro := true) (r := none) (fun _ => rfl) Tryz.er10 (M0 := fun _ => none) (st0 := st0) (w0 := w) (Tryz.er10.toList.drop 8) 8 rfl M2 st w2 _ (a2.put Tryz.er10o.dst (.string ⟨⟨s.data.toList ++ l⟩⟩)) hev hR2 (by rw [Tryz.er10_d]; exact hT2.put (some 34) (.flat rfl)) (hD2.put _ _ _) hS2
                    rw [hl2] at this
                    exact this)
                rw [hlen] at this
                exact this
              · rintro e a3 w3 ⟨M3, q1, q2, q3, q4, q5⟩
                cases e <;> first | (cases q1; done) | skip
                refine wpIn_mono ((evC_sound (r := none) Tryz.er_call Tryz.mixed (fun _ => rfl) rest).1 tm2 st2 .ret tm4 st4 hev4 M3 w3 a3 q3 q2 q5) ?_
                rintro e a4 w4 ⟨M4, p1, p2, p3, p4, p5⟩
                cases e <;> first | (cases p1; done) | skip
                refine leaveE_sound Tryz.er_ok (rec := Tryz.erC) Tryz.er_call (fn := Tryz.f7) tm4.ds .ret st4 M4 w4 a4.defers .returning ?_ p3 p2 p5 (q4.trans p4) .ret
                rw [hds.1]
                show (match resL Tryz.prog st4 tm4 Tryz.f7.results.toList with
                  | some vs => some (Res.ret (tupE vs), st4)
                  | none => none) = _
                rw [Tryz.res7]
                simp only [resL, resE, hds.2]
                rfl
            · rintro e w' ⟨M', q1, q2, q3⟩
              cases e with
              | returned v' =>
                have : v' = .bool true := VR.bool q1
                refine ⟨by rw [this], ⟨q3.os, q3.tape, q3.output, q3.size, fun b hb => ?_⟩⟩
                rcases q3.frame b hb with e | ⟨i, L, e, _⟩
                · exact e
                · cases e
              | panicked c => cases q1
              | outgrown => cases q1
end Go.Wx
end PErrB
