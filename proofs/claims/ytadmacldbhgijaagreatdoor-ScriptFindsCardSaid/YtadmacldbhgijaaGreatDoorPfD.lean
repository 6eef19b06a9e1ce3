/- The evaluator's regions, plain and drawn, and its loops. -/
import Derived.Test.YtadmacldbhgijaaGreatDoorPfC
import Derived.IntWalk
import Derived.Test.YtadmacldbhgijaaGreatDoorPfA
import Derived.LoopNIn
import Derived.TacticsIn
import Derived.RecoverIn
import Derived.RangeFuncLeaves
/- The evaluator: one operation, calls among them. -/
noncomputable section PEv21
set_option linter.unusedVariables false
set_option linter.unusedSimpArgs false
namespace Go.Wx
open Go.RowKit
/-- How a call ends. -/
inductive Res where
  | ret (v : Value)
  | pan (v : Value)
/-- How a code ends. -/
inductive Ex where
  | norm
  | exit (id : Nat)
  | goto (l : Nat)
  | ret
  | pan (v : Value)
/-- What is called: a function, or a round of a loop over a function. -/
inductive Cal where
  | fn (f : FuncId)
  | yld (i : Nat)
  | ent (f : FuncId)
abbrev CallF := Cal → List Value → St → Option (Res × St)
def wantE (ops : Array Oper) (o : Oper) (tm : Tm) : Bool := match o.guard with
  | none => true
  | some (j, want) => tm.yes ops j == some want
/-- The method of a type, where it is the type's own. -/
def methE (P : Program) (t : TypeId) (name : String) : Option FuncId := match P.info? t with
  | some i => match i.methods.find? (·.name == name) with
    | some m => match m.path.toList, m.func, P.underlying t with
      | [], some (f, true), some (.pointer _) => some f
      | [], some (f, false), some (.struct _) => some f
      | _, _, _ => none
    | none => none
  | none => none
/-- What a call calls: the function and all its arguments. -/
def calleeE (P : Program) (e : Operand → Option Value) (c : Call) : Option (Cal × List Value) :=
  match c.callee with
  | .value f => match e f, listO e c.args.toList with
    | some (.func (.func g) first cap), some args => some (.fn g, first.toList ++ args ++ cap.toList)
    | some (.func (.yield i) ⟨[]⟩ ⟨[]⟩), some args => some (.yld i, args)
    | _, _ => none
  | .invoke r n => match e r, listO e c.args.toList with
    | some (.iface t v), some args => (match methE P t n with
      | some f => some (.fn f, v :: args)
      | none => none)
    | _, _ => none
  | .builtin _ => none
/-- A type assertion that fails. -/
def failE (P : Program) (G : Nat) (st : St) (a : Value) (t : TypeId) : Option (Value × St) :=
  if Nat.blt st.n bigN && Nat.ble G st.n then
    match P.underlying t, P.underlying P.rt.typeAssertionError, a with
    | some (.interface _), _, _ => none
    | some _, some (.pointer _), .iface u _ => if Nat.beq u t then none else some (.iface P.rt.typeAssertionError (.pointer (some ⟨st.n, 0, none⟩)), st.new .dead)
    | _, _, _ => none
  else none
/-- One operation (a round of a loop over a function apart). -/
def opE (P : Program) (G : Nat) (call : CallF) (st : St) (e : Operand → Option Value) (op : Op) : Option (Res × St) :=
  match rdOp P st e op with
  | some (v, _) => some (.ret v, st)
  | none => match hvOp P G st e op with
    | some (v, st') => some (.ret v, st')
    | none => match op with
      | .call c => match calleeE P e c with
        | some (.fn f, args) => call (.fn f) args st
        | _ => none
      | .panic x => match e x with
        | some (.iface t v) => some (.pan (.iface t v), st)
        | _ => none
      | .typeAssert x _ t false => match e x with
        | some a => match failE P G st a t with
          | some (v, st') => some (.pan v, st')
          | none => none
        | none => none
      | _ => none
section
variable {P : Program} {M : Mp} {G : Nat} {st : St} {w w' : World}
/-- What a call leaves, soundly. -/
def ResR (M : Mp) : Res → Ending → Prop
  | .ret v, .returned v' => VR M v v'
  | .pan v, .panicked chain => ∃ v', chain = [{ v := v', recovered := false }] ∧ VR M v v'
  | _, _ => False
def CallR (P : Program) (G : Nat) (M : Mp) (st : St) (w : World) (r : Res) (st' : St) : Ending → World → Prop :=
  fun e w' => ∃ M', ResR M' r e ∧ RR P G M' st' w' ∧ Stp M st w M' st' w'
def CallOk (P : Program) (G : Nat) (call : CallF) : Prop :=
  (∀ f args st r st', call (.fn f) args st = some (r, st') → ∀ (M : Mp) (w : World) (args' : List Value), RR P G M st w → VRs M args args' →
    (∃ v v' M' w', r = .ret v ∧ (callFunc f args'.toArray).run P w = .ok (.value v') w' ∧ RR P G M' st' w' ∧ Stp M st w M' st' w' ∧ VR M' v v') ∨
    ((callFunc f args'.toArray).run P w = .ok (.enter f args'.toArray) w ∧ Calls P f args'.toArray w (CallR P G M st w r st'))) ∧
  (∀ i args st r st', call (.yld i) args st = some (r, st') → ∀ (M : Mp) (w : World) (args' : List Value) (L : Loc), RR P G M st w → VRs M args args' → M i = some L →
    ∃ f tmps assign body, (Instr.yield L.b args'.toArray).run P w = .ok (.round L.b f tmps assign body) w ∧ ∀ ro, RoundIn (fw ro) 0 P L.b f tmps assign body w (CallR P G M st w r st')) ∧
  (∀ f args st r st', call (.ent f) args st = some (r, st') → ∀ (M : Mp) (w : World) (args' : List Value), RR P G M st w → VRs M args args' →
    (callFunc f args'.toArray).run P w = .ok (.enter f args'.toArray) w ∧ Calls P f args'.toArray w (CallR P G M st w r st'))
theorem run_callMethod {t : TypeId} {name : String} {f : FuncId} (h : methE P t name = some f) (v : Value) (args : Array Value) (w : World) : (callMethod (.iface t v) name args).run P w = (callFunc f (#[v] ++ args)).run P w := by
  unfold methE at h
  split at h
  · rename_i i hi
    split at h
    · rename_i m hm
      have hti : (typeInfo t).run P w = .ok i w := by simp [typeInfo, hi]
      have hfol : m.path.toList = [] → (follow m.path.toList t (.val v)).run P w = .ok (t, .val v) w := fun e => by rw [e]; rfl
      have hp : (program).run P w = .ok P w := rfl
      unfold callMethod
      dsimp only
      rw [Sem.run_bind, hp, Result.andThen_ok, Sem.run_bind]
      obtain ⟨dd, hdd⟩ : ∃ d, P.types.size + Made.depth = d + 1 := ⟨P.types.size + 99, rfl⟩
      rw [hdd]
      unfold method
      rw [Sem.run_bind, hti, Result.andThen_ok, hm]
      dsimp only
      split at h
      · rename_i f' el hpath hfn hu
        cases h
        rw [Sem.run_bind, hfol hpath, Result.andThen_ok]
        dsimp only
        rw [hfn]
        dsimp only
        rw [Sem.run_bind]
        unfold receiverAt
        rw [Sem.run_bind, run_underlying hu, Result.andThen_ok]
        rfl
      · rename_i f' el hpath hfn hu
        cases h
        rw [Sem.run_bind, hfol hpath, Result.andThen_ok]
        dsimp only
        rw [hfn]
        dsimp only
        rw [Sem.run_bind]
        unfold receiverAt
        rw [Sem.run_bind, run_underlying hu, Result.andThen_ok]
        rfl
      · cases h
    · cases h
  · cases h
theorem calleeE_sound {e : Operand → Option Value} {ρ : Operand → Value} (he : ∀ x v, e x = some v → VR M v (ρ x)) {c : Call} {cal : Cal} {args : List Value} (h : calleeE P e c = some (cal, args)) (ty : TypeId) :
    ∃ args', VRs M args args' ∧ match cal with
      | .fn f => ∀ w, (do let d ← resolve ρ c ty; invoke d.target d.args : Sem Next).run P w = (callFunc f args'.toArray).run P w
      | .ent _ => False
      | .yld i => ∃ L, M i = some L ∧ ∀ w, (do let d ← resolve ρ c ty; invoke d.target d.args : Sem Next).run P w = (Instr.yield L.b args'.toArray).run P w := by
  obtain ⟨cal, cargs, cats⟩ := c
  unfold calleeE at h
  cases cal with
  | builtin b => cases h
  | invoke r n =>
    dsimp only at h
    split at h
    · rename_i t v as hf hl
      split at h
      · rename_i f hm
        cases h
        have hv := he _ _ hf
        have hargs := listO_sound he hl
        generalize hρ : ρ r = y at hv
        cases hv with
        | flat hh => simp [flatV] at hh
        | iface hv' =>
          rename_i v'
          refine ⟨v' :: cargs.toList.map ρ, .cons hv' hargs, fun w => ?_⟩
          rw [Sem.run_bind]
          have hr : (resolve ρ ⟨.invoke r n, cargs, cats⟩ ty).run P w = .ok ⟨.fn (.method n) #[], #[Value.iface t v'] ++ cargs.map ρ⟩ w := by
            show Result.ok _ w = _
            rw [hρ]
          rw [hr, Result.andThen_ok]
          have h0 : (#[Value.iface t v'] ++ cargs.map ρ)[0]? = some (.iface t v') := by rw [Array.getElem?_append_left (by simp)]; rfl
          unfold invoke
          dsimp only
          rw [h0]
          dsimp only
          rw [run_callMethod hm]
          congr 2
          apply Array.ext'
          simp
          exact List.take_of_length_le (by simp)
      · cases h
    · cases h
  | value fo =>
    dsimp only at h
    split at h
    · rename_i g first cap as hf hl
      cases h
      have hv := he _ _ hf
      have hargs := listO_sound he hl
      generalize hρ : ρ fo = y at hv
      cases hv with
      | flat hh => simp [flatV] at hh
      | func h0 h1 h2 =>
        rename_i first' cap'
        refine ⟨first'.toList ++ cargs.toList.map ρ ++ cap'.toList, (h1.append hargs).append h2, fun w => ?_⟩
        rw [Sem.run_bind]
        have hr : (resolve ρ ⟨.value fo, cargs, cats⟩ ty).run P w = .ok ⟨.fn (.func g) cap', first' ++ cargs.map ρ⟩ w := by
          show (Deferred.ofValue (ρ fo) (cargs.map ρ)).run P w = _
          rw [hρ]
          rfl
        rw [hr, Result.andThen_ok]
        show (callFunc g ((first' ++ cargs.map ρ) ++ cap')).run P w = _
        congr 2
        apply Array.ext'
        simp
    · rename_i i as hf hl
      cases h
      have hv := he _ _ hf
      have hargs := listO_sound he hl
      generalize hρ : ρ fo = y at hv
      cases hv with
      | flat hh => simp [flatV] at hh
      | func h0 h1 h2 => cases h0
      | yld hL =>
        rename_i L
        refine ⟨cargs.toList.map ρ, hargs, L, hL, fun w => ?_⟩
        rw [Sem.run_bind]
        have hr : (resolve ρ ⟨.value fo, cargs, cats⟩ ty).run P w = .ok ⟨.fn (.yield L.b) #[], #[] ++ cargs.map ρ⟩ w := by
          show (Deferred.ofValue (ρ fo) (cargs.map ρ)).run P w = _
          rw [hρ]
          rfl
        rw [hr, Result.andThen_ok]
        show (Instr.yield L.b (#[] ++ cargs.map ρ)).run P w = _
        congr 2
        apply Array.ext'
        simp
    · cases h
theorem failE_sound (hR : RR P G M st w) {a a' v : Value} {xt t : TypeId} {st' : St} (h : failE P G st a t = some (v, st')) (ha : VR M a a') :
    ∃ M' v' w', (Instr.typeAssert a' xt t false).run P w = .halt (.panic v') w' ∧ VR M' v v' ∧ RR P G M' st' w' ∧ Stp M st w M' st' w' := by
  unfold failE at h
  split at h
  · rename_i hc
    simp only [Bool.and_eq_true, Nat.ble_eq, Nat.blt_eq] at hc
    split at h
    · cases h
    · rename_i d el u x hni hu hrt
      split at h
      · cases h
      · rename_i hne
        cases h
        cases ha with
        | flat hf => simp [flatV] at hf
        | iface hv =>
          rename_i x'
          have hne' : u ≠ t := fun e => hne (by rw [Nat.beq_eq]; exact e)
          let L : Loc := ⟨w.heap.size, 0, 0, 1, false⟩
          have hgen : ∃ o, (Instr.typeAssert (.iface u x') xt t false).run P w = .halt (.panic (.iface P.rt.typeAssertionError (.pointer (some ⟨w.heap.size, 0, none⟩)))) (w.alloc o) := by
            unfold Instr.typeAssert
            dsimp only
            rw [Sem.run_bind, run_underlying hu, Result.andThen_ok]
            cases d <;> first | exact (hni _ rfl).elim | skip
            all_goals
              try dsimp only
              rw [if_neg hne']
              try dsimp only
              unfold runtimePanic
              have hp : (program).run P w = .ok P w := rfl
              rw [if_neg (by simp), Sem.run_bind, hp, Result.andThen_ok]
              dsimp only
              rw [Sem.run_bind]
              have hel : (elemOf P.rt.typeAssertionError).run P w = .ok el w := by
                unfold elemOf
                rw [Sem.run_bind, run_underlying hrt, Result.andThen_ok]
                rfl
              rw [hel, Result.andThen_ok]
              exact ⟨_, rfl⟩
          obtain ⟨o, hrun⟩ := hgen
          obtain ⟨h1, h2⟩ := RR.made (L := L) (ab := .dead) (o := o) hR hc.1 hc.2 rfl (fun p hp => by cases hp) trivial
          have hself : M.add st.n L st.n = some L := by unfold Mp.add; rw [if_pos rfl]
          exact ⟨M.add st.n L, _, w.alloc o, hrun, .iface (VR.ptr (off := 0) hself), h1, h2⟩
    · cases h
  · cases h
/-- Post of one operation. -/
theorem opE_sound {call : CallF} (hcall : CallOk P G call) (hR : RR P G M st w) {a : Act} {e : Operand → Option Value} (he : ∀ x v, e x = some v → VR M v (a.eval x)) {o : Oper} {r : Res} {st' : St} (h : opE P G call st e o.op = some (r, st'))
    {K : Act → World → Prop} {Q : Exit → Act → World → Prop}
    (hK : ∀ v, r = .ret v → ∀ M' v' w', VR M' v v' → RR P G M' st' w' → Stp M st w M' st' w' → K (a.put o.dst v') w')
    (hQ : ∀ v, r = .pan v → ∀ M' v' w', VR M' v v' → RR P G M' st' w' → Stp M st w M' st' w' → Q (.panic [{ v := v', recovered := false }]) a w') :
    o.wp P a w K Q ∧ ∀ c, o.op ≠ .defer c := by
  unfold opE at h
  unfold Oper.wp
  split at h
  · rename_i v rs hr
    cases h
    obtain ⟨v', hv, hrun⟩ := rdOp_sound hR he hr
    refine ⟨?_, fun c e => by rw [e] at hr; cases hr⟩
    rw [hrun w (Sm.self M w rs)]
    exact hK v rfl M v' w hv hR (.refl _ _ _)
  · split at h
    · rename_i v st1 hh
      cases h
      refine ⟨?_, fun c e => by rw [e] at hh; cases hh⟩
      obtain ⟨M', v', w', hrun, h1, h2, h3⟩ := hvOp_sound hR he hh
      rcases hrun with hrun | ⟨hu, hrun⟩
      · rw [hrun]; exact hK v rfl M' v' w' h3 h1 h2
      · subst hu
        rw [hrun]; exact hK v rfl M' undef w' h3 h1 h2
    · split at h
      · rename_i c hop
        refine ⟨?_, fun c e => by rw [hop] at e; cases e⟩
        split at h
        · rename_i f args hc
          obtain ⟨args', ha, hinv⟩ := calleeE_sound (P := P) he hc o.type
          dsimp only at hinv
          have hex : (execOp a.eval o).run P w = (callFunc f args'.toArray).run P w := by
            rw [← hinv w]
            unfold execOp
            rw [hop]
          rw [hex]
          rcases hcall.1 f args st r st' h M w args' hR ha with ⟨v, v', M', w', hr, hrun, h1, h2, h3⟩ | ⟨hrun, hcl⟩
          · rw [hrun]; exact hK v hr M' v' w' h3 h1 h2
          · rw [hrun]
            show Calls P f args'.toArray w _
            refine hcl.mono fun e0 w' hres => ?_
            obtain ⟨M', hres, h1, h2⟩ := hres
            cases r with
            | ret v =>
              cases e0 with
              | returned v' => exact hK v rfl M' v' w' hres h1 h2
              | panicked c => cases hres
              | outgrown => cases hres
            | pan v =>
              cases e0 with
              | returned v' => cases hres
              | panicked c =>
                obtain ⟨v', e1, hv⟩ := hres
                subst e1
                exact hQ v rfl M' v' w' hv h1 h2
              | outgrown => cases hres
        · cases h
      · rename_i x hop
        refine ⟨?_, fun c e => by rw [hop] at e; cases e⟩
        split at h
        · rename_i t v hx
          cases h
          have hv := he _ _ hx
          have hex : (execOp a.eval o).run P w = .halt (.panic (a.eval x)) w := by
            unfold execOp
            rw [hop]
            dsimp only
            generalize a.eval x = y at hv
            cases hv with
            | flat hh => simp [flatV] at hh
            | iface hh => rfl
          rw [hex]
          exact hQ _ rfl M _ w hv hR (.refl _ _ _)
        · cases h
      · rename_i x xt t hop
        refine ⟨?_, fun c e => by rw [hop] at e; cases e⟩
        split at h
        · rename_i y hx
          split at h
          · rename_i v st1 hf
            cases h
            obtain ⟨M', v', w', hrun, hv, h1, h2⟩ := failE_sound (xt := xt) hR hf (he _ _ hx)
            have hex : (execOp a.eval o).run P w = .halt (.panic v') w' := by
              unfold execOp
              rw [hop]
              dsimp only
              rw [Sem.run_bind, hrun]
              rfl
            rw [hex]
            exact hQ _ rfl M' _ w' hv h1 h2
          · cases h
        · cases h
      · cases h
end
end Go.Wx
end PEv21
/- The evaluator: regions. -/
noncomputable section PEv22
set_option linter.unusedVariables false
set_option linter.unusedSimpArgs false
namespace Go.Wx
open Go.RowKit
/-- One operation, a round of a loop over a function among them. -/
def opY (P : Program) (G : Nat) (call : CallF) (st : St) (e : Operand → Option Value) (op : Op) : Option (Res × St) :=
  match op with
  | .call ⟨.value f, args, _⟩ => match e f with
    | some (.func (.yield i) ⟨[]⟩ ⟨[]⟩) => match listO e args.toList with
      | some as => call (.yld i) as st
      | none => none
    | _ => opE P G call st e op
  | _ => opE P G call st e op
def deferE (e : Operand → Option Value) (c : Call) : Option Dfr :=
  match c.callee with
  | .value f => match e f, listO e c.args.toList with
    | some (.func (.func g) first cap), some args => some (.call g (first.toList ++ args ++ cap.toList))
    | _, _ => none
  | _ => none
def evOps (P : Program) (G : Nat) (call : CallF) (ro : Bool) (ops : Array Oper) : List Oper → Tm → St → Option (Ex × Tm × St)
  | [], tm, st => some (.norm, tm, st)
  | o :: rest, tm, st =>
    match wantE ops o tm with
    | true => (match opY P G call st (evO G st tm) o.op with
      | some (.ret v, st') => evOps P G call ro ops rest (tm.put o.dst v) st'
      | some (.pan v, st') => some (.pan v, tm, st')
      | none => match o.op with
        | .defer c => if ro then none else match deferE (evO G st tm) c with
          | some d => evOps P G call ro ops rest (({ tm with ds := d :: tm.ds } : Tm).put o.dst undef) st
          | none => none
        | _ => none)
    | false => evOps P G call ro ops rest (tm.put o.dst undef) st
section
variable {P : Program} {M : Mp} {G : Nat} {st : St} {w w' : World}
inductive DfR (M : Mp) : Dfr → Deferred → Prop where
  | call {f : FuncId} {args : List Value} {cap as : Array Value} : VRs M args (as ++ cap).toList → DfR M (.call f args) ⟨.fn (.func f) cap, as⟩
  | mark {i : Nat} {L : Loc} {as : Array Value} : M i = some L → DfR M (.mark i) ⟨.collected L.b, as⟩
inductive DRs (M : Mp) : List Dfr → List Deferred → Prop where
  | nil : DRs M [] []
  | cons {d : Dfr} {d' : Deferred} {l : List Dfr} {l' : List Deferred} : DfR M d d' → DRs M l l' → DRs M (d :: l) (d' :: l')
theorem DfR.ext {M M' : Mp} (h : Ext M M') {d : Dfr} {d' : Deferred} (k : DfR M d d') : DfR M' d d' := by
  cases k with
  | call a => exact .call (a.ext h)
  | mark a => exact .mark (h _ _ a)
theorem DRs.ext {M M' : Mp} (h : Ext M M') {l : List Dfr} {l' : List Deferred} (k : DRs M l l') : DRs M' l l' := by
  induction k with
  | nil => exact .nil
  | cons a _ ih => exact .cons (a.ext h) ih
def ExR (M : Mp) : Ex → Exit → Prop
  | .norm, .normal => True
  | .exit i, .exit j => i = j
  | .goto i, .goto j => i = j
  | .ret, .ret => True
  | .pan v, .panic chain => ∃ v', chain = [{ v := v', recovered := false }] ∧ VR M v v'
  | _, _ => False
def QS (P : Program) (G : Nat) (M : Mp) (st : St) (w : World) (x : Ex) (tm' : Tm) (st' : St) : Exit → Act → World → Prop :=
  fun e a' w' => ∃ M', ExR M' x e ∧ TR M' tm' a'.tmps ∧ RR P G M' st' w' ∧ Stp M st w M' st' w' ∧ DRs M' tm'.ds a'.defers
theorem put_defers (a : Act) (d : Option Tmp) (v : Value) : (a.put d v).defers = a.defers := by cases d <;> rfl
theorem put_ds (tm : Tm) (d : Option Tmp) (v : Value) : (tm.put d v).ds = tm.ds := by
  cases d with
  | none => rfl
  | some d => unfold Tm.put; dsimp only; split <;> rfl
theorem DRs.put {tm : Tm} {a : Act} (h : DRs M tm.ds a.defers) (d : Option Tmp) (v v' : Value) : DRs M (tm.put d v).ds (a.put d v').defers := by
  rw [put_ds, put_defers]; exact h
theorem wantE_eq {tm : Tm} {A : Array Value} (hT : TR M tm A) (ops : Array Oper) (o : Oper) : Region.wanted o (yielded ops A) = wantE ops o tm := by
  unfold Region.wanted wantE
  cases o.guard with
  | none => rfl
  | some p => obtain ⟨j, want⟩ := p; dsimp only; rw [hT.yes]
theorem deferE_sound {e : Operand → Option Value} {ρ : Operand → Value} (he : ∀ x v, e x = some v → VR M v (ρ x)) {c : Call} {d : Dfr} (h : deferE e c = some d) (ty : TypeId) (w : World) :
    ∃ d', DfR M d d' ∧ (resolve ρ c ty).run P w = .ok d' w := by
  obtain ⟨cal, cargs, cats⟩ := c
  unfold deferE at h
  cases cal with
  | builtin b => cases h
  | invoke r n => cases h
  | value fo =>
    dsimp only at h
    split at h
    · rename_i g first cap as hf hl
      cases h
      have hv := he _ _ hf
      have hargs := listO_sound he hl
      generalize hρ : ρ fo = y at hv
      cases hv with
      | flat hh => simp [flatV] at hh
      | func h0 h1 h2 =>
        rename_i first' cap'
        refine ⟨⟨.fn (.func g) cap', first' ++ cargs.map ρ⟩, .call ?_, ?_⟩
        · have := (h1.append hargs).append h2
          simpa using this
        · show (Deferred.ofValue (ρ fo) (cargs.map ρ)).run P w = _
          rw [hρ]
          rfl
    · cases h
/-- Post of one operation, a round among them. -/
theorem opY_sound {call : CallF} (hcall : CallOk P G call) (hR : RR P G M st w) {a : Act} {e : Operand → Option Value} (he : ∀ x v, e x = some v → VR M v (a.eval x)) {o : Oper} {r : Res} {st' : St} (h : opY P G call st e o.op = some (r, st'))
    {K : Act → World → Prop} {Q : Exit → Act → World → Prop} (ro : Option Nat)
    (hK : ∀ v, r = .ret v → ∀ M' v' w', VR M' v v' → RR P G M' st' w' → Stp M st w M' st' w' → K (a.put o.dst v') w')
    (hQ : ∀ v, r = .pan v → ∀ M' v' w', VR M' v v' → RR P G M' st' w' → Stp M st w M' st' w' → Q (.panic [{ v := v', recovered := false }]) a w') :
    o.wpIn (fw ro) 0 P a w K Q := by
  have key : opE P G call st e o.op = some (r, st') → o.wpIn (fw ro) 0 P a w K Q := fun h => by
    obtain ⟨h1, h2⟩ := opE_sound hcall hR he h (K := K) (Q := Q) hK hQ
    exact wpIn_op h1 (.inr h2)
  unfold opY at h
  split at h
  · rename_i f args ats hop
    split at h
    · rename_i i hf
      split at h
      · rename_i as hl
        have hc : calleeE P e ⟨.value f, args, ats⟩ = some (.yld i, as) := by
          unfold calleeE
          dsimp only
          rw [hf, hl]
        obtain ⟨args', ha, L, hL, hinv⟩ := calleeE_sound (P := P) he hc o.type
        refine ⟨fun _ _ => trivial, ?_⟩
        have hs : o.semAt (fw ro).round a.eval = execOp a.eval o := o.semAt_eq _ _ fun c e => by rw [hop] at e; cases e
        obtain ⟨fn, tmps, assign, body, hrun, hround⟩ := hcall.2.1 i as st r st' h M w args' L hR ha hL
        have hex : (execOp a.eval o).run P w = .ok (.round L.b fn tmps assign body) w := by
          rw [← hrun, ← hinv w]
          unfold execOp
          rw [hop]
        rw [hs, hex]
        refine ⟨fun hh => (by cases hh), (hround ro).mono fun e0 w' hres => ?_⟩
        obtain ⟨M', hres, h1, h2⟩ := hres
        cases r with
        | ret v =>
          cases e0 with
          | returned v' => exact hK v rfl M' v' w' hres h1 h2
          | panicked c => cases hres
          | outgrown => cases hres
        | pan v =>
          cases e0 with
          | returned v' => cases hres
          | panicked c =>
            obtain ⟨v', e1, hv⟩ := hres
            subst e1
            exact hQ v rfl M' v' w' hv h1 h2
          | outgrown => cases hres
      · cases h
    · exact key h
  · exact key h
theorem evOps_sound {call : CallF} (hcall : CallOk P G call) {ro : Bool} {r : Option Nat} (hro : ro = false → r = none) (ops : Array Oper) {M0 : Mp} {st0 : St} {w0 : World} {x : Ex} {tm' : Tm} {st' : St} :
    ∀ (rest : List Oper) (k : Nat), ops.toList.drop k = rest → ∀ (M : Mp) (st : St) (w : World) (tm : Tm) (a : Act),
    evOps P G call ro ops rest tm st = some (x, tm', st') → RR P G M st w → TR M tm a.tmps → DRs M tm.ds a.defers → Stp M0 st0 w0 M st w →
    wpOpsIn (fw r) 0 P ops (QS P G M0 st0 w0 x tm' st') (List.range' k rest.length) a w
  | [], k, hk, M, st, w, tm, a, h, hR, hT, hD, hS => by
    cases h
    exact ⟨M, trivial, hT, hR, hS, hD⟩
  | o :: rest, k, hk, M, st, w, tm, a, h, hR, hT, hD, hS => by
    have hok : ops[k]? = some o := by
      rw [← Array.getElem?_toList]
      have := congrArg (·[0]?) hk
      simp only [List.getElem?_drop, List.getElem?_cons_zero, Nat.add_zero] at this
      exact this
    have hk' : ops.toList.drop (k + 1) = rest := by
      rw [← List.drop_drop, hk]; rfl
    rw [List.length_cons, List.range'_succ]
    unfold wpOpsIn
    simp only [hok]
    rw [wantE_eq hT ops o]
    unfold evOps at h
    split at h
    · rename_i hw
      rw [if_pos hw]
      split at h
      · rename_i v st1 hop
        refine opY_sound hcall hR (fun y u e => evO_sound hR hT e) hop r (fun u hu M1 v' w1 hv h1 h2 => ?_) (fun u hu => by cases hu)
        cases hu
        exact evOps_sound hcall hro ops rest (k + 1) hk' M1 st1 w1 (tm.put o.dst v) (a.put o.dst v') h h1 ((hT.ext h2.ext).put o.dst hv) ((hD.ext h2.ext).put o.dst v v') (hS.trans h2)
      · rename_i v st1 hop
        cases h
        refine opY_sound hcall hR (fun y u e => evO_sound hR hT e) hop r (fun u hu => by cases hu) (fun u hu M1 v' w1 hv h1 h2 => ?_)
        cases hu
        exact ⟨M1, ⟨v', rfl, hv⟩, hT.ext h2.ext, h1, hS.trans h2, hD.ext h2.ext⟩
      · split at h
        · rename_i c hop
          split at h
          · cases h
          · rename_i hr0
            have hr0 : r = none := hro (by simpa using hr0)
            subst hr0
            split at h
            · rename_i d hd
              obtain ⟨d', hd', hrun⟩ := deferE_sound (P := P) (fun y u e => evO_sound hR hT e) hd o.type w
              refine ⟨fun _ _ => trivial, ?_⟩
              have hex : (o.semAt (fw none).round a.eval).run P w = .ok (.defer d') w := by
                show (execOp a.eval o).run P w = _
                unfold execOp
                rw [hop]
                dsimp only
                rw [Sem.run_bind, hrun]
                rfl
              rw [hex]
              have hT' : TR M ({ tm with ds := d :: tm.ds } : Tm) ({ a with defers := d' :: a.defers } : Act).tmps := ⟨hT.sz, hT.lim, hT.get⟩
              have hD' : DRs M ({ tm with ds := d :: tm.ds } : Tm).ds ({ a with defers := d' :: a.defers } : Act).defers := .cons hd' hD
              exact evOps_sound hcall hro ops rest (k + 1) hk' M st w _ _ h hR (hT'.put o.dst (.undef M)) (hD'.put o.dst _ _) hS
            · cases h
        · cases h
    · rename_i hw
      rw [if_neg (by rw [hw]; simp)]
      exact ⟨fun _ _ => trivial, evOps_sound hcall hro ops rest (k + 1) hk' M st w (tm.put o.dst undef) (a.put o.dst undef) h hR (hT.put o.dst (.undef M)) (hD.put o.dst _ _) hS⟩
end
end Go.Wx
end PEv22
/- The evaluator: the same, made for the kernel. -/
noncomputable section PEv22f
set_option linter.unusedVariables false
set_option linter.unusedSimpArgs false
namespace Go.Wx
open Go.RowKit
def kIx (k : IntKind) : Nat := IntKind.casesOn (motive := fun _ => Nat) k 0 1 2 3 4 5 6 7
def kEq (a b : IntKind) : Bool := Nat.beq (kIx a) (kIx b)
theorem kEq_iff (a b : IntKind) : kEq a b = true ↔ a = b := by
  cases a <;> cases b <;> simp [kEq, kIx] <;> rfl
def limP (k : IntKind) : Nat := IntKind.casesOn (motive := fun _ => Nat) k 128 32768 2147483648 9223372036854775808 256 65536 4294967296 18446744073709551616
def limN (k : IntKind) : Nat := IntKind.casesOn (motive := fun _ => Nat) k 128 32768 2147483648 9223372036854775808 0 0 0 0
def wrapF (k : IntKind) (n : Int) : Int := match n with
  | .ofNat m => (match Nat.blt m (limP k) with
    | true => .ofNat m
    | false => k.wrap (.ofNat m))
  | .negSucc m => (match Nat.blt m (limN k) with
    | true => .negSucc m
    | false => k.wrap (.negSucc m))
theorem wrap_in {k : IntKind} {n : Int} (h1 : -(limN k : Int) ≤ n) (h2 : n < (limP k : Int)) : k.wrap n = n := by
  cases k <;> simp only [limN, limP] at h1 h2
  · exact IntWalk.i8_in n (by omega)
  · exact IntWalk.i16_in n (by omega)
  · exact IntWalk.i32_in n (by omega)
  · exact IntWalk.i64_in n (by omega)
  · exact IntWalk.u8_in n (by omega)
  · exact IntWalk.u16_in n (by omega)
  · exact IntWalk.u32_in n (by omega)
  · exact IntWalk.u64_in n (by omega)
theorem wrapF_eq (k : IntKind) (n : Int) : wrapF k n = k.wrap n := by
  unfold wrapF
  cases n with
  | ofNat m =>
    dsimp only
    split
    · rename_i h
      rw [Nat.blt_eq] at h
      exact (wrap_in (by simp <;> omega) (by simp <;> omega)).symm
    · rfl
  | negSucc m =>
    dsimp only
    split
    · rename_i h
      rw [Nat.blt_eq] at h
      exact (wrap_in (by omega) (by omega)).symm
    · rfl
def intEq : Int → Int → Bool
  | .ofNat a, .ofNat b => Nat.beq a b
  | .negSucc a, .negSucc b => Nat.beq a b
  | _, _ => false
def intLt : Int → Int → Bool
  | .ofNat a, .ofNat b => Nat.blt a b
  | .negSucc a, .negSucc b => Nat.blt b a
  | .negSucc _, .ofNat _ => true
  | .ofNat _, .negSucc _ => false
theorem intEq_eq (a b : Int) : intEq a b = (a == b) := by
  rw [Bool.eq_iff_iff, beq_iff_eq]
  cases a <;> cases b <;> simp [intEq] <;> omega
theorem intLt_eq (a b : Int) : intLt a b = decide (a < b) := by
  rw [Bool.eq_iff_iff, decide_eq_true_eq]
  cases a <;> cases b <;> simp [intLt, Nat.blt_eq] <;> omega
def iAdd (k : IntKind) (a b : Int) : Option Value := some (.int k (wrapF k (Int.add a b)))
def iSub (k : IntKind) (a b : Int) : Option Value := some (.int k (wrapF k (Int.sub a b)))
def iMul (k : IntKind) (a b : Int) : Option Value := some (.int k (wrapF k (Int.mul a b)))
def iEql (a b : Int) : Option Value := some (.bool (intEq a b))
def iNeq (a b : Int) : Option Value := some (.bool (!intEq a b))
def iLss (a b : Int) : Option Value := some (.bool (intLt a b))
def iLeq (a b : Int) : Option Value := some (.bool (!intLt b a))
def binIF (op : BinOp) (k : IntKind) (a b : Int) : Option Value := match op with
  | .add => iAdd k a b
  | .sub => iSub k a b
  | .mul => iMul k a b
  | .eql => iEql a b
  | .neq => iNeq a b
  | .lss => iLss a b
  | .leq => iLeq a b
  | .gtr => iLss b a
  | .geq => iLeq b a
  | op => binI op k a b
theorem binIF_eq (op : BinOp) (k : IntKind) (a b : Int) : binIF op k a b = binI op k a b := by
  cases op <;> first
    | rfl
    | (simp only [binIF, iAdd, iSub, iMul, wrapF_eq]; rfl)
    | (simp only [binIF, iEql, iNeq, intEq_eq]; rfl)
    | (simp only [binIF, iLss, intLt_eq]; rfl)
    | (simp only [binIF, iLeq, intLt_eq, binI]
       congr 2
       rw [Bool.eq_iff_iff]
       simp)
def isSh (op : BinOp) : Bool := match op with
  | .shl => true
  | .shr => true
  | _ => false
def retV (st : St) (r : Option Value) : Option (Res × St) := match r with
  | some v => some (.ret v, st)
  | none => none
def retR (st : St) (r : Option (Value × List Nat)) : Option (Res × St) := match r with
  | some (v, _) => some (.ret v, st)
  | none => none
def retU (r : Option St) : Option (Res × St) := match r with
  | some st' => some (.ret undef, st')
  | none => none
def opt1 {β : Type} (f : Value → Option β) (a : Option Value) : Option β := match a with
  | some x => f x
  | none => none
def opt2 {β : Type} (f : Value → Value → Option β) (a b : Option Value) : Option β := match a with
  | some x => opt1 (f x) b
  | none => none
def binG (P : Program) (op : BinOp) (t : TypeId) (x y : Operand) (a b : Value) : Option Value := match binE P op t x y a b with
  | some v => some v
  | none => eqX P op t a b
def hBinI (P : Program) (op : BinOp) (t : TypeId) (x y : Operand) (k : IntKind) (i : Int) (b : Value) : Option Value := match b with
  | .int k' j => (match isSh op with
    | true => binG P op t x y (.int k i) (.int k' j)
    | false => (match kEq k k' with
      | true => binIF op k i j
      | false => binG P op t x y (.int k i) (.int k' j)))
  | b => binG P op t x y (.int k i) b
def hBin (P : Program) (op : BinOp) (t : TypeId) (x y : Operand) (a b : Value) : Option Value := match a with
  | .int k i => hBinI P op t x y k i b
  | a => binG P op t x y a b
theorem binG_int {P : Program} {op : BinOp} {t : TypeId} {x y : Operand} {k : IntKind} {i j : Int} (h : isSh op = false) : binG P op t x y (.int k i) (.int k j) = (match binI op k i j with
    | some v => some v
    | none => eqX P op t (.int k i) (.int k j)) := by
  unfold binG binE
  cases op <;> first | (cases h; done) | simp
theorem eqX_int {P : Program} {op : BinOp} {t : TypeId} {k k' : IntKind} {i j : Int} : eqX P op t (.int k i) (.int k' j) = none := by
  unfold eqX eqXB
  cases op <;> try rfl
  all_goals (cases P.underlying t with
    | none => rfl
    | some d => cases d <;> rfl)
theorem hBin_eq (P : Program) (op : BinOp) (t : TypeId) (x y : Operand) (a b : Value) : hBin P op t x y a b = binG P op t x y a b := by
  unfold hBin
  cases a <;> try rfl
  rename_i k i
  dsimp only
  unfold hBinI
  cases b <;> try rfl
  rename_i k' j
  dsimp only
  cases hs : isSh op with
  | true => rfl
  | false =>
    dsimp only
    cases hk : kEq k k' with
    | false => rfl
    | true =>
      have := (kEq_iff k k').1 hk
      subst this
      dsimp only
      rw [binG_int hs, binIF_eq, eqX_int]
      cases binI op k i j <;> rfl
def hCV (P : Program) (G : Nat) (call : CallF) (st : St) (e : Operand → Option Value) (c : Call) (args : List Operand) (f : Option Value) : Option (Res × St) := match f with
  | some (.func (.func g) first cap) => (match listO e args with
    | some as => call (.fn g) (first.toList ++ as ++ cap.toList) st
    | none => none)
  | _ => opY P G call st e (.call c)
def hCall (P : Program) (G : Nat) (call : CallF) (st : St) (e : Operand → Option Value) (c : Call) : Option (Res × St) := match c with
  | ⟨.value f, args, ats⟩ => hCV P G call st e ⟨.value f, args, ats⟩ args.toList (e f)
  | ⟨.builtin b, args, ats⟩ => opE P G call st e (.call ⟨.builtin b, args, ats⟩)
  | ⟨.invoke r n, args, ats⟩ => opE P G call st e (.call ⟨.invoke r n, args, ats⟩)
def opF (P : Program) (G : Nat) (call : CallF) (st : St) (e : Operand → Option Value) (op : Op) : Option (Res × St) := match op with
  | .move x => retV st (e x)
  | .assign x => retV st (e x)
  | .binOp op t x y _ => retV st (opt2 (hBin P op t x y) (e x) (e y))
  | .load t x => retR st (opt1 (ldE P st t) (e x))
  | .fieldAddr t x f => retV st (opt1 (fun a => fieldAddrE P t a f) (e x))
  | .indexAddr t x i => retV st (opt2 (indexAddrE P t) (e x) (e i))
  | .index t x i => retV st (opt2 (indexE P t) (e x) (e i))
  | .field t x f => retV st (opt1 (fun a => fieldE P t a f) (e x))
  | .extract x i => retV st (opt1 (fun a => extractE a i) (e x))
  | .unOp op _ x => retV st (opt1 (unE op) (e x))
  | .nilCheck x => retV st (opt1 nilcE (e x))
  | .store t a x => retU (opt2 (storeE P st t) (e a) (e x))
  | .call c => hCall P G call st e c
  | op => opY P G call st e op
theorem opF_eq (P : Program) (G : Nat) (call : CallF) (st : St) (e : Operand → Option Value) (op : Op) : opF P G call st e op = opY P G call st e op := by
  cases op with
  | move x =>
    show retV st (e x) = opE P G call st e (.move x)
    unfold opE rdOp hvOp
    dsimp only
    cases e x <;> rfl
  | assign x =>
    show retV st (e x) = opE P G call st e (.assign x)
    unfold opE rdOp hvOp
    dsimp only
    cases e x <;> rfl
  | binOp op t x y yt =>
    show retV st (opt2 (hBin P op t x y) (e x) (e y)) = opE P G call st e (.binOp op t x y yt)
    unfold opE rdOp hvOp
    dsimp only
    cases e x with
    | none => rfl
    | some a =>
      cases e y with
      | none => rfl
      | some b =>
        dsimp only [opt2, opt1]
        rw [hBin_eq]
        unfold binG
        cases binE P op t x y a b with
        | some v => rfl
        | none => cases eqX P op t a b <;> rfl
  | load t x =>
    show retR st (opt1 (ldE P st t) (e x)) = opE P G call st e (.load t x)
    unfold opE rdOp hvOp
    dsimp only
    cases e x with
    | none => rfl
    | some a => dsimp only [opt1]; cases ldE P st t a <;> rfl
  | fieldAddr t x f =>
    show retV st (opt1 (fun a => fieldAddrE P t a f) (e x)) = opE P G call st e (.fieldAddr t x f)
    unfold opE rdOp hvOp
    dsimp only
    cases e x with
    | none => rfl
    | some a => dsimp only [opt1]; cases fieldAddrE P t a f <;> rfl
  | indexAddr t x i =>
    show retV st (opt2 (indexAddrE P t) (e x) (e i)) = opE P G call st e (.indexAddr t x i)
    unfold opE rdOp hvOp
    dsimp only
    cases e x with
    | none => rfl
    | some a =>
      cases e i with
      | none => rfl
      | some b => dsimp only [opt2, opt1]; cases indexAddrE P t a b <;> rfl
  | index t x i =>
    show retV st (opt2 (indexE P t) (e x) (e i)) = opE P G call st e (.index t x i)
    unfold opE rdOp hvOp
    dsimp only
    cases e x with
    | none => rfl
    | some a =>
      cases e i with
      | none => rfl
      | some b => dsimp only [opt2, opt1]; cases indexE P t a b <;> rfl
  | field t x f =>
    show retV st (opt1 (fun a => fieldE P t a f) (e x)) = opE P G call st e (.field t x f)
    unfold opE rdOp hvOp
    dsimp only
    cases e x with
    | none => rfl
    | some a => dsimp only [opt1]; cases fieldE P t a f <;> rfl
  | extract x i =>
    show retV st (opt1 (fun a => extractE a i) (e x)) = opE P G call st e (.extract x i)
    unfold opE rdOp hvOp
    dsimp only
    cases e x with
    | none => rfl
    | some a => dsimp only [opt1]; cases extractE a i <;> rfl
  | unOp op t x =>
    show retV st (opt1 (unE op) (e x)) = opE P G call st e (.unOp op t x)
    unfold opE rdOp hvOp
    dsimp only
    cases e x with
    | none => rfl
    | some a => dsimp only [opt1]; cases unE op a <;> rfl
  | nilCheck x =>
    show retV st (opt1 nilcE (e x)) = opE P G call st e (.nilCheck x)
    unfold opE rdOp hvOp
    dsimp only
    cases e x with
    | none => rfl
    | some a => dsimp only [opt1]; cases nilcE a <;> rfl
  | store t a x =>
    show retU (opt2 (storeE P st t) (e a) (e x)) = opE P G call st e (.store t a x)
    unfold opE rdOp hvOp
    dsimp only
    cases e a with
    | none => rfl
    | some v =>
      cases e x with
      | none => rfl
      | some u => dsimp only [opt2, opt1]; cases storeE P st t v u <;> rfl
  | call c =>
    obtain ⟨cal, args, ats⟩ := c
    show hCall P G call st e ⟨cal, args, ats⟩ = _
    cases cal with
    | builtin b => rfl
    | invoke r n => rfl
    | value f =>
      show hCV P G call st e ⟨.value f, args, ats⟩ args.toList (e f) = _
      unfold hCV
      split
      · rename_i g first cap hf
        unfold opY
        dsimp only
        rw [hf]
        dsimp only
        unfold opE rdOp hvOp calleeE
        dsimp only
        rw [hf]
        cases listO e args.toList <;> rfl
      · rfl
  | _ => rfl
def defF (P : Program) (G : Nat) (ro : Bool) (o : Oper) (ih : Tm → St → Option (Ex × Tm × St)) (tm : Tm) (st : St) : Option (Ex × Tm × St) := match o.op with
  | .defer c => if ro then none else match deferE (evO G st tm) c with
    | some d => ih (({ tm with ds := d :: tm.ds } : Tm).put o.dst undef) st
    | none => none
  | _ => none
def runF (P : Program) (G : Nat) (ro : Bool) (o : Oper) (ih : Tm → St → Option (Ex × Tm × St)) (tm : Tm) (st : St) (r : Option (Res × St)) : Option (Ex × Tm × St) := match r with
  | some (.ret v, st') => ih (tm.put o.dst v) st'
  | some (.pan v, st') => some (.pan v, tm, st')
  | none => defF P G ro o ih tm st
def stepF (P : Program) (G : Nat) (call : CallF) (ro : Bool) (ops : Array Oper) (o : Oper) (ih : Tm → St → Option (Ex × Tm × St)) (tm : Tm) (st : St) : Option (Ex × Tm × St) := match wantE ops o tm with
  | true => runF P G ro o ih tm st (opF P G call st (evO G st tm) o.op)
  | false => ih (tm.put o.dst undef) st
def evOpsF (P : Program) (G : Nat) (call : CallF) (ro : Bool) (ops : Array Oper) (l : List Oper) : Tm → St → Option (Ex × Tm × St) :=
  List.rec (motive := fun _ => Tm → St → Option (Ex × Tm × St)) (fun tm st => some (.norm, tm, st)) (fun o _ ih => stepF P G call ro ops o ih) l
theorem evOpsF_eq (P : Program) (G : Nat) (call : CallF) (ro : Bool) (ops : Array Oper) : ∀ (l : List Oper) (tm : Tm) (st : St), evOpsF P G call ro ops l tm st = evOps P G call ro ops l tm st
  | [], tm, st => rfl
  | o :: l, tm, st => by
    have ih := evOpsF_eq P G call ro ops l
    show stepF P G call ro ops o (evOpsF P G call ro ops l) tm st = _
    unfold stepF evOps
    cases wantE ops o tm with
    | false => exact ih _ _
    | true =>
      dsimp only
      rw [opF_eq]
      unfold runF
      cases opY P G call st (evO G st tm) o.op with
      | some r =>
        obtain ⟨r, st'⟩ := r
        cases r with
        | ret v => exact ih _ _
        | pan v => rfl
      | none =>
        dsimp only
        unfold defF
        cases o.op <;> try rfl
        rename_i c
        dsimp only
        cases ro with
        | true => rfl
        | false =>
          simp only [Bool.false_eq_true, if_false]
          cases deferE (evO G st tm) c with
          | some d => exact ih _ _
          | none => rfl
end Go.Wx
end PEv22f
/- The evaluator: dispatch by recursors. -/
noncomputable section PEv22g
set_option linter.unusedVariables false
set_option linter.unusedSimpArgs false
namespace Go.Wx
open Go.RowKit
structure Cx where
  P : Program
  G : Nat
  call : CallF
  st : St
  e : Operand → Option Value
abbrev ResO := Option (Res × St)
def xMove (X : Cx) (x : Operand) : ResO := match X with | ⟨P, G, call, st, e⟩ => retV st (e x)
def xPick (X : Cx) (c a b : Operand) : ResO := match X with | ⟨P, G, call, st, e⟩ => opF P G call st e (.pick c a b)
def xAlloc (X : Cx) (t : TypeId) : ResO := match X with | ⟨P, G, call, st, e⟩ => opF P G call st e (.alloc t)
def xBox (X : Cx) (t : TypeId) (x : Operand) : ResO := match X with | ⟨P, G, call, st, e⟩ => opF P G call st e (.box t x)
def xBuild (X : Cx) (t : TypeId) (p : Array (Nat × Operand)) : ResO := match X with | ⟨P, G, call, st, e⟩ => opF P G call st e (.build t p)
def xBuildSlice (X : Cx) (t : TypeId) (n : Nat) (p : Array (Nat × Operand)) : ResO := match X with | ⟨P, G, call, st, e⟩ => opF P G call st e (.buildSlice t n p)
def xInsert (X : Cx) (t : TypeId) (a b c : Operand) : ResO := match X with | ⟨P, G, call, st, e⟩ => opF P G call st e (.insert t a b c)
def xLoad (X : Cx) (t : TypeId) (x : Operand) : ResO := match X with | ⟨P, G, call, st, e⟩ => retR st (opt1 (ldE P st t) (e x))
def xStore (X : Cx) (t : TypeId) (a x : Operand) : ResO := match X with | ⟨P, G, call, st, e⟩ => retU (opt2 (storeE P st t) (e a) (e x))
def xReady (X : Cx) (g : Nat) : ResO := match X with | ⟨P, G, call, st, e⟩ => opF P G call st e (.ready g)
def xWaits (X : Cx) (g : Nat) : ResO := match X with | ⟨P, G, call, st, e⟩ => opF P G call st e (.waits g)
def xNil (X : Cx) (x : Operand) : ResO := match X with | ⟨P, G, call, st, e⟩ => retV st (opt1 nilcE (e x))
def xBin (X : Cx) (op : BinOp) (t : TypeId) (x y : Operand) (_ : TypeId) : ResO := match X with | ⟨P, G, call, st, e⟩ => retV st (opt2 (hBin P op t x y) (e x) (e y))
def xUn (X : Cx) (op : UnOp) (_ : TypeId) (x : Operand) : ResO := match X with | ⟨P, G, call, st, e⟩ => retV st (opt1 (unE op) (e x))
def xConvert (X : Cx) (a b : TypeId) (x : Operand) : ResO := match X with | ⟨P, G, call, st, e⟩ => opF P G call st e (.convert a b x)
def xS2ap (X : Cx) (t : TypeId) (x : Operand) : ResO := match X with | ⟨P, G, call, st, e⟩ => opF P G call st e (.sliceToArrayPointer t x)
def xIface (X : Cx) (t : TypeId) (x : Operand) : ResO := match X with | ⟨P, G, call, st, e⟩ => opF P G call st e (.makeInterface t x)
def xFunc (X : Cx) (f : Fn) (a b : Array Operand) : ResO := match X with | ⟨P, G, call, st, e⟩ => opF P G call st e (.makeFunc f a b)
def xMap (X : Cx) (t : TypeId) (r : Option Operand) : ResO := match X with | ⟨P, G, call, st, e⟩ => opF P G call st e (.makeMap t r)
def xChan (X : Cx) (t : TypeId) (x : Operand) : ResO := match X with | ⟨P, G, call, st, e⟩ => opF P G call st e (.makeChan t x)
def xMkSlice (X : Cx) (t : TypeId) (a b : Operand) : ResO := match X with | ⟨P, G, call, st, e⟩ => opF P G call st e (.makeSlice t a b)
def xSlice (X : Cx) (t : TypeId) (x : Operand) (a b c : Option Operand) : ResO := match X with | ⟨P, G, call, st, e⟩ => opF P G call st e (.slice t x a b c)
def xFieldAddr (X : Cx) (t : TypeId) (x : Operand) (f : Nat) : ResO := match X with | ⟨P, G, call, st, e⟩ => retV st (opt1 (fun a => fieldAddrE P t a f) (e x))
def xField (X : Cx) (t : TypeId) (x : Operand) (f : Nat) : ResO := match X with | ⟨P, G, call, st, e⟩ => retV st (opt1 (fun a => fieldE P t a f) (e x))
def xIndexAddr (X : Cx) (t : TypeId) (x i : Operand) : ResO := match X with | ⟨P, G, call, st, e⟩ => retV st (opt2 (indexAddrE P t) (e x) (e i))
def xIndex (X : Cx) (t : TypeId) (x i : Operand) : ResO := match X with | ⟨P, G, call, st, e⟩ => retV st (opt2 (indexE P t) (e x) (e i))
def xLookup (X : Cx) (t : TypeId) (x i : Operand) (b : Bool) : ResO := match X with | ⟨P, G, call, st, e⟩ => opF P G call st e (.lookup t x i b)
def xMapUpdate (X : Cx) (t : TypeId) (a b c : Operand) : ResO := match X with | ⟨P, G, call, st, e⟩ => opF P G call st e (.mapUpdate t a b c)
def xMapEntry (X : Cx) (t : TypeId) (a b : Operand) : ResO := match X with | ⟨P, G, call, st, e⟩ => opF P G call st e (.mapEntry t a b)
def xEntryStore (X : Cx) (t : TypeId) (a b c : Operand) : ResO := match X with | ⟨P, G, call, st, e⟩ => opF P G call st e (.entryStore t a b c)
def xRange (X : Cx) (t : TypeId) (x : Operand) : ResO := match X with | ⟨P, G, call, st, e⟩ => opF P G call st e (.range t x)
def xNext (X : Cx) (x : Operand) (b : Bool) : ResO := match X with | ⟨P, G, call, st, e⟩ => opF P G call st e (.next x b)
def xEntry (X : Cx) (x : Operand) : ResO := match X with | ⟨P, G, call, st, e⟩ => opF P G call st e (.entry x)
def xAssert (X : Cx) (x : Operand) (a b : TypeId) (c : Bool) : ResO := match X with | ⟨P, G, call, st, e⟩ => opF P G call st e (.typeAssert x a b c)
def xExtract (X : Cx) (x : Operand) (i : Nat) : ResO := match X with | ⟨P, G, call, st, e⟩ => retV st (opt1 (fun a => extractE a i) (e x))
def xCall (X : Cx) (c : Call) : ResO := match X with | ⟨P, G, call, st, e⟩ => hCall P G call st e c
def xGo (X : Cx) (c : Call) : ResO := match X with | ⟨P, G, call, st, e⟩ => opF P G call st e (.go c)
def xDefer (X : Cx) (c : Call) : ResO := match X with | ⟨P, G, call, st, e⟩ => opF P G call st e (.defer c)
def xPanic (X : Cx) (x : Operand) : ResO := match X with | ⟨P, G, call, st, e⟩ => opF P G call st e (.panic x)
def xSend (X : Cx) (a b : Operand) : ResO := match X with | ⟨P, G, call, st, e⟩ => opF P G call st e (.send a b)
def xRecv (X : Cx) (t : TypeId) (a : Operand) (b : Bool) : ResO := match X with | ⟨P, G, call, st, e⟩ => opF P G call st e (.recv t a b)
def xSelect (X : Cx) (c : Array SelectCase) (b : Bool) : ResO := match X with | ⟨P, G, call, st, e⟩ => opF P G call st e (.select c b)
def opX (X : Cx) (op : Op) : ResO :=
  Op.rec (motive := fun _ => ResO) (xMove X) (xMove X) (xPick X) (xAlloc X) (xBox X) (xBuild X) (xBuildSlice X) (xInsert X) (xLoad X) (xStore X) (xReady X) (xWaits X) (xNil X) (xBin X) (xUn X) (xConvert X) (xS2ap X) (xIface X) (xFunc X) (xMap X) (xChan X) (xMkSlice X)
    (xSlice X) (xFieldAddr X) (xField X) (xIndexAddr X) (xIndex X) (xLookup X) (xMapUpdate X) (xMapEntry X) (xEntryStore X) (xRange X) (xNext X) (xEntry X) (xAssert X) (xExtract X) (xCall X) (xGo X) (xDefer X) (xPanic X) (xSend X) (xRecv X) (xSelect X) op
theorem opX_eq (P : Program) (G : Nat) (call : CallF) (st : St) (e : Operand → Option Value) (op : Op) : opX ⟨P, G, call, st, e⟩ op = opF P G call st e op := by
  cases op <;> rfl
def runG (P : Program) (G : Nat) (st : St) (ro : Bool) (o : Oper) (ih : Tm → St → Option (Ex × Tm × St)) (tm : Tm) (r : ResO) : Option (Ex × Tm × St) :=
  Option.rec (motive := fun _ => Option (Ex × Tm × St)) (defF P G ro o ih tm st)
    (fun p => Prod.rec (motive := fun _ => Option (Ex × Tm × St)) (fun x st' => Res.rec (motive := fun _ => Option (Ex × Tm × St)) (fun v => ih (tm.put o.dst v) st') (fun v => some (.pan v, tm, st')) x) p) r
def stepX (P : Program) (G : Nat) (call : CallF) (ro : Bool) (ops : Array Oper) (o : Oper) (ih : Tm → St → Option (Ex × Tm × St)) (tm : Tm) (st : St) : Option (Ex × Tm × St) :=
  Bool.rec (motive := fun _ => Option (Ex × Tm × St)) (ih (tm.put o.dst undef) st) (runG P G st ro o ih tm (opX ⟨P, G, call, st, evO G st tm⟩ o.op)) (wantE ops o tm)
theorem stepX_eq (P : Program) (G : Nat) (call : CallF) (ro : Bool) (ops : Array Oper) (o : Oper) (ih : Tm → St → Option (Ex × Tm × St)) (tm : Tm) (st : St) : stepX P G call ro ops o ih tm st = stepF P G call ro ops o ih tm st := by
  unfold stepX stepF
  cases wantE ops o tm with
  | false => rfl
  | true =>
    show runG P G st ro o ih tm _ = _
    rw [opX_eq]
    unfold runG runF
    cases opF P G call st (evO G st tm) o.op with
    | none => rfl
    | some p => obtain ⟨x, st'⟩ := p; cases x <;> rfl
def evOpsG (P : Program) (G : Nat) (call : CallF) (ro : Bool) (ops : Array Oper) (l : List Oper) : Tm → St → Option (Ex × Tm × St) :=
  List.rec (motive := fun _ => Tm → St → Option (Ex × Tm × St)) (fun tm st => some (.norm, tm, st)) (fun o _ ih => stepX P G call ro ops o ih) l
theorem evOpsG_eq (P : Program) (G : Nat) (call : CallF) (ro : Bool) (ops : Array Oper) : ∀ (l : List Oper) (tm : Tm) (st : St), evOpsG P G call ro ops l tm st = evOpsF P G call ro ops l tm st
  | [], tm, st => rfl
  | o :: l, tm, st => by
    have ih : evOpsG P G call ro ops l = evOpsF P G call ro ops l := funext fun tm => funext fun st => evOpsG_eq P G call ro ops l tm st
    show stepX P G call ro ops o (evOpsG P G call ro ops l) tm st = stepF P G call ro ops o (evOpsF P G call ro ops l) tm st
    rw [stepX_eq, ih]
end Go.Wx
end PEv22g
/- The evaluator: regions that draw their order: the walk. -/
noncomputable section PEv23
set_option linter.unusedVariables false
set_option linter.unusedSimpArgs false
namespace Go.Wx
open Go.RowKit
def isHv (P : Program) : Op → Bool
  | .alloc _ | .box _ _ | .buildSlice _ _ _ | .store _ _ _ | .makeSlice _ _ _ | .makeMap _ _ | .mapUpdate _ _ _ _ | .range _ _ | .next _ _ | .panic _ => true
  | .convert _ dst _ => match P.underlying dst with
    | some (.slice _) => true
    | _ => false
  | .call ⟨.builtin .len, _, _⟩ | .call ⟨.builtin .min, _, _⟩ | .call ⟨.builtin .max, _, _⟩ | .call ⟨.builtin .cap, _, _⟩ | .call ⟨.builtin .unsafeSliceData, _, _⟩ => false
  | .call _ => true
  | _ => false
def isLit : Op → Bool
  | .buildSlice _ _ _ => true
  | _ => false
def opAt (ops : Array Oper) (p : Op → Bool) (i : Nat) : Bool := match ops[i]? with
  | some o => p o.op
  | none => false
def hvList (P : Program) (ops : Array Oper) : List Nat := (List.range ops.size).filter (opAt ops (isHv P))
def chainB (ops : Array Oper) : List Nat → Bool
  | x :: y :: r => memN (ancL ops y) x && chainB ops (y :: r)
  | _ => true
/-- Literals' blocks as late as may be. -/
def delayE (ops : Array Oper) (hv fr : List Nat) : List Nat → List Nat → List Nat
  | [], D => D
  | i :: l, D => if memN fr i then delayE ops hv fr l (D ++ [i])
    else if memN hv i then (let A := ancL ops i; (D.filter (memN A)) ++ i :: delayE ops hv fr l (D.filter fun d => !memN A d))
    else if (let A := ancL ops i; D.any (memN A)) then delayE ops hv fr l (D ++ [i])
    else i :: delayE ops hv fr l D
structure PlanE where
  σ : List Nat
  hv : List Nat
  fr : List Nat
def planOf (P : Program) (ops : Array Oper) : PlanE :=
  let H := hvList P ops
  if chainB ops H then ⟨List.range ops.size, H, []⟩
  else
    let fr := H.filter (opAt ops isLit)
    let hv := H.filter fun i => !(opAt ops isLit i)
    ⟨delayE ops hv fr (List.range ops.size) [], hv, fr⟩
/-- What a walk has met: its readers; the states behind heavy and loose operations; the loose blocks; those that are held. -/
structure Met where
  rs : List (Nat × List Nat × List (Nat × Nat × Value))
  bs : List (Nat × St)
  fs : List (Nat × Nat × St)
  ps : List Nat
def flE (P : Program) (n0 : Nat) (st : St) (e : Operand → Option Value) (op : Op) : Option (Value × Nat × Nat) := match op with
  | .load t x => match e x with
    | some (.pointer (some ⟨i, off, none⟩)) => if Nat.blt i n0 then (match P.underlying t, cellsOf st i with
      | some d, some c => if aggD d then none else (match c[off]? with
        | some v => if flatV v then some (v, i, off) else none
        | none => none)
      | _, _ => none) else none
    | _ => none
  | _ => none
def covE (ops : Array Oper) (j x : Nat) : List (Nat × Nat × St) → Option Nat
  | [] => none
  | (f, id, _) :: l => if Nat.beq id x && bef ops f j then some f else covE ops j x l
/-- A region that draws. -/
def evD (P : Program) (G : Nat) (call : CallF) (ops : Array Oper) (hv fr : List Nat) (n0 : Nat) : List Nat → Tm → St → Met → Option (Ex × Tm × St × Met)
  | [], tm, st, m => some (.norm, tm, st, m)
  | i :: rest, tm, st, m => match ops[i]? with
    | none => none
    | some o =>
      if wantE ops o tm then
        (if memN hv i then
          match opE P G call st (evO G st tm) o.op with
          | some (.ret v, st') => evD P G call ops hv fr n0 rest (tm.put o.dst v) st' { m with bs := (i, st') :: m.bs }
          | some (.pan v, st') => (match rest with
            | [] => some (.pan v, tm, st', m)
            | _ => none)
          | none => none
        else if memN fr i then
          match o.op with
          | .buildSlice t n parts => match partsO (evO G st tm) parts.toList with
            | some ps => match buildSliceE P G st t n ps with
              | some (v, st') => evD P G call ops hv fr n0 rest (tm.put o.dst v) st' { m with bs := (i, st') :: m.bs, fs := (i, st.n, st') :: m.fs }
              | none => none
            | none => none
          | _ => none
        else match flE P n0 st (evO G st tm) o.op with
          | some (v, k, off) => evD P G call ops hv fr n0 rest (tm.put o.dst v) st { m with rs := (i, [], [(k, off, v)]) :: m.rs }
          | none => match rdOp P st (evO G st tm) o.op with
            | some (v, r) => evD P G call ops hv fr n0 rest (tm.put o.dst v) st { m with rs := (i, r.filter (fun x => (covE ops i x m.fs).isNone), []) :: m.rs, ps := r.filterMap (fun x => covE ops i x m.fs) ++ m.ps }
            | none => none)
      else if memN fr i then none
      else evD P G call ops hv fr n0 rest (tm.put o.dst undef) st m
def oldB (st' : St) (clk : Nat) (i : Nat) : Bool := match st'.h.get i with
  | some (ab, v) => ab.live && Nat.ble v clk
  | none => false
def flatEqB : Value → Value → Bool
  | .bool a, .bool b => a == b
  | .int k a, .int k' b => decide (k = k') && decide (a = b)
  | .string a, .string b => strEq a.data.toList b.data.toList
  | .pointer none, .pointer none => true
  | .slice none 0 0, .slice none 0 0 => true
  | .map none, .map none => true
  | .nilFunc, .nilFunc => true
  | .nilIface, .nilIface => true
  | _, _ => false
def cellIs (st : St) (i o : Nat) (v : Value) : Bool := match cellsOf st i with
  | some c => match c[o]? with
    | some u => flatV v && flatEqB u v
    | none => false
  | none => false
def chkR (ops : Array Oper) (st st' : St) (R : Met) : Bool :=
  (R.rs.all fun (j, rl, fl) =>
    (rl.all fun r => oldB st st.clk r && R.bs.all fun (i, s) => bef ops j i || oldB s st.clk r) &&
    (fl.all fun (i, o, v) => cellIs st i o v && R.bs.all fun (k, s) => bef ops j k || cellIs s i o v)) &&
  (R.ps.all fun f => R.fs.all fun (f', id, s) => !(Nat.beq f' f) || oldB st' s.clk id)
def lastS (ops : Array Oper) (m : Nat) : Bool := let A := ancL ops m; (List.range ops.size).all fun i => Nat.beq i m || memN A i
def evDraw (P : Program) (G : Nat) (call : CallF) (ops : Array Oper) (tm : Tm) (st : St) : Option (Ex × Tm × St) :=
  let p := planOf P ops
  if planB ops p.σ p.hv p.fr then
    match evD P G call ops p.hv p.fr st.n p.σ tm st ⟨[], [], [], []⟩ with
    | some (.norm, tm', st', R) => if chkR ops st st' R then some (.norm, tm', st') else none
    | some (.pan v, tm', st', R) => (match p.σ.getLast? with
      | some m => if lastS ops m && chkR ops st st' R then some (.pan v, tm', st') else none
      | none => none)
    | _ => none
  else none
theorem flatEqB_eq {u v : Value} (h : flatEqB u v = true) : u = v := by
  unfold flatEqB at h
  split at h <;> first
    | rfl
    | (cases h; done)
    | skip
  · rw [beq_iff_eq] at h; rw [h]
  · simp only [Bool.and_eq_true, decide_eq_true_eq] at h; rw [h.1, h.2]
  · rw [strEq_iff, beq_iff_eq] at h
    rename_i a b
    congr 1
    cases a; cases b
    rename_i x y
    cases x; cases y
    simp only at h
    rw [h]
theorem oldB_at {st' : St} {clk j : Nat} (h : oldB st' clk j = true) : ∃ x, st'.h.get j = some x ∧ x.1.live = true ∧ x.2 ≤ clk := by
  unfold oldB at h
  split at h
  · rename_i ab v hg
    simp only [Bool.and_eq_true, Nat.ble_eq] at h
    exact ⟨_, hg, h.1, h.2⟩
  · cases h
section
variable {P : Program} {M : Mp} {G : Nat} {st : St} {w w' : World}
/-- A literal's block, whatever the world. -/
theorem buildSliceE_all {t : TypeId} {len : Nat} {parts parts' : List (Nat × Value)} {u : Value} {st' : St} (h : buildSliceE P G st t len parts = some (u, st')) (hp : PR M parts parts') :
    ∃ elem c C, G ≤ st.n ∧ st.n < bigN ∧ u = .slice (some ⟨st.n, 0, none⟩) len len ∧ st' = st.new (.cells c elem false false false none) ∧ VRs M c C.toList ∧
      ∀ w, (Instr.buildSlice t len parts'.toArray).run P w = .ok (.slice (some ⟨w.heap.size, 0, none⟩) len len) (w.alloc (.cells C elem)) := by
  unfold buildSliceE at h
  split at h
  · rename_i elem hd
    split at h
    · rename_i d z he hz
      split at h
      · rename_i hcond
        simp only [Bool.and_eq_true, Nat.beq_eq, Nat.ble_eq] at hcond
        split at h
        · rename_i c hf
          split at h
          · rename_i i st1 hn
            cases h
            unfold newE at hn
            split at hn
            · rename_i hnb
              simp only [Bool.and_eq_true, Nat.ble_eq, Nat.blt_eq] at hnb
              cases hn
              obtain ⟨z1, z2⟩ := zeroE_sound (M := M) hz
              have hzc := z1.cells
              rw [vcells_eq] at hf hcond hzc
              rw [Array.length_toList] at hcond
              have key : ∀ (zc : Array Value), VRs M (reps len z.cells.toList) ((Array.range (len * P.cellsOf elem)).map (fun k => zc[k % zc.size]!)).toList →
                  (∀ C, Instr.fill (fun i => some (i * P.cellsOf elem, P.cellsOf elem)) ((Array.range (len * P.cellsOf elem)).map (fun k => zc[k % zc.size]!)) parts' = some C →
                    ∀ w, (Instr.buildSlice t len parts'.toArray).run P w = .ok (.slice (some ⟨w.heap.size, 0, none⟩) len len) (w.alloc (.cells C elem))) →
                  ∃ elem c' C, G ≤ st.n ∧ st.n < bigN ∧ (Value.slice (some ⟨st.n, 0, none⟩) len len) = .slice (some ⟨st.n, 0, none⟩) len len ∧ st.new (.cells c elem false false false none) = st.new (.cells c' elem false false false none) ∧ VRs M c' C.toList ∧
                    ∀ w, (Instr.buildSlice t len parts'.toArray).run P w = .ok (.slice (some ⟨w.heap.size, 0, none⟩) len len) (w.alloc (.cells C elem)) := by
                intro zc hzc' hrun
                obtain ⟨C, e1, e2⟩ := fillE_rel hf hzc' hp
                exact ⟨elem, c, C, hnb.1, hnb.2, rfl, rfl, e2, hrun C e1⟩
              suffices hs : ∃ elem' c' C, G ≤ st.n ∧ st.n < bigN ∧ (Value.slice (some ⟨st.n, 0, none⟩) len len) = .slice (some ⟨st.n, 0, none⟩) len len ∧ st.new (.cells c elem false false false none) = st.new (.cells c' elem' false false false none) ∧ VRs M c' C.toList ∧
                    ∀ w, (Instr.buildSlice t len parts'.toArray).run P w = .ok (.slice (some ⟨w.heap.size, 0, none⟩) len len) (w.alloc (.cells C elem')) from hs
              by_cases h0 : len * P.cellsOf elem = 0
              · have hzz : VRs M (reps len z.cells.toList) ((Array.range (len * P.cellsOf elem)).map (fun k => (#[] : Array Value)[k % (#[] : Array Value).size]!)).toList := by
                  rw [h0]
                  have : reps len z.cells.toList = [] := List.eq_nil_of_length_eq_zero (by rw [reps_len, Array.length_toList, hcond.1]; exact h0)
                  rw [this]; simp; exact .nil
                obtain ⟨C, e1, e2⟩ := fillE_rel hf hzz hp
                refine ⟨elem, c, C, hnb.1, hnb.2, rfl, rfl, e2, fun w => ?_⟩
                unfold Instr.buildSlice
                rw [Sem.run_bind, run_underlying hd, Result.andThen_ok]
                dsimp only
                rw [Sem.run_bind, run_sizeOf_u he, Result.andThen_ok]
                rw [if_neg (by omega)]
                rw [if_pos h0, Sem.run_bind, Sem.run_pure, Result.andThen_ok, e1]
                rfl
              · have hzz : VRs M (reps len z.cells.toList) ((Array.range (len * P.cellsOf elem)).map (fun k => z.cells[k % z.cells.size]!)).toList := by
                  rw [← hcond.1, zeros_reps]; exact hzc.reps len
                obtain ⟨C, e1, e2⟩ := fillE_rel hf hzz hp
                refine ⟨elem, c, C, hnb.1, hnb.2, rfl, rfl, e2, fun w => ?_⟩
                unfold Instr.buildSlice
                rw [Sem.run_bind, run_underlying hd, Result.andThen_ok]
                dsimp only
                rw [Sem.run_bind, run_sizeOf_u he, Result.andThen_ok]
                rw [if_neg (by omega)]
                rw [if_neg h0, Sem.run_bind, z2, Result.andThen_ok, Sem.run_bind, Sem.run_pure, Result.andThen_ok, e1]
                rfl
            · cases hn
          · cases h
        · cases h
      · cases h
    · cases h
  · cases h
/-! ### Worlds with further blocks -/
theorem RR.gx {g g' : Nat → Prop} (hR : RR P G M st w) (k : GX g w g' w') : RR P G M st w' := by
  refine ⟨fun i L h => ⟨(hR.dom i L h).1, Nat.lt_of_lt_of_le (hR.dom i L h).2 k.size⟩, fun i ab v h => ?_, hR.ver, hR.lim, hR.sep, hR.par, hR.glob, hR.plt⟩
  obtain ⟨L, hL, hb⟩ := hR.blk i ab v h
  exact ⟨L, hL, hb.block (k.blk L.b (hR.dom i L hL).2)⟩
theorem Stp.gx {M0 : Mp} {st0 : St} {w0 : World} {g g' : Nat → Prop} (hS : Stp M0 st0 w0 M st w) (hR0 : RR P G M0 st0 w0) (k : GX g w g' w') : Stp M0 st0 w0 M st w' := by
  refine ⟨hS.ext, hS.new, k.os.trans hS.os, k.tape.trans hS.tape, k.output.trans hS.output, Nat.le_trans hS.size k.size, hS.clk, hS.ver, hS.n, fun b hb => ?_, hS.same, fun j x L h1 h2 h3 h4 => ?_⟩
  · rw [k.blk b (Nat.lt_of_lt_of_le hb hS.size)]
    exact hS.frame b hb
  · rw [k.blk L.b (Nat.lt_of_lt_of_le (hR0.dom j L h4).2 hS.size)]
    exact hS.keep j x L h1 h2 h3 h4
/-- A loose block is taken over. -/
theorem RR.adopt (hR : RR P G M st w) (hn : st.n < bigN) (hG : G ≤ st.n) {c : List Value} {C : Array Value} {elem : TypeId} {b : Nat} (hb : w.heap[b]? = some (.cells C elem)) (hc : VRs M c C.toList) (hout : ∀ i L, M i = some L → L.b ≠ b) :
    RR P G (M.add st.n ⟨b, 0, C.size, P.cellsOf elem, false⟩) (st.new (.cells c elem false false false none)) w := by
  have hlt : st.n + 1 < 2 ^ 20 := by unfold bigN at hn; omega
  have hg := fun j => St.get_new st j (.cells c elem false false false none) hlt
  have hv := fun j => St.ver_new st j (.cells c elem false false false none) hlt
  have hext := Mp.add_ext hR ⟨b, 0, C.size, P.cellsOf elem, false⟩
  have hself : (M.add st.n ⟨b, 0, C.size, P.cellsOf elem, false⟩) st.n = some ⟨b, 0, C.size, P.cellsOf elem, false⟩ := by unfold Mp.add; rw [if_pos rfl]
  have hadd : ∀ j Lj, (M.add st.n ⟨b, 0, C.size, P.cellsOf elem, false⟩) j = some Lj → j ≠ st.n → M j = some Lj := fun j Lj h hne => by
    unfold Mp.add at h; rw [if_neg hne] at h; exact h
  have hlen := hc.len
  rw [Array.length_toList] at hlen
  refine ⟨fun i L h => ?_, fun i ab v h => ?_, fun i => ?_, ?_, fun i j ab bb vi vj Li Lj h1 h2 l1 l2 m1 m2 e hne => ?_, fun i j ab bb vi vj h1 h2 l1 l2 e => ?_, fun gg L h1 h2 => ?_, fun j bb v p h1 h2 => ?_⟩
  · by_cases hi : i = st.n
    · subst hi
      rw [hself] at h; cases h
      exact ⟨Nat.lt_succ_self _, lt_of_some hb⟩
    · obtain ⟨h1, h2⟩ := hR.dom i L (hadd i L h hi)
      exact ⟨Nat.lt_succ_of_lt h1, h2⟩
  · rw [hg] at h
    split at h
    · rename_i hi; subst hi; cases h
      refine ⟨_, hself, rfl, C, (0, 0), hb, by simp, (by simp only; omega), fun _ => ⟨rfl, (by simp only; omega)⟩, fun e => (by cases e), fun _ j _ _ => (by simp), fun j v hj => ?_⟩
      obtain ⟨v', e1, e2⟩ := hc.get j v hj
      rw [Nat.zero_add]
      exact ⟨v', by rw [← Array.getElem?_toList]; exact e1, e2.ext hext⟩
    · obtain ⟨L, hL, hB⟩ := hR.blk i ab v h
      exact ⟨L, hext _ _ hL, hB.ext hext⟩
  · rw [hv]
    show _ ≤ st.clk + 1
    split
    · exact Nat.le_refl _
    · exact Nat.le_trans (hR.ver i) (Nat.le_succ _)
  · show st.n + 1 ≤ bigN
    omega
  · rw [hg] at h1 h2
    split at h1
    · rename_i hi; cases h1
      split at h2
      · rename_i hj; exact absurd (hi.trans hj.symm) hne
      · rename_i hj
        subst hi
        rw [hself] at m1; cases m1
        exact absurd e.symm (hout j Lj (hadd j Lj m2 hj))
    · rename_i hi
      split at h2
      · rename_i hj; cases h2
        subst hj
        rw [hself] at m2; cases m2
        exact absurd e (hout i Li (hadd i Li m1 hi))
      · rename_i hj
        exact hR.sep i j ab bb vi vj Li Lj h1 h2 l1 l2 (hadd i Li m1 hi) (hadd j Lj m2 hj) e hne
  · rw [hg] at h1 h2
    split at h2
    · cases h2; cases e
    · split at h1
      · rename_i hi; cases h1
        have := hR.plt j bb vj i h2 e
        have := hR.lt h2
        omega
      · exact hR.par i j ab bb vi vj h1 h2 l1 l2 e
  · by_cases hi : gg = st.n
    · omega
    · exact hR.glob gg L h1 (hadd gg L h2 hi)
  · rw [hg] at h1
    split at h1
    · cases h1; cases h2
    · exact hR.plt j bb v p h1 h2
theorem Stp.adopt {M0 : Mp} {st0 : St} {w0 : World} (hS : Stp M0 st0 w0 M st w) (hR : RR P G M st w) (hn : st.n < bigN) {L : Loc} (hb : w0.heap.size ≤ L.b) (ab : AB) (hM0 : ∀ i L, M0 i = some L → i < st0.n) : Stp M0 st0 w0 (M.add st.n L) (st.new ab) w := by
  have hlt : st.n + 1 < 2 ^ 20 := by unfold bigN at hn; omega
  have hg := fun j => St.get_new st j ab hlt
  have hv := fun j => St.ver_new st j ab hlt
  have hext := Mp.add_ext hR L
  refine ⟨hS.ext.trans hext, fun i Li h hno => ?_, hS.os, hS.tape, hS.output, hS.size, Nat.le_succ_of_le hS.clk, fun i => ?_, Nat.le_succ_of_le hS.n, fun b hb => ?_, fun j x h1 h2 h3 => ?_, fun j x Lj h1 h2 h3 h4 => ?_⟩
  · by_cases hi : i = st.n
    · subst hi
      unfold Mp.add at h
      rw [if_pos rfl] at h
      cases h
      exact .inl hb
    · unfold Mp.add at h
      rw [if_neg hi] at h
      rcases hS.new i Li h hno with h1 | ⟨j, Lj, a1, a2, a3⟩
      · exact .inl h1
      · refine .inr ⟨j, Lj, a1, a2, ?_⟩
        rw [hv]
        split
        · rename_i e
          have := hM0 j Lj a1
          have := hS.n
          omega
        · exact a3
  · rw [hv]
    split
    · rename_i e
      have := hS.ver i
      have := hS.clk
      have hz : st.ver i ≤ st.clk := hR.ver i
      omega
    · exact hS.ver i
  · rcases hS.frame b hb with h | ⟨i, Li, a1, a2, a3⟩
    · exact .inl h
    · refine .inr ⟨i, Li, a1, a2, ?_⟩
      rw [hv]
      split
      · rename_i e
        have := hM0 i Li a1
        have := hS.n
        omega
      · exact a3
  · rw [hg] at h1
    split at h1
    · cases h1
      have := hS.clk
      simp at h3
      omega
    · exact hS.same j x h1 h2 h3
  · rw [hg] at h1
    split at h1
    · cases h1
      have := hS.clk
      simp at h3
      omega
    · exact hS.keep j x Lj h1 h2 h3 h4
end
end Go.Wx
end PEv23
/- The evaluator: regions that draw their order are sound. -/
noncomputable section PEv23b
set_option linter.unusedVariables false
set_option linter.unusedSimpArgs false
namespace Go.Wx
open Go.RowKit
section
variable {P : Program} {M : Mp} {G : Nat} {st : St} {w w' : World}
def Cls (M0 : Mp) (w0 : World) (R : Met) (j : Nat) (w' : World) : Prop :=
  w0.heap.size ≤ w'.heap.size ∧ ∀ rl fl, (j, rl, fl) ∈ R.rs → (∀ r, r ∈ rl → ∀ L, M0 r = some L → w'.heap[L.b]? = w0.heap[L.b]?) ∧ ∀ i o v, (i, o, v) ∈ fl → ∀ L, M0 i = some L → w'.cell? ⟨L.b, L.o + o, none⟩ = some v
theorem flE_sound (hR : RR P G M st w) {a : Act} {n0 : Nat} {e : Operand → Option Value} (he : ∀ x v, e x = some v → VR M v (a.eval x)) {o : Oper} {v : Value} {k off : Nat} (h : flE P n0 st e o.op = some (v, k, off)) :
    k < n0 ∧ flatV v = true ∧ ∃ L, M k = some L ∧ ∀ w', w'.cell? ⟨L.b, L.o + off, none⟩ = some v → (execOp a.eval o).run P w' = .ok (.value v) w' := by
  obtain ⟨dst, op, ty, pos, after, guard⟩ := o
  dsimp only at h
  unfold flE at h
  split at h
  case h_2 => cases h
  rename_i t x
  split at h
  case h_2 => cases h
  rename_i i off' hx
  split at h
  case isFalse => cases h
  rename_i hn
  rw [Nat.blt_eq] at hn
  split at h
  case h_2 => cases h
  rename_i d c hd hc
  split at h
  case isTrue => cases h
  rename_i hg
  split at h
  case h_2 => cases h
  rename_i u hu
  split at h
  case isFalse => cases h
  rename_i hf
  cases h
  obtain ⟨L, bt, opn, ro, hL, hC⟩ := cellsOf_sound hR hc
  have hv := he _ _ hx
  refine ⟨hn, hf, L, hL, fun w' hw' => ?_⟩
  show (do pure (Next.value (← Instr.loadAt t (a.eval x))) : Sem Next).run P w' = _
  generalize a.eval x = y at hv
  cases hv with
  | flat hh => simp [flatV] at hh
  | ptr hL' =>
    rename_i L'
    rw [hL] at hL'; cases hL'
    refine run_v ?_
    simp only [Instr.loadAt, Instr.sureAddr, Sem.run_bind, Sem.run_pure, Result.andThen_ok]
    exact run_loadVar_one hd (by simpa using hg) hw'
theorem cellIs_sound (hR : RR P G M st w) {i o : Nat} {v : Value} (h : cellIs st i o v = true) : ∃ L, M i = some L ∧ w.cell? ⟨L.b, L.o + o, none⟩ = some v := by
  unfold cellIs at h
  split at h
  · rename_i c hc
    split at h
    · rename_i u hu
      rw [Bool.and_eq_true] at h
      have e := flatEqB_eq h.2
      subst e
      obtain ⟨L, bt, opn, ro, hL, hC⟩ := cellsOf_sound hR hc
      obtain ⟨_, C, fz, h1, _, _, _, _, _, hv⟩ := hC
      obtain ⟨v', e, hv'⟩ := hv o u hu
      have := VR.flat_eq hv' h.1
      subst this
      exact ⟨L, hL, by rw [cell?_of_heap h1]; exact e⟩
    · cases h
  · cases h
/-! ### What a walk leaves behind -/
theorem opE_exists {call : CallF} (hcall : CallOk P G call) (hR : RR P G M st w) {a : Act} {e : Operand → Option Value} (he : ∀ x v, e x = some v → VR M v (a.eval x)) {o : Oper} {v : Value} {st' : St} (h : opE P G call st e o.op = some (.ret v, st')) :
    ∃ M' v' w', VR M' v v' ∧ RR P G M' st' w' ∧ Stp M st w M' st' w' := by
  obtain ⟨b, u, w', hh, _⟩ := upon_some (And.left <| opE_sound (K := fun a' w' => ∃ M' v', VR M' v v' ∧ RR P G M' st' w' ∧ Stp M st w M' st' w') (Q := NoQ) hcall hR he h (fun u hu M' v' w' h1 h2 h3 => by cases hu; exact ⟨M', v', h1, h2, h3⟩) (fun u hu => by cases hu))
  obtain ⟨M', v', h1, h2, h3⟩ := hh
  exact ⟨M', v', w', h1, h2, h3⟩
theorem opE_existsP {call : CallF} (hcall : CallOk P G call) (hR : RR P G M st w) {a : Act} {e : Operand → Option Value} (he : ∀ x v, e x = some v → VR M v (a.eval x)) {o : Oper} {v : Value} {st' : St} (h : opE P G call st e o.op = some (.pan v, st')) :
    ∃ M' w', Stp M st w M' st' w' ∧ RR P G M' st' w' := by
  have h1 := And.left <| opE_sound (o := o) (K := fun _ _ => False) (Q := fun e a' w' => ∃ M', Stp M st w M' st' w' ∧ RR P G M' st' w') hcall hR he h (fun u hu => by cases hu) (fun u hu M' v' w' h1 h2 h3 => ⟨M', h3, h2⟩)
  unfold Oper.wp at h1
  generalize (execOp a.eval o).run P w = r at h1
  cases r with
  | ok x w' =>
    cases x <;> simp only [Oper.upon] at h1
    all_goals first | exact h1.elim | skip
    · obtain ⟨e, w'', fr, hh, _⟩ := h1 []
      cases e with
      | returned v => exact False.elim hh
      | panicked c => obtain ⟨M', h2⟩ := hh; exact ⟨M', w'', h2⟩
      | outgrown => obtain ⟨_, w3, M', h2⟩ := hh; exact ⟨M', w3, h2⟩
    · obtain ⟨v, w'', hh, _⟩ := h1 default []
      exact hh.elim
  | halt x w' =>
    cases x <;> simp only [Oper.upon] at h1
    all_goals first | exact h1.elim | skip
    obtain ⟨M', h2⟩ := h1
    exact ⟨M', w', h2⟩
structure Grow (m R : Met) : Prop where
  rs : ∀ y, y ∈ m.rs → y ∈ R.rs
  bs : ∀ y, y ∈ m.bs → y ∈ R.bs
  fs : ∀ y, y ∈ m.fs → y ∈ R.fs
  ps : ∀ y, y ∈ m.ps → y ∈ R.ps
theorem evD_grow {call : CallF} (ops : Array Oper) (hv fr : List Nat) (n0 : Nat) : ∀ (l : List Nat) (tm : Tm) (st : St) (m : Met) (x : Ex) (tm' : Tm) (st' : St) (R : Met),
    evD P G call ops hv fr n0 l tm st m = some (x, tm', st', R) → Grow m R ∧ tm'.ds = tm.ds
  | [], tm, st, m, x, tm', st', R, h => by cases h; exact ⟨⟨fun _ h => h, fun _ h => h, fun _ h => h, fun _ h => h⟩, rfl⟩
  | i :: l, tm, st, m, x, tm', st', R, h => by
    unfold evD at h
    split at h
    · cases h
    · split at h
      · split at h
        · split at h
          · obtain ⟨k1, k2⟩ := evD_grow ops hv fr n0 l _ _ _ _ _ _ _ h
            exact ⟨⟨k1.rs, fun y hy => k1.bs y (List.mem_cons_of_mem _ hy), k1.fs, k1.ps⟩, k2.trans (put_ds _ _ _)⟩
          · split at h
            · cases h; exact ⟨⟨fun _ h => h, fun _ h => h, fun _ h => h, fun _ h => h⟩, rfl⟩
            · cases h
          · cases h
        · split at h
          · split at h
            · split at h
              · split at h
                · obtain ⟨k1, k2⟩ := evD_grow ops hv fr n0 l _ _ _ _ _ _ _ h
                  exact ⟨⟨k1.rs, fun y hy => k1.bs y (List.mem_cons_of_mem _ hy), fun y hy => k1.fs y (List.mem_cons_of_mem _ hy), k1.ps⟩, k2.trans (put_ds _ _ _)⟩
                · cases h
              · cases h
            · cases h
          · split at h
            · obtain ⟨k1, k2⟩ := evD_grow ops hv fr n0 l _ _ _ _ _ _ _ h
              exact ⟨⟨fun y hy => k1.rs y (List.mem_cons_of_mem _ hy), k1.bs, k1.fs, k1.ps⟩, k2.trans (put_ds _ _ _)⟩
            · split at h
              · obtain ⟨k1, k2⟩ := evD_grow ops hv fr n0 l _ _ _ _ _ _ _ h
                exact ⟨⟨fun y hy => k1.rs y (List.mem_cons_of_mem _ hy), k1.bs, k1.fs, fun y hy => k1.ps y (List.mem_append_right _ hy)⟩, k2.trans (put_ds _ _ _)⟩
              · cases h
      · split at h
        · cases h
        · obtain ⟨k1, k2⟩ := evD_grow ops hv fr n0 l _ _ _ _ _ _ _ h
          exact ⟨k1, k2.trans (put_ds _ _ _)⟩
/-- Stamps behind a walk; and that there is a world at its end. -/
theorem evD_some {call : CallF} (hcall : CallOk P G call) (ops : Array Oper) (hv fr : List Nat) (n0 : Nat) : ∀ (l : List Nat) (M : Mp) (st : St) (w : World) (tm : Tm) (a : Act) (m : Met) {tm' : Tm} {st' : St} {R : Met},
    evD P G call ops hv fr n0 l tm st m = some (.norm, tm', st', R) → RR P G M st w → TR M tm a.tmps → (∃ M' w' a', RR P G M' st' w' ∧ TR M' tm' (Act.tmps a')) ∧ st.clk ≤ st'.clk ∧ ∀ j x, st'.h.get j = some x → x.1.live = true → x.2 ≤ st.clk → st.h.get j = some x
  | [], M, st, w, tm, a, m, tm', st', R, h, hR, hT => by cases h; exact ⟨⟨M, w, a, hR, hT⟩, Nat.le_refl _, fun _ _ h _ _ => h⟩
  | i :: l, M, st, w, tm, a, m, tm', st', R, h, hR, hT => by
    unfold evD at h
    split at h
    · cases h
    · rename_i o ho
      split at h
      · split at h
        · split at h
          · rename_i v st1 hop
            obtain ⟨M1, v', w1, h1, h2, h3⟩ := opE_exists (a := a) hcall hR (fun y u e => evO_sound hR (a := a) hT e) hop
            obtain ⟨q1, q2, q3⟩ := evD_some hcall ops hv fr n0 l M1 st1 w1 (tm.put o.dst v) (a.put o.dst v') _ h h2 (TR.put (a := a) (hT.ext h3.ext) o.dst h1)
            exact ⟨q1, Nat.le_trans h3.clk q2, fun j x g1 g2 g3 => h3.same j x (q3 j x g1 g2 (Nat.le_trans g3 h3.clk)) g2 g3⟩
          · split at h <;> cases h
          · cases h
        · split at h
          · split at h
            · rename_i t n parts hop
              split at h
              · rename_i ps hps
                split at h
                · rename_i v st1 hb
                  obtain ⟨M1, v', w1, _, h2, h3, h1⟩ := buildSliceE_sound hR hb (partsO_sound (fun y u e => evO_sound hR (a := a) hT e) hps)
                  obtain ⟨q1, q2, q3⟩ := evD_some hcall ops hv fr n0 l M1 st1 w1 (tm.put o.dst v) (a.put o.dst v') _ h h2 (TR.put (a := a) (hT.ext h3.ext) o.dst h1)
                  exact ⟨q1, Nat.le_trans h3.clk q2, fun j x g1 g2 g3 => h3.same j x (q3 j x g1 g2 (Nat.le_trans g3 h3.clk)) g2 g3⟩
                · cases h
              · cases h
            · cases h
          · split at h
            · rename_i v k off hf
              obtain ⟨_, hfl, _⟩ := flE_sound (a := a) (o := o) hR (fun y u e => evO_sound hR (a := a) hT e) hf
              exact evD_some hcall ops hv fr n0 l M st w (tm.put o.dst v) (a.put o.dst v) _ h hR (TR.put (a := a) hT o.dst (.flat hfl))
            · split at h
              · rename_i v r hr
                obtain ⟨v', hv', _⟩ := rdOp_sound (a := a) (o := o) hR (fun y u e => evO_sound hR (a := a) hT e) hr
                exact evD_some hcall ops hv fr n0 l M st w (tm.put o.dst v) (a.put o.dst v') _ h hR (TR.put (a := a) hT o.dst hv')
              · cases h
      · split at h
        · cases h
        · exact evD_some hcall ops hv fr n0 l M st w (tm.put o.dst undef) (a.put o.dst undef) _ h hR (TR.put (a := a) hT o.dst (.undef M))
theorem covE_some {ops : Array Oper} {j x f : Nat} : ∀ {l : List (Nat × Nat × St)}, covE ops j x l = some f → bef ops f j = true ∧ ∃ s, (f, x, s) ∈ l
  | [], h => by cases h
  | (f', id, s) :: l, h => by
    unfold covE at h
    split at h
    · rename_i hc
      rw [Bool.and_eq_true, Nat.beq_eq] at hc
      cases h
      obtain ⟨e, hb⟩ := hc
      subst e
      exact ⟨hb, s, by simp⟩
    · obtain ⟨h1, s', h2⟩ := covE_some h
      exact ⟨h1, s', List.mem_cons_of_mem _ h2⟩
def Done (P : Program) (G : Nat) (M0 : Mp) (st0 : St) (w0 : World) (ds : List Deferred) (tm' : Tm) (st' : St) (a : Act) (w : World) : Prop :=
  ∃ M', TR M' tm' a.tmps ∧ RR P G M' st' w ∧ Stp M0 st0 w0 M' st' w ∧ a.defers = ds
structure Chk (ops : Array Oper) (st0 st' : St) (R : Met) : Prop where
  rl : ∀ j rl fl, (j, rl, fl) ∈ R.rs → ∀ r, r ∈ rl → oldB st0 st0.clk r = true ∧ ∀ i s, (i, s) ∈ R.bs → bef ops j i = true ∨ oldB s st0.clk r = true
  fl : ∀ j rl fl, (j, rl, fl) ∈ R.rs → ∀ i o v, (i, o, v) ∈ fl → cellIs st0 i o v = true ∧ ∀ k s, (k, s) ∈ R.bs → bef ops j k = true ∨ cellIs s i o v = true
  ps : ∀ f, f ∈ R.ps → ∀ id s, (f, id, s) ∈ R.fs → ∃ y, st'.h.get id = some y ∧ y.1.live = true ∧ y.2 ≤ s.clk
theorem evD_sound {call : CallF} (hcall : CallOk P G call) (ops : Array Oper) (hv fr : List Nat) {M0 : Mp} {st0 : St} {w0 : World} {R : Met} {st' : St} {tm' : Tm} {ds : List Deferred} (hR0 : RR P G M0 st0 w0) (hk : Chk ops st0 st' R) :
    ∀ (l : List Nat) (M : Mp) (st : St) (w : World) (tm : Tm) (a : Act) (m : Met) (pn : Pn) (g : Nat → Prop),
    evD P G call ops hv fr st0.n l tm st m = some (.norm, tm', st', R) → RR P G M st w → TR M tm a.tmps → Stp M0 st0 w0 M st w → a.defers = ds → l.Pairwise (RelS ops hv fr) →
    (st = st0 ∨ ∃ i, (i, st) ∈ R.bs ∧ ∀ j ∈ l, bef ops j i = false) →
    (∀ f b x, pn f b x → ∃ id L y, M id = some L ∧ L.b = b ∧ st.h.get id = some y ∧ y.1.live = true ∧ st'.h.get id = some y ∧ w.heap[b]? = some x) →
    (∀ f id s, (f, id, s) ∈ m.fs → memN R.ps f = true → ∃ L x, M id = some L ∧ pn f L.b x) →
    (∀ b, g b → w0.heap.size ≤ b ∧ ∀ i L, M i = some L → L.b ≠ b) →
    TWI P ops ⟨Cls M0 w0 R, hv, fr, memN R.ps⟩ (Done P G M0 st0 w0 ds tm' st') l pn g a w
  | [], M, st, w, tm, a, m, pn, g, h, hR, hT, hS, hd, hpw, hcur, hpin, hcov, hg => by
    cases h
    exact fun g' w' k => ⟨M, hT, hR.gx k, hS.gx hR0 k, hd⟩
  | i :: l, M, st, w, tm, a, m, pn, g, h, hR, hT, hS, hd, hpw, hcur, hpin, hcov, hg => by
    obtain ⟨hpw1, hpw2⟩ := List.pairwise_cons.1 hpw
    have hcur' : st = st0 ∨ ∃ i, (i, st) ∈ R.bs ∧ ∀ j ∈ l, bef ops j i = false := hcur.imp id fun ⟨i, h1, h2⟩ => ⟨i, h1, fun j hj => h2 j (List.mem_cons_of_mem _ hj)⟩
    have hold : ∀ {s : St} {r : Nat}, oldB s st0.clk r = true → ∀ {M1 : Mp} {w1 : World}, Stp M0 st0 w0 M1 s w1 → ∀ L, M0 r = some L → w1.heap[L.b]? = w0.heap[L.b]? := fun {s r} ho {M1 w1} hs L hL => by
      obtain ⟨x, h1, h2, h3⟩ := oldB_at ho
      exact hs.keep r x L h1 h2 h3 hL
    have hgx : ∀ {g1 : Nat → Prop} {w1 : World}, GX g w g1 w1 → ∀ b, g1 b → w0.heap.size ≤ b ∧ ∀ i L, M i = some L → L.b ≠ b := fun {g1 w1} k1 b hb => by
      rcases Nat.lt_or_ge b w.heap.size with hlt | hge
      · exact hg b (k1.old b hlt hb)
      · exact ⟨Nat.le_trans hS.size hge, fun i L hL => by have := (hR.dom i L hL).2; omega⟩
    unfold evD at h
    unfold TWI
    split at h
    · cases h
    · rename_i o ho
      simp only [ho]
      split at h
      · rename_i hw
        have hw' : Region.wanted o (yielded ops a.tmps) = true := by rw [wantE_eq hT ops o]; exact hw
        split at h
        · rename_i hh
          rw [if_pos hh, if_pos hw']
          split at h
          · rename_i v st1 hop
            intro g1 w1 k1
            have hR1 := hR.gx k1
            have hS1 := hS.gx hR0 k1
            refine And.left <| opE_sound hcall hR1 (fun y u e => evO_sound hR1 hT e) hop (fun u hu M1 v' w2 hv' h1 h2 => ?_) (fun u hu => by cases hu)
            cases hu
            have hT1 := (hT.ext h2.ext).put o.dst hv'
            have hS2 := hS1.trans h2
            obtain ⟨hgr, _⟩ := evD_grow ops hv fr st0.n l _ _ _ _ _ _ _ h
            obtain ⟨_, hclk, hsame⟩ := evD_some hcall ops hv fr st0.n l M1 st1 w2 _ (a.put o.dst v') _ h h1 hT1
            have hbs : (i, st1) ∈ R.bs := hgr.bs _ (by simp)
            have hpin1 : ∀ f b x, pn f b x → ∃ id L y, M1 id = some L ∧ L.b = b ∧ st1.h.get id = some y ∧ y.1.live = true ∧ st'.h.get id = some y ∧ w2.heap[b]? = some x := fun f b x hp => by
              obtain ⟨id, L, y, p1, p2, p3, p4, p5, p6⟩ := hpin f b x hp
              have hv3 : y.2 ≤ st.clk := by
                have := hR.ver id
                unfold St.ver at this
                rw [p3] at this
                exact this
              have p7 := hsame id y p5 p4 (Nat.le_trans hv3 h2.clk)
              refine ⟨id, L, y, h2.ext _ _ p1, p2, p7, p4, p5, ?_⟩
              rw [← p2, h2.keep id y L p7 p4 hv3 p1, p2, k1.blk b (lt_of_some p6)]
              exact p6
            refine ⟨⟨fun b hb hlt => ?_, fun f b x hp => ?_, fun j hj => ⟨hS2.size, fun rl fl hrl => ⟨fun r hr L hL => ?_, fun k off u hu L hL => ?_⟩⟩, h2.size⟩, ?_⟩
            · rcases h2.frame b hlt with h3 | ⟨k, L, h3, h4, _⟩
              · exact h3
              · exact absurd h4 ((hgx k1 b hb).2 k L h3)
            · obtain ⟨_, _, _, _, _, _, _, _, p6⟩ := hpin1 f b x hp
              exact p6
            · rcases (hk.rl j rl fl hrl r hr).2 i st1 hbs with h3 | h3
              · rw [hj] at h3; cases h3
              · exact hold h3 hS2 L hL
            · rcases (hk.fl j rl fl hrl k off u hu).2 i st1 hbs with h3 | h3
              · rw [hj] at h3; cases h3
              · obtain ⟨L', e1, e2⟩ := cellIs_sound h1 h3
                rw [hS2.ext _ _ hL] at e1; cases e1
                exact e2
            · refine evD_sound hcall ops hv fr hR0 hk l M1 st1 w2 _ _ _ pn _ h h1 hT1 hS2 ((put_defers _ _ _).trans hd) hpw2 (.inr ⟨i, hbs, fun j hj => (hpw1 j hj).back⟩) hpin1 (fun f id s hf hps => ?_) (fun b hb => ?_)
              · obtain ⟨L, x, c1, c2⟩ := hcov f id s hf hps
                exact ⟨L, x, h2.ext _ _ c1, c2⟩
              · obtain ⟨q1, q2⟩ := hgx k1 b hb.1
                refine ⟨q1, fun k L hL => ?_⟩
                cases hM : M k with
                | some L' =>
                  have := h2.ext _ _ hM
                  rw [hL] at this; cases this
                  exact q2 k L hM
                | none =>
                  rcases h2.new k L hL hM with h3 | ⟨j, Lj, h3, h4, _⟩
                  · have := hb.2; omega
                  · rw [← h4]; exact q2 j Lj h3
          · split at h <;> cases h
          · cases h
        · rename_i hh
          rw [if_neg hh]
          split at h
          · rename_i hf
            rw [if_pos hf]
            split at h
            · rename_i t n parts hop
              split at h
              · rename_i ps hps
                split at h
                · rename_i v st1 hb
                  have hparts := partsO_sound (ρ := a.eval) (fun y u e => evO_sound hR hT e) hps
                  obtain ⟨elem, c, C, hG, hn, hu, hst, hc, hrun⟩ := buildSliceE_all hb hparts
                  refine ⟨.cells C elem, fun b => .slice (some ⟨b, 0, none⟩) n n, fun w' => ?_, fun g1 w1 b k1 hgb hbb => ?_⟩
                  · have := hrun w'
                    have hparr : ((parts.toList.map fun (i, x) => (i, a.eval x)).toArray) = parts.map fun (i, x) => (i, a.eval x) := by
                      apply Array.ext'; simp
                    rw [hparr] at this
                    unfold execOp
                    rw [hop]
                    exact run_v this
                  · subst hst
                    subst hu
                    obtain ⟨q1, q2⟩ := hgx k1 b hgb
                    have hR1 := hR.gx k1
                    have hS1 := hS.gx hR0 k1
                    have hA := hR1.adopt hn hG hbb hc q2
                    have hext := Mp.add_ext hR1 (⟨b, 0, C.size, P.cellsOf elem, false⟩ : Loc)
                    have hself : (M.add st.n ⟨b, 0, C.size, P.cellsOf elem, false⟩) st.n = some ⟨b, 0, C.size, P.cellsOf elem, false⟩ := by unfold Mp.add; rw [if_pos rfl]
                    have hSA := hS1.adopt hR1 hn (L := ⟨b, 0, C.size, P.cellsOf elem, false⟩) q1 (.cells c elem false false false none) (fun i L hL => (hR0.dom i L hL).1)
                    have hvr : VR (M.add st.n ⟨b, 0, C.size, P.cellsOf elem, false⟩) (.slice (some ⟨st.n, 0, none⟩) n n) (.slice (some ⟨b, 0, none⟩) n n) := by
                      have := VR.slice (off := 0) (len := n) (cap := n) (cap' := n) hself (Nat.le_refl _) (Nat.le_refl _) (fun _ => rfl) (fun e => by cases e)
                      exact this
                    have hT1 := (hT.ext hext).put o.dst hvr
                    obtain ⟨hgr, _⟩ := evD_grow ops hv fr st0.n l _ _ _ _ _ _ _ h
                    obtain ⟨_, hclk, hsame⟩ := evD_some hcall ops hv fr st0.n l _ _ w1 _ (a.put o.dst (.slice (some ⟨b, 0, none⟩) n n)) _ h hA hT1
                    have hlt20 : st.n + 1 < 2 ^ 20 := by unfold bigN at hn; omega
                    have hgn := fun j => St.get_new st j (.cells c elem false false false none) hlt20
                    have hbs : (i, st.new (.cells c elem false false false none)) ∈ R.bs := hgr.bs _ (by simp)
                    have hfs : (i, st.n, st.new (.cells c elem false false false none)) ∈ R.fs := hgr.fs _ (by simp)
                    have hpin0 : ∀ f b x, pn f b x → ∃ id L y, (M.add st.n ⟨b, 0, C.size, P.cellsOf elem, false⟩) id = some L ∧ L.b = b ∧ (st.new (.cells c elem false false false none)).h.get id = some y ∧ y.1.live = true ∧ st'.h.get id = some y ∧ w1.heap[b]? = some x := fun f b x hp => by
                      obtain ⟨id, L, y, p1, p2, p3, p4, p5, p6⟩ := hpin f b x hp
                      have hid := (hR.dom id L p1).1
                      refine ⟨id, L, y, Mp.add_ext hR1 _ _ _ p1, p2, ?_, p4, p5, (k1.blk b (lt_of_some p6)).trans p6⟩
                      rw [hgn, if_neg (by omega)]
                      exact p3
                    refine evD_sound hcall ops hv fr hR0 hk l _ _ w1 _ _ _ _ _ h hA hT1 hSA ((put_defers _ _ _).trans hd) hpw2 (.inr ⟨i, hbs, fun j hj => (hpw1 j hj).back⟩) (fun f b' x hp => ?_) (fun f id s hf hps => ?_) (fun b' hb' => ?_)
                    · unfold pinAdd at hp
                      split at hp
                      · rename_i hpi
                        rcases hp with hp | ⟨rfl, rfl, rfl⟩
                        · obtain ⟨id, L, y, p1, p2, p3, p4, p5, p6⟩ := hpin f b' x hp
                          have hid := (hR.dom id L p1).1
                          refine ⟨id, L, y, hext _ _ p1, p2, ?_, p4, p5, (k1.blk b' (lt_of_some p6)).trans p6⟩
                          rw [hgn, if_neg (by omega)]
                          exact p3
                        · obtain ⟨y, y1, y2, y3⟩ := hk.ps f (memN_iff.1 hpi) st.n _ hfs
                          have y4 := hsame st.n y y1 y2 y3
                          exact ⟨st.n, _, y, hself, rfl, y4, y2, y1, hbb⟩
                      · obtain ⟨id, L, y, p1, p2, p3, p4, p5, p6⟩ := hpin f b' x hp
                        have hid := (hR.dom id L p1).1
                        refine ⟨id, L, y, hext _ _ p1, p2, ?_, p4, p5, (k1.blk b' (lt_of_some p6)).trans p6⟩
                        rw [hgn, if_neg (by omega)]
                        exact p3
                    · rcases List.mem_cons.1 hf with hf | hf
                      · cases hf
                        refine ⟨_, .cells C elem, hself, ?_⟩
                        unfold pinAdd
                        simp only at hps ⊢
                        rw [if_pos hps]
                        exact .inr ⟨rfl, rfl, rfl⟩
                      · obtain ⟨L, x, c1, c2⟩ := hcov f id s hf hps
                        exact ⟨L, x, hext _ _ c1, pinAdd_mono c2⟩
                    · obtain ⟨r1, r2⟩ := hgx k1 b' hb'.1
                      refine ⟨r1, fun k L hL => ?_⟩
                      unfold Mp.add at hL
                      split at hL
                      · cases hL; exact fun e => hb'.2 e.symm
                      · exact r2 k L hL
                · cases h
              · cases h
            · cases h
          · rename_i hf
            rw [if_neg hf]
            split at h
            · rename_i v k off hfl
              obtain ⟨f1, f2, L, f3, f4⟩ := flE_sound (o := o) hR (fun y u e => evO_sound hR hT e) hfl
              obtain ⟨hgr, _⟩ := evD_grow ops hv fr st0.n l _ _ _ _ _ _ _ h
              have hrs : (i, [], [(k, off, v)]) ∈ R.rs := hgr.rs _ (by simp)
              have hT1 := hT.put o.dst (.flat (M := M) f2)
              refine ⟨v, .inl ⟨hw', fun w2 hC hp => ?_⟩, evD_sound hcall ops hv fr hR0 hk l M st w _ _ _ pn g h hR hT1 hS ((put_defers _ _ _).trans hd) hpw2 hcur' hpin hcov hg⟩
              obtain ⟨L0, e1, _⟩ := cellIs_sound hR0 (hk.fl i _ _ hrs k off v (by simp)).1
              have := hS.ext _ _ e1
              rw [f3] at this; cases this
              exact f4 w2 ((hC.2 _ _ hrs).2 k off v (by simp) L e1)
            · split at h
              · rename_i v r hr
                obtain ⟨v', hv', hrun⟩ := rdOp_sound (o := o) hR (fun y u e => evO_sound hR hT e) hr
                obtain ⟨hgr, _⟩ := evD_grow ops hv fr st0.n l _ _ _ _ _ _ _ h
                have hrs : (i, r.filter (fun x => (covE ops i x m.fs).isNone), []) ∈ R.rs := hgr.rs _ (by simp)
                have hT1 := hT.put o.dst hv'
                refine ⟨v', .inl ⟨hw', fun w2 hC hp => hrun w2 fun j hj L hL => ?_⟩, evD_sound hcall ops hv fr hR0 hk l M st w _ _ _ pn g h hR hT1 hS ((put_defers _ _ _).trans hd) hpw2 hcur' hpin hcov hg⟩
                cases hcv : covE ops i j m.fs with
                | some f =>
                  obtain ⟨c1, s, c2⟩ := covE_some hcv
                  have hps : memN R.ps f = true := memN_iff.2 (hgr.ps _ (List.mem_append_left _ (List.mem_filterMap.2 ⟨j, hj, hcv⟩)))
                  obtain ⟨L', x, c3, c4⟩ := hcov f j s c2 hps
                  rw [hL] at c3; cases c3
                  obtain ⟨_, _, _, _, _, _, _, _, p6⟩ := hpin f L.b x c4
                  rw [hp f L.b x c4 c1, p6]
                | none =>
                  have hjr : j ∈ r.filter (fun x => (covE ops i x m.fs).isNone) := by
                    rw [List.mem_filter]
                    exact ⟨hj, by rw [hcv]; rfl⟩
                  obtain ⟨o1, o2⟩ := hk.rl i _ _ hrs j hjr
                  obtain ⟨y, y1, y2, y3⟩ := oldB_at o1
                  obtain ⟨L0, e1, _⟩ := hR0.blk j y.1 y.2 y1
                  have := hS.ext _ _ e1
                  rw [hL] at this; cases this
                  rw [(hC.2 _ _ hrs).1 j hjr L e1]
                  refine (hold (s := st) ?_ hS L e1).symm
                  rcases hcur with rfl | ⟨k, h1, h2⟩
                  · exact o1
                  · rcases o2 k st h1 with h3 | h3
                    · rw [h2 i (by simp)] at h3; cases h3
                    · exact h3
              · cases h
      · rename_i hw
        have hw' : ¬ Region.wanted o (yielded ops a.tmps) = true := by rw [wantE_eq hT ops o]; exact hw
        split at h
        · cases h
        · rename_i hf
          have ih := evD_sound hcall ops hv fr hR0 hk l M st w _ (a.put o.dst undef) m pn g h hR (hT.put o.dst (.undef M)) hS ((put_defers _ _ _).trans hd) hpw2 hcur' hpin hcov hg
          by_cases hh : memN hv i = true
          · rw [if_pos hh, if_neg hw']; exact ih
          · rw [if_neg hh, if_neg hf]
            exact ⟨undef, .inr ⟨by simpa using hw', rfl⟩, ih⟩
end
end Go.Wx
end PEv23b
/- The evaluator: a region that draws its order is walked. -/
noncomputable section PEv23c
set_option linter.unusedVariables false
set_option linter.unusedSimpArgs false
namespace Go.Wx
open Go.RowKit
section
variable {P : Program} {M : Mp} {G : Nat} {st : St} {w w' : World}
theorem chkR_spec {ops : Array Oper} {st st' : St} {R : Met} (h : chkR ops st st' R = true) : Chk ops st st' R := by
  unfold chkR at h
  rw [Bool.and_eq_true, List.all_eq_true, List.all_eq_true] at h
  refine ⟨fun j rl fl hr r hrr => ?_, fun j rl fl hr i o v hv => ?_, fun f hf id s hs => ?_⟩
  · have h1 := h.1 _ hr
    dsimp only at h1
    rw [Bool.and_eq_true, List.all_eq_true, List.all_eq_true] at h1
    have h2 := h1.1 r hrr
    rw [Bool.and_eq_true, List.all_eq_true] at h2
    refine ⟨h2.1, fun i s hb => ?_⟩
    have := h2.2 _ hb
    simpa using this
  · have h1 := h.1 _ hr
    dsimp only at h1
    rw [Bool.and_eq_true, List.all_eq_true, List.all_eq_true] at h1
    have h2 := h1.2 _ hv
    dsimp only at h2
    rw [Bool.and_eq_true, List.all_eq_true] at h2
    refine ⟨h2.1, fun k s hb => ?_⟩
    have := h2.2 _ hb
    simpa using this
  · have h1 := h.2 f hf
    rw [List.all_eq_true] at h1
    have h2 := h1 _ hs
    dsimp only at h2
    rw [Bool.or_eq_true] at h2
    rcases h2 with h2 | h2
    · simp at h2
    · exact oldB_at h2
theorem evD_pan {call : CallF} (ops : Array Oper) (hv fr : List Nat) (n0 : Nat) : ∀ (l : List Nat) (k : Nat) (tm : Tm) (st : St) (m : Met) (v : Value) (tm' : Tm) (st' : St) (R : Met),
    evD P G call ops hv fr n0 (l ++ [k]) tm st m = some (.pan v, tm', st', R) → ∃ st1 o, evD P G call ops hv fr n0 l tm st m = some (.norm, tm', st1, R) ∧ ops[k]? = some o ∧ wantE ops o tm' = true ∧ opE P G call st1 (evO G st1 tm') o.op = some (.pan v, st')
  | [], k, tm, st, m, v, tm', st', R, h => by
    rw [List.nil_append] at h
    unfold evD at h
    split at h
    · cases h
    · rename_i o ho
      split at h
      · rename_i hw
        split at h
        · split at h
          · unfold evD at h; cases h
          · rename_i v1 st1 hop
            cases h
            exact ⟨st, o, by unfold evD; rfl, ho, hw, hop⟩
          · cases h
        · split at h
          · split at h
            · split at h
              · split at h
                · unfold evD at h; cases h
                · cases h
              · cases h
            · cases h
          · split at h
            · unfold evD at h; cases h
            · split at h
              · unfold evD at h; cases h
              · cases h
      · split at h
        · cases h
        · unfold evD at h; cases h
  | i :: l, k, tm, st, m, v, tm', st', R, h => by
    rw [List.cons_append] at h
    unfold evD at h ⊢
    cases ho : ops[i]? with
    | none => rw [ho] at h; cases h
    | some o =>
      rw [ho] at h
      dsimp only at h ⊢
      split at h
      · rename_i hw
        rw [if_pos hw]
        split at h
        · rename_i hh
          rw [if_pos hh]
          split at h
          · rename_i v1 st1 hop
            exact evD_pan ops hv fr n0 l k _ _ _ _ _ _ _ h
          · split at h
            · rename_i e; simp at e
            · cases h
          · cases h
        · rename_i hh
          rw [if_neg hh]
          split at h
          · rename_i hf
            rw [if_pos hf]
            split at h
            · split at h
              · split at h
                · exact evD_pan ops hv fr n0 l k _ _ _ _ _ _ _ h
                · cases h
              · cases h
            · cases h
          · rename_i hf
            rw [if_neg hf]
            split at h
            · exact evD_pan ops hv fr n0 l k _ _ _ _ _ _ _ h
            · split at h
              · exact evD_pan ops hv fr n0 l k _ _ _ _ _ _ _ h
              · cases h
      · rename_i hw
        rw [if_neg hw]
        split at h
        · cases h
        · rename_i hf
          rw [if_neg hf]
          exact evD_pan ops hv fr n0 l k _ _ _ _ _ _ _ h
/-- The loose blocks' clocks. -/
theorem evD_fclk {call : CallF} (hcall : CallOk P G call) (ops : Array Oper) (hv fr : List Nat) (n0 : Nat) : ∀ (l : List Nat) (M : Mp) (st : St) (w : World) (tm : Tm) (a : Act) (m : Met) {tm' : Tm} {st' : St} {R : Met},
    evD P G call ops hv fr n0 l tm st m = some (.norm, tm', st', R) → RR P G M st w → TR M tm a.tmps → (∀ f id s, (f, id, s) ∈ m.fs → s.clk ≤ st.clk) → ∀ f id s, (f, id, s) ∈ R.fs → s.clk ≤ st'.clk
  | [], M, st, w, tm, a, m, tm', st', R, h, hR, hT, hm => by cases h; exact hm
  | i :: l, M, st, w, tm, a, m, tm', st', R, h, hR, hT, hm => by
    unfold evD at h
    split at h
    · cases h
    · rename_i o ho
      split at h
      · split at h
        · split at h
          · rename_i v st1 hop
            obtain ⟨M1, v', w1, h1, h2, h3⟩ := opE_exists (a := a) hcall hR (fun y u e => evO_sound hR (a := a) hT e) hop
            exact evD_fclk hcall ops hv fr n0 l M1 st1 w1 (tm.put o.dst v) (a.put o.dst v') _ h h2 (TR.put (a := a) (hT.ext h3.ext) o.dst h1) fun f id s hf => Nat.le_trans (hm f id s hf) h3.clk
          · split at h <;> cases h
          · cases h
        · split at h
          · split at h
            · rename_i t n parts hop
              split at h
              · rename_i ps hps
                split at h
                · rename_i v st1 hb
                  obtain ⟨M1, v', w1, _, h2, h3, h1⟩ := buildSliceE_sound hR hb (partsO_sound (fun y u e => evO_sound hR (a := a) hT e) hps)
                  exact evD_fclk hcall ops hv fr n0 l M1 st1 w1 (tm.put o.dst v) (a.put o.dst v') _ h h2 (TR.put (a := a) (hT.ext h3.ext) o.dst h1) fun f id s hf => by
                    rcases List.mem_cons.1 hf with hf | hf
                    · cases hf; exact Nat.le_refl _
                    · exact Nat.le_trans (hm f id s hf) h3.clk
                · cases h
              · cases h
            · cases h
          · split at h
            · rename_i v k off hf
              obtain ⟨_, hfl, _⟩ := flE_sound (a := a) (o := o) hR (fun y u e => evO_sound hR (a := a) hT e) hf
              exact evD_fclk hcall ops hv fr n0 l M st w (tm.put o.dst v) (a.put o.dst v) _ h hR (TR.put (a := a) hT o.dst (.flat hfl)) hm
            · split at h
              · rename_i v r hr
                obtain ⟨v', hv', _⟩ := rdOp_sound (a := a) (o := o) hR (fun y u e => evO_sound hR (a := a) hT e) hr
                exact evD_fclk hcall ops hv fr n0 l M st w (tm.put o.dst v) (a.put o.dst v') _ h hR (TR.put (a := a) hT o.dst hv') hm
              · cases h
      · split at h
        · cases h
        · exact evD_fclk hcall ops hv fr n0 l M st w (tm.put o.dst undef) (a.put o.dst undef) _ h hR (TR.put (a := a) hT o.dst (.undef M)) hm
theorem TWI.mono {ops : Array Oper} {pl : Plan} {Q Q' : Act → World → Prop} (hq : ∀ a w, Q a w → Q' a w) : ∀ {rem : List Nat} {pn : Pn} {g : Nat → Prop} {a : Act} {w : World}, TWI P ops pl Q rem pn g a w → TWI P ops pl Q' rem pn g a w
  | [], pn, g, a, w, h => fun g2 w2 k2 => hq _ _ (h g2 w2 k2)
  | i :: rest, pn, g, a, w, h => by
    unfold TWI at h ⊢
    cases ho : ops[i]? with
    | none => rw [ho] at h; exact h
    | some o =>
      rw [ho] at h
      dsimp only at h ⊢
      split at h
      · rename_i h1
        rw [if_pos h1]
        split at h
        · rename_i h2
          rw [if_pos h2]
          exact fun g2 w2 k2 => upon_mono (fun a w hk => ⟨hk.1, TWI.mono hq hk.2⟩) (fun _ _ _ h => h) (h g2 w2 k2)
        · rename_i h2
          rw [if_neg h2]
          exact TWI.mono hq h
      · rename_i h1
        rw [if_neg h1]
        split at h
        · rename_i h2
          rw [if_pos h2]
          obtain ⟨obj, mk, hf, h⟩ := h
          exact ⟨obj, mk, hf, fun g2 w2 b k2 hg hb => TWI.mono hq (h g2 w2 b k2 hg hb)⟩
        · rename_i h2
          rw [if_neg h2]
          obtain ⟨v, hr, h⟩ := h
          exact ⟨v, hr, TWI.mono hq h⟩
theorem Cls.gx {M0 : Mp} {st0 : St} {w0 : World} {R : Met} (hR0 : RR P G M0 st0 w0) {j : Nat} {g g' : Nat → Prop} {w w' : World} (k : GX g w g' w') (h : Cls M0 w0 R j w) : Cls M0 w0 R j w' := by
  refine ⟨Nat.le_trans h.1 k.size, fun rl fl hr => ⟨fun r hrr L hL => ?_, fun i o v hv L hL => ?_⟩⟩
  · rw [k.blk L.b (Nat.lt_of_lt_of_le (hR0.dom r L hL).2 h.1)]
    exact (h.2 rl fl hr).1 r hrr L hL
  · have h1 := (h.2 rl fl hr).2 i o v hv L hL
    have h2 := k.blk L.b (Nat.lt_of_lt_of_le (hR0.dom i L hL).2 h.1)
    rw [World.cell?_of_block h2]
    exact h1
theorem evDraw_sound {call : CallF} (hcall : CallOk P G call) (hm : P.follows .mixedOrders = true) {id : Nat} {ops : Array Oper} {tm tm' : Tm} {st' : St} {x : Ex} (h : evDraw P G call ops tm st = some (x, tm', st')) (hR : RR P G M st w) {a : Act} (hT : TR M tm a.tmps) (hDs : DRs M tm.ds a.defers) (r : Option Nat) :
    (Code.region id ops true).wpIn (fw r) 0 P (QS P G M st w x tm' st') a w := by
  have hRd : RR P G M st w.drew := hR.drew
  have start : ∀ R, Chk ops st st' R → ∀ j, Cls M w.drew R j w.drew := fun R hk j => by
    refine ⟨Nat.le_refl _, fun rl fl hr => ⟨fun _ _ _ _ => rfl, fun i o v hv L hL => ?_⟩⟩
    obtain ⟨L', e1, e2⟩ := cellIs_sound hRd (hk.fl j rl fl hr i o v hv).1
    rw [hL] at e1; cases e1
    exact e2
  have trans0 : ∀ {M' : Mp} {s : St} {u : World}, Stp M st w.drew M' s u → Stp M st w M' s u := fun hs => (Stp.drew M st w).trans hs
  unfold evDraw at h
  dsimp only at h
  split at h
  · rename_i hok
    have hok := planB_spec hok
    split at h
    · rename_i tm1 st1 R he
      split at h
      · rename_i hchk
        cases h
        have hk := chkR_spec hchk
        have hds := (evD_grow ops _ _ st.n _ _ _ _ _ _ _ _ he).2
        have hT1 := evD_sound hcall ops (planOf P ops).hv (planOf P ops).fr hRd hk (planOf P ops).σ M st w.drew tm a _ (fun _ _ _ => False) (fun _ => False) he hRd hT (.refl _ _ _) rfl ((pairsB_spec hok.pairs).imp fun h => relB_spec h) (.inl rfl) (fun f b x hf => hf.elim) (fun f id s hf => by cases hf) (fun b hb => hb.elim)
        refine wpIn_region_twi (pl := ⟨Cls M w.drew R, (planOf P ops).hv, (planOf P ops).fr, memN R.ps⟩) hm hok (fun j g w1 g' w2 k hc => hc.gx hRd k) (start R hk) (TWI.mono ?_ hT1)
        rintro a' w' ⟨M', q1, q2, q3, q4⟩
        exact ⟨M', trivial, q1, q2, trans0 q3, by rw [hds, q4]; exact hDs.ext q3.ext⟩
      · cases h
    · rename_i v tm1 st1 R he
      split at h
      · rename_i m hlast
        split at h
        · rename_i hchk
          cases h
          rw [Bool.and_eq_true] at hchk
          obtain ⟨hL, hchk⟩ := hchk
          have hk := chkR_spec hchk
          have hds := (evD_grow ops _ _ st.n _ _ _ _ _ _ _ _ he).2
          obtain ⟨σ', hσ⟩ : ∃ σ', (planOf P ops).σ = σ' ++ [m] := by
            rw [List.getLast?_eq_some_iff] at hlast
            exact hlast
          rw [hσ] at he hok
          obtain ⟨st2, o, he2, ho, hw, hop⟩ := evD_pan _ _ _ _ _ _ _ _ _ _ _ _ _ he
          have hk2 : Chk ops st st2 R := by
            refine ⟨hk.rl, hk.fl, fun f hf id s hs => ?_⟩
            obtain ⟨y, y1, y2, y3⟩ := hk.ps f hf id s hs
            obtain ⟨⟨M2, w2, a2, r1, r2⟩, r3, r4⟩ := evD_some hcall ops _ _ st.n σ' M st w.drew tm a _ he2 hRd hT
            obtain ⟨M3, w3, s1, s2⟩ := opE_existsP hcall r1 (a := a2) (fun y u e => evO_sound r1 r2 e) hop
            by_cases hle : y.2 ≤ st2.clk
            · exact ⟨y, s1.same id y y1 y2 hle, y2, y3⟩
            · exfalso
              have hsc : s.clk ≤ st2.clk := evD_fclk hcall ops _ _ st.n σ' M st w.drew tm a _ he2 hRd hT (fun f id s h => by cases h) f id s hs
              omega
          have hpw := (pairsB_spec hok.pairs).imp fun {x y} h => relB_spec (ops := ops) (hv := (planOf P ops).hv) (fr := (planOf P ops).fr) (x := x) (y := y) h
          have hT1 := evD_sound hcall ops (planOf P ops).hv (planOf P ops).fr hRd hk2 σ' M st w.drew tm a _ (fun _ _ _ => False) (fun _ => False) he2 hRd hT (.refl _ _ _) rfl (List.pairwise_append.1 hpw).1 (.inl rfl) (fun f b x hf => hf.elim) (fun f id s hf => by cases hf) (fun b hb => hb.elim)
          refine wpIn_region_twiL (pl := ⟨Cls M w.drew R, (planOf P ops).hv, (planOf P ops).fr, memN R.ps⟩) (m := m) hm hok (fun i hi hne => ?_) (fun j g w1 g' w2 k hc => hc.gx hRd k) (start R ⟨hk.rl, hk.fl, hk.ps⟩) (TWI.mono ?_ hT1)
          · unfold lastS at hL
            dsimp only at hL
            rw [List.all_eq_true] at hL
            have := hL i (List.mem_range.2 hi)
            rw [Bool.or_eq_true, Nat.beq_eq] at this
            rcases this with h1 | h1
            · exact absurd h1 hne
            · exact h1
          · rintro a' w' ⟨M', q1, q2, q3, q4⟩
            unfold wpOpIn
            rw [ho]
            dsimp only
            have hw' : Region.wanted o (yielded ops a'.tmps) = true := by rw [wantE_eq q1 ops o]; exact hw
            rw [if_pos hw']
            obtain ⟨g1, g2⟩ := opE_sound (o := o) (a := a') hcall q2 (fun y u e => evO_sound q2 q1 e) hop (K := fun a u => QS P G M st w (.pan v) tm' st' .normal a u) (Q := QS P G M st w (.pan v) tm' st') (fun u hu => by cases hu) (fun u hu M1 v' w1 hv h1 h2 => by
              cases hu
              exact ⟨M1, ⟨v', rfl, hv⟩, q1.ext h2.ext, h1, trans0 (q3.trans h2), by rw [q4, hds]; exact hDs.ext (q3.trans h2).ext⟩)
            exact wpIn_op g1 (.inr g2)
        · cases h
      · cases h
    · cases h
  · cases h
end
end Go.Wx
end PEv23c
/- The evaluator: code. -/
noncomputable section PEv24
set_option linter.unusedVariables false
set_option linter.unusedSimpArgs false
namespace Go.Wx
open Go.RowKit
abbrev CodeF := Tm → St → Option (Ex × Tm × St)
def evLoop (body : CodeF) : Nat → CodeF
  | 0, _, _ => none
  | n + 1, tm, st => match body tm st with
    | some (.norm, tm1, st1) => evLoop body n tm1 st1
    | r => r
def seqE (a b : CodeF) : CodeF := fun tm st => match a tm st with
  | some (.norm, tm1, st1) => b tm1 st1
  | r => r
def condE (G : Nat) (c : Operand) (a b : CodeF) : CodeF := fun tm st => match evO G st tm c with
  | some (.bool true) => a tm st
  | some (.bool false) => b tm st
  | _ => none
def blockE (id : Nat) (a : CodeF) : CodeF := fun tm st => match a tm st with
  | some (.exit i, tm1, st1) => if Nat.beq i id then some (.norm, tm1, st1) else some (.exit i, tm1, st1)
  | r => r
def regE (P : Program) (G : Nat) (call : CallF) (ro : Bool) (ops : Array Oper) (draw : Bool) : CodeF := fun tm st =>
  if draw then evDraw P G call ops tm st else evOpsG P G call ro ops ops.toList tm st
/-- In a scope: on from the label that is jumped to. -/
def evJump (jump : Nat → Option CodeF) : Nat → Option (Ex × Tm × St) → Option (Ex × Tm × St)
  | 0, r => match r with
    | some (.goto _, _, _) => none
    | r => r
  | n + 1, r => match r with
    | some (.goto l, tm, st) => match jump l with
      | some f => evJump jump n (f tm st)
      | none => some (.goto l, tm, st)
    | r => r
def loopFuel : Nat := 100000
def mapJ (f : CodeF → CodeF) : Option CodeF → Option CodeF
  | some x => some (f x)
  | none => none
/-- A loop over a function: the record is laid, the function called with yield. -/
def rangeFE (P : Program) (G : Nat) (call : CallF) (ro : Bool) (f : Operand) (ps : Array Tmp) (assign body : Code) : CodeF := fun tm st =>
  if !ro && (Nat.blt (st.n + 1) bigN && Nat.ble G st.n) then
    match evO G st tm f with
    | some (.func (.func g) first cap) =>
      match call (.ent g) (first.toList ++ [.func (.yield (st.n + 1)) #[] #[]] ++ cap.toList) ((st.new (.defr true)).new (.loop .ready none tm ps assign body st.n)) with
      | some (.ret _, st2) => (match st2.h.get (st.n + 1) with
        | some (.loop state pend tm' ps' as' bo' df, _) => (match state with
          | .busy => none
          | _ =>
            let st3 := st2.put (st.n + 1) (.loop .exhausted pend tm' ps' as' bo' df)
            let tm3 : Tm := { tm with ds := .mark st.n :: tm.ds }
            match pend with
            | none => some (.norm, tm3, st3)
            | some .ret => some (.ret, tm3, st3)
            | some (.exit id) => some (.exit id, tm3, st3)
            | _ => none)
        | _ => none)
      | _ => none
    | _ => none
  else none
/-- The code's evaluation, and from its labels. -/
noncomputable def evC (P : Program) (G : Nat) (call : CallF) (ro : Bool) (c : Code) : CodeF × (Nat → Option CodeF) :=
  Code.rec (motive := fun _ => CodeF × (Nat → Option CodeF))
    (fun tm st => some (.norm, tm, st), fun _ => none)
    (fun _ ops draw => (regE P G call ro ops draw, fun _ => none))
    (fun _ _ iha ihb => (seqE iha.1 ihb.1, fun l => match iha.2 l with
      | some f => some (seqE f ihb.1)
      | none => ihb.2 l))
    (fun c _ _ iha ihb => (condE G c iha.1 ihb.1, fun _ => none))
    (fun id _ ih => (blockE id ih.1, fun _ => none))
    (fun _ ih => (evLoop ih.1 loopFuel, fun _ => none))
    (fun f ps assign body _ _ => (rangeFE P G call ro f ps assign body, fun _ => none))
    (fun id => (fun tm st => some (.exit id, tm, st), fun _ => none))
    (fun _ ih => (fun tm st => evJump ih.2 loopFuel (ih.1 tm st), fun _ => none))
    (fun l' => (fun tm st => some (.norm, tm, st), fun l => if Nat.beq l' l then some (fun tm st => some (.norm, tm, st)) else none))
    (fun l => (fun tm st => some (.goto l, tm, st), fun _ => none))
    (fun tm st => some (.ret, tm, st), fun _ => none)
    (fun _ => (fun _ _ => none, fun _ => none))
    c
noncomputable def evCode (P : Program) (G : Nat) (call : CallF) (ro : Bool) (c : Code) : CodeF := (evC P G call ro c).1
section
variable {P : Program} {M : Mp} {G : Nat} {st : St} {w w' : World} {r : Option Nat}
def CodeOk (P : Program) (G : Nat) (r : Option Nat) (f : CodeF) (c : Code) : Prop :=
  ∀ tm st x tm' st', f tm st = some (x, tm', st') → ∀ (M : Mp) (w : World) (a : Act), RR P G M st w → TR M tm a.tmps → DRs M tm.ds a.defers → c.wpIn (fw r) 0 P (QS P G M st w x tm' st') a w
theorem QS.step {M1 : Mp} {st1 : St} {w1 : World} {x : Ex} {tm' : Tm} {st' : St} (h : Stp M st w M1 st1 w1) : ∀ e a w', QS P G M1 st1 w1 x tm' st' e a w' → QS P G M st w x tm' st' e a w' := by
  rintro e a w' ⟨M', q1, q2, q3, q4, q5⟩
  exact ⟨M', q1, q2, q3, h.trans q4, q5⟩
theorem rounds_mono {b : Code} {Q Q' : Exit → Act → World → Prop} (hq : ∀ e a w, Q e a w → Q' e a w) : ∀ (n : Nat) (a : Act) (w : World), Code.roundsIn (fw r) 0 P b Q n a w → Code.roundsIn (fw r) 0 P b Q' n a w
  | 0, a, w, h => h
  | n + 1, a, w, h => by
    rw [roundsIn_succ] at h ⊢
    refine wpIn_mono h fun e a1 w1 h1 => ?_
    cases e with
    | normal => exact rounds_mono hq n a1 w1 h1
    | exit i => exact hq _ _ _ h1
    | goto l => exact hq _ _ _ h1
    | ret => exact hq _ _ _ h1
    | panic c => exact hq _ _ _ h1
    | outgrown => exact hq _ _ _ h1
theorem evLoop_sound {b : Code} {f : CodeF} (hf : CodeOk P G r f b) : ∀ (n : Nat) (tm : Tm) (st : St) (x : Ex) (tm' : Tm) (st' : St), evLoop f n tm st = some (x, tm', st') →
    ∀ (M : Mp) (w : World) (a : Act), RR P G M st w → TR M tm a.tmps → DRs M tm.ds a.defers → Code.roundsIn (fw r) 0 P b (QS P G M st w x tm' st') n a w
  | 0, tm, st, x, tm', st', h => by cases h
  | n + 1, tm, st, x, tm', st', h => by
    intro M w a hR hT hD
    unfold evLoop at h
    rw [roundsIn_succ]
    cases hb : f tm st with
    | none => rw [hb] at h; cases h
    | some res =>
      obtain ⟨y, tm1, st1⟩ := res
      rw [hb] at h
      have h1 := hf tm st y tm1 st1 hb M w a hR hT hD
      refine wpIn_mono h1 ?_
      rintro e a1 w1 ⟨M1, q1, q2, q3, q4, q5⟩
      cases y with
      | norm =>
        cases e <;> first | (cases q1; done) | skip
        exact rounds_mono (QS.step q4) n a1 w1 (evLoop_sound hf n tm1 st1 x tm' st' h M1 w1 a1 q3 q2 q5)
      | exit i =>
        cases h
        cases e <;> first | exact q1.elim | exact ⟨M1, q1, q2, q3, q4, q5⟩
      | goto i =>
        cases h
        cases e <;> first | exact q1.elim | exact ⟨M1, q1, q2, q3, q4, q5⟩
      | ret =>
        cases h
        cases e <;> first | exact q1.elim | exact ⟨M1, q1, q2, q3, q4, q5⟩
      | pan v =>
        cases h
        cases e <;> first | exact q1.elim | exact ⟨M1, q1, q2, q3, q4, q5⟩
/-! ### Scopes -/
/-- What is asked behind a scope's body: Q, but at a jump to a label of the body the walk from there, n times at most. -/
def scopePost (r : Option Nat) (P : Program) (c : Code) (Q : Exit → Act → World → Prop) : Nat → Exit → Act → World → Prop
  | n, .goto l, a, w => match findLabel c l with
    | some rest => match n with
      | 0 => False
      | n + 1 => rest.wpIn (fw r) 0 P (scopePost r P c Q n) a w
    | none => Q (.goto l) a w
  | _, e, a, w => Q e a w
theorem stepR_scope {b : Frame} {a : Act} {k : List Item} {cs : List Frame} {c : Code} : step P (lone (b.atR a (.code (.scope c) :: k)) cs w) = .next (lone (b.atR a (.code c :: .inScope c :: k)) cs w) :=
  step_lone_go (by simp [stepG, stepG.exec, Frame.atR])
theorem stepR_inScope {b : Frame} {a : Act} {k : List Item} {cs : List Frame} {c : Code} : step P (lone (b.atR a (.inScope c :: k)) cs w) = .next (lone (b.atR a k) cs w) :=
  step_lone_go (by simp [stepG, stepG.exec, Frame.atR])
theorem fenced_fw (m : Machine) : m.fenced P (fw r) := fenced_wide P m
theorem room_fw (n : Nat) : (fw r).room n := room_wide n
theorem wpIn_scope_rounds {c : Code} {Q : Exit → Act → World → Prop} {a : Act} {w : World} (n : Nat) (h : c.wpIn (fw r) 0 P (scopePost r P c Q n) a w) : (Code.scope c).wpIn (fw r) 0 P Q a w := by
  intro b k cs hro hb hr
  have key : ∀ (n : Nat) (x : Code) (a : Act) (w : World), x.wpIn (fw r) 0 P (scopePost r P c Q n) a w →
      ∃ e a' w', Q e a' w' ∧ ArrivesIn (Machine.fenced P (fw r)) P (lone (b.atR a (.code x :: .inScope c :: k)) cs w) b k cs e a' w' := by
    intro n
    induction n with
    | zero =>
      intro x a w h
      obtain ⟨e, a1, w1, hq, harr⟩ := h b (.inScope c :: k) cs hro hb hr
      cases e with
      | normal => exact ⟨.normal, a1, w1, hq, StepsIn.trans harr (.one (fenced_fw _) stepR_inScope)⟩
      | exit id => exact ⟨.exit id, a1, w1, hq, fun k' hk => harr.1 k' (by simpa [exitTo] using hk), fun h1 h2 => harr.2 h1 (by simpa [exitTo] using h2)⟩
      | goto l =>
        unfold scopePost at hq
        cases hf : findLabel c l with
        | some rest => rw [hf] at hq; exact hq.elim
        | none =>
          rw [hf] at hq
          have hg : ∀ k, gotoIn l (.inScope c :: k) = gotoIn l k := fun k => by simp [gotoIn, hf]
          exact ⟨.goto l, a1, w1, hq, fun k' hk => harr.1 k' (by rw [hg]; exact hk), fun h1 h2 => harr.2 h1 (by rw [hg]; exact h2)⟩
      | ret => exact ⟨_, a1, w1, hq, harr⟩
      | panic ch => exact ⟨_, a1, w1, hq, harr⟩
      | outgrown => exact ⟨_, a1, w1, hq, harr⟩
    | succ n ih =>
      intro x a w h
      obtain ⟨e, a1, w1, hq, harr⟩ := h b (.inScope c :: k) cs hro hb hr
      cases e with
      | normal => exact ⟨.normal, a1, w1, hq, StepsIn.trans harr (.one (fenced_fw _) stepR_inScope)⟩
      | exit id => exact ⟨.exit id, a1, w1, hq, fun k' hk => harr.1 k' (by simpa [exitTo] using hk), fun h1 h2 => harr.2 h1 (by simpa [exitTo] using h2)⟩
      | goto l =>
        unfold scopePost at hq
        cases hf : findLabel c l with
        | some rest =>
          rw [hf] at hq
          have hg : gotoIn l (.inScope c :: k) = some (.code rest :: .inScope c :: k) := by simp [gotoIn, hf]
          obtain ⟨e2, a2, w2, hq2, harr2⟩ := ih rest a1 w1 hq
          exact ⟨e2, a2, w2, hq2, .of_steps (harr.1 _ hg) harr2⟩
        | none =>
          rw [hf] at hq
          have hg : ∀ k, gotoIn l (.inScope c :: k) = gotoIn l k := fun k => by simp [gotoIn, hf]
          exact ⟨.goto l, a1, w1, hq, fun k' hk => harr.1 k' (by rw [hg]; exact hk), fun h1 h2 => harr.2 h1 (by rw [hg]; exact h2)⟩
      | ret => exact ⟨_, a1, w1, hq, harr⟩
      | panic ch => exact ⟨_, a1, w1, hq, harr⟩
      | outgrown => exact ⟨_, a1, w1, hq, harr⟩
  obtain ⟨e, a', w', hq, harr⟩ := key n c a w h
  exact ⟨e, a', w', hq, .of_steps (.one (fenced_fw _) stepR_scope) harr⟩
/-- From the labels of a code. -/
def JumpOk (P : Program) (G : Nat) (r : Option Nat) (j : Nat → Option CodeF) (c : Code) : Prop :=
  ∀ l, match j l with
    | some f => ∃ rest, findLabel c l = some rest ∧ CodeOk P G r f rest
    | none => findLabel c l = none
theorem evJump_sound {c : Code} {j : Nat → Option CodeF} (hj : JumpOk P G r j c) {M0 : Mp} {st0 : St} {w0 : World} {x : Ex} {tm' : Tm} {st' : St} : ∀ (n : Nat) (y : Ex) (tm1 : Tm) (st1 : St), evJump j n (some (y, tm1, st1)) = some (x, tm', st') →
    ∀ e a w, QS P G M0 st0 w0 y tm1 st1 e a w → scopePost r P c (QS P G M0 st0 w0 x tm' st') n e a w := by
  intro n
  induction n with
  | zero =>
    intro y tm1 st1 h e a w hq
    cases y with
    | goto l => cases h
    | norm => cases h; obtain ⟨M1, q1, q2⟩ := hq; cases e <;> first | exact q1.elim | exact ⟨M1, q1, q2⟩
    | exit i => cases h; obtain ⟨M1, q1, q2⟩ := hq; cases e <;> first | exact q1.elim | exact ⟨M1, q1, q2⟩
    | ret => cases h; obtain ⟨M1, q1, q2⟩ := hq; cases e <;> first | exact q1.elim | exact ⟨M1, q1, q2⟩
    | pan v => cases h; obtain ⟨M1, q1, q2⟩ := hq; cases e <;> first | exact q1.elim | exact ⟨M1, q1, q2⟩
  | succ n ih =>
    intro y tm1 st1 h e a w hq
    cases y with
    | goto l =>
      obtain ⟨M1, q1, q2, q3, q4, q5⟩ := hq
      cases e <;> first | (cases q1; done) | skip
      rename_i l'
      have q1 : l = l' := q1
      subst q1
      unfold evJump at h
      dsimp only at h
      have hjl := hj l
      unfold scopePost
      cases hjj : j l with
      | none =>
        rw [hjj] at h hjl
        dsimp only at hjl
        rw [hjl]
        cases h
        exact ⟨M1, rfl, q2, q3, q4, q5⟩
      | some f =>
        rw [hjj] at h hjl
        obtain ⟨rest, hrest, hok⟩ := hjl
        rw [hrest]
        dsimp only at h ⊢
        cases hf : f tm1 st1 with
        | none =>
          rw [hf] at h
          cases n <;> cases h
        | some res =>
          obtain ⟨y2, tm2, st2⟩ := res
          rw [hf] at h
          exact wpIn_mono (hok tm1 st1 y2 tm2 st2 hf M1 w a q3 q2 q5) fun e2 a2 w2 hq2 => ih y2 tm2 st2 h e2 a2 w2 (QS.step q4 e2 a2 w2 hq2)
    | norm => cases h; obtain ⟨M1, q1, q2⟩ := hq; cases e <;> first | exact q1.elim | exact ⟨M1, q1, q2⟩
    | exit i => cases h; obtain ⟨M1, q1, q2⟩ := hq; cases e <;> first | exact q1.elim | exact ⟨M1, q1, q2⟩
    | ret => cases h; obtain ⟨M1, q1, q2⟩ := hq; cases e <;> first | exact q1.elim | exact ⟨M1, q1, q2⟩
    | pan v => cases h; obtain ⟨M1, q1, q2⟩ := hq; cases e <;> first | exact q1.elim | exact ⟨M1, q1, q2⟩
theorem seqE_sound {p q : Code} {f g : CodeF} (hf : CodeOk P G r f p) (hg : CodeOk P G r g q) : CodeOk P G r (seqE f g) (.seq p q) := by
  intro tm st x tm' st' h M w a hR hT hD
  unfold seqE at h
  refine wpIn_seq ?_
  cases hb : f tm st with
  | none => rw [hb] at h; cases h
  | some res =>
    obtain ⟨y, tm1, st1⟩ := res
    rw [hb] at h
    refine wpIn_mono (hf tm st y tm1 st1 hb M w a hR hT hD) ?_
    rintro e a1 w1 ⟨M1, q1, q2, q3, q4, q5⟩
    cases y with
    | norm =>
      cases e <;> first | (cases q1; done) | skip
      exact wpIn_mono (hg tm1 st1 x tm' st' h M1 w1 a1 q3 q2 q5) (QS.step q4)
    | exit i =>
      cases h
      cases e <;> first | exact q1.elim | exact ⟨M1, q1, q2, q3, q4, q5⟩
    | goto i =>
      cases h
      cases e <;> first | exact q1.elim | exact ⟨M1, q1, q2, q3, q4, q5⟩
    | ret =>
      cases h
      cases e <;> first | exact q1.elim | exact ⟨M1, q1, q2, q3, q4, q5⟩
    | pan v =>
      cases h
      cases e <;> first | exact q1.elim | exact ⟨M1, q1, q2, q3, q4, q5⟩
end
end Go.Wx
end PEv24
/- The evaluator: code is walked. -/
noncomputable section PEv25
set_option linter.unusedVariables false
set_option linter.unusedSimpArgs false
namespace Go.Wx
open Go.RowKit
section
variable {P : Program} {M : Mp} {G : Nat} {st : St} {w w' : World} {r : Option Nat}
theorem run_getLoop {w : World} {l : Nat} {x : Loop} (h : w.heap[l]? = some (.loop x)) : (Instr.getLoop l).run P w = .ok x w := by
  unfold Instr.getLoop
  have hg : (getObj l).run P w = .ok (.loop x) w := by
    show (Sem.getObj l .pure).run P w = _
    simp only [Sem.run, h]
  rw [Sem.run_bind, hg, Result.andThen_ok]
  rfl
theorem run_setObjW {w : World} {l : Nat} {x : Loop} {o : Obj} (hx : w.heap[l]? = some (.loop x)) : ∃ w', (setObj l o).run P w = .ok () w' ∧ w'.heap[l]? = some o ∧ Upd w w' l := by
  have h : l < w.heap.size := (Array.getElem?_eq_some_iff.1 hx).1
  refine ⟨{ w with heap := w.heap.setIfInBounds l o }, ?_, ?_, ⟨fun b hb => ?_, ?_, rfl, rfl, rfl⟩⟩
  · show (Sem.setObj l o (.pure ())).run P w = _
    simp only [Sem.run, hx]
  · simp [h]
  · simp only [Array.getElem?_setIfInBounds]
    rw [if_neg (Ne.symm hb)]
  · simp
theorem rangeFE_sound {call : CallF} (hcall : CallOk P G call) {ro : Bool} (hro : ro = false → r = none) (f : Operand) (ps : Array Tmp) (assign body : Code) : CodeOk P G r (rangeFE P G call ro f ps assign body) (.rangeFunc f ps assign body) := by
  intro tm st x tm' st' h M w a hR hT hD
  unfold rangeFE at h
  split at h
  case isFalse => cases h
  rename_i hc
  simp only [Bool.and_eq_true, Nat.ble_eq, Nat.blt_eq, Bool.not_eq_true'] at hc
  obtain ⟨hc0, hn, hG⟩ := hc
  have hr0 := hro hc0
  subst hr0
  split at h
  case h_2 => cases h
  rename_i g first cap hf
  have hv := evO_sound hR hT hf
  generalize hfe : a.eval f = fv at hv
  cases hv with
  | flat hh => simp [flatV] at hh
  | func h0 h1 h2 =>
    rename_i first' cap'
    let L1 : Loc := ⟨w.heap.size, 0, 0, 1, false⟩
    obtain ⟨r1, s1⟩ := RR.made (L := L1) (ab := .defr true) (o := .deferred (some [])) hR (by omega) hG rfl (fun p hp => by cases hp) (by
      show (w.alloc _).heap[w.heap.size]? = _
      show (w.heap.push _)[w.heap.size]? = _
      simp)
    let M1 := M.add st.n L1
    let w1 := w.alloc (.deferred (some []))
    have hw1 : w1.heap.size = w.heap.size + 1 := by simp [w1]
    have hM1 : M1 st.n = some L1 := by show Mp.add M st.n L1 st.n = _; unfold Mp.add; rw [if_pos rfl]
    refine wpIn_rangeFunc fun fn _ => ?_
    let L2 : Loc := ⟨w.heap.size + 1, 0, 0, 1, false⟩
    let lp : Loop := ⟨.ready, none, fn, a.tmps, ps, assign, body, w.heap.size⟩
    have hnn : (st.new (.defr true)).n = st.n + 1 := rfl
    obtain ⟨r2, s2⟩ := RR.made (L := L2) (ab := .loop .ready none tm ps assign body st.n) (o := .loop lp) r1 (by rw [hnn]; omega) (by rw [hnn]; omega) (by rw [hw1]) (fun p hp => by cases hp) (by
      have he := Mp.add_ext r1 L2
      refine ⟨a.tmps, L1, he _ _ hM1, hT.ext (s1.ext.trans he), fn, ?_⟩
      show (w1.heap.push _)[w.heap.size + 1]? = _
      rw [← hw1]
      simp [lp, L1])
    rw [hnn] at r2 s2
    let M2 := M1.add (st.n + 1) L2
    let w2 := w1.alloc (.loop lp)
    have hM2 : M2 (st.n + 1) = some L2 := by show Mp.add M1 (st.n + 1) L2 (st.n + 1) = _; unfold Mp.add; rw [if_pos rfl]
    have s12 := s1.trans s2
    split at h
    case h_2 => cases h
    rename_i rv st2 hcl
    split at h
    case h_2 => cases h
    rename_i state pend tmX psX asX boX dfX vX hg
    have hargs : VRs M2 (first.toList ++ [.func (.yield (st.n + 1)) #[] #[]] ++ cap.toList) (first'.toList ++ [.func (.yield (w.heap.size + 1)) #[] #[]] ++ cap'.toList) :=
      ((h1.ext s12.ext).append (.cons (.yld (L := L2) hM2) .nil)).append (h2.ext s12.ext)
    obtain ⟨hrun, hcalls⟩ := hcall.2.2 g _ _ _ _ hcl M2 w2 _ r2 hargs
    refine ⟨w.heap.size + 1, [⟨.collected w.heap.size, #[]⟩], w2, ⟨.fn (.func g) cap', first' ++ #[.func (.yield (w.heap.size + 1)) #[] #[]]⟩, w2, g, _, w2, ?_, ?_, fun _ _ => trivial, ?_, fun hh => (by cases hh), callsIn_fw.2 (hcalls.mono ?_)⟩
    · have e1 : (Instr.enterLoop fn a.tmps ps assign body none).run P w = .ok (w1.heap.size, [⟨.collected w.heap.size, #[]⟩]) w2 := rfl
      rw [hw1] at e1
      exact e1
    · show (Deferred.ofValue (a.eval f) (#[Operand.const (.func (.yield (w.heap.size + 1)) #[] #[])].map a.eval)).run P w2 = _
      rw [hfe]
      simp [Deferred.ofValue, Act.eval]
    · show (callFunc g ((first' ++ #[.func (.yield (w.heap.size + 1)) #[] #[]]) ++ cap')).run P w2 = _
      rw [← hrun]
      congr 2
      apply Array.ext'
      simp
    · rintro e0 w3 ⟨M3, q1, q2, q3⟩
      cases e0 with
      | panicked c => exact q1.elim
      | outgrown => exact q1.elim
      | returned v' =>
        obtain ⟨L3, hL3, hB3⟩ := q2.blk _ _ _ hg
        have hL := q3.ext _ _ hM2
        rw [hL3] at hL
        cases hL
        obtain ⟨tmps3, Ld, d1, d2, fn3, d3⟩ := hB3
        have d3 : w3.heap[w.heap.size + 1]? = some (.loop ⟨state, pend, fn3, tmps3, psX, asX, boX, Ld.b⟩) := d3
        split at h
        case h_1 => cases h
        rename_i hnb
        obtain ⟨w4, e1, e2, e3⟩ := run_setObjW (P := P) (w := w3) (l := w.heap.size + 1) (o := .loop ⟨.exhausted, pend, fn3, tmps3, psX, asX, boX, Ld.b⟩) d3
        obtain ⟨r4, s4⟩ := RR.turn (ab' := .loop .exhausted pend tmX psX asX boX dfX) q2 hg rfl rfl (fun p hp => by cases hp) rfl hL3 ⟨tmps3, Ld, d1, d2, fn3, e2⟩ e3
        have s14 := (s12.trans q3).trans s4
        have hend : (Instr.endLoop (w.heap.size + 1)).run P w3 = .ok pend w4 := by
          unfold Instr.endLoop
          rw [Sem.run_bind, run_getLoop d3, Result.andThen_ok]
          have hb : (state == LoopState.busy) = false := by cases state <;> first | rfl | exact (hnb rfl).elim
          show Sem.run P _ w3 = _
          simp only [hb, Bool.false_eq_true, if_false]
          show Sem.run P (do setObj _ _; pure pend) w3 = _
          rw [Sem.run_bind, e1, Result.andThen_ok]
          rfl
        have hT4 : TR M3 ({ tm with ds := .mark st.n :: tm.ds } : Tm) ({ a with defers := [⟨.collected w.heap.size, #[]⟩] ++ a.defers } : Act).tmps := ⟨(hT.ext s14.ext).sz, hT.lim, (hT.ext s14.ext).get⟩
        have hD4 : DRs M3 (.mark st.n :: tm.ds) ([⟨.collected w.heap.size, #[]⟩] ++ a.defers) := .cons (.mark (L := L1) (q3.ext _ _ (s2.ext _ _ hM1))) (hD.ext s14.ext)
        refine ⟨pend, w4, hend, ?_⟩
        dsimp only at h
        split at h
        · cases h
          exact ⟨M3, trivial, hT4, r4, s14, hD4⟩
        · cases h
          exact wpIn_ret ⟨M3, trivial, hT4, r4, s14, hD4⟩
        · cases h
          exact wpIn_exit ⟨M3, rfl, hT4, r4, s14, hD4⟩
        · cases h
theorem evC_sound {call : CallF} (hcall : CallOk P G call) (hm : P.follows .mixedOrders = true) {ro : Bool} (hro : ro = false → r = none) : ∀ (c : Code), CodeOk P G r (evC P G call ro c).1 c ∧ JumpOk P G r (evC P G call ro c).2 c
  | .skip => by
    refine ⟨fun tm st x tm' st' h M w a hR hT hD => ?_, fun l => rfl⟩
    cases h
    exact wpIn_skip ⟨M, trivial, hT, hR, .refl _ _ _, hD⟩
  | .label l => by
    have h1 : CodeOk P G r (fun tm st => some (.norm, tm, st)) (.label l) := fun tm st x tm' st' h M w a hR hT hD => by
      cases h
      exact wpIn_label ⟨M, trivial, hT, hR, .refl _ _ _, hD⟩
    have h2 : CodeOk P G r (fun tm st => some (.norm, tm, st)) .skip := fun tm st x tm' st' h M w a hR hT hD => by
      cases h
      exact wpIn_skip ⟨M, trivial, hT, hR, .refl _ _ _, hD⟩
    refine ⟨h1, fun l' => ?_⟩
    have e : (evC P G call ro (.label l)).2 l' = if Nat.beq l l' then some (fun tm st => some (.norm, tm, st)) else none := rfl
    rw [e]
    by_cases hl : l = l'
    · subst hl
      rw [if_pos (by rw [Nat.beq_eq])]
      exact ⟨.skip, by simp [findLabel], h2⟩
    · rw [if_neg (by rw [Nat.beq_eq]; exact hl)]
      show findLabel (.label l) l' = none
      simp [findLabel, hl]
  | .exit id => by
    refine ⟨fun tm st x tm' st' h M w a hR hT hD => ?_, fun l => rfl⟩
    cases h
    exact wpIn_exit ⟨M, rfl, hT, hR, .refl _ _ _, hD⟩
  | .goto l => by
    refine ⟨fun tm st x tm' st' h M w a hR hT hD => ?_, fun l => rfl⟩
    cases h
    exact wpIn_goto ⟨M, rfl, hT, hR, .refl _ _ _, hD⟩
  | .ret => by
    refine ⟨fun tm st x tm' st' h M w a hR hT hD => ?_, fun l => rfl⟩
    cases h
    exact wpIn_ret ⟨M, trivial, hT, hR, .refl _ _ _, hD⟩
  | .refuse why => by
    refine ⟨fun tm st x tm' st' h => ?_, fun l => rfl⟩
    cases h
  | .rangeFunc f ps p q => ⟨rangeFE_sound hcall hro f ps p q, fun l => rfl⟩
  | .region id ops draw => by
    refine ⟨fun tm st x tm' st' h M w a hR hT hD => ?_, fun l => rfl⟩
    have h : regE P G call ro ops draw tm st = some (x, tm', st') := h
    unfold regE at h
    cases draw with
    | true =>
      rw [if_pos rfl] at h
      exact evDraw_sound hcall hm h hR hT hD r
    | false =>
      rw [if_neg (by simp)] at h
      have := evOps_sound hcall hro ops (M0 := M) (st0 := st) (w0 := w) ops.toList 0 rfl M st w tm a (by rw [← evOpsF_eq, ← evOpsG_eq]; exact h) hR hT hD (.refl _ _ _)
      refine wpIn_region ?_
      rw [List.range_eq_range']
      rw [Array.length_toList] at this
      exact this
  | .seq p q => by
    obtain ⟨p1, p2⟩ := evC_sound hcall hm hro p
    obtain ⟨q1, q2⟩ := evC_sound hcall hm hro q
    refine ⟨seqE_sound p1 q1, fun l => ?_⟩
    have e : (evC P G call ro (.seq p q)).2 l = match (evC P G call ro p).2 l with
      | some f => some (seqE f (evC P G call ro q).1)
      | none => (evC P G call ro q).2 l := rfl
    rw [e]
    have hp := p2 l
    cases hpl : (evC P G call ro p).2 l with
    | some f =>
      rw [hpl] at hp
      obtain ⟨rest, h1, h2⟩ := hp
      exact ⟨.seq rest q, by simp [findLabel, h1], seqE_sound h2 q1⟩
    | none =>
      rw [hpl] at hp
      have hq := q2 l
      dsimp only at hp ⊢
      cases hql : (evC P G call ro q).2 l with
      | some f =>
        rw [hql] at hq
        obtain ⟨rest, h1, h2⟩ := hq
        exact ⟨rest, by simp [findLabel, hp, h1], h2⟩
      | none =>
        rw [hql] at hq
        show findLabel (.seq p q) l = none
        simp only at hq
        simp [findLabel, hp, hq]
  | .cond c p q => by
    obtain ⟨p1, _⟩ := evC_sound hcall hm hro p
    obtain ⟨q1, _⟩ := evC_sound hcall hm hro q
    refine ⟨fun tm st x tm' st' h M w a hR hT hD => ?_, fun l => rfl⟩
    have h : condE G c (evC P G call ro p).1 (evC P G call ro q).1 tm st = some (x, tm', st') := h
    unfold condE at h
    split at h
    · rename_i hc
      exact wpIn_cond_true (evO_sound hR hT hc).bool (p1 tm st x tm' st' h M w a hR hT hD)
    · rename_i hc
      exact wpIn_cond_false (evO_sound hR hT hc).bool (q1 tm st x tm' st' h M w a hR hT hD)
    · cases h
  | .block id p => by
    obtain ⟨p1, _⟩ := evC_sound hcall hm hro p
    refine ⟨fun tm st x tm' st' h M w a hR hT hD => ?_, fun l => rfl⟩
    have h : blockE id (evC P G call ro p).1 tm st = some (x, tm', st') := h
    unfold blockE at h
    refine wpIn_block ?_
    cases hb : (evC P G call ro p).1 tm st with
    | none => rw [hb] at h; cases h
    | some res =>
      obtain ⟨y, tm1, st1⟩ := res
      rw [hb] at h
      refine wpIn_mono (p1 tm st y tm1 st1 hb M w a hR hT hD) ?_
      rintro e a1 w1 ⟨M1, q1, q2, q3, q4, q5⟩
      cases y with
      | norm =>
        cases h
        cases e <;> first | exact q1.elim | exact ⟨M1, q1, q2, q3, q4, q5⟩
      | exit i =>
        dsimp only at h
        cases e <;> first | exact q1.elim | skip
        rename_i i'
        have q1 : i = i' := q1
        subst q1
        unfold Exit.inBlock
        dsimp only
        split at h
        · rename_i hi
          rw [Nat.beq_eq] at hi
          cases h
          rw [if_pos hi]
          exact ⟨M1, trivial, q2, q3, q4, q5⟩
        · rename_i hi
          cases h
          rw [if_neg (fun e => hi (by rw [Nat.beq_eq]; exact e))]
          exact ⟨M1, rfl, q2, q3, q4, q5⟩
      | goto i =>
        cases h
        cases e <;> first | exact q1.elim | exact ⟨M1, q1, q2, q3, q4, q5⟩
      | ret =>
        cases h
        cases e <;> first | exact q1.elim | exact ⟨M1, q1, q2, q3, q4, q5⟩
      | pan v =>
        cases h
        cases e <;> first | exact q1.elim | exact ⟨M1, q1, q2, q3, q4, q5⟩
  | .loop p => by
    obtain ⟨p1, _⟩ := evC_sound hcall hm hro p
    refine ⟨fun tm st x tm' st' h M w a hR hT hD => ?_, fun l => rfl⟩
    have h : evLoop (evC P G call ro p).1 loopFuel tm st = some (x, tm', st') := h
    exact wpIn_loop_rounds loopFuel (evLoop_sound p1 loopFuel tm st x tm' st' h M w a hR hT hD)
  | .scope p => by
    obtain ⟨p1, p2⟩ := evC_sound hcall hm hro p
    refine ⟨fun tm st x tm' st' h M w a hR hT hD => ?_, fun l => rfl⟩
    have h : evJump (evC P G call ro p).2 loopFuel ((evC P G call ro p).1 tm st) = some (x, tm', st') := h
    refine wpIn_scope_rounds loopFuel ?_
    cases hb : (evC P G call ro p).1 tm st with
    | none =>
      rw [hb] at h
      have : ∀ n, evJump (evC P G call ro p).2 n none = none := fun n => by cases n <;> rfl
      rw [this] at h
      cases h
    | some res =>
      obtain ⟨y, tm1, st1⟩ := res
      rw [hb] at h
      exact wpIn_mono (p1 tm st y tm1 st1 hb M w a hR hT hD) fun e a1 w1 hq => evJump_sound p2 loopFuel y tm1 st1 h e a1 w1 hq
end
end Go.Wx
end PEv25
/- The evaluator: deferred calls that may recover; rounds of a loop over a function; calls. -/
noncomputable section PEv26
set_option linter.unusedVariables false
set_option linter.unusedSimpArgs false
namespace Go.Wx
open Go.RowKit
def argTr : List Value → Nat → Tr Value → Tr Value
  | [], _, t => t
  | v :: l, k, t => argTr l (k + 1) (Tr.set 20 t k v)
def tm0 (args : List Value) (n : Nat) : Tm := ⟨max n args.length, argTr args 0 .lf, []⟩
def resE (P : Program) (st : St) (tm : Tm) : ResultVar → Option Value
  | .tmp t => some (tm.get t)
  | .cell a t => match ldE P st t (tm.get a) with
    | some (v, _) => some v
    | none => none
def resL (P : Program) (st : St) (tm : Tm) : List ResultVar → Option (List Value)
  | [] => some []
  | r :: l => match resE P st tm r, resL P st tm l with
    | some v, some vs => some (v :: vs)
    | _, _ => none
def tupE : List Value → Value
  | [v] => v
  | l => .tuple ⟨l⟩
structure Env where
  P : Program
  G : Nat
  look : FuncId → Option Func
  ext : FuncId → List Value → St → Option (Value × St)
  orc : FuncId → List Value → St → Option (Value × St)
/-- In which way a frame is left, abstractly. -/
inductive Md where
  | ret
  | pan (v : Value)
  | got (v : Value)
def settleE : Md → Md
  | .got _ => .ret
  | m => m
/-- A region of a deferred function: it may recover. -/
def evOpsS (P : Program) (G : Nat) (ops : Array Oper) : List Oper → Tm → St → Md → Option (Tm × St × Md)
  | [], tm, st, md => some (tm, st, md)
  | o :: rest, tm, st, md =>
    if wantE ops o tm then
      match o.op with
      | .call ⟨.builtin .recover, _, _⟩ => (match md with
        | .pan v => evOpsS P G ops rest (tm.put o.dst v) st (.got v)
        | md => evOpsS P G ops rest (tm.put o.dst .nilIface) st md)
      | op => (match rdOp P st (evO G st tm) op with
        | some (v, _) => evOpsS P G ops rest (tm.put o.dst v) st md
        | none => match hvOp P G st (evO G st tm) op with
          | some (v, st') => evOpsS P G ops rest (tm.put o.dst v) st' md
          | none => none)
    else evOpsS P G ops rest (tm.put o.dst undef) st md
abbrev CodeS := Tm → St → Md → Option (Ex × Tm × St × Md)
def liftS (f : CodeF) : CodeS := fun tm st md => match f tm st with
  | some (x, tm', st') => some (x, tm', st', md)
  | none => none
def seqS (a b : CodeS) : CodeS := fun tm st md => match a tm st md with
  | some (.norm, tm1, st1, md1) => b tm1 st1 md1
  | r => r
def condS (G : Nat) (c : Operand) (a b : CodeS) : CodeS := fun tm st md => match evO G st tm c with
  | some (.bool true) => a tm st md
  | some (.bool false) => b tm st md
  | _ => none
def regS (P : Program) (G : Nat) (call : CallF) (ops : Array Oper) (draw : Bool) : CodeS := fun tm st md =>
  if draw then liftS (regE P G call false ops true) tm st md else
    match evOpsS P G ops ops.toList tm st md with
    | some (tm', st', md') => some (.norm, tm', st', md')
    | none => liftS (regE P G call false ops false) tm st md
noncomputable def evS (P : Program) (G : Nat) (call : CallF) (c : Code) : CodeS :=
  Code.rec (motive := fun _ => CodeS)
    (liftS (evCode P G call false .skip))
    (fun _ ops draw => regS P G call ops draw)
    (fun _ _ iha ihb => seqS iha ihb)
    (fun c _ _ iha ihb => condS G c iha ihb)
    (fun id p _ => liftS (evCode P G call false (.block id p)))
    (fun p _ => liftS (evCode P G call false (.loop p)))
    (fun _ _ _ _ _ _ _ _ _ => none)
    (fun id => liftS (evCode P G call false (.exit id)))
    (fun p _ => liftS (evCode P G call false (.scope p)))
    (fun l => liftS (evCode P G call false (.label l)))
    (fun l => liftS (evCode P G call false (.goto l)))
    (liftS (evCode P G call false .ret))
    (fun _ _ _ _ => none)
    c
/-- A deferred call. -/
noncomputable def callS (E : Env) (rec : CallF) (f : FuncId) (args : List Value) (st : St) (md : Md) : Option (St × Md) :=
  match E.look f with
  | none => none
  | some fn => match fn.body with
    | none => none
    | some c => if Nat.ble (max fn.ntmps args.length) bigN then
        (match evS E.P E.G rec c (tm0 args fn.ntmps) st md with
        | some (.norm, tm', st', md') => (match tm'.ds, resL E.P st' tm' fn.results.toList with
          | [], some _ => some (st', md')
          | _, _ => none)
        | some (.ret, tm', st', md') => (match tm'.ds, resL E.P st' tm' fn.results.toList with
          | [], some _ => some (st', md')
          | _, _ => none)
        | _ => none) else none
/-- A frame is left. -/
noncomputable def leaveE (E : Env) (rec : CallF) (fn : Func) (tm : Tm) : List Dfr → Md → St → Option (Res × St)
  | [], .ret, st => match resL E.P st tm fn.results.toList with
    | some vs => some (.ret (tupE vs), st)
    | none => none
  | [], .pan v, st => some (.pan v, st)
  | [], .got _, _ => none
  | .mark i :: ds, md, st => match st.h.get i with
    | some (.defr true, _) => leaveE E rec fn tm ds md (st.put i (.defr false))
    | _ => none
  | .call f args :: ds, md, st => match callS E rec f args st md with
    | some (st', md') => leaveE E rec fn tm ds (settleE md') st'
    | none => none
/-- A function of the program is entered. -/
noncomputable def enterE (E : Env) (rec : CallF) (f : FuncId) (args : List Value) (st : St) : Option (Res × St) :=
  match E.look f with
  | none => none
  | some fn => match fn.body with
    | none => none
    | some c => if Nat.ble (max fn.ntmps args.length) bigN then
        (match evCode E.P E.G rec false c (tm0 args fn.ntmps) st with
        | some (.norm, tm', st') => leaveE E rec fn tm' tm'.ds .ret st'
        | some (.ret, tm', st') => leaveE E rec fn tm' tm'.ds .ret st'
        | some (.pan v, tm', st') => leaveE E rec fn tm' tm'.ds (.pan v) st'
        | _ => none) else none
def putL : List Tmp → List Value → Tm → Tm
  | t :: ts, v :: vs, tm => putL ts vs (tm.put (some t) v)
  | _, _, tm => tm
/-- A round ends. -/
def endE (i : Nat) (st : St) (jump : Option Code) (b : Bool) : Option (Res × St) := match st.h.get i with
  | some (.loop _ _ tm ps as bo df, _) => some (.ret (.bool b), st.put i (.loop (if b then .ready else .done) jump tm ps as bo df))
  | _ => none
/-- A round. -/
noncomputable def roundE (E : Env) (rec : CallF) (i : Nat) (args : List Value) (st : St) : Option (Res × St) :=
  match st.h.get i with
  | some (.loop _ _ tm ps assign body _, _) => if Nat.beq ps.size args.length then
      (match evCode E.P E.G rec true assign { putL ps.toList args tm with ds := [] } st with
      | some (.norm, tm1, st1) => (match st1.h.get i with
        | some (.loop .ready pe tm2 ps2 as2 bo2 df2, _) =>
          (match evCode E.P E.G rec true body tm1 (st1.put i (.loop .busy pe tm2 ps2 as2 bo2 df2)) with
          | some (.norm, _, st3) => endE i st3 none true
          | some (.ret, _, st3) => endE i st3 (some .ret) false
          | some (.exit id, _, st3) => endE i st3 (some (.exit id)) false
          | _ => none)
        | _ => none)
      | _ => none) else none
  | _ => none
noncomputable def callStep (E : Env) (rec : CallF) : CallF := fun c args st => match c with
  | .fn f => (match E.ext f args st with
    | some (v, st') => some (.ret v, st')
    | none => match E.orc f args st with
      | some (v, st') => some (.ret v, st')
      | none => enterE E rec f args st)
  | .ent f => enterE E rec f args st
  | .yld i => roundE E rec i args st
noncomputable def evCall (E : Env) (n : Nat) : CallF :=
  Nat.rec (motive := fun _ => CallF) (fun _ _ _ => none) (fun _ ih => callStep E ih) n
/-- A table of proved calls, sound. -/
def OrcOk (P : Program) (G : Nat) (orc : FuncId → List Value → St → Option (Value × St)) : Prop :=
  ∀ f args st v st', orc f args st = some (v, st') → ∀ M w args', RR P G M st w → VRs M args args' →
    (callFunc f args'.toArray).run P w = .ok (.enter f args'.toArray) w ∧ Calls P f args'.toArray w (CallR P G M st w (.ret v) st')
structure Env.Ok (E : Env) : Prop where
  mixed : E.P.follows .mixedOrders = true
  look : ∀ f fn, E.look f = some fn → E.P.funcs[f]? = some fn ∧ (fn.name == "runtime.NumGoroutine") = false
  ext : ∀ f args st v st', E.ext f args st = some (v, st') → ∀ M w args', RR E.P E.G M st w → VRs M args args' → ∃ M' v' w', (callFunc f args'.toArray).run E.P w = .ok (.value v') w' ∧ RR E.P E.G M' st' w' ∧ Stp M st w M' st' w' ∧ VR M' v v'
  orc : OrcOk E.P E.G E.orc
section
variable {P : Program} {M : Mp} {G : Nat} {st : St} {w w' : World}
theorem argTr_get : ∀ (l : List Value) (k : Nat) (t : Tr Value) (i : Nat), k + l.length + 1 < 2 ^ 20 → (argTr l k t).get i = if k ≤ i ∧ i < k + l.length then l[i - k]? else t.get i
  | [], k, t, i, h => by unfold argTr; rw [if_neg (by simp)]
  | v :: l, k, t, i, h => by
    simp only [List.length_cons] at h ⊢
    unfold argTr
    rw [argTr_get l (k + 1) _ i (by omega), Tr.get_set 20 t k v i (by omega)]
    by_cases h1 : i = k
    · subst h1
      rw [if_neg (by omega), if_pos rfl, if_pos (by omega)]
      simp
    · by_cases h2 : k + 1 ≤ i ∧ i < k + 1 + l.length
      · rw [if_pos h2, if_pos (by omega), show i - k = (i - (k + 1)) + 1 from by omega, List.getElem?_cons_succ]
      · rw [if_neg h2, if_neg h1, if_neg (by omega)]
theorem tm0_TR {args args' : List Value} (h : VRs M args args') {n : Nat} (hb : max n args.length ≤ bigN) : TR M (tm0 args n) (args'.toArray ++ Array.replicate (n - args'.toArray.size) undef) := by
  have hl := h.len
  refine ⟨by simp [tm0, hl] <;> omega, hb, fun t => ?_⟩
  have hlim : 0 + args.length + 1 < 2 ^ 20 := by unfold bigN at hb; omega
  unfold Tm.get tm0
  dsimp only
  rw [argTr_get args 0 .lf t hlim]
  rw [Array.getD_eq_getD_getElem?]
  by_cases ht : t < args.length
  · rw [if_pos (by omega), Nat.sub_zero, Array.getElem?_append_left (by simpa [hl] using ht)]
    obtain ⟨v', e, hv⟩ := h.get t _ (List.getElem?_eq_getElem ht)
    rw [List.getElem?_eq_getElem ht]
    simp only [List.getElem?_toArray, e, Option.getD_some]
    exact hv
  · rw [if_neg (by omega), Tr.get_lf]
    dsimp only
    have : (((args'.toArray ++ Array.replicate (n - args'.toArray.size) undef)[t]?).getD undef) = undef := by
      rw [Array.getElem?_append_right (by simp [hl]; omega)]
      rw [Array.getElem?_replicate]
      split <;> rfl
    rw [this]
    exact .undef M
def resS (A : Array Value) : ResultVar → Sem Value
  | .tmp t => pure (A.getD t undef)
  | .cell a t => do loadVar t (← asAddr (A.getD a undef))
theorem results_eq (fn : Func) (A : Array Value) : results fn A = (do
    let vs ← fn.results.mapM (resS A)
    pure (if h : vs.size = 1 then vs[0] else .tuple vs)) := by
  unfold results
  congr 1
theorem resE_sound (hR : RR P G M st w) {tm : Tm} {A : Array Value} (hT : TR M tm A) {r : ResultVar} {v : Value} (h : resE P st tm r = some v) :
    ∃ v', VR M v v' ∧ (resS A r).run P w = .ok v' w := by
  cases r with
  | tmp t => cases h; exact ⟨_, hT.get t, rfl⟩
  | cell a t =>
    unfold resE at h
    dsimp only at h
    split at h
    · rename_i u rs hl
      cases h
      obtain ⟨v', hv, hrun⟩ := ldE_sound hR hl (hT.get a)
      refine ⟨v', hv, ?_⟩
      have hx := hrun w (Sm.self _ _ _)
      have hVR := hT.get a
      unfold resS
      dsimp only
      generalize A.getD a undef = y at hx hVR ⊢
      unfold ldE at hl
      split at hl
      · rename_i i off he
        rw [he] at hVR
        cases hVR with
        | flat hf => simp [flatV] at hf
        | ptr hL =>
          simp only [Instr.loadAt, Instr.sureAddr, Sem.run_bind, Sem.run_pure, Result.andThen_ok] at hx
          simp only [asAddr, Sem.run_bind, Sem.run_pure, Result.andThen_ok]
          exact hx
      · cases hl
    · cases h
theorem resL_sound (hR : RR P G M st w) {tm : Tm} {A : Array Value} (hT : TR M tm A) : ∀ {l : List ResultVar} {vs : List Value}, resL P st tm l = some vs →
    ∃ vs', VRs M vs vs' ∧ (l.mapM (resS A)).run P w = .ok vs' w
  | [], vs, h => by cases h; exact ⟨[], .nil, by simp⟩
  | r :: l, vs, h => by
    unfold resL at h
    split at h
    · rename_i v vs1 h1 h2
      cases h
      obtain ⟨v', hv, r1⟩ := resE_sound hR hT h1
      obtain ⟨vs', hvs, r2⟩ := resL_sound hR hT h2
      refine ⟨v' :: vs', .cons hv hvs, ?_⟩
      rw [List.mapM_cons, Sem.run_bind, r1, Result.andThen_ok, Sem.run_bind, r2, Result.andThen_ok]
      rfl
    · cases h
theorem results_sound (hR : RR P G M st w) {tm : Tm} {A : Array Value} (hT : TR M tm A) {fn : Func} {vs : List Value} (h : resL P st tm fn.results.toList = some vs) : ∃ v', VR M (tupE vs) v' ∧ (results fn A).run P w = .ok v' w := by
  obtain ⟨vs', hvs, r⟩ := resL_sound hR hT h
  have hl := hvs.len
  refine ⟨if h : vs'.toArray.size = 1 then vs'.toArray[0] else .tuple vs'.toArray, ?_, ?_⟩
  · match vs, vs', hvs with
    | [], _, .nil => exact .tup .nil
    | [v], _, .cons hv .nil => exact hv
    | v :: u :: l, _, .cons hv (.cons hu hll) =>
      rw [dif_neg (by simp)]
      exact .tup (.cons hv (.cons hu hll))
  · rw [results_eq, Sem.run_bind, Array.mapM_eq_mapM_toList]
    rw [map_eq_pure_bind, Sem.run_bind, r, Result.andThen_ok]
    rfl
theorem callFunc_run' {f : FuncId} {fn : Func} {c : Code} (hf : P.funcs[f]? = some fn) (hb : fn.body = some c) (hn : (fn.name == "runtime.NumGoroutine") = false) (args : Array Value) (w : World) : (callFunc f args).run P w = .ok (.enter f args) w :=
  callFunc_run ⟨fn, hf, by rw [hb]; rfl, hn⟩ args w
/-! ### Deferred calls -/
inductive MdR (M : Mp) : Md → FrameMode → Prop where
  | ret : MdR M .ret .returning
  | pan {v v' : Value} : VR M v v' → MdR M (.pan v) (.panicking [{ v := v', recovered := false }])
  | got {v v' : Value} : VR M v v' → MdR M (.got v) (.panicking [{ v := v', recovered := true }])
theorem MdR.ext {M M' : Mp} (h : Ext M M') {m : Md} {u : FrameMode} (k : MdR M m u) : MdR M' m u := by
  cases k with
  | ret => exact .ret
  | pan a => exact .pan (a.ext h)
  | got a => exact .got (a.ext h)
theorem MdR.settle {m : Md} {u : FrameMode} (k : MdR M m u) : MdR M (settleE m) (settle u) := by
  cases k with
  | ret => exact .ret
  | pan a => exact .pan a
  | got a => exact .ret
def QSS (P : Program) (G : Nat) (M : Mp) (st : St) (w : World) (x : Ex) (tm' : Tm) (st' : St) (md' : Md) (c0 : Frame) (cs : List Frame) : Exit → Act → List Frame → World → Prop :=
  fun e a' cs' w' => ∃ M', ExR M' x e ∧ TR M' tm' a'.tmps ∧ RR P G M' st' w' ∧ Stp M st w M' st' w' ∧ DRs M' tm'.ds a'.defers ∧ ∃ u', cs' = { c0 with mode := u' } :: cs ∧ MdR M' md' u'
theorem evOpsS_sound (ops : Array Oper) {c0 : Frame} {cs : List Frame} {M0 : Mp} {st0 : St} {w0 : World} {tm' : Tm} {st' : St} {md' : Md} :
    ∀ (rest : List Oper) (k : Nat), ops.toList.drop k = rest → ∀ (M : Mp) (st : St) (w : World) (tm : Tm) (a : Act) (md : Md) (u : FrameMode),
    evOpsS P G ops rest tm st md = some (tm', st', md') → RR P G M st w → TR M tm a.tmps → DRs M tm.ds a.defers → Stp M0 st0 w0 M st w → MdR M md u →
    wpOpsSIn (fw none) 0 P ops (QSS P G M0 st0 w0 .norm tm' st' md' c0 cs) (List.range' k rest.length) a ({ c0 with mode := u } :: cs) w
  | [], k, hk, M, st, w, tm, a, md, u, h, hR, hT, hD, hS, hm => by
    cases h
    exact ⟨M, trivial, hT, hR, hS, hD, u, rfl, hm⟩
  | o :: rest, k, hk, M, st, w, tm, a, md, u, h, hR, hT, hD, hS, hm => by
    have hok : ops[k]? = some o := by
      rw [← Array.getElem?_toList]
      have := congrArg (·[0]?) hk
      simp only [List.getElem?_drop, List.getElem?_cons_zero, Nat.add_zero] at this
      exact this
    have hk' : ops.toList.drop (k + 1) = rest := by
      rw [← List.drop_drop, hk]; rfl
    rw [List.length_cons, List.range'_succ]
    unfold wpOpsSIn
    simp only [hok]
    rw [wantE_eq hT ops o]
    unfold evOpsS at h
    refine ⟨fun _ _ => trivial, ?_⟩
    split at h
    · rename_i hw
      rw [if_pos hw]
      split at h
      · rename_i as ats hop
        have hex : (execOp a.eval o).run P w = .ok .recover w := by
          unfold execOp
          rw [hop]
          rfl
        rw [hex]
        cases hm with
        | pan hv =>
          rename_i v v'
          dsimp only at h
          show wpOpsSIn _ _ _ _ _ _ _ _ _
          exact evOpsS_sound ops rest (k + 1) hk' M st w (tm.put o.dst v) (a.put o.dst v') (.got v) _ h hR (hT.put o.dst hv) (hD.put o.dst _ _) hS (.got hv)
        | ret =>
          dsimp only at h
          exact evOpsS_sound ops rest (k + 1) hk' M st w (tm.put o.dst .nilIface) (a.put o.dst .nilIface) .ret _ h hR (hT.put o.dst (.flat rfl)) (hD.put o.dst _ _) hS .ret
        | got hv =>
          dsimp only at h
          exact evOpsS_sound ops rest (k + 1) hk' M st w (tm.put o.dst .nilIface) (a.put o.dst .nilIface) (.got _) _ h hR (hT.put o.dst (.flat rfl)) (hD.put o.dst _ _) hS (.got hv)
      · rename_i op hnr
        split at h
        · rename_i v rs hr
          obtain ⟨v', hv, hrun⟩ := rdOp_sound hR (fun y u e => evO_sound hR hT e) hr
          rw [hrun w (Sm.self M w rs)]
          exact evOpsS_sound ops rest (k + 1) hk' M st w (tm.put o.dst v) (a.put o.dst v') md u h hR (hT.put o.dst hv) (hD.put o.dst _ _) hS hm
        · split at h
          · rename_i v st1 hh
            obtain ⟨M', v', w', hrun, h1, h2, h3⟩ := hvOp_sound hR (fun y u e => evO_sound hR hT e) hh
            rcases hrun with hrun | ⟨hu, hrun⟩
            · rw [hrun]
              exact evOpsS_sound ops rest (k + 1) hk' M' st1 w' (tm.put o.dst v) (a.put o.dst v') md u h h1 ((hT.ext h2.ext).put o.dst h3) ((hD.ext h2.ext).put o.dst _ _) (hS.trans h2) (hm.ext h2.ext)
            · subst hu
              rw [hrun]
              exact evOpsS_sound ops rest (k + 1) hk' M' st1 w' (tm.put o.dst v) (a.put o.dst undef) md u h h1 ((hT.ext h2.ext).put o.dst h3) ((hD.ext h2.ext).put o.dst _ _) (hS.trans h2) (hm.ext h2.ext)
          · cases h
    · rename_i hw
      rw [if_neg hw]
      exact evOpsS_sound ops rest (k + 1) hk' M st w (tm.put o.dst undef) (a.put o.dst undef) md u h hR (hT.put o.dst (.undef M)) (hD.put o.dst _ _) hS hm
def CodeSOk (P : Program) (G : Nat) (f : CodeS) (c : Code) : Prop :=
  ∀ tm st md x tm' st' md', f tm st md = some (x, tm', st', md') → ∀ (M : Mp) (w : World) (a : Act) (c0 : Frame) (cs : List Frame) (u : FrameMode), RR P G M st w → TR M tm a.tmps → DRs M tm.ds a.defers → MdR M md u →
    c.wpSIn (fw none) 0 P (QSS P G M st w x tm' st' md' c0 cs) a ({ c0 with mode := u } :: cs) w
theorem liftS_sound {f : CodeF} {c : Code} (hf : CodeOk P G none f c) : CodeSOk P G (liftS f) c := by
  intro tm st md x tm' st' md' h M w a c0 cs u hR hT hD hm
  unfold liftS at h
  cases hb : f tm st with
  | none => rw [hb] at h; cases h
  | some res =>
    obtain ⟨y, tm1, st1⟩ := res
    rw [hb] at h
    cases h
    refine wpSIn_of_wpIn rfl (wpIn_mono (hf tm st x tm' st' hb M w a hR hT hD) ?_)
    rintro e a1 w1 ⟨M1, q1, q2, q3, q4, q5⟩
    exact ⟨M1, q1, q2, q3, q4, q5, u, rfl, hm.ext q4.ext⟩
theorem wpSIn_mono {F : Fence} {n : Nat} {c : Code} {Q Q' : Exit → Act → List Frame → World → Prop} {a : Act} {cs : List Frame} (h : c.wpSIn F n P Q a cs w) (hq : ∀ e a cs w, Q e a cs w → Q' e a cs w) : c.wpSIn F n P Q' a cs w :=
  fun b k hb hr hF hroom => let ⟨e, a', cs', w', l, q, r⟩ := h b k hb hr hF hroom; ⟨e, a', cs', w', l, hq _ _ _ _ q, r⟩
theorem evS_sound {call : CallF} (hcall : CallOk P G call) (hm : P.follows .mixedOrders = true) : ∀ (c : Code), CodeSOk P G (evS P G call c) c
  | .skip => liftS_sound (evC_sound (ro := false) hcall hm (fun _ => rfl) .skip).1
  | .label l => liftS_sound (evC_sound (ro := false) hcall hm (fun _ => rfl) (.label l)).1
  | .exit id => liftS_sound (evC_sound (ro := false) hcall hm (fun _ => rfl) (.exit id)).1
  | .goto l => liftS_sound (evC_sound (ro := false) hcall hm (fun _ => rfl) (.goto l)).1
  | .ret => liftS_sound (evC_sound (ro := false) hcall hm (fun _ => rfl) .ret).1
  | .refuse why => by intro tm st md x tm' st' md' h; cases h
  | .rangeFunc f ps p q => by intro tm st md x tm' st' md' h; cases h
  | .block id p => liftS_sound (evC_sound (ro := false) hcall hm (fun _ => rfl) (.block id p)).1
  | .loop p => liftS_sound (evC_sound (ro := false) hcall hm (fun _ => rfl) (.loop p)).1
  | .scope p => liftS_sound (evC_sound (ro := false) hcall hm (fun _ => rfl) (.scope p)).1
  | .region id ops draw => by
    intro tm st md x tm' st' md' h M w a c0 cs u hR hT hD hmd
    have h : regS P G call ops draw tm st md = some (x, tm', st', md') := h
    unfold regS at h
    cases draw with
    | true =>
      rw [if_pos rfl] at h
      exact liftS_sound (evC_sound (ro := false) hcall hm (fun _ => rfl) (.region id ops true)).1 tm st md x tm' st' md' h M w a c0 cs u hR hT hD hmd
    | false =>
      rw [if_neg (by simp)] at h
      split at h
      · rename_i tm1 st1 md1 he
        cases h
        have := evOpsS_sound (c0 := c0) (cs := cs) ops (M0 := M) (st0 := st) (w0 := w) ops.toList 0 rfl M st w tm a md u he hR hT hD (.refl _ _ _) hmd
        refine wpSIn_region ?_
        rw [List.range_eq_range']
        rw [Array.length_toList] at this
        exact this
      · exact liftS_sound (evC_sound (ro := false) hcall hm (fun _ => rfl) (.region id ops false)).1 tm st md x tm' st' md' h M w a c0 cs u hR hT hD hmd
  | .cond c p q => by
    intro tm st md x tm' st' md' h M w a c0 cs u hR hT hD hmd
    have h : condS G c (evS P G call p) (evS P G call q) tm st md = some (x, tm', st', md') := h
    unfold condS at h
    split at h
    · rename_i hc
      exact wpSIn_cond (t := true) (evO_sound hR hT hc).bool (evS_sound hcall hm p tm st md x tm' st' md' h M w a c0 cs u hR hT hD hmd)
    · rename_i hc
      exact wpSIn_cond (t := false) (evO_sound hR hT hc).bool (evS_sound hcall hm q tm st md x tm' st' md' h M w a c0 cs u hR hT hD hmd)
    · cases h
  | .seq p q => by
    intro tm st md x tm' st' md' h M w a c0 cs u hR hT hD hmd
    have h : seqS (evS P G call p) (evS P G call q) tm st md = some (x, tm', st', md') := h
    unfold seqS at h
    refine wpSIn_seq ?_
    cases hb : evS P G call p tm st md with
    | none => rw [hb] at h; cases h
    | some res =>
      obtain ⟨y, tm1, st1, md1⟩ := res
      rw [hb] at h
      refine wpSIn_mono (evS_sound hcall hm p tm st md y tm1 st1 md1 hb M w a c0 cs u hR hT hD hmd) ?_
      rintro e a1 cs1 w1 ⟨M1, q1, q2, q3, q4, q5, u1, q6, q7⟩
      subst q6
      cases y with
      | norm =>
        cases e <;> first | (cases q1; done) | skip
        refine wpSIn_mono (evS_sound hcall hm q tm1 st1 md1 x tm' st' md' h M1 w1 a1 c0 cs u1 q3 q2 q5 q7) ?_
        rintro e a2 cs2 w2 ⟨M2, p1, p2, p3, p4, p5⟩
        exact ⟨M2, p1, p2, p3, q4.trans p4, p5⟩
      | exit i =>
        cases h
        cases e <;> first | exact q1.elim | exact ⟨M1, q1, q2, q3, q4, q5, u1, rfl, q7⟩
      | goto i =>
        cases h
        cases e <;> first | exact q1.elim | exact ⟨M1, q1, q2, q3, q4, q5, u1, rfl, q7⟩
      | ret =>
        cases h
        cases e <;> first | exact q1.elim | exact ⟨M1, q1, q2, q3, q4, q5, u1, rfl, q7⟩
      | pan v =>
        cases h
        cases e <;> first | exact q1.elim | exact ⟨M1, q1, q2, q3, q4, q5, u1, rfl, q7⟩
theorem callS_sound {E : Env} (hE : E.Ok) {rec : CallF} (hrec : CallOk E.P E.G rec) {f : FuncId} {args : List Value} {md md' : Md} {st' : St} (h : callS E rec f args st md = some (st', md')) {args' : List Value} {u : FrameMode}
    (hR : RR E.P E.G M st w) (hA : VRs M args args') (hmd : MdR M md u) :
    (callFunc f args'.toArray).run E.P w = .ok (.enter f args'.toArray) w ∧ CallsDIn (fw none) 0 E.P f args'.toArray u w fun e u' w' => ∃ M' v, e = .returned v ∧ RR E.P E.G M' st' w' ∧ Stp M st w M' st' w' ∧ MdR M' md' u' := by
  unfold callS at h
  split at h
  · cases h
  · rename_i fn hl
    obtain ⟨hf, hn⟩ := hE.look f fn hl
    split at h
    · cases h
    · rename_i c hb
      split at h
      · rename_i hle
        rw [Nat.ble_eq] at hle
        refine ⟨callFunc_run' hf hb hn _ w, callsDIn_of_wpSIn hf hb trivial fun c0 cs hc0 => ?_⟩
        have hT := tm0_TR hA (n := fn.ntmps) hle
        have hc : ({ c0 with mode := u } : Frame) = c0 := by subst hc0; rfl
        have key : ∀ x tm' st1 md1, evS E.P E.G rec c (tm0 args fn.ntmps) st md = some (x, tm', st1, md1) → _ := fun x tm' st1 md1 hx =>
          evS_sound hrec hE.mixed c (tm0 args fn.ntmps) st md x tm' st1 md1 hx M w ⟨args'.toArray ++ Array.replicate (fn.ntmps - args'.toArray.size) undef, []⟩ c0 cs u hR hT .nil hmd
        rw [hc] at key
        split at h
        · rename_i tm' st1 md1 hx
          split at h
          · rename_i vs hds hvs
            cases h
            refine wpSIn_mono (key _ _ _ _ hx) ?_
            rintro e a1 cs1 w1 ⟨M1, q1, q2, q3, q4, q5, u1, q6, q7⟩
            cases e <;> first | exact q1.elim | skip
            obtain ⟨v', hv, hr⟩ := results_sound q3 q2 hvs
            rw [hds] at q5
            have hd0 : a1.defers = [] := by cases hq : a1.defers with
              | nil => rfl
              | cons _ _ => rw [hq] at q5; cases q5
            exact ⟨hd0, u1, q6, v', hr, M1, v', rfl, q3, q4, q7⟩
          · cases h
        · rename_i tm' st1 md1 hx
          split at h
          · rename_i vs hds hvs
            cases h
            refine wpSIn_mono (key _ _ _ _ hx) ?_
            rintro e a1 cs1 w1 ⟨M1, q1, q2, q3, q4, q5, u1, q6, q7⟩
            cases e <;> first | exact q1.elim | skip
            obtain ⟨v', hv, hr⟩ := results_sound q3 q2 hvs
            rw [hds] at q5
            have hd0 : a1.defers = [] := by cases hq : a1.defers with
              | nil => rfl
              | cons _ _ => rw [hq] at q5; cases q5
            exact ⟨hd0, u1, q6, v', hr, M1, v', rfl, q3, q4, q7⟩
          · cases h
        · cases h
      · cases h
theorem run_takeDeferred {b : Nat} (h : w.heap[b]? = some (.deferred (some []))) : ∃ w', (Instr.takeDeferred b).run P w = .ok [] w' ∧ w'.heap[b]? = some (.deferred none) ∧ Upd w w' b := by
  have hlt : b < w.heap.size := (Array.getElem?_eq_some_iff.1 h).1
  refine ⟨{ w with heap := w.heap.setIfInBounds b (.deferred none) }, ?_, ?_, ⟨fun b' hb => ?_, ?_, rfl, rfl, rfl⟩⟩
  · unfold Instr.takeDeferred
    have hg : (getObj b).run P w = .ok (.deferred (some [])) w := by
      show (Sem.getObj b .pure).run P w = _
      simp only [Sem.run, h]
    have hs : (setObj b (.deferred none)).run P w = .ok () { w with heap := w.heap.setIfInBounds b (.deferred none) } := by
      show (Sem.setObj b (.deferred none) (.pure ())).run P w = _
      simp only [Sem.run, h]
    rw [Sem.run_bind, hg, Result.andThen_ok]
    dsimp only
    rw [Sem.run_bind, hs, Result.andThen_ok]
    rfl
  · simp [hlt]
  · simp only [Array.getElem?_setIfInBounds]
    rw [if_neg (Ne.symm hb)]
  · simp
theorem leaveE_sound {E : Env} (hE : E.Ok) {rec : CallF} (hrec : CallOk E.P E.G rec) {fn : Func} {tm : Tm} {A : Array Value} {M0 : Mp} {st0 : St} {w0 : World} {r : Res} {st' : St} :
    ∀ (ds : List Dfr) (md : Md) (st : St) (M : Mp) (w : World) (ds' : List Deferred) (u : FrameMode), leaveE E rec fn tm ds md st = some (r, st') → RR E.P E.G M st w → TR M tm A → DRs M ds ds' → Stp M0 st0 w0 M st w → MdR M md u →
    LeavesInM (fw none) 0 E.P fn A (CallR E.P E.G M0 st0 w0 r st') ds' u w
  | [], md, st, M, w, ds', u, h, hR, hT, hD, hS, hm => by
    cases hD
    unfold LeavesInM
    cases hm with
    | ret =>
      unfold leaveE at h
      split at h
      · rename_i vs hvs
        cases h
        obtain ⟨v', hv, hr⟩ := results_sound hR hT hvs
        exact ⟨v', hr, M, hv, hR, hS⟩
      · cases h
    | pan hv =>
      cases h
      exact ⟨M, ⟨_, rfl, hv⟩, hR, hS⟩
    | got hv => cases h
  | .mark i :: ds, md, st, M, w, ds', u, h, hR, hT, hD, hS, hm => by
    cases hD with
    | cons hd hD =>
      cases hd with
      | mark hL =>
        rename_i l' L as
        unfold leaveE at h
        split at h
        · rename_i vv hg
          obtain ⟨L', hL', hB⟩ := hR.blk _ _ _ hg
          rw [hL] at hL'; cases hL'
          obtain ⟨w', e1, e2, e3⟩ := run_takeDeferred (P := E.P) hB
          obtain ⟨r4, s4⟩ := RR.turn (ab' := .defr false) hR hg rfl rfl (fun p hp => by cases hp) rfl hL e2 e3
          unfold LeavesInM
          refine ⟨by cases hm <;> simp, .inl ⟨L.b, w', rfl, e1, ?_⟩⟩
          exact leaveE_sound hE hrec ds md _ M w' l' u h r4 hT hD (hS.trans s4) hm
        · cases h
  | .call f args :: ds, md, st, M, w, ds', u, h, hR, hT, hD, hS, hm => by
    cases hD with
    | cons hd hD =>
      cases hd with
      | call hA =>
        rename_i l' cap as
        unfold leaveE at h
        split at h
        · rename_i st1 md1 hc
          obtain ⟨e1, e2⟩ := callS_sound hE hrec hc hR hA hm
          unfold LeavesInM
          refine ⟨by cases hm <;> simp, .inr ⟨fun hh => (by cases hh), .func f, cap, f, _, rfl, e1, fun _ _ => trivial, ?_⟩⟩
          refine e2.mono fun e u' w' hq => ?_
          obtain ⟨M1, v, rfl, q1, q2, q3⟩ := hq
          exact leaveE_sound hE hrec ds (settleE md1) st1 M1 w' l' (settle u') h q1 (hT.ext q2.ext) (hD.ext q2.ext) (hS.trans q2) q3.settle
        · cases h
theorem enterE_sound {E : Env} (hE : E.Ok) {rec : CallF} (hrec : CallOk E.P E.G rec) {f : FuncId} {args : List Value} {r : Res} {st' : St} (h : enterE E rec f args st = some (r, st')) {args' : List Value}
    (hR : RR E.P E.G M st w) (hA : VRs M args args') :
    (callFunc f args'.toArray).run E.P w = .ok (.enter f args'.toArray) w ∧ Calls E.P f args'.toArray w (CallR E.P E.G M st w r st') := by
  unfold enterE at h
  split at h
  · cases h
  · rename_i fn hl
    obtain ⟨hf, hn⟩ := hE.look f fn hl
    split at h
    · cases h
    · rename_i c hb
      split at h
      · rename_i hle
        rw [Nat.ble_eq] at hle
        refine ⟨callFunc_run' hf hb hn _ w, callsIn_fw.1 (callsIn_of_wp_marks (F := fw none) (n := 0) hf hb trivial ?_)⟩
        have hT := tm0_TR hA (n := fn.ntmps) hle
        have key : ∀ x tm' st1, evCode E.P E.G rec false c (tm0 args fn.ntmps) st = some (x, tm', st1) → _ := fun x tm' st1 hx =>
          (evC_sound hrec hE.mixed (fun _ => rfl) c).1 (tm0 args fn.ntmps) st x tm' st1 hx M w ⟨args'.toArray ++ Array.replicate (fn.ntmps - args'.toArray.size) undef, []⟩ hR hT .nil
        split at h
        · rename_i tm' st1 hx
          refine wpIn_mono (key _ _ _ hx) ?_
          rintro e a1 w1 ⟨M1, q1, q2, q3, q4, q5⟩
          cases e <;> first | exact q1.elim | skip
          exact leaveE_sound hE hrec tm'.ds .ret st1 M1 w1 a1.defers .returning h q3 q2 q5 q4 .ret
        · rename_i tm' st1 hx
          refine wpIn_mono (key _ _ _ hx) ?_
          rintro e a1 w1 ⟨M1, q1, q2, q3, q4, q5⟩
          cases e <;> first | exact q1.elim | skip
          exact leaveE_sound hE hrec tm'.ds .ret st1 M1 w1 a1.defers .returning h q3 q2 q5 q4 .ret
        · rename_i v tm' st1 hx
          refine wpIn_mono (key _ _ _ hx) ?_
          rintro e a1 w1 ⟨M1, q1, q2, q3, q4, q5⟩
          cases e <;> first | exact q1.elim | skip
          obtain ⟨v', rfl, hv⟩ := q1
          exact leaveE_sound hE hrec tm'.ds (.pan v) st1 M1 w1 a1.defers _ h q3 q2 q5 q4 (.pan hv)
        · cases h
      · cases h
end
end Go.Wx
end PEv26
/- The evaluator: rounds; calls are sound; ground calls. -/
noncomputable section PEv27
set_option linter.unusedVariables false
set_option linter.unusedSimpArgs false
namespace Go.Wx
open Go.RowKit
section
variable {P : Program} {M : Mp} {G : Nat} {st : St} {w w' : World}
theorem putL_sound : ∀ (ts : List Tmp) (vs vs' : List Value) (tm : Tm) (A : Array Value), TR M tm A → VRs M vs vs' → TR M (putL ts vs tm) ((ts.zip vs').foldl (fun A p => A.setIfInBounds p.1 p.2) A)
  | [], vs, vs', tm, A, hT, hV => hT
  | t :: ts, [], vs', tm, A, hT, hV => by cases hV; exact hT
  | t :: ts, v :: vs, vs', tm, A, hT, hV => by
    cases hV with
    | cons h1 h2 =>
      rename_i v' l'
      rw [List.zip_cons_cons, List.foldl_cons]
      unfold putL
      exact putL_sound ts vs l' _ _ (TR.put (a := ⟨A, []⟩) hT (some t) h1) h2
theorem putL_ds : ∀ (ts : List Tmp) (vs : List Value) (tm : Tm), (putL ts vs tm).ds = tm.ds
  | [], vs, tm => rfl
  | t :: ts, [], tm => rfl
  | t :: ts, v :: vs, tm => by unfold putL; rw [putL_ds ts vs]; exact put_ds _ _ _
theorem endE_sound (hR : RR P G M st w) {i : Nat} {L : Loc} (hL : M i = some L) {jump : Option Code} {b : Bool} (hb : jump.isNone = b) {r : Res} {st' : St} (h : endE i st jump b = some (r, st')) :
    ∃ w', (Instr.endRound L.b jump).run P w = .ok (.bool b) w' ∧ CallR P G M st w r st' (.returned (.bool b)) w' := by
  unfold endE at h
  split at h
  · rename_i s p tm ps as bo df v hg
    cases h
    obtain ⟨L', hL', hB⟩ := hR.blk _ _ _ hg
    rw [hL] at hL'; cases hL'
    obtain ⟨tmps3, Ld, d1, d2, fn3, d3⟩ := hB
    obtain ⟨w4, e1, e2, e3⟩ := run_setObjW (P := P) (w := w) (l := L.b) (o := .loop ⟨if b then .ready else .done, jump, fn3, tmps3, ps, as, bo, Ld.b⟩) d3
    obtain ⟨r4, s4⟩ := RR.turn (ab' := .loop (if b then .ready else .done) jump tm ps as bo df) hR hg rfl rfl (fun p hp => by cases hp) rfl hL ⟨tmps3, Ld, d1, d2, fn3, e2⟩ e3
    refine ⟨w4, ?_, M, .flat rfl, r4, s4⟩
    unfold Instr.endRound
    rw [Sem.run_bind, run_getLoop d3, Result.andThen_ok, hb]
    rw [Sem.run_bind, e1, Result.andThen_ok]
    rfl
  · cases h
theorem roundE_sound {E : Env} (hE : E.Ok) {rec : CallF} (hrec : CallOk E.P E.G rec) {i : Nat} {args : List Value} {r : Res} {st' : St} (h : roundE E rec i args st = some (r, st')) {args' : List Value} {L : Loc}
    (hR : RR E.P E.G M st w) (hA : VRs M args args') (hL : M i = some L) :
    ∃ f tmps assign body, (Instr.yield L.b args'.toArray).run E.P w = .ok (.round L.b f tmps assign body) w ∧ ∀ ro, RoundIn (fw ro) 0 E.P L.b f tmps assign body w (CallR E.P E.G M st w r st') := by
  unfold roundE at h
  split at h
  case h_2 => cases h
  rename_i s0 p0 tm ps assign body df v0 hg
  split at h
  case isFalse => cases h
  rename_i hlen
  rw [Nat.beq_eq] at hlen
  obtain ⟨L', hL', hB⟩ := hR.blk _ _ _ hg
  rw [hL] at hL'; cases hL'
  obtain ⟨tmps, Ld, d1, d2, fn, d3⟩ := hB
  have hal := hA.len
  refine ⟨fn, (ps.zip args'.toArray).foldl (fun tmps (t, a) => tmps.setIfInBounds t a) tmps, assign, body, ?_, fun ro => ?_⟩
  · unfold Instr.yield
    rw [Sem.run_bind, run_getLoop d3, Result.andThen_ok]
    rw [if_neg (by simp; omega)]
    rfl
  · split at h
    case h_2 => cases h
    rename_i tm1 st1 h1
    split at h
    case h_2 => cases h
    rename_i pe tm2 ps2 as2 bo2 df2 v2 hg2
    have hT0 : TR M ({ putL ps.toList args tm with ds := [] } : Tm) ((ps.zip args'.toArray).foldl (fun tmps (t, a) => tmps.setIfInBounds t a) tmps) := by
      have := putL_sound ps.toList args args' tm tmps d2 hA
      rw [← Array.foldl_toList, Array.toList_zip]
      exact ⟨this.sz, this.lim, this.get⟩
    have hround : RoundIn (fw none) 0 E.P L.b fn ((ps.zip args'.toArray).foldl (fun tmps (t, a) => tmps.setIfInBounds t a) tmps) assign body w (CallR E.P E.G M st w r st') := by
      refine roundIn_of_wpIn trivial ?_
      show assign.wpIn (fw (some L.b)) 0 E.P _ _ w
      refine wpIn_mono ((evC_sound hrec hE.mixed (ro := true) (r := some L.b) (fun e => by cases e) assign).1 _ st _ _ _ h1 M w ⟨_, []⟩ hR hT0 .nil) ?_
      rintro e a1 w1 ⟨M1, q1, q2, q3, q4, q5⟩
      cases e <;> first | exact q1.elim | skip
      have hL1 := q4.ext _ _ hL
      obtain ⟨L2, hL2, hB2⟩ := q3.blk _ _ _ hg2
      rw [hL1] at hL2; cases hL2
      obtain ⟨tmps2, Ld2, f1, f2, fn2, f3⟩ := hB2
      obtain ⟨w2, e1, e2, e3⟩ := run_setObjW (P := E.P) (w := w1) (l := L.b) (o := .loop ⟨.busy, pe, fn2, tmps2, ps2, as2, bo2, Ld2.b⟩) f3
      obtain ⟨r4, s4⟩ := RR.turn (ab' := .loop .busy pe tm2 ps2 as2 bo2 df2) q3 hg2 rfl rfl (fun p hp => by cases hp) rfl hL1 ⟨tmps2, Ld2, f1, f2, fn2, e2⟩ e3
      have hbr : (Instr.beginRound L.b).run E.P w1 = .ok () w2 := by
        unfold Instr.beginRound
        rw [Sem.run_bind, run_getLoop f3, Result.andThen_ok]
        dsimp only
        rw [Sem.run_bind, e1, Result.andThen_ok]
        rfl
      refine ⟨w2, hbr, ?_⟩
      show body.wpIn (fw (some L.b)) 0 E.P _ _ w2
      have key : ∀ x tm3 st3, evCode E.P E.G rec true body tm1 (st1.put i (.loop .busy pe tm2 ps2 as2 bo2 df2)) = some (x, tm3, st3) → _ := fun x tm3 st3 hx =>
        (evC_sound hrec hE.mixed (ro := true) (r := some L.b) (fun e => by cases e) body).1 tm1 _ x tm3 st3 hx M1 w2 a1 r4 q2 q5
      have s14 := q4.trans s4
      split at h
      · rename_i tm3 st3 hx
        refine wpIn_mono (key _ _ _ hx) ?_
        rintro e a3 w3 ⟨M3, p1, p2, p3, p4, p5⟩
        cases e <;> first | exact p1.elim | skip
        obtain ⟨w4, g1, M4, g2, g3, g4⟩ := endE_sound p3 (p4.ext _ _ hL1) (by rfl) h
        exact ⟨_, w4, g1, M4, g2, g3, (s14.trans p4).trans g4⟩
      · rename_i tm3 st3 hx
        refine wpIn_mono (key _ _ _ hx) ?_
        rintro e a3 w3 ⟨M3, p1, p2, p3, p4, p5⟩
        cases e <;> first | exact p1.elim | skip
        obtain ⟨w4, g1, M4, g2, g3, g4⟩ := endE_sound p3 (p4.ext _ _ hL1) (by rfl) h
        exact ⟨_, w4, g1, M4, g2, g3, (s14.trans p4).trans g4⟩
      · rename_i id tm3 st3 hx
        refine wpIn_mono (key _ _ _ hx) ?_
        rintro e a3 w3 ⟨M3, p1, p2, p3, p4, p5⟩
        cases e <;> first | exact p1.elim | skip
        have p1 : id = _ := p1
        subst p1
        obtain ⟨w4, g1, M4, g2, g3, g4⟩ := endE_sound p3 (p4.ext _ _ hL1) (by rfl) h
        exact ⟨_, w4, g1, M4, g2, g3, (s14.trans p4).trans g4⟩
      · cases h
    exact hround
theorem VR.flat_eqN : ∀ (n : Nat) {v v' : Value}, VR M v v' → flatN n v = true → v' = v
  | 0, v, v', h, hf => h.flat_eq hf
  | n + 1, v, v', h, hf => by
    have lst : ∀ {l l' : List Value}, VRs M l l' → l.all (flatN n) = true → l' = l := by
      intro l
      induction l with
      | nil => intro l' h _; cases h; rfl
      | cons a l ih =>
        intro l' h hf
        cases h with
        | cons h1 h2 =>
          rw [List.all_cons, Bool.and_eq_true] at hf
          rw [VR.flat_eqN n h1 hf.1, ih h2 hf.2]
    unfold flatN at hf
    split at hf
    · cases h with
      | flat hh => rfl
      | agg hl => rw [Array.toList_inj.1 (lst hl hf)]
    · cases h with
      | flat hh => rfl
      | tup hl => rw [Array.toList_inj.1 (lst hl hf)]
    · cases h with
      | flat hh => rfl
      | iface hv => rw [VR.flat_eqN n hv hf]
    · exact h.flat_eq hf
theorem VRs.flat_eqN {l l' : List Value} (h : VRs M l l') (hf : l.all (flatN 3) = true) : l' = l := by
  induction l generalizing l' with
  | nil => cases h; rfl
  | cons a l ih =>
    cases h with
    | cons h1 h2 =>
      rw [List.all_cons, Bool.and_eq_true] at hf
      rw [VR.flat_eqN 3 h1 hf.1, ih h2 hf.2]
theorem callStep_ok {E : Env} (hE : E.Ok) {rec : CallF} (hrec : CallOk E.P E.G rec) : CallOk E.P E.G (callStep E rec) := by
  refine ⟨?_, ?_, ?_⟩
  · intro f args st r st' h M w args' hR hA
    have h : (match E.ext f args st with
      | some (v, st') => some (Res.ret v, st')
      | none => match E.orc f args st with
        | some (v, st') => some (Res.ret v, st')
        | none => enterE E rec f args st) = some (r, st') := h
    cases hx : E.ext f args st with
    | some vs =>
      obtain ⟨v, st1⟩ := vs
      rw [hx] at h
      cases h
      obtain ⟨M', v', w', h1, h2, h3, h4⟩ := hE.ext f args st v _ hx M w args' hR hA
      exact .inl ⟨v, v', M', w', rfl, h1, h2, h3, h4⟩
    | none =>
      rw [hx] at h
      dsimp only at h
      cases ho : E.orc f args st with
      | none =>
        rw [ho] at h
        exact .inr (enterE_sound hE hrec h hR hA)
      | some vs =>
        obtain ⟨v, st1⟩ := vs
        rw [ho] at h
        cases h
        exact .inr (hE.orc f args st v _ ho M w args' hR hA)
  · intro i args st r st' h M w args' L hR hA hL
    exact roundE_sound hE hrec h hR hA hL
  · intro f args st r st' h M w args' hR hA
    exact enterE_sound hE hrec h hR hA
theorem evCall_ok {E : Env} (hE : E.Ok) : ∀ n, CallOk E.P E.G (evCall E n)
  | 0 => ⟨(by intro f args st r st' h; cases h), (by intro f args st r st' h; cases h), (by intro f args st r st' h; cases h)⟩
  | n + 1 => callStep_ok hE (evCall_ok hE n)
/-- The first abstract world: nothing known. -/
def st0 : St := ⟨.lf, 0, 0⟩
theorem RR.startG (P : Program) (G n : Nat) (hn : n ≤ bigN) (w : World) : RR P G (fun _ => none) ⟨.lf, n, 0⟩ w :=
  ⟨fun i L h => (by cases h), fun i ab v h => (by cases h), fun i => Nat.le_refl _, hn, fun i j ab bb vi vj Li Lj h => (by cases h), fun i j ab bb vi vj h => (by cases h), fun g L _ h => (by cases h), fun j bb v p h => (by cases h)⟩
theorem RR.start (P : Program) (w : World) : RR P 0 (fun _ => none) st0 w :=
  ⟨fun i L h => (by cases h), fun i ab v h => (by cases h), fun i => Nat.le_refl _, Nat.zero_le _, fun i j ab bb vi vj Li Lj h => (by cases h), fun i j ab bb vi vj h => (by cases h), fun g L h => absurd h (Nat.not_lt_zero g), fun j bb v p h => (by cases h)⟩
/-- A ground call whose result is flat. -/
theorem ground {E : Env} (hE : E.Ok) (hG : E.G = 0) {n : Nat} {f : FuncId} {args : List Value} {v : Value} {st' : St} (h : evCall E n (.ent f) args st0 = some (.ret v, st')) (ha : args.all (flatN 3) = true) (hv : flatN 3 v = true)
    (w : World) : (callFunc f args.toArray).run E.P w = .ok (.enter f args.toArray) w ∧ Calls E.P f args.toArray w fun e w' => e = .returned v ∧ Below w.heap.size w w' := by
  have hA : VRs (fun _ => none) args args := VRs.of_all (p := flatN 3) (fun v hv => VR.of_flatN _ 3 v hv) args ha
  obtain ⟨h0, hc⟩ := (evCall_ok hE n).2.2 f args st0 _ _ h _ w args (hG ▸ RR.start E.P w) hA
  refine ⟨h0, hc.mono fun e w' hres => ?_⟩
  obtain ⟨M', q1, q2, q3⟩ := hres
  cases e with
  | returned v' =>
    have : v' = v := VR.flat_eqN 3 q1 hv
    refine ⟨by rw [this], ⟨q3.os, q3.tape, q3.output, q3.size, fun b hb => ?_⟩⟩
    rcases q3.frame b hb with e | ⟨i, L, e, _⟩
    · exact e
    · cases e
  | panicked c => cases q1
  | outgrown => cases q1
end
end Go.Wx
end PEv27
