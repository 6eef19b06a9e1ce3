/- The evaluator's codes and calls: what it says of a ground call is what the program does; the seat's environment. -/
import Derived.Test.YtadmacldbhgijaaGreatDoorPfD
import Derived.Test.YtadmacldbhgijaaGreatDoorProg
import Derived.KernelRfl
/- The evaluator: functions without a body; what a program's environment is. -/
noncomputable section PEv28
set_option linter.unusedVariables false
set_option linter.unusedSimpArgs false
namespace Go.Wx
open Go.RowKit
def idxB (c : Nat) : List UInt8 → Nat → Option Nat
  | [], _ => none
  | b :: l, k => if Nat.beq b.toNat c then some k else idxB c l (k + 1)
/-- Numbers of the functions without a body. -/
structure ExtIds where
  ib : FuncId
  ne : FuncId
  mz : FuncId
def extE (P : Program) (G : Nat) (X : ExtIds) (elem : TypeId) (f : FuncId) (args : List Value) (st : St) : Option (Value × St) :=
  if Nat.beq f X.ib then (match args with
    | [.string s, .int .u8 c] => if decide (0 ≤ c) && decide (c < 256) then (match idxB c.toNat s.data.toList 0 with
      | some k => some (.int .i64 k, st)
      | none => some (.int .i64 (-1), st)) else none
    | _ => none)
  else if Nat.beq f X.ne then (match args with
    | [x] => some (x, st)
    | _ => none)
  else if Nat.beq f X.mz then (match args with
    | [.int .i64 n] => if decide (0 ≤ n) && decide (n ≤ 1000000) && Nat.beq (P.cellsOf elem) 1 then (match newE G st (.bld [] elem 0) with
      | some (i, st') => some (.slice (some ⟨i, 0, none⟩) n.toNat n.toNat, st')
      | none => none) else none
    | _ => none)
  else none
section
variable {P : Program} {M : Mp} {G : Nat} {st : St} {w w' : World}
theorem idxB_find {c : Nat} (hc : c < 256) : ∀ (l : List UInt8) (k : Nat) (b : Array UInt8), (∀ i, l[i]? = b[k + i]?) → k + l.length = b.size →
    idxB c l k = ((List.range' k l.length).find? fun i => b[i]! == (c.toUInt8))
  | [], k, b, h, hl => by simp [idxB]
  | x :: l, k, b, h, hl => by
    have h0 := h 0
    simp only [List.getElem?_cons_zero, Nat.add_zero] at h0
    have hx : b[k]! = x := by
      rw [Array.getElem!_eq_getD, Array.getD_eq_getD_getElem?, ← h0]
      rfl
    unfold idxB
    rw [List.length_cons, List.range'_succ, List.find?_cons, hx]
    have he : (x == c.toUInt8) = Nat.beq x.toNat c := by
      rw [Bool.eq_iff_iff, beq_iff_eq, Nat.beq_eq, ← UInt8.toNat_inj]
      have : c.toUInt8.toNat = c := by
        show (UInt8.ofNat c).toNat = c
        rw [UInt8.toNat_ofNat']
        omega
      rw [this]
    rw [he]
    cases Nat.beq x.toNat c with
    | true => simp
    | false =>
      simp only [Bool.false_eq_true, if_false]
      exact idxB_find hc l (k + 1) b (fun i => by
        have := h (i + 1)
        rw [List.getElem?_cons_succ] at this
        rw [this]; congr 1; omega) (by rw [List.length_cons] at hl; omega)
theorem get!_data (s : ByteArray) (i : Nat) : s[i]! = s.data[i]! := by
  by_cases h : i < s.size
  · rw [getElem!_pos s i h, getElem!_pos s.data i h]
    rfl
  · rw [getElem!_neg s i h, getElem!_neg s.data i h]
theorem run_indexByte (s : ByteArray) {c : Int} (h0 : 0 ≤ c) (h1 : c < 256) (w : World) :
    (Extern.BytealgIndexByte.indexByte #[.string s, .int .u8 c]).run P w = .ok (.int .i64 (match idxB c.toNat s.data.toList 0 with
      | some k => (k : Int)
      | none => -1)) w := by
  rw [show Extern.BytealgIndexByte.indexByte #[.string s, .int .u8 c] = (do
    let b ← Extern.Bytes.bytesOf (.string s)
    let c ← Extern.Bytes.asByte (.int .u8 c)
    match (List.range b.size).find? fun i => b[i]! == c with
    | some i => pure (goInt i)
    | none => pure (goInt (-1))) from rfl]
  have e1 : (Extern.Bytes.bytesOf (.string s)).run P w = .ok s w := rfl
  have e2 : (Extern.Bytes.asByte (.int .u8 c)).run P w = .ok c.toNat.toUInt8 w := rfl
  rw [Sem.run_bind, e1, Result.andThen_ok, Sem.run_bind, e2, Result.andThen_ok]
  have hf := idxB_find (c := c.toNat) (by omega) s.data.toList 0 s.data (fun i => by rw [Nat.zero_add, Array.getElem?_toList]) (by simp)
  have hr : List.range s.size = List.range' 0 s.data.toList.length := by
    rw [List.range_eq_range']
    congr 1
  rw [hr]
  have hg : ((List.range' 0 s.data.toList.length).find? fun i => s[i]! == c.toNat.toUInt8) = ((List.range' 0 s.data.toList.length).find? fun i => s.data[i]! == c.toNat.toUInt8) := by
    congr 1
    funext i
    rw [get!_data s i]
  rw [hg, ← hf]
  cases idxB c.toNat s.data.toList 0 <;> rfl
/-- What is asked of a program that has these three. -/
structure ExtOk (P : Program) (X : ExtIds) (elem : TypeId) : Prop where
  ib : ∀ args w, (callFunc X.ib args).run P w = (do pure (Next.value (← Extern.BytealgIndexByte.indexByte args)) : Sem Next).run P w
  ne : ∀ args w, (callFunc X.ne args).run P w = (do pure (Next.value (← Extern.AbiNoEscape.same args)) : Sem Next).run P w
  mz : ∃ ps t, P.underlying t = some (.slice elem) ∧ ∀ args w, (callFunc X.mz args).run P w = (do pure (Next.value (← Extern.BytealgMakeNoZero.makeNoZero ps #[t] args)) : Sem Next).run P w
theorem digits_size : ∀ (n t : Nat) (acc : Array Value), (Extern.BytealgMakeNoZero.digits n t acc).size = acc.size + n
  | 0, t, acc => rfl
  | n + 1, t, acc => by
    unfold Extern.BytealgMakeNoZero.digits
    rw [digits_size n, Array.size_push]
    omega
theorem extE_sound {X : ExtIds} {elem : TypeId} (hX : ExtOk P X elem) {f : FuncId} {args : List Value} {v : Value} {st' : St} (h : extE P G X elem f args st = some (v, st')) {args' : List Value} (hR : RR P G M st w) (hA : VRs M args args') :
    ∃ M' v' w', (callFunc f args'.toArray).run P w = .ok (.value v') w' ∧ RR P G M' st' w' ∧ Stp M st w M' st' w' ∧ VR M' v v' := by
  unfold extE at h
  split at h
  · rename_i hf
    rw [Nat.beq_eq] at hf
    subst hf
    split at h
    · rename_i s c
      cases hA with
      | cons h1 hA =>
        cases hA with
        | cons h2 hA =>
          cases hA
          have := h1.string; subst this
          have := h2.int; subst this
          split at h
          · rename_i hc
            rw [Bool.and_eq_true, decide_eq_true_eq, decide_eq_true_eq] at hc
            have hr := run_indexByte (P := P) s hc.1 hc.2 w
            split at h
            · rename_i k hk
              cases h
              rw [hk] at hr
              refine ⟨M, _, w, ?_, hR, .refl _ _ _, .flat rfl⟩
              rw [hX.ib]
              exact run_v hr
            · rename_i hk
              cases h
              rw [hk] at hr
              refine ⟨M, _, w, ?_, hR, .refl _ _ _, .flat rfl⟩
              rw [hX.ib]
              exact run_v hr
          · cases h
    · cases h
  · split at h
    · rename_i hf
      rw [Nat.beq_eq] at hf
      subst hf
      split at h
      · rename_i x
        cases h
        cases hA with
        | cons h1 hA =>
          cases hA
          refine ⟨M, _, w, ?_, hR, .refl _ _ _, h1⟩
          rw [hX.ne]
          rfl
      · cases h
    · split at h
      · rename_i hf
        rw [Nat.beq_eq] at hf
        subst hf
        split at h
        · rename_i n
          cases hA with
          | cons h1 hA =>
            cases hA
            have := h1.int; subst this
            split at h
            · rename_i hc
              simp only [Bool.and_eq_true, decide_eq_true_eq, Nat.beq_eq] at hc
              obtain ⟨⟨h0, h2⟩, h3⟩ := hc
              split at h
              · rename_i i st1 hn
                cases h
                obtain ⟨ps, t, ht, hrun⟩ := hX.mz
                have hge := grownCap_ge w n.toNat 0 elem
                generalize hgc : grownCap w n.toNat 0 elem = gc at hge
                have hch : (choose (.appendCap n.toNat 0 elem)).run P w = .ok gc w.drew := by
                  rw [run_choose_drew]
                  simp only [Question.forced, Bool.false_eq_true, if_false]
                  rw [← hgc]; rfl
                have hroom : (askRoom gc).run P w.drew = .ok () w.drew := by
                  unfold askRoom
                  split <;> rfl
                obtain ⟨bytes, w2, hch2, hw2, hR2, hS2⟩ : ∃ bytes w2, (choose (.extern "internal/bytealg.MakeNoZero.bytes" 0)).run P w.drew = .ok bytes w2 ∧ w2.heap = w.heap ∧ RR P G M st w2 ∧ Stp M st w M st w2 := by
                  rw [run_choose_drew]
                  split
                  · exact ⟨_, _, rfl, rfl, hR.drew, Stp.drew M st w⟩
                  · exact ⟨_, _, rfl, rfl, hR.drew.drew, (Stp.drew M st w).trans (Stp.drew M st w.drew)⟩
                let C := Extern.BytealgMakeNoZero.digits gc bytes #[]
                have hCs : C.size = gc := by
                  show (Extern.BytealgMakeNoZero.digits gc bytes #[]).size = gc
                  rw [digits_size]; simp
                obtain ⟨M', q1, q2, q3⟩ := newE_sound hR2 hn (o := .cells C elem) (L := ⟨w.heap.size, 0, gc, P.cellsOf elem, true⟩) (by rw [hw2]) rfl (fun M' hext hM => by
                  refine ⟨⟨rfl, C, (0, 0), (by show (w2.alloc _).heap[w.heap.size]? = _; rw [← hw2]; exact alloc_at w2 _), (by rw [hCs]; simp), (by simp), fun e => (by cases e), fun _ => rfl, fun _ j _ _ => (by simp), fun j v hj => (by simp at hj)⟩, fun C2 t2 fz2 h2 => ?_⟩
                  have hal : (w2.alloc (.cells C elem)).heap[w.heap.size]? = some (.cells C elem) := by rw [← hw2]; exact alloc_at w2 _
                  have h2 : (w2.alloc (.cells C elem)).heap[w.heap.size]? = some (.cells C2 t2 fz2) := h2
                  rw [hal] at h2
                  cases h2
                  exact .inl rfl)
                refine ⟨M', .slice (some ⟨w.heap.size, 0, none⟩) n.toNat gc, _, ?_, q2, hS2.trans q3, ?_⟩
                · rw [hrun]
                  refine run_v ?_
                  rw [show Extern.BytealgMakeNoZero.makeNoZero ps #[t] [Value.int .i64 n].toArray = (do
                    let .slice elem ← underlying t | stuck "bytealg.MakeNoZero: slice type expected"
                    if n < 0 || n > 2 ^ 48 then runtimePanic (.error "makeslice: len out of range")
                    let cap ← choose (.appendCap n.toNat 0 elem)
                    askRoom cap
                    let bytes ← choose (.extern "internal/bytealg.MakeNoZero.bytes" 0)
                    let a ← newRow elem (Extern.BytealgMakeNoZero.digits cap bytes #[])
                    pure (.slice (some a) n.toNat cap)) from rfl]
                  rw [Sem.run_bind, run_underlying ht, Result.andThen_ok]
                  dsimp only
                  rw [if_neg (by simp; omega), Sem.run_bind, hch, Result.andThen_ok, Sem.run_bind, hroom, Result.andThen_ok, Sem.run_bind, hch2, Result.andThen_ok, ← hw2]
                  rfl
                · exact VR.slice (L := ⟨w.heap.size, 0, gc, P.cellsOf elem, true⟩) (off := 0) q1 (Nat.le_refl _) hge (fun e => by cases e) (fun _ => by show 0 + gc * P.cellsOf elem ≤ gc; rw [h3]; omega)
              · cases h
            · cases h
        · cases h
      · cases h
end
end Go.Wx
end PEv28
/- The evaluator: tables of proved calls. -/
noncomputable section PEv29
set_option linter.unusedVariables false
set_option linter.unusedSimpArgs false
namespace Go.Wx
open Go.RowKit
def all2 (p : Value → Value → Bool) : List Value → List Value → Bool
  | [], [] => true
  | a :: l, b :: r => p a b && all2 p l r
  | _, _ => false
def veqN : Nat → Value → Value → Bool
  | 0, a, b => flatEqB a b
  | n + 1, a, b => match a, b with
    | .agg x, .agg y => all2 (veqN n) x.toList y.toList
    | .tuple x, .tuple y => all2 (veqN n) x.toList y.toList
    | .iface t x, .iface u y => Nat.beq t u && veqN n x y
    | a, b => flatEqB a b
theorem all2_eq {p : Value → Value → Bool} (hp : ∀ a b, p a b = true → a = b) : ∀ (l r : List Value), all2 p l r = true → l = r
  | [], [], _ => rfl
  | [], _ :: _, h => by cases h
  | _ :: _, [], h => by cases h
  | a :: l, b :: r, h => by
    unfold all2 at h
    rw [Bool.and_eq_true] at h
    rw [hp a b h.1, all2_eq hp l r h.2]
theorem veqN_eq : ∀ (n : Nat) (a b : Value), veqN n a b = true → a = b
  | 0, a, b, h => flatEqB_eq h
  | n + 1, a, b, h => by
    unfold veqN at h
    split at h
    · rw [Array.toList_inj.1 (all2_eq (veqN_eq n) _ _ h)]
    · rw [Array.toList_inj.1 (all2_eq (veqN_eq n) _ _ h)]
    · rw [Bool.and_eq_true, Nat.beq_eq] at h
      rw [h.1, veqN_eq n _ _ h.2]
    · exact flatEqB_eq h
abbrev Tbl := List (FuncId × List (List Value × Value))
def orcF : List (List Value × Value) → List Value → Option Value
  | [], _ => none
  | x :: l, args => match all2 (veqN 3) x.1 args with
    | true => some x.2
    | false => orcF l args
def orcE : Tbl → FuncId → List Value → Option Value
  | [], _, _ => none
  | x :: T, f, args => match Nat.beq x.1 f with
    | true => orcF x.2 args
    | false => orcE T f args
/-- A proved call: flat arguments, a flat result, whatever the world. -/
def Good (P : Program) (f : FuncId) (args : List Value) (v : Value) : Prop :=
  args.all (flatN 3) = true ∧ flatN 3 v = true ∧ (∀ w, (callFunc f args.toArray).run P w = .ok (.enter f args.toArray) w) ∧ ∀ w, Calls P f args.toArray w fun e w' => e = .returned v ∧ Below w.heap.size w w'
theorem orcF_ok {P : Program} {f : FuncId} : ∀ (l : List (List Value × Value)), (∀ x ∈ l, Good P f x.1 x.2) → ∀ args v, orcF l args = some v → Good P f args v
  | [], h, args, v, e => by cases e
  | x :: l, h, args, v, e => by
    unfold orcF at e
    split at e
    · rename_i hx
      cases e
      have := all2_eq (veqN_eq 3) _ _ hx
      rw [← this]
      exact h x (by simp)
    · exact orcF_ok l (fun y hy => h y (List.mem_cons_of_mem _ hy)) args v e
theorem orcE_ok {P : Program} : ∀ (T : Tbl), (∀ x ∈ T, ∀ y ∈ x.2, Good P x.1 y.1 y.2) → ∀ f args v, orcE T f args = some v → Good P f args v
  | [], h, f, args, v, e => by cases e
  | x :: T, h, f, args, v, e => by
    unfold orcE at e
    split at e
    · rename_i hx
      rw [Nat.beq_eq] at hx
      rw [← hx]
      exact orcF_ok x.2 (h x (by simp)) args v e
    · exact orcE_ok T (fun y hy => h y (List.mem_cons_of_mem _ hy)) f args v e
/-- The functions by number. -/
def lkB (l : List Func) : Nat → Tr Func → Tr Func :=
  List.rec (motive := fun _ => Nat → Tr Func → Tr Func) (fun _ t => t) (fun f _ ih k t => ih (Nat.succ k) (Tr.set 20 t k f)) l
theorem lkB_get : ∀ (l : List Func) (k : Nat) (t : Tr Func) (i : Nat), k + l.length + 1 < 2 ^ 20 → (lkB l k t).get i = if k ≤ i ∧ i < k + l.length then l[i - k]? else t.get i
  | [], k, t, i, h => by show t.get i = _; rw [if_neg (by simp)]
  | v :: l, k, t, i, h => by
    simp only [List.length_cons] at h ⊢
    show (lkB l (k + 1) (Tr.set 20 t k v)).get i = _
    rw [lkB_get l (k + 1) _ i (by omega), Tr.get_set 20 t k v i (by omega)]
    by_cases h1 : i = k
    · subst h1
      rw [if_neg (by omega), if_pos rfl, if_pos (by omega)]
      simp
    · by_cases h2 : k + 1 ≤ i ∧ i < k + 1 + l.length
      · rw [if_pos h2, if_pos (by omega), show i - k = (i - (k + 1)) + 1 from by omega, List.getElem?_cons_succ]
      · rw [if_neg h2, if_neg h1, if_neg (by omega)]
def notNG (f : Func) : Bool := !(f.name == "runtime.NumGoroutine")
theorem Good.call {P : Program} {G : Nat} {f : FuncId} {args : List Value} {v : Value} (h : Good P f args v) {M : Mp} {st : St} {w : World} {args' : List Value} (hR : RR P G M st w) (hA : VRs M args args') :
    (callFunc f args'.toArray).run P w = .ok (.enter f args'.toArray) w ∧ Calls P f args'.toArray w (CallR P G M st w (.ret v) st) := by
  obtain ⟨h1, h2, h3, h4⟩ := h
  have := VRs.flat_eqN hA h1
  subst this
  refine ⟨h3 w, (h4 w).mono ?_⟩
  rintro e w' ⟨rfl, hb⟩
  have hk : GX (fun _ => False) w (fun _ => False) w' := ⟨hb.os, hb.tape, hb.output, hb.size, fun b hb' => hb.block b hb', fun _ _ h => h⟩
  refine ⟨M, VR.of_flatN M 3 v h2, hR.gx hk, ?_⟩
  exact (Stp.refl M st w).gx hR hk
/-- A program's environment. -/
def mkEnvO (P : Program) (G : Nat) (look : Tr Func) (X : ExtIds) (elem : TypeId) (orc : FuncId → List Value → St → Option (Value × St)) : Env := ⟨P, G, fun f => look.get f, extE P G X elem, orc⟩
theorem mkEnvO_ok {P : Program} {G : Nat} {X : ExtIds} {elem : TypeId} {orc : FuncId → List Value → St → Option (Value × St)} (hm : P.follows .mixedOrders = true) (hl : P.funcs.toList.length < 1000000) (hn : P.funcs.toList.all notNG = true) (hX : ExtOk P X elem) (hO : OrcOk P G orc) :
    (mkEnvO P G (lkB P.funcs.toList 0 .lf) X elem orc).Ok := by
  refine ⟨hm, fun f fn h => ?_, fun f args st v st' h M w args' hR hA => extE_sound hX h hR hA, hO⟩
  have h : (lkB P.funcs.toList 0 .lf).get f = some fn := h
  rw [lkB_get _ _ _ _ (by omega)] at h
  split at h
  · rw [Nat.sub_zero, Array.getElem?_toList] at h
    refine ⟨h, ?_⟩
    have := (List.all_eq_true.1 hn) fn (by rw [← Array.getElem?_toList] at h; exact List.mem_of_getElem? h)
    unfold notNG at this
    simpa using this
  · cases h
def orcT (T : Tbl) (f : FuncId) (args : List Value) (st : St) : Option (Value × St) := match orcE T f args with
  | some v => some (v, st)
  | none => none
theorem orcT_ok {P : Program} {G : Nat} {T : Tbl} (hT : ∀ x ∈ T, ∀ y ∈ x.2, Good P x.1 y.1 y.2) : OrcOk P G (orcT T) := by
  intro f args st v st' h M w args' hR hA
  unfold orcT at h
  split at h
  · rename_i u hu
    cases h
    exact (orcE_ok T hT f args v hu).call hR hA
  · cases h
def mkEnv (P : Program) (look : Tr Func) (X : ExtIds) (elem : TypeId) (T : Tbl) : Env := mkEnvO P 0 look X elem (orcT T)
theorem mkEnv_ok {P : Program} {X : ExtIds} {elem : TypeId} {T : Tbl} (hm : P.follows .mixedOrders = true) (hl : P.funcs.toList.length < 1000000) (hn : P.funcs.toList.all notNG = true) (hX : ExtOk P X elem) (hT : ∀ x ∈ T, ∀ y ∈ x.2, Good P x.1 y.1 y.2) :
    (mkEnv P (lkB P.funcs.toList 0 .lf) X elem T).Ok := mkEnvO_ok hm hl hn hX (orcT_ok hT)
/-- What a kernel run says. -/
def okR (r : Option (Res × St)) (v : Value) : Bool := match r with
  | some (.ret u, _) => veqN 3 u v
  | _ => false
theorem good_of {E : Env} (hE : E.Ok) (hG : E.G = 0) {n : Nat} {f : FuncId} {args : List Value} {v : Value} (h : okR (evCall E n (.ent f) args st0) v = true) (ha : args.all (flatN 3) = true) (hv : flatN 3 v = true) : Good E.P f args v := by
  unfold okR at h
  split at h
  · rename_i u st' hr
    have := veqN_eq 3 _ _ h
    subst this
    exact ⟨ha, hv, fun w => (ground hE hG hr ha hv w).1, fun w => (ground hE hG hr ha hv w).2⟩
  · cases h
end Go.Wx
end PEv29
/- The evaluator: a code walked in parts; strings put together whose length is known otherwise. -/
noncomputable section PEv30
set_option linter.unusedVariables false
set_option linter.unusedSimpArgs false
namespace Go.Wx
open Go.RowKit
def nextC : Code → Code
  | .seq _ b => b
  | c => c
def firstC : Code → Code
  | .seq a _ => a
  | c => c
def isSeq : Code → Bool
  | .seq _ _ => true
  | _ => false
/-- The first n parts of a row of codes. -/
def frontE (P : Program) (G : Nat) (call : CallF) : Nat → Code → CodeF
  | 0, _, tm, st => some (.norm, tm, st)
  | n + 1, c, tm, st => match isSeq c with
    | true => (match evCode P G call false (firstC c) tm st with
      | some (.norm, tm1, st1) => frontE P G call n (nextC c) tm1 st1
      | _ => none)
    | false => none
def tailC : Nat → Code → Code
  | 0, c => c
  | n + 1, c => tailC n (nextC c)
section
variable {P : Program} {M : Mp} {G : Nat} {st : St} {w w' : World}
theorem frontE_sound {call : CallF} (hcall : CallOk P G call) (hm : P.follows .mixedOrders = true) {M0 : Mp} {st0 : St} {w0 : World} {Q : Exit → Act → World → Prop} : ∀ (n : Nat) (c : Code) (tm : Tm) (st : St) (x : Ex) (tm' : Tm) (st' : St), frontE P G call n c tm st = some (x, tm', st') →
    ∀ (M : Mp) (w : World) (a : Act), RR P G M st w → TR M tm a.tmps → DRs M tm.ds a.defers → Stp M0 st0 w0 M st w →
    (∀ M' w' a', RR P G M' st' w' → TR M' tm' (Act.tmps a') → DRs M' tm'.ds a'.defers → Stp M0 st0 w0 M' st' w' → (tailC n c).wpIn (fw none) 0 P Q a' w') → c.wpIn (fw none) 0 P Q a w
  | 0, c, tm, st, x, tm', st', h, M, w, a, hR, hT, hD, hS, hk => by cases h; exact hk M w a hR hT hD hS
  | n + 1, c, tm, st, x, tm', st', h, M, w, a, hR, hT, hD, hS, hk => by
    unfold frontE at h
    cases c <;> simp only [isSeq] at h <;> first | (cases h; done) | skip
    rename_i p q
    dsimp only [firstC, nextC] at h
    refine wpIn_seq ?_
    cases hb : evCode P G call false p tm st with
    | none => rw [hb] at h; cases h
    | some res =>
      obtain ⟨y, tm1, st1⟩ := res
      rw [hb] at h
      cases y <;> first | (cases h; done) | skip
      refine wpIn_mono ((evC_sound (r := none) hcall hm (fun _ => rfl) p).1 tm st .norm tm1 st1 hb M w a hR hT hD) ?_
      rintro e a1 w1 ⟨M1, q1, q2, q3, q4, q5⟩
      cases e <;> first | (cases q1; done) | skip
      exact frontE_sound hcall hm n q tm1 st1 x tm' st' h M1 w1 a1 q3 q2 q5 (hS.trans q4) hk
/-- Some operations of a region, from the k-th on. -/
theorem evOps_part {call : CallF} (hcall : CallOk P G call) (ops : Array Oper) {M0 : Mp} {st0 : St} {w0 : World} {Q : Exit → Act → World → Prop} (m : Nat) : ∀ (l : List Oper) (k : Nat) (tm : Tm) (st : St) (tm' : Tm) (st' : St), (∀ i o, l[i]? = some o → ops[k + i]? = some o) → evOps P G call true ops l tm st = some (.norm, tm', st') →
    ∀ (M : Mp) (w : World) (a : Act), RR P G M st w → TR M tm a.tmps → DRs M tm.ds a.defers → Stp M0 st0 w0 M st w →
    (∀ M' w' a', RR P G M' st' w' → TR M' tm' (Act.tmps a') → DRs M' tm'.ds a'.defers → Stp M0 st0 w0 M' st' w' → wpOpsIn (fw none) 0 P ops Q (List.range' (k + l.length) m) a' w') → wpOpsIn (fw none) 0 P ops Q (List.range' k (l.length + m)) a w
  | [], k, tm, st, tm', st', hl, h, M, w, a, hR, hT, hD, hS, hk => by
    cases h
    simpa using hk M w a hR hT hD hS
  | o :: l, k, tm, st, tm', st', hl, h, M, w, a, hR, hT, hD, hS, hk => by
    have hok : ops[k]? = some o := by simpa using hl 0 o rfl
    have hl' : ∀ i o', l[i]? = some o' → ops[k + 1 + i]? = some o' := fun i o' e => by
      have := hl (i + 1) o' (by simpa using e)
      rw [show k + 1 + i = k + (i + 1) from by omega]; exact this
    rw [List.length_cons, show l.length + 1 + m = (l.length + m) + 1 from by omega, List.range'_succ]
    have hk' : ∀ M' w' a', RR P G M' st' w' → TR M' tm' (Act.tmps a') → DRs M' tm'.ds a'.defers → Stp M0 st0 w0 M' st' w' → wpOpsIn (fw none) 0 P ops Q (List.range' (k + 1 + l.length) m) a' w' := fun M' w' a' h1 h2 h3 h4 => by
      have := hk M' w' a' h1 h2 h3 h4
      rw [List.length_cons] at this
      rw [show k + 1 + l.length = k + (l.length + 1) from by omega]; exact this
    unfold wpOpsIn
    simp only [hok]
    rw [wantE_eq hT ops o]
    unfold evOps at h
    split at h
    · rename_i hw
      rw [if_pos hw]
      split at h
      · rename_i v st1 hop
        refine opY_sound hcall hR (fun y u e => evO_sound hR hT e) hop none (fun u hu M1 v' w1 hv h1 h2 => ?_) (fun u hu => by cases hu)
        cases hu
        exact evOps_part hcall ops m l (k + 1) _ _ _ _ hl' h M1 w1 _ h1 ((hT.ext h2.ext).put o.dst hv) ((hD.ext h2.ext).put o.dst v v') (hS.trans h2) hk'
      · cases h
      · split at h
        · cases h
        · cases h
    · rename_i hw
      rw [if_neg (by rw [hw]; simp)]
      exact ⟨fun _ _ => trivial, evOps_part hcall ops m l (k + 1) _ _ _ _ hl' h M w _ hR (hT.put o.dst (.undef M)) (hD.put o.dst _ _) hS hk'⟩
/-- Two strings put together. -/
theorem concat_op {ops : Array Oper} {k m : Nat} {o : Oper} (ho : ops[k]? = some o) (hg : o.guard = none) {t yt : TypeId} {x y : Operand} (hop : o.op = .binOp .add t x y yt) {a : Act} {s u : ByteArray} (hx : a.eval x = .string s) (hy : a.eval y = .string u)
    (hb : s.size + u.size ≤ 9223372036854775807) {Q : Exit → Act → World → Prop} (h : wpOpsIn (fw none) 0 P ops Q (List.range' (k + 1) m) (a.put o.dst (.string ⟨⟨s.data.toList ++ u.data.toList⟩⟩)) w) :
    wpOpsIn (fw none) 0 P ops Q (List.range' k (m + 1)) a w := by
  rw [List.range'_succ]
  unfold wpOpsIn
  simp only [ho]
  have hw : Region.wanted o (yielded ops a.tmps) = true := by unfold Region.wanted; rw [hg]
  rw [if_pos hw]
  refine wpIn_op ?_ (.inl rfl)
  unfold Oper.wp
  have hex : (execOp a.eval o).run P w = .ok (.value (.string ⟨⟨s.data.toList ++ u.data.toList⟩⟩)) w := by
    unfold execOp
    rw [hop]
    dsimp only
    rw [hx, hy]
    refine run_v ?_
    show (Sem.bind _ _).run P w = _
    rw [show (Sem.bind (eqGuard .add t x y (.string s) (.string u)) (fun _ => binOp .add t (.string s) (.string u))) = (eqGuard .add t x y (.string s) (.string u) >>= fun _ => binOp .add t (.string s) (.string u)) from rfl, Sem.run_bind, run_eqGuard_str, Result.andThen_ok]
    have h3 : IntKind.i64.max = 9223372036854775807 := by decide
    have : ¬ (((s.size + u.size : Nat) : Int) > IntKind.i64.max) := by rw [h3]; omega
    simp only [binOp, Op.stringOp, this, if_false]
    show Result.ok (Value.string (s ++ u)) w = _
    congr 2
  rw [hex]
  exact h
end
end Go.Wx
end PEv30
/- The seat's environment for the evaluator. -/
noncomputable section PBase22
set_option linter.unusedVariables false
set_option linter.unusedSimpArgs false
set_option maxRecDepth 100000
namespace Go.Wx
open Go.RowKit Go.Proofs
theorem callFunc_ext {P : Program} {f : FuncId} {fn : Func} {row : Array Value → Sem Value} (hf : P.funcs[f]? = some fn) (hn : (fn.name == "runtime.NumGoroutine") = false) (hb : fn.body.isNone = true) (h1 : (Extern.findNext fn).isNone = true) (h2 : Extern.find fn = some row)
    (args : Array Value) (w : World) : (callFunc f args).run P w = (do pure (Next.value (← row args)) : Sem Next).run P w := by
  unfold callFunc
  have hp : (program).run P w = .ok P w := rfl
  rw [Sem.run_bind, hp, Result.andThen_ok, hf]
  dsimp only
  rw [hn, hb]
  simp only [Bool.false_eq_true, if_false, if_true]
  have h1' : Extern.findNext fn = none := by simpa using h1
  rw [h1', h2]
  rfl
theorem Tryz.mixed : Tryz.prog.follows .mixedOrders = true := by kernel_rfl
theorem Tryz.names : Tryz.prog.funcs.toList.all notNG = true := by kernel_rfl
theorem Tryz.len : Tryz.prog.funcs.toList.length < 1000000 := by
  have h : Nat.blt Tryz.prog.funcs.toList.length 1000000 = true := by kernel_rfl
  rwa [Nat.blt_eq] at h
def Tryz.X : ExtIds := ⟨84, 83, 273⟩
theorem Tryz.u : Tryz.prog.underlying 27 = some (.slice 5) := by kernel_rfl
theorem Tryz.extOk : ExtOk Tryz.prog Tryz.X 5 := by
  refine ⟨fun args w => callFunc_ext (fn := Tryz.f84) Tryz.func84 (by kernel_rfl) (by kernel_rfl) (by kernel_rfl) (by kernel_rfl) args w,
    fun args w => callFunc_ext (fn := Tryz.f83) Tryz.func83 (by kernel_rfl) (by kernel_rfl) (by kernel_rfl) (by kernel_rfl) args w,
    Tryz.f273.params, 27, Tryz.u, fun args w => callFunc_ext (fn := Tryz.f273) Tryz.func273 (by kernel_rfl) (by kernel_rfl) (by kernel_rfl) (by kernel_rfl) args w⟩
def Tryz.look : Tr Func := lkB Tryz.prog.funcs.toList 0 .lf
def Tryz.env (T : Tbl) : Env := mkEnv Tryz.prog Tryz.look Tryz.X 5 T
theorem Tryz.env_ok {T : Tbl} (hT : ∀ x ∈ T, ∀ y ∈ x.2, Good Tryz.prog x.1 y.1 y.2) : (Tryz.env T).Ok := mkEnv_ok Tryz.mixed Tryz.len Tryz.names Tryz.extOk hT
theorem Tryz.nil_ok : (Tryz.env []).Ok := Tryz.env_ok fun x hx => by cases hx
end Go.Wx
end PBase22
