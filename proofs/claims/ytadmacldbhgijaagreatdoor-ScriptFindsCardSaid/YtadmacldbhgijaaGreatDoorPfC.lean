/- The evaluator's heavy operations: stores, appends, maps, strings, each sound. -/
import Derived.Test.YtadmacldbhgijaaGreatDoorPfB
import Derived.Deep.AppendSrc
import Derived.Laws.AppendOwn
/- The evaluator: new blocks. -/
noncomputable section PEv13
set_option linter.unusedVariables false
set_option linter.unusedSimpArgs false
namespace Go.Wx
open Go.RowKit
section
variable {P : Program} {M : Mp} {G : Nat} {st : St} {w w' : World}
theorem RR.drew (hR : RR P G M st w) : RR P G M st w.drew :=
  ⟨hR.dom, hR.blk, hR.ver, hR.lim, hR.sep, hR.par, hR.glob, hR.plt⟩
theorem Stp.drew (M : Mp) (st : St) (w : World) : Stp M st w M st w.drew :=
  ⟨.refl M, fun i L h h' => (by rw [h] at h'; cases h'), rfl, rfl, rfl, Nat.le_refl _, Nat.le_refl _, fun _ => Nat.le_refl _, Nat.le_refl _, fun _ _ => .inl rfl, fun _ _ h _ _ => h, fun _ _ _ _ _ _ _ => rfl⟩
def newE (G : Nat) (st : St) (ab : AB) : Option (Nat × St) := if Nat.ble G st.n && Nat.blt st.n bigN then some (st.n, st.new ab) else none
theorem newE_sound (hR : RR P G M st w) {ab : AB} {i : Nat} {st' : St} (h : newE G st ab = some (i, st')) {o : Obj} {L : Loc} (hLb : L.b = w.heap.size) (hp : ab.par = none)
    (hb : ∀ M', Ext M M' → M' i = some L → BR P M' (w.alloc o) L ab) :
    ∃ M', M' i = some L ∧ RR P G M' st' (w.alloc o) ∧ Stp M st w M' st' (w.alloc o) := by
  unfold newE at h
  split at h
  · rename_i hc
    simp only [Bool.and_eq_true, Nat.ble_eq, Nat.blt_eq] at hc
    cases h
    have hself : M.add st.n L st.n = some L := by unfold Mp.add; rw [if_pos rfl]
    obtain ⟨a, b⟩ := hR.made (o := o) hc.2 hc.1 hLb (fun p e => by rw [hp] at e; cases e) (hb _ (Mp.add_ext hR L) hself)
    exact ⟨_, hself, a, b⟩
  · cases h
theorem alloc_at (w : World) (o : Obj) : (w.alloc o).heap[w.heap.size]? = some o := by
  show (w.heap.push o)[w.heap.size]? = _
  rw [Array.getElem?_push, if_pos rfl]
/-- New cells of a known size. -/
theorem newCells (hR : RR P G M st w) {c : List Value} {t : TypeId} {i : Nat} {st' : St} (h : newE G st (.cells c t false false false none) = some (i, st')) {C : Array Value} (hc : VRs M c C.toList) :
    ∃ M' L, M' i = some L ∧ L = ⟨w.heap.size, 0, C.size, P.cellsOf t, false⟩ ∧ RR P G M' st' (w.alloc (.cells C t)) ∧ Stp M st w M' st' (w.alloc (.cells C t)) := by
  have hl := hc.len
  rw [Array.length_toList] at hl
  obtain ⟨M', h1, h2, h3⟩ := newE_sound hR h (o := .cells C t) (L := ⟨w.heap.size, 0, C.size, P.cellsOf t, false⟩) rfl rfl (fun M' he hM => by
    refine ⟨rfl, C, (0, 0), alloc_at w _, by simp, by simp; omega, fun _ => ⟨rfl, by simp; omega⟩, fun e => (by cases e), fun _ j _ _ => by simp, fun j v hj => ?_⟩
    obtain ⟨v', e, hv⟩ := hc.get j v hj
    exact ⟨v', by simpa using e, hv.ext he⟩)
  exact ⟨M', _, h1, rfl, h2, h3⟩
/-- Variables. -/
def varE (G : Nat) (st : St) (t : TypeId) (v : Value) : Option (Value × St) :=
  match newE G st (.cells (vcells v) t false false false none) with
  | some (i, st') => some (.pointer (some ⟨i, 0, none⟩), st')
  | none => none
theorem varE_sound (hR : RR P G M st w) {t : TypeId} {v v' u : Value} {st' : St} (h : varE G st t v = some (u, st')) (hv : VR M v v') :
    Snd P G M st w (do pure (.pointer (some (← newVar t v')))) u st' := by
  unfold varE at h
  split at h
  · rename_i i st1 hn
    cases h
    obtain ⟨M', L, h1, h2, h3, h4⟩ := newCells hR hn hv.cells
    refine ⟨M', .pointer (some ⟨w.heap.size, 0, none⟩), w.alloc (.cells v'.cells t), rfl, h3, h4, ?_⟩
    have := VR.ptr (off := 0) h1
    rw [h2] at this
    exact this
  · cases h
def allocE (P : Program) (G : Nat) (st : St) (t : TypeId) : Option (Value × St) :=
  match zeroE P t with
  | some z => varE G st t z
  | none => none
theorem allocE_sound (hR : RR P G M st w) {t : TypeId} {u : Value} {st' : St} (h : allocE P G st t = some (u, st')) : Snd P G M st w (Instr.alloc t true (.tuple #[])) u st' := by
  unfold allocE at h
  split at h
  · rename_i z hz
    obtain ⟨z1, z2⟩ := zeroE_sound (M := M) hz
    obtain ⟨M', v', w', r, a, b, c⟩ := varE_sound hR h z1
    refine ⟨M', v', w', ?_, a, b, c⟩
    unfold Instr.alloc
    rw [Sem.run_bind, z2, Result.andThen_ok]
    exact r
  · cases h
/-! ### Slices made -/
def reps (n : Nat) (z : List Value) : List Value := match n with
  | 0 => []
  | n + 1 => z ++ reps n z
theorem reps_len (z : List Value) : ∀ n, (reps n z).length = n * z.length
  | 0 => by simp [reps]
  | n + 1 => by simp [reps, reps_len z n, Nat.succ_mul, Nat.add_comm]
theorem reps_get (z : List Value) : ∀ (n k : Nat), k < n * z.length → (reps n z)[k]? = z[k % z.length]?
  | 0, k, h => by simp at h
  | n + 1, k, h => by
    unfold reps
    by_cases h1 : k < z.length
    · rw [List.getElem?_append_left h1, Nat.mod_eq_of_lt h1]
    · rw [List.getElem?_append_right (by omega), reps_get z n (k - z.length) (by rw [Nat.succ_mul] at h; omega)]
      rw [← Nat.mod_eq_sub_mod (by omega)]
theorem zeros_reps (n : Nat) (z : Array Value) : ((Array.range (n * z.size)).map fun k => z[k % z.size]!).toList = reps n z.toList := by
  apply List.ext_getElem?
  intro k
  by_cases h : k < n * z.size
  · rw [reps_get z.toList n k (by simpa using h)]
    have hz : 0 < z.size := by rcases Nat.eq_zero_or_pos z.size with e | e; (rw [e] at h; omega); exact e
    have hm : k % z.size < z.size := Nat.mod_lt _ hz
    rw [Array.getElem?_toList, Array.getElem?_toList, Array.length_toList]
    rw [Array.getElem?_map, Array.getElem?_range]
    simp [h, hm]
  · rw [List.getElem?_eq_none (by simp; omega), List.getElem?_eq_none (by rw [reps_len]; simp; omega)]
theorem VRs.reps {z z' : List Value} (h : VRs M z z') : ∀ n, VRs M (reps n z) (Go.Wx.reps n z')
  | 0 => .nil
  | n + 1 => h.append (VRs.reps h n)
/-- A literal's slice. -/
def buildSliceE (P : Program) (G : Nat) (st : St) (t : TypeId) (len : Nat) (parts : List (Nat × Value)) : Option (Value × St) :=
  match P.underlying t with
  | some (.slice elem) => match P.underlying elem, zeroE P elem with
    | some _, some z =>
      if Nat.beq (vcells z).length (P.cellsOf elem) && Nat.ble (len * P.cellsOf elem) 16777216 then
        (match fillE (fun i => some (i * P.cellsOf elem, P.cellsOf elem)) (reps len (vcells z)) parts with
        | some c => (match newE G st (.cells c elem false false false none) with
          | some (i, st') => some (.slice (some ⟨i, 0, none⟩) len len, st')
          | none => none)
        | none => none) else none
    | _, _ => none
  | _ => none
theorem buildSliceE_sound (hR : RR P G M st w) {t : TypeId} {len : Nat} {parts parts' : List (Nat × Value)} {u : Value} {st' : St} (h : buildSliceE P G st t len parts = some (u, st')) (hp : PR M parts parts') :
    Snd P G M st w (Instr.buildSlice t len parts'.toArray) u st' := by
  unfold buildSliceE at h
  split at h
  · rename_i elem hd
    split at h
    · rename_i d z he hz
      split at h
      · rename_i hcond
        simp only [Bool.and_eq_true, Nat.beq_eq, Nat.ble_eq] at hcond
        split at h
        · rename_i c hf
          split at h
          · rename_i i st1 hn
            cases h
            obtain ⟨z1, z2⟩ := zeroE_sound (M := M) hz
            have hzc := z1.cells
            rw [vcells_eq] at hf hcond hzc
            rw [Array.length_toList] at hcond
            have key : ∀ (zc : Array Value), VRs M (reps len z.cells.toList) ((Array.range (len * P.cellsOf elem)).map (fun k => zc[k % zc.size]!)).toList →
                (∀ C, Instr.fill (fun i => some (i * P.cellsOf elem, P.cellsOf elem)) ((Array.range (len * P.cellsOf elem)).map (fun k => zc[k % zc.size]!)) parts' = some C →
                  (Instr.buildSlice t len parts'.toArray).run P w = .ok (.slice (some ⟨w.heap.size, 0, none⟩) len len) (w.alloc (.cells C elem))) →
                Snd P G M st w (Instr.buildSlice t len parts'.toArray) (.slice (some ⟨i, 0, none⟩) len len) st' := by
              intro zc hzc' hrun
              obtain ⟨C, e1, e2⟩ := fillE_rel hf hzc' hp
              obtain ⟨M', L, h1, h2, h3, h4⟩ := newCells hR hn e2
              refine ⟨M', .slice (some ⟨w.heap.size, 0, none⟩) len len, w.alloc (.cells C elem), hrun C e1, h3, h4, ?_⟩
              have := VR.slice (M := M') (off := 0) (len := len) (cap := len) (cap' := len) h1 (Nat.le_refl _) (Nat.le_refl _) (fun _ => rfl) (fun e => by rw [h2] at e; cases e)
              rw [h2] at this
              exact this
            by_cases h0 : len * P.cellsOf elem = 0
            · refine key #[] ?_ fun C hC => ?_
              · rw [h0]
                have : reps len z.cells.toList = [] := List.eq_nil_of_length_eq_zero (by rw [reps_len, Array.length_toList, hcond.1]; exact h0)
                rw [this]; simp; exact .nil
              · unfold Instr.buildSlice
                rw [Sem.run_bind, run_underlying hd, Result.andThen_ok]
                dsimp only
                rw [Sem.run_bind, run_sizeOf_u he, Result.andThen_ok]
                rw [if_neg (by omega)]
                rw [if_pos h0, Sem.run_bind, Sem.run_pure, Result.andThen_ok, hC]
                rfl
            · refine key z.cells ?_ fun C hC => ?_
              · rw [← hcond.1, zeros_reps]; exact hzc.reps len
              · unfold Instr.buildSlice
                rw [Sem.run_bind, run_underlying hd, Result.andThen_ok]
                dsimp only
                rw [Sem.run_bind, run_sizeOf_u he, Result.andThen_ok]
                rw [if_neg (by omega)]
                rw [if_neg h0, Sem.run_bind, z2, Result.andThen_ok, Sem.run_bind, Sem.run_pure, Result.andThen_ok, hC]
                rfl
          · cases h
        · cases h
      · cases h
    · cases h
  · cases h
end
end Go.Wx
end PEv13
/- The evaluator: make, conversions that make, maps written. -/
noncomputable section PEv14
set_option linter.unusedVariables false
set_option linter.unusedSimpArgs false
namespace Go.Wx
open Go.RowKit
section
variable {P : Program} {M : Mp} {G : Nat} {st : St} {w w' : World}
def makeSliceE (P : Program) (G : Nat) (st : St) (t : TypeId) (l c : Value) : Option (Value × St) :=
  match P.underlying t, l, c with
  | some (.slice elem), .int _ l, .int _ c => match P.info? elem, zeroE P elem with
    | some info, some z =>
      if decide (0 ≤ l) && decide (l ≤ c) && decide (c ≤ 1000000) && Nat.ble info.bytes 1000000 && Nat.beq (vcells z).length (P.cellsOf elem) then
        (match newE G st (.cells (reps c.toNat (vcells z)) elem false false false none) with
        | some (i, st') => some (.slice (some ⟨i, 0, none⟩) l.toNat c.toNat, st')
        | none => none) else none
    | _, _ => none
  | _, _, _ => none
theorem makeSliceE_sound (hR : RR P G M st w) {t : TypeId} {l c l' c' u : Value} {st' : St} (h : makeSliceE P G st t l c = some (u, st')) (hl : VR M l l') (hc : VR M c c') :
    Snd P G M st w (Instr.makeSlice t l' c') u st' := by
  unfold makeSliceE at h
  split at h
  · rename_i elem kl l kc c hd
    have := hl.int; subst this
    have := hc.int; subst this
    split at h
    · rename_i info z hi hz
      split at h
      · rename_i hcond
        simp only [Bool.and_eq_true, decide_eq_true_eq, Nat.ble_eq, Nat.beq_eq] at hcond
        obtain ⟨⟨⟨⟨h0, h1⟩, h2⟩, h3⟩, h4⟩ := hcond
        split at h
        · rename_i i st1 hn
          cases h
          obtain ⟨z1, z2⟩ := zeroE_sound (M := M) hz
          have hzc := z1.cells
          rw [vcells_eq] at hn h4 hzc
          rw [Array.length_toList] at h4
          have hcell : P.cellsOf elem = info.size := by simp [Program.cellsOf, hi]
          have hmul : (info.bytes : Int) * c ≤ 1000000 * 1000000 := Int.mul_le_mul (by omega) h2 (by omega) (by omega)
          have hz' : info.zero = some z := by
            unfold zeroE at hz
            rw [hi] at hz
            dsimp only at hz
            split at hz
            · rename_i z' e
              split at hz
              · cases hz; exact e
              · cases hz
            · cases hz
          have run := run_make (P := P) w t elem info z hd hi hz' kl kc l c h0 h1 (by omega) (by omega)
          have hC : (madeCells z.cells (c.toNat * info.size)).toList = reps c.toNat z.cells.toList := by
            unfold madeCells
            rw [← hcell, ← h4, zeros_reps]
          obtain ⟨M', L, m1, m2, m3, m4⟩ := newCells (C := madeCells z.cells (c.toNat * info.size)) hR hn (by rw [hC]; exact hzc.reps _)
          refine ⟨M', _, _, run, m3, m4, ?_⟩
          have := VR.slice (M := M') (off := 0) (len := l.toNat) (cap := c.toNat) (cap' := c.toNat) m1 (by omega) (Nat.le_refl _) (fun _ => rfl) (fun e => by rw [m2] at e; cases e)
          rw [m2] at this
          exact this
        · cases h
      · cases h
    · cases h
  · cases h
def makeMapE (P : Program) (G : Nat) (st : St) (t : TypeId) (r : Option Value) : Option (Value × St) :=
  match r with
  | none => (match newE G st (.map [] 0) with
    | some (i, st') => some (.map (some i), st')
    | none => none)
  | some (.int _ _) => match P.underlying t with
    | some (.map _ _) => (match newE G st (.map [] 0) with
      | some (i, st') => some (.map (some i), st')
      | none => none)
    | _ => none
  | _ => none
theorem newMap (hR : RR P G M st w) {i : Nat} {st' : St} (h : newE G st (.map [] 0) = some (i, st')) :
    ∃ M', RR P G M' st' (w.alloc (.map #[] 0)) ∧ Stp M st w M' st' (w.alloc (.map #[] 0)) ∧ VR M' (.map (some i)) (.map (some w.heap.size)) := by
  obtain ⟨M', h1, h2, h3⟩ := newE_sound hR h (o := .map #[] 0) (L := ⟨w.heap.size, 0, 0, 0, false⟩) rfl rfl (fun M' he hM => ⟨#[], alloc_at w _, .nil⟩)
  exact ⟨M', h2, h3, .map h1⟩
theorem makeMapE_sound (hR : RR P G M st w) {t : TypeId} {r r' : Option Value} {u : Value} {st' : St} (h : makeMapE P G st t r = some (u, st')) (hr : VRo M r r') : Snd P G M st w (Instr.makeMap t r') u st' := by
  unfold makeMapE at h
  split at h
  · split at h
    · rename_i i st1 hn
      cases h
      obtain ⟨M', a, b, c⟩ := newMap hR hn
      cases r' with
      | some x => cases hr
      | none => exact ⟨M', _, _, rfl, a, b, c⟩
    · cases h
  · rename_i k n
    split at h
    · rename_i kt et hd
      split at h
      · rename_i i st1 hn
        cases h
        obtain ⟨M', a, b, c⟩ := newMap hR hn
        cases r' with
        | none => cases hr
        | some x =>
          have := VR.int hr; subst this
          refine ⟨M', _, _, ?_, a, b, c⟩
          unfold Instr.makeMap
          dsimp only
          rw [Sem.run_bind, run_underlying hd, Result.andThen_ok]
          rfl
      · cases h
    · cases h
  · cases h
/-! ### Maps written -/
theorem EntR.set {es es' : List MapEntry} (h : EntR M es es') (i : Nat) {k v v' : Value} (hk : flatV k = true) (hv : VR M v v') :
    EntR M (es.modify i fun e => { e with key := k, val := v }) (es'.modify i fun e => { e with key := k, val := v' }) := by
  induction h generalizing i with
  | nil => simp; exact .nil
  | cons a b c ih =>
    cases i with
    | zero => simp; exact .cons hk hv c
    | succ i => simp; exact .cons a b (ih i)
theorem EntR.snoc {es es' : List MapEntry} (h : EntR M es es') {k v v' : Value} {b : Nat} (hk : flatV k = true) (hv : VR M v v') : EntR M (es ++ [⟨k, v, b⟩]) (es' ++ [⟨k, v', b⟩]) := by
  induction h with
  | nil => exact .cons hk hv .nil
  | cons a b c ih => exact .cons a b ih
theorem EntR.erase {es es' : List MapEntry} (h : EntR M es es') (i : Nat) : EntR M (es.eraseIdx i) (es'.eraseIdx i) := by
  induction h generalizing i with
  | nil => simp; exact .nil
  | cons a b c ih =>
    cases i with
    | zero => simpa using c
    | succ i => simp; exact .cons a b (ih i)
end
end Go.Wx
end PEv14
/- The evaluator: append. -/
noncomputable section PEv15
set_option linter.unusedVariables false
set_option linter.unusedSimpArgs false
namespace Go.Wx
open Go.RowKit
theorem growBy_le (n : Nat) : ∀ (r c : Nat), Builtin.growBy n r c ≤ max c (2 * n + 768)
  | 0, c => by unfold Builtin.growBy; omega
  | r + 1, c => by
    unfold Builtin.growBy
    split
    · omega
    · have := growBy_le n r (c + (c + 768) / 4)
      omega
theorem nextcap_le (need old : Nat) (h : old < need) : Builtin.nextslicecap need old ≤ 2 * need + 768 := by
  unfold Builtin.nextslicecap
  split
  · omega
  · split
    · omega
    · have := growBy_le need 4 old; omega
section
variable {P : Program} {M : Mp} {G : Nat} {st : St} {w w' : World}
/-- What an append's second operand brings: count and cells. -/
def srcE (P : Program) (st : St) (tx : TypeId) (size : Nat) (x : Value) : Option (Nat × List Value) :=
  match P.underlying tx, x with
  | some (.slice _), .slice none 0 0 => some (0, [])
  | some (.slice _), .slice (some ⟨i, off, none⟩) len _ => match cellsOf st i with
    | some c => if Nat.ble (off + len * size) c.length && ((c.drop off).take (len * size)).all atomV then some (len, (c.drop off).take (len * size)) else none
    | none => none
  | some .string, .string s => if Nat.beq size 1 then some (s.data.toList.length, s.data.toList.map fun b => .int .u8 b.toNat) else none
  | _, _ => none
theorem one_of_atom (v : Value) : v.oneCell' = atomV v := by cases v <;> rfl
theorem srcE_sound (hR : RR P G M st w) {tx : TypeId} {size : Nat} {x x' : Value} {n : Nat} {news : List Value} (h : srcE P st tx size x = some (n, news)) (hx : VR M x x') :
    ∃ news', Src P size tx x' n news' w ∧ VRs M news news' ∧ news.length = n * size := by
  unfold srcE at h
  split at h
  · rename_i e hd
    cases h
    have := hx.flat_eq rfl; subst this
    exact ⟨[], Src.ofNil w hd 0, .nil, by simp⟩
  · rename_i e i off len cp hd
    split at h
    · rename_i c hc
      split at h
      · rename_i hcond
        simp only [Bool.and_eq_true, Nat.ble_eq] at hcond
        cases h
        cases hx with
        | flat hf => simp [flatV] at hf
        | slice hL h1 h2 h3 h4 =>
          rename_i cap' L
          obtain ⟨L', bt, opn, ro, hL', hC⟩ := cellsOf_sound hR hc
          rw [hL] at hL'; cases hL'
          obtain ⟨l', e1, e2, e3⟩ := cells_range hC hcond.1
          have hat := hcond.2
          rw [← e2.atom, List.all_eq_true] at hat
          refine ⟨l', Src.ofSlice w hd _ n cap' l' e1 (fun j u hj => by rw [Addr.add_spot]; exact e3 w rfl j u hj) (fun u hu => by rw [one_of_atom]; exact hat u hu), e2, ?_⟩
          exact e2.len.symm.trans e1
      · cases h
    · cases h
  · rename_i s hd
    split at h
    · rename_i hs
      rw [Nat.beq_eq] at hs; subst hs
      cases h
      have := hx.string; subst this
      have hsz : s.data.toList.length = s.size := by simp
      rw [hsz]
      refine ⟨byteCells s, Src.ofString w hd s, ?_, by simp⟩
      exact VRs.of_all (p := flatV) (fun v hv => .flat hv) _ (by rw [List.all_map]; exact List.all_eq_true.2 (fun _ _ => rfl))
    · cases h
  · cases h
/-- The cells that a slice holds ahead of an append. -/
def oldsE (st : St) (size : Nat) (s : Value) : Option (List Value) :=
  match s with
  | .slice none 0 0 => some []
  | .slice (some ⟨i, off, none⟩) len _ => match cellsOf st i with
    | some c => if Nat.ble (off + len * size) c.length then some ((c.drop off).take (len * size)) else none
    | none => none
  | _ => none
theorem oldsE_sound (hR : RR P G M st w) {size : Nat} {s s' : Value} {olds : List Value} (h : oldsE st size s = some olds) (hs : VR M s s') :
    ∃ A len cap olds', s' = .slice A len cap ∧ (Builtin.firstCells size len s').run P w.drew = .ok olds'.toArray w.drew ∧ VRs M olds olds' ∧ olds.length = len * size := by
  unfold oldsE at h
  split at h
  · cases h
    have := hs.flat_eq rfl; subst this
    exact ⟨none, 0, 0, [], rfl, run_firstCells_none _ _ _ _ _, .nil, by simp⟩
  · rename_i i off len cp
    split at h
    · rename_i c hc
      split at h
      · rename_i hle
        rw [Nat.ble_eq] at hle
        cases h
        cases hs with
        | flat hf => simp [flatV] at hf
        | slice hL h1 h2 h3 h4 =>
          rename_i cap' L
          obtain ⟨L', bt, opn, ro, hL', hC⟩ := cellsOf_sound hR hc
          rw [hL] at hL'; cases hL'
          obtain ⟨l', e1, e2, e3⟩ := cells_range hC hle
          refine ⟨_, len, cap', l', rfl, run_firstCells_some w.drew size len _ len cap' l' e1 (fun j u hj => by rw [Addr.add_spot]; exact e3 w.drew rfl j u hj), e2, ?_⟩
          exact e2.len.symm.trans e1
      · cases h
    · cases h
  · cases h
/-- A slice's length and surely known capacity. -/
def lenCap : Value → Nat × Nat
  | .slice _ len cap => (len, cap)
  | _ => (0, 0)
/-- The new block of an append that grows: its row, and how it reads. -/
theorem grow_row (hR : RR P G M st w) {elem : TypeId} {info : TypeInfo} {z : Value} (hi : P.info? elem = some info) (hz : info.zero = some z) (hzs : z.cells.size = info.size) {t tx ty : TypeId} (ht : P.underlying t = some (.slice elem))
    {s s' x x' : Value} {olds news : List Value} {n : Nat} (ho : oldsE st info.size s = some olds) (hs : VR M s s') (hx : VR M x x') (hn : srcE P st tx info.size x = some (n, news))
    {A : Option Addr} {len cap : Nat} (hs' : s' = .slice A len cap) (hg : cap < len + n) (hb : len + n ≤ 1000000) (hby : info.bytes ≤ 1000000)
    {i : Nat} {st' : St} {par : Option Nat} (hpar : ∀ p, par = some p → p < st.n ∧ ∀ x, st.h.get p = some x → x.1.stale = true) (hnew : newE G st (.cells (olds ++ news) elem true false false par) = some (i, st')) :
    Snd P G M st w (Builtin.append_ #[t, tx] ty #[s', x']) (.slice (some ⟨i, 0, none⟩) (len + n) (len + n)) st' := by
  obtain ⟨A2, len2, cap2, olds', e1, e2, e3, e4⟩ := oldsE_sound hR ho hs
  rw [hs'] at e1; cases e1
  obtain ⟨news', f1, f2, f3⟩ := srcE_sound hR hn hx
  have hnc := nextcap_le (len + n) cap hg
  have hfit : Builtin.nextslicecap (len + n) cap * info.bytes ≤ 281474976710656 := Nat.le_trans (Nat.mul_le_mul hnc hby) (by omega)
  rw [hs'] at e2
  have run := run_append_grow_src (P := P) w t tx ty elem info z ht hi hz A len cap olds' e2 x' n news' f1 hg (by omega) hfit
  have hge := grownCap_ge w (len + n) cap elem
  generalize hgc : grownCap w (len + n) cap elem = gc at run hge
  have hvs : VRs M (olds ++ news) (olds' ++ news') := e3.append f2
  have hl := hvs.len
  have hlen : (olds ++ news).length = (len + n) * info.size := by rw [List.length_append, e4, f3, Nat.add_mul]
  have hcs : P.cellsOf elem = info.size := by simp [Program.cellsOf, hi]
  have hsize : ((olds' ++ news').toArray ++ Builtin.zeroCells z.cells (gc - (len + n))).size = gc * info.size := by
    rw [Array.size_append, size_zeroCells, hzs, List.size_toArray, hl, hlen, ← Nat.add_mul]
    congr 1; omega
  unfold newE at hnew
  split at hnew
  · rename_i hc
    simp only [Bool.and_eq_true, Nat.ble_eq, Nat.blt_eq] at hc
    cases hnew
    let L : Loc := ⟨w.heap.size, 0, gc * info.size, P.cellsOf elem, true⟩
    have hself : M.add st.n L st.n = some L := by unfold Mp.add; rw [if_pos rfl]
    have hext := Mp.add_ext hR L
    obtain ⟨a, b⟩ := RR.made (hR.drew) (o := .cells ((olds' ++ news').toArray ++ Builtin.zeroCells z.cells (gc - (len + n))) elem) (L := L) (ab := .cells (olds ++ news) elem true false false par) hc.2 hc.1 rfl hpar
      ⟨rfl, _, (0, 0), alloc_at w.drew _, by rw [hsize]; simp [L], by rw [hlen]; exact Nat.mul_le_mul_right _ hge, fun e => (by cases e), fun _ => rfl, fun _ j _ _ => by simp, fun j v hj => by
        obtain ⟨v', g1, g2⟩ := hvs.get j v hj
        refine ⟨v', ?_, g2.ext hext⟩
        have hj' : j < (olds' ++ news').length := (List.getElem?_eq_some_iff.1 g1).1
        rw [Nat.zero_add, Array.getElem?_append_left (by simpa using hj')]
        simpa using g1⟩
    refine ⟨M.add st.n L, .slice (some ⟨w.heap.size, 0, none⟩) (len + n) gc, _, ?_, a, (Stp.drew M st w).trans b, ?_⟩
    · rw [hs']; exact run
    · exact VR.slice (L := L) (off := 0) hself (Nat.le_refl _) hge (fun e => by cases e) (fun _ => by show 0 + gc * P.cellsOf elem ≤ gc * info.size; rw [hcs]; omega)
  · cases hnew
end
end Go.Wx
end PEv15
/- The evaluator: append, all ways. -/
noncomputable section PEv16
set_option linter.unusedVariables false
set_option linter.unusedSimpArgs false
namespace Go.Wx
open Go.RowKit
section
variable {P : Program} {M : Mp} {G : Nat} {st : St} {w w' : World}
theorem RR.killPar (hR : RR P G M st w) {i : Nat} {ab : AB} {v : Nat} (hi : st.h.get i = some (ab, v)) :
    RR P G M (st.killPar ab.par) w ∧ Stp M st w M (st.killPar ab.par) w ∧ (st.killPar ab.par).h.get i = some (ab, v) ∧ (∀ p, ab.par = some p → ∀ x, (st.killPar ab.par).h.get p = some x → x.1.live = false) ∧ (st.killPar ab.par).n = st.n := by
  unfold St.killPar
  cases hpar : ab.par with
  | none => exact ⟨hR, .refl _ _ _, hi, fun p e => (by cases e), rfl⟩
  | some p =>
    cases hgp : st.h.get p with
    | none =>
      simp only [hgp]
      exact ⟨hR, .refl _ _ _, hi, fun q e x hx => (by cases e; rw [hgp] at hx; cases hx), trivial⟩
    | some x =>
      simp only [hgp]
      obtain ⟨k1, k2⟩ := hR.kill hgp
      have hne : i ≠ p := by have := hR.plt i ab v p hi hpar; omega
      have hltp := lt20 hR (hR.lt hgp)
      refine ⟨k1, k2, by rw [St.get_drop st p x.2 i hltp, if_neg hne]; exact hi, fun q e y hx => ?_, rfl⟩
      cases e
      rw [St.get_drop st p _ p hltp, if_pos rfl] at hx; cases hx; rfl
theorem run_append_room' {t tx ty e : TypeId} {i : TypeInfo} (ht : P.underlying t = some (.slice e)) (hi : P.info? e = some i) {b off len cap : Nat} {x : Value} {n : Nat} {news : List Value} (hs : Src P i.size tx x n news w)
    (hroom : len + n ≤ cap) {w1 : World} (hst : (storeCells ⟨b, off + len * i.size, none⟩ news).run P w = .ok () w1) :
    (Builtin.append_ #[t, tx] ty #[.slice (some ⟨b, off, none⟩) len cap, x]).run P w = .ok (.slice (some ⟨b, off, none⟩) (len + n) cap) w1 := by
  rcases hs.kind with ⟨e', hk⟩ | hk <;> simp [Builtin.append_, run_underlying ht, run_underlying hk, sizeOf, typeInfo, hi, hs.len, hroom, hs.cells, Addr.add_lit, hst]
theorem run_append_none {t tx ty e : TypeId} {i : TypeInfo} (ht : P.underlying t = some (.slice e)) (hi : P.info? e = some i) {len cap : Nat} {x : Value} {n : Nat} {news : List Value} (hs : Src P i.size tx x n news w)
    (hroom : len + n ≤ cap) :
    (Builtin.append_ #[t, tx] ty #[.slice none len cap, x]).run P w = .ok (.slice none (len + n) cap) w := by
  rcases hs.kind with ⟨e', hk⟩ | hk <;> simp [Builtin.append_, run_underlying ht, run_underlying hk, sizeOf, typeInfo, hi, hs.len, hroom, hs.cells]
theorem append_open (hR : RR P G M st w) {elem : TypeId} {info : TypeInfo} {z : Value} (hi : P.info? elem = some info) (hz : info.zero = some z) (hzs : z.cells.size = info.size) (hby : info.bytes ≤ 1000000)
    {t tx ty : TypeId} (ht : P.underlying t = some (.slice elem)) {i off len cap cap' : Nat} {c : List Value} {par : Option Nat} {vv : Nat} (hg : st.h.get i = some (.cells c elem true false false par, vv)) {L : Loc} (hL : M i = some L)
    (h1 : len ≤ cap) (h2 : cap ≤ cap') (h4 : off + cap' * L.sz ≤ L.n) {x x' : Value} (hx : VR M x x') (hle : off + len * info.size ≤ c.length)
    {olds news : List Value} {n m : Nat} {st1 st' : St} (hst1 : st1 = (st.killPar par).put i (.cells (c.take (off + len * info.size)) elem true true false none))
    (ho : oldsE st1 info.size (.slice (some ⟨i, off, none⟩) len cap) = some olds) (hn : srcE P st1 tx info.size x = some (n, news)) (hat : news.all atomV = true)
    (hnew : newE G st1 (.cells (olds ++ news) elem true false false (some i)) = some (m, st')) (hcap : cap < len + n) (hbig : len + n ≤ 1000000) :
    Snd P G M st w (Builtin.append_ #[t, tx] ty #[.slice (some ⟨L.b, L.o + off, none⟩) len cap', x']) (.slice (some ⟨m, 0, none⟩) (len + n) (len + n)) st' := by
  obtain ⟨k1, k2, hi', hdead, kn⟩ := hR.killPar hg
  simp only [AB.par] at k1 k2 hi' hdead kn
  obtain ⟨L', hL', hb⟩ := hR.blk i _ _ hg
  rw [hL] at hL'; cases hL'
  have hcs : P.cellsOf elem = info.size := by simp [Program.cellsOf, hi]
  obtain ⟨q0, C, fz, hC, hsz, hcl, hex, hse, hfz, hrel⟩ := hb
  have hLs : L.sz = info.size := by rw [hse q0]; exact hcs
  have htr : ∀ (M2 : Mp) (w2 : World) (C2 : Array Value), Ext M M2 → w2.heap[L.b]? = some (.cells C2 elem fz) → C2.size = C.size → (∀ j, j < L.o + (off + len * info.size) → C2[j]? = C[j]?) →
      CellsR P M2 w2 L (c.take (off + len * info.size)) elem true false := fun M2 w2 C2 hext hC2 hs2 hsame => by
    refine ⟨q0, C2, fz, hC2, by rw [hs2]; exact hsz, by simp; omega, fun e => (by rw [q0] at e; cases e), fun _ => by rw [hcs]; exact hLs, fun _ => hfz rfl, fun j v hj => ?_⟩
    have hjk : j < off + len * info.size := by
      have := (List.getElem?_eq_some_iff.1 hj).1
      simp at this; omega
    rw [List.getElem?_take_of_lt hjk] at hj
    rw [hsame _ (by omega)]
    obtain ⟨v', e, hv⟩ := hrel j v hj
    exact ⟨v', e, hv.ext hext⟩
  obtain ⟨t1, t2⟩ := k1.turn (w' := w) (ab' := .cells (c.take (off + len * info.size)) elem true true false none) hi' rfl rfl hdead rfl hL (htr M w C (.refl M) hC rfl fun _ _ => rfl) (.refl w _)
  rw [← hst1] at t1 t2
  have hlti := lt20 k1 (k1.lt hi')
  have hget1 : st1.h.get i = some (.cells (c.take (off + len * info.size)) elem true true false none, (st.killPar par).clk + 1) := by
    rw [hst1, St.get_put _ i i _ hlti, if_pos rfl]
  have hsM : VR M (.slice (some ⟨i, off, none⟩) len cap) (.slice (some ⟨L.b, L.o + off, none⟩) len cap') := .slice hL h1 h2 (fun e => by rw [q0] at e; cases e) (fun _ => h4)
  by_cases hroom : cap' < len + n
  · obtain ⟨M', v', w', r, a, b, d⟩ := grow_row (par := some i) t1 hi hz hzs ht ho hsM hx hn rfl hroom hbig hby (fun p e => by
      cases e
      exact ⟨t1.lt hget1, fun x hx => by rw [hget1] at hx; cases hx; rfl⟩) hnew (ty := ty)
    exact ⟨M', v', w', r, a, (k2.trans t2).trans b, d⟩
  · obtain ⟨news', f1, f2, f3⟩ := srcE_sound t1 hn hx
    have hnl := f2.len
    have hroom' : len + n ≤ cap' := by omega
    have hmul : (len + n) * info.size ≤ cap' * info.size := Nat.mul_le_mul_right _ hroom'
    rw [hLs] at h4
    rw [Nat.add_mul] at hmul
    obtain ⟨w1, C', r, c1, e1, u⟩ := run_storeCells (P := P) (b := L.b) (o := L.o + off + len * info.size) news' 0 w C hC (by rw [f2.atom]; exact hat) (by omega) (fun j g1 g2 => hfz rfl j (by omega) (by omega))
    rw [Nat.add_zero] at e1
    have hCl : C.toList.length = C.size := Array.length_toList
    have hCs : C'.size = C.size := by
      rw [← Array.length_toList, e1]
      have := splc_len C.toList news' (L.o + off + len * info.size) (by omega)
      unfold splc at this
      rw [this, Array.length_toList]
    have hC' : ∀ k, C'[k]? = if k < L.o + off + len * info.size then C[k]? else if k < L.o + off + len * info.size + news'.length then news'[k - (L.o + off + len * info.size)]? else C[k]? := fun k => by
      rw [← Array.getElem?_toList, e1, splice_get C.toList news' _ k (by omega)]
      simp only [Array.getElem?_toList]
    have hol : olds = ((c.take (off + len * info.size)).drop off).take (len * info.size) := by
      unfold oldsE at ho
      dsimp only at ho
      unfold cellsOf at ho
      rw [hget1] at ho
      dsimp only at ho
      split at ho
      · cases ho; rfl
      · cases ho
    have holen : olds.length = len * info.size := by rw [hol]; simp; omega
    have holget : ∀ j, j < len * info.size → olds[j]? = c[off + j]? := fun j hj => by
      rw [hol, List.getElem?_take_of_lt hj, List.getElem?_drop, List.getElem?_take_of_lt (by omega)]
    unfold newE at hnew
    split at hnew
    · rename_i hcnd
      simp only [Bool.and_eq_true, Nat.ble_eq, Nat.blt_eq] at hcnd
      have hn1 : st1.n = (st.killPar par).n := by rw [hst1]; rfl
      cases hnew
      let Lm : Loc := ⟨L.b, L.o + off, L.n - off, P.cellsOf elem, true⟩
      have hext := Mp.add_ext k1 Lm
      obtain ⟨a, b⟩ := k1.fork (w' := w1) (L := L) (Lm := Lm) (ai := .cells (c.take (off + len * info.size)) elem true true false none) (am := .cells (olds ++ news) elem true false false (some i)) (by rw [← hn1]; exact hcnd.2) (by rw [← hn1]; exact hcnd.1) hi' rfl rfl hdead hL rfl rfl rfl rfl
        (htr _ w1 C' hext c1 hCs fun j hj => by rw [hC', if_pos (by omega)])
        (by
          refine ⟨rfl, C', fz, c1, by rw [hCs, hsz]; simp only [Lm]; omega, by rw [List.length_append, holen, f3]; simp only [Lm]; omega, fun e => (by cases e), fun _ => rfl, fun _ j g1 g2 => hfz rfl j (by simp only [Lm] at g1; omega) (by simp only [Lm] at g2; omega), fun j v hj => ?_⟩
          show ∃ v', C'[L.o + off + j]? = some v' ∧ _
          rw [hC']
          by_cases hjl : j < len * info.size
          · rw [if_pos (by omega)]
            rw [List.getElem?_append_left (by omega), holget j hjl] at hj
            obtain ⟨v', e, hv⟩ := hrel (off + j) v hj
            exact ⟨v', by rw [Nat.add_assoc]; exact e, hv.ext hext⟩
          · rw [if_neg (by omega)]
            rw [List.getElem?_append_right (by omega), holen] at hj
            obtain ⟨v', e, hv⟩ := f2.get _ _ hj
            have hlt := (List.getElem?_eq_some_iff.1 e).1
            rw [if_pos (by omega), show L.o + off + j - (L.o + off + len * info.size) = j - len * info.size from by omega]
            exact ⟨v', e, hv.ext hext⟩) u
      rw [← hst1] at a b
      refine ⟨_, .slice (some ⟨L.b, L.o + off, none⟩) (len + n) cap', w1, run_append_room' (ty := ty) ht hi f1 hroom' r, a, k2.trans b, ?_⟩
      have hself : M.add (st.killPar par).n Lm st1.n = some Lm := by unfold Mp.add; rw [hn1, if_pos rfl]
      exact VR.slice (L := Lm) (off := 0) hself (Nat.le_refl _) hroom' (fun e => by cases e) (fun _ => by simp only [Lm]; rw [hcs]; omega)
    · cases hnew
def appendE (P : Program) (G : Nat) (st : St) (t tx : TypeId) (s x : Value) : Option (Value × St) :=
  match P.underlying t with
  | some (.slice elem) => match P.info? elem with
    | none => none
    | some info => match info.zero with
      | none => none
      | some z => if !(Nat.beq z.cells.toList.length info.size) || !(Nat.ble info.bytes 1000000) then none else
        match s with
        | .slice none 0 0 => (match srcE P st tx info.size x with
          | some (0, _) => some (.slice none 0 0, st)
          | some (n + 1, news) => if Nat.ble (n + 1) 1000000 then (match newE G st (.cells news elem true false false none) with
            | some (i, st') => some (.slice (some ⟨i, 0, none⟩) (n + 1) (n + 1), st')
            | none => none) else none
          | none => none)
        | .slice (some ⟨i, off, none⟩) len cap => (match st.h.get i with
          | some (.cells c bt opn false ro par, _) => (match srcE P st tx info.size x with
            | none => none
            | some (0, _) => if Nat.ble len cap then some (.slice (some ⟨i, off, none⟩) len cap, st) else none
            | some (n + 1, news) =>
              if Nat.ble (len + (n + 1)) cap then
                (if !ro && Nat.ble (off + len * info.size + news.length) c.length && news.all atomV then
                  some (.slice (some ⟨i, off, none⟩) (len + (n + 1)) cap, (st.killPar par).put i (.cells (splc c news (off + len * info.size)) bt opn false false none)) else none)
              else if !(Nat.ble (len + (n + 1)) 1000000) then none
              else if opn then
                (if !ro && Nat.beq elem bt && Nat.ble (off + len * info.size) c.length && Nat.ble len cap then
                  (let st1 := (st.killPar par).put i (.cells (c.take (off + len * info.size)) bt true true false none)
                  match oldsE st1 info.size (.slice (some ⟨i, off, none⟩) len cap), srcE P st1 tx info.size x with
                  | some olds, some (n', news') => if Nat.beq n' (n + 1) && news'.all atomV then (match newE G st1 (.cells (olds ++ news') elem true false false (some i)) with
                    | some (m, st') => some (.slice (some ⟨m, 0, none⟩) (len + (n + 1)) (len + (n + 1)), st')
                    | none => none) else none
                  | _, _ => none) else none)
              else (match oldsE st info.size (.slice (some ⟨i, off, none⟩) len cap) with
                | some olds => (match newE G st (.cells (olds ++ news) elem true false false none) with
                  | some (m, st') => some (.slice (some ⟨m, 0, none⟩) (len + (n + 1)) (len + (n + 1)), st')
                  | none => none)
                | none => none))
          | _ => none)
        | _ => none
  | _ => none
theorem appendE_sound (hR : RR P G M st w) {t tx ty : TypeId} {s s' x x' v : Value} {st' : St} (h : appendE P G st t tx s x = some (v, st')) (hs : VR M s s') (hx : VR M x x') :
    Snd P G M st w (Builtin.append_ #[t, tx] ty #[s', x']) v st' := by
  unfold appendE at h
  split at h
  rotate_left
  · cases h
  rename_i elem ht
  split at h
  · cases h
  rename_i info hi
  split at h
  · cases h
  rename_i z hz
  split at h
  · cases h
  rename_i hcond
  simp only [Bool.or_eq_true, Bool.not_eq_true', not_or, Bool.not_eq_false] at hcond
  obtain ⟨hzs0, hby⟩ := hcond
  rw [Nat.beq_eq] at hzs0
  rw [Nat.ble_eq] at hby
  have hzs : z.cells.size = info.size := by rw [← Array.length_toList]; exact hzs0
  split at h
  · -- nil
    have e := hs.flat_eq rfl; subst e
    split at h
    · rename_i news hn
      cases h
      obtain ⟨news', f1, f2, f3⟩ := srcE_sound hR hn hx
      exact ⟨M, _, w, run_append_none (ty := ty) ht hi f1 (Nat.le_refl 0), hR, .refl _ _ _, .flat rfl⟩
    · rename_i n news hn
      split at h
      · rename_i hb
        rw [Nat.ble_eq] at hb
        split at h
        · rename_i i st1 hnew
          cases h
          have := grow_row (s := .slice none 0 0) (olds := []) (len := 0) (cap := 0) (n := n + 1) (par := none) hR hi hz hzs ht rfl (.flat rfl) hx hn rfl (by omega) (by omega) hby (fun p e => by cases e) (by simpa using hnew) (ty := ty)
          simpa using this
        · cases h
      · cases h
    · cases h
  · rename_i i off len cap
    split at h
    · rename_i c bt opn ro par vv hg
      split at h
      · cases h
      · rename_i news hn
        split at h
        · rename_i hle
          rw [Nat.ble_eq] at hle
          cases h
          cases hs with
          | flat hf => simp [flatV] at hf
          | slice hL h1 h2 h3 h4 =>
            rename_i cap' L
            obtain ⟨news', f1, f2, f3⟩ := srcE_sound hR hn hx
            have hnil : news' = [] := List.eq_nil_of_length_eq_zero (by rw [f2.len, f3]; simp)
            subst hnil
            refine ⟨M, _, w, run_append_room' (ty := ty) ht hi f1 (by omega : len + 0 ≤ cap') (by rfl), hR, .refl _ _ _, .slice hL h1 h2 h3 h4⟩
        · cases h
      · rename_i n news hn
        split at h
        · rename_i hle
          rw [Nat.ble_eq] at hle
          split at h
          · rename_i hc2
            simp only [Bool.and_eq_true, Bool.not_eq_true', Nat.ble_eq] at hc2
            obtain ⟨⟨hro, hbd⟩, hat⟩ := hc2
            subst hro
            cases h
            cases hs with
            | flat hf => simp [flatV] at hf
            | slice hL h1 h2 h3 h4 =>
              rename_i cap' L
              obtain ⟨L', hL', hb⟩ := hR.blk i _ _ hg
              rw [hL] at hL'; cases hL'
              obtain ⟨news', f1, f2, f3⟩ := srcE_sound hR hn hx
              obtain ⟨w1, r, u, hC⟩ := cells_store hb f2 hat hbd
              obtain ⟨a, b⟩ := hR.write hg rfl rfl (ab' := .cells (splc c news (off + len * info.size)) bt opn false false none) rfl hL hC u
              refine ⟨M, _, w1, run_append_room' (ty := ty) ht hi f1 (by omega : len + (n + 1) ≤ cap') (by rw [Nat.add_assoc]; exact r), a, b, .slice hL hle h2 h3 h4⟩
          · cases h
        · rename_i hnle
          rw [Nat.ble_eq] at hnle
          split at h
          · cases h
          · rename_i hbig
            simp only [Bool.not_eq_true', Bool.not_eq_false, Nat.ble_eq] at hbig
            split at h
            · rename_i hopn
              subst hopn
              split at h
              · rename_i hc3
                simp only [Bool.and_eq_true, Bool.not_eq_true', Nat.ble_eq, Nat.beq_eq] at hc3
                obtain ⟨⟨⟨hro, hbt⟩, hle⟩, hlc⟩ := hc3
                subst hro; subst hbt
                dsimp only at h
                split at h
                · rename_i olds n' news' ho hn'
                  split at h
                  · rename_i hc4
                    simp only [Bool.and_eq_true, Nat.beq_eq] at hc4
                    obtain ⟨hnn, hat⟩ := hc4
                    subst hnn
                    split at h
                    · rename_i m st1 hnew
                      cases h
                      cases hs with
                      | flat hf => simp [flatV] at hf
                      | slice hL h1 h2 h3 h4 =>
                        rename_i cap' L
                        obtain ⟨L', hL', hb⟩ := hR.blk i _ _ hg
                        rw [hL] at hL'; cases hL'
                        exact append_open hR hi hz hzs hby ht hg hL h1 h2 (h4 hb.1) hx hle rfl ho hn' hat hnew (by omega) hbig
                    · cases h
                  · cases h
                · cases h
              · cases h
            · rename_i hopn
              split at h
              · rename_i olds ho
                split at h
                · rename_i m st1 hnew
                  cases h
                  cases hs with
                  | flat hf => simp [flatV] at hf
                  | slice hL h1 h2 h3 h4 =>
                    rename_i cap' L
                    obtain ⟨L', hL', hb⟩ := hR.blk i _ _ hg
                    rw [hL] at hL'; cases hL'
                    have hop : L.opn = false := by rw [hb.1]; simpa using hopn
                    have hcc := h3 hop
                    exact grow_row (par := none) hR hi hz hzs ht ho (.slice hL h1 h2 h3 h4) hx hn rfl (by omega) (by omega) hby (fun p e => by cases e) hnew
                · cases h
              · cases h
    · cases h
  · cases h
end
end Go.Wx
end PEv16
/- The evaluator: append in place, over cells of which nothing is known. -/
noncomputable section PEv16b
set_option linter.unusedVariables false
set_option linter.unusedSimpArgs false
namespace Go.Wx
open Go.RowKit
section
variable {P : Program} {M : Mp} {G : Nat} {st : St} {w w' : World}
def appendIn (P : Program) (st : St) (t tx : TypeId) (s x : Value) : Option (Value × St) :=
  match P.underlying t with
  | some (.slice elem) => match P.info? elem with
    | none => none
    | some info => match s with
      | .slice (some ⟨i, off, none⟩) len cap => (match st.h.get i with
        | some (.cells c bt true false false par, _) => (match srcE P st tx info.size x with
          | some (n, news) => if Nat.ble (len + n) cap && Nat.beq elem bt && Nat.ble (off + len * info.size) c.length && news.all atomV then
              some (.slice (some ⟨i, off, none⟩) (len + n) cap, (st.killPar par).put i (.cells (c.take (off + len * info.size) ++ news) bt true false false none)) else none
          | none => none)
        | _ => none)
      | _ => none
  | _ => none
theorem appendIn_sound (hR : RR P G M st w) {t tx ty : TypeId} {s s' x x' v : Value} {st' : St} (h : appendIn P st t tx s x = some (v, st')) (hs : VR M s s') (hx : VR M x x') :
    Snd P G M st w (Builtin.append_ #[t, tx] ty #[s', x']) v st' := by
  unfold appendIn at h
  split at h
  case h_2 => cases h
  rename_i elem ht
  split at h
  case h_1 => cases h
  rename_i info hi
  split at h
  case h_2 => cases h
  rename_i i off len cap
  split at h
  case h_2 => cases h
  rename_i c bt par vv hg
  split at h
  case h_2 => cases h
  rename_i n news hn
  split at h
  case isFalse => cases h
  rename_i hc
  simp only [Bool.and_eq_true, Nat.ble_eq, Nat.beq_eq] at hc
  obtain ⟨⟨⟨hle, hbt⟩, hcl⟩, hat⟩ := hc
  subst hbt
  cases h
  cases hs with
  | flat hf => simp [flatV] at hf
  | slice hL h1 h2 h3 h4 =>
    rename_i cap' L
    obtain ⟨L', hL', hb⟩ := hR.blk i _ _ hg
    rw [hL] at hL'; cases hL'
    obtain ⟨q0, C, fz, hC, hsz, hcs, hex, hse, hfz, hrel⟩ := hb
    have hcs' : P.cellsOf elem = info.size := by simp [Program.cellsOf, hi]
    have hLs : L.sz = info.size := by rw [hse q0]; exact hcs'
    have h4 := h4 q0
    rw [hLs] at h4
    obtain ⟨news', f1, f2, f3⟩ := srcE_sound hR hn hx
    have hnl := f2.len
    have hmul : (len + n) * info.size ≤ cap' * info.size := Nat.mul_le_mul_right _ (by omega)
    rw [Nat.add_mul] at hmul
    obtain ⟨w1, C', r, c1, e1, u⟩ := run_storeCells (P := P) (b := L.b) (o := L.o + off + len * info.size) news' 0 w C hC (by rw [f2.atom]; exact hat) (by omega) (fun j g1 g2 => hfz rfl j (by omega) (by omega))
    rw [Nat.add_zero] at e1
    have hCl : C.toList.length = C.size := Array.length_toList
    have hCs : C'.size = C.size := by
      rw [← Array.length_toList, e1]
      have := splc_len C.toList news' (L.o + off + len * info.size) (by omega)
      unfold splc at this
      rw [this, Array.length_toList]
    have hC' : ∀ k, C'[k]? = if k < L.o + off + len * info.size then C[k]? else if k < L.o + off + len * info.size + news'.length then news'[k - (L.o + off + len * info.size)]? else C[k]? := fun k => by
      rw [← Array.getElem?_toList, e1, splice_get C.toList news' _ k (by omega)]
      simp only [Array.getElem?_toList]
    have htl : (c.take (off + len * info.size)).length = off + len * info.size := by simp; omega
    have hnew : CellsR P M w1 L (c.take (off + len * info.size) ++ news) elem true false := by
      refine ⟨q0, C', fz, c1, by rw [hCs]; exact hsz, by rw [List.length_append, htl]; omega, fun e => (by rw [q0] at e; cases e), hse, hfz, fun j v hj => ?_⟩
      rw [hC']
      by_cases hj1 : j < off + len * info.size
      · rw [if_pos (by omega)]
        rw [List.getElem?_append_left (by omega), List.getElem?_take_of_lt hj1] at hj
        exact hrel j v hj
      · rw [List.getElem?_append_right (by omega), htl] at hj
        have hjl := (List.getElem?_eq_some_iff.1 hj).1
        rw [if_neg (by omega), if_pos (by omega), show L.o + j - (L.o + off + len * info.size) = j - (off + len * info.size) from by omega]
        exact f2.get _ _ hj
    obtain ⟨a, b⟩ := hR.write hg rfl rfl (ab' := .cells (c.take (off + len * info.size) ++ news) elem true false false none) rfl hL hnew u
    exact ⟨M, _, w1, run_append_room' (ty := ty) ht hi f1 (by omega : len + n ≤ cap') r, a, b, .slice hL hle h2 h3 (fun _ => by rw [hLs]; exact h4)⟩
def appendBld (P : Program) (st : St) (t tx : TypeId) (s x : Value) : Option (Value × St) :=
  match P.underlying t with
  | some (.slice elem) => match P.info? elem with
    | none => none
    | some info => match s with
      | .slice (some ⟨i, off, none⟩) len cap => (match st.h.get i with
        | some (.bld c bt k, _) => (match srcE P st tx info.size x with
          | some (n, news) => if Nat.ble (len + n) cap && Nat.beq elem bt && Nat.ble (off + len * info.size) c.length && Nat.ble k (off + len * info.size) && news.all atomV then
              some (.slice (some ⟨i, off, none⟩) (len + n) cap, (st.killPar none).put i (.bld (c.take (off + len * info.size) ++ news) bt k)) else none
          | none => none)
        | _ => none)
      | _ => none
  | _ => none
theorem appendBld_sound (hR : RR P G M st w) {t tx ty : TypeId} {s s' x x' v : Value} {st' : St} (h : appendBld P st t tx s x = some (v, st')) (hs : VR M s s') (hx : VR M x x') :
    Snd P G M st w (Builtin.append_ #[t, tx] ty #[s', x']) v st' := by
  unfold appendBld at h
  split at h
  case h_2 => cases h
  rename_i elem ht
  split at h
  case h_1 => cases h
  rename_i info hi
  split at h
  case h_2 => cases h
  rename_i i off len cap
  split at h
  case h_2 => cases h
  rename_i c bt k vv hg
  split at h
  case h_2 => cases h
  rename_i n news hn
  split at h
  case isFalse => cases h
  rename_i hc
  simp only [Bool.and_eq_true, Nat.ble_eq, Nat.beq_eq] at hc
  obtain ⟨⟨⟨⟨hle, hbt⟩, hcl⟩, hkk⟩, hat⟩ := hc
  subst hbt
  cases h
  cases hs with
  | flat hf => simp [flatV] at hf
  | slice hL h1 h2 h3 h4 =>
    rename_i cap' L
    obtain ⟨L', hL', hb⟩ := hR.blk i _ _ hg
    rw [hL] at hL'; cases hL'
    obtain ⟨⟨q0, C, fz, hC, hsz, hcs, hex, hse, _, hrel⟩, hfk⟩ := hb
    have hfk' := hfk C _ fz hC
    have hcs' : P.cellsOf elem = info.size := by simp [Program.cellsOf, hi]
    have hLs : L.sz = info.size := by rw [hse q0]; exact hcs'
    have h4 := h4 q0
    rw [hLs] at h4
    obtain ⟨news', f1, f2, f3⟩ := srcE_sound hR hn hx
    have hnl := f2.len
    have hmul : (len + n) * info.size ≤ cap' * info.size := Nat.mul_le_mul_right _ (by omega)
    rw [Nat.add_mul] at hmul
    obtain ⟨w1, C', r, c1, e1, u⟩ := run_storeCells (P := P) (b := L.b) (o := L.o + off + len * info.size) news' 0 w C hC (by rw [f2.atom]; exact hat) (by omega) (fun j g1 g2 hf => by rcases hfk' with e | e <;> omega)
    rw [Nat.add_zero] at e1
    have hCl : C.toList.length = C.size := Array.length_toList
    have hCs : C'.size = C.size := by
      rw [← Array.length_toList, e1]
      have := splc_len C.toList news' (L.o + off + len * info.size) (by omega)
      unfold splc at this
      rw [this, Array.length_toList]
    have hC' : ∀ k, C'[k]? = if k < L.o + off + len * info.size then C[k]? else if k < L.o + off + len * info.size + news'.length then news'[k - (L.o + off + len * info.size)]? else C[k]? := fun k => by
      rw [← Array.getElem?_toList, e1, splice_get C.toList news' _ k (by omega)]
      simp only [Array.getElem?_toList]
    have htl : (c.take (off + len * info.size)).length = off + len * info.size := by simp; omega
    have hnew : CellsR P M w1 L (c.take (off + len * info.size) ++ news) elem true true := by
      refine ⟨q0, C', fz, c1, by rw [hCs]; exact hsz, by rw [List.length_append, htl]; omega, fun e => (by rw [q0] at e; cases e), hse, fun e => (by cases e), fun j v hj => ?_⟩
      rw [hC']
      by_cases hj1 : j < off + len * info.size
      · rw [if_pos (by omega)]
        rw [List.getElem?_append_left (by omega), List.getElem?_take_of_lt hj1] at hj
        exact hrel j v hj
      · rw [List.getElem?_append_right (by omega), htl] at hj
        have hjl := (List.getElem?_eq_some_iff.1 hj).1
        rw [if_neg (by omega), if_pos (by omega), show L.o + j - (L.o + off + len * info.size) = j - (off + len * info.size) from by omega]
        exact f2.get _ _ hj
    obtain ⟨a, b⟩ := hR.write hg rfl rfl (ab' := .bld (c.take (off + len * info.size) ++ news) elem k) rfl hL ⟨hnew, fun C2 t2 fz2 h2 => by rw [c1] at h2; cases h2; exact hfk'⟩ u
    exact ⟨M, _, w1, run_append_room' (ty := ty) ht hi f1 (by omega : len + n ≤ cap') r, a, b, .slice hL hle h2 h3 (fun _ => by rw [hLs]; exact h4)⟩
/-- Append: in place over known cells; as a new block; in place over unknown ones. -/
def appendX (P : Program) (G : Nat) (st : St) (t tx : TypeId) (s x : Value) : Option (Value × St) :=
  match appendE P G st t tx s x with
  | some r => some r
  | none => match appendIn P st t tx s x with
    | some r => some r
    | none => appendBld P st t tx s x
theorem appendX_sound (hR : RR P G M st w) {t tx ty : TypeId} {s s' x x' v : Value} {st' : St} (h : appendX P G st t tx s x = some (v, st')) (hs : VR M s s') (hx : VR M x x') :
    Snd P G M st w (Builtin.append_ #[t, tx] ty #[s', x']) v st' := by
  unfold appendX at h
  split at h
  · rename_i r hr
    cases h
    exact appendE_sound hR hr hs hx
  · split at h
    · rename_i r hr
      cases h
      exact appendIn_sound hR hr hs hx
    · exact appendBld_sound hR h hs hx
end
end Go.Wx
end PEv16b
/- The evaluator: maps written, copies, iterators, strings of bytes. -/
noncomputable section PEv17
set_option linter.unusedVariables false
set_option linter.unusedSimpArgs false
namespace Go.Wx
open Go.RowKit
section
variable {P : Program} {M : Mp} {G : Nat} {st : St} {w w' : World}
theorem run_getObj {r : Nat} {o : Obj} (h : w.heap[r]? = some o) (hn : ∀ c t f, o ≠ .cells c t f) : (getObj r).run P w = .ok o w := by
  show (Sem.getObj r .pure).run P w = _
  simp only [Sem.run, h]
theorem run_setObj {r : Nat} {o o' : Obj} (h : w.heap[r]? = some o) (hn : ∀ c t f, o ≠ .cells c t f) :
    ∃ w', (setObj r o').run P w = .ok () w' ∧ w'.heap[r]? = some o' ∧ Upd w w' r := by
  have hlt : r < w.heap.size := (Array.getElem?_eq_some_iff.1 h).1
  refine ⟨{ w with heap := w.heap.setIfInBounds r o' }, ?_, ?_, ⟨fun b' hb => ?_, by simp, rfl, rfl, rfl⟩⟩
  · show (Sem.setObj r o' (.pure ())).run P w = _
    simp only [Sem.run, h]
  · simp [hlt]
  · show (w.heap.setIfInBounds r o')[b']? = _
    rw [Array.getElem?_setIfInBounds_ne (Ne.symm hb)]
theorem findNow_lt {d : TypeDesc} {k : Value} : ∀ {es : List MapEntry} (i : Nat) {j : Nat} {v : Value}, Instr.findNow d k es i = some (some (j, v)) → i ≤ j ∧ j < i + es.length
  | [], i, j, v, h => by simp [Instr.findNow] at h
  | e :: es, i, j, v, h => by
    unfold Instr.findNow at h
    split at h
    · cases h; simp
    · have := findNow_lt (i + 1) h
      simp; omega
    · cases h
theorem EntR.key {es es' : List MapEntry} (h : EntR M es es') (j : Nat) : (es'[j]?).map (·.key) = (es[j]?).map (·.key) := by
  induction h generalizing j with
  | nil => rfl
  | cons a b c ih => cases j with
    | zero => rfl
    | succ j => simpa using ih j
theorem run_findKey {t : TypeId} {kd : TypeDesc} (hkd : P.underlying t = some kd) {k : Value} {es : List MapEntry} {r : Option (Nat × Value)} (h : Instr.findNow kd k es 0 = some r) (w : World) : (Instr.findKey t k es).run P w = .ok r w := by
  unfold Instr.findKey
  rw [Sem.run_bind, run_underlying hkd, Result.andThen_ok, h]
  rfl
def mapUpdateE (P : Program) (st : St) (t : TypeId) (m k v : Value) : Option St :=
  match P.underlying t, m with
  | some (.map key _), .map (some r) => match st.h.get r, P.underlying key with
    | some (.map es clk, _), some kd => if plainK kd && flatV k then (match Instr.findNow kd k es 0 with
      | some (some (i, _)) => match es[i]? with
        | some e => if Instr.sameBits 10000 e.key k then some (st.put r (.map (es.modify i fun e => { e with key := k, val := v }) clk)) else none
        | none => none
      | some none => some (st.put r (.map (es ++ [⟨k, v, clk⟩]) (clk + 1)))
      | none => none) else none
    | _, _ => none
  | _, _ => none
theorem mapUpdateE_sound (hR : RR P G M st w) {t : TypeId} {m m' k k' v v' : Value} {st' : St} (h : mapUpdateE P st t m k v = some st') (hm : VR M m m') (hk : VR M k k') (hv : VR M v v') :
    ∃ w', (Instr.mapUpdate t m' k' v').run P w = .ok () w' ∧ RR P G M st' w' ∧ Stp M st w M st' w' := by
  unfold mapUpdateE at h
  split at h
  · rename_i key elem r hd
    split at h
    · rename_i es clk vv kd hg hkd
      split at h
      · rename_i hc
        simp only [Bool.and_eq_true] at hc
        have hkk := (hk.flat_eq hc.2).symm; subst hkk
        obtain ⟨L, hL, es', hh, hrel⟩ := hR.blk r _ _ hg
        cases hm with
        | flat hf => simp [flatV] at hf
        | map hL' =>
          rw [hL] at hL'; cases hL'
          have hnc : ∀ c t f, Obj.map es' clk ≠ .cells c t f := fun _ _ _ e => by cases e
          have pre : ∀ r0, Instr.findNow kd k es'.toList 0 = some r0 → (Instr.mapUpdate t (.map (some L.b)) k v').run P w =
              (match r0 with
              | some (i, _) => (do
                let key ← Instr.keyThatStays (((es'[i]?).map (fun e : MapEntry => e.key)).getD k) k
                setObj L.b (.map (es'.modify i fun e => { e with key, val := v' }) clk) : Sem Unit)
              | none => setObj L.b (.map (es'.push { key := k, val := v', born := clk }) (clk + 1))).run P w := fun r0 hr0 => by
            unfold Instr.mapUpdate
            rw [Sem.run_bind, run_underlying hd, Result.andThen_ok]
            dsimp only
            rw [Sem.run_bind, run_getObj hh hnc, Result.andThen_ok]
            dsimp only
            rw [Sem.run_bind, run_checkKey hkd hc.1, Result.andThen_ok, Sem.run_bind, run_findKey hkd hr0, Result.andThen_ok]
            rcases r0 with _ | ⟨i, u⟩ <;> rfl
          split at h
          · rename_i i u hf
            split at h
            · rename_i e0 he0
              split at h
              · rename_i hsb
                cases h
                obtain ⟨u', e1, e2⟩ := (findNow_rel 0 _ hrel hf).2 i u rfl
                obtain ⟨w', r1, r2, r3⟩ := run_setObj (P := P) (o' := .map (es'.modify i fun e => { e with key := k, val := v' }) clk) hh hnc
                obtain ⟨a, b⟩ := hR.write (ab' := .map (es.modify i fun e => { e with key := k, val := v }) clk) hg rfl rfl rfl hL ⟨_, r2, by rw [Array.toList_modify]; exact hrel.set i hc.2 hv⟩ r3
                refine ⟨w', ?_, a, b⟩
                rw [pre _ e1]
                dsimp only
                have hkey : ((es'[i]?).map (fun e : MapEntry => e.key)).getD k = e0.key := by
                  have := hrel.key i
                  rw [Array.getElem?_toList] at this
                  rw [this, he0]; rfl
                rw [hkey]
                have hks : (Instr.keyThatStays e0.key k).run P w = .ok k w := by
                  unfold Instr.keyThatStays
                  rw [if_pos hsb]; rfl
                rw [Sem.run_bind, hks, Result.andThen_ok]
                exact r1
              · cases h
            · cases h
          · rename_i hf
            cases h
            have e1 := (findNow_rel 0 _ hrel hf).1 rfl
            obtain ⟨w', r1, r2, r3⟩ := run_setObj (P := P) (o' := .map (es'.push { key := k, val := v', born := clk }) (clk + 1)) hh hnc
            obtain ⟨a, b⟩ := hR.write (ab' := .map (es ++ [⟨k, v, clk⟩]) (clk + 1)) hg rfl rfl rfl hL ⟨_, r2, by rw [Array.toList_push]; exact hrel.snoc hc.2 hv⟩ r3
            refine ⟨w', ?_, a, b⟩
            rw [pre _ e1]
            exact r1
          · cases h
      · cases h
    · cases h
  · cases h
def deleteE (P : Program) (st : St) (t : TypeId) (m k : Value) : Option St :=
  match P.underlying t, m with
  | some (.map key _), .map (some r) => match st.h.get r, P.underlying key with
    | some (.map es clk, _), some kd => if plainK kd && flatV k then (match Instr.findNow kd k es 0 with
      | some (some (i, _)) => some (st.put r (.map (es.eraseIdx i) clk))
      | some none => some (st.put r (.map es clk))
      | none => none) else none
    | _, _ => none
  | _, _ => none
theorem deleteE_sound (hR : RR P G M st w) {t tk ty : TypeId} {m m' k k' : Value} {st' : St} (h : deleteE P st t m k = some st') (hm : VR M m m') (hk : VR M k k') :
    ∃ w', (Builtin.delete_ #[t, tk] ty #[m', k']).run P w = .ok (.tuple #[]) w' ∧ RR P G M st' w' ∧ Stp M st w M st' w' := by
  unfold deleteE at h
  split at h
  · rename_i key elem r hd
    split at h
    · rename_i es clk vv kd hg hkd
      split at h
      · rename_i hc
        simp only [Bool.and_eq_true] at hc
        have hkk := (hk.flat_eq hc.2).symm; subst hkk
        obtain ⟨L, hL, es', hh, hrel⟩ := hR.blk r _ _ hg
        cases hm with
        | flat hf => simp [flatV] at hf
        | map hL' =>
          rw [hL] at hL'; cases hL'
          have hnc : ∀ c t f, Obj.map es' clk ≠ .cells c t f := fun _ _ _ e => by cases e
          have pre : ∀ r0 w', Instr.findNow kd k es'.toList 0 = some r0 → (match r0 with
              | some (i, _) => (setObj L.b (.map (es'.eraseIdxIfInBounds i) clk) : Sem Unit)
              | none => setObj L.b (.map es' clk)).run P w = .ok () w' → (Builtin.delete_ #[t, tk] ty #[.map (some L.b), k]).run P w = .ok (.tuple #[]) w' := fun r0 w' hr0 hrun => by
            show ((underlying t) >>= _).run P w = _
            rw [Sem.run_bind, run_underlying hd, Result.andThen_ok]
            dsimp only
            show ((getObj L.b) >>= _).run P w = _
            rw [Sem.run_bind, run_getObj hh hnc, Result.andThen_ok]
            dsimp only
            rw [Sem.run_bind]
            show Result.andThen ((Instr.checkKey es'.isEmpty 10000 key k).run P w) _ = _
            rw [run_checkKey hkd hc.1, Result.andThen_ok]
            rw [Sem.run_bind]
            show Result.andThen ((Instr.findKey key k es'.toList).run P w) _ = _
            rw [run_findKey hkd hr0, Result.andThen_ok]
            rcases r0 with _ | ⟨i, u⟩
            · dsimp only at hrun ⊢
              rw [Sem.run_bind, hrun, Result.andThen_ok]; rfl
            · dsimp only at hrun ⊢
              rw [Sem.run_bind, hrun, Result.andThen_ok]; rfl
          split at h
          · rename_i i u hf
            cases h
            obtain ⟨u', e1, e2⟩ := (findNow_rel 0 _ hrel hf).2 i u rfl
            obtain ⟨w', r1, r2, r3⟩ := run_setObj (P := P) (o' := .map (es'.eraseIdxIfInBounds i) clk) hh hnc
            obtain ⟨a, b⟩ := hR.write (ab' := .map (es.eraseIdx i) clk) hg rfl rfl rfl hL ⟨_, r2, by rw [Array.toList_eraseIdxIfInBounds]; exact hrel.erase i⟩ r3
            exact ⟨w', pre _ w' e1 r1, a, b⟩
          · rename_i hf
            cases h
            have e1 := (findNow_rel 0 _ hrel hf).1 rfl
            obtain ⟨w', r1, r2, r3⟩ := run_setObj (P := P) (o' := .map es' clk) hh hnc
            obtain ⟨a, b⟩ := hR.write (ab' := .map es clk) hg rfl rfl rfl hL ⟨_, r2, hrel⟩ r3
            exact ⟨w', pre _ w' e1 r1, a, b⟩
          · cases h
      · cases h
    · cases h
  · cases h
/-! ### Iterators of strings -/
def rangeE (P : Program) (G : Nat) (st : St) (t : TypeId) (x : Value) : Option (Value × St) :=
  match P.underlying t, x with
  | some .string, .string s => (match newE G st (.iter s 0) with
    | some (i, st') => some (.pointer (some ⟨i, 0, none⟩), st')
    | none => none)
  | _, _ => none
theorem rangeE_sound (hR : RR P G M st w) {t : TypeId} {x x' v : Value} {st' : St} (h : rangeE P G st t x = some (v, st')) (hx : VR M x x') : Snd P G M st w (Instr.range t x') v st' := by
  unfold rangeE at h
  split at h
  · rename_i s hd
    have := hx.string; subst this
    split at h
    · rename_i i st1 hn
      cases h
      obtain ⟨M', h1, h2, h3⟩ := newE_sound hR hn (o := .stringIter s 0) (L := ⟨w.heap.size, 0, 0, 0, false⟩) rfl rfl (fun M' he hM => ⟨rfl, alloc_at w _⟩)
      refine ⟨M', .pointer (some ⟨w.heap.size, 0, none⟩), _, ?_, h2, h3, ?_⟩
      · unfold Instr.range
        rw [Sem.run_bind, run_underlying hd, Result.andThen_ok]
        rfl
      · exact VR.ptr (off := 0) h1
    · cases h
  · cases h
def nextE (st : St) (it : Value) : Option (Value × St) :=
  match it with
  | .pointer (some ⟨i, 0, none⟩) => match st.h.get i with
    | some (.iter s pos, _) => if Nat.blt pos s.data.toList.length then
        some (.tuple #[.bool true, .int .i64 pos, .int .i32 (Utf8.decode s pos).1], st.put i (.iter s (pos + (Utf8.decode s pos).2)))
      else some (.tuple #[.bool false], st)
    | _ => none
  | _ => none
theorem nextE_sound (hR : RR P G M st w) {it it' v : Value} {ty : TypeId} {st' : St} (h : nextE st it = some (v, st')) (hi : VR M it it') : Snd P G M st w (Instr.next it' true ty) v st' := by
  unfold nextE at h
  split at h
  · rename_i i
    split at h
    · rename_i s pos vv hg
      obtain ⟨L, hL, hb⟩ := hR.blk i _ _ hg
      cases hi with
      | flat hf => simp [flatV] at hf
      | ptr hL' =>
        rename_i L'
        rw [hL] at hL'; cases hL'
        obtain ⟨hLo, hh⟩ := hb
        have hnc : ∀ c t f, Obj.stringIter s pos ≠ .cells c t f := fun _ _ _ e => by cases e
        have hsz : s.data.toList.length = s.size := by simp
        rw [hsz] at h
        have e0 : (⟨L.b, L.o + 0, none⟩ : Addr) = ⟨L.b, 0, none⟩ := by rw [hLo]
        rw [e0]
        split at h
        · rename_i hlt
          rw [Nat.blt_eq] at hlt
          cases h
          obtain ⟨w', r1, r2, r3⟩ := run_setObj (P := P) (o' := .stringIter s (pos + (Utf8.decode s pos).2)) hh hnc
          obtain ⟨a, b⟩ := hR.write (ab' := .iter s (pos + (Utf8.decode s pos).2)) hg rfl rfl rfl hL ⟨hLo, r2⟩ r3
          refine ⟨M, _, w', ?_, a, b, .tup (.cons (.flat rfl) (.cons (.flat rfl) (.cons (.flat rfl) .nil)))⟩
          show ((getObj L.b) >>= _).run P w = _
          rw [Sem.run_bind, run_getObj hh hnc, Result.andThen_ok]
          dsimp only
          rw [if_pos hlt]
          show ((setObj L.b _) >>= _).run P w = _
          rw [Sem.run_bind]
          have r1' : (setObj L.b (.stringIter s (pos + (Utf8.decode s pos).2))).run P w = .ok () w' := r1
          show Result.andThen ((setObj L.b (.stringIter s (pos + (Utf8.decode s pos).2))).run P w) _ = _
          rw [r1', Result.andThen_ok]
          rfl
        · rename_i hlt
          rw [Nat.blt_eq] at hlt
          cases h
          refine ⟨M, _, w, ?_, hR, .refl _ _ _, .tup (.cons (.flat rfl) .nil)⟩
          show ((getObj L.b) >>= _).run P w = _
          rw [Sem.run_bind, run_getObj hh hnc, Result.andThen_ok]
          dsimp only
          rw [if_neg hlt]
          rfl
    · cases h
  · cases h
end
end Go.Wx
end PEv17
/- The evaluator: copies, bytes of a string, a string of bytes. -/
noncomputable section PEv18
set_option linter.unusedVariables false
set_option linter.unusedSimpArgs false
namespace Go.Wx
open Go.RowKit
section
variable {P : Program} {M : Mp} {G : Nat} {st : St} {w w' : World}
/-- Cells written at a slice's beginning. -/
def wrE (st : St) (i off : Nat) (vs : List Value) : Option St :=
  match vs with
  | [] => some st
  | v :: l => match st.h.get i with
    | some (.cells c bt opn false false par, _) => if Nat.ble (off + (v :: l).length) c.length && (v :: l).all atomV then some ((st.killPar par).put i (.cells (splc c (v :: l) off) bt opn false false none)) else none
    | _ => none
theorem wrE_sound (hR : RR P G M st w) {i off : Nat} {vs vs' : List Value} {st' : St} (h : wrE st i off vs = some st') (hv : VRs M vs vs') {L : Loc} (hL : M i = some L) :
    ∃ w', (storeCells ⟨L.b, L.o + off, none⟩ vs').run P w = .ok () w' ∧ RR P G M st' w' ∧ Stp M st w M st' w' := by
  unfold wrE at h
  split at h
  · cases h
    cases hv
    exact ⟨w, rfl, hR, .refl _ _ _⟩
  · rename_i v l
    split at h
    · rename_i c bt opn par vv hg
      split at h
      · rename_i hc
        simp only [Bool.and_eq_true, Nat.ble_eq] at hc
        cases h
        obtain ⟨L', hL', hb⟩ := hR.blk i _ _ hg
        rw [hL] at hL'; cases hL'
        obtain ⟨w', r, u, hC⟩ := cells_store hb hv hc.2 hc.1
        obtain ⟨a, b⟩ := hR.write (ab' := .cells (splc c (v :: l) off) bt opn false false none) hg rfl rfl rfl hL hC u
        exact ⟨w', r, a, b⟩
      · cases h
    · cases h
/-- The first cells of a slice or a string. -/
def headE (P : Program) (st : St) (size : Nat) (x : Value) (n : Nat) : Option (List Value) :=
  match x with
  | .slice none 0 0 => if Nat.beq n 0 then some [] else none
  | .slice (some ⟨i, off, none⟩) _ _ => match cellsOf st i with
    | some c => if Nat.ble (off + n * size) c.length then some ((c.drop off).take (n * size)) else none
    | none => none
  | .string s => some ((s.data.toList.take n).map fun b => .int .u8 b.toNat)
  | _ => none
theorem headE_sound (hR : RR P G M st w) {size n : Nat} {x x' : Value} {vs : List Value} (h : headE P st size x n = some vs) (hx : VR M x x') :
    ∃ vs', (Builtin.firstCells size n x').run P w = .ok vs'.toArray w ∧ VRs M vs vs' := by
  unfold headE at h
  split at h
  · split at h
    · cases h
      have := hx.flat_eq rfl; subst this
      exact ⟨[], run_firstCells_none _ _ _ _ _, .nil⟩
    · cases h
  · rename_i i off len cp
    split at h
    · rename_i c hc
      split at h
      · rename_i hle
        rw [Nat.ble_eq] at hle
        cases h
        cases hx with
        | flat hf => simp [flatV] at hf
        | slice hL h1 h2 h3 h4 =>
          rename_i cap' L
          obtain ⟨L', bt, opn, ro, hL', hC⟩ := cellsOf_sound hR hc
          rw [hL] at hL'; cases hL'
          obtain ⟨l', e1, e2, e3⟩ := cells_range hC hle
          exact ⟨l', run_firstCells_some w size n _ len cap' l' e1 (fun j u hj => by rw [Addr.add_spot]; exact e3 w rfl j u hj), e2⟩
      · cases h
    · cases h
  · rename_i s
    cases h
    have := hx.string; subst this
    refine ⟨_, ?_, VRs.of_all (p := flatV) (fun v hv => .flat hv) _ (by rw [List.all_map]; exact List.all_eq_true.2 (fun _ _ => rfl))⟩
    show Result.ok ((s.extract 0 n).data.map fun b => Value.int .u8 b.toNat) w = _
    congr 1
    apply Array.ext'
    rw [Array.toList_map, extract_take]
    rfl
  · cases h
def lenV : Value → Option Nat
  | .slice _ n _ => some n
  | .string s => some s.data.toList.length
  | _ => none
theorem lenV_sound {x x' : Value} {n : Nat} (h : lenV x = some n) (hx : VR M x x') (w : World) : (Builtin.lenOf x').run P w = .ok n w := by
  unfold lenV at h
  split at h
  · cases h
    cases hx <;> rfl
  · cases h
    have := hx.string; subst this
    rename_i s
    show Result.ok s.size w = _
    simp
  · cases h
def copyE (P : Program) (st : St) (t : TypeId) (d x : Value) : Option (Value × St) :=
  match P.underlying t, d, lenV x with
  | some (.slice elem), .slice none 0 0, some n => (match P.underlying elem with
    | some _ => (match headE P st (P.cellsOf elem) x 0 with
      | some _ => some (.int .i64 0, st)
      | none => none)
    | none => none)
  | some (.slice elem), .slice (some ⟨i, off, none⟩) len _, some n => (match P.underlying elem with
    | some _ => (match headE P st (P.cellsOf elem) x (min n len) with
      | some vs => (match wrE st i off vs with
        | some st' => some (.int .i64 (min n len : Nat), st')
        | none => none)
      | none => none)
    | none => none)
  | _, _, _ => none
theorem copyE_sound (hR : RR P G M st w) {t tx ty : TypeId} {d d' x x' v : Value} {st' : St} (h : copyE P st t d x = some (v, st')) (hd : VR M d d') (hx : VR M x x') : Snd P G M st w (Builtin.copy_ #[t, tx] ty #[d', x']) v st' := by
  have pre : ∀ elem de A len cap n vs w', P.underlying t = some (.slice elem) → P.underlying elem = some de → d' = .slice A len cap → lenV x = some n → (Builtin.firstCells (P.cellsOf elem) (Nat.min n len) x').run P w = .ok vs w →
      (match A with | some a => storeCells a vs.toList | none => pure () : Sem Unit).run P w = .ok () w' → (Builtin.copy_ #[t, tx] ty #[d', x']).run P w = .ok (goInt (Nat.min n len : Nat)) w' := by
    intro elem de A len cap n vs w' h1 h1e h2 h3 h4 h5
    subst h2
    show ((underlying t) >>= _).run P w = _
    rw [Sem.run_bind, run_underlying h1, Result.andThen_ok]
    dsimp only
    show ((Builtin.lenOf x') >>= _).run P w = _
    rw [Sem.run_bind, lenV_sound h3 hx, Result.andThen_ok]
    rw [Sem.run_bind, run_sizeOf_u h1e, Result.andThen_ok]
    rw [Sem.run_bind]
    show Result.andThen ((Builtin.firstCells (P.cellsOf elem) (Nat.min n len) x').run P w) _ = _
    rw [h4, Result.andThen_ok]
    cases A with
    | none => dsimp only at h5 ⊢; cases h5; rfl
    | some a => dsimp only at h5 ⊢; rw [Sem.run_bind, h5, Result.andThen_ok]; rfl
  unfold copyE at h
  split at h
  · rename_i elem n ht hn
    split at h
    · rename_i de hde
      split at h
      · rename_i vs hh
        cases h
        have e := hd.flat_eq rfl; subst e
        obtain ⟨vs', r, rv⟩ := headE_sound hR hh hx
        refine ⟨M, _, w, pre elem de none 0 0 n _ w ht hde rfl hn (by rw [show Nat.min n 0 = 0 from Nat.min_zero n]; exact r) rfl, hR, .refl _ _ _, ?_⟩
        rw [show Nat.min n 0 = 0 from Nat.min_zero n]
        exact .flat rfl
      · cases h
    · cases h
  · rename_i elem i off len cp n ht hn
    split at h
    · rename_i de hde
      split at h
      · rename_i vs hh
        split at h
        · rename_i st1 hw
          cases h
          cases hd with
          | flat hf => simp [flatV] at hf
          | slice hL h1 h2 h3 h4 =>
            rename_i cap' L
            obtain ⟨vs', r, rv⟩ := headE_sound hR hh hx
            obtain ⟨w', r2, a, b⟩ := wrE_sound hR hw rv hL
            exact ⟨M, _, w', pre elem de _ len cap' n _ w' ht hde rfl hn r r2, a, b, .flat rfl⟩
        · cases h
      · cases h
    · cases h
  · cases h
end
end Go.Wx
end PEv18
/- The evaluator: clear on slices. -/
noncomputable section PEv18b
set_option linter.unusedVariables false
set_option linter.unusedSimpArgs false
namespace Go.Wx
open Go.RowKit
section
variable {P : Program} {M : Mp} {G : Nat} {st : St} {w w' : World}
def clearE (P : Program) (st : St) (t : TypeId) (x : Value) : Option (Value × St) :=
  match P.underlying t, x with
  | some (.slice _), .slice _ 0 _ => some (.tuple #[], st)
  | some (.slice elem), .slice (some ⟨i, off, none⟩) (n + 1) _ => (match zeroE P elem with
    | some z => (match wrE st i off (reps (n + 1) (vcells z)) with
      | some st' => some (.tuple #[], st')
      | none => none)
    | none => none)
  | _, _ => none
theorem clearE_sound (hR : RR P G M st w) {t ty : TypeId} {x x' v : Value} {st' : St} (h : clearE P st t x = some (v, st')) (hx : VR M x x') :
    Snd P G M st w (Builtin.clear_ #[t] ty #[x']) v st' := by
  unfold clearE at h
  split at h
  · rename_i el A cap hd
    cases h
    obtain ⟨A', c', e⟩ : ∃ A' c', x' = .slice A' 0 c' := by cases hx <;> exact ⟨_, _, rfl⟩
    subst e
    refine ⟨M, .tuple #[], w, ?_, hR, .refl _ _ _, .tup .nil⟩
    unfold Builtin.clear_
    simp only [List.getElem?_toArray, List.getElem?_cons_zero]
    rw [Sem.run_bind, run_underlying hd, Result.andThen_ok]
    cases A' <;> rfl
  · rename_i elem i off n cap hd
    split at h
    · rename_i z hz
      split at h
      · rename_i st1 hw
        cases h
        obtain ⟨z1, z2⟩ := zeroE_sound (M := M) hz
        cases hx with
        | flat hf => simp [flatV] at hf
        | slice hL h1 h2 h3 h4 =>
          rename_i cap' L
          have hzc := (z1.cells).reps (n + 1)
          obtain ⟨w', r, a, b⟩ := wrE_sound hR hw hzc hL
          refine ⟨M, .tuple #[], w', ?_, a, b, .tup .nil⟩
          unfold Builtin.clear_
          simp only [List.getElem?_toArray, List.getElem?_cons_zero]
          rw [Sem.run_bind, run_underlying hd, Result.andThen_ok]
          show Sem.run P (do
            let z ← zeroValue elem
            storeCells ⟨L.b, L.o + off, none⟩ (Builtin.zeroCells z.cells (n + 1)).toList
            pure (.tuple #[]) : Sem Value) w = _
          rw [Sem.run_bind, z2, Result.andThen_ok]
          have hzz : (Builtin.zeroCells z.cells (n + 1)).toList = reps (n + 1) z.cells.toList := zeros_reps (n + 1) z.cells
          rw [Sem.run_bind, hzz, r]
          rfl
      · cases h
    · cases h
  · cases h
end
end Go.Wx
end PEv18b
/- The evaluator: bytes of a string, a string of bytes. -/
noncomputable section PEv19
set_option linter.unusedVariables false
set_option linter.unusedSimpArgs false
namespace Go.Wx
open Go.RowKit
section
variable {P : Program} {M : Mp} {G : Nat} {st : St} {w w' : World}
theorem push_modify {α : Type} (a : Array α) (x : α) (f : α → α) : (a.push x).modify a.size f = a.push (f x) := by
  apply Array.ext'
  rw [Array.toList_modify, Array.toList_push, Array.toList_push]
  rw [← Array.length_toList, List.modify_eq_take_cons_drop] <;> simp
def s2bE (P : Program) (G : Nat) (st : St) (src dst : TypeId) (x : Value) : Option (Value × St) :=
  match P.underlying src, P.underlying dst, x with
  | some .string, some (.slice e), .string s => (match P.underlying e with
    | some (.int .u8) => if Nat.beq (P.cellsOf e) 1 && Nat.ble s.data.toList.length 1000000 then (match newE G st (.cells (s.data.toList.map fun b => .int .u8 b.toNat) e true false false none) with
      | some (i, st') => some (.slice (some ⟨i, 0, none⟩) s.data.toList.length s.data.toList.length, st')
      | none => none) else none
    | _ => none)
  | _, _, _ => none
theorem s2bE_sound (hR : RR P G M st w) {src dst : TypeId} {x x' v : Value} {st' : St} (h : s2bE P G st src dst x = some (v, st')) (hx : VR M x x') : Snd P G M st w (convert src dst x') v st' := by
  unfold s2bE at h
  split at h
  · rename_i e s hs hd
    have := hx.string; subst this
    split at h
    · rename_i he
      split at h
      · rename_i hc
        simp only [Bool.and_eq_true, Nat.beq_eq, Nat.ble_eq] at hc
        split at h
        · rename_i i st1 hn
          cases h
          have hsz : s.data.toList.length = s.size := by simp
          have hge := grownCap_ge w s.size 0 e
          generalize hgc : grownCap w s.size 0 e = gc at hge
          let C : Array Value := (s.data.map fun b => Value.int .u8 b.toNat) ++ Array.replicate (gc - s.size) (.int .u8 0)
          have hCs : C.size = gc := by
            show ((s.data.map fun (b : UInt8) => Value.int .u8 b.toNat) ++ Array.replicate (gc - s.size) (Value.int .u8 0)).size = gc
            rw [Array.size_append, Array.size_map, Array.size_replicate]
            have : s.data.size = s.size := rfl
            omega
          obtain ⟨M', h1, h2, h3⟩ := newE_sound hR.drew hn (o := .cells C e (gc, gc + 1)) (L := ⟨w.heap.size, 0, gc, P.cellsOf e, true⟩) rfl rfl (fun M' hext hM => by
            refine ⟨rfl, C, (gc, gc + 1), alloc_at w.drew _, by rw [hCs]; simp, by simp; omega, fun e => (by cases e), fun _ => rfl, fun _ j g1 g2 => by simp at g2 ⊢; omega, fun j v hj => ?_⟩
            rw [List.getElem?_map] at hj
            cases hb : s.data.toList[j]? with
            | none => rw [hb] at hj; cases hj
            | some b =>
              rw [hb] at hj
              cases hj
              refine ⟨_, ?_, .flat rfl⟩
              have hlt : j < s.data.toList.length := (List.getElem?_eq_some_iff.1 hb).1
              rw [Array.length_toList] at hlt
              rw [Nat.zero_add]
              show ((s.data.map fun (b : UInt8) => Value.int .u8 b.toNat) ++ Array.replicate (gc - s.size) (Value.int .u8 0))[j]? = _
              rw [Array.getElem?_append_left (by simpa using hlt), Array.getElem?_map, ← Array.getElem?_toList, hb]
              rfl)
          refine ⟨M', .slice (some ⟨w.heap.size, 0, none⟩) s.size gc, _, ?_, h2, (Stp.drew M st w).trans h3, ?_⟩
          · unfold convert
            rw [Sem.run_bind, run_underlying hs, Result.andThen_ok, Sem.run_bind, run_underlying hd, Result.andThen_ok]
            dsimp only
            rw [Sem.run_bind, run_underlying he, Result.andThen_ok]
            dsimp only
            unfold Conv.stringToBytes
            have hch : (choose (.appendCap s.size 0 e)).run P w = .ok gc w.drew := by
              rw [run_choose_drew]
              simp only [Question.forced, Bool.false_eq_true, if_false]
              rw [← hgc]; rfl
            rw [Sem.run_bind, hch, Result.andThen_ok]
            dsimp only
            rw [Sem.run_bind]
            show Result.andThen (Result.ok (⟨w.drew.heap.size, 0, none⟩ : Addr) (w.drew.alloc (.cells C e))) _ = _
            rw [Result.andThen_ok, Sem.run_bind]
            have hmk : (markStringish ⟨w.drew.heap.size, 0, none⟩).run P (w.drew.alloc (.cells C e)) = .ok () (w.drew.alloc (.cells C e (gc, gc + 1))) := by
              unfold markStringish
              have hshape : (shape w.drew.heap.size).run P (w.drew.alloc (.cells C e)) = .ok (some (e, gc)) (w.drew.alloc (.cells C e)) := by
                show Result.ok ((w.drew.alloc (.cells C e)).shape? w.drew.heap.size) _ = _
                unfold World.shape?
                rw [alloc_at]
                dsimp only
                rw [hCs]
              rw [Sem.run_bind, hshape, Result.andThen_ok]
              dsimp only
              show Result.ok () ((w.drew.alloc (.cells C e)).freeze ⟨w.drew.heap.size, gc, none⟩ 1) = _
              congr 1
              unfold World.freeze
              rw [if_neg (by omega)]
              show World.mk ((w.drew.heap.push (.cells C e)).modify w.drew.heap.size _) _ _ _ _ = World.mk (w.drew.heap.push (.cells C e (gc, gc + 1))) _ _ _ _
              rw [push_modify]
              rfl
            rw [hmk, Result.andThen_ok]
            rfl
          · rw [hsz]
            exact VR.slice (L := ⟨w.heap.size, 0, gc, P.cellsOf e, true⟩) (off := 0) h1 (Nat.le_refl _) hge (fun e => by cases e) (fun _ => by show 0 + gc * P.cellsOf e ≤ gc; rw [hc.1]; omega)
        · cases h
      · cases h
    · cases h
  · cases h
end
end Go.Wx
end PEv19
/- The evaluator: unsafe.String; all heavy operations but calls. -/
noncomputable section PEv20
set_option linter.unusedVariables false
set_option linter.unusedSimpArgs false
namespace Go.Wx
open Go.RowKit
section
variable {P : Program} {M : Mp} {G : Nat} {st : St} {w w' : World}
theorem run_loadBytes {b : Nat} : ∀ (l : List Value) (r : List UInt8) (o : Nat) (acc : ByteArray), bytesO l = some r → (∀ (k : Nat) (v : Value), l[k]? = some v → w.cell? ⟨b, o + k, none⟩ = some v) →
    (loadBytes ⟨b, o, none⟩ acc l.length).run P w = .ok ⟨⟨acc.data.toList ++ r⟩⟩ w
  | [], r, o, acc, h, hc => by
    simp only [bytesO, Option.some.injEq] at h; subst h
    show Result.ok acc w = _
    simp
  | v :: l, r, o, acc, h, hc => by
    unfold bytesO at h
    split at h
    · rename_i x r' h1 h2
      cases h
      cases v <;> simp [byteO] at h1
      rename_i k n
      cases k <;> simp at h1
      have h0 := hc 0 _ rfl
      rw [Nat.add_zero] at h0
      rw [List.length_cons]
      unfold loadBytes
      have hl : (load ⟨b, o, none⟩).run P w = .ok (.int .u8 n) w := by
        show (Sem.load .plain _ .pure).run P w = _
        simp only [Sem.run, h0]
      rw [Sem.run_bind, hl, Result.andThen_ok]
      dsimp only
      rw [Addr.add_spot, run_loadBytes l r' (o + 1) _ h2 (fun k v e => by
        have := hc (k + 1) v (by simpa using e)
        rw [show o + 1 + k = o + (k + 1) from by omega]; exact this)]
      subst h1
      simp [ByteArray.push]
    · cases h
theorem depth_succ (P : Program) : ∃ d, P.depth = d + 1 := ⟨2 * (P.types.size + Made.depth) + 1, rfl⟩
theorem run_variablesAt {b o n : Nat} {e : TypeId} {C : Array Value} {fz : Nat × Nat} (h : w.heap[b]? = some (.cells C e fz)) (he : P.cellsOf e = 1) (hn : o + n ≤ C.size) : (variablesAt ⟨b, o, none⟩ e n).run P w = .ok true w := by
  obtain ⟨d, hd⟩ := depth_succ P
  unfold variablesAt
  have hp : (program).run P w = .ok P w := rfl
  rw [Sem.run_bind, hp, Result.andThen_ok, Sem.run_bind]
  have hs : (shape b).run P w = .ok (some (e, C.size)) w := by
    show Result.ok (w.shape? b) w = _
    unfold World.shape?
    rw [h]
  rw [hs, Result.andThen_ok]
  dsimp only
  show Result.ok (liesAt P P.depth e (C.size / P.cellsOf e) o e n) w = _
  congr 1
  have hsl : sameLayout P P.depth e e = true := by rw [hd]; unfold sameLayout; simp
  have hrow : rowAt P (sameLayout P P.depth · e) P.depth e (C.size / P.cellsOf e) o n = true := by
    conv => lhs; arg 3; rw [hd]
    unfold rowAt
    simp only [he, Nat.div_one, Nat.mod_one]
    simp [hsl, hn]
  conv => lhs; arg 2; rw [hd]
  unfold liesAt
  rw [hrow]
  rfl
theorem freeze_upd {b o n : Nat} {C : Array Value} {e : TypeId} {fz : Nat × Nat} (h : w.heap[b]? = some (.cells C e fz)) (hn : n ≠ 0) :
    ∃ fz', (w.freeze ⟨b, o, none⟩ n).heap[b]? = some (.cells C e fz') ∧ Upd w (w.freeze ⟨b, o, none⟩ n) b := by
  obtain ⟨lo, hi⟩ := fz
  refine ⟨if lo == hi then (o, o + n) else (min lo o, max hi (o + n)), ?_, ⟨fun b' hb => ?_, ?_, ?_, ?_, ?_⟩⟩
  · unfold World.freeze
    rw [if_neg hn]
    simp only [Array.getElem?_modify, h, if_true]
    rfl
  · unfold World.freeze
    rw [if_neg hn]
    simp only [Array.getElem?_modify]
    rw [if_neg (Ne.symm hb)]
  · unfold World.freeze
    rw [if_neg hn]
    simp
  all_goals
    unfold World.freeze
    rw [if_neg hn]
def unsafeStringE (P : Program) (st : St) (pt : TypeId) (p n : Value) : Option (Value × St) :=
  match P.underlying pt, p, n with
  | some (.pointer el), .pointer (some ⟨i, off, none⟩), .int _ n => (match st.h.get i, P.underlying el with
    | some (.cells c bt opn false ro par, _), some _ =>
      if Nat.beq el bt && Nat.beq (P.cellsOf el) 1 && decide (0 < n) && decide (n ≤ 1000000) && Nat.ble (off + n.toNat) c.length then
        (match bytesO ((c.drop off).take n.toNat) with
        | some l => some (.string ⟨⟨l⟩⟩, (st.killPar par).put i (.cells c bt opn false true none))
        | none => none) else none
    | _, _ => none)
  | _, _, _ => none
theorem unsafeStringE_sound (hR : RR P G M st w) {pt tn ty : TypeId} {p p' n n' v : Value} {st' : St} (h : unsafeStringE P st pt p n = some (v, st')) (hp : VR M p p') (hn : VR M n n') : Snd P G M st w (Builtin.unsafeString_ #[pt, tn] ty #[p', n']) v st' := by
  unfold unsafeStringE at h
  split at h
  · rename_i el i off k n hpt
    have := hn.int; subst this
    split at h
    · rename_i c bt opn ro par vv d hg hel
      split at h
      · rename_i hc
        simp only [Bool.and_eq_true, Nat.beq_eq, Nat.ble_eq, decide_eq_true_eq] at hc
        obtain ⟨⟨⟨⟨hb, h1⟩, h0⟩, hbig⟩, hle⟩ := hc
        subst hb
        split at h
        · rename_i l hl
          cases h
          obtain ⟨L, hL, hC⟩ := hR.blk i _ _ hg
          have hC' := hC
          cases hp with
          | flat hf => simp [flatV] at hf
          | ptr hL' =>
            rename_i L'
            rw [hL] at hL'; cases hL'
            obtain ⟨l', e1, e2, e3⟩ := cells_range hC hle
            obtain ⟨q0, C, fz, hh, hs, hcl, hex, hsz, hfz, hrel⟩ := hC'
            have hl' := bytesO_rel hl e2
            have hlb := run_loadBytes (P := P) (w := w) (b := L.b) l' l (L.o + off) .empty (by rw [hl']; exact hl) (e3 w rfl)
            rw [e1] at hlb
            have hlt : L.b < w.heap.size := (hR.dom i L hL).2
            obtain ⟨fz', g1, g2⟩ := freeze_upd (w := w) (o := L.o + off) (n := n.toNat) hh (by omega)
            obtain ⟨a, b⟩ := hR.write (w' := w.freeze ⟨L.b, L.o + off, none⟩ n.toNat) (ab' := .cells c el opn false true none) hg rfl rfl rfl hL ⟨q0, C, fz', g1, hs, hcl, hex, hsz, fun e => (by cases e), hrel⟩ g2
            refine ⟨M, _, w.freeze ⟨L.b, L.o + off, none⟩ n.toNat, ?_, a, b, .flat rfl⟩
            show (Builtin.unsafeString_ #[pt, tn] ty #[.pointer (some ⟨L.b, L.o + off, none⟩), .int k n]).run P w = _
            have hi64 : IntKind.i64.max = 9223372036854775807 := by decide
            have helem : (elemOf pt).run P w = .ok el w := by
              unfold elemOf
              rw [Sem.run_bind, run_underlying hpt, Result.andThen_ok]
              rfl
            have hvar := run_variablesAt (P := P) (w := w) (n := n.toNat) hh h1 (o := L.o + off) (by omega)
            show ((asInt (.int k n)) >>= _).run P w = _
            rw [Sem.run_bind]
            show Result.andThen (Result.ok n w) _ = _
            rw [Result.andThen_ok]
            dsimp only
            have c1 : ¬ n < 0 := by omega
            have c2 : ¬ n > IntKind.i64.max := by rw [hi64]; omega
            have c3 : ¬ n = 0 := by omega
            show Sem.run P (if n < 0 then _ else _) w = _
            rw [if_neg c1, if_neg c2, if_neg c3, Sem.run_bind]
            show Result.andThen ((elemOf pt).run P w) _ = _
            rw [helem, Result.andThen_ok, Sem.run_bind, hvar, Result.andThen_ok]
            rw [if_pos rfl, Sem.run_bind, hlb, Result.andThen_ok, Sem.run_bind]
            show Result.andThen (Result.ok () (w.freeze ⟨L.b, L.o + off, none⟩ n.toNat)) _ = _
            rw [Result.andThen_ok]
            rfl
        · cases h
      · cases h
    · cases h
  · cases h
theorem freeze_updB {b o n k : Nat} {C : Array Value} {e : TypeId} {fz : Nat × Nat} (h : w.heap[b]? = some (.cells C e fz)) (hn : n ≠ 0) (hk : fz.1 = fz.2 ∨ fz.2 ≤ k) :
    ∃ fz', (w.freeze ⟨b, o, none⟩ n).heap[b]? = some (.cells C e fz') ∧ Upd w (w.freeze ⟨b, o, none⟩ n) b ∧ fz'.2 ≤ max k (o + n) := by
  obtain ⟨lo, hi⟩ := fz
  obtain ⟨_, _, u⟩ := freeze_upd (w := w) (o := o) h hn
  refine ⟨if lo == hi then (o, o + n) else (min lo o, max hi (o + n)), ?_, u, ?_⟩
  · unfold World.freeze
    rw [if_neg hn]
    simp only [Array.getElem?_modify, h, if_true]
    rfl
  · dsimp only at hk
    split
    · dsimp only; omega
    · rename_i hlh
      have hne : lo ≠ hi := by simpa using hlh
      dsimp only
      omega
def unsafeStrB (P : Program) (st : St) (pt : TypeId) (p n : Value) : Option (Value × St) :=
  match P.underlying pt, p, n with
  | some (.pointer el), .pointer (some ⟨i, off, none⟩), .int _ n => (match st.h.get i, P.underlying el with
    | some (.bld c bt kk, _), some _ =>
      if Nat.beq el bt && Nat.beq (P.cellsOf el) 1 && decide (0 < n) && decide (n ≤ 1000000) && Nat.ble (off + n.toNat) c.length then
        (match bytesO ((c.drop off).take n.toNat) with
        | some l => some (.string ⟨⟨l⟩⟩, (st.killPar none).put i (.bld c bt (max kk (off + n.toNat))))
        | none => none) else none
    | _, _ => none)
  | _, _, _ => none
def unsafeStr0 (st : St) (p n : Value) : Option (Value × St) :=
  match p, n with
  | .pointer none, .int _ (.ofNat 0) => some (.string ⟨⟨[]⟩⟩, st)
  | .pointer (some ⟨_, _, none⟩), .int _ (.ofNat 0) => some (.string ⟨⟨[]⟩⟩, st)
  | _, _ => none
theorem unsafeStr0_sound (hR : RR P G M st w) {pt tn ty : TypeId} {p p' n n' v : Value} {st' : St} (h : unsafeStr0 st p n = some (v, st')) (hp : VR M p p') (hn : VR M n n') : Snd P G M st w (Builtin.unsafeString_ #[pt, tn] ty #[p', n']) v st' := by
  unfold unsafeStr0 at h
  split at h
  · cases h
    have := hn.int; subst this
    cases hp with
    | flat hf => exact ⟨M, _, w, rfl, hR, .refl _ _ _, .flat rfl⟩
  · cases h
    have := hn.int; subst this
    cases hp with
    | flat hf => simp [flatV] at hf
    | ptr hL => exact ⟨M, _, w, rfl, hR, .refl _ _ _, .flat rfl⟩
  · cases h
theorem unsafeStrB_sound (hR : RR P G M st w) {pt tn ty : TypeId} {p p' n n' v : Value} {st' : St} (h : unsafeStrB P st pt p n = some (v, st')) (hp : VR M p p') (hn : VR M n n') : Snd P G M st w (Builtin.unsafeString_ #[pt, tn] ty #[p', n']) v st' := by
  unfold unsafeStrB at h
  split at h
  · rename_i el i off k n hpt
    have := hn.int; subst this
    split at h
    · rename_i c bt kk vv d hg hel
      split at h
      · rename_i hc
        simp only [Bool.and_eq_true, Nat.beq_eq, Nat.ble_eq, decide_eq_true_eq] at hc
        obtain ⟨⟨⟨⟨hb, h1⟩, h0⟩, hbig⟩, hle⟩ := hc
        subst hb
        split at h
        · rename_i l hl
          cases h
          obtain ⟨L, hL, hC⟩ := hR.blk i _ _ hg
          have hC' := hC
          cases hp with
          | flat hf => simp [flatV] at hf
          | ptr hL' =>
            rename_i L'
            rw [hL] at hL'; cases hL'
            obtain ⟨l', e1, e2, e3⟩ := cells_range hC.1 hle
            obtain ⟨⟨q0, C, fz, hh, hs, hcl, hex, hsz, hfz, hrel⟩, hfk⟩ := hC'
            have hfk' := hfk C _ fz hh
            have hl' := bytesO_rel hl e2
            have hlb := run_loadBytes (P := P) (w := w) (b := L.b) l' l (L.o + off) .empty (by rw [hl']; exact hl) (e3 w rfl)
            rw [e1] at hlb
            have hlt : L.b < w.heap.size := (hR.dom i L hL).2
            obtain ⟨fz', g1, g2, g3⟩ := freeze_updB (w := w) (o := L.o + off) (n := n.toNat) hh (by omega) hfk'
            obtain ⟨a, b⟩ := hR.write (w' := w.freeze ⟨L.b, L.o + off, none⟩ n.toNat) (ab' := .bld c el (max kk (off + n.toNat))) hg rfl rfl rfl hL ⟨⟨q0, C, fz', g1, hs, hcl, hex, hsz, fun e => (by cases e), hrel⟩, fun C2 t2 fz2 h2 => by rw [g1] at h2; cases h2; exact .inr (by omega)⟩ g2
            refine ⟨M, _, w.freeze ⟨L.b, L.o + off, none⟩ n.toNat, ?_, a, b, .flat rfl⟩
            show (Builtin.unsafeString_ #[pt, tn] ty #[.pointer (some ⟨L.b, L.o + off, none⟩), .int k n]).run P w = _
            have hi64 : IntKind.i64.max = 9223372036854775807 := by decide
            have helem : (elemOf pt).run P w = .ok el w := by
              unfold elemOf
              rw [Sem.run_bind, run_underlying hpt, Result.andThen_ok]
              rfl
            have hvar := run_variablesAt (P := P) (w := w) (n := n.toNat) hh h1 (o := L.o + off) (by omega)
            show ((asInt (.int k n)) >>= _).run P w = _
            rw [Sem.run_bind]
            show Result.andThen (Result.ok n w) _ = _
            rw [Result.andThen_ok]
            dsimp only
            have c1 : ¬ n < 0 := by omega
            have c2 : ¬ n > IntKind.i64.max := by rw [hi64]; omega
            have c3 : ¬ n = 0 := by omega
            show Sem.run P (if n < 0 then _ else _) w = _
            rw [if_neg c1, if_neg c2, if_neg c3, Sem.run_bind]
            show Result.andThen ((elemOf pt).run P w) _ = _
            rw [helem, Result.andThen_ok, Sem.run_bind, hvar, Result.andThen_ok]
            rw [if_pos rfl, Sem.run_bind, hlb, Result.andThen_ok, Sem.run_bind]
            show Result.andThen (Result.ok () (w.freeze ⟨L.b, L.o + off, none⟩ n.toNat)) _ = _
            rw [Result.andThen_ok]
            rfl
        · cases h
      · cases h
    · cases h
  · cases h
/-! ### All heavy operations but calls of functions -/
def hvB (P : Program) (G : Nat) (st : St) (e : Operand → Option Value) (b : Builtin) (args : List Operand) (ats : List TypeId) : Option (Value × St) :=
  match b, args, ats with
  | .append, [s, x], [t, tx] => match e s, e x with
    | some a, some b => appendX P G st t tx a b
    | _, _ => none
  | .copy, [d, x], [t, _] => match e d, e x with
    | some a, some b => copyE P st t a b
    | _, _ => none
  | .clear, [x], [t] => match e x with
    | some a => clearE P st t a
    | none => none
  | .delete, [m, k], [t, _] => match e m, e k with
    | some a, some b => match deleteE P st t a b with
      | some st' => some (.tuple #[], st')
      | none => none
    | _, _ => none
  | .unsafeString, [p, n], [t, _] => match e p, e n with
    | some a, some b => (match unsafeStringE P st t a b with
      | some r => some r
      | none => (match unsafeStrB P st t a b with
        | some r => some r
        | none => unsafeStr0 st a b))
    | _, _ => none
  | _, _, _ => none
def hvOp (P : Program) (G : Nat) (st : St) (e : Operand → Option Value) (op : Op) : Option (Value × St) :=
  match op with
  | .alloc t => allocE P G st t
  | .box t x => match e x with
    | some a => varE G st t a
    | none => none
  | .buildSlice t n parts => match partsO e parts.toList with
    | some ps => buildSliceE P G st t n ps
    | none => none
  | .store t a x => match e a, e x with
    | some a, some v => match storeE P st t a v with
      | some st' => some (undef, st')
      | none => none
    | _, _ => none
  | .makeSlice t l c => match e l, e c with
    | some a, some b => makeSliceE P G st t a b
    | _, _ => none
  | .makeMap t r => match optO e r with
    | some r => makeMapE P G st t r
    | none => none
  | .mapUpdate t m k x => match e m, e k, e x with
    | some a, some b, some c => match mapUpdateE P st t a b c with
      | some st' => some (undef, st')
      | none => none
    | _, _, _ => none
  | .convert src dst x => match e x with
    | some a => s2bE P G st src dst a
    | none => none
  | .range t x => match e x with
    | some a => rangeE P G st t a
    | none => none
  | .next it true => match e it with
    | some a => nextE st a
    | none => none
  | .call ⟨.builtin b, args, ats⟩ => hvB P G st e b args.toList ats.toList
  | _ => none
/-- A heavy operation's soundness: it leaves a value (or nothing: undef). -/
def Hvy (P : Program) (G : Nat) (M : Mp) (st : St) (w : World) (s : Sem Next) (v : Value) (st' : St) : Prop :=
  ∃ M' v' w', (s.run P w = .ok (.value v') w' ∨ (v' = undef ∧ s.run P w = .ok .skip w')) ∧ RR P G M' st' w' ∧ Stp M st w M' st' w' ∧ VR M' v v'
theorem Snd.hvy {s : Sem Value} {v : Value} {st' : St} (h : Snd P G M st w s v st') : Hvy P G M st w (do pure (Next.value (← s))) v st' := by
  obtain ⟨M', v', w', r, a, b, c⟩ := h
  exact ⟨M', v', w', .inl (run_v r), a, b, c⟩
theorem run_u {s : Sem Unit} {w w' : World} (h : s.run P w = .ok () w') : (do s; pure Next.skip : Sem Next).run P w = .ok .skip w' := by
  rw [Sem.run_bind, h, Result.andThen_ok]; rfl
theorem hvB_sound (hR : RR P G M st w) {e : Operand → Option Value} {ρ : Operand → Value} (he : ∀ x v, e x = some v → VR M v (ρ x)) {b : Builtin} {args : Array Operand} {ats : Array TypeId} {t : TypeId} {v : Value} {st' : St}
    (h : hvB P G st e b args.toList ats.toList = some (v, st')) (cs : Array Bool) : Hvy P G M st w (builtin b ats t cs (args.map ρ)) v st' := by
  have two : ∀ x y, args.toList = [x, y] → args.map ρ = #[ρ x, ρ y] := fun x y ha => by
    rw [show args = #[x, y] from Array.toList_inj.1 ha]; simp
  unfold hvB at h
  split at h
  · rename_i s x ty tx ha hty
    split at h
    · rename_i a b hs hx
      rw [two _ _ ha, show ats = #[ty, tx] from Array.toList_inj.1 hty]
      exact (appendX_sound hR h (he _ _ hs) (he _ _ hx)).hvy
    · cases h
  · rename_i d x ty tx ha hty
    split at h
    · rename_i a b hs hx
      rw [two _ _ ha, show ats = #[ty, tx] from Array.toList_inj.1 hty]
      exact (copyE_sound hR h (he _ _ hs) (he _ _ hx)).hvy
    · cases h
  · rename_i x ty ha hty
    split at h
    · rename_i a hx
      rw [show args.map ρ = #[ρ x] from by rw [show args = #[x] from Array.toList_inj.1 ha]; simp, show ats = #[ty] from Array.toList_inj.1 hty]
      exact (clearE_sound hR h (he _ _ hx)).hvy
    · cases h
  · rename_i m k ty tx ha hty
    split at h
    · rename_i a b hs hx
      split at h
      · rename_i st1 hd
        cases h
        rw [two _ _ ha, show ats = #[ty, tx] from Array.toList_inj.1 hty]
        obtain ⟨w', r, b, c⟩ := deleteE_sound (tk := tx) (ty := t) hR hd (he _ _ hs) (he _ _ hx)
        exact ⟨M, _, w', .inl (run_v r), b, c, .tup .nil⟩
      · cases h
    · cases h
  · rename_i p n ty tx ha hty
    split at h
    · rename_i a b hs hx
      rw [two _ _ ha, show ats = #[ty, tx] from Array.toList_inj.1 hty]
      split at h
      · rename_i r hr
        cases h
        exact (unsafeStringE_sound hR hr (he _ _ hs) (he _ _ hx)).hvy
      · split at h
        · rename_i r hr
          cases h
          exact (unsafeStrB_sound hR hr (he _ _ hs) (he _ _ hx)).hvy
        · exact (unsafeStr0_sound hR h (he _ _ hs) (he _ _ hx)).hvy
    · cases h
  · cases h
theorem hvOp_sound (hR : RR P G M st w) {a : Act} {e : Operand → Option Value} (he : ∀ x v, e x = some v → VR M v (a.eval x)) {o : Oper} {v : Value} {st' : St} (h : hvOp P G st e o.op = some (v, st')) :
    Hvy P G M st w (execOp a.eval o) v st' := by
  obtain ⟨dst, op, ty, pos, after, guard⟩ := o
  dsimp only at h
  unfold hvOp at h
  split at h
  · exact (allocE_sound hR h).hvy
  · rename_i t x
    cases hx : e x with
    | none => rw [hx] at h; cases h
    | some u =>
      rw [hx] at h
      exact (varE_sound hR h (he _ _ hx)).hvy
  · rename_i t n parts
    cases hp : partsO e parts.toList with
    | none => rw [hp] at h; cases h
    | some ps =>
      rw [hp] at h
      have := (buildSliceE_sound hR h (partsO_sound he hp)).hvy
      rw [← Array.toList_map] at this
      exact this
  · split at h
    · rename_i t a0 x u v0 ha hx
      split at h
      · rename_i st1 hs
        cases h
        obtain ⟨w', r, b, c⟩ := storeE_sound hR hs (he _ _ ha) (he _ _ hx)
        exact ⟨M, undef, w', .inr ⟨rfl, run_u r⟩, b, c, .undef M⟩
      · cases h
    · cases h
  · split at h
    · rename_i t l c u v0 hl hc
      exact (makeSliceE_sound hR h (he _ _ hl) (he _ _ hc)).hvy
    · cases h
  · rename_i t r
    cases hr : optO e r with
    | none => rw [hr] at h; cases h
    | some r0 =>
      rw [hr] at h
      exact (makeMapE_sound hR h (optO_sound he hr)).hvy
  · split at h
    · rename_i t m k x u1 u2 u3 h1 h2 h3
      split at h
      · rename_i st1 hs
        cases h
        obtain ⟨w', r, b, c⟩ := mapUpdateE_sound hR hs (he _ _ h1) (he _ _ h2) (he _ _ h3)
        exact ⟨M, undef, w', .inr ⟨rfl, run_u r⟩, b, c, .undef M⟩
      · cases h
    · cases h
  · rename_i src dst' x
    cases hx : e x with
    | none => rw [hx] at h; cases h
    | some u =>
      rw [hx] at h
      exact (s2bE_sound hR h (he _ _ hx)).hvy
  · rename_i t x
    cases hx : e x with
    | none => rw [hx] at h; cases h
    | some u =>
      rw [hx] at h
      exact (rangeE_sound hR h (he _ _ hx)).hvy
  · rename_i it
    cases hx : e it with
    | none => rw [hx] at h; cases h
    | some u =>
      rw [hx] at h
      exact (nextE_sound hR h (he _ _ hx)).hvy
  · rename_i b args ats
    obtain ⟨M', v', w', r, x⟩ := hvB_sound (t := ty) hR he h (args.map fun | .const _ => true | _ => false)
    refine ⟨M', v', w', ?_, x⟩
    have := run_resolve_b (P := P) a.eval b args ats ty w
    rcases r with r | ⟨r1, r2⟩
    · exact .inl (this.trans r)
    · exact .inr ⟨r1, this.trans r2⟩
  · cases h
end
end Go.Wx
end PEv20
