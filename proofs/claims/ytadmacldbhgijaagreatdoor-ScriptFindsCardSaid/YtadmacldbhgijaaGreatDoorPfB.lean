/- The evaluator's addresses, loads, builds, look-ups; what its steps leave of the heap. -/
import Derived.Test.YtadmacldbhgijaaGreatDoorPfA
/- The evaluator: addresses and reads. -/
noncomputable section PEv5
set_option linter.unusedVariables false
set_option linter.unusedSimpArgs false
namespace Go.Wx
open Go.RowKit
section
variable {P : Program} {M : Mp}
/-- The address of a field. -/
def fieldAddrE (P : Program) (t : TypeId) (a : Value) (f : Nat) : Option Value :=
  match P.underlying t, a with
  | some (.struct fields), .pointer (some ⟨i, off, none⟩) => match fields[f]? with
    | some fl => match P.underlying fl.type with
      | some _ => if P.cellsOf fl.type = 0 then none else some (.pointer (some ⟨i, off + fl.offset, none⟩))
      | none => none
    | none => none
  | _, _ => none
theorem fieldAddrE_sound {t : TypeId} {a a' v : Value} {f : Nat} (h : fieldAddrE P t a f = some v) (ha : VR M a a') : ∃ v', VR M v v' ∧ ∀ w, (Instr.fieldAt t a' f).run P w = .ok v' w := by
  unfold fieldAddrE at h
  split at h
  · rename_i fields i off hd
    split at h
    · rename_i fl hf
      split at h
      · rename_i d' hu
        split at h
        · cases h
        · rename_i hz
          cases h
          cases ha with
          | flat hh => simp [flatV] at hh
          | ptr hL =>
            rename_i L
            refine ⟨.pointer (some ⟨L.b, L.o + (off + fl.offset), none⟩), .ptr hL, fun w => ?_⟩
            unfold Instr.fieldAt
            rw [Sem.run_bind, run_underlying hd, Result.andThen_ok]
            simp only [hf, Instr.sureAddr, Sem.run_bind, Sem.run_pure, Result.andThen_ok, fieldPlace, run_sizeOf_u hu, hz, if_false, Addr.add_spot]
            rw [Nat.add_assoc]
      · cases h
    · cases h
  · cases h
/-- The address of an element. -/
def indexAddrE (P : Program) (t : TypeId) (a i : Value) : Option Value :=
  match P.underlying t, a, i with
  | some (.array len elem), .pointer (some ⟨b, off, none⟩), .int _ i => (match inB i len with
    | true => (match P.underlying elem with
      | some _ => some (.pointer (some ⟨b, off + i.toNat * P.cellsOf elem, none⟩))
      | none => none)
    | false => none)
  | some (.slice elem), .slice (some ⟨b, off, none⟩) len _, .int _ i => (match inB i len with
    | true => (match P.underlying elem with
      | some _ => some (.pointer (some ⟨b, off + i.toNat * P.cellsOf elem, none⟩))
      | none => none)
    | false => none)
  | _, _, _ => none
theorem indexAddrE_sound {t : TypeId} {a a' i i' v : Value} (h : indexAddrE P t a i = some v) (ha : VR M a a') (hi : VR M i i') : ∃ v', VR M v v' ∧ ∀ w, (Instr.indexAt t a' i').run P w = .ok v' w := by
  unfold indexAddrE at h
  split at h
  · rename_i len elem b off k i hd
    have := hi.int; subst this
    split at h
    · rename_i hb
      have hb := inB_iff hb
      split at h
      · rename_i d' he
        cases h
        cases ha with
        | flat hh => simp [flatV] at hh
        | ptr hL =>
          rename_i L
          refine ⟨.pointer (some ⟨L.b, L.o + (off + i.toNat * P.cellsOf elem), none⟩), .ptr hL, fun w => ?_⟩
          unfold Instr.indexAt
          rw [Sem.run_bind]
          show Result.andThen (Result.ok (k, i) w) _ = _
          rw [Result.andThen_ok]
          dsimp only
          rw [Sem.run_bind, run_underlying hd, Result.andThen_ok]
          dsimp only [Instr.sureAddr]
          simp only [Sem.run_bind, Sem.run_pure, Result.andThen_ok, run_underlying hd, hb, and_self, if_true, run_sizeOf_u he, Addr.add_spot]
          rw [Nat.add_assoc]
      · cases h
    · cases h
  · rename_i elem b off len cp k i hd
    have := hi.int; subst this
    split at h
    · rename_i hb
      have hb := inB_iff hb
      split at h
      · rename_i d' he
        cases h
        cases ha with
        | flat hh => simp [flatV] at hh
        | slice hL h1 h2 h3 h4 =>
          rename_i cap' L
          refine ⟨.pointer (some ⟨L.b, L.o + (off + i.toNat * P.cellsOf elem), none⟩), .ptr hL, fun w => ?_⟩
          unfold Instr.indexAt
          rw [Sem.run_bind]
          show Result.andThen (Result.ok (k, i) w) _ = _
          rw [Result.andThen_ok]
          dsimp only
          rw [Sem.run_bind, run_underlying hd, Result.andThen_ok]
          dsimp only [Instr.sureAddr]
          simp only [Sem.run_bind, Sem.run_pure, Result.andThen_ok, run_underlying hd, hb, and_self, if_true, run_sizeOf_u he, Addr.add_spot]
          rw [Nat.add_assoc]
      · cases h
    · cases h
  · cases h
/-- Slice expressions of slices and arrays. -/
def opnOf (st : St) (i : Nat) : Option (Bool × TypeId) := match st.h.get i with
  | some (.cells _ t opn _ _ _, _) => some (opn, t)
  | some (.bld _ t _, _) => some (true, t)
  | _ => none
def sliceE (P : Program) (st : St) (t : TypeId) (a : Value) (lo hi : Option Value) : Option Value :=
  match P.underlying t, a with
  | some .string, .string s => sliceS s lo hi
  | some (.slice elem), .slice none 0 0 => match loHi 0 0 lo hi with
    | some (0, 0) => (match P.underlying elem with
      | some _ => some (.slice none 0 0)
      | none => none)
    | _ => none
  | some (.slice elem), .slice (some ⟨b, off, none⟩) len cap => match loHi len cap lo hi, P.underlying elem, opnOf st b with
    | some (l, h), some _, some (opn, bt) =>
      if Nat.ble len cap then
        (if Nat.beq cap l then (if opn then some (.slice (some ⟨0, 0, some 0⟩) 0 0) else some (.slice (some ⟨b, off, none⟩) (h - l) (cap - l)))
        else if opn && !(Nat.beq (P.cellsOf elem) (P.cellsOf bt)) then none
        else some (.slice (some ⟨b, off + l * P.cellsOf elem, none⟩) (h - l) (cap - l)))
      else none
    | _, _, _ => none
  | some (.slice elem), .slice (some ⟨0, 0, some 0⟩) 0 0 => match loHi 0 0 lo hi, P.underlying elem with
    | some (0, 0), some _ => some (.slice (some ⟨0, 0, some 0⟩) 0 0)
    | _, _ => none
  | some (.array n elem), .pointer (some ⟨b, off, none⟩) => match loHi n n lo hi, P.underlying elem, opnOf st b with
    | some (l, h), some _, some (false, _) =>
      if Nat.beq n l then some (.slice (some ⟨b, off, none⟩) (h - l) (n - l))
      else some (.slice (some ⟨b, off + l * P.cellsOf elem, none⟩) (h - l) (n - l))
    | _, _, _ => none
  | _, _ => none
theorem opnOf_sound {G : Nat} {st : St} {w : World} (hR : RR P G M st w) {i : Nat} {opn : Bool} {bt : TypeId} (h : opnOf st i = some (opn, bt)) {L : Loc} (hL : M i = some L) : L.opn = opn ∧ (L.opn = true → L.sz = P.cellsOf bt) := by
  unfold opnOf at h
  split at h
  · rename_i c t o s r p v hg
    cases h
    obtain ⟨L', hL', hb⟩ := hR.blk i _ _ hg
    rw [hL] at hL'; cases hL'
    obtain ⟨h1, C, fz, _, _, _, _, h2, _⟩ := hb
    exact ⟨h1, h2⟩
  · rename_i c t k v hg
    cases h
    obtain ⟨L', hL', hb⟩ := hR.blk i _ _ hg
    rw [hL] at hL'; cases hL'
    obtain ⟨⟨h1, C, fz, _, _, _, _, h2, _⟩, _⟩ := hb
    exact ⟨h1, h2⟩
  · cases h
theorem mul_split (l c s : Nat) (h : l ≤ c) : l * s + (c - l) * s = c * s := by
  rw [← Nat.add_mul, Nat.add_sub_cancel' h]
theorem sliceE_sound {G : Nat} {st : St} {w0 : World} (hR : RR P G M st w0) {t : TypeId} {a a' v : Value} {lo hi lo' hi' : Option Value} (h : sliceE P st t a lo hi = some v) (ha : VR M a a') (hl : VRo M lo lo') (hh : VRo M hi hi') :
    ∃ v', VR M v v' ∧ ∀ w, (Instr.sliceAt t a' lo' hi' none).run P w = .ok v' w := by
  unfold sliceE at h
  split at h
  · rename_i s hd
    have := ha.string; subst this
    exact ⟨v, .flat (sliceS_sound (P := P) hd h hl hh default).1, fun w => (sliceS_sound (P := P) hd h hl hh w).2⟩
  · rename_i elem hd
    have := ha.flat_eq rfl; subst this
    split at h
    · rename_i e
      split at h
      rotate_left
      · cases h
      rename_i d' he
      cases h
      refine ⟨_, .flat rfl, fun w => ?_⟩
      obtain ⟨r1, r2, r3⟩ := loHi_sound (P := P) e hl hh (Nat.le_refl 0) (Nat.le_refl 0) true w
      unfold Instr.sliceAt
      rw [Sem.run_bind, run_underlying hd, Result.andThen_ok]
      dsimp only
      unfold Instr.slice
      rw [Sem.run_bind, run_underlying hd, Result.andThen_ok]
      dsimp only
      rw [Sem.run_bind, r1, Result.andThen_ok]
      dsimp only
      rw [Sem.run_bind, run_sizeOf_u he, Result.andThen_ok]
      rfl
    · cases h
  · rename_i elem b off len cap hd
    cases ha with
    | flat hh => simp [flatV] at hh
    | slice hL h1 h2 h3 h4 =>
      rename_i cap' L
      split at h
      · rename_i l hx d' opn bt e he ho
        obtain ⟨o1, o2⟩ := opnOf_sound hR ho hL
        split at h
        · rename_i hlen
          have r := fun w => loHi_sound (P := P) e hl hh h2 h1 true w
          have run : ∀ w, (Instr.sliceAt t (.slice (some ⟨L.b, L.o + off, none⟩) len cap') lo' hi' none).run P w =
              .ok (.slice (if cap' = l then some ⟨L.b, L.o + off, none⟩ else some ⟨L.b, L.o + off + l * P.cellsOf elem, none⟩) (hx - l) (cap' - l)) w := fun w => by
            unfold Instr.sliceAt
            rw [Sem.run_bind, run_underlying hd, Result.andThen_ok]
            dsimp only
            unfold Instr.slice
            rw [Sem.run_bind, run_underlying hd, Result.andThen_ok]
            dsimp only
            rw [Sem.run_bind, (r w).1, Result.andThen_ok]
            dsimp only
            rw [Sem.run_bind, run_sizeOf_u he, Result.andThen_ok]
            simp only [Option.map_some, Addr.add_spot]
            rfl
          have hb := (r w0).2
          split at h
          · rename_i hcl
            rw [Nat.beq_eq] at hcl
            split at h
            · cases h
              refine ⟨_, ?_, run⟩
              rw [show hx - l = 0 from by omega]
              split
              · exact .sliceZ
              · exact .sliceZ
            · rename_i hopn
              cases h
              have hop : L.opn = false := by rw [o1]; simpa using hopn
              have hcc := h3 hop
              refine ⟨_, ?_, run⟩
              rw [if_pos (by omega)]
              exact .slice hL (by omega) (by omega) (fun _ => by omega) (fun e => by rw [hop] at e; cases e)
          · rename_i hcl
            have hcl' : cap ≠ l := fun e => hcl (by rw [Nat.beq_eq]; exact e)
            split at h
            · cases h
            · rename_i hsz
              cases h
              refine ⟨_, ?_, run⟩
              rw [if_neg (by omega), Nat.add_assoc]
              refine .slice hL (by omega) (by omega) (fun e => by have := h3 e; omega) (fun e => ?_)
              have h5 := h4 e
              have hse : P.cellsOf elem = L.sz := by
                rw [o2 e]
                rw [o1] at e
                subst e
                simp only [Bool.true_and, Bool.not_eq_true', Bool.not_eq_false] at hsz
                exact (Nat.beq_eq.symm ▸ hsz : _)
              rw [hse]
              have := mul_split l cap' L.sz (by omega)
              omega
        · cases h
      · cases h
  · rename_i elem hd
    cases ha with
    | flat hh => simp [flatV] at hh
    | sliceZ =>
      rename_i b o c'
      split at h
      · rename_i d' e he
        cases h
        have r := fun w => loHi_sound (P := P) e hl hh (Nat.zero_le c') (Nat.le_refl 0) true w
        refine ⟨.slice (if c' = 0 then some ⟨b, o, none⟩ else some ⟨b, o + 0 * P.cellsOf elem, none⟩) (0 - 0) (c' - 0), ?_, fun w => ?_⟩
        · split
          · exact .sliceZ
          · exact .sliceZ
        · unfold Instr.sliceAt
          rw [Sem.run_bind, run_underlying hd, Result.andThen_ok]
          dsimp only
          unfold Instr.slice
          rw [Sem.run_bind, run_underlying hd, Result.andThen_ok]
          dsimp only
          rw [Sem.run_bind, (r w).1, Result.andThen_ok]
          dsimp only
          rw [Sem.run_bind, run_sizeOf_u he, Result.andThen_ok]
          simp only [Option.map_some, Addr.add_spot]
          rfl
      · cases h
  · rename_i n elem b off hd
    cases ha with
    | flat hh => simp [flatV] at hh
    | ptr hL =>
      rename_i L
      split at h
      · rename_i l hx d' bt e he ho
        obtain ⟨o1, o2⟩ := opnOf_sound hR ho hL
        have r := fun w => loHi_sound (P := P) e hl hh (Nat.le_refl n) (Nat.le_refl n) false w
        have run : ∀ w, (Instr.sliceAt t (.pointer (some ⟨L.b, L.o + off, none⟩)) lo' hi' none).run P w =
            .ok (.slice (if n = l then some ⟨L.b, L.o + off, none⟩ else some ⟨L.b, L.o + off + l * P.cellsOf elem, none⟩) (hx - l) (n - l)) w := fun w => by
          unfold Instr.sliceAt
          rw [Sem.run_bind, run_underlying hd, Result.andThen_ok]
          dsimp only
          simp only [Instr.sureAddr]
          rw [Sem.run_bind, Sem.run_pure, Result.andThen_ok, Sem.run_bind, (r w).1, Result.andThen_ok]
          dsimp only
          rw [Sem.run_bind, run_sizeOf_u he, Result.andThen_ok]
          simp only [Addr.add_spot, Sem.run_pure]
          split <;> rfl
        have hb := (r w0).2
        split at h
        · rename_i hcl
          rw [Nat.beq_eq] at hcl
          cases h
          refine ⟨_, ?_, run⟩
          rw [if_pos hcl]
          exact .slice hL (by omega) (by omega) (fun _ => rfl) (fun e => by rw [o1] at e; cases e)
        · rename_i hcl
          have hcl' : n ≠ l := fun e => hcl (by rw [Nat.beq_eq]; exact e)
          cases h
          refine ⟨_, ?_, run⟩
          rw [if_neg hcl', Nat.add_assoc]
          exact .slice hL (by omega) (by omega) (fun _ => rfl) (fun e => by rw [o1] at e; cases e)
      · cases h
  · cases h
end
end Go.Wx
end PEv5
/- The evaluator: reads of memory. -/
noncomputable section PEv6
set_option linter.unusedVariables false
set_option linter.unusedSimpArgs false
namespace Go.Wx
open Go.RowKit
section
variable {P : Program} {M : Mp} {G : Nat} {st : St} {w : World}
def Sm (M : Mp) (w : World) (rs : List Nat) (w' : World) : Prop := ∀ j, j ∈ rs → ∀ L, M j = some L → w'.heap[L.b]? = w.heap[L.b]?
theorem Sm.self (M : Mp) (w : World) (rs : List Nat) : Sm M w rs w := fun _ _ _ _ => rfl
/-- The cells of an abstract block. -/
def cellsOf (st : St) (i : Nat) : Option (List Value) := match st.h.get i with
  | some (.cells c _ _ _ _ _, _) => some c
  | some (.bld c _ _, _) => some c
  | _ => none
theorem cellsOf_sound (hR : RR P G M st w) {i : Nat} {c : List Value} (h : cellsOf st i = some c) : ∃ L t opn ro, M i = some L ∧ CellsR P M w L c t opn ro := by
  unfold cellsOf at h
  split at h
  · rename_i c' t o s r p v hg
    cases h
    obtain ⟨L, hL, hb⟩ := hR.blk i _ _ hg
    exact ⟨L, t, o, r, hL, hb⟩
  · rename_i c' t k v hg
    cases h
    obtain ⟨L, hL, hb⟩ := hR.blk i _ _ hg
    exact ⟨L, t, true, true, hL, hb.1⟩
  · cases h
theorem cell?_of_heap {w' : World} {b o : Nat} {C : Array Value} {t : TypeId} {fz : Nat × Nat} (h : w'.heap[b]? = some (.cells C t fz)) : w'.cell? ⟨b, o, none⟩ = C[o]? := by
  simp [World.cell?, h]
theorem cells_range {L : Loc} {c : List Value} {t : TypeId} {opn ro : Bool} (h : CellsR P M w L c t opn ro) {off n : Nat} (hn : off + n ≤ c.length) :
    ∃ l' : List Value, l'.length = n ∧ VRs M ((c.drop off).take n) l' ∧ ∀ w' : World, w'.heap[L.b]? = w.heap[L.b]? → ∀ (k : Nat) (v : Value), l'[k]? = some v → w'.cell? ⟨L.b, L.o + off + k, none⟩ = some v := by
  obtain ⟨_, C, fz, hC, hs, hl, _, _, _, hv⟩ := h
  have hlen : ((C.toList.drop (L.o + off)).take n).length = n := by simp; omega
  have hget : ∀ k, k < n → ((C.toList.drop (L.o + off)).take n)[k]? = C[L.o + off + k]? := fun k hk => by
    rw [List.getElem?_take_of_lt hk, List.getElem?_drop, Array.getElem?_toList]
  refine ⟨(C.toList.drop (L.o + off)).take n, hlen, ?_, fun w' hw' k v hk => ?_⟩
  · refine VRs.of_get (by rw [hlen]; simp; omega) fun k v hk => ?_
    have hkn : k < n := by
      have := (List.getElem?_eq_some_iff.1 hk).1
      simp at this; omega
    rw [List.getElem?_take_of_lt hkn, List.getElem?_drop] at hk
    obtain ⟨v', e, hv'⟩ := hv (off + k) v hk
    exact ⟨v', by rw [hget k hkn, Nat.add_assoc]; exact e, hv'⟩
  · have hkn : k < n := by
      have := (List.getElem?_eq_some_iff.1 hk).1
      omega
    rw [hget k hkn] at hk
    rw [cell?_of_heap (hw'.trans hC)]
    exact hk
/-- Loads. -/
def ldE (P : Program) (st : St) (t : TypeId) (a : Value) : Option (Value × List Nat) :=
  match a with
  | .pointer (some ⟨i, off, none⟩) => match P.underlying t, cellsOf st i with
    | some d, some c => if aggD d then (if Nat.ble (off + P.cellsOf t) c.length then some (.agg ⟨(c.drop off).take (P.cellsOf t)⟩, [i]) else none)
      else (match c[off]? with
        | some v => some (v, [i])
        | none => none)
    | _, _ => none
  | _ => none
theorem run_loadVar_agg {t : TypeId} {d : TypeDesc} (hd : P.underlying t = some d) (hg : aggD d = true) {b o : Nat} {l : List Value} (hl : l.length = P.cellsOf t) {w' : World}
    (h : ∀ (k : Nat) (v : Value), l[k]? = some v → w'.cell? ⟨b, o + k, none⟩ = some v) : (loadVar t ⟨b, o, none⟩).run P w' = .ok (.agg ⟨l⟩) w' := by
  unfold loadVar
  rw [Sem.run_bind, run_isAgg hd, Result.andThen_ok, hg]
  simp only [if_true]
  rw [Sem.run_bind, run_sizeOf_u hd, Result.andThen_ok, Sem.run_bind, ← hl, run_loadCells l h, Result.andThen_ok]
  rfl
theorem run_loadVar_one {t : TypeId} {d : TypeDesc} (hd : P.underlying t = some d) (hg : aggD d = false) {a : Addr} {v : Value} {w' : World} (h : w'.cell? a = some v) : (loadVar t a).run P w' = .ok v w' := by
  unfold loadVar
  rw [Sem.run_bind, run_isAgg hd, Result.andThen_ok, hg]
  simp only [Bool.false_eq_true, if_false]
  show (Sem.load .plain a .pure).run P w' = _
  simp only [Sem.run, h]
theorem ldE_sound (hR : RR P G M st w) {t : TypeId} {a a' v : Value} {rs : List Nat} (h : ldE P st t a = some (v, rs)) (ha : VR M a a') :
    ∃ v', VR M v v' ∧ ∀ w', Sm M w rs w' → (Instr.loadAt t a').run P w' = .ok v' w' := by
  unfold ldE at h
  split at h
  · rename_i i off
    split at h
    · rename_i d c hd hc
      obtain ⟨L, bt, opn, ro, hL, hC⟩ := cellsOf_sound hR hc
      cases ha with
      | flat hh => simp [flatV] at hh
      | ptr hL' =>
        rename_i L'
        rw [hL] at hL'; cases hL'
        split at h
        · rename_i hg
          split at h
          · rename_i hle
            rw [Nat.ble_eq] at hle
            cases h
            obtain ⟨l', e1, e2, e3⟩ := cells_range hC hle
            refine ⟨.agg ⟨l'⟩, .agg e2, fun w' hw' => ?_⟩
            simp only [Instr.loadAt, Instr.sureAddr, Sem.run_bind, Sem.run_pure, Result.andThen_ok]
            exact run_loadVar_agg hd hg e1 (e3 w' (hw' i (by simp) L hL))
          · cases h
        · rename_i hg
          split at h
          · rename_i u hu
            cases h
            obtain ⟨_, C, fz, h1, _, _, _, _, _, hv⟩ := hC
            obtain ⟨v', e, hv'⟩ := hv off v hu
            refine ⟨v', hv', fun w' hw' => ?_⟩
            simp only [Instr.loadAt, Instr.sureAddr, Sem.run_bind, Sem.run_pure, Result.andThen_ok]
            exact run_loadVar_one hd (by simpa using hg) (by rw [cell?_of_heap ((hw' i (by simp) L hL).trans h1)]; exact e)
          · cases h
    · cases h
  · cases h
/-- A slice of bytes as a string. -/
def byteO : Value → Option UInt8
  | .int .u8 n => some (UInt8.ofNat n.toNat)
  | _ => none
def bytesO : List Value → Option (List UInt8)
  | [] => some []
  | v :: l => match byteO v, bytesO l with
    | some b, some r => some (b :: r)
    | _, _ => none
def b2sE (P : Program) (st : St) (src dst : TypeId) (a : Value) : Option (Value × List Nat) :=
  match P.underlying src, P.underlying dst, a with
  | some (.slice e), some .string, .slice none 0 0 => match P.underlying e with
    | some (.int .u8) => some (.string ⟨⟨[]⟩⟩, [])
    | _ => none
  | some (.slice e), some .string, .slice (some ⟨i, off, none⟩) len _ => match P.underlying e, cellsOf st i with
    | some (.int .u8), some c => if Nat.ble (off + len) c.length then (match bytesO ((c.drop off).take len) with
      | some l => some (.string ⟨⟨l⟩⟩, [i])
      | none => none) else none
    | _, _ => none
  | _, _, _ => none
theorem bytesO_rel : ∀ {l : List Value} {r : List UInt8} {l' : List Value}, bytesO l = some r → VRs M l l' → l' = l
  | [], _, _, _, .nil => rfl
  | v :: l, r, _, h, .cons hv hl => by
    unfold bytesO at h
    split at h
    · rename_i b r' h1 h2
      cases h
      have := bytesO_rel h2 hl
      subst this
      cases v <;> simp [byteO] at h1
      rename_i k n
      rw [hv.int]
    · cases h
theorem bytes_loop {w' : World} (f : Value → ByteArray → Sem (ForInStep ByteArray)) (hf : ∀ n acc, (f (.int .u8 n) acc).run P w' = .ok (.yield (acc.push (UInt8.ofNat n.toNat))) w') :
    ∀ (l : List Value) (r : List UInt8) (acc : ByteArray), bytesO l = some r → (forIn l acc f).run P w' = .ok ⟨⟨acc.data.toList ++ r⟩⟩ w'
  | [], r, acc, h => by
    simp only [bytesO, Option.some.injEq] at h; subst h
    simp
  | v :: l, r, acc, h => by
    unfold bytesO at h
    split at h
    · rename_i b r' h1 h2
      cases h
      cases v <;> simp [byteO] at h1
      rename_i k n
      cases k <;> simp at h1
      rw [List.forIn_cons, Sem.run_bind, hf, Result.andThen_ok]
      dsimp only
      rw [bytes_loop f hf l r' _ h2]
      subst h1
      simp [ByteArray.push]
    · cases h
theorem b2sE_sound (hR : RR P G M st w) {src dst : TypeId} {a a' v : Value} {rs : List Nat} (h : b2sE P st src dst a = some (v, rs)) (ha : VR M a a') :
    ∃ v', VR M v v' ∧ ∀ w', Sm M w rs w' → (convert src dst a').run P w' = .ok v' w' := by
  unfold b2sE at h
  split at h
  · rename_i e hs hd
    have := ha.flat_eq rfl; subst this
    split at h
    · rename_i he
      cases h
      refine ⟨_, .flat rfl, fun w' _ => ?_⟩
      unfold convert
      rw [Sem.run_bind, run_underlying hs, Result.andThen_ok, Sem.run_bind, run_underlying hd, Result.andThen_ok]
      dsimp only
      rw [Sem.run_bind, run_underlying he, Result.andThen_ok]
      rfl
    · cases h
  · rename_i e i off len cp hs hd
    split at h
    · rename_i c he hc
      split at h
      · rename_i hle
        rw [Nat.ble_eq] at hle
        split at h
        · rename_i l hb
          cases h
          cases ha with
          | flat hh => simp [flatV] at hh
          | slice hL h1 h2 h3 h4 =>
            rename_i cap' L
            obtain ⟨L', bt, opn, ro, hL', hC⟩ := cellsOf_sound hR hc
            rw [hL] at hL'; cases hL'
            obtain ⟨l', e1, e2, e3⟩ := cells_range hC hle
            refine ⟨_, .flat rfl, fun w' hw' => ?_⟩
            unfold convert
            rw [Sem.run_bind, run_underlying hs, Result.andThen_ok, Sem.run_bind, run_underlying hd, Result.andThen_ok]
            dsimp only
            rw [Sem.run_bind, run_underlying he, Result.andThen_ok]
            dsimp only
            unfold Conv.bytesToString
            dsimp only
            have hl' := bytesO_rel hb e2
            have hrun := run_loadCells (P := P) l' (e3 w' (hw' i (by simp) L hL))
            rw [e1] at hrun
            rw [Sem.run_bind, hrun, Result.andThen_ok, Sem.run_bind, List.forIn_toArray]
            rw [bytes_loop _ (fun n acc => rfl) l' l _ (by rw [hl']; exact hb), Result.andThen_ok]
            rfl
        · cases h
      · cases h
    · cases h
  · cases h
/-- Lengths. -/
def lenE (P : Program) (st : St) (t : TypeId) (a : Value) : Option (Value × List Nat) :=
  match P.underlying t, a with
  | some .string, .string s => some (.int .i64 s.data.toList.length, [])
  | some (.array n _), _ => some (.int .i64 n, [])
  | some (.slice _), .slice _ n _ => some (.int .i64 n, [])
  | some (.map _ _), .map none => some (.int .i64 0, [])
  | some (.map _ _), .map (some r) => match st.h.get r with
    | some (.map es _, _) => some (.int .i64 es.length, [r])
    | _ => none
  | _, _ => none
theorem EntR.len {l l' : List MapEntry} (h : EntR M l l') : l'.length = l.length := by
  induction h with
  | nil => rfl
  | cons _ _ _ ih => simp [ih]
theorem lenE_sound (hR : RR P G M st w) {t tt : TypeId} {a a' v : Value} {rs : List Nat} (h : lenE P st t a = some (v, rs)) (ha : VR M a a') :
    ∃ v', VR M v v' ∧ ∀ w', Sm M w rs w' → (Builtin.len_ #[t] tt #[a']).run P w' = .ok v' w' := by
  have go : ∀ (d : TypeDesc) (w' : World), P.underlying t = some d → (Builtin.len_ #[t] tt #[a']).run P w' = (match d, a' with
  | .string, .string s => (pure (goInt s.size) : Sem Value)
  | .array n _, _ => pure (goInt n)
  | .pointer arr, _ => do
    let .array n _ ← underlying arr | stuck "len: pointer to array expected"
    pure (goInt n)
  | .slice _, .slice _ n _ => pure (goInt n)
  | .map _ _, .map none | .chan _ _, .chan none => pure (goInt 0)
  | .map _ _, .map (some r) => do
    let .map entries _ ← getObj r | stuck "len: map expected"
    pure (goInt entries.size)
  | .chan _ _, .chan (some r) => do
    let .chan _ buf _ _ _ timer ← getObj r | stuck "len: channel expected"
    pure (goInt (if timer then 0 else buf.size))
  | _, _ => stuck "len: string, array, pointer to array, slice, map or channel expected").run P w' := fun d w' hd => by
    show ((underlying t) >>= _).run P w' = _
    rw [Sem.run_bind, run_underlying hd, Result.andThen_ok]
    rfl
  unfold lenE at h
  split at h
  · rename_i s hd
    cases h
    have := ha.string; subst this
    refine ⟨_, .flat rfl, fun w' _ => ?_⟩
    rw [go _ _ hd]
    simp only [Array.length_toList]
    rfl
  · rename_i n e hd
    cases h
    refine ⟨_, .flat rfl, fun w' _ => ?_⟩
    rw [go _ _ hd]
    rfl
  · rename_i e A n c hd
    cases h
    refine ⟨_, .flat rfl, fun w' _ => ?_⟩
    rw [go _ _ hd]
    cases ha <;> rfl
  · rename_i k e hd
    cases h
    have := ha.flat_eq rfl; subst this
    refine ⟨_, .flat rfl, fun w' _ => ?_⟩
    rw [go _ _ hd]
    rfl
  · rename_i k e r hd
    split at h
    · rename_i es cl vv hg
      cases h
      obtain ⟨L, hL, es', h1, h2⟩ := hR.blk r _ _ hg
      cases ha with
      | flat hh => simp [flatV] at hh
      | map hL' =>
        rw [hL] at hL'; cases hL'
        refine ⟨_, .flat rfl, fun w' hw' => ?_⟩
        rw [go _ _ hd]
        have := (hw' r (by simp) L hL).trans h1
        show ((getObj L.b) >>= _).run P w' = _
        rw [Sem.run_bind]
        have e : (getObj L.b).run P w' = .ok (.map es' cl) w' := by
          show (Sem.getObj L.b .pure).run P w' = _
          simp only [Sem.run, this]
        rw [e, Result.andThen_ok]
        have hlen := h2.len
        show Result.ok (goInt es'.size) w' = _
        rw [← Array.length_toList, hlen]
        rfl
    · cases h
  · cases h
end
end Go.Wx
end PEv6
/- The evaluator: built values, maps, assertions. -/
noncomputable section PEv7
set_option linter.unusedVariables false
set_option linter.unusedSimpArgs false
namespace Go.Wx
open Go.RowKit
section
variable {P : Program} {M : Mp} {G : Nat} {st : St} {w : World}
/-- min and max of integers. -/
def mmE (mx : Bool) : Value → List Value → Option Value
  | x, [] => some x
  | .int k x, .int _ y :: l => mmE mx (.int k (if mx then (if y > x then y else x) else (if y < x then y else x))) l
  | _, _ => none
theorem mmE_min : ∀ (l l' : List Value) (x v : Value), (∃ k n, x = .int k n) → mmE false x l = some v → VRs M l l' → flatV v = true ∧ ∀ w, (l'.foldlM Builtin.min2 x).run P w = .ok v w
  | [], l', x, v, ⟨k, n, hx⟩, h, hl => by cases hl; cases h; subst hx; exact ⟨rfl, fun w => by simp⟩
  | y :: l, l', x, v, ⟨k, n, hx⟩, h, hl => by
    cases hl with
    | cons h1 h2 =>
      subst hx
      unfold mmE at h
      split at h
      · rename_i e; cases e
      · rename_i e1 e2; cases e1; cases e2
        have := h1.int; subst this
        obtain ⟨a, b⟩ := mmE_min l _ _ v ⟨_, _, rfl⟩ h h2
        refine ⟨a, fun w => ?_⟩
        rw [List.foldlM_cons, Sem.run_bind]
        show Result.andThen (Result.ok _ w) _ = _
        rw [Result.andThen_ok]
        simpa using b w
      · cases h
theorem mmE_max : ∀ (l l' : List Value) (x v : Value), (∃ k n, x = .int k n) → mmE true x l = some v → VRs M l l' → flatV v = true ∧ ∀ w, (l'.foldlM Builtin.max2 x).run P w = .ok v w
  | [], l', x, v, ⟨k, n, hx⟩, h, hl => by cases hl; cases h; subst hx; exact ⟨rfl, fun w => by simp⟩
  | y :: l, l', x, v, ⟨k, n, hx⟩, h, hl => by
    cases hl with
    | cons h1 h2 =>
      subst hx
      unfold mmE at h
      split at h
      · rename_i e; cases e
      · rename_i e1 e2; cases e1; cases e2
        have := h1.int; subst this
        obtain ⟨a, b⟩ := mmE_max l _ _ v ⟨_, _, rfl⟩ h h2
        refine ⟨a, fun w => ?_⟩
        rw [List.foldlM_cons, Sem.run_bind]
        show Result.andThen (Result.ok _ w) _ = _
        rw [Result.andThen_ok]
        simpa using b w
      · cases h
/-! ### Built values -/
theorem splice : ∀ (vs : List Value) (i : Nat) (off : Nat) (cells : Array Value), off + i + vs.length ≤ cells.size →
    ((vs.zipIdx i).foldl (fun cs (p : Value × Nat) => cs.setIfInBounds (off + p.2) p.1) cells).toList = cells.toList.take (off + i) ++ vs ++ cells.toList.drop (off + i + vs.length)
  | [], i, off, cells, h => by simp
  | v :: vs, i, off, cells, h => by
    simp only [List.length_cons] at h
    rw [List.zipIdx_cons, List.foldl_cons, splice vs (i + 1) off _ (by simp; omega)]
    simp only [Array.toList_setIfInBounds, List.length_cons]
    have e : off + (i + 1) = off + i + 1 := by omega
    have hset : cells.toList.set (off + i) v = cells.toList.take (off + i) ++ v :: cells.toList.drop (off + i + 1) := by
      rw [List.set_eq_take_append_cons_drop, if_pos (by simp; omega)]
    have hlen : (cells.toList.take (off + i)).length = off + i := by simp; omega
    rw [e, hset]
    rw [List.take_append, hlen, List.take_of_length_le (by omega), show off + i + 1 - (off + i) = 1 from by omega]
    rw [List.drop_append, hlen, List.drop_eq_nil_of_le (by omega : (cells.toList.take (off + i)).length ≤ off + i + 1 + vs.length), show off + i + 1 + vs.length - (off + i) = vs.length + 1 from by omega]
    simp only [List.drop_succ_cons, List.drop_drop, List.take_succ_cons, List.take_zero, List.nil_append, List.append_assoc, List.cons_append]
    rw [show off + i + 1 + vs.length = off + i + (vs.length + 1) from by omega]
inductive PR (M : Mp) : List (Nat × Value) → List (Nat × Value) → Prop where
  | nil : PR M [] []
  | cons {i : Nat} {v v' : Value} {l l' : List (Nat × Value)} : VR M v v' → PR M l l' → PR M ((i, v) :: l) ((i, v') :: l')
def vcells : Value → List Value
  | .agg cs => cs.toList
  | v => [v]
theorem VR.cells {v v' : Value} (h : VR M v v') : VRs M (vcells v) v'.cells.toList := by
  cases h with
  | flat hf => cases v <;> first | exact .cons (.flat hf) .nil | (simp [flatV] at hf)
  | ptr e => exact .cons (.ptr e) .nil
  | slice e a b c d => exact .cons (.slice e a b c d) .nil
  | sliceZ => exact .cons .sliceZ .nil
  | map e => exact .cons (.map e) .nil
  | yld e => exact .cons (.yld e) .nil
  | func o a b => exact .cons (.func o a b) .nil
  | iface a => exact .cons (.iface a) .nil
  | agg a => exact a
  | tup a => exact .cons (.tup a) .nil
def fillE (place : Nat → Option (Nat × Nat)) (cells : List Value) : List (Nat × Value) → Option (List Value)
  | [] => some cells
  | (i, v) :: rest => match place i with
    | none => none
    | some (off, size) => if Nat.beq (vcells v).length size && Nat.ble (off + size) cells.length then fillE place (cells.take off ++ (vcells v ++ cells.drop (off + size))) rest else none
theorem fillE_rel {place : Nat → Option (Nat × Nat)} : ∀ {parts parts' : List (Nat × Value)} {c r : List Value} {c' : Array Value}, fillE place c parts = some r → VRs M c c'.toList → PR M parts parts' →
    ∃ r', Instr.fill place c' parts' = some r' ∧ VRs M r r'.toList
  | [], _, c, r, c', h, hc, .nil => by cases h; exact ⟨c', rfl, hc⟩
  | (i, v) :: rest, _, c, r, c', h, hc, .cons (v' := v') (l' := rest') hv hp => by
    unfold fillE at h
    cases hpl : place i with
    | none => rw [hpl] at h; cases h
    | some os =>
      obtain ⟨off, size⟩ := os
      rw [hpl] at h
      dsimp only at h
      split at h
      · rename_i hcond
        simp only [Bool.and_eq_true, Nat.beq_eq, Nat.ble_eq] at hcond
        have hvc := hv.cells
        have l1 := hvc.len
        have l2 := hc.len
        have s1 : v'.cells.size = size := by rw [← Array.length_toList, l1]; exact hcond.1
        have s2 : off + size ≤ c'.size := by rw [← Array.length_toList, l2]; exact hcond.2
        have hsp := splice v'.cells.toList 0 off c' (by rw [Array.length_toList, s1]; omega)
        have hfold : (v'.cells.zipIdx.foldl (fun cs (c, j) => cs.setIfInBounds (off + j) c) c').toList = c'.toList.take off ++ (v'.cells.toList ++ c'.toList.drop (off + size)) := by
          rw [← Array.foldl_toList, Array.toList_zipIdx]
          rw [show (off + 0 + v'.cells.toList.length) = off + size from by rw [Array.length_toList, s1]; omega] at hsp
          rw [Nat.add_zero, List.append_assoc] at hsp
          exact hsp
        obtain ⟨r', e, hr⟩ := fillE_rel (c' := v'.cells.zipIdx.foldl (fun cs (c, j) => cs.setIfInBounds (off + j) c) c') h (by rw [hfold]; exact (hc.take off).append (hvc.append (hc.drop _))) hp
        refine ⟨r', ?_, hr⟩
        unfold Instr.fill
        rw [hpl]
        dsimp only
        rw [if_neg (by rw [s1]; simp; omega)]
        exact e
      · cases h
def placesE (P : Program) (t : TypeId) : Option (List Value × (Nat → Option (Nat × Nat))) :=
  match P.info? t, P.underlying t with
  | some it, some (.array _ e) => match it.zero, P.info? e with
    | some z, some ie => some (vcells z, fun i => some (i * ie.size, ie.size))
    | _, _ => none
  | some it, some (.struct fields) => match it.zero, fields.toList.mapM (fun f => (P.info? f.type).map fun i => (f.offset, i.size)) with
    | some z, some places => some (vcells z, fun i => places[i]?)
    | _, _ => none
  | _, _ => none
def buildE (P : Program) (t : TypeId) (parts : List (Nat × Value)) : Option Value :=
  match placesE P t with
  | some (z, pl) => if z.all (flatN 2) then (match fillE pl z parts with
    | some cells => some (.agg ⟨cells⟩)
    | none => none) else none
  | none => none
theorem vcells_eq (v : Value) : vcells v = v.cells.toList := by cases v <;> rfl
theorem buildE_sound {t : TypeId} {parts parts' : List (Nat × Value)} {v : Value} (h : buildE P t parts = some v) (hp : PR M parts parts') :
    ∃ v', VR M v v' ∧ ∀ w, (Instr.build t parts'.toArray).run P w = .ok v' w := by
  unfold buildE at h
  split at h
  · rename_i z pl hz
    split at h
    · rename_i hall
      split at h
      · rename_i cells hf
        cases h
        have hzz := VRs.of_all (M := M) (VR.of_flatN M 2) z hall
        unfold placesE at hz
        cases hit : P.info? t with
        | none => rw [hit] at hz; cases hz
        | some it =>
          rw [hit] at hz
          cases hu : P.underlying t with
          | none => rw [hu] at hz; cases hz
          | some d =>
            rw [hu] at hz
            cases d <;> simp only at hz <;> try (cases hz; done)
            case array n e =>
              split at hz
              · rename_i zv ie hzv hie
                cases hz
                rw [vcells_eq] at hf hzz
                obtain ⟨r', e1, e2⟩ := fillE_rel hf hzz hp
                refine ⟨.agg r', .agg e2, fun w => run_build w t _ r' ?_⟩
                simp only [Program.built, hit, hu, hzv, hie]
                exact e1
              · cases hz
            case struct fields =>
              split at hz
              · rename_i zv places hzv hpl
                cases hz
                rw [vcells_eq] at hf hzz
                obtain ⟨r', e1, e2⟩ := fillE_rel hf hzz hp
                refine ⟨.agg r', .agg e2, fun w => run_build w t _ r' ?_⟩
                simp only [Program.built, hit, hu, hzv, hpl]
                simpa using e1
              · cases hz
      · cases h
    · cases h
  · cases h
end
end Go.Wx
end PEv7
/- The evaluator: maps read, assertions. -/
noncomputable section PEv8
set_option linter.unusedVariables false
set_option linter.unusedSimpArgs false
namespace Go.Wx
open Go.RowKit
section
variable {P : Program} {M : Mp} {G : Nat} {st : St} {w : World}
def plainK : TypeDesc → Bool
  | .int _ | .string | .bool => true
  | _ => false
theorem run_checkKey {t : TypeId} {d : TypeDesc} (hd : P.underlying t = some d) (hp : plainK d = true) (e : Bool) (v : Value) (w : World) : (Instr.checkKey e 10000 t v).run P w = .ok () w := by
  have key : ∀ n, (Instr.checkKey e (n + 1) t v).run P w = .ok () w := fun n => by
    rw [Instr.checkKey, Sem.run_bind, run_underlying hd, Result.andThen_ok]
    cases d <;> first | rfl | (simp [plainK] at hp)
  exact key 9999
theorem findNow_rel {d : TypeDesc} {k : Value} : ∀ {es es' : List MapEntry} (i : Nat) (r : Option (Nat × Value)), EntR M es es' → Instr.findNow d k es i = some r →
    (r = none → Instr.findNow d k es' i = some none) ∧ (∀ j v, r = some (j, v) → ∃ v', Instr.findNow d k es' i = some (some (j, v')) ∧ VR M v v')
  | _, _, i, r, .nil, h => by
    simp only [Instr.findNow, Option.some.injEq] at h
    subst h
    exact ⟨fun _ => rfl, fun j v e => (by cases e)⟩
  | _, _, i, r, .cons (k := k0) (v := v0) (v' := v0') (b := b0) (l := l) (l' := l') hf hv hl, h => by
    unfold Instr.findNow at h ⊢
    dsimp only at h ⊢
    split at h
    · cases h
      exact ⟨fun e => (by cases e), fun j v e => (by cases e; exact ⟨_, rfl, hv⟩)⟩
    · exact findNow_rel (i + 1) r hl h
    · cases h
def entsOf (st : St) : Value → Option (List MapEntry × List Nat)
  | .map none => some ([], [])
  | .map (some r) => match st.h.get r with
    | some (.map es _, _) => some (es, [r])
    | _ => none
  | _ => none
def zeroE (P : Program) (t : TypeId) : Option Value := match P.info? t with
  | some i => match i.zero with
    | some z => if flatN 3 z then some z else none
    | none => none
  | none => none
theorem zeroE_sound {t : TypeId} {z : Value} (h : zeroE P t = some z) : VR M z z ∧ ∀ w, (zeroValue t).run P w = .ok z w := by
  unfold zeroE at h
  split at h
  · rename_i i hi
    split at h
    · rename_i z' hz
      split at h
      · rename_i hf
        cases h
        refine ⟨VR.of_flatN M 3 z hf, fun w => ?_⟩
        simp [zeroValue, typeInfo, hi, hz]
      · cases h
    · cases h
  · cases h
def lookupE (P : Program) (st : St) (t : TypeId) (a k : Value) (ok : Bool) : Option (Value × List Nat) :=
  match P.underlying t, entsOf st a with
  | some (.map key elem), some (es, rs) => match P.underlying key with
    | some kd => if plainK kd && flatV k then (match Instr.findNow kd k es 0 with
      | some (some (_, v)) => some (if ok then .tuple #[v, .bool true] else v, rs)
      | some none => (match zeroE P elem with
        | some z => some (if ok then .tuple #[z, .bool false] else z, rs)
        | none => none)
      | none => none) else none
    | none => none
  | _, _ => none
theorem lookupE_sound (hR : RR P G M st w) {t : TypeId} {a a' k k' v : Value} {ok : Bool} {rs : List Nat} (h : lookupE P st t a k ok = some (v, rs)) (ha : VR M a a') (hk : VR M k k') :
    ∃ v', VR M v v' ∧ ∀ w', Sm M w rs w' → (Instr.lookup t a' k' ok).run P w' = .ok v' w' := by
  unfold lookupE at h
  split at h
  · rename_i key elem es rs' hd he
    split at h
    · rename_i kd hkd
      split at h
      · rename_i hcond
        simp only [Bool.and_eq_true] at hcond
        have hkk := (hk.flat_eq hcond.2).symm; subst hkk
        let tail : Array MapEntry → Sem Value := fun es => do
          Instr.checkKey es.isEmpty 10000 key k
          match ← Instr.findKey key k es.toList with
            | some (_, v) => pure (if ok then .tuple #[v, .bool true] else v)
            | none => do
              let z ← zeroValue elem
              pure (if ok then .tuple #[z, .bool false] else z)
        have hes : ∃ es' : Array MapEntry, EntR M es es'.toList ∧ ∀ w', Sm M w rs' w' → (Instr.lookup t a' k ok).run P w' = (tail es').run P w' := by
          unfold entsOf at he
          split at he
          · cases he
            have := ha.flat_eq rfl; subst this
            refine ⟨#[], .nil, fun w' _ => ?_⟩
            unfold Instr.lookup
            rw [Sem.run_bind, run_underlying hd, Result.andThen_ok]
            rfl
          · split at he
            · rename_i es0 cl vv hg
              cases he
              obtain ⟨L, hL, es', h1, h2⟩ := hR.blk _ _ _ hg
              cases ha with
              | flat hh => simp [flatV] at hh
              | map hL' =>
                rw [hL] at hL'; cases hL'
                refine ⟨es', h2, fun w' hw' => ?_⟩
                have hw := (hw' _ (by simp) L hL).trans h1
                have e : (getObj L.b).run P w' = .ok (.map es' cl) w' := by
                  show (Sem.getObj L.b .pure).run P w' = _
                  simp only [Sem.run, hw]
                unfold Instr.lookup
                rw [Sem.run_bind, run_underlying hd, Result.andThen_ok]
                dsimp only
                rw [Sem.run_bind, e, Result.andThen_ok]
                rfl
            · cases he
          · cases he
        obtain ⟨es', hrel, hrun⟩ := hes
        have go : ∀ w', Sm M w rs' w' → ∀ r, Instr.findNow kd k es'.toList 0 = some r → (Instr.lookup t a' k ok).run P w' =
            ((match r with | some (_, v) => (pure (if ok then .tuple #[v, .bool true] else v) : Sem Value) | none => do
              let z ← zeroValue elem
              pure (if ok then .tuple #[z, .bool false] else z))).run P w' := fun w' hw' r hr => by
          rw [hrun w' hw']
          have e : (Instr.findKey key k es'.toList).run P w' = .ok r w' := by
            unfold Instr.findKey
            rw [Sem.run_bind, run_underlying hkd, Result.andThen_ok, hr]
            rfl
          show (Instr.checkKey es'.isEmpty 10000 key k >>= _).run P w' = _
          rw [Sem.run_bind, run_checkKey hkd hcond.1, Result.andThen_ok, Sem.run_bind, e, Result.andThen_ok]
        split at h
        · rename_i j u hf
          cases h
          obtain ⟨u', e1, e2⟩ := (findNow_rel 0 _ hrel hf).2 j u rfl
          refine ⟨if ok then .tuple #[u', .bool true] else u', ?_, fun w' hw' => ?_⟩
          · cases ok
            · exact e2
            · exact .tup (.cons e2 (.cons (.flat rfl) .nil))
          · rw [go w' hw' _ e1]
            rfl
        · rename_i hf
          split at h
          · rename_i z hz
            cases h
            obtain ⟨z1, z2⟩ := zeroE_sound (M := M) hz
            have e1 := (findNow_rel 0 _ hrel hf).1 rfl
            refine ⟨if ok then .tuple #[z, .bool false] else z, ?_, fun w' hw' => ?_⟩
            · cases ok
              · exact z1
              · exact .tup (.cons z1 (.cons (.flat rfl) .nil))
            · rw [go w' hw' _ e1]
              dsimp only
              rw [Sem.run_bind, z2, Result.andThen_ok]
              rfl
          · cases h
        · cases h
      · cases h
    · cases h
  · cases h
def assertE (P : Program) (a : Value) (xt asserted : TypeId) (ok : Bool) : Option Value :=
  let yes : Value → Option Value := fun v => some (if ok then .tuple #[v, .bool true] else v)
  let no : Unit → Option Value := fun _ => if ok then (match zeroE P asserted with
    | some z => some (.tuple #[z, .bool false])
    | none => none) else none
  match P.underlying asserted, a with
  | some (.interface _), .nilIface => no ()
  | some (.interface want), .iface t v => match P.info? t with
    | some i => match Instr.missingMethod want i.methods with
      | none => yes (.iface t v)
      | some _ => no ()
    | none => none
  | some _, .nilIface => no ()
  | some _, .iface t v => if t = asserted then yes v else no ()
  | _, _ => none
theorem assertE_sound {a a' v : Value} {xt asserted : TypeId} {ok : Bool} (h : assertE P a xt asserted ok = some v) (ha : VR M a a') :
    ∃ v', VR M v v' ∧ ∀ w, (Instr.typeAssert a' xt asserted ok).run P w = .ok v' w := by
  have hno : ∀ (s d : Option TypeId) (m : String) (v : Value), (if ok then (match zeroE P asserted with
      | some z => some (Value.tuple #[z, .bool false])
      | none => none) else none) = some v → VR M v v ∧ ∀ w, ((if ok then (do pure (.tuple #[← zeroValue asserted, .bool false])) else runtimePanic (.typeAssertion s d asserted m) : Sem Value)).run P w = .ok v w := by
    intro s d m v hv
    cases ok
    · cases hv
    · simp only [if_true] at hv ⊢
      split at hv
      · rename_i z hz
        cases hv
        obtain ⟨z1, z2⟩ := zeroE_sound (M := M) hz
        refine ⟨.tup (.cons z1 (.cons (.flat rfl) .nil)), fun w => ?_⟩
        rw [Sem.run_bind, z2, Result.andThen_ok]; rfl
      · cases hv
  have hyes : ∀ (u u' v : Value), VR M u u' → some (if ok then Value.tuple #[u, .bool true] else u) = some v → VR M v (if ok then .tuple #[u', .bool true] else u') := by
    intro u u' v hu hv
    cases hv
    cases ok
    · exact hu
    · exact .tup (.cons hu (.cons (.flat rfl) .nil))
  unfold assertE at h
  dsimp only at h
  split at h
  · rename_i ms hd
    have := ha.flat_eq rfl; subst this
    obtain ⟨h1, h2⟩ := hno none none "" v h
    refine ⟨v, h1, fun w => ?_⟩
    unfold Instr.typeAssert
    dsimp only
    rw [Sem.run_bind, run_underlying hd, Result.andThen_ok]
    exact h2 w
  · rename_i want t u hd
    cases ha with
    | flat hh => simp [flatV] at hh
    | iface hu =>
      rename_i u'
      split at h
      · rename_i i hi
        split at h
        · rename_i hm
          refine ⟨_, hyes _ _ v (.iface hu) h, fun w => ?_⟩
          unfold Instr.typeAssert
          dsimp only
          rw [Sem.run_bind, run_underlying hd, Result.andThen_ok]
          dsimp only
          rw [Sem.run_bind, show (typeInfo t).run P w = .ok i w from by simp [typeInfo, hi], Result.andThen_ok, hm]
          rfl
        · rename_i m hm
          obtain ⟨h1, h2⟩ := hno none (some t) m v h
          refine ⟨v, h1, fun w => ?_⟩
          unfold Instr.typeAssert
          dsimp only
          rw [Sem.run_bind, run_underlying hd, Result.andThen_ok]
          dsimp only
          rw [Sem.run_bind, show (typeInfo t).run P w = .ok i w from by simp [typeInfo, hi], Result.andThen_ok, hm]
          exact h2 w
      · cases h
  · rename_i d hn hd
    have := ha.flat_eq rfl; subst this
    obtain ⟨h1, h2⟩ := hno (some xt) none "" v h
    refine ⟨v, h1, fun w => ?_⟩
    unfold Instr.typeAssert
    dsimp only
    rw [Sem.run_bind, run_underlying hd, Result.andThen_ok]
    cases d <;> first | exact h2 w | exact (hn _ rfl).elim
  · rename_i d t u hn hd
    cases ha with
    | flat hh => simp [flatV] at hh
    | iface hu =>
      rename_i u'
      split at h
      · rename_i ht
        refine ⟨_, hyes _ _ v hu h, fun w => ?_⟩
        unfold Instr.typeAssert
        dsimp only
        rw [Sem.run_bind, run_underlying hd, Result.andThen_ok]
        cases d <;> first | (simp only [ht, if_true]; rfl) | exact (hn _ rfl).elim
      · rename_i ht
        obtain ⟨h1, h2⟩ := hno (some xt) (some t) "" v h
        refine ⟨v, h1, fun w => ?_⟩
        unfold Instr.typeAssert
        dsimp only
        rw [Sem.run_bind, run_underlying hd, Result.andThen_ok]
        cases d <;> first | (simp only [ht, if_false]; exact h2 w) | exact (hn _ rfl).elim
  · cases h
end
end Go.Wx
end PEv8
/- The evaluator: equal pointers; structs compared; unsafe.Pointer; cap. -/
noncomputable section PEv8b
set_option linter.unusedVariables false
set_option linter.unusedSimpArgs false
namespace Go.Wx
open Go.RowKit
section
variable {P : Program} {M : Mp} {G : Nat} {st : St} {w : World}
/-- Two cells of scalars. -/
def eqS (P : Program) (t : TypeId) (a b : Value) : Option Bool :=
  match P.underlying t, a, b with
  | some (.int _), .int k x, .int k' y => if k = k' then some (decide (x = y)) else none
  | some .string, .string x, .string y => some (strEq x.data.toList y.data.toList)
  | some .bool, .bool x, .bool y => some (x == y)
  | _, _, _ => none
def eqF (P : Program) : List Field → List Value → List Value → Option Bool
  | [], _, _ => some true
  | f :: fs, xs, ys => if f.name == "_" then none else
    match xs[f.offset]?, ys[f.offset]? with
    | some a, some b => (match eqS P f.type a b with
      | some true => eqF P fs xs ys
      | some false => some false
      | none => none)
    | _, _ => none
def eqXB (P : Program) (t : TypeId) (a b : Value) : Option Bool :=
  match P.underlying t, a, b with
  | some (.pointer el), .pointer (some ⟨i, o, none⟩), .pointer (some ⟨j, p, none⟩) => if Nat.beq i j && Nat.beq o p then (match P.underlying el with
    | some _ => some true
    | none => none) else none
  | some (.struct fs), .agg xs, .agg ys => if P.stoodInHeld t || P.eqGuardType P.depth t then none else eqF P fs.toList xs.toList ys.toList
  | _, _, _ => none
def eqX (P : Program) (op : BinOp) (t : TypeId) (a b : Value) : Option Value :=
  match op with
  | .eql => match eqXB P t a b with
    | some p => some (.bool p)
    | none => none
  | .neq => match eqXB P t a b with
    | some p => some (.bool (!p))
    | none => none
  | _ => none
theorem eqS_sound {t : TypeId} {a b a' b' : Value} {p : Bool} (h : eqS P t a b = some p) (ha : VR M a a') (hb : VR M b b') : flatV a' = true ∧ flatV b' = true ∧ (∃ d, P.underlying t = some d ∧ aggD d = false) ∧ ∀ n (w : World), (Op.equalIn (n + 1) t a' b').run P w = .ok p w := by
  unfold eqS at h
  split at h
  · rename_i k0 k x k' y hd
    have := ha.int; subst this
    have := hb.int; subst this
    split at h
    · rename_i hk
      subst hk
      cases h
      refine ⟨rfl, rfl, ⟨_, hd, rfl⟩, fun n w => ?_⟩
      rw [Op.equalIn, Sem.run_bind, underlying_some hd, Result.andThen_ok]
      simp only [if_true]
      rfl
    · cases h
  · rename_i x y hd
    have := ha.string; subst this
    have := hb.string; subst this
    cases h
    refine ⟨rfl, rfl, ⟨_, hd, rfl⟩, fun n w => ?_⟩
    rw [Op.equalIn, Sem.run_bind, underlying_some hd, Result.andThen_ok]
    show Result.ok (x.data == y.data) w = _
    congr 1
    rw [strEq_iff]
    rw [Bool.eq_iff_iff, beq_iff_eq, beq_iff_eq]
    exact Array.toList_inj.symm
  · rename_i x y hd
    have := ha.bool; subst this
    have := hb.bool; subst this
    cases h
    refine ⟨rfl, rfl, ⟨_, hd, rfl⟩, fun n w => ?_⟩
    rw [Op.equalIn, Sem.run_bind, underlying_some hd, Result.andThen_ok]
    rfl
  · cases h
theorem run_part_one {t : TypeId} {d : TypeDesc} (hd : P.underlying t = some d) (hg : aggD d = false) {cs : Array Value} {off : Nat} {v : Value} (hv : cs[off]? = some v) (w : World) : (part t cs off).run P w = .ok v w := by
  unfold part
  rw [Sem.run_bind, run_isAgg hd, Result.andThen_ok, hg]
  simp only [Bool.false_eq_true, if_false, hv]
  rfl
theorem eqF_sound {xs ys : List Value} {xs' ys' : Array Value} (hx : VRs M xs xs'.toList) (hy : VRs M ys ys'.toList) (n : Nat) (w : World) : ∀ {fs : List Field} {p : Bool}, eqF P fs xs ys = some p →
    (forIn fs ((none : Option Bool), ()) fun f _ =>
      if f.name ≠ "_" then do
        let a ← part f.type xs' f.offset
        let b ← part f.type ys' f.offset
        let r ← Op.equalIn (n + 1) f.type a b
        if (!r) = true then pure (ForInStep.done (some false, ())) else pure (ForInStep.yield (none, ()))
      else pure (ForInStep.yield (none, ())) : Sem (Option Bool × Unit)).run P w = .ok (if p then (none, ()) else (some false, ())) w
  | [], p, h => by
    cases h
    rfl
  | f :: fs, p, h => by
    unfold eqF at h
    split at h
    · cases h
    · rename_i hn
      split at h
      · rename_i a b ha hb
        obtain ⟨a', e1, r1⟩ := hx.get _ _ ha
        obtain ⟨b', e2, r2⟩ := hy.get _ _ hb
        rw [Array.getElem?_toList] at e1 e2
        rw [List.forIn_cons, Sem.run_bind]
        have hne : f.name ≠ "_" := fun e => hn (by rw [e]; rfl)
        rw [if_pos hne]
        have step : ∀ q, eqS P f.type a b = some q → (do
            let a ← part f.type xs' f.offset
            let b ← part f.type ys' f.offset
            let r ← Op.equalIn (n + 1) f.type a b
            if (!r) = true then pure (ForInStep.done ((some false : Option Bool), ())) else pure (ForInStep.yield (none, ())) : Sem (ForInStep (Option Bool × Unit))).run P w = .ok (if q then .yield (none, ()) else .done (some false, ())) w := by
          intro q hq
          obtain ⟨_, _, ⟨d, hd, hg⟩, hr⟩ := eqS_sound hq r1 r2
          rw [Sem.run_bind, run_part_one hd hg e1, Result.andThen_ok, Sem.run_bind, run_part_one hd hg e2, Result.andThen_ok, Sem.run_bind, hr n w, Result.andThen_ok]
          cases q <;> rfl
        split at h
        · rename_i hq
          rw [step true hq, Result.andThen_ok]
          exact eqF_sound hx hy n w h
        · rename_i hq
          cases h
          rw [step false hq, Result.andThen_ok]
          rfl
        · cases h
      · cases h
theorem eqXB_sound {op : BinOp} {t : TypeId} {x y : Operand} {a b a' b' : Value} {p : Bool} (h : eqXB P t a b = some p) (ha : VR M a a') (hb : VR M b b') (w : World) :
    (eqGuard op t x y a' b').run P w = .ok () w ∧ (Op.equal t a' b').run P w = .ok p w ∧ binOp .eql t a' b' = (do pure (.bool (← Op.equal t a' b'))) ∧ binOp .neq t a' b' = (do pure (.bool (!(← Op.equal t a' b')))) := by
  unfold eqXB at h
  split at h
  · rename_i el i o j q hd
    split at h
    · rename_i hc
      rw [Bool.and_eq_true, Nat.beq_eq, Nat.beq_eq] at hc
      obtain ⟨e1, e2⟩ := hc
      subst e1; subst e2
      split at h
      · rename_i d he
        cases h
        cases ha with
        | flat hf => simp [flatV] at hf
        | ptr hL =>
          rename_i L
          cases hb with
          | flat hf => simp [flatV] at hf
          | ptr hL' =>
            rename_i L'
            rw [hL] at hL'; cases hL'
            refine ⟨by unfold eqGuard; split <;> rfl, ?_, rfl, rfl⟩
            show (Op.equalIn (9999 + 1) t _ _).run P w = _
            rw [Op.equalIn, Sem.run_bind, underlying_some hd, Result.andThen_ok]
            dsimp only
            rw [Sem.run_bind, run_sizeOf_u he, Result.andThen_ok]
            split
            · unfold sameAddr
              simp
            · simp
      · cases h
    · cases h
  · rename_i fs xs ys hd
    split at h
    · cases h
    · rename_i hc
      rw [Bool.or_eq_true, not_or] at hc
      obtain ⟨h1, h2⟩ := hc
      have h1 : P.stoodInHeld t = false := by simpa using h1
      have h2 : P.eqGuardType P.depth t = false := by simpa using h2
      have hp : ∀ w, (program).run P w = .ok P w := fun w => rfl
      cases ha with
      | flat hf => simp [flatV] at hf
      | agg hx =>
        cases hb with
        | flat hf => simp [flatV] at hf
        | agg hy =>
          rename_i xs' ys'
          refine ⟨?_, ?_, rfl, rfl⟩
          · unfold eqGuard
            cases op <;> first | rfl | skip
            all_goals
              rw [if_neg (by simp)]
              dsimp only
              rw [Sem.run_bind, hp, Result.andThen_ok, Sem.run_bind, hp, Result.andThen_ok, h2]
              rfl
          · show (Op.equalIn (9998 + 1 + 1) t _ _).run P w = _
            rw [Op.equalIn, Sem.run_bind, underlying_some hd, Result.andThen_ok]
            dsimp only
            rw [Sem.run_bind, hp, Result.andThen_ok, h1]
            simp only [Bool.false_eq_true, if_false]
            rw [Sem.run_bind, ← Array.forIn_toList]
            have := eqF_sound (P := P) hx hy 9998 w h
            rw [this, Result.andThen_ok]
            cases p <;> rfl
  · cases h
theorem eqX_sound {op : BinOp} {t : TypeId} {x y : Operand} {a b a' b' v : Value} (h : eqX P op t a b = some v) (ha : VR M a a') (hb : VR M b b') (w : World) :
    flatV v = true ∧ (do eqGuard op t x y a' b'; binOp op t a' b' : Sem Value).run P w = .ok v w := by
  have mk : ∀ u, (eqGuard op t x y a' b').run P w = .ok () w → (binOp op t a' b').run P w = .ok u w → (do eqGuard op t x y a' b'; binOp op t a' b' : Sem Value).run P w = .ok u w := fun u h1 h2 => by
    show (Sem.bind _ _).run P w = _
    rw [show (Sem.bind (eqGuard op t x y a' b') (fun _ => binOp op t a' b')) = (eqGuard op t x y a' b' >>= fun _ => binOp op t a' b') from rfl, Sem.run_bind, h1, Result.andThen_ok, h2]
  unfold eqX at h
  split at h
  · split at h
    · rename_i p hq
      cases h
      obtain ⟨h1, h2, h3, h4⟩ := eqXB_sound (x := x) (y := y) (op := .eql) hq ha hb w
      refine ⟨rfl, mk _ h1 ?_⟩
      rw [h3, Sem.run_bind, h2, Result.andThen_ok]; rfl
    · cases h
  · split at h
    · rename_i p hq
      cases h
      obtain ⟨h1, h2, h3, h4⟩ := eqXB_sound (x := x) (y := y) (op := .neq) hq ha hb w
      refine ⟨rfl, mk _ h1 ?_⟩
      rw [h4, Sem.run_bind, h2, Result.andThen_ok]; rfl
    · cases h
  · cases h
/-- Pointers and unsafe.Pointer. -/
def uptrE (P : Program) (st : St) (src dst : TypeId) (a : Value) : Option (Value × List Nat) :=
  match P.underlying src, P.underlying dst, a with
  | some (.pointer t), some .unsafePointer, .pointer (some ⟨i, off, none⟩) => (match st.h.get i, P.underlying t with
    | some (.cells c bt _ _ _ _, _), some _ => if Nat.blt off c.length && Nat.blt 0 (P.cellsOf t) then some (a, [i]) else none
    | _, _ => none)
  | some .unsafePointer, some (.pointer u), .pointer (some ⟨i, 0, none⟩) => (match st.h.get i, P.underlying u with
    | some (.cells c bt false _ _ _, _), some _ => if Nat.beq bt u && Nat.blt 0 (P.cellsOf u) && Nat.ble (P.cellsOf u) c.length then some (a, [i]) else none
    | _, _ => none)
  | _, _, _ => none
theorem run_shape_cells {w : World} {b : Nat} {C : Array Value} {t : TypeId} {fz : Nat × Nat} (h : w.heap[b]? = some (.cells C t fz)) : (shape b).run P w = .ok (some (t, C.size)) w := by
  show Result.ok (w.shape? b) w = _
  unfold World.shape?
  rw [h]
theorem run_seenAt_cells {w : World} {b o : Nat} {C : Array Value} {t : TypeId} {fz : Nat × Nat} (h : w.heap[b]? = some (.cells C t fz)) : (Conv.seenAt ⟨b, o, none⟩).run P w = .ok ⟨b, o, none⟩ w := by
  unfold Conv.seenAt viewAt
  rw [Sem.run_bind, Sem.run_bind, run_shape_cells h, Result.andThen_ok]
  rfl
theorem run_variablesAt0 {b : Nat} {e : TypeId} {C : Array Value} {fz : Nat × Nat} (h : w.heap[b]? = some (.cells C e fz)) (he : 0 < P.cellsOf e) (hn : P.cellsOf e ≤ C.size) : (variablesAt ⟨b, 0, none⟩ e 1).run P w = .ok true w := by
  obtain ⟨d, hd⟩ : ∃ d, P.depth = d + 1 := ⟨2 * (P.types.size + Made.depth) + 1, rfl⟩
  unfold variablesAt
  have hp : (program).run P w = .ok P w := rfl
  rw [Sem.run_bind, hp, Result.andThen_ok, Sem.run_bind, run_shape_cells h, Result.andThen_ok]
  dsimp only
  show Result.ok (liesAt P P.depth e (C.size / P.cellsOf e) 0 e 1) w = _
  congr 1
  have hsl : sameLayout P P.depth e e = true := by rw [hd]; unfold sameLayout; simp
  have hdiv : 1 ≤ C.size / P.cellsOf e := by rw [Nat.le_div_iff_mul_le he]; omega
  have hrow : rowAt P (sameLayout P P.depth · e) P.depth e (C.size / P.cellsOf e) 0 1 = true := by
    conv => lhs; arg 3; rw [hd]
    unfold rowAt
    simp [hsl, hdiv, he]
    omega
  conv => lhs; arg 2; rw [hd]
  unfold liesAt
  rw [hrow]
  rfl
theorem uptrE_sound (hR : RR P G M st w) {src dst : TypeId} {a a' v : Value} {rs : List Nat} (h : uptrE P st src dst a = some (v, rs)) (ha : VR M a a') :
    ∃ v', VR M v v' ∧ ∀ w', Sm M w rs w' → (convert src dst a').run P w' = .ok v' w' := by
  unfold uptrE at h
  split at h
  · rename_i t i off hs hd
    split at h
    · rename_i c bt opn s ro p vv d hg ht
      split at h
      · rename_i hc
        rw [Bool.and_eq_true, Nat.blt_eq, Nat.blt_eq] at hc
        cases h
        obtain ⟨L, hL, hB⟩ := hR.blk i _ _ hg
        cases ha with
        | flat hf => simp [flatV] at hf
        | ptr hL' =>
          rename_i L'
          rw [hL] at hL'; cases hL'
          obtain ⟨_, C, fz, hC, hsz, hcl, _⟩ := hB
          refine ⟨_, .ptr hL, fun w' hw' => ?_⟩
          have hC' := (hw' i (by simp) L hL).trans hC
          unfold convert
          rw [Sem.run_bind, run_underlying hs, Result.andThen_ok, Sem.run_bind, run_underlying hd, Result.andThen_ok]
          dsimp only
          unfold Conv.unsafePointer
          rw [Sem.run_bind, run_underlying hs, Result.andThen_ok, Sem.run_bind, run_underlying hd, Result.andThen_ok]
          dsimp only
          rw [Sem.run_bind, run_seenAt_cells hC', Result.andThen_ok]
          unfold cellsIn
          rw [Sem.run_bind, Sem.run_bind, run_shape_cells hC', Result.andThen_ok]
          dsimp only
          rw [Sem.run_pure, Result.andThen_ok, Sem.run_bind, run_sizeOf_u ht, Result.andThen_ok]
          have h1 : ¬ (L.o + off ≥ C.size) := by omega
          have h2 : ¬ (P.cellsOf t = 0) := by omega
          simp [h1, h2]
      · cases h
    · cases h
  · rename_i u i hs hd
    split at h
    · rename_i c bt s ro p vv d hg ht
      split at h
      · rename_i hc
        rw [Bool.and_eq_true, Bool.and_eq_true, Nat.blt_eq, Nat.beq_eq, Nat.ble_eq] at hc
        obtain ⟨⟨e, h0⟩, hle⟩ := hc
        subst e
        cases h
        obtain ⟨L, hL, hB⟩ := hR.blk i _ _ hg
        cases ha with
        | flat hf => simp [flatV] at hf
        | ptr hL' =>
          rename_i L'
          rw [hL] at hL'; cases hL'
          obtain ⟨q0, C, fz, hC, hsz, hcl, hex, _⟩ := hB
          have hLo := (hex q0).1
          refine ⟨_, .ptr hL, fun w' hw' => ?_⟩
          have hC' := (hw' i (by simp) L hL).trans hC
          rw [hLo]
          unfold convert
          rw [Sem.run_bind, run_underlying hs, Result.andThen_ok, Sem.run_bind, run_underlying hd, Result.andThen_ok]
          dsimp only
          unfold Conv.unsafePointer
          rw [Sem.run_bind, run_underlying hs, Result.andThen_ok, Sem.run_bind, run_underlying hd, Result.andThen_ok]
          dsimp only
          rw [Sem.run_bind, run_seenAt_cells hC', Result.andThen_ok, Sem.run_bind, run_sizeOf_u ht, Result.andThen_ok]
          rw [Sem.run_bind, run_variablesAt0 hC' h0 (by omega), Result.andThen_ok]
          simp
      · cases h
    · cases h
  · cases h
def capE (P : Program) (st : St) (t : TypeId) (a : Value) : Option (Value × List Nat) :=
  match P.underlying t, a with
  | some (.slice _), .slice none 0 0 => some (.int .i64 0, [])
  | some (.slice _), .slice (some ⟨i, off, none⟩) _ cap => (match st.h.get i with
    | some (.cells _ _ false _ _ _, _) => some (.int .i64 cap, [])
    | _ => none)
  | _, _ => none
theorem capE_sound (hR : RR P G M st w) {t tt : TypeId} {a a' v : Value} {rs : List Nat} (h : capE P st t a = some (v, rs)) (ha : VR M a a') :
    ∃ v', VR M v v' ∧ ∀ w', Sm M w rs w' → (Builtin.cap_ #[t] tt #[a']).run P w' = .ok v' w' := by
  unfold capE at h
  split at h
  · rename_i el hd
    have := ha.flat_eq rfl; subst this
    cases h
    refine ⟨_, .flat rfl, fun w' _ => ?_⟩
    unfold Builtin.cap_
    simp only [List.getElem?_toArray, List.getElem?_cons_zero]
    rw [Sem.run_bind, run_underlying hd, Result.andThen_ok]
    rfl
  · rename_i el i off len cap hd
    split at h
    · rename_i c bt s ro p vv hg
      cases h
      obtain ⟨L, hL, hB⟩ := hR.blk i _ _ hg
      cases ha with
      | flat hf => simp [flatV] at hf
      | slice hL' h1 h2 h3 h4 =>
        rename_i cap' L'
        rw [hL] at hL'; cases hL'
        have hc := h3 hB.1
        subst hc
        refine ⟨_, .flat rfl, fun w' _ => ?_⟩
        unfold Builtin.cap_
        simp only [List.getElem?_toArray, List.getElem?_cons_zero]
        rw [Sem.run_bind, run_underlying hd, Result.andThen_ok]
        rfl
    · cases h
  · cases h
end
end Go.Wx
end PEv8b
/- The evaluator: all operations that only read. -/
noncomputable section PEv9
set_option linter.unusedVariables false
set_option linter.unusedSimpArgs false
namespace Go.Wx
open Go.RowKit
section
variable {P : Program} {M : Mp} {G : Nat} {st : St} {w : World}
def nl : Option Value → Option (Value × List Nat)
  | some v => some (v, [])
  | none => none
def listO (e : Operand → Option Value) : List Operand → Option (List Value)
  | [] => some []
  | x :: l => match e x, listO e l with
    | some v, some r => some (v :: r)
    | _, _ => none
theorem listO_sound {e : Operand → Option Value} {ρ : Operand → Value} (he : ∀ x v, e x = some v → VR M v (ρ x)) : ∀ {l : List Operand} {r : List Value}, listO e l = some r → VRs M r (l.map ρ)
  | [], r, h => by cases h; exact .nil
  | x :: l, r, h => by
    unfold listO at h
    split at h
    · rename_i v r' h1 h2
      cases h
      exact .cons (he _ _ h1) (listO_sound he h2)
    · cases h
def partsO (e : Operand → Option Value) : List (Nat × Operand) → Option (List (Nat × Value))
  | [] => some []
  | (i, x) :: l => match e x, partsO e l with
    | some v, some r => some ((i, v) :: r)
    | _, _ => none
theorem partsO_sound {e : Operand → Option Value} {ρ : Operand → Value} (he : ∀ x v, e x = some v → VR M v (ρ x)) : ∀ {l : List (Nat × Operand)} {r : List (Nat × Value)}, partsO e l = some r → PR M r (l.map fun (i, x) => (i, ρ x))
  | [], r, h => by cases h; exact .nil
  | (i, x) :: l, r, h => by
    unfold partsO at h
    split at h
    · rename_i v r' h1 h2
      cases h
      exact .cons (he _ _ h1) (partsO_sound he h2)
    · cases h
def optO (e : Operand → Option Value) : Option Operand → Option (Option Value)
  | none => some none
  | some x => match e x with
    | some v => some (some v)
    | none => none
theorem optO_sound {e : Operand → Option Value} {ρ : Operand → Value} (he : ∀ x v, e x = some v → VR M v (ρ x)) {x : Option Operand} {r : Option Value} (h : optO e x = some r) : VRo M r (x.map ρ) := by
  cases x with
  | none => cases h; trivial
  | some x =>
    simp only [optO] at h
    cases hv : e x with
    | none => rw [hv] at h; cases h
    | some v =>
      rw [hv] at h
      cases h
      exact he _ _ hv
def rdB (P : Program) (st : St) (e : Operand → Option Value) (b : Builtin) (args : List Operand) (ats : List TypeId) : Option (Value × List Nat) :=
  match b, args, ats with
  | .len, [x], [t] => match e x with
    | some a => lenE P st t a
    | none => none
  | .cap, [x], [t] => match e x with
    | some a => capE P st t a
    | none => none
  | .min, x :: l, _ => match e x, listO e l with
    | some (.int k n), some r => nl (mmE false (.int k n) r)
    | _, _ => none
  | .max, x :: l, _ => match e x, listO e l with
    | some (.int k n), some r => nl (mmE true (.int k n) r)
    | _, _ => none
  | .unsafeSliceData, [x], _ => match e x with
    | some (.slice (some ⟨i, off, none⟩) _ (c + 1)) => some (.pointer (some ⟨i, off, none⟩), [])
    | some (.slice none _ _) => some (.pointer none, [])
    | _ => none
  | _, _, _ => none
def rdOp (P : Program) (st : St) (e : Operand → Option Value) (op : Op) : Option (Value × List Nat) :=
  match op with
  | .move x => nl (e x)
  | .assign x => nl (e x)
  | .pick c a b => match e c with
    | some (.bool t) => nl (e (if t then a else b))
    | _ => none
  | .binOp op t x y _ => match e x, e y with
    | some a, some b => (match binE P op t x y a b with
      | some v => some (v, [])
      | none => nl (eqX P op t a b))
    | _, _ => none
  | .unOp op _ x => match e x with
    | some a => nl (unE op a)
    | none => none
  | .convert src dst x => match e x with
    | some a => match cvE P src dst a with
      | some v => some (v, [])
      | none => (match b2sE P st src dst a with
        | some r => some r
        | none => uptrE P st src dst a)
    | none => none
  | .makeInterface t x => match e x with
    | some a => nl (ifaceE P t a)
    | none => none
  | .makeFunc fn first cap => if fnOk fn then (match listO e first.toList, listO e cap.toList with
    | some f, some c => some (.func fn ⟨f⟩ ⟨c⟩, [])
    | _, _ => none) else none
  | .field t x f => match e x with
    | some a => nl (fieldE P t a f)
    | none => none
  | .index t x i => match e x, e i with
    | some a, some b => nl (indexE P t a b)
    | _, _ => none
  | .fieldAddr t x f => match e x with
    | some a => nl (fieldAddrE P t a f)
    | none => none
  | .indexAddr t x i => match e x, e i with
    | some a, some b => nl (indexAddrE P t a b)
    | _, _ => none
  | .extract x i => match e x with
    | some a => nl (extractE a i)
    | none => none
  | .load t x => match e x with
    | some a => ldE P st t a
    | none => none
  | .lookup t x k ok => match e x, e k with
    | some a, some b => lookupE P st t a b ok
    | _, _ => none
  | .typeAssert x xt t ok => match e x with
    | some a => nl (assertE P a xt t ok)
    | none => none
  | .slice t x lo hi none => match e x, optO e lo, optO e hi with
    | some a, some l, some h => nl (sliceE P st t a l h)
    | _, _, _ => none
  | .build t parts => match partsO e parts.toList with
    | some ps => nl (buildE P t ps)
    | none => none
  | .nilCheck x => match e x with
    | some a => nl (nilcE a)
    | none => none
  | .call ⟨.builtin b, args, ats⟩ => rdB P st e b args.toList ats.toList
  | _ => none
theorem nl_some {x : Option Value} {v : Value} {rs : List Nat} (h : nl x = some (v, rs)) : x = some v ∧ rs = [] := by
  cases x with
  | none => cases h
  | some u => cases h; exact ⟨rfl, rfl⟩
theorem run_v {s : Sem Value} {v : Value} {w w' : World} (h : s.run P w = .ok v w') : (do pure (Next.value (← s)) : Sem Next).run P w = .ok (.value v) w' := by
  rw [Sem.run_bind, h, Result.andThen_ok]; rfl
theorem run_resolve_b (ρ : Operand → Value) (b : Builtin) (args : Array Operand) (ats : Array TypeId) (t : TypeId) (w : World) :
    (do let d ← resolve ρ ⟨.builtin b, args, ats⟩ t; invoke d.target d.args : Sem Next).run P w = (builtin b ats t (args.map fun | .const _ => true | _ => false) (args.map ρ)).run P w := by
  rw [Sem.run_bind]
  show Result.andThen (Result.ok _ w) _ = _
  rw [Result.andThen_ok]
  rfl
theorem rdB_sound (hR : RR P G M st w) {e : Operand → Option Value} {ρ : Operand → Value} (he : ∀ x v, e x = some v → VR M v (ρ x)) {b : Builtin} {args : Array Operand} {ats : Array TypeId} {t : TypeId} {v : Value} {rs : List Nat}
    (h : rdB P st e b args.toList ats.toList = some (v, rs)) : ∃ v', VR M v v' ∧ ∀ w', Sm M w rs w' → ∀ cs, (builtin b ats t cs (args.map ρ)).run P w' = .ok (.value v') w' := by
  unfold rdB at h
  split at h
  · rename_i x ty ha hty
    split at h
    · rename_i a hx
      obtain ⟨v', h1, h2⟩ := lenE_sound (tt := t) hR h (he _ _ hx)
      refine ⟨v', h1, fun w' hw' cs => ?_⟩
      rw [show args = #[x] from Array.toList_inj.1 ha, show ats = #[ty] from Array.toList_inj.1 hty]
      refine run_v ?_
      show (Builtin.len_ #[ty] t (Array.map ρ #[x])).run P w' = _
      rw [show Array.map ρ #[x] = #[ρ x] from by simp]
      exact h2 w' hw'
    · cases h
  · rename_i x ty ha hty
    split at h
    · rename_i a hx
      obtain ⟨v', h1, h2⟩ := capE_sound (tt := t) hR h (he _ _ hx)
      refine ⟨v', h1, fun w' hw' cs => ?_⟩
      rw [show args = #[x] from Array.toList_inj.1 ha, show ats = #[ty] from Array.toList_inj.1 hty]
      refine run_v ?_
      show (Builtin.cap_ #[ty] t (Array.map ρ #[x])).run P w' = _
      rw [show Array.map ρ #[x] = #[ρ x] from by simp]
      exact h2 w' hw'
    · cases h
  · rename_i x l ha
    split at h
    · rename_i k n r hx hl
      obtain ⟨h1, rfl⟩ := nl_some h
      have hxv := (he _ _ hx).int
      obtain ⟨f1, f2⟩ := mmE_min (M := M) (P := P) r (l.map ρ) _ v ⟨k, n, rfl⟩ h1 (listO_sound he hl)
      refine ⟨v, .flat f1, fun w' _ cs => run_v ?_⟩
      show (Builtin.min_ ats t (args.map ρ)).run P w' = _
      unfold Builtin.min_
      rw [Array.toList_map, ha, List.map_cons, hxv]
      exact f2 w'
    · cases h
  · rename_i x l ha
    split at h
    · rename_i k n r hx hl
      obtain ⟨h1, rfl⟩ := nl_some h
      have hxv := (he _ _ hx).int
      obtain ⟨f1, f2⟩ := mmE_max (M := M) (P := P) r (l.map ρ) _ v ⟨k, n, rfl⟩ h1 (listO_sound he hl)
      refine ⟨v, .flat f1, fun w' _ cs => run_v ?_⟩
      show (Builtin.max_ ats t (args.map ρ)).run P w' = _
      unfold Builtin.max_
      rw [Array.toList_map, ha, List.map_cons, hxv]
      exact f2 w'
    · cases h
  · rename_i x ha
    split at h
    · rename_i i off ln c hx
      cases h
      have hv := he _ _ hx
      rw [show args = #[x] from Array.toList_inj.1 ha]
      generalize hρ : ρ x = y at hv
      cases hv with
      | flat hf => simp [flatV] at hf
      | slice hL h1 h2 h3 h4 =>
        rename_i cap' L
        refine ⟨.pointer (some ⟨L.b, L.o + off, none⟩), .ptr hL, fun w' _ cs => run_v ?_⟩
        show (Builtin.unsafeSliceData_ ats t (#[x].map ρ)).run P w' = _
        rw [show #[x].map ρ = #[.slice (some ⟨L.b, L.o + off, none⟩) ln cap'] from by simp [hρ]]
        show (if cap' ≠ 0 then (pure (.pointer (some ⟨L.b, L.o + off, none⟩)) : Sem Value) else _).run P w' = _
        rw [if_pos (by omega)]
        rfl
    · rename_i ln c hx
      cases h
      have hv := he _ _ hx
      rw [show args = #[x] from Array.toList_inj.1 ha]
      generalize hρ : ρ x = y at hv
      cases hv with
      | flat hf =>
        refine ⟨.pointer none, .flat rfl, fun w' _ cs => run_v ?_⟩
        show (Builtin.unsafeSliceData_ ats t (#[x].map ρ)).run P w' = _
        rw [show #[x].map ρ = #[.slice none ln c] from by simp [hρ]]
        rfl
    · cases h
  · cases h
theorem rdOp_sound (hR : RR P G M st w) {a : Act} {e : Operand → Option Value} (he : ∀ x v, e x = some v → VR M v (a.eval x)) {o : Oper} {v : Value} {rs : List Nat} (h : rdOp P st e o.op = some (v, rs)) :
    ∃ v', VR M v v' ∧ ∀ w', Sm M w rs w' → (execOp a.eval o).run P w' = .ok (.value v') w' := by
  obtain ⟨dst, op, ty, pos, after, guard⟩ := o
  dsimp only at h
  unfold rdOp at h
  split at h
  · obtain ⟨h1, rfl⟩ := nl_some h
    exact ⟨_, he _ _ h1, fun w' _ => rfl⟩
  · obtain ⟨h1, rfl⟩ := nl_some h
    exact ⟨_, he _ _ h1, fun w' _ => rfl⟩
  · rename_i c x y
    split at h
    · rename_i t hc
      obtain ⟨h1, rfl⟩ := nl_some h
      have hcb := (he _ _ hc).bool
      refine ⟨_, he _ _ h1, fun w' _ => ?_⟩
      unfold execOp
      dsimp only
      rw [hcb, Sem.run_bind]
      show Result.andThen (Result.ok t w') _ = _
      rw [Result.andThen_ok]
      cases t <;> rfl
    · cases h
  · split at h
    · rename_i op t x y yt a' b' hx hy
      split at h
      · rename_i u h1
        cases h
        have hs := fun w' => binE_sound (M := M) h1 (he _ _ hx) (he _ _ hy) w'
        exact ⟨_, .flat (hs w).1, fun w' _ => run_v (hs w').2⟩
      · obtain ⟨h1, rfl⟩ := nl_some h
        exact ⟨_, .flat (eqX_sound (M := M) (x := .tmp 0) (y := .tmp 0) h1 (he _ _ hx) (he _ _ hy) w).1, fun w' _ => run_v (eqX_sound (M := M) h1 (he _ _ hx) (he _ _ hy) w').2⟩
    · cases h
  · split at h
    · rename_i op t x a' hx
      obtain ⟨h1, rfl⟩ := nl_some h
      have hs := fun w' => unE_sound (P := P) (M := M) h1 (he _ _ hx) w'
      exact ⟨v, .flat (hs w).1, fun w' _ => run_v (hs w').2⟩
    · cases h
  · split at h
    · rename_i src dst x a' hx
      split at h
      · rename_i u hu
        cases h
        have hs := fun w' => cvE_sound (M := M) hu (he _ _ hx) w'
        exact ⟨_, .flat (hs w).1, fun w' _ => run_v (hs w').2⟩
      · split at h
        · rename_i r hb
          cases h
          obtain ⟨v', h1, h2⟩ := b2sE_sound hR hb (he _ _ hx)
          exact ⟨v', h1, fun w' hw' => run_v (h2 w' hw')⟩
        · obtain ⟨v', h1, h2⟩ := uptrE_sound hR h (he _ _ hx)
          exact ⟨v', h1, fun w' hw' => run_v (h2 w' hw')⟩
    · cases h
  · split at h
    · rename_i t x a' hx
      obtain ⟨h1, rfl⟩ := nl_some h
      obtain ⟨v', h1, h2⟩ := ifaceE_sound h1 (he _ _ hx)
      exact ⟨v', h1, fun w' _ => run_v (h2 w')⟩
    · cases h
  · rename_i fn first cap
    split at h
    case isFalse => cases h
    rename_i hok
    cases hf : listO e first.toList with
    | none => rw [hf] at h; cases h
    | some f =>
      cases hc : listO e cap.toList with
      | none => rw [hf, hc] at h; cases h
      | some c =>
        rw [hf, hc] at h
        cases h
        refine ⟨.func fn (first.map a.eval) (cap.map a.eval), .func hok ?_ ?_, fun w' _ => rfl⟩
        · rw [Array.toList_map]; exact listO_sound he hf
        · rw [Array.toList_map]; exact listO_sound he hc
  · split at h
    · rename_i t x f a' hx
      obtain ⟨h1, rfl⟩ := nl_some h
      obtain ⟨v', h1, h2⟩ := fieldE_sound h1 (he _ _ hx)
      exact ⟨v', h1, fun w' _ => run_v (h2 w')⟩
    · cases h
  · split at h
    · rename_i t x i a' b' hx hi
      obtain ⟨h1, rfl⟩ := nl_some h
      obtain ⟨v', h1, h2⟩ := indexE_sound h1 (he _ _ hx) (he _ _ hi)
      exact ⟨v', h1, fun w' _ => run_v (h2 w')⟩
    · cases h
  · split at h
    · rename_i t x f a' hx
      obtain ⟨h1, rfl⟩ := nl_some h
      obtain ⟨v', h1, h2⟩ := fieldAddrE_sound h1 (he _ _ hx)
      exact ⟨v', h1, fun w' _ => run_v (h2 w')⟩
    · cases h
  · split at h
    · rename_i t x i a' b' hx hi
      obtain ⟨h1, rfl⟩ := nl_some h
      obtain ⟨v', h1, h2⟩ := indexAddrE_sound h1 (he _ _ hx) (he _ _ hi)
      exact ⟨v', h1, fun w' _ => run_v (h2 w')⟩
    · cases h
  · split at h
    · rename_i x i a' hx
      obtain ⟨h1, rfl⟩ := nl_some h
      obtain ⟨v', h1, h2⟩ := extractE_sound (P := P) h1 (he _ _ hx)
      exact ⟨v', h1, fun w' _ => run_v (h2 w')⟩
    · cases h
  · split at h
    · rename_i t x a' hx
      obtain ⟨v', h1, h2⟩ := ldE_sound hR h (he _ _ hx)
      exact ⟨v', h1, fun w' hw' => run_v (h2 w' hw')⟩
    · cases h
  · split at h
    · rename_i t x k ok a' b' hx hk
      obtain ⟨v', h1, h2⟩ := lookupE_sound hR h (he _ _ hx) (he _ _ hk)
      exact ⟨v', h1, fun w' hw' => run_v (h2 w' hw')⟩
    · cases h
  · split at h
    · rename_i x xt t ok a' hx
      obtain ⟨h1, rfl⟩ := nl_some h
      obtain ⟨v', h1, h2⟩ := assertE_sound h1 (he _ _ hx)
      exact ⟨v', h1, fun w' _ => run_v (h2 w')⟩
    · cases h
  · split at h
    · rename_i t x lo hi a' l hh hx hlo hhi
      obtain ⟨h1, rfl⟩ := nl_some h
      obtain ⟨v', h1, h2⟩ := sliceE_sound hR h1 (he _ _ hx) (optO_sound he hlo) (optO_sound he hhi)
      exact ⟨v', h1, fun w' _ => run_v (h2 w')⟩
    · cases h
  · rename_i t parts
    cases hp : partsO e parts.toList with
    | none => rw [hp] at h; cases h
    | some ps =>
      rw [hp] at h
      obtain ⟨h1, rfl⟩ := nl_some h
      obtain ⟨v', h1, h2⟩ := buildE_sound h1 (partsO_sound he hp)
      refine ⟨v', h1, fun w' _ => run_v ?_⟩
      have := h2 w'
      rw [← Array.toList_map] at this
      exact this
  · rename_i x
    cases hx : e x with
    | none => rw [hx] at h; cases h
    | some a' =>
      rw [hx] at h
      obtain ⟨h1, rfl⟩ := nl_some h
      obtain ⟨v', h1, h2⟩ := nilcE_sound (P := P) h1 (he _ _ hx) (o := ⟨dst, .nilCheck x, ty, pos, after, guard⟩) rfl
      exact ⟨v', h1, fun w' _ => h2 w'⟩
  · rename_i b args ats
    obtain ⟨v', h1, h2⟩ := rdB_sound (t := ty) hR he h
    refine ⟨v', h1, fun w' hw' => ?_⟩
    exact (run_resolve_b a.eval b args ats ty w').trans (h2 w' hw' _)
  · cases h
end
end Go.Wx
end PEv9
/- The evaluator: how blocks turn. -/
noncomputable section PEv10
set_option linter.unusedVariables false
set_option linter.unusedSimpArgs false
namespace Go.Wx
open Go.RowKit
section
variable {P : Program} {M : Mp} {G : Nat} {st : St} {w w' : World}
theorem lt20 {i : Nat} (hR : RR P G M st w) (h : i < st.n) : i + 1 < 2 ^ 20 := by have := hR.lim; unfold bigN at this; omega
theorem RR.lt (hR : RR P G M st w) {i : Nat} {x : AB × Nat} (h : st.h.get i = some x) : i < st.n := by
  obtain ⟨L, hL, _⟩ := hR.blk i x.1 x.2 h
  exact (hR.dom i L hL).1
theorem St.get_put (st : St) (i j : Nat) (ab : AB) (h : i + 1 < 2 ^ 20) : (st.put i ab).h.get j = if j = i then some (ab, st.clk + 1) else st.h.get j := Tr.get_set 20 st.h i _ j h
theorem St.ver_put (st : St) (i j : Nat) (ab : AB) (h : i + 1 < 2 ^ 20) : (st.put i ab).ver j = if j = i then st.clk + 1 else st.ver j := by
  unfold St.ver
  rw [St.get_put st i j ab h]
  by_cases e : j = i
  · simp only [e, if_true]
  · simp only [e, if_false]
theorem St.get_new (st : St) (j : Nat) (ab : AB) (h : st.n + 1 < 2 ^ 20) : (st.new ab).h.get j = if j = st.n then some (ab, st.clk + 1) else st.h.get j := Tr.get_set 20 st.h st.n _ j h
theorem St.ver_new (st : St) (j : Nat) (ab : AB) (h : st.n + 1 < 2 ^ 20) : (st.new ab).ver j = if j = st.n then st.clk + 1 else st.ver j := by
  unfold St.ver
  rw [St.get_new st j ab h]
  by_cases e : j = st.n
  · simp only [e, if_true]
  · simp only [e, if_false]
/-- One block of a world is turned (or none). -/
structure Upd (w w' : World) (b : Nat) : Prop where
  oth : ∀ b', b' ≠ b → w'.heap[b']? = w.heap[b']?
  size : w'.heap.size = w.heap.size
  os : w'.os = w.os
  tape : w'.tape = w.tape
  output : w'.output = w.output
theorem Upd.refl (w : World) (b : Nat) : Upd w w b := ⟨fun _ _ => rfl, rfl, rfl, rfl, rfl⟩
theorem Upd.trans {w1 w2 w3 : World} {b : Nat} (h : Upd w1 w2 b) (k : Upd w2 w3 b) : Upd w1 w3 b :=
  ⟨fun b' hb => (k.oth b' hb).trans (h.oth b' hb), k.size.trans h.size, k.os.trans h.os, k.tape.trans h.tape, k.output.trans h.output⟩
/-- A block dies. -/
theorem St.get_drop (st : St) (i v j : Nat) (h : i + 1 < 2 ^ 20) : (st.drop i v).h.get j = if j = i then some (.dead, v) else st.h.get j := Tr.get_set 20 st.h i _ j h
theorem RR.kill (hR : RR P G M st w) {p : Nat} {x : AB × Nat} (hp : st.h.get p = some x) : RR P G M (st.drop p x.2) w ∧ Stp M st w M (st.drop p x.2) w := by
  have hlt := lt20 hR (hR.lt hp)
  obtain ⟨L, hL, _⟩ := hR.blk p x.1 x.2 hp
  have hg := fun j => St.get_drop st p x.2 j hlt
  have hv : ∀ j, (st.drop p x.2).ver j = st.ver j := fun j => by
    unfold St.ver
    rw [hg]
    by_cases e : j = p
    · subst e; simp only [if_true, hp]
    · simp only [e, if_false]
  refine ⟨⟨hR.dom, ?_, ?_, hR.lim, ?_, ?_, hR.glob, ?_⟩, ⟨.refl M, fun i L h h' => (by rw [h] at h'; cases h'), rfl, rfl, rfl, Nat.le_refl _, Nat.le_refl _, fun i => (by rw [hv]; exact Nat.le_refl _), Nat.le_refl _, fun _ _ => .inl rfl, fun j y h1 h2 h3 => ?_, fun _ _ _ _ _ _ _ => rfl⟩⟩
  · intro i ab v h
    rw [hg] at h
    split at h
    · rename_i e; subst e; cases h; exact ⟨L, hL, trivial⟩
    · exact hR.blk i ab v h
  · intro i
    rw [hv]
    exact hR.ver i
  · intro i j ab bb vi vj Li Lj h1 h2 l1 l2
    rw [hg] at h1 h2
    split at h1
    · cases h1; cases l1
    · split at h2
      · cases h2; cases l2
      · exact hR.sep i j ab bb vi vj Li Lj h1 h2 l1 l2
  · intro i j ab bb vi vj h1 h2 l1 l2
    rw [hg] at h1 h2
    split at h1
    · cases h1; cases l1
    · split at h2
      · cases h2; cases l2
      · exact hR.par i j ab bb vi vj h1 h2 l1 l2
  · intro j bb v q h1 h2
    rw [hg] at h1
    split at h1
    · cases h1; cases h2
    · exact hR.plt j bb v q h1 h2
  · rw [hg] at h1
    split at h1
    · cases h1; cases h2
    · exact h1
/-- A block that is the only one at its place is turned. -/
theorem RR.turn (hR : RR P G M st w) {i : Nat} {ab ab' : AB} {v : Nat} {L : Loc} (hi : st.h.get i = some (ab, v)) (hl : ab.live = true) (hs : ab.stale = false)
    (hp : ∀ p, ab.par = some p → ∀ x, st.h.get p = some x → x.1.live = false) (hp' : ab'.par = none) (hL : M i = some L) (hb : BR P M w' L ab') (hw : Upd w w' L.b) :
    RR P G M (st.put i ab') w' ∧ Stp M st w M (st.put i ab') w' := by
  have hlt := lt20 hR (hR.lt hi)
  have hg := fun j => St.get_put st i j ab' hlt
  have hv := fun j => St.ver_put st i j ab' hlt
  have alone : ∀ j bb vj Lj, st.h.get j = some (bb, vj) → bb.live = true → M j = some Lj → Lj.b = L.b → j = i := by
    intro j bb vj Lj h1 l1 h2 e
    by_cases hji : j = i
    · exact hji
    · rcases hR.sep i j ab bb v vj L Lj hi h1 hl l1 hL h2 e.symm (Ne.symm hji) with h | h
      · have := hp j h _ h1; rw [l1] at this; cases this
      · have := hR.par i j ab bb v vj hi h1 hl l1 h; rw [hs] at this; cases this
  refine ⟨⟨fun j Lj h => ⟨(hR.dom j Lj h).1, by rw [hw.size]; exact (hR.dom j Lj h).2⟩, ?_, ?_, hR.lim, ?_, ?_, hR.glob, ?_⟩,
    ⟨.refl M, fun i L h h' => (by rw [h] at h'; cases h'), hw.os, hw.tape, hw.output, Nat.le_of_eq hw.size.symm, Nat.le_succ _, fun j => ?_, Nat.le_refl _, fun b hb => ?_, fun j x h1 h2 h3 => ?_, fun j x Lj h1 h2 h3 h4 => ?_⟩⟩
  · intro j bb vj h
    rw [hg] at h
    split at h
    · rename_i e; subst e; cases h; exact ⟨L, hL, hb⟩
    · rename_i hne
      obtain ⟨Lj, h1, h2⟩ := hR.blk j bb vj h
      refine ⟨Lj, h1, ?_⟩
      cases hbl : bb.live with
      | false => cases bb <;> first | trivial | cases hbl
      | true =>
        refine BR.block (hw.oth Lj.b fun e => hne (alone j bb vj Lj h hbl h1 e)) h2
  · intro j
    rw [hv]
    show _ ≤ st.clk + 1
    split
    · exact Nat.le_refl _
    · exact Nat.le_trans (hR.ver j) (Nat.le_succ _)
  · intro j k bj bk vj vk Lj Lk h1 h2 l1 l2 m1 m2 e hne
    rw [hg] at h1 h2
    split at h1
    · rename_i e1; subst e1; cases h1
      split at h2
      · rename_i e2; exact (hne e2.symm).elim
      · rw [hL] at m1; cases m1
        exact (hne (alone k bk vk Lk h2 l2 m2 e.symm).symm).elim
    · split at h2
      · rename_i e2; subst e2; cases h2
        rw [hL] at m2; cases m2
        exact (hne (alone j bj vj Lj h1 l1 m1 e)).elim
      · exact hR.sep j k bj bk vj vk Lj Lk h1 h2 l1 l2 m1 m2 e hne
  · intro j k bj bk vj vk h1 h2 l1 l2 hpar
    rw [hg] at h1 h2
    split at h2
    · cases h2; rw [hp'] at hpar; cases hpar
    · split at h1
      · rename_i e1; subst e1
        have := hR.par j k ab bk v vk hi h2 hl l2 hpar
        rw [hs] at this; cases this
      · exact hR.par j k bj bk vj vk h1 h2 l1 l2 hpar
  · intro j bb v q h1 h2
    rw [hg] at h1
    split at h1
    · cases h1; rw [hp'] at h2; cases h2
    · exact hR.plt j bb v q h1 h2
  · rw [hv]
    split
    · exact Nat.le_trans (hR.ver j) (Nat.le_succ _)
    · exact Nat.le_refl _
  · by_cases e : b = L.b
    · refine .inr ⟨i, L, hL, e.symm, ?_⟩
      rw [hv, if_pos rfl]; exact Nat.lt_succ_self _
    · exact .inl (hw.oth b e)
  · rw [hg] at h1
    split at h1
    · cases h1; exact absurd h3 (Nat.not_succ_le_self _)
    · exact h1
  · rw [hg] at h1
    split at h1
    · cases h1; exact absurd h3 (Nat.not_succ_le_self _)
    · rename_i hne
      exact hw.oth Lj.b fun e => hne (alone j x.1 x.2 Lj h1 h2 h4 e)
/-- A block is made. -/
def Mp.add (M : Mp) (i : Nat) (L : Loc) : Mp := fun j => if j = i then some L else M j
theorem Mp.add_ext (hR : RR P G M st w) (L : Loc) : Ext M (M.add st.n L) := fun i Li h => by
  have := (hR.dom i Li h).1
  unfold Mp.add; rw [if_neg (by omega)]; exact h
theorem RR.made (hR : RR P G M st w) (hn : st.n < bigN) (hG : G ≤ st.n) {ab : AB} {o : Obj} {L : Loc} (hLb : L.b = w.heap.size) (hp : ∀ p, ab.par = some p → p < st.n ∧ ∀ x, st.h.get p = some x → x.1.stale = true) (hb : BR P (M.add st.n L) (w.alloc o) L ab) :
    RR P G (M.add st.n L) (st.new ab) (w.alloc o) ∧ Stp M st w (M.add st.n L) (st.new ab) (w.alloc o) := by
  have hlt : st.n + 1 < 2 ^ 20 := by unfold bigN at hn; omega
  have hg := fun j => St.get_new st j ab hlt
  have hv := fun j => St.ver_new st j ab hlt
  have hext := Mp.add_ext hR L
  have hsize : (w.alloc o).heap.size = w.heap.size + 1 := by simp
  have hold : ∀ b, b < w.heap.size → (w.alloc o).heap[b]? = w.heap[b]? := fun b hb => by
    show (w.heap.push o)[b]? = _
    rw [Array.getElem?_push, if_neg (by omega)]
  have hadd : ∀ j Lj, M.add st.n L j = some Lj → j ≠ st.n → M j = some Lj := fun j Lj h hne => by
    unfold Mp.add at h; rw [if_neg hne] at h; exact h
  have hself : M.add st.n L st.n = some L := by unfold Mp.add; rw [if_pos rfl]
  have notn : ∀ j x, st.h.get j = some x → j ≠ st.n := fun j x h => by have := hR.lt h; omega
  refine ⟨⟨?_, ?_, ?_, ?_, ?_, ?_, ?_, ?_⟩, ⟨hext, ?_, rfl, rfl, rfl, by omega, Nat.le_succ _, ?_, Nat.le_succ _, fun b hb => .inl (hold b hb), fun j x h1 h2 h3 => ?_, fun j x Lj h1 h2 h3 h4 => hold Lj.b (hR.dom j Lj h4).2⟩⟩
  · intro j Lj h
    by_cases e : j = st.n
    · subst e; rw [hself] at h; cases h; exact ⟨Nat.lt_succ_self _, by omega⟩
    · have := hR.dom j Lj (hadd j Lj h e)
      exact ⟨Nat.lt_succ_of_lt this.1, by omega⟩
  · intro j bb vj h
    rw [hg] at h
    split at h
    · rename_i e; subst e; cases h; exact ⟨L, hself, hb⟩
    · rename_i hne
      obtain ⟨Lj, h1, h2⟩ := hR.blk j bb vj h
      exact ⟨Lj, hext j Lj h1, (BR.block (hold Lj.b (hR.dom j Lj h1).2) h2).ext hext⟩
  · intro j
    rw [hv]
    show _ ≤ st.clk + 1
    split
    · exact Nat.le_refl _
    · exact Nat.le_trans (hR.ver j) (Nat.le_succ _)
  · show st.n + 1 ≤ bigN; omega
  · intro j k bj bk vj vk Lj Lk h1 h2 l1 l2 m1 m2 e hne
    rw [hg] at h1 h2
    split at h1
    · rename_i e1; subst e1
      split at h2
      · rename_i e2; exact (hne e2.symm).elim
      · rw [hself] at m1; cases m1
        have := (hR.dom k Lk (hadd k Lk m2 (notn k _ h2))).2
        omega
    · split at h2
      · rename_i e2; subst e2
        rw [hself] at m2; cases m2
        have := (hR.dom j Lj (hadd j Lj m1 (notn j _ h1))).2
        omega
      · exact hR.sep j k bj bk vj vk Lj Lk h1 h2 l1 l2 (hadd j Lj m1 (notn j _ h1)) (hadd k Lk m2 (notn k _ h2)) e hne
  · intro j k bj bk vj vk h1 h2 l1 l2 hpar
    rw [hg] at h1 h2
    split at h2
    · cases h2
      obtain ⟨p1, p2⟩ := hp j hpar
      split at h1
      · rename_i e1; omega
      · exact p2 _ h1
    · rename_i hk
      split at h1
      · rename_i e1; subst e1
        have := hR.plt k bk vk _ h2 hpar
        have := hR.lt h2
        omega
      · exact hR.par j k bj bk vj vk h1 h2 l1 l2 hpar
  · intro g Lg hgG h
    exact hR.glob g Lg hgG (hadd g Lg h (by omega))
  · intro j bb v q h1 h2
    rw [hg] at h1
    split at h1
    · rename_i e; subst e; cases h1; exact (hp q h2).1
    · exact hR.plt j bb v q h1 h2
  · intro j Lj h1 h2
    by_cases e : j = st.n
    · subst e; rw [hself] at h1; cases h1; exact .inl (by omega)
    · have := hadd j Lj h1 e; rw [h2] at this; cases this
  · intro j
    rw [hv]
    split
    · exact Nat.le_trans (hR.ver j) (Nat.le_succ _)
    · exact Nat.le_refl _
  · rw [hg] at h1
    split at h1
    · cases h1; exact absurd h3 (Nat.not_succ_le_self _)
    · exact h1
end
end Go.Wx
end PEv10
/- The evaluator: a block that may have grown in place; stores. -/
noncomputable section PEv11
set_option linter.unusedVariables false
set_option linter.unusedSimpArgs false
namespace Go.Wx
open Go.RowKit
section
variable {P : Program} {M : Mp} {G : Nat} {st : St} {w w' : World}
theorem RR.fork (hR : RR P G M st w) (hn : st.n < bigN) (hG : G ≤ st.n) {i : Nat} {ab ai am : AB} {v : Nat} {L Lm : Loc} (hi : st.h.get i = some (ab, v)) (hl : ab.live = true) (hs : ab.stale = false)
    (hp : ∀ p, ab.par = some p → ∀ x, st.h.get p = some x → x.1.live = false) (hL : M i = some L) (hai : ai.par = none) (hst : ai.stale = true) (ham : am.par = some i) (hLm : Lm.b = L.b)
    (b1 : BR P (M.add st.n Lm) w' L ai) (b2 : BR P (M.add st.n Lm) w' Lm am) (hw : Upd w w' L.b) :
    RR P G (M.add st.n Lm) ((st.put i ai).new am) w' ∧ Stp M st w (M.add st.n Lm) ((st.put i ai).new am) w' := by
  have hlti := lt20 hR (hR.lt hi)
  have hin : i ≠ st.n := by have := hR.lt hi; omega
  have hlt : st.n + 1 < 2 ^ 20 := by unfold bigN at hn; omega
  have hg : ∀ j, ((st.put i ai).new am).h.get j = if j = st.n then some (am, st.clk + 1 + 1) else if j = i then some (ai, st.clk + 1) else st.h.get j := fun j => by
    rw [St.get_new (st.put i ai) j am hlt, St.get_put st i j ai hlti]
    rfl
  have hv : ∀ j, ((st.put i ai).new am).ver j = if j = st.n then st.clk + 1 + 1 else if j = i then st.clk + 1 else st.ver j := fun j => by
    rw [St.ver_new (st.put i ai) j am hlt, St.ver_put st i j ai hlti]
    rfl
  have hclk : ((st.put i ai).new am).clk = st.clk + 1 + 1 := rfl
  have hnn : ((st.put i ai).new am).n = st.n + 1 := rfl
  have hext := Mp.add_ext hR Lm
  have hadd : ∀ j Lj, M.add st.n Lm j = some Lj → j ≠ st.n → M j = some Lj := fun j Lj h hne => by
    unfold Mp.add at h; rw [if_neg hne] at h; exact h
  have hself : M.add st.n Lm st.n = some Lm := by unfold Mp.add; rw [if_pos rfl]
  have notn : ∀ j x, st.h.get j = some x → j ≠ st.n := fun j x h => by have := hR.lt h; omega
  have hLb := (hR.dom i L hL).2
  have alone : ∀ j bb vj Lj, st.h.get j = some (bb, vj) → bb.live = true → M j = some Lj → Lj.b = L.b → j = i := by
    intro j bb vj Lj h1 l1 h2 e
    by_cases hji : j = i
    · exact hji
    · rcases hR.sep i j ab bb v vj L Lj hi h1 hl l1 hL h2 e.symm (Ne.symm hji) with h | h
      · have := hp j h _ h1; rw [l1] at this; cases this
      · have := hR.par i j ab bb v vj hi h1 hl l1 h; rw [hs] at this; cases this
  refine ⟨⟨?_, ?_, ?_, ?_, ?_, ?_, ?_, ?_⟩, ⟨hext, ?_, hw.os, hw.tape, hw.output, Nat.le_of_eq hw.size.symm, by rw [hclk]; omega, ?_, by rw [hnn]; omega, ?_, fun j x h1 h2 h3 => ?_, fun j x Lj h1 h2 h3 h4 => ?_⟩⟩
  · intro j Lj h
    rw [hnn, hw.size]
    by_cases e : j = st.n
    · subst e; rw [hself] at h; cases h; exact ⟨Nat.lt_succ_self _, by omega⟩
    · have := hR.dom j Lj (hadd j Lj h e)
      exact ⟨by omega, this.2⟩
  · intro j bb vj h
    rw [hg] at h
    split at h
    · rename_i e; subst e; cases h; exact ⟨Lm, hself, b2⟩
    · split at h
      · rename_i e; subst e; cases h; exact ⟨L, hext _ L hL, b1⟩
      · rename_i hne hni
        obtain ⟨Lj, h1, h2⟩ := hR.blk j bb vj h
        refine ⟨Lj, hext j Lj h1, ?_⟩
        cases hbl : bb.live with
        | false => cases bb <;> first | trivial | cases hbl
        | true => exact (BR.block (hw.oth Lj.b fun e => hni (alone j bb vj Lj h hbl h1 e)) h2).ext hext
  · intro j
    rw [hv, hclk]
    have := hR.ver j
    split
    · omega
    · split <;> omega
  · rw [hnn]; omega
  · intro j k bj bk vj vk Lj Lk h1 h2 l1 l2 m1 m2 e hne
    rw [hg] at h1 h2
    split at h1
    · rename_i e1; subst e1; cases h1
      rw [hself] at m1; cases m1
      split at h2
      · rename_i e2; exact (hne e2.symm).elim
      · split at h2
        · rename_i e2; subst e2; exact .inl ham
        · rename_i hkn hki
          exact (hki (alone k bk vk Lk h2 l2 (hadd k Lk m2 hkn) (e.symm.trans hLm))).elim
    · rename_i hjn
      split at h2
      · rename_i e2; subst e2; cases h2
        rw [hself] at m2; cases m2
        split at h1
        · rename_i e1; subst e1; exact .inr ham
        · rename_i hji
          exact (hji (alone j bj vj Lj h1 l1 (hadd j Lj m1 hjn) (e.trans hLm))).elim
      · rename_i hkn
        have m1' := hadd j Lj m1 hjn
        have m2' := hadd k Lk m2 hkn
        split at h1
        · rename_i e1; subst e1
          rw [hL] at m1'; cases m1'
          split at h2
          · rename_i e2; exact (hne e2.symm).elim
          · rename_i hki; exact (hki (alone k bk vk Lk h2 l2 m2' e.symm)).elim
        · rename_i hji
          split at h2
          · rename_i e2; subst e2
            rw [hL] at m2'; cases m2'
            exact (hji (alone j bj vj Lj h1 l1 m1' e)).elim
          · exact hR.sep j k bj bk vj vk Lj Lk h1 h2 l1 l2 m1' m2' e hne
  · intro j k bj bk vj vk h1 h2 l1 l2 hpar
    rw [hg] at h1 h2
    split at h2
    · rename_i e2; subst e2; cases h2
      rw [ham] at hpar; cases hpar
      rw [if_neg hin, if_pos rfl] at h1
      cases h1; exact hst
    · split at h2
      · cases h2; rw [hai] at hpar; cases hpar
      · rename_i hkn hki
        split at h1
        · rename_i e1; subst e1
          have := hR.plt k bk vk _ h2 hpar
          have := hR.lt h2
          omega
        · split at h1
          · rename_i e1; subst e1
            have := hR.par j k ab bk v vk hi h2 hl l2 hpar
            rw [hs] at this; cases this
          · exact hR.par j k bj bk vj vk h1 h2 l1 l2 hpar
  · intro g Lg hgG h
    exact hR.glob g Lg hgG (hadd g Lg h (by omega))
  · intro j bb vj q h1 h2
    rw [hg] at h1
    split at h1
    · rename_i e; subst e; cases h1; rw [ham] at h2; cases h2; exact hR.lt hi
    · split at h1
      · cases h1; rw [hai] at h2; cases h2
      · exact hR.plt j bb vj q h1 h2
  · intro j Lj h1 h2
    by_cases e : j = st.n
    · subst e; rw [hself] at h1; cases h1
      refine .inr ⟨i, L, hL, hLm.symm, ?_⟩
      rw [hv, if_neg hin, if_pos rfl]; omega
    · have := hadd j Lj h1 e; rw [h2] at this; cases this
  · intro j
    rw [hv]
    have := hR.ver j
    split
    · omega
    · split <;> omega
  · intro b hb
    by_cases e : b = L.b
    · refine .inr ⟨i, L, hL, e.symm, ?_⟩
      rw [hv, if_neg hin, if_pos rfl]; omega
    · exact .inl (hw.oth b e)
  · rw [hg] at h1
    split at h1
    · cases h1; dsimp only at h3; omega
    · split at h1
      · cases h1; dsimp only at h3; omega
      · exact h1
  · rw [hg] at h1
    split at h1
    · cases h1; dsimp only at h3; omega
    · split at h1
      · cases h1; dsimp only at h3; omega
      · rename_i hne
        exact hw.oth Lj.b fun e => hne (alone j x.1 x.2 Lj h1 h2 h4 e)

/-! ### Stores -/
def atomV : Value → Bool
  | .agg _ | .tuple _ => false
  | _ => true
theorem VR.atom {u v : Value} (h : VR M u v) : atomV v = atomV u := by cases h <;> rfl
theorem VRs.atom {u v : List Value} (h : VRs M u v) : v.all atomV = u.all atomV := by
  induction u generalizing v with
  | nil => cases h; rfl
  | cons a l ih => cases h with | cons h1 h2 => simp [h1.atom, ih h2]
theorem run_store1 {b o : Nat} {C : Array Value} {t : TypeId} {fz : Nat × Nat} {v : Value} (hC : w.heap[b]? = some (.cells C t fz)) (hv : atomV v = true) (ho : o < C.size) (hf : ¬ (fz.1 ≤ o ∧ o < fz.2)) :
    ∃ w', (store ⟨b, o, none⟩ v).run P w = .ok () w' ∧ w'.heap[b]? = some (.cells (C.setIfInBounds o v) t fz) ∧ Upd w w' b := by
  refine ⟨w.setCell ⟨b, o, none⟩ v, ?_, ?_, ⟨fun b' hb => ?_, by simp [World.setCell], rfl, rfl, rfl⟩⟩
  · have hc : w.cell? ⟨b, o, none⟩ = some (C[o]'ho) := by rw [cell?_of_heap hC]; simp [ho]
    have hfr : w.frozen? ⟨b, o, none⟩ = false := by
      obtain ⟨lo, hi⟩ := fz
      simp only [World.frozen?, hC]
      simp only [Bool.and_eq_false_iff, decide_eq_false_iff_not]
      by_cases h1 : lo ≤ o
      · exact .inr fun h2 => hf ⟨h1, h2⟩
      · exact .inl h1
    show (Sem.store .plain _ v (.pure ())).run P w = _
    cases v <;> first | (simp [atomV] at hv; done) | simp only [Sem.run, hc, hfr, Bool.false_eq_true, if_false]
  · simp [World.setCell, Array.getElem?_modify, hC]
  · simp only [World.setCell, Array.getElem?_modify]
    rw [if_neg (Ne.symm hb)]
theorem run_storeCells {b o : Nat} {t : TypeId} {fz : Nat × Nat} : ∀ (vs : List Value) (i : Nat) (w : World) (C : Array Value), w.heap[b]? = some (.cells C t fz) → vs.all atomV = true → o + i + vs.length ≤ C.size →
    (∀ j, o + i ≤ j → j < o + i + vs.length → ¬ (fz.1 ≤ j ∧ j < fz.2)) →
    ∃ w' C', (storeCells ⟨b, o, none⟩ vs i).run P w = .ok () w' ∧ w'.heap[b]? = some (.cells C' t fz) ∧ C'.toList = C.toList.take (o + i) ++ (vs ++ C.toList.drop (o + i + vs.length)) ∧ Upd w w' b
  | [], i, w, C, hC, _, _, _ => ⟨w, C, by simp [storeCells], hC, by simp, .refl w b⟩
  | v :: vs, i, w, C, hC, hv, hn, hf => by
    simp only [List.length_cons] at hn hf
    simp only [List.all_cons, Bool.and_eq_true] at hv
    obtain ⟨w1, r1, c1, u1⟩ := run_store1 (P := P) hC hv.1 (o := o + i) (by omega) (hf (o + i) (by omega) (by omega))
    obtain ⟨w2, C2, r2, c2, e2, u2⟩ := run_storeCells (b := b) (o := o) vs (i + 1) w1 (C.setIfInBounds (o + i) v) c1 hv.2 (by rw [Array.size_setIfInBounds]; omega) (fun j h1 h2 => hf j (by omega) (by omega))
    refine ⟨w2, C2, ?_, c2, ?_, u1.trans u2⟩
    · rw [storeCells, Sem.run_bind, Addr.add_spot, r1, Result.andThen_ok, r2]
    · rw [e2]
      have hset : (C.setIfInBounds (o + i) v).toList = C.toList.take (o + i) ++ v :: C.toList.drop (o + i + 1) := by
        rw [Array.toList_setIfInBounds, List.set_eq_take_append_cons_drop, if_pos (by simp; omega)]
      have hlen : (C.toList.take (o + i)).length = o + i := by simp; omega
      rw [hset, show o + (i + 1) = o + i + 1 from by omega]
      rw [List.take_append, hlen, List.take_of_length_le (by omega), show o + i + 1 - (o + i) = 1 from by omega]
      rw [List.drop_append, hlen, List.drop_eq_nil_of_le (by omega : (C.toList.take (o + i)).length ≤ o + i + 1 + vs.length), show o + i + 1 + vs.length - (o + i) = vs.length + 1 from by omega]
      simp only [List.drop_succ_cons, List.drop_drop, List.take_succ_cons, List.take_zero, List.nil_append, List.append_assoc, List.cons_append, List.length_cons]
      rw [show o + i + 1 + vs.length = o + i + (vs.length + 1) from by omega]
end
end Go.Wx
end PEv11
/- The evaluator: stores and new variables. -/
noncomputable section PEv12
set_option linter.unusedVariables false
set_option linter.unusedSimpArgs false
namespace Go.Wx
open Go.RowKit
section
variable {P : Program} {M : Mp} {G : Nat} {st : St} {w w' : World}
def St.killPar (st : St) (par : Option Nat) : St := match par with
  | none => st
  | some p => match st.h.get p with
    | some x => st.drop p x.2
    | none => st
/-- A write: the stale one at its place dies. -/
theorem RR.write (hR : RR P G M st w) {i : Nat} {ab ab' : AB} {v : Nat} {L : Loc} (hi : st.h.get i = some (ab, v)) (hl : ab.live = true) (hs : ab.stale = false)
    (hp' : ab'.par = none) (hL : M i = some L) (hb : BR P M w' L ab') (hw : Upd w w' L.b) :
    RR P G M ((st.killPar ab.par).put i ab') w' ∧ Stp M st w M ((st.killPar ab.par).put i ab') w' := by
  unfold St.killPar
  cases hpar : ab.par with
  | none => exact hR.turn hi hl hs (fun p e => by rw [hpar] at e; cases e) hp' hL hb hw
  | some p =>
    cases hgp : st.h.get p with
    | none =>
      simp only [hgp]
      exact hR.turn hi hl hs (fun q e x hx => by rw [hpar] at e; cases e; rw [hgp] at hx; cases hx) hp' hL hb hw
    | some x =>
      simp only [hgp]
      obtain ⟨k1, k2⟩ := hR.kill hgp
      have hne : i ≠ p := by have := hR.plt i ab v p hi hpar; omega
      have hltp := lt20 hR (hR.lt hgp)
      have hi' : (st.drop p x.2).h.get i = some (ab, v) := by rw [St.get_drop st p x.2 i hltp, if_neg hne]; exact hi
      obtain ⟨t1, t2⟩ := k1.turn hi' hl hs (fun q e y hx => by
        rw [hpar] at e; cases e
        rw [St.get_drop st p _ p hltp, if_pos rfl] at hx; cases hx; rfl) hp' hL hb hw
      exact ⟨t1, k2.trans t2⟩
theorem splice_get (l x : List Value) (a k : Nat) (h : a + x.length ≤ l.length) : (l.take a ++ (x ++ l.drop (a + x.length)))[k]? = if k < a then l[k]? else if k < a + x.length then x[k - a]? else l[k]? := by
  have hla : (l.take a).length = a := by simp; omega
  by_cases h1 : k < a
  · rw [if_pos h1, List.getElem?_append_left (by omega), List.getElem?_take_of_lt h1]
  · rw [if_neg h1, List.getElem?_append_right (by omega), hla]
    by_cases h2 : k < a + x.length
    · rw [if_pos h2, List.getElem?_append_left (by omega)]
    · rw [if_neg h2, List.getElem?_append_right (by omega), List.getElem?_drop]
      congr 1; omega
def splc (l x : List Value) (a : Nat) : List Value := l.take a ++ (x ++ l.drop (a + x.length))
theorem splc_len (l x : List Value) (a : Nat) (h : a + x.length ≤ l.length) : (splc l x a).length = l.length := by
  simp [splc]; omega
/-- Cells stored. -/
theorem cells_store {L : Loc} {c : List Value} {t : TypeId} {opn : Bool} (h : CellsR P M w L c t opn false) {vs vs' : List Value} {off : Nat} (hv : VRs M vs vs') (hat : vs.all atomV = true) (hn : off + vs.length ≤ c.length) :
    ∃ w', (storeCells ⟨L.b, L.o + off, none⟩ vs').run P w = .ok () w' ∧ Upd w w' L.b ∧ CellsR P M w' L (splc c vs off) t opn false := by
  obtain ⟨h0, C, fz, hC, hs, hcl, hex, hsz, hfz, hrel⟩ := h
  have hlen := hv.len
  have hCl : C.toList.length = C.size := Array.length_toList
  obtain ⟨w', C', r, c1, e, u⟩ := run_storeCells (P := P) (b := L.b) (o := L.o + off) vs' 0 w C hC (by rw [hv.atom]; exact hat) (by omega) (fun j h1 h2 => hfz rfl j (by omega) (by omega))
  rw [Nat.add_zero, hlen] at e
  have hCs : C'.size = C.size := by
    rw [← Array.length_toList, e, ← hlen]
    have := splc_len C.toList vs' (L.o + off) (by omega)
    unfold splc at this
    rw [this, Array.length_toList]
  refine ⟨w', r, u, h0, C', fz, c1, by rw [hCs]; exact hs, by rw [splc_len c vs off hn]; exact hcl, fun e => by rw [splc_len c vs off hn]; exact hex e, hsz, fun _ => hfz rfl, fun j v hj => ?_⟩
  rw [← Array.getElem?_toList, e, ← hlen, splice_get C.toList vs' (L.o + off) (L.o + j) (by omega)]
  unfold splc at hj
  rw [splice_get c vs off j hn] at hj
  by_cases h1 : j < off
  · rw [if_pos h1] at hj
    rw [if_pos (by omega), Array.getElem?_toList]
    exact hrel j v hj
  · rw [if_neg h1] at hj
    rw [if_neg (by omega)]
    by_cases h2 : j < off + vs.length
    · rw [if_pos h2] at hj
      rw [if_pos (by omega), show L.o + j - (L.o + off) = j - off from by omega]
      exact hv.get _ _ hj
    · rw [if_neg h2] at hj
      rw [if_neg (by omega), Array.getElem?_toList]
      exact hrel j v hj
/-- What a heavy operation leaves, soundly. -/
def Snd (P : Program) (G : Nat) (M : Mp) (st : St) (w : World) (s : Sem Value) (v : Value) (st' : St) : Prop :=
  ∃ M' v' w', s.run P w = .ok v' w' ∧ RR P G M' st' w' ∧ Stp M st w M' st' w' ∧ VR M' v v'
def storeE (P : Program) (st : St) (t : TypeId) (a v : Value) : Option St :=
  match a with
  | .pointer (some ⟨i, off, none⟩) => match P.underlying t, st.h.get i with
    | some _, some (.cells c bt opn false false par, _) =>
      if Nat.beq (vcells v).length (P.cellsOf t) && Nat.ble (off + (vcells v).length) c.length && (vcells v).all atomV then
        some ((st.killPar par).put i (.cells (splc c (vcells v) off) bt opn false false none)) else none
    | _, _ => none
  | _ => none
theorem storeE_sound (hR : RR P G M st w) {t : TypeId} {a a' v v' : Value} {st' : St} (h : storeE P st t a v = some st') (ha : VR M a a') (hv : VR M v v') :
    ∃ w', (Instr.storeAt t a' v').run P w = .ok () w' ∧ RR P G M st' w' ∧ Stp M st w M st' w' := by
  unfold storeE at h
  split at h
  · rename_i i off
    split at h
    · rename_i d c bt opn par vv hd hg
      split at h
      · rename_i hcond
        simp only [Bool.and_eq_true, Nat.beq_eq, Nat.ble_eq] at hcond
        obtain ⟨⟨hn, hle⟩, hat⟩ := hcond
        cases h
        cases ha with
        | flat hh => simp [flatV] at hh
        | ptr hL =>
          rename_i L
          obtain ⟨L', hL', hb⟩ := hR.blk i _ _ hg
          rw [hL] at hL'; cases hL'
          have hvc := hv.cells
          obtain ⟨w', r, u, hC⟩ := cells_store hb hvc hat hle
          have := hR.write hg rfl rfl (ab' := .cells (splc c (vcells v) off) bt opn false false none) rfl hL hC u
          refine ⟨w', ?_, this.1, this.2⟩
          simp only [Instr.storeAt, Instr.sureAddr, Sem.run_bind, Sem.run_pure, Result.andThen_ok]
          unfold storeVar
          rw [Sem.run_bind, run_sizeOf_u hd, Result.andThen_ok]
          have hsz : v'.cells.size = P.cellsOf t := by rw [← Array.length_toList, hvc.len]; exact hn
          rw [if_neg (by rw [hsz]; simp)]
          exact r
      · cases h
    · cases h
  · cases h
end
end Go.Wx
end PEv12
