/- The evaluator: proved calls that read blocks of shifted numbers, and that make blocks. -/
import Derived.Test.YtadmacldbhgijaaGreatDoorPfE
/- The evaluator: blocks by other numbers; proved calls that read blocks, and that make blocks. -/
noncomputable section PEv31
set_option linter.unusedVariables false
set_option linter.unusedSimpArgs false
namespace Go.Wx
open Go.RowKit
def ren (G s i : Nat) : Nat := match Nat.blt i G with
  | true => i
  | false => i + s
def rn0 (ρ : Nat → Nat) : Value → Value
  | .pointer (some ⟨i, o, none⟩) => forceN (ρ i) fun j => .pointer (some ⟨j, o, none⟩)
  | .slice (some ⟨i, o, none⟩) l c => forceN (ρ i) fun j => .slice (some ⟨j, o, none⟩) l c
  | .map (some i) => forceN (ρ i) fun j => .map (some j)
  | v => v
def rf0 (p : Nat → Bool) : Value → Bool
  | .pointer (some ⟨i, _, none⟩) => p i
  | .slice (some ⟨i, _, none⟩) _ _ => p i
  | .map (some i) => p i
  | .slice (some ⟨0, 0, some 0⟩) 0 0 => true
  | v => flatV v
def rnV : Nat → (Nat → Nat) → Value → Value
  | 0, ρ, v => rn0 ρ v
  | n + 1, ρ, v => match v with
    | .iface t x => .iface t (rnV n ρ x)
    | .agg l => .agg ⟨l.toList.map (rnV n ρ)⟩
    | .tuple l => .tuple ⟨l.toList.map (rnV n ρ)⟩
    | v => rn0 ρ v
def rfV : Nat → (Nat → Bool) → Value → Bool
  | 0, p, v => rf0 p v
  | n + 1, p, v => match v with
    | .iface _ x => rfV n p x
    | .agg l => l.toList.all (rfV n p)
    | .tuple l => l.toList.all (rfV n p)
    | v => rf0 p v
theorem rn0_fwd {M M' : Mp} {ρ : Nat → Nat} {p : Nat → Bool} (hM : ∀ i L, p i = true → M i = some L → M' (ρ i) = some L) {v v' : Value} (h : VR M v v') (hf : rf0 p v = true) : VR M' (rn0 ρ v) v' := by
  cases h with
  | flat hv =>
    have : rn0 ρ v = v := by
      unfold rn0
      split <;> first | rfl | (simp [flatV] at hv)
    rw [this]; exact .flat hv
  | ptr hL => simp only [rn0, forceN_eq]; exact .ptr (hM _ _ hf hL)
  | slice hL a b c d => simp only [rn0, forceN_eq]; exact .slice (hM _ _ hf hL) a b c d
  | sliceZ => exact .sliceZ
  | map hL => simp only [rn0, forceN_eq]; exact .map (hM _ _ hf hL)
  | yld hL => simp [rf0, flatV] at hf
  | func o a b => simp [rf0, flatV] at hf
  | iface a => simp [rf0, flatV] at hf
  | agg a => simp [rf0, flatV] at hf
  | tup a => simp [rf0, flatV] at hf
theorem rn0_bwd {M M' : Mp} {ρ : Nat → Nat} {p : Nat → Bool} (hM : ∀ i L, p i = true → M' (ρ i) = some L → M i = some L) {v v' : Value} (hf : rf0 p v = true) (h : VR M' (rn0 ρ v) v') : VR M v v' := by
  unfold rf0 at hf
  split at hf
  · simp only [rn0, forceN_eq] at h
    cases h with
    | flat hv => simp [flatV] at hv
    | ptr hL => exact .ptr (hM _ _ hf hL)
  · simp only [rn0, forceN_eq] at h
    rename_i i _ _ _
    obtain ⟨j, hj⟩ : ∃ j, j = ρ i := ⟨_, rfl⟩
    rw [← hj] at h
    cases h with
    | flat hv => simp [flatV] at hv
    | slice hL a b c d => exact .slice (hM _ _ hf (hj ▸ hL)) a b c d
  · simp only [rn0, forceN_eq] at h
    cases h with
    | flat hv => simp [flatV] at hv
    | map hL => exact .map (hM _ _ hf hL)
  · have h : VR M' (.slice (some ⟨0, 0, some 0⟩) 0 0) v' := h
    cases h with
    | flat hv => simp [flatV] at hv
    | sliceZ => exact .sliceZ
  · have : rn0 ρ v = v := by
      unfold rn0
      split <;> first | rfl | (simp [flatV] at hf)
    rw [this] at h
    rw [h.flat_eq hf]
    exact .flat hf
theorem VRs.of_map {M M' : Mp} {g : Value → Value} {q : Value → Bool} (h : ∀ v v', VR M v v' → q v = true → VR M' (g v) v') : ∀ {l l' : List Value}, VRs M l l' → l.all q = true → VRs M' (l.map g) l'
  | [], _, .nil, _ => .nil
  | a :: l, _, .cons h1 h2, hq => by
    rw [List.all_cons, Bool.and_eq_true] at hq
    exact .cons (h _ _ h1 hq.1) (VRs.of_map h h2 hq.2)
theorem VRs.of_map' {M M' : Mp} {g : Value → Value} {q : Value → Bool} (h : ∀ v v', q v = true → VR M' (g v) v' → VR M v v') : ∀ {l l' : List Value}, l.all q = true → VRs M' (l.map g) l' → VRs M l l'
  | [], _, _, .nil => .nil
  | a :: l, _, hq, .cons h1 h2 => by
    rw [List.all_cons, Bool.and_eq_true] at hq
    exact .cons (h _ _ hq.1 h1) (VRs.of_map' h hq.2 h2)
theorem rn_fwd {M M' : Mp} {ρ : Nat → Nat} {p : Nat → Bool} (hM : ∀ i L, p i = true → M i = some L → M' (ρ i) = some L) : ∀ (n : Nat) (v v' : Value), VR M v v' → rfV n p v = true → VR M' (rnV n ρ v) v'
  | 0, v, v', h, hf => rn0_fwd hM h hf
  | n + 1, v, v', h, hf => by
    unfold rfV at hf
    unfold rnV
    split at hf
    · cases h with
      | flat hv => simp [flatV] at hv
      | iface a => exact .iface (rn_fwd hM n _ _ a hf)
    · cases h with
      | flat hv => simp [flatV] at hv
      | agg a => exact .agg (VRs.of_map (rn_fwd hM n) a hf)
    · cases h with
      | flat hv => simp [flatV] at hv
      | tup a => exact .tup (VRs.of_map (rn_fwd hM n) a hf)
    · first
        | exact rn0_fwd hM h hf
        | (split <;> first | (simp [rf0, flatV] at hf; done) | exact rn0_fwd hM h hf)
theorem rn_bwd {M M' : Mp} {ρ : Nat → Nat} {p : Nat → Bool} (hM : ∀ i L, p i = true → M' (ρ i) = some L → M i = some L) : ∀ (n : Nat) (v v' : Value), rfV n p v = true → VR M' (rnV n ρ v) v' → VR M v v'
  | 0, v, v', hf, h => rn0_bwd hM hf h
  | n + 1, v, v', hf, h => by
    unfold rfV at hf
    split at hf
    · have h : VR M' (.iface _ (rnV n ρ _)) v' := h
      cases h with
      | flat hv => simp [flatV] at hv
      | iface a => exact .iface (rn_bwd hM n _ _ hf a)
    · have h : VR M' (.agg _) v' := h
      cases h with
      | flat hv => simp [flatV] at hv
      | agg a => exact .agg (VRs.of_map' (rn_bwd hM n) hf a)
    · have h : VR M' (.tuple _) v' := h
      cases h with
      | flat hv => simp [flatV] at hv
      | tup a => exact .tup (VRs.of_map' (rn_bwd hM n) hf a)
    · unfold rnV at h
      split at h <;> first | (simp [rf0, flatV] at hf; done) | exact rn0_bwd hM hf h
abbrev Blks := List (Nat × AB)
def optMap (ρ : Nat → Nat) : Option Nat → Option Nat
  | some i => forceN (ρ i) fun j => some j
  | none => none
theorem optMap_eq (ρ : Nat → Nat) (o : Option Nat) : optMap ρ o = o.map ρ := by cases o <;> simp [optMap, forceN_eq]
def rnA (ρ : Nat → Nat) : AB → AB
  | .cells c t o s r par => .cells (c.map (rnV 2 ρ)) t o s r (optMap ρ par)
  | _ => .dead
def rfA (p q : Nat → Bool) : AB → Bool
  | .cells c _ _ _ _ par => c.all (rfV 2 p) && (match par with
    | some i => q i
    | none => true)
  | _ => false
def basEqB : Value → Value → Bool
  | .pointer (some ⟨i, o, none⟩), .pointer (some ⟨j, q, none⟩) => Nat.beq i j && Nat.beq o q
  | .slice (some ⟨i, o, none⟩) l c, .slice (some ⟨j, q, none⟩) m d => Nat.beq i j && Nat.beq o q && Nat.beq l m && Nat.beq c d
  | .slice (some ⟨i, o, some x⟩) l c, .slice (some ⟨j, q, some y⟩) m d => Nat.beq i j && Nat.beq o q && Nat.beq l m && Nat.beq c d && Nat.beq x y
  | .map (some i), .map (some j) => Nat.beq i j
  | a, b => flatEqB a b
theorem basEqB_eq {a b : Value} (h : basEqB a b = true) : a = b := by
  unfold basEqB at h
  split at h <;> first
    | (simp only [Bool.and_eq_true, Nat.beq_eq] at h; simp only [h]; done)
    | exact flatEqB_eq h
def vpqN : Nat → Value → Value → Bool
  | 0, a, b => basEqB a b
  | n + 1, a, b => match a, b with
    | .agg x, .agg y => all2 (vpqN n) x.toList y.toList
    | .tuple x, .tuple y => all2 (vpqN n) x.toList y.toList
    | .iface t x, .iface u y => Nat.beq t u && vpqN n x y
    | a, b => basEqB a b
theorem vpqN_eq : ∀ (n : Nat) (a b : Value), vpqN n a b = true → a = b
  | 0, a, b, h => basEqB_eq h
  | n + 1, a, b, h => by
    unfold vpqN at h
    split at h
    · rw [Array.toList_inj.1 (all2_eq (vpqN_eq n) _ _ h)]
    · rw [Array.toList_inj.1 (all2_eq (vpqN_eq n) _ _ h)]
    · rw [Bool.and_eq_true, Nat.beq_eq] at h
      rw [h.1, vpqN_eq n _ _ h.2]
    · exact basEqB_eq h
def natOptB : Option Nat → Option Nat → Bool
  | some i, some j => Nat.beq i j
  | none, none => true
  | _, _ => false
def abEq : AB → AB → Bool
  | .cells c t o s r par, .cells c' t' o' s' r' par' => Nat.beq t t' && (match o, o' with
      | true, true => true
      | false, false => true
      | _, _ => false) && (match s, s' with
      | true, true => true
      | false, false => true
      | _, _ => false) && (match r, r' with
      | true, true => true
      | false, false => true
      | _, _ => false) && natOptB par par' && all2 (vpqN 2) c c'
  | _, _ => false
theorem natOptB_eq {a b : Option Nat} (h : natOptB a b = true) : a = b := by
  unfold natOptB at h
  split at h
  · rw [Nat.beq_eq] at h; rw [h]
  · rfl
  · cases h
theorem abEq_eq {a b : AB} (h : abEq a b = true) : a = b := by
  unfold abEq at h
  split at h
  · simp only [Bool.and_eq_true] at h
    obtain ⟨⟨⟨⟨⟨h1, h2⟩, h3⟩, h4⟩, h5⟩, h6⟩ := h
    rw [Nat.beq_eq] at h1
    rename_i c t o s r par c' t' o' s' r' par'
    have e2 : o = o' := by cases o <;> cases o' <;> first | rfl | cases h2
    have e3 : s = s' := by cases s <;> cases s' <;> first | rfl | cases h3
    have e4 : r = r' := by cases r <;> cases r' <;> first | rfl | cases h4
    rw [h1, e2, e3, e4, natOptB_eq h5, all2_eq (vpqN_eq 2) _ _ h6]
  · cases h
def inBl (B : Blks) (i : Nat) : Bool := B.any fun x => Nat.beq x.1 i
def hasB (ρ : Nat → Nat) (B : Blks) (st : St) : Bool := B.all fun x => match st.h.get (ρ x.1) with
  | some (ab, _) => abEq (rnA ρ x.2) ab
  | none => false
def setB (ρ : Nat → Nat) (c : Nat) : Blks → Tr (AB × Nat) → Tr (AB × Nat)
  | [], t => t
  | x :: B, t => forceN (ρ x.1) fun j => Tr.set 20 (setB ρ c B t) j (rnA ρ x.2, c)
def idB (i : Nat) : Nat := i
/-- The state of some blocks alone. -/
def stOf (B : Blks) (m : Nat) : St := ⟨B.foldr (fun x t => Tr.set 20 t x.1 (x.2, 1)) .lf, m, 1⟩
theorem stOf_get (B : Blks) (m : Nat) (hB : ∀ x ∈ B, x.1 + 1 < 2 ^ 20) {i : Nat} {y : AB × Nat} (h : (stOf B m).h.get i = some y) : y.2 = 1 ∧ (i, y.1) ∈ B := by
  induction B with
  | nil => cases h
  | cons x B ih =>
    replace h : (Tr.set 20 (stOf B m).h x.1 (x.2, 1)).get i = some y := h
    rw [Tr.get_set 20 _ _ _ _ (hB x (by simp))] at h
    split at h
    · rename_i e
      subst e
      cases h
      exact ⟨rfl, by simp⟩
    · have := ih (fun x hx => hB x (List.mem_cons_of_mem _ hx)) h
      exact ⟨this.1, List.mem_cons_of_mem _ this.2⟩
theorem setB_get (ρ : Nat → Nat) (c : Nat) (B : Blks) (t : Tr (AB × Nat)) (hB : ∀ x ∈ B, ρ x.1 + 1 < 2 ^ 20) {i : Nat} {y : AB × Nat} (h : (setB ρ c B t).get i = some y) : (y.2 = c ∧ ∃ x ∈ B, i = ρ x.1 ∧ y.1 = rnA ρ x.2) ∨ ((∀ x ∈ B, i ≠ ρ x.1) ∧ t.get i = some y) := by
  induction B with
  | nil => exact .inr ⟨fun x hx => (by cases hx), h⟩
  | cons x B ih =>
    unfold setB at h
    rw [forceN_eq, Tr.get_set 20 _ _ _ _ (hB x (by simp))] at h
    split at h
    · rename_i e
      cases h
      exact .inl ⟨rfl, x, by simp, e, rfl⟩
    · rename_i hne
      rcases ih (fun x hx => hB x (List.mem_cons_of_mem _ hx)) h with ⟨h1, z, hz, h2⟩ | ⟨h1, h2⟩
      · exact .inl ⟨h1, z, List.mem_cons_of_mem _ hz, h2⟩
      · refine .inr ⟨fun z hz => ?_, h2⟩
        rcases List.mem_cons.1 hz with rfl | hz
        · exact hne
        · exact h1 z hz
theorem setB_old (ρ : Nat → Nat) (c : Nat) (B : Blks) (t : Tr (AB × Nat)) (hB : ∀ x ∈ B, ρ x.1 + 1 < 2 ^ 20) {i : Nat} (h : ∀ x ∈ B, i ≠ ρ x.1) : (setB ρ c B t).get i = t.get i := by
  induction B with
  | nil => rfl
  | cons x B ih =>
    unfold setB
    rw [forceN_eq, Tr.get_set 20 _ _ _ _ (hB x (by simp)), if_neg (h x (by simp))]
    exact ih (fun x hx => hB x (List.mem_cons_of_mem _ hx)) (fun x hx => h x (List.mem_cons_of_mem _ hx))
theorem ren_def (G s i : Nat) : ren G s i = if i < G then i else i + s := by
  unfold ren
  split
  · rename_i h; rw [Nat.blt_eq] at h; rw [if_pos h]
  · rename_i h; rw [if_neg fun e => by rw [← Nat.blt_eq, h] at e; cases e]
theorem ren_inj {G s i j : Nat} (h : ren G s i = ren G s j) : i = j := by
  rw [ren_def, ren_def] at h
  split at h <;> split at h <;> omega
theorem ren_lt {G s i j : Nat} (h : ren G s i < ren G s j) : i < j := by
  rw [ren_def, ren_def] at h
  split at h <;> split at h <;> omega
theorem ren_glob {G s i : Nat} (h : i < G) : ren G s i = i := by rw [ren_def, if_pos h]
theorem ren_up {G s i : Nat} (h : G ≤ i) : ren G s i = i + s := by
  rw [ren_def, if_neg (by omega)]
theorem rnA_live {ρ : Nat → Nat} {p q : Nat → Bool} {ab : AB} (h : rfA p q ab = true) : ab.live = true ∧ (rnA ρ ab).live = true ∧ (rnA ρ ab).stale = ab.stale ∧ (rnA ρ ab).par = ab.par.map ρ := by
  unfold rfA at h
  split at h
  · exact ⟨rfl, rfl, rfl, optMap_eq _ _⟩
  · cases h
theorem CellsR.rn {P : Program} {M M' : Mp} {w : World} {L : Loc} {c c' : List Value} {t : TypeId} {o r : Bool} (hl : c'.length = c.length) (hv : ∀ (j : Nat) (v : Value), c'[j]? = some v → ∃ u, c[j]? = some u ∧ ∀ v', VR M u v' → VR M' v v') (h : CellsR P M w L c t o r) : CellsR P M' w L c' t o r := by
  obtain ⟨h0, C, fz, h1, h2, h3, h4, h5, h6, h7⟩ := h
  refine ⟨h0, C, fz, h1, h2, by rw [hl]; exact h3, fun e => by rw [hl]; exact h4 e, h5, h6, fun j v e => ?_⟩
  obtain ⟨u, e1, e2⟩ := hv j v e
  obtain ⟨v', a, b⟩ := h7 j u e1
  exact ⟨v', a, e2 v' b⟩
theorem BR.fwd {P : Program} {M M' : Mp} {w : World} {L : Loc} {ρ : Nat → Nat} {p q : Nat → Bool} (hM : ∀ i L, p i = true → M i = some L → M' (ρ i) = some L) {ab : AB} (hf : rfA p q ab = true) (h : BR P M w L ab) : BR P M' w L (rnA ρ ab) := by
  unfold rfA at hf
  split at hf
  · rw [Bool.and_eq_true] at hf
    refine CellsR.rn (by simp) (fun j v e => ?_) h
    rw [List.getElem?_map] at e
    rename_i c t o s r par
    cases hc : c[j]? with
    | none => rw [hc] at e; cases e
    | some u =>
      rw [hc] at e
      cases e
      exact ⟨u, rfl, fun v' hv => rn_fwd hM 2 u v' hv (List.all_eq_true.1 hf.1 u (List.mem_of_getElem? hc))⟩
  · cases hf
theorem BR.bwd {P : Program} {M M' : Mp} {w : World} {L : Loc} {ρ : Nat → Nat} {p q : Nat → Bool} (hM : ∀ i L, p i = true → M' (ρ i) = some L → M i = some L) {ab : AB} (hf : rfA p q ab = true) (h : BR P M' w L (rnA ρ ab)) : BR P M w L ab := by
  unfold rfA at hf
  split at hf
  · rw [Bool.and_eq_true] at hf
    refine CellsR.rn (M := M') (by simp) (fun j v e => ?_) h
    rename_i c t o s r par
    refine ⟨rnV 2 ρ v, by rw [List.getElem?_map, e]; rfl, fun v' hv => rn_bwd hM 2 v v' (List.all_eq_true.1 hf.1 v (List.mem_of_getElem? e)) hv⟩
  · cases hf
/-- A proved call that reads some blocks (of numbers that may be shifted) and makes none that lasts. -/
def GoodR (P : Program) (G : Nat) (f : FuncId) (args : List Value) (B : Blks) (v : Value) : Prop :=
  flatN 3 v = true ∧ ∀ (s : Nat) (st : St) (M : Mp) (w : World) (args' : List Value), hasB (ren G s) B st = true → RR P G M st w → VRs M (args.map (rnV 3 (ren G s))) args' →
    (callFunc f args'.toArray).run P w = .ok (.enter f args'.toArray) w ∧ Calls P f args'.toArray w fun e w' => e = .returned v ∧ Below w.heap.size w w'
def okB (B : Blks) (m : Nat) (args : List Value) : Bool :=
  Nat.ble m bigN && B.all (fun x => Nat.blt x.1 m && rfA (inBl B) (fun _ => true) x.2) && args.all (rfV 3 (inBl B))
def okRO (r : Option (Res × St)) (v : Value) (B : Blks) : Bool := match r with
  | some (.ret u, st) => veqN 3 u v && B.all fun x => match st.h.get x.1 with
    | some (ab, k) => ab.live && Nat.ble k 1
    | none => false
  | _ => false
section
variable {P : Program} {M : Mp} {G : Nat} {st : St} {w w' : World}
theorem inBl_of {B : Blks} {i : Nat} {ab : AB} (h : (i, ab) ∈ B) : inBl B i = true := by
  unfold inBl
  rw [List.any_eq_true]
  exact ⟨_, h, by rw [Nat.beq_eq]⟩
theorem of_inBl {B : Blks} {i : Nat} (h : inBl B i = true) : ∃ ab, (i, ab) ∈ B := by
  unfold inBl at h
  rw [List.any_eq_true] at h
  obtain ⟨⟨j, ab⟩, h1, h2⟩ := h
  rw [Nat.beq_eq] at h2
  have h2 : j = i := h2
  subst h2
  exact ⟨ab, h1⟩
theorem hasB_at {ρ : Nat → Nat} {B : Blks} (h : hasB ρ B st = true) {i : Nat} {ab : AB} (hi : (i, ab) ∈ B) : ∃ v, st.h.get (ρ i) = some (rnA ρ ab, v) := by
  unfold hasB at h
  have := List.all_eq_true.1 h _ hi
  dsimp only at this
  split at this
  · rename_i ab' v hg
    exact ⟨v, by rw [hg, abEq_eq this]⟩
  · cases this
theorem RR.part (hR : RR P G M st w) {s : Nat} {B : Blks} {m : Nat} {args : List Value} (hB : hasB (ren G s) B st = true) (ho : okB B m args = true) : RR P G (fun i => match inBl B i with | true => M (ren G s i) | false => none) (stOf B m) w := by
  unfold okB at ho
  simp only [Bool.and_eq_true, Nat.ble_eq, List.all_eq_true, Nat.blt_eq] at ho
  obtain ⟨⟨hm, h1⟩, h2⟩ := ho
  have hlt : ∀ x ∈ B, x.1 + 1 < 2 ^ 20 := fun x hx => by have := (h1 x hx).1; unfold bigN at hm; omega
  have key : ∀ {i : Nat} {y : AB × Nat}, (stOf B m).h.get i = some y → y.2 = 1 ∧ (i, y.1) ∈ B := fun h => stOf_get B m hlt h
  have live : ∀ {i : Nat} {ab : AB}, (i, ab) ∈ B → ab.live = true ∧ (rnA (ren G s) ab).live = true ∧ (rnA (ren G s) ab).stale = ab.stale ∧ (rnA (ren G s) ab).par = ab.par.map (ren G s) := fun h => rnA_live (h1 _ h).2
  have hp : ∀ {ab : AB} {j i : Nat}, (i, ab) ∈ B → ((rnA (ren G s) ab).par = some (ren G s j) ↔ ab.par = some j) := fun {ab j i} h => by
    rw [(live h).2.2.2]
    constructor
    · intro e
      cases hq : ab.par with
      | none => rw [hq] at e; cases e
      | some q => rw [hq] at e; simp only [Option.map_some, Option.some.injEq] at e; rw [ren_inj e]
    · intro e; rw [e]; rfl
  refine ⟨fun i L h => ?_, fun i ab v h => ?_, fun i => ?_, hm, fun i j ab bb vi vj Li Lj g1 g2 l1 l2 m1 m2 e hne => ?_, fun i j ab bb vi vj g1 g2 l1 l2 e => ?_, fun g L hg h => ?_, fun j bb v p g1 e => ?_⟩
  · split at h
    · rename_i hi
      obtain ⟨ab, hi⟩ := of_inBl hi
      exact ⟨(h1 _ hi).1, (hR.dom _ _ h).2⟩
    · cases h
  · obtain ⟨-, hi⟩ := key h
    obtain ⟨v', hg⟩ := hasB_at hB hi
    obtain ⟨L, hL, hb⟩ := hR.blk _ _ _ hg
    refine ⟨L, by show (match inBl B i with | true => M (ren G s i) | false => none) = _; rw [inBl_of hi]; exact hL, ?_⟩
    refine BR.bwd (p := inBl B) (q := fun _ => true) (ρ := ren G s) (fun j L' hj hL' => ?_) (h1 _ hi).2 hb
    show (match inBl B j with | true => M (ren G s j) | false => none) = _
    rw [hj]
    exact hL'
  · unfold St.ver
    split
    · rename_i y hg
      have := (key hg).1
      exact Nat.le_of_eq this
    · exact Nat.zero_le _
  · obtain ⟨-, hi⟩ := key g1
    obtain ⟨-, hj⟩ := key g2
    obtain ⟨vi', gi⟩ := hasB_at hB hi
    obtain ⟨vj', gj⟩ := hasB_at hB hj
    replace m1 : (match inBl B i with | true => M (ren G s i) | false => none) = _ := m1
    replace m2 : (match inBl B j with | true => M (ren G s j) | false => none) = _ := m2
    rw [inBl_of hi] at m1
    rw [inBl_of hj] at m2
    rcases hR.sep _ _ _ _ _ _ _ _ gi gj (live hi).2.1 (live hj).2.1 m1 m2 e (fun e => hne (ren_inj e)) with e | e
    · exact .inl ((hp hi).1 e)
    · exact .inr ((hp hj).1 e)
  · obtain ⟨-, hi⟩ := key g1
    obtain ⟨-, hj⟩ := key g2
    obtain ⟨vi', gi⟩ := hasB_at hB hi
    obtain ⟨vj', gj⟩ := hasB_at hB hj
    have := hR.par _ _ _ _ _ _ gi gj (live hi).2.1 (live hj).2.1 ((hp hj).2 e)
    rw [← (live hi).2.2.1]
    exact this
  · split at h
    · rw [ren_glob hg] at h
      exact hR.glob g L hg h
    · cases h
  · obtain ⟨-, hj⟩ := key g1
    obtain ⟨vj', gj⟩ := hasB_at hB hj
    have e' := hR.plt _ _ _ (ren G s p) gj ((hp hj).2 e)
    exact ren_lt e'
theorem VRs.rn_bwd {M M' : Mp} {ρ : Nat → Nat} {p : Nat → Bool} (hM : ∀ i L, p i = true → M' (ρ i) = some L → M i = some L) {l l' : List Value} (hf : l.all (rfV 3 p) = true) (h : VRs M' (l.map (rnV 3 ρ)) l') : VRs M l l' :=
  VRs.of_map' (Go.Wx.rn_bwd hM 3) hf h
theorem goodR_of {E : Env} (hE : E.Ok) {n : Nat} {f : FuncId} {args : List Value} {v : Value} {B : Blks} {m : Nat} (h : okRO (evCall E n (.ent f) args (stOf B m)) v B = true) (ho : okB B m args = true) (hv : flatN 3 v = true) : GoodR E.P E.G f args B v := by
  refine ⟨hv, fun s st M w args' hB hR hA => ?_⟩
  unfold okRO at h
  split at h
  case h_2 => cases h
  rename_i u st' hr
  rw [Bool.and_eq_true] at h
  have hu := veqN_eq 3 _ _ h.1
  subst hu
  have hR' := hR.part hB ho
  have hA' : VRs (fun i => match inBl B i with | true => M (ren E.G s i) | false => none) args args' := by
    unfold okB at ho
    rw [Bool.and_eq_true] at ho
    refine VRs.rn_bwd (p := inBl B) (ρ := ren E.G s) (fun i L hi hL => ?_) ho.2 hA
    show (match inBl B i with | true => M (ren E.G s i) | false => none) = _
    rw [hi]
    exact hL
  obtain ⟨h0, hc⟩ := (evCall_ok hE n).2.2 f args _ _ _ hr _ w args' hR' hA'
  refine ⟨h0, hc.mono fun e w' hres => ?_⟩
  obtain ⟨M', q1, q2, q3⟩ := hres
  cases e with
  | returned v' =>
    have : v' = u := VR.flat_eqN 3 q1 hv
    refine ⟨by rw [this], ⟨q3.os, q3.tape, q3.output, q3.size, fun b hb => ?_⟩⟩
    rcases q3.frame b hb with e | ⟨i, L, e, -, hlt⟩
    · exact e
    · exfalso
      split at e
      · rename_i hi
        obtain ⟨ab, hi⟩ := of_inBl hi
        have := List.all_eq_true.1 h.2 _ hi
        dsimp only at this
        unfold St.ver at hlt
        split at this
        · rename_i ab' k hg
          rw [hg] at hlt
          rw [Bool.and_eq_true, Nat.ble_eq] at this
          have hlt : 1 < k := hlt
          omega
        · cases this
      · cases e
  | panicked c => cases q1
  | outgrown => cases q1
theorem GoodR.call {f : FuncId} {args : List Value} {B : Blks} {v : Value} (h : GoodR P G f args B v) {s : Nat} (hB : hasB (ren G s) B st = true) {args' : List Value} (hR : RR P G M st w) (hA : VRs M (args.map (rnV 3 (ren G s))) args') :
    (callFunc f args'.toArray).run P w = .ok (.enter f args'.toArray) w ∧ Calls P f args'.toArray w (CallR P G M st w (.ret v) st) := by
  obtain ⟨h2, h3⟩ := h
  obtain ⟨h3, h4⟩ := h3 s st M w args' hB hR hA
  refine ⟨h3, h4.mono ?_⟩
  rintro e w' ⟨rfl, hb⟩
  have hk : GX (fun _ => False) w (fun _ => False) w' := ⟨hb.os, hb.tape, hb.output, hb.size, fun b hb' => hb.block b hb', fun _ _ h => h⟩
  refine ⟨M, VR.of_flatN M 3 v h2, hR.gx hk, ?_⟩
  exact (Stp.refl M st w).gx hR hk
end
end Go.Wx
end PEv31
/- The evaluator: proved calls that make blocks. -/
noncomputable section PEv32
set_option linter.unusedVariables false
set_option linter.unusedSimpArgs false
namespace Go.Wx
open Go.RowKit
def addB (G : Nat) (st : St) (B : Blks) (m : Nat) : St := match st with
  | ⟨h, n, clk⟩ => forceN (n - G) fun s => forceN (n + (m - G)) fun n' => forceN (clk + 1) fun c => ⟨setB (ren G s) c B h, n', c⟩
theorem addB_eq (G : Nat) (st : St) (B : Blks) (m : Nat) : addB G st B m = ⟨setB (ren G (st.n - G)) (st.clk + 1) B st.h, st.n + (m - G), st.clk + 1⟩ := by
  cases st
  simp only [addB, forceN_eq]
/-- A proved call of flat arguments that makes some blocks. -/
def GoodM (P : Program) (G : Nat) (f : FuncId) (args : List Value) (v : Value) (B : Blks) (m : Nat) : Prop :=
  ∀ (st : St) (M : Mp) (w : World) (args' : List Value), G ≤ st.n → st.n + (m - G) ≤ bigN → RR P G M st w → VRs M args args' →
    (callFunc f args'.toArray).run P w = .ok (.enter f args'.toArray) w ∧ Calls P f args'.toArray w (CallR P G M st w (.ret (rnV 3 (ren G (st.n - G)) v)) (addB G st B m))
def okM (G : Nat) (r : Option (Res × St)) (v : Value) (B : Blks) (m : Nat) : Bool := match r with
  | some (.ret u, st) => vpqN 3 u v && rfV 3 (Nat.ble G) v && Nat.ble st.n m && Nat.ble G m && B.all fun x => Nat.ble G x.1 && Nat.blt x.1 m && rfA (Nat.ble G) (Nat.ble G) x.2 && match st.h.get x.1 with
    | some (ab, _) => abEq x.2 ab
    | none => false
  | _ => false
section
variable {P : Program} {M : Mp} {G : Nat} {st : St} {w w' : World}
theorem RR.join (hR : RR P G M st w) (hG : G ≤ st.n) {Mc : Mp} {stc : St} {n0 : Nat} (hc : RR P G Mc stc w') (hs : Stp (fun _ => none) ⟨.lf, n0, 0⟩ w Mc stc w') {B : Blks} {m : Nat} (hm : st.n + (m - G) ≤ bigN) (hn : stc.n ≤ m) (hGm : G ≤ m)
    (hB : ∀ x ∈ B, G ≤ x.1 ∧ x.1 < m ∧ rfA (Nat.ble G) (Nat.ble G) x.2 = true ∧ ∃ k, stc.h.get x.1 = some (x.2, k)) :
    RR P G (fun i => match Nat.blt i st.n with | true => M i | false => Mc (i - (st.n - G))) (addB G st B m) w' ∧
    Stp M st w (fun i => match Nat.blt i st.n with | true => M i | false => Mc (i - (st.n - G))) (addB G st B m) w' := by
  rw [addB_eq]
  generalize hMd : (fun i => match Nat.blt i st.n with | true => M i | false => Mc (i - (st.n - G)) : Mp) = M'
  have lo : ∀ {i}, i < st.n → M' i = M i := fun h => by
    rw [← hMd]; dsimp only
    split
    · rfl
    · rename_i e; rw [← Nat.blt_eq, e] at h; cases h
  have hi : ∀ {i}, st.n ≤ i → M' i = Mc (i - (st.n - G)) := fun {i} h => by
    rw [← hMd]; dsimp only
    split
    · rename_i e; rw [Nat.blt_eq] at e; omega
    · rfl
  have frame : ∀ b, b < w.heap.size → w'.heap[b]? = w.heap[b]? := fun b hb => by
    rcases hs.frame b hb with e | ⟨i, L, e, -⟩
    · exact e
    · cases e
  have fresh : ∀ {i L}, Mc i = some L → w.heap.size ≤ L.b := fun {i L} h => by
    rcases hs.new i L h rfl with e | ⟨j, Lj, e, -⟩
    · exact e
    · cases e
  have ext : Ext M M' := fun i L h => by rw [lo (hR.dom i L h).1]; exact h
  have rn : ∀ x ∈ B, ren G (st.n - G) x.1 = x.1 + (st.n - G) := fun x hx => ren_up (hB x hx).1
  have hlt : ∀ x ∈ B, ren G (st.n - G) x.1 + 1 < 2 ^ 20 := fun x hx => by
    have := hB x hx
    rw [rn x hx]
    unfold bigN at hm
    omega
  have key : ∀ {i : Nat} {y : AB × Nat}, (setB (ren G (st.n - G)) (st.clk + 1) B st.h).get i = some y → (y.2 = st.clk + 1 ∧ ∃ x ∈ B, i = x.1 + (st.n - G) ∧ y.1 = rnA (ren G (st.n - G)) x.2) ∨ (i < st.n ∧ st.h.get i = some y) := fun {i y} h => by
    rcases setB_get _ _ _ _ hlt h with ⟨h1, x, hx, h2, h3⟩ | ⟨h1, h2⟩
    · exact .inl ⟨h1, x, hx, by rw [h2, rn x hx], h3⟩
    · exact .inr ⟨hR.lt h2, h2⟩
  have old : ∀ {i : Nat}, i < st.n → (setB (ren G (st.n - G)) (st.clk + 1) B st.h).get i = st.h.get i := fun {i} h => setB_old _ _ _ _ hlt fun x hx => by
    have := (hB x hx).1
    rw [rn x hx]; omega
  have fwd : ∀ i L, Nat.ble G i = true → Mc i = some L → M' (ren G (st.n - G) i) = some L := fun i L h1 h2 => by
    rw [Nat.ble_eq] at h1
    rw [ren_up h1, hi (by omega), show i + (st.n - G) - (st.n - G) = i from by omega]
    exact h2
  have live : ∀ x ∈ B, x.2.live = true ∧ (rnA (ren G (st.n - G)) x.2).live = true ∧ (rnA (ren G (st.n - G)) x.2).stale = x.2.stale ∧ (rnA (ren G (st.n - G)) x.2).par = x.2.par.map (ren G (st.n - G)) := fun x hx => rnA_live (hB x hx).2.2.1
  have par : ∀ x ∈ B, ∀ q, x.2.par = some q → G ≤ q := fun x hx q hq => by
    have := (hB x hx).2.2.1
    unfold rfA at this
    split at this
    · rename_i hx2
      rw [Bool.and_eq_true] at this
      rw [hx2] at hq
      have hq : _ = some q := hq
      simp only [AB.par] at hq
      subst hq
      have := this.2
      rwa [Nat.ble_eq] at this
    · cases this
  have newp : ∀ x ∈ B, ∀ j, (rnA (ren G (st.n - G)) x.2).par = some j → ∃ q, x.2.par = some q ∧ j = q + (st.n - G) ∧ G ≤ q := fun x hx j e => by
    rw [(live x hx).2.2.2] at e
    cases hq : x.2.par with
    | none => rw [hq] at e; cases e
    | some q =>
      rw [hq] at e
      simp only [Option.map_some, Option.some.injEq] at e
      have := par x hx q hq
      exact ⟨q, rfl, by rw [← e, ren_up this], this⟩
  have loc : ∀ x ∈ B, M' (x.1 + (st.n - G)) = Mc x.1 := fun x hx => by
    have := (hB x hx).1
    rw [hi (by omega), show x.1 + (st.n - G) - (st.n - G) = x.1 from by omega]
  have ver : ∀ i, (⟨setB (ren G (st.n - G)) (st.clk + 1) B st.h, st.n + (m - G), st.clk + 1⟩ : St).ver i ≤ st.clk + 1 := fun i => by
    unfold St.ver
    split
    · rename_i ab v hg
      rcases key hg with ⟨h1, -⟩ | ⟨-, h2⟩
      · exact Nat.le_of_eq h1
      · have := hR.ver i
        unfold St.ver at this
        rw [h2] at this
        exact Nat.le_succ_of_le this
    · exact Nat.zero_le _
  refine ⟨⟨fun i L h => ?_, fun i ab v h => ?_, ver, hm, fun i j ab bb vi vj Li Lj g1 g2 l1 l2 m1 m2 e hne => ?_, fun i j ab bb vi vj g1 g2 l1 l2 e => ?_, fun g L hg h => ?_, fun j bb v p g1 e => ?_⟩,
    ⟨ext, fun i L h h0 => ?_, hs.os, hs.tape, hs.output, hs.size, Nat.le_succ _, fun i => ?_, Nat.le_add_right _ _, fun b hb => .inl (frame b hb), fun j x h1 h2 h3 => ?_, fun j x L h1 h2 h3 h4 => frame _ (hR.dom _ _ h4).2⟩⟩
  · by_cases hin : i < st.n
    · rw [lo hin] at h
      exact ⟨Nat.lt_of_lt_of_le hin (Nat.le_add_right _ _), Nat.lt_of_lt_of_le (hR.dom _ _ h).2 hs.size⟩
    · rw [hi (by omega)] at h
      have := hc.dom _ _ h
      refine ⟨?_, this.2⟩
      show i < st.n + (m - G)
      have := this.1
      omega
  · rcases key h with ⟨-, x, hx, e1, e2⟩ | ⟨hin, h2⟩
    · obtain ⟨k, hk⟩ := (hB x hx).2.2.2
      obtain ⟨L, hL, hb⟩ := hc.blk _ _ _ hk
      refine ⟨L, by rw [e1, loc x hx]; exact hL, ?_⟩
      dsimp only at e2
      rw [e2]
      exact BR.fwd fwd (hB x hx).2.2.1 hb
    · obtain ⟨L, hL, hb⟩ := hR.blk _ _ _ h2
      exact ⟨L, by rw [lo hin]; exact hL, BR.block (frame _ (hR.dom _ _ hL).2) (hb.ext ext)⟩
  · rcases key g1 with ⟨-, x, hx, e1, e2⟩ | ⟨h1, h1'⟩ <;> rcases key g2 with ⟨-, y, hy, f1, f2⟩ | ⟨h2, h2'⟩
    · dsimp only at e2 f2
      rw [e1, loc x hx] at m1
      rw [f1, loc y hy] at m2
      obtain ⟨k, hk⟩ := (hB x hx).2.2.2
      obtain ⟨k', hk'⟩ := (hB y hy).2.2.2
      rcases hc.sep _ _ _ _ _ _ _ _ hk hk' (live x hx).1 (live y hy).1 m1 m2 e (fun e => hne (by rw [e1, f1, e])) with e | e
      · refine .inl ?_
        rw [e2, (live x hx).2.2.2, e, f1, Option.map_some, rn y hy]
      · refine .inr ?_
        rw [f2, (live y hy).2.2.2, e, e1, Option.map_some, rn x hx]
    · rw [e1, loc x hx] at m1
      rw [lo h2] at m2
      have := fresh m1
      have := (hR.dom _ _ m2).2
      omega
    · rw [f1, loc y hy] at m2
      rw [lo h1] at m1
      have := fresh m2
      have := (hR.dom _ _ m1).2
      omega
    · rw [lo h1] at m1
      rw [lo h2] at m2
      exact hR.sep _ _ _ _ _ _ _ _ h1' h2' l1 l2 m1 m2 e hne
  · rcases key g2 with ⟨-, y, hy, f1, f2⟩ | ⟨h2, h2'⟩
    · dsimp only at f2
      rw [f2] at e
      obtain ⟨q, hq, e3, hGq⟩ := newp y hy i e
      rcases key g1 with ⟨-, x, hx, e1, e2⟩ | ⟨h1, h1'⟩
      · dsimp only at e2
        obtain ⟨k, hk⟩ := (hB x hx).2.2.2
        obtain ⟨k', hk'⟩ := (hB y hy).2.2.2
        have : q = x.1 := by omega
        subst this
        rw [e2, (live x hx).2.2.1]
        exact hc.par _ _ _ _ _ _ hk hk' (live x hx).1 (live y hy).1 hq
      · omega
    · have := hR.plt _ _ _ _ h2' e
      rcases key g1 with ⟨-, x, hx, e1, e2⟩ | ⟨h1, h1'⟩
      · have := (hB x hx).1
        omega
      · exact hR.par _ _ _ _ _ _ h1' h2' l1 l2 e
  · rw [lo (by omega)] at h
    exact hR.glob g L hg h
  · rcases key g1 with ⟨-, y, hy, f1, f2⟩ | ⟨h2, h2'⟩
    · dsimp only at f2
      rw [f2] at e
      obtain ⟨q, hq, e3, hGq⟩ := newp y hy p e
      obtain ⟨k', hk'⟩ := (hB y hy).2.2.2
      have := hc.plt _ _ _ _ hk' hq
      omega
    · exact hR.plt _ _ _ _ h2' e
  · by_cases hin : i < st.n
    · rw [lo hin, h0] at h; cases h
    · rw [hi (by omega)] at h
      exact .inl (fresh h)
  · by_cases hin : i < st.n
    · unfold St.ver
      rw [old hin]
      exact Nat.le_refl _
    · have : st.ver i = 0 := by
        unfold St.ver
        split
        · rename_i hg; exact absurd (hR.lt hg) hin
        · rfl
      rw [this]; exact Nat.zero_le _
  · rcases key h1 with ⟨e, -⟩ | ⟨-, h⟩
    · omega
    · exact h
theorem goodM_of {E : Env} (hE : E.Ok) {n : Nat} {f : FuncId} {args : List Value} {v : Value} {B : Blks} {m : Nat} (h : okM E.G (evCall E n (.ent f) args ⟨.lf, E.G, 0⟩) v B m = true) (ha : args.all (flatN 3) = true) (hG : E.G ≤ bigN) : GoodM E.P E.G f args v B m := by
  intro st M w args' hGn hm hR hA
  unfold okM at h
  split at h
  case h_2 => cases h
  rename_i u stc hr
  simp only [Bool.and_eq_true, List.all_eq_true, Nat.ble_eq, Nat.blt_eq] at h
  obtain ⟨⟨⟨⟨h1, h2⟩, h3⟩, h4⟩, h5⟩ := h
  have hu := vpqN_eq 3 _ _ h1
  subst hu
  have := VRs.flat_eqN hA ha
  subst this
  have hA' : VRs (fun _ => none) args' args' := VRs.of_all (p := flatN 3) (fun v hv => VR.of_flatN _ 3 v hv) args' ha
  obtain ⟨h0, hcl⟩ := (evCall_ok hE n).2.2 f args' _ _ _ hr _ w args' (RR.startG E.P E.G E.G hG w) hA'
  refine ⟨h0, hcl.mono fun e w' hres => ?_⟩
  obtain ⟨Mc, q1, q2, q3⟩ := hres
  cases e with
  | returned v' =>
    have hB : ∀ x ∈ B, E.G ≤ x.1 ∧ x.1 < m ∧ rfA (Nat.ble E.G) (Nat.ble E.G) x.2 = true ∧ ∃ k, stc.h.get x.1 = some (x.2, k) := fun x hx => by
      have := h5 x hx
      obtain ⟨⟨⟨a, b⟩, c⟩, d⟩ := this
      refine ⟨a, b, c, ?_⟩
      split at d
      · rename_i ab k hg
        exact ⟨k, by rw [hg, abEq_eq d]⟩
      · cases d
    obtain ⟨j1, j2⟩ := hR.join hGn q2 q3 hm h3 h4 hB
    refine ⟨_, ?_, j1, j2⟩
    refine rn_fwd (p := Nat.ble E.G) (M := Mc) (fun i L hi hL => ?_) 3 u v' q1 h2
    rw [Nat.ble_eq] at hi
    rw [ren_up hi]
    split
    · rename_i e; rw [Nat.blt_eq] at e; omega
    · rw [show i + (st.n - E.G) - (st.n - E.G) = i from by omega]
      exact hL
  | panicked c => cases q1
  | outgrown => cases q1
end
/-! ### Tables -/
structure RGrp where
  i0 : Nat
  B : Blks
  es : Tbl
structure MEnt where
  f : FuncId
  args : List Value
  v : Value
  B : Blks
  m : Nat
def ptr0 : List Value → Nat
  | .pointer (some ⟨i, _, _⟩) :: _ => i
  | _ => 0
def orcRF (ρ : Nat → Nat) : List (List Value × Value) → List Value → Option Value
  | [], _ => none
  | x :: l, args => match all2 (vpqN 3) (x.1.map (rnV 3 ρ)) args with
    | true => some x.2
    | false => orcRF ρ l args
def orcRE (ρ : Nat → Nat) : Tbl → FuncId → List Value → Option Value
  | [], _, _ => none
  | x :: T, f, args => match Nat.beq x.1 f with
    | true => orcRF ρ x.2 args
    | false => orcRE ρ T f args
def orcR (G : Nat) : List RGrp → FuncId → List Value → St → Option Value
  | [], _, _, _ => none
  | g :: R, f, args, st => forceN (ptr0 args - g.i0) fun s => match orcRE (ren G s) g.es f args with
    | some v => (match hasB (ren G s) g.B st with
      | true => some v
      | false => orcR G R f args st)
    | none => orcR G R f args st
def orcM : List MEnt → FuncId → List Value → Option MEnt
  | [], _, _ => none
  | x :: l, f, args => match Nat.beq x.f f && all2 (veqN 3) x.args args with
    | true => some x
    | false => orcM l f args
def orcG (G : Nat) (T : Tbl) (Mk : List MEnt) (R : List RGrp) (f : FuncId) (args : List Value) (st : St) : Option (Value × St) := match orcE T f args with
  | some v => some (v, st)
  | none => match orcM Mk f args with
    | some x => (match Nat.ble (st.n + (x.m - G)) bigN && Nat.ble G st.n with
      | true => forceN (st.n - G) fun s => some (rnV 3 (ren G s) x.v, addB G st x.B x.m)
      | false => none)
    | none => match orcR G R f args st with
      | some v => some (v, st)
      | none => none
section
variable {P : Program} {G : Nat}
theorem orcRF_mem {ρ : Nat → Nat} : ∀ {l : List (List Value × Value)} {args : List Value} {v : Value}, orcRF ρ l args = some v → ∃ x ∈ l, x.1.map (rnV 3 ρ) = args ∧ x.2 = v
  | [], args, v, h => by cases h
  | x :: l, args, v, h => by
    unfold orcRF at h
    split at h
    · rename_i hx
      cases h
      exact ⟨x, by simp, all2_eq (vpqN_eq 3) _ _ hx, rfl⟩
    · obtain ⟨y, a, b⟩ := orcRF_mem h
      exact ⟨y, List.mem_cons_of_mem _ a, b⟩
theorem orcRE_mem {ρ : Nat → Nat} : ∀ {T : Tbl} {f : FuncId} {args : List Value} {v : Value}, orcRE ρ T f args = some v → ∃ x ∈ T, x.1 = f ∧ ∃ y ∈ x.2, y.1.map (rnV 3 ρ) = args ∧ y.2 = v
  | [], f, args, v, h => by cases h
  | x :: T, f, args, v, h => by
    unfold orcRE at h
    split at h
    · rename_i hx
      rw [Nat.beq_eq] at hx
      exact ⟨x, by simp, hx, orcRF_mem h⟩
    · obtain ⟨y, a, b⟩ := orcRE_mem h
      exact ⟨y, List.mem_cons_of_mem _ a, b⟩
theorem orcR_mem : ∀ {R : List RGrp} {f : FuncId} {args : List Value} {st : St} {v : Value}, orcR G R f args st = some v → ∃ g ∈ R, ∃ s, hasB (ren G s) g.B st = true ∧ ∃ x ∈ g.es, x.1 = f ∧ ∃ y ∈ x.2, y.1.map (rnV 3 (ren G s)) = args ∧ y.2 = v
  | [], f, args, st, v, h => by cases h
  | g :: R, f, args, st, v, h => by
    unfold orcR at h
    rw [forceN_eq] at h
    have rest : orcR G R f args st = some v → ∃ g' ∈ g :: R, ∃ s, hasB (ren G s) g'.B st = true ∧ ∃ x ∈ g'.es, x.1 = f ∧ ∃ y ∈ x.2, y.1.map (rnV 3 (ren G s)) = args ∧ y.2 = v := fun h => by
      obtain ⟨y, a, b⟩ := orcR_mem h
      exact ⟨y, List.mem_cons_of_mem _ a, b⟩
    split at h
    · rename_i u hu
      split at h
      · rename_i hb
        cases h
        exact ⟨g, by simp, _, hb, orcRE_mem hu⟩
      · exact rest h
    · exact rest h
theorem orcM_mem : ∀ {l : List MEnt} {f : FuncId} {args : List Value} {x : MEnt}, orcM l f args = some x → x ∈ l ∧ x.f = f ∧ x.args = args
  | [], f, args, x, h => by cases h
  | y :: l, f, args, x, h => by
    unfold orcM at h
    split at h
    · rename_i hx
      cases h
      rw [Bool.and_eq_true, Nat.beq_eq] at hx
      exact ⟨by simp, hx.1, all2_eq (veqN_eq 3) _ _ hx.2⟩
    · have := orcM_mem h
      exact ⟨List.mem_cons_of_mem _ this.1, this.2⟩
theorem orcG_ok {T : Tbl} {Mk : List MEnt} {R : List RGrp} (hT : ∀ x ∈ T, ∀ y ∈ x.2, Good P x.1 y.1 y.2) (hM : ∀ x ∈ Mk, GoodM P G x.f x.args x.v x.B x.m) (hR : ∀ g ∈ R, ∀ x ∈ g.es, ∀ y ∈ x.2, GoodR P G x.1 y.1 g.B y.2) : OrcOk P G (orcG G T Mk R) := by
  intro f args st v st' h M w args' hr hA
  unfold orcG at h
  split at h
  · rename_i u hu
    cases h
    exact (orcE_ok T hT f args v hu).call hr hA
  · split at h
    · rename_i x hx
      split at h
      · rename_i hb
        rw [forceN_eq] at h
        cases h
        rw [Bool.and_eq_true, Nat.ble_eq, Nat.ble_eq] at hb
        obtain ⟨h1, h2, h3⟩ := orcM_mem hx
        subst h2; subst h3
        exact hM x h1 st M w args' hb.2 hb.1 hr hA
      · cases h
    · split at h
      · rename_i u hu
        cases h
        obtain ⟨g, hg, s, hb, x, hx, e1, y, hy, e2, e3⟩ := orcR_mem hu
        subst e1; subst e2; subst e3
        exact (hR g hg x hx y hy).call hb hr hA
      · cases h
end
end Go.Wx
end PEv32
