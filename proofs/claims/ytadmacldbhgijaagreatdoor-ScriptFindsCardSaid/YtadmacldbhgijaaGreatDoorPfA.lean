/- Regions that draw their order by one walk; the evaluator's abstract heap and values, its unary and binary operations: each sound against the model, without a condition of the program. -/
import Derived.Orders
import Derived.Deep.Draws
import Derived.BigCall
import Derived.Below
import Derived.WalkKit
import Derived.WalkSpells
import Derived.WalkLawsBesides
import Derived.Deep.AppendLies
import Derived.Lib.Hide
import Derived.Laws.OwnMore
import Derived.Laws.Rows
import Derived.OrdersIn
import Derived.RangeFuncLeaves
/- Regions that draw their order: one walk in the order of the text serves every order, where heavy operations stand on one path of edges and readers hold in a class of worlds. -/
section PDraw
namespace Go.Wx
section
variable {P : Program} {ops : Array Oper} {C : World → Prop} {hv : List Nat}

/-- In state `a`, in every world of the class, a reader leaves `v`. -/
def Rd (P : Program) (ops : Array Oper) (C : World → Prop) (o : Oper) (v : Value) (a : Act) : Prop :=
  (Region.wanted o (yielded ops a.tmps) = true ∧ ∀ w, C w → (execOp a.eval o).run P w = .ok (.value v) w) ∨
  (Region.wanted o (yielded ops a.tmps) = false ∧ v = undef)

def NoQ : Exit → Act → World → Prop := fun _ _ _ => False

/-- One operation of the walk in the order of the text. -/
def twOp (P : Program) (ops : Array Oper) (C : World → Prop) (hv : List Nat) (i : Nat) (o : Oper) (K : Act → World → Prop) (a : Act) (w : World) : Prop :=
  if hv.contains i then
    if Region.wanted o (yielded ops a.tmps) then o.wp P a w (fun a' w' => C w' ∧ K a' w') NoQ else K (a.put o.dst undef) w
  else ∃ v, Rd P ops C o v a ∧ K (a.put o.dst v) w

/-- The walk in the order of the text. -/
def TW (P : Program) (ops : Array Oper) (C : World → Prop) (hv : List Nat) (Q : Act → World → Prop) : List Nat → Act → World → Prop
  | [], a, w => Q a w
  | i :: rest, a, w => match ops[i]? with
    | none => False
    | some o => twOp P ops C hv i o (TW P ops C hv Q rest) a w

theorem upon_mono {o : Oper} {a : Act} {K K' : Act → World → Prop} {Q Q' : Exit → Act → World → Prop} (hK : ∀ a w, K a w → K' a w) (hQ : ∀ e a w, Q e a w → Q' e a w) {r : Result Next}
    (h : o.upon P a K Q r) : o.upon P a K' Q' r := by
  cases r with
  | ok n w' =>
    cases n <;> simp only [Oper.upon] at h ⊢ <;>
      first
        | exact hK _ _ h
        | exact Calls.mono h (fun e w'' he => by
            cases e <;> first
              | exact hK _ _ he
              | exact hQ _ _ _ he
              | exact let ⟨a, w, h⟩ := he; ⟨a, w, hQ _ _ _ h⟩)
        | exact Rows.mono h (fun _ _ he => hK _ _ he)
  | halt x w' =>
    cases x <;> simp only [Oper.upon] at h ⊢
    exact hQ _ _ _ h

/-- What an operation's walk leaves, at least once; and the frame's form. -/
theorem upon_some {o : Oper} {a : Act} {K : Act → World → Prop} {r : Result Next} (h : o.upon P a K NoQ r) :
    ∃ (b : Act) (u : Value) (w' : World), K (b.put o.dst u) w' ∧ (b = a ∨ ∃ d, b = { a with defers := d :: a.defers }) := by
  cases r with
  | ok n w' =>
    cases n <;> simp only [Oper.upon] at h
    case value v => exact ⟨a, v, w', h, .inl rfl⟩
    case skip => exact ⟨a, undef, w', h, .inl rfl⟩
    case defer d => exact ⟨{ a with defers := d :: a.defers }, undef, w', h, .inr ⟨d, rfl⟩⟩
    case enter f args =>
      obtain ⟨e, w'', fr, he, _⟩ := h []
      cases e with
      | returned v => exact ⟨a, v, w'', he, .inl rfl⟩
      | panicked c => exact False.elim he
      | outgrown => obtain ⟨_, _, hf⟩ := he; exact False.elim hf
    case row row args =>
      obtain ⟨v, w'', he, _⟩ := h default []
      exact ⟨a, v, w'', he, .inl rfl⟩
  | halt x w' =>
    cases x <;> simp only [Oper.upon] at h
    exact False.elim h

/-- The outcome, frame by frame, in another frame. -/
theorem upon_frame {o : Oper} {a a₂ : Act} {K K₂ : Act → World → Prop} (hv : ∀ u w, K (a.put o.dst u) w → K₂ (a₂.put o.dst u) w)
    (hd : ∀ d u w, K ({ a with defers := d :: a.defers }.put o.dst u) w → K₂ ({ a₂ with defers := d :: a₂.defers }.put o.dst u) w) {r : Result Next}
    (h : o.upon P a K NoQ r) : o.upon P a₂ K₂ NoQ r := by
  cases r with
  | ok n w' =>
    cases n <;> simp only [Oper.upon] at h ⊢
    case value v => exact hv _ _ h
    case skip => exact hv _ _ h
    case defer d => exact hd _ _ _ h
    case enter f args =>
      refine Calls.mono h fun e w'' he => ?_
      cases e with
      | returned v => exact hv _ _ he
      | panicked c => exact he
      | outgrown => exact he
    case row row args => exact Rows.mono h fun v w'' he => hv _ _ he
  | halt x w' =>
    cases x <;> simp only [Oper.upon] at h ⊢
    exact h

theorem Rd.same {o : Oper} {v : Value} {a a' : Act} (hy : Rd P ops C o v a) (he : execOp a'.eval o = execOp a.eval o)
    (hw : Region.wanted o (yielded ops a'.tmps) = Region.wanted o (yielded ops a.tmps)) : Rd P ops C o v a' := by
  unfold Rd at *
  rw [he, hw]
  exact hy

theorem Rd.det {o : Oper} {v u : Value} {a : Act} {w : World} (hw : C w) (h : Rd P ops C o v a) (h' : Rd P ops C o u a) : v = u := by
  rcases h with ⟨h1, h2⟩ | ⟨h1, h2⟩ <;> rcases h' with ⟨h3, h4⟩ | ⟨h3, h4⟩
  · have := (h2 w hw).symm.trans (h4 w hw)
    injection this with this
    injection this
  · rw [h1] at h3; cases h3
  · rw [h1] at h3; cases h3
  · rw [h2, h4]

def NoSel (o : Oper) : Prop := ∀ cs b, o.op ≠ .select cs b

theorem Rd.put {o p : Oper} {v : Value} {a : Act} (hs : NoSel o) (hap : ∀ d, p.dst = some d → d ∉ o.looksAt ops) (u : Value) :
    Rd P ops C o v (a.put p.dst u) ↔ Rd P ops C o v a :=
  ⟨fun h => h.same (execOp_put o hs a p.dst u hap).symm (wanted_put o a p.dst u hap).symm, fun h => h.same (execOp_put o hs a p.dst u hap) (wanted_put o a p.dst u hap)⟩

theorem Rd.defers {o : Oper} {v : Value} {a : Act} (d : List Deferred) : Rd P ops C o v { a with defers := d } ↔ Rd P ops C o v a :=
  ⟨fun h => h.same rfl rfl, fun h => h.same rfl rfl⟩

/-- The three parts of `apart`. -/
structure Ap (ops : Array Oper) (x y : Oper) : Prop where
  a : ∀ d, x.dst = some d → d ∉ y.looksAt ops
  b : ∀ d, x.dst = some d → y.dst ≠ some d
  c : ∀ d, y.dst = some d → d ∉ x.looksAt ops

theorem Ap.of {x y : Oper} (h : x.apart ops y = true) : Ap ops x y := by
  obtain ⟨h1, h2, h3⟩ := Oper.apart_spec h
  exact ⟨h1, h2, h3⟩

section
variable {Q : Act → World → Prop}

/-- Claim C: a reader that may come up may come up now. -/
theorem tw_reader (hsel : ∀ (i : Nat) (o : Oper), ops[i]? = some o → NoSel o) {j : Nat} {oj : Oper} (hj : ops[j]? = some oj) (hjh : hv.contains j = false) :
    ∀ (rem : List Nat) (a : Act) (w : World), j ∈ rem → rem.Pairwise (· < ·) → (∀ k ∈ rem, k < j → ∀ ok : Oper, ops[k]? = some ok → Ap ops ok oj) → C w →
      TW P ops C hv Q rem a w → ∃ v, Rd P ops C oj v a ∧ TW P ops C hv Q (rem.erase j) (a.put oj.dst v) w := by
  intro rem
  induction rem with
  | nil => intro a w hm; cases hm
  | cons k rest ih =>
    intro a w hm hp hap hC h
    by_cases hkj : k = j
    · subst hkj
      simp only [TW, hj, twOp, hjh] at h
      simp only [List.erase_cons_head]
      exact h
    · have hjr : j ∈ rest := by
        cases hm with
        | head => exact absurd rfl hkj
        | tail _ h => exact h
      have hlt : k < j := (List.pairwise_cons.1 hp).1 j hjr
      have hp' := (List.pairwise_cons.1 hp).2
      rw [List.erase_cons_tail (by simpa using hkj)]
      simp only [TW] at h ⊢
      cases hok : ops[k]? with
      | none => rw [hok] at h; exact h.elim
      | some ok =>
        rw [hok] at h
        simp only at h ⊢
        have hA := hap k (List.mem_cons_self) hlt ok hok
        have hap' : ∀ k' ∈ rest, k' < j → ∀ ok, ops[k']? = some ok → Ap ops ok oj := fun k' hk' => hap k' (List.mem_cons_of_mem _ hk')
        have hsj := hsel j oj hj
        have hsk := hsel k ok hok
        unfold twOp at h ⊢
        by_cases hkh : hv.contains k = true
        · simp only [hkh, if_true] at h ⊢
          by_cases hw : Region.wanted ok (yielded ops a.tmps) = true
          · simp only [hw, if_true] at h
            -- the value is the same in every outcome
            obtain ⟨b, u, w', ⟨hC', hK⟩, hb⟩ := upon_some h
            obtain ⟨v, hv1, _⟩ := ih (b.put ok.dst u) w' hjr hp' hap' hC' hK
            have hv2 : Rd P ops C oj v a := by
              have h3 := (Rd.put hsj hA.a u).1 hv1
              rcases hb with rfl | ⟨d, rfl⟩
              · exact h3
              · exact (Rd.defers _).1 h3
            refine ⟨v, hv2, ?_⟩
            rw [wanted_put ok a oj.dst v hA.c]
            simp only [hw, if_true]
            -- each outcome, with v put
            unfold Oper.wp at *
            rw [execOp_put ok hsk a oj.dst v hA.c]
            have key : ∀ (b : Act) (u : Value) (w' : World), (Rd P ops C oj v a ↔ Rd P ops C oj v b) → (C w' ∧ TW P ops C hv Q rest (b.put ok.dst u) w') →
                C w' ∧ TW P ops C hv Q (rest.erase j) ((b.put oj.dst v).put ok.dst u) w' := by
              intro b u w' hb ⟨hC', hK⟩
              obtain ⟨v', h4, h5⟩ := ih (b.put ok.dst u) w' hjr hp' hap' hC' hK
              have h6 := (Rd.put hsj hA.a u).1 h4
              have : v' = v := h6.det hC' (hb.1 hv2)
              subst this
              refine ⟨hC', ?_⟩
              rw [Act.put_comm b v' u (fun d hd he => hA.b d he hd)]
              exact h5
            refine upon_frame (fun u w' hh => key a u w' Iff.rfl hh) (fun d u w' hh => ?_) h
            have := key { a with defers := d :: a.defers } u w' (Rd.defers _).symm hh
            rw [← Act.put_defers] at this
            exact this
          · simp only [hw] at h
            obtain ⟨v, h1, h2⟩ := ih _ w hjr hp' hap' hC h
            refine ⟨v, (Rd.put hsj hA.a undef).1 h1, ?_⟩
            rw [wanted_put ok a oj.dst v hA.c]
            simp only [hw]
            rw [Act.put_comm a v undef (fun d hd he => hA.b d he hd)]
            exact h2
        · simp only [hkh] at h ⊢
          obtain ⟨u, h0, h⟩ := h
          obtain ⟨v, h1, h2⟩ := ih _ w hjr hp' hap' hC h
          refine ⟨v, (Rd.put hsj hA.a u).1 h1, u, (Rd.put hsk hA.c v).2 h0, ?_⟩
          rw [Act.put_comm a v u (fun d hd he => hA.b d he hd)]
          exact h2

/-- Claim D: a heavy operation ahead of which readers alone stand may come up now. -/
theorem tw_heavy (hsel : ∀ (i : Nat) (o : Oper), ops[i]? = some o → NoSel o) {j : Nat} {oj : Oper} (hj : ops[j]? = some oj) (hjh : hv.contains j = true) :
    ∀ (rem : List Nat) (a : Act) (w : World), j ∈ rem → rem.Pairwise (· < ·) → (∀ k ∈ rem, k < j → hv.contains k = false ∧ ∀ ok : Oper, ops[k]? = some ok → Ap ops ok oj) →
      TW P ops C hv Q rem a w → twOp P ops C hv j oj (TW P ops C hv Q (rem.erase j)) a w := by
  intro rem
  induction rem with
  | nil => intro a w hm; cases hm
  | cons k rest ih =>
    intro a w hm hp hap h
    by_cases hkj : k = j
    · subst hkj
      simp only [TW, hj] at h
      simp only [List.erase_cons_head]
      exact h
    · have hjr : j ∈ rest := by
        cases hm with
        | head => exact absurd rfl hkj
        | tail _ h => exact h
      have hlt : k < j := (List.pairwise_cons.1 hp).1 j hjr
      have hp' := (List.pairwise_cons.1 hp).2
      rw [List.erase_cons_tail (by simpa using hkj)]
      obtain ⟨hkh, hA'⟩ := hap k (List.mem_cons_self) hlt
      simp only [TW] at h
      cases hok : ops[k]? with
      | none => rw [hok] at h; exact h.elim
      | some ok =>
        rw [hok] at h
        have hA := hA' ok hok
        have hsj := hsel j oj hj
        have hsk := hsel k ok hok
        simp only [twOp, hkh] at h
        obtain ⟨u, h0, h⟩ := h
        have h1 := ih (a.put ok.dst u) w hjr hp' (fun k' hk' => hap k' (List.mem_cons_of_mem _ hk')) h
        unfold twOp at h1 ⊢
        simp only [hjh, if_true] at h1 ⊢
        rw [wanted_put oj a ok.dst u hA.a] at h1
        by_cases hw : Region.wanted oj (yielded ops a.tmps) = true
        · simp only [hw, if_true] at h1 ⊢
          unfold Oper.wp at h1 ⊢
          rw [execOp_put oj hsj a ok.dst u hA.a] at h1
          have key : ∀ (b : Act) (x : Value) (w' : World), (Rd P ops C ok u a ↔ Rd P ops C ok u b) → (C w' ∧ TW P ops C hv Q (rest.erase j) ((b.put ok.dst u).put oj.dst x) w') →
              C w' ∧ TW P ops C hv Q (k :: rest.erase j) (b.put oj.dst x) w' := by
            intro b x w' hb ⟨hC', hK⟩
            refine ⟨hC', ?_⟩
            simp only [TW, hok, twOp, hkh]
            refine ⟨u, (Rd.put hsk hA.c x).2 (hb.1 h0), ?_⟩
            rw [← Act.put_comm b u x (fun d hd he => hA.b d hd he)]
            exact hK
          refine upon_frame (fun x w' hh => key a x w' Iff.rfl hh) (fun d x w' hh => ?_) h1
          refine key { a with defers := d :: a.defers } x w' (Rd.defers _).symm ?_
          rw [← Act.put_defers]
          exact hh
        · simp only [hw] at h1 ⊢
          simp only [TW, hok, twOp, hkh]
          refine ⟨u, (Rd.put hsk hA.c undef).2 h0, ?_⟩
          rw [← Act.put_comm a u undef (fun d hd he => hA.b d hd he)]
          exact h1

/-! ### The static checks -/
/-- Edges lead back; whoever does not wait for an earlier one is apart from it; no select. -/
def sepB (ops : Array Oper) : Bool :=
  Region.noSelect ops &&
  (List.range ops.size).all fun j => match ops[j]? with
    | none => true
    | some oj => (oj.after.all fun e => !Region.binds .any e || decide (e.on < j)) &&
      (List.range j).all fun i => match ops[i]? with
        | none => true
        | some oi => oj.after.any (fun e => Region.binds .any e && e.on == i) || oi.apart ops oj

/-- y waits for x itself. -/
def waits (ops : Array Oper) (x y : Nat) : Bool := ((ops[y]?).map fun o => o.after.any fun e => Region.binds .any e && e.on == x).getD false

/-- A path of edges. -/
def pathB (ops : Array Oper) : List Nat → Bool
  | x :: y :: r => decide (x < y) && waits ops x y && pathB ops (y :: r)
  | _ => true

structure Inv (ops : Array Oper) (listed : Array Bool) (rem : List Nat) : Prop where
  size : listed.size = ops.size
  mem : ∀ i, i ∈ rem ↔ listed.getD i true = false
  pair : rem.Pairwise (· < ·)
  down : ∀ k o, ops[k]? = some o → listed.getD k true = true → ∀ e ∈ o.after, Region.binds .any e = true → listed.getD e.on false = true

theorem Inv.lt {listed : Array Bool} {rem : List Nat} (h : Inv ops listed rem) {i : Nat} (hi : i ∈ rem) : i < ops.size := by
  have := (h.mem i).1 hi
  rcases Nat.lt_or_ge i listed.size with h' | h'
  · rw [← h.size]; exact h'
  · simp [Array.getD, Nat.not_lt.2 h'] at this

theorem getD_false_of {listed : Array Bool} {i : Nat} (hi : i < listed.size) : listed.getD i true = false ↔ listed.getD i false = false := by
  simp [Array.getD, hi]

theorem Inv.listed_iff {listed : Array Bool} {rem : List Nat} (h : Inv ops listed rem) {i : Nat} (hi : i < ops.size) : listed.getD i false = true ↔ i ∉ rem := by
  have hs : i < listed.size := by rw [h.size]; exact hi
  rw [h.mem, getD_false_of hs]
  simp

/-- One that may come up: behind it. -/
theorem Inv.step {listed : Array Bool} {rem : List Nat} (h : Inv ops listed rem) {j : Nat} (hj : j ∈ rem) (hr : j ∈ Region.ready .any ops listed) :
    Inv ops (listed.setIfInBounds j true) (rem.erase j) := by
  have hlt := h.lt hj
  have hs : j < listed.size := by rw [h.size]; exact hlt
  obtain ⟨_, oj, hoj, hall⟩ := mem_ready.1 hr
  have hnd : rem.Nodup := h.pair.imp (fun h => Nat.ne_of_lt h)
  refine ⟨by simp [h.size], fun i => ?_, h.pair.sublist (List.erase_sublist ..), fun k o hk hl e he hb => ?_⟩
  · rw [hnd.mem_erase_iff, h.mem]
    by_cases hij : i = j
    · subst hij
      simp [Array.getD, hs]
    · rw [getD_set_ne true (Ne.symm hij)]
      simp [hij]
  · by_cases hkj : k = j
    · subst hkj
      rw [hoj] at hk
      injection hk with hk
      subst hk
      exact getD_set_true (hall e he hb)
    · rw [getD_set_ne true (Ne.symm hkj)] at hl
      exact getD_set_true (h.down k o hk hl e he hb)

theorem waits_spec {x y : Nat} (h : waits ops x y = true) : ∃ o, ops[y]? = some o ∧ ∃ e ∈ o.after, Region.binds .any e = true ∧ e.on = x := by
  unfold waits at h
  cases ho : ops[y]? with
  | none => rw [ho] at h; simp at h
  | some o =>
    rw [ho] at h
    simp only [Option.map_some, Option.getD_some] at h
    obtain ⟨e, he, hb⟩ := Array.any_eq_true'.1 h
    simp only [Bool.and_eq_true, beq_iff_eq] at hb
    exact ⟨o, rfl, e, he, hb.1, hb.2⟩

/-- On a path: what has come up, or may, has all ahead of it behind it. -/
theorem path_listed {listed : Array Bool} {rem : List Nat} (h : Inv ops listed rem) : ∀ (l : List Nat), pathB ops l = true →
    l.Pairwise fun x y => x < y ∧ ((listed.getD y true = true ∨ y ∈ Region.ready .any ops listed) → listed.getD x false = true) := by
  intro l
  induction l with
  | nil => intro _; exact .nil
  | cons x l ih =>
    intro hl
    cases l with
    | nil => exact .cons (by simp) .nil
    | cons y r =>
      simp only [pathB, Bool.and_eq_true, decide_eq_true_eq] at hl
      obtain ⟨⟨hlt, hw⟩, hr⟩ := hl
      have ih' := ih hr
      have one : (listed.getD y true = true ∨ y ∈ Region.ready .any ops listed) → listed.getD x false = true := by
        obtain ⟨o, ho, e, he, hb, heq⟩ := waits_spec hw
        intro hy
        subst heq
        rcases hy with hy | hy
        · exact h.down y o ho hy e he hb
        · obtain ⟨_, o', ho', hall⟩ := mem_ready.1 hy
          rw [ho] at ho'
          injection ho' with ho'
          subst ho'
          exact hall e he hb
      refine .cons (fun z hz => ?_) ih'
      cases hz with
      | head => exact ⟨hlt, one⟩
      | tail _ hz =>
        have h2 := (List.pairwise_cons.1 ih').1 z hz
        refine ⟨Nat.lt_trans hlt h2.1, fun hz' => one (.inl ?_)⟩
        have h3 := h2.2 hz'
        rcases Nat.lt_or_ge y listed.size with h' | h'
        · simp only [Array.getD, h', dif_pos] at h3 ⊢; exact h3
        · simp [Array.getD, Nat.not_lt.2 h'] at h3

theorem pair_of {R : Nat → Nat → Prop} {l : List Nat} (h : l.Pairwise fun x y => x < y ∧ R x y) {i j : Nat} (hi : i ∈ l) (hj : j ∈ l) (hij : i < j) : R i j := by
  induction l with
  | nil => cases hi
  | cons x l ih =>
    obtain ⟨h1, h2⟩ := List.pairwise_cons.1 h
    cases hi with
    | head =>
      cases hj with
      | head => omega
      | tail _ hj => exact (h1 j hj).2
    | tail _ hi =>
      cases hj with
      | head => have := (h1 i hi).1; omega
      | tail _ hj => exact ih h2 hi hj

/-- **One walk in the order of the text serves every order.** -/
theorem tw_any {Q : Exit → Act → World → Prop} (hB : sepB ops = true) {path : List Nat} (hp : pathB ops path = true) (hh : ∀ i ∈ hv, i ∈ path) :
    ∀ (n : Nat) (rem : List Nat) (listed : Array Bool) (a : Act) (w : World), rem.length = n → Inv ops listed rem → C w →
      TW P ops C hv (fun a w => Q .normal a w) rem a w → wpAny P .any ops Q n listed a w := by
  simp only [sepB, Bool.and_eq_true, List.all_eq_true, List.mem_range] at hB
  obtain ⟨hsel0, hsep⟩ := hB
  have hsel : ∀ (i : Nat) (o : Oper), ops[i]? = some o → NoSel o := fun i o h cs b => Region.noSelect_spec hsel0 i o cs b h
  have hback : ∀ (j : Nat) (oj : Oper), ops[j]? = some oj → ∀ e ∈ oj.after, Region.binds .any e = true → e.on < j := by
    intro j oj hj e he hb
    have h1 := hsep j (Array.getElem?_eq_some_iff.1 hj).1
    simp only [hj, Bool.and_eq_true] at h1
    have h2 := Array.all_eq_true_iff_forall_mem.1 h1.1 e he
    simpa [hb] using h2
  have hapart : ∀ (i j : Nat) (oi oj : Oper), i < j → ops[i]? = some oi → ops[j]? = some oj → (∀ e ∈ oj.after, Region.binds .any e = true → e.on ≠ i) → Ap ops oi oj := by
    intro i j oi oj hij hi hj hno
    have h1 := hsep j (Array.getElem?_eq_some_iff.1 hj).1
    simp only [hj, Bool.and_eq_true, List.all_eq_true, List.mem_range] at h1
    have h2 := h1.2 i hij
    simp only [hi, Bool.or_eq_true] at h2
    rcases h2 with h2 | h2
    · obtain ⟨e, he, hb⟩ := Array.any_eq_true'.1 h2
      simp only [Bool.and_eq_true, beq_iff_eq] at hb
      exact absurd hb.2 (hno e he hb.1)
    · exact Ap.of h2
  intro n
  induction n with
  | zero =>
    intro rem listed a w hn hI hC h
    have : rem = [] := List.eq_nil_of_length_eq_zero hn
    subst this
    refine ⟨?_, h⟩
    rw [List.eq_nil_iff_forall_not_mem]
    intro j hj
    have := (mem_ready.1 hj).1
    exact absurd ((hI.mem j).2 this) (by simp)
  | succ n ih =>
    intro rem listed a w hn hI hC h
    obtain ⟨i, rest, rfl⟩ : ∃ i rest, rem = i :: rest := by
      cases rem with
      | nil => simp at hn
      | cons i rest => exact ⟨i, rest, rfl⟩
    have hir : i ∈ Region.ready .any ops listed := by
      have hlt := hI.lt (List.mem_cons_self (a := i) (l := rest))
      refine mem_ready.2 ⟨(hI.mem i).1 List.mem_cons_self, ops[i], Array.getElem?_eq_getElem hlt, fun e he hb => ?_⟩
      have hei := hback i _ (Array.getElem?_eq_getElem hlt) e he hb
      rw [hI.listed_iff (by omega)]
      intro hm
      cases hm with
      | head => omega
      | tail _ hm => have := (List.pairwise_cons.1 hI.pair).1 _ hm; omega
    refine ⟨fun h0 => (by rw [h0] at hir; cases hir), fun j hj => ?_⟩
    obtain ⟨hun, oj, hoj, hall⟩ := mem_ready.1 hj
    have hjm : j ∈ i :: rest := (hI.mem j).2 hun
    have hI' := hI.step hjm hj
    have hlen : ((i :: rest).erase j).length = n := by
      rw [List.length_erase_of_mem hjm, hn]; rfl
    have hap : ∀ k ∈ i :: rest, k < j → ∀ ok : Oper, ops[k]? = some ok → Ap ops ok oj := by
      intro k hk hkj ok hok
      refine hapart k j ok oj hkj hok hoj fun e he hb heq => ?_
      have h1 := hall e he hb
      rw [heq, hI.listed_iff (hI.lt hk)] at h1
      exact h1 hk
    by_cases hjh : hv.contains j = true
    · have hpre : ∀ k ∈ i :: rest, k < j → hv.contains k = false ∧ ∀ ok : Oper, ops[k]? = some ok → Ap ops ok oj := by
        intro k hk hkj
        refine ⟨?_, hap k hk hkj⟩
        cases hkh : hv.contains k with
        | false => rfl
        | true =>
          have h1 := pair_of (path_listed hI path hp) (hh k (by simpa using hkh)) (hh j (by simpa using hjh)) hkj (.inr hj)
          rw [hI.listed_iff (hI.lt hk)] at h1
          exact absurd hk h1
      have h1 := tw_heavy hsel hoj hjh _ a w hjm hI.pair hpre h
      unfold twOp at h1
      simp only [hjh, if_true] at h1
      unfold wpOp
      simp only [hoj]
      by_cases hw : Region.wanted oj (yielded ops a.tmps) = true
      · simp only [hw, if_true] at h1 ⊢
        exact .inl (upon_mono (fun a' w' hh => ih _ _ a' w' hlen hI' hh.1 hh.2) (fun _ _ _ hh => hh.elim) h1)
      · simp only [hw] at h1 ⊢
        exact ih _ _ _ w hlen hI' hC h1
    · have hjh' : hv.contains j = false := by simpa using hjh
      obtain ⟨v, h1, h2⟩ := tw_reader hsel hoj hjh' _ a w hjm hI.pair hap hC h
      have h3 := ih _ _ _ w hlen hI' hC h2
      unfold wpOp
      simp only [hoj]
      rcases h1 with ⟨hw, hv'⟩ | ⟨hw, rfl⟩
      · simp only [hw, if_true, Oper.wp, hv' w hC, Oper.upon]; exact .inl h3
      · simp only [hw, Bool.false_eq_true, if_false]; exact h3

theorem Inv.start (ops : Array Oper) : Inv ops (Array.replicate ops.size false) (List.range ops.size) := by
  refine ⟨by simp, fun i => ?_, List.pairwise_lt_range, fun k o hk hl => ?_⟩
  · rw [List.mem_range]
    by_cases h : i < ops.size <;> simp [Array.getD, h]
  · have := (Array.getElem?_eq_some_iff.1 hk).1
    simp [Array.getD, this] at hl

/-- A region that draws its order. -/
theorem wp_region_tw {id : Nat} {Q : Exit → Act → World → Prop} {a : Act} {w : World} (C : World → Prop) (hv path : List Nat) (hm : P.follows .mixedOrders = true) (hB : sepB ops = true)
    (hp : pathB ops path = true) (hh : (hv.all fun i => path.contains i) = true) (hC : C w.drew)
    (h : TW P ops C hv (fun a w => Q .normal a w) (List.range ops.size) a w.drew) : (Code.region id ops true).wp P Q a w :=
  wp_region_any hm (tw_any hB hp (fun i hi => by simpa using (List.all_eq_true.1 hh) i hi) _ _ _ _ _ (by simp) (Inv.start ops) hC h)

theorem tw_rd {Q : Act → World → Prop} {i : Nat} {o : Oper} {rest : List Nat} {a : Act} {w : World} (ho : ops[i]? = some o) (hh : hv.contains i = false)
    (hw : Region.wanted o (yielded ops a.tmps) = true) {v : Value} (hy : ∀ w', C w' → (execOp a.eval o).run P w' = .ok (.value v) w') (h : TW P ops C hv Q rest (a.put o.dst v) w) : TW P ops C hv Q (i :: rest) a w := by
  simp only [TW, ho, twOp, hh]
  exact ⟨v, .inl ⟨hw, hy⟩, h⟩
theorem tw_off {Q : Act → World → Prop} {i : Nat} {o : Oper} {rest : List Nat} {a : Act} {w : World} (ho : ops[i]? = some o)
    (hw : Region.wanted o (yielded ops a.tmps) = false) (h : TW P ops C hv Q rest (a.put o.dst undef) w) : TW P ops C hv Q (i :: rest) a w := by
  simp only [TW, ho, twOp, hw]
  by_cases hh : hv.contains i = true
  · simp only [hh, if_true]; exact h
  · simp only [hh]; exact ⟨undef, .inr ⟨hw, rfl⟩, h⟩
theorem tw_hv {Q : Act → World → Prop} {i : Nat} {o : Oper} {rest : List Nat} {a : Act} {w : World} (ho : ops[i]? = some o) (hh : hv.contains i = true)
    (hw : Region.wanted o (yielded ops a.tmps) = true) (h : ∀ K : Act → World → Prop, (∀ a' w', C w' → TW P ops C hv Q rest a' w' → K a' w') → o.upon P a K NoQ ((execOp a.eval o).run P w)) : TW P ops C hv Q (i :: rest) a w := by
  simp only [TW, ho, twOp, hh, hw, if_true]
  exact h _ fun a' w' hC hT => ⟨hC, hT⟩
/-- Below the first world's end nothing has turned but in the blocks X. -/
structure KB (X : List Nat) (w w' : World) : Prop where
  os : w'.os = w.os
  tape : w'.tape = w.tape
  output : w'.output = w.output
  size : w.heap.size ≤ w'.heap.size
  block : ∀ k, k < w.heap.size → k ∉ X → w'.heap[k]? = w.heap[k]?
theorem KB.refl (X : List Nat) (w : World) : KB X w w := ⟨rfl, rfl, rfl, Nat.le_refl _, fun _ _ _ => rfl⟩
theorem KB.drew {X : List Nat} {a w : World} (h : KB X a w) : KB X a w.drew := ⟨h.os, h.tape, h.output, h.size, h.block⟩
theorem KB.drewN {X : List Nat} {a w : World} (h : KB X a w) (n : Nat) : KB X a (w.drewN n) := ⟨h.os, h.tape, h.output, h.size, h.block⟩
theorem KB.trans {X : List Nat} {a b c : World} (h : KB X a b) (k : KB X b c) : KB X a c :=
  ⟨k.os.trans h.os, k.tape.trans h.tape, k.output.trans h.output, Nat.le_trans h.size k.size, fun i hi hx => (k.block i (Nat.lt_of_lt_of_le hi h.size) hx).trans (h.block i hi hx)⟩
theorem KB.mono {X Y : List Nat} {a b : World} (h : KB X a b) (hs : ∀ k, k < a.heap.size → k ∈ X → k ∈ Y) : KB Y a b := ⟨h.os, h.tape, h.output, h.size, fun i hi hx => h.block i hi fun hm => hx (hs i hi hm)⟩
theorem KB.setCell {X : List Nat} {a w : World} (h : KB X a w) {p : Addr} (hp : a.heap.size ≤ p.block ∨ p.block ∈ X) (u : Value) : KB X a (w.setCell p u) :=
  ⟨h.os, h.tape, h.output, by simpa [World.setCell] using h.size, fun k hk hx => by
    have hne : ¬ p.block = k := fun e => hp.elim (fun hp => by omega) (fun hp => hx (by rw [← e]; exact hp))
    have h1 : (w.setCell p u).heap[k]? = w.heap[k]? := by
      simp only [World.setCell, Array.getElem?_modify]
      rw [if_neg hne]
    exact h1.trans (h.block k hk hx)⟩
open Go.RowKit in
theorem KB.of {w w' : World} (h : Below w.heap.size w w') (X : List Nat) : KB X w w' := ⟨h.os, h.tape, h.output, h.size, fun k hk _ => h.block k hk⟩
open Go.RowKit in
theorem KB.below {w w' : World} (h : KB [] w w') : Below w.heap.size w w' := ⟨h.os, h.tape, h.output, h.size, fun k hk => h.block k hk (by simp)⟩
theorem KB.alloc {X : List Nat} {a w : World} (h : KB X a w) (o : Obj) : KB X a (w.alloc o) :=
  h.trans ⟨rfl, rfl, rfl, by simp, fun k hk _ => by show (w.heap.push o)[k]? = _; rw [Array.getElem?_push, if_neg (by omega)]⟩
open Go.RowKit in
/-- A base further down: what is kept above B alone. -/
theorem KB.base {X : List Nat} {B : Nat} {w W w' : World} (h : Below B w W) (hB : B ≤ W.heap.size) (k : KB X W w') (hx : ∀ b ∈ X, B ≤ b) : Below B w w' :=
  h.trans ⟨k.os, k.tape, k.output, k.size, fun i hi => k.block i (by omega) fun hm => by have := hx i hm; omega⟩
theorem KB.cell {X : List Nat} {w w' : World} {a : Addr} {u : Value} (h : KB X w w') (hc : w.cell? a = some u) (hx : a.block ∉ X) : w'.cell? a = some u :=
  (World.cell?_of_block (h.block a.block (World.block_lt_of_cell? w a hc) hx)).trans hc
theorem KB.frozen {X : List Nat} {w w' : World} {a : Addr} (h : KB X w w') (hl : a.block < w.heap.size) (hx : a.block ∉ X) : w'.frozen? a = w.frozen? a :=
  World.frozen?_of_block (h.block a.block hl hx)
/-- A region that draws, in a world of which what is needed is said (F); of old blocks the region turns X alone. -/
theorem wp_region_gen {id : Nat} {Q : Exit → Act → World → Prop} {a : Act} {w : World} {F : World → Prop} (X hv path : List Nat) (hm : P.follows .mixedOrders = true) (hB : sepB ops = true)
    (hp : pathB ops path = true) (hh : (hv.all fun i => path.contains i) = true) {l : List Nat} (hl : List.range ops.size = l) (hF : F w)
    (h : ∀ W, F W → KB X W W.drew → TW P ops (fun w' => KB X W w') hv (fun a w => Q .normal a w) l a W.drew) : (Code.region id ops true).wp P Q a w :=
  wp_region_tw _ hv path hm hB hp hh ((KB.refl _ _).drew) (hl ▸ h w hF ((KB.refl _ _).drew))
/-- A reader, what follows behind a variable. -/
theorem tw_rdK {Q : Act → World → Prop} {i : Nat} {o : Oper} {rest : List Nat} {a : Act} {w : World} (ho : ops[i]? = some o) (hh : hv.contains i = false)
    (hw : Region.wanted o (yielded ops a.tmps) = true) (h : ∀ K : Act → World → Prop, (∀ a w, TW P ops C hv Q rest a w → K a w) → ∃ v, (∀ w', C w' → (execOp a.eval o).run P w' = .ok (.value v) w') ∧ K (a.put o.dst v) w) :
    TW P ops C hv Q (i :: rest) a w := by
  simp only [TW, ho, twOp, hh]
  obtain ⟨v, h1, h2⟩ := h _ fun _ _ h => h
  exact ⟨v, .inl ⟨hw, h1⟩, h2⟩
/-- A function of the program that has a body. -/
def Callable (P : Program) (f : FuncId) : Prop := ∃ fn, P.funcs[f]? = some fn ∧ fn.body.isSome = true ∧ (fn.name == "runtime.NumGoroutine") = false
theorem callFunc_run {f : FuncId} (h : Callable P f) (args : Array Value) (w : World) : (callFunc f args).run P w = .ok (.enter f args) w := by
  obtain ⟨fn, hf, hb, hn⟩ := h
  have hb' : fn.body.isNone = false := by cases h : fn.body <;> simp_all
  show (Sem.bind program _).run P w = _
  simp only [program, Sem.bind, Sem.run]
  rw [hf]
  simp only [hn, hb', Bool.false_eq_true, if_false]
  rfl
/-- A call of a named function by its contract, inside a region that draws. -/
theorem tw_call {Q : Act → World → Prop} {i : Nat} {dst : Option Tmp} {f : FuncId} {xs : List Operand} {ats : Array TypeId} {ty : TypeId} {pos : String} {after : Array Edge} {guard : Option (Nat × Bool)} {rest : List Nat} {a : Act} {w : World}
    (ho : ops[i]? = some { dst, op := .call { callee := .value (.func f), args := xs.toArray, argTypes := ats }, type := ty, pos, after, guard }) (hh : hv.contains i = true)
    (hw : Region.wanted { dst, op := .call { callee := .value (.func f), args := xs.toArray, argTypes := ats }, type := ty, pos, after, guard } (yielded ops a.tmps) = true)
    (hf : Callable P f) {R : Ending → World → Prop} {args : List Value} (hargs : xs.map a.eval = args) (hc : Calls P f args.toArray w R)
    (h : ∀ K : Act → World → Prop, (∀ a' w', C w' → TW P ops C hv Q rest a' w' → K a' w') → ∀ e w', R e w' → ∃ v, e = .returned v ∧ K (a.put dst v) w') : TW P ops C hv Q (i :: rest) a w := by
  refine tw_hv ho hh hw fun K hK => ?_
  rw [execOp_call_go, callFunc_run hf]
  simp only [Oper.upon]
  rw [show (#[] ++ xs.toArray.map a.eval ++ #[]) = args.toArray from by simp [← hargs]]
  refine hc.mono fun e w' he => ?_
  obtain ⟨v, rfl, h1⟩ := h K hK e w' he
  exact h1
theorem tw_offK {Q : Act → World → Prop} {i : Nat} {o : Oper} {rest : List Nat} {a : Act} {w : World} (ho : ops[i]? = some o)
    (hw : Region.wanted o (yielded ops a.tmps) = false) (h : ∀ K : Act → World → Prop, (∀ a w, TW P ops C hv Q rest a w → K a w) → K (a.put o.dst undef) w) : TW P ops C hv Q (i :: rest) a w :=
  tw_off ho hw (h _ fun _ _ h => h)
theorem tw_nil {Q : Act → World → Prop} {a : Act} {w : World} (h : Q a w) : TW P ops C hv Q [] a w := h
end
end
end Go.Wx
end PDraw
/- How values read in memory: slices, structs, trees, by lists of cells. -/
section PRep
namespace Go.Wx
open Go.RowKit
/-- A slice value whose cells read as `xs` (`size` cells an element). -/
def Sl (w : World) (size : Nat) (v : Value) (n : Nat) (xs : List Value) : Prop :=
  ∃ A cap, v = .slice A n cap ∧ n ≤ cap ∧ cap ≤ 9223372036854775807 ∧ xs.length = n * size ∧
    (0 < n → ∃ b o, A = some ⟨b, o, none⟩ ∧ ∀ j u, xs[j]? = some u → w.cell? ⟨b, o + j, none⟩ = some u)
theorem cell_below {w w' : World} {a : Addr} {u : Value} (h : w.cell? a = some u) (hb : Below w.heap.size w w') : w'.cell? a = some u := by
  rw [hb.cell (World.block_lt_of_cell? w _ h)]; exact h
theorem Sl.below {w w' : World} {size n : Nat} {v : Value} {xs : List Value} (h : Sl w size v n xs) (hb : Below w.heap.size w w') : Sl w' size v n xs := by
  obtain ⟨A, cap, hv, h1, h2, h3, h4⟩ := h
  refine ⟨A, cap, hv, h1, h2, h3, fun hn => ?_⟩
  obtain ⟨b, o, e, hc⟩ := h4 hn
  exact ⟨b, o, e, fun j u hu => cell_below (hc j u hu) hb⟩
theorem bl_trans {W w1 w2 : World} {B : Nat} (h : Below B W w1) (hB : B ≤ w1.heap.size) (k : Below w1.heap.size w1 w2) : Below B W w2 :=
  h.trans ⟨k.os, k.tape, k.output, k.size, fun i hi => k.block i (Nat.lt_of_lt_of_le hi hB)⟩
theorem bl_then {W w1 w2 : World} (h : Below W.heap.size W w1) (k : Below w1.heap.size w1 w2) : Below W.heap.size W w2 := bl_trans h h.size k
theorem bl_alloc {W w1 : World} (h : Below W.heap.size W w1) (o : Obj) : Below W.heap.size W (w1.alloc o) := h.alloc h.size o
theorem bl_drewN {W w1 : World} {B : Nat} (h : Below B W w1) (n : Nat) : Below B W (w1.drewN n) := ⟨h.os, h.tape, h.output, h.size, h.block⟩
theorem bl_self (W : World) : Below W.heap.size W W := Below.refl _ _
theorem bcell {W w1 : World} (hb : Below W.heap.size W w1) : (∀ b o, b < W.heap.size → w1.cell? ⟨b, o, none⟩ = W.cell? ⟨b, o, none⟩) ∧ (∀ b o, b < W.heap.size → w1.frozen? ⟨b, o, none⟩ = W.frozen? ⟨b, o, none⟩) :=
  ⟨fun b o h => hb.cell (p := ⟨b, o, none⟩) h, fun b o h => hb.frozen (p := ⟨b, o, none⟩) h⟩
/-- The string of a list of bytes. -/
def bs (l : List UInt8) : ByteArray := ⟨l.toArray⟩
theorem bs_list (l : List UInt8) : (bs l).data.toList = l := rfl
theorem bs_self (s : ByteArray) : bs s.data.toList = s := rfl
theorem bs_size (l : List UInt8) : (bs l).size = l.length := rfl
theorem size_list (s : ByteArray) : s.data.toList.length = s.size := by simp
theorem bs_ext {s : ByteArray} {l : List UInt8} (h : s.data.toList = l) : s = bs l := by rw [← h]; rfl
theorem extract_drop (s : ByteArray) (k : Nat) : s.extract k s.size = bs (s.data.toList.drop k) := by
  apply bs_ext
  rw [ByteArray.data_extract, Array.toList_extract, List.extract_eq_drop_take', List.take_of_length_le (by simp)]
theorem extract_take (s : ByteArray) (k : Nat) : s.extract 0 k = bs (s.data.toList.take k) := by
  apply bs_ext
  rw [ByteArray.data_extract, Array.toList_extract, List.extract_eq_drop_take']
  simp
theorem drop_at (s : ByteArray) (k : Nat) (h : k < s.size) : s.data.toList.drop k = s[k] :: s.data.toList.drop (k + 1) := by
  rw [List.drop_eq_getElem_cons (by simpa using h)]; rfl
theorem take_at (s : ByteArray) (k : Nat) (h : k < s.size) : s.data.toList.take (k + 1) = s.data.toList.take k ++ [s[k]] := by
  rw [List.take_succ_eq_append_getElem (by simpa using h)]; rfl
/-- The cells of elements of a fixed size. -/
theorem flat_at {α : Type} {size : Nat} (f : α → List Value) (hf : ∀ x, (f x).length = size) (c : List α) (k : Nat) (h : k < c.length) (j : Nat) (hj : j < size) :
    (c.flatMap f)[k * size + j]? = (f c[k])[j]? := by
  induction c generalizing k with
  | nil => simp at h
  | cons a c ih =>
    simp only [List.flatMap_cons]
    cases k with
    | zero => simp only [Nat.zero_mul, Nat.zero_add, List.getElem_cons_zero]; rw [List.getElem?_append_left (by rw [hf]; exact hj)]
    | succ k =>
      rw [List.getElem?_append_right (by rw [hf, Nat.succ_mul]; omega), hf, Nat.succ_mul, show k * size + size + j - size = k * size + j from by omega]
      simpa using ih k (by simpa using h)
theorem flat_len {α : Type} {size : Nat} (f : α → List Value) (hf : ∀ x, (f x).length = size) (c : List α) : (c.flatMap f).length = c.length * size := by
  induction c with
  | nil => simp
  | cons a c ih => simp [List.flatMap_cons, hf, ih, Nat.succ_mul, Nat.add_comm]
/-! A block that is known whole (after the guide's words). -/
def Blk (w : World) (g : Nat) (t : TypeId) (cs : Array Value) : Prop := w.heap[g]? = some (.cells cs t (0, 0))

section
variable {w w' : World} {g : Nat} {t : TypeId} {cs : Array Value}
theorem Blk.lt (h : Blk w g t cs) : g < w.heap.size := by
  rcases Nat.lt_or_ge g w.heap.size with hlt | hge
  · exact hlt
  · unfold Blk at h; rw [Array.getElem?_eq_none hge] at h; cases h
theorem Blk.cell (h : Blk w g t cs) (i : Nat) : w.cell? ⟨g, i, none⟩ = cs[i]? := cell_of_row w g i cs t (0, 0) h
theorem Blk.frozen (h : Blk w g t cs) (i : Nat) : w.frozen? ⟨g, i, none⟩ = false := by
  unfold Blk at h
  simp [World.frozen?, h]
theorem Blk.new (w : World) (t : TypeId) (cs : Array Value) : Blk (w.alloc (.cells cs t)) w.heap.size t cs := heap_alloc_new w _
theorem Blk.drew (h : Blk w g t cs) : Blk w.drew g t cs := h
theorem Blk.drewN (h : Blk w g t cs) (n : Nat) : Blk (w.drewN n) g t cs := h
theorem Blk.alloc (h : Blk w g t cs) (o : Obj) : Blk (w.alloc o) g t cs := (Below.heap_alloc w o g h.lt).trans h
theorem Blk.set_ (h : Blk w g t cs) (i : Nat) (u : Value) : Blk (w.setCell ⟨g, i, none⟩ u) g t (cs.setIfInBounds i u) := by
  unfold Blk at h ⊢
  simp [World.setCell, Array.getElem?_modify, h]
theorem Blk.far (h : Blk w g t cs) {p : Addr} (hp : g ≠ p.block) (u : Value) : Blk (w.setCell p u) g t cs := (Below.heap_setCell w p u g hp).trans h
theorem Blk.below {B : Nat} (h : Blk w g t cs) (hb : Below B w w') (hg : g < B) : Blk w' g t cs := (hb.block g hg).trans h
theorem Blk.grown {row : Option Nat} (h : Blk w g t cs) (hb : w.grownBy w' row) (hg : some g ≠ row) : Blk w' g t cs := (hb.block g h.lt hg).trans h
theorem Blk.kb {X : List Nat} (h : Blk w g t cs) (hk : KB X w w') (hx : g ∉ X) : Blk w' g t cs := (hk.block g h.lt hx).trans h
theorem Blk.setc (h : Blk w g t cs) (i : Nat) (u : Value) : Blk (w.setCell ⟨g, i, none⟩ u) g t (cs.setIfInBounds i u) := h.set_ i u
end
end Go.Wx
end PRep
/- Regions that draw their order, in the fenced walk (function frames and rounds of a range over a function). -/
section PDrawI
set_option linter.unusedVariables false
set_option linter.unusedSimpArgs false
namespace Go.Wx
/-- The wide fence, in a round or not. -/
def fw (ro : Option Nat) : Fence := { Fence.wide with round := ro }
theorem callsIn_fw {ro : Option Nat} {n : Nat} {P : Program} {f : FuncId} {args : Array Value} {w : World} {R : Ending → World → Prop} : CallsIn (fw ro) n P f args w R ↔ Calls P f args w R :=
  callsIn_wide (n := n)
theorem rowsIn_fw {ro : Option Nat} {n : Nat} {P : Program} {row : String} {args : Array Value} {w : World} {R : Value → World → Prop} (h : Rows P row args w R) : RowsIn (fw ro) n P row args w R :=
  fun c cs _ => let ⟨v, w', r, s⟩ := h c cs; ⟨v, w', r, stepsIn_wide.2 s⟩
/-- An operation's walk, fenced. -/
theorem wpIn_op {ro : Option Nat} {n : Nat} {P : Program} {o : Oper} {a : Act} {w : World} {K : Act → World → Prop} {Q : Exit → Act → World → Prop} (h : o.wp P a w K Q) (hd : ro = none ∨ ∀ c, o.op ≠ .defer c) :
    o.wpIn (fw ro) n P a w K Q := by
  refine ⟨fun _ _ => trivial, ?_⟩
  have hs : o.semAt (fw ro).round a.eval = execOp a.eval o := by
    rcases hd with rfl | hd
    · rfl
    · exact o.semAt_eq _ _ hd
  rw [hs]
  unfold Oper.wp at h
  generalize (execOp a.eval o).run P w = r at h
  cases r with
  | ok x w' =>
    cases x <;> simp only [Oper.upon] at h <;> simp only [Oper.uponIn] <;>
      first
        | exact h
        | exact ⟨fun hh => (by cases hh), callsIn_fw.2 (h.mono fun e w'' he => by cases e <;> exact he)⟩
        | exact ⟨fun hh => (by cases hh), rowsIn_fw h⟩
        | exact h.elim
  | halt x w' =>
    cases x <;> simp only [Oper.upon] at h <;> simp only [Oper.uponIn] <;> first | exact h | exact h.elim
/-- No operation defers. -/
def noDefer (ops : Array Oper) : Bool := ops.toList.all fun o => match o.op with
  | .defer _ => false
  | _ => true
theorem noDefer_at {ops : Array Oper} (h : noDefer ops = true) {i : Nat} {o : Oper} (ho : ops[i]? = some o) : ∀ c, o.op ≠ .defer c := by
  intro c e
  unfold noDefer at h
  rw [List.all_eq_true] at h
  have hm : o ∈ ops.toList := by
    rw [← Array.getElem?_toList] at ho
    exact List.mem_of_getElem? ho
  have := h o hm
  rw [e] at this
  cases this
section
variable {P : Program} {ops : Array Oper} {C : World → Prop} {hv : List Nat} {ro : Option Nat}
/-- **One walk in the order of the text serves every order.** -/
theorem tw_anyI {Q : Exit → Act → World → Prop} (hB : sepB ops = true) (hD : noDefer ops = true) {path : List Nat} (hp : pathB ops path = true) (hh : ∀ i ∈ hv, i ∈ path) :
    ∀ (n : Nat) (rem : List Nat) (listed : Array Bool) (a : Act) (w : World), rem.length = n → Inv ops listed rem → C w →
      TW P ops C hv (fun a w => Q .normal a w) rem a w → wpAnyIn (fw ro) 0 P .any ops Q n listed a w := by
  simp only [sepB, Bool.and_eq_true, List.all_eq_true, List.mem_range] at hB
  obtain ⟨hsel0, hsep⟩ := hB
  have hsel : ∀ (i : Nat) (o : Oper), ops[i]? = some o → NoSel o := fun i o h cs b => Region.noSelect_spec hsel0 i o cs b h
  have hback : ∀ (j : Nat) (oj : Oper), ops[j]? = some oj → ∀ e ∈ oj.after, Region.binds .any e = true → e.on < j := by
    intro j oj hj e he hb
    have h1 := hsep j (Array.getElem?_eq_some_iff.1 hj).1
    simp only [hj, Bool.and_eq_true] at h1
    have h2 := Array.all_eq_true_iff_forall_mem.1 h1.1 e he
    simpa [hb] using h2
  have hapart : ∀ (i j : Nat) (oi oj : Oper), i < j → ops[i]? = some oi → ops[j]? = some oj → (∀ e ∈ oj.after, Region.binds .any e = true → e.on ≠ i) → Ap ops oi oj := by
    intro i j oi oj hij hi hj hno
    have h1 := hsep j (Array.getElem?_eq_some_iff.1 hj).1
    simp only [hj, Bool.and_eq_true, List.all_eq_true, List.mem_range] at h1
    have h2 := h1.2 i hij
    simp only [hi, Bool.or_eq_true] at h2
    rcases h2 with h2 | h2
    · obtain ⟨e, he, hb⟩ := Array.any_eq_true'.1 h2
      simp only [Bool.and_eq_true, beq_iff_eq] at hb
      exact absurd hb.2 (hno e he hb.1)
    · exact Ap.of h2
  intro n
  induction n with
  | zero =>
    intro rem listed a w hn hI hC h
    have : rem = [] := List.eq_nil_of_length_eq_zero hn
    subst this
    refine ⟨?_, h⟩
    rw [List.eq_nil_iff_forall_not_mem]
    intro j hj
    have := (mem_ready.1 hj).1
    exact absurd ((hI.mem j).2 this) (by simp)
  | succ n ih =>
    intro rem listed a w hn hI hC h
    obtain ⟨i, rest, rfl⟩ : ∃ i rest, rem = i :: rest := by
      cases rem with
      | nil => simp at hn
      | cons i rest => exact ⟨i, rest, rfl⟩
    have hir : i ∈ Region.ready .any ops listed := by
      have hlt := hI.lt (List.mem_cons_self (a := i) (l := rest))
      refine mem_ready.2 ⟨(hI.mem i).1 List.mem_cons_self, ops[i], Array.getElem?_eq_getElem hlt, fun e he hb => ?_⟩
      have hei := hback i _ (Array.getElem?_eq_getElem hlt) e he hb
      rw [hI.listed_iff (by omega)]
      intro hm
      cases hm with
      | head => omega
      | tail _ hm => have := (List.pairwise_cons.1 hI.pair).1 _ hm; omega
    refine ⟨fun h0 => (by rw [h0] at hir; cases hir), fun j hj => ?_⟩
    obtain ⟨hun, oj, hoj, hall⟩ := mem_ready.1 hj
    have hjm : j ∈ i :: rest := (hI.mem j).2 hun
    have hI' := hI.step hjm hj
    have hlen : ((i :: rest).erase j).length = n := by
      rw [List.length_erase_of_mem hjm, hn]; rfl
    have hap : ∀ k ∈ i :: rest, k < j → ∀ ok : Oper, ops[k]? = some ok → Ap ops ok oj := by
      intro k hk hkj ok hok
      refine hapart k j ok oj hkj hok hoj fun e he hb heq => ?_
      have h1 := hall e he hb
      rw [heq, hI.listed_iff (hI.lt hk)] at h1
      exact h1 hk
    by_cases hjh : hv.contains j = true
    · have hpre : ∀ k ∈ i :: rest, k < j → hv.contains k = false ∧ ∀ ok : Oper, ops[k]? = some ok → Ap ops ok oj := by
        intro k hk hkj
        refine ⟨?_, hap k hk hkj⟩
        cases hkh : hv.contains k with
        | false => rfl
        | true =>
          have h1 := pair_of (path_listed hI path hp) (hh k (by simpa using hkh)) (hh j (by simpa using hjh)) hkj (.inr hj)
          rw [hI.listed_iff (hI.lt hk)] at h1
          exact absurd hk h1
      have h1 := tw_heavy hsel hoj hjh _ a w hjm hI.pair hpre h
      unfold twOp at h1
      simp only [hjh, if_true] at h1
      unfold wpOpIn
      simp only [hoj]
      by_cases hw : Region.wanted oj (yielded ops a.tmps) = true
      · simp only [hw, if_true] at h1 ⊢
        exact wpIn_op (upon_mono (fun a' w' hh => ih _ _ a' w' hlen hI' hh.1 hh.2) (fun _ _ _ hh => hh.elim) h1) (.inr (noDefer_at hD hoj))
      · simp only [hw] at h1 ⊢
        exact ⟨fun _ _ => trivial, ih _ _ _ w hlen hI' hC h1⟩
    · have hjh' : hv.contains j = false := by simpa using hjh
      obtain ⟨v, h1, h2⟩ := tw_reader hsel hoj hjh' _ a w hjm hI.pair hap hC h
      have h3 := ih _ _ _ w hlen hI' hC h2
      unfold wpOpIn
      simp only [hoj]
      rcases h1 with ⟨hw, hv'⟩ | ⟨hw, rfl⟩
      · simp only [hw, if_true]; exact wpIn_op (by simp only [Oper.wp, hv' w hC, Oper.upon]; exact h3) (.inr (noDefer_at hD hoj))
      · simp only [hw, Bool.false_eq_true, if_false]; exact ⟨fun _ _ => trivial, h3⟩

def predsB (ops : Array Oper) (k : Nat) : List Nat := match ops[k]? with
  | some o => (o.after.toList.filter fun e => Region.binds .any e).map (·.on)
  | none => []
def reachB (ops : Array Oper) (i : Nat) : Nat → Nat → Bool
  | 0, _ => false
  | f + 1, k => (predsB ops k).any fun p => Nat.beq p i || reachB ops i f p
def lastB (ops : Array Oper) : Bool := Nat.blt 0 ops.size && (List.range (ops.size - 1)).all fun i => reachB ops i ops.size (ops.size - 1)
theorem reach_listed {listed : Array Bool} {rem : List Nat} (hI : Inv ops listed rem) {i : Nat} : ∀ (f k : Nat), reachB ops i f k = true → (∀ p ∈ predsB ops k, listed.getD p false = true) → listed.getD i false = true
  | 0, k, h, _ => by cases h
  | f + 1, k, h, hk => by
    unfold reachB at h
    obtain ⟨p, hp, hb⟩ := List.any_eq_true.1 h
    have hpl := hk p hp
    simp only [Bool.or_eq_true, Nat.beq_eq] at hb
    rcases hb with rfl | hb
    · exact hpl
    · refine reach_listed hI f p hb fun q hq => ?_
      unfold predsB at hq
      cases ho : ops[p]? with
      | none => rw [ho] at hq; cases hq
      | some o =>
        rw [ho] at hq
        obtain ⟨e, he, rfl⟩ := List.mem_map.1 hq
        rw [List.mem_filter] at he
        refine hI.down p o ho ?_ e (by simpa using he.1) he.2
        have : p < listed.size := by
          rcases Nat.lt_or_ge p listed.size with h | h
          · exact h
          · simp [Array.getD, Nat.not_lt.2 h] at hpl
        simp only [Array.getD, this, dif_pos] at hpl ⊢
        exact hpl
theorem tw_any_lastI {Q : Exit → Act → World → Prop} (hB : sepB ops = true) (hD : noDefer ops = true) (hL : lastB ops = true) {path : List Nat} (hp : pathB ops path = true) (hh : ∀ i ∈ hv, i ∈ path) :
    ∀ (n : Nat) (rem : List Nat) (listed : Array Bool) (a : Act) (w : World), rem.length = n → Inv ops listed (rem ++ [ops.size - 1]) → C w →
      TW P ops C hv (fun a w => wpOpIn (fw ro) 0 P ops Q (ops.size - 1) (fun a w => Q .normal a w) a w) rem a w → wpAnyIn (fw ro) 0 P .any ops Q (n + 1) listed a w := by
  simp only [lastB, Bool.and_eq_true, Nat.blt_eq, List.all_eq_true, List.mem_range] at hL
  obtain ⟨hpos, hreach⟩ := hL
  simp only [sepB, Bool.and_eq_true, List.all_eq_true, List.mem_range] at hB
  obtain ⟨hsel0, hsep⟩ := hB
  have hsel : ∀ (i : Nat) (o : Oper), ops[i]? = some o → NoSel o := fun i o h cs b => Region.noSelect_spec hsel0 i o cs b h
  have hback : ∀ (j : Nat) (oj : Oper), ops[j]? = some oj → ∀ e ∈ oj.after, Region.binds .any e = true → e.on < j := by
    intro j oj hj e he hb
    have h1 := hsep j (Array.getElem?_eq_some_iff.1 hj).1
    simp only [hj, Bool.and_eq_true] at h1
    have h2 := Array.all_eq_true_iff_forall_mem.1 h1.1 e he
    simpa [hb] using h2
  have hapart : ∀ (i j : Nat) (oi oj : Oper), i < j → ops[i]? = some oi → ops[j]? = some oj → (∀ e ∈ oj.after, Region.binds .any e = true → e.on ≠ i) → Ap ops oi oj := by
    intro i j oi oj hij hi hj hno
    have h1 := hsep j (Array.getElem?_eq_some_iff.1 hj).1
    simp only [hj, Bool.and_eq_true, List.all_eq_true, List.mem_range] at h1
    have h2 := h1.2 i hij
    simp only [hi, Bool.or_eq_true] at h2
    rcases h2 with h2 | h2
    · obtain ⟨e, he, hb⟩ := Array.any_eq_true'.1 h2
      simp only [Bool.and_eq_true, beq_iff_eq] at hb
      exact absurd hb.2 (hno e he hb.1)
    · exact Ap.of h2
  have hm0 : ops.size - 1 < ops.size := by omega
  -- where the last one is ready, all others are listed
  have hlast : ∀ (listed : Array Bool) (rem : List Nat), Inv ops listed rem → (ops.size - 1) ∈ Region.ready .any ops listed → ∀ i, i < ops.size - 1 → i ∉ rem := by
    intro listed rem hI hr i hi
    obtain ⟨hun, oj, hoj, hall⟩ := mem_ready.1 hr
    rw [← hI.listed_iff (by omega)]
    refine reach_listed hI ops.size (ops.size - 1) (hreach i hi) fun p hp => ?_
    unfold predsB at hp
    rw [hoj] at hp
    obtain ⟨e, he, rfl⟩ := List.mem_map.1 hp
    rw [List.mem_filter] at he
    exact hall e (by simpa using he.1) he.2
  intro n
  induction n with
  | zero =>
    intro rem listed a w hn hI hC h
    have : rem = [] := List.eq_nil_of_length_eq_zero hn
    subst this
    have hr : (ops.size - 1) ∈ Region.ready .any ops listed := by
      refine mem_ready.2 ⟨(hI.mem _).1 (by simp), ops[ops.size - 1], Array.getElem?_eq_getElem hm0, fun e he hb => ?_⟩
      have hei := hback _ _ (Array.getElem?_eq_getElem hm0) e he hb
      rw [hI.listed_iff (by omega)]
      simp; omega
    refine ⟨fun h0 => (by rw [h0] at hr; cases hr), fun j hj => ?_⟩
    have hjm : j = ops.size - 1 := by
      have := (hI.mem j).2 (mem_ready.1 hj).1
      simpa using this
    subst hjm
    have hI' := hI.step (by simp) hj
    simp only [List.nil_append, List.erase_cons_head] at hI'
    have h0 : Region.ready .any ops (listed.setIfInBounds (ops.size - 1) true) = [] := by
      rw [List.eq_nil_iff_forall_not_mem]
      intro j hj
      exact absurd ((hI'.mem j).2 (mem_ready.1 hj).1) (by simp)
    have h : wpOpIn (fw ro) 0 P ops Q (ops.size - 1) (fun a w => Q .normal a w) a w := h
    exact wpOpIn_mono (fun a w hq => ⟨h0, hq⟩) h
  | succ n ih =>
    intro rem listed a w hn hI hC h
    obtain ⟨i, rest, rfl⟩ : ∃ i rest, rem = i :: rest := by
      cases rem with
      | nil => simp at hn
      | cons i rest => exact ⟨i, rest, rfl⟩
    have hpair : (i :: rest).Pairwise (· < ·) := (List.pairwise_append.1 hI.pair).1
    have hlt' : ∀ k ∈ i :: rest, k < ops.size - 1 := fun k hk => (List.pairwise_append.1 hI.pair).2.2 k hk _ (by simp)
    have hir : i ∈ Region.ready .any ops listed := by
      have hlt := hI.lt (i := i) (by simp)
      refine mem_ready.2 ⟨(hI.mem i).1 (by simp), ops[i], Array.getElem?_eq_getElem hlt, fun e he hb => ?_⟩
      have hei := hback i _ (Array.getElem?_eq_getElem hlt) e he hb
      rw [hI.listed_iff (by omega)]
      intro hm
      have := hlt' i (by simp)
      rw [List.cons_append, List.mem_cons, List.mem_append] at hm
      rcases hm with hm | hm | hm
      · omega
      · have := (List.pairwise_cons.1 hpair).1 _ hm; omega
      · simp at hm; omega
    refine ⟨fun h0 => (by rw [h0] at hir; cases hir), fun j hj => ?_⟩
    obtain ⟨hun, oj, hoj, hall⟩ := mem_ready.1 hj
    have hjm0 : j ∈ (i :: rest) ++ [ops.size - 1] := (hI.mem j).2 hun
    have hjne : j ≠ ops.size - 1 := fun e => by
      subst e
      exact hlast listed _ hI hj i (hlt' i (by simp)) (by simp)
    have hjm : j ∈ i :: rest := by
      rcases List.mem_append.1 hjm0 with h | h
      · exact h
      · simp at h; exact absurd h hjne
    have hI' := hI.step hjm0 hj
    rw [List.erase_append_left _ hjm] at hI'
    have hlen : ((i :: rest).erase j).length = n := by
      rw [List.length_erase_of_mem hjm, hn]; rfl
    have hap : ∀ k ∈ i :: rest, k < j → ∀ ok : Oper, ops[k]? = some ok → Ap ops ok oj := by
      intro k hk hkj ok hok
      refine hapart k j ok oj hkj hok hoj fun e he hb heq => ?_
      have h1 := hall e he hb
      rw [heq, hI.listed_iff (by have := hlt' k hk; omega)] at h1
      exact h1 (List.mem_append_left _ hk)
    by_cases hjh : hv.contains j = true
    · have hpre : ∀ k ∈ i :: rest, k < j → hv.contains k = false ∧ ∀ ok : Oper, ops[k]? = some ok → Ap ops ok oj := by
        intro k hk hkj
        refine ⟨?_, hap k hk hkj⟩
        cases hkh : hv.contains k with
        | false => rfl
        | true =>
          have h1 := pair_of (path_listed hI path hp) (hh k (by simpa using hkh)) (hh j (by simpa using hjh)) hkj (.inr hj)
          rw [hI.listed_iff (by have := hlt' k hk; omega)] at h1
          exact absurd (List.mem_append_left _ hk) h1
      have h1 := tw_heavy hsel hoj hjh _ a w hjm hpair hpre h
      unfold twOp at h1
      simp only [hjh, if_true] at h1
      unfold wpOpIn
      simp only [hoj]
      by_cases hw : Region.wanted oj (yielded ops a.tmps) = true
      · simp only [hw, if_true] at h1 ⊢
        exact wpIn_op (upon_mono (fun a' w' hh => ih _ _ a' w' hlen hI' hh.1 hh.2) (fun _ _ _ hh => hh.elim) h1) (.inr (noDefer_at hD hoj))
      · simp only [hw] at h1 ⊢
        exact ⟨fun _ _ => trivial, ih _ _ _ w hlen hI' hC h1⟩
    · have hjh' : hv.contains j = false := by simpa using hjh
      obtain ⟨v, h1, h2⟩ := tw_reader hsel hoj hjh' _ a w hjm hpair hap hC h
      have h3 := ih _ _ _ w hlen hI' hC h2
      unfold wpOpIn
      simp only [hoj]
      rcases h1 with ⟨hw, hv'⟩ | ⟨hw, rfl⟩
      · simp only [hw, if_true]; exact wpIn_op (by simp only [Oper.wp, hv' w hC, Oper.upon]; exact h3) (.inr (noDefer_at hD hoj))
      · simp only [hw, Bool.false_eq_true, if_false]; exact ⟨fun _ _ => trivial, h3⟩
/-- A region that draws its order, in a frame or a round. -/
theorem wpIn_region_tw {id : Nat} {Q : Exit → Act → World → Prop} {a : Act} {w : World} (C : World → Prop) (hv path : List Nat) (hm : P.follows .mixedOrders = true) (hB : sepB ops = true) (hD : noDefer ops = true)
    (hp : pathB ops path = true) (hh : (hv.all fun i => path.contains i) = true) (hC : C w.drew)
    (h : TW P ops C hv (fun a w => Q .normal a w) (List.range ops.size) a w.drew) : (Code.region id ops true).wpIn (fw ro) 0 P Q a w :=
  wpIn_region_any hm (tw_anyI hB hD hp (fun i hi => by simpa using (List.all_eq_true.1 hh) i hi) _ _ _ _ _ (by simp) (Inv.start ops) hC h)
theorem wpIn_region_last {id : Nat} {Q : Exit → Act → World → Prop} {a : Act} {w : World} (C : World → Prop) (hv path : List Nat) (hm : P.follows .mixedOrders = true) (hB : sepB ops = true) (hD : noDefer ops = true) (hL : lastB ops = true)
    (hp : pathB ops path = true) (hh : (hv.all fun i => path.contains i) = true) (hC : C w.drew)
    (h : TW P ops C hv (fun a w => wpOpIn (fw ro) 0 P ops Q (ops.size - 1) (fun a w => Q .normal a w) a w) (List.range (ops.size - 1)) a w.drew) : (Code.region id ops true).wpIn (fw ro) 0 P Q a w := by
  refine wpIn_region_any hm ?_
  have hpos : 0 < ops.size := by
    have := hL
    simp only [lastB, Bool.and_eq_true, Nat.blt_eq] at this
    exact this.1
  have hI := Inv.start ops
  obtain ⟨m, hmm⟩ : ∃ m, ops.size = m + 1 := ⟨ops.size - 1, by omega⟩
  have hr : List.range ops.size = List.range (ops.size - 1) ++ [ops.size - 1] := by rw [hmm, List.range_succ]; simp
  rw [hr] at hI
  have := tw_any_lastI (Q := Q) (ro := ro) hB hD hL hp (fun i hi => by simpa using (List.all_eq_true.1 hh) i hi) (ops.size - 1) _ _ a w.drew (by simp) hI hC h
  rw [show ops.size - 1 + 1 = ops.size from by omega] at this
  exact this
end
end Go.Wx
end PDrawI
/- Regions that draw their order: a walk in an order of one's own; readers by their windows; blocks that are laid early. -/
section PDrawJ
set_option linter.unusedVariables false
set_option linter.unusedSimpArgs false
namespace Go.Wx
/-! ### What waits for what -/
def memN (S : List Nat) (k : Nat) : Bool := S.any (Nat.beq k)
theorem memN_iff {S : List Nat} {k : Nat} : memN S k = true ↔ k ∈ S := by
  unfold memN
  rw [List.any_eq_true]
  constructor
  · rintro ⟨x, hx, h⟩
    rw [Nat.beq_eq] at h
    subst h
    exact hx
  · intro h
    exact ⟨k, h, by rw [Nat.beq_eq]⟩
def ancS (ops : Array Oper) : Nat → List Nat → List Nat
  | 0, S => S
  | k + 1, S => ancS ops k (if memN S k then predsB ops k ++ S else S)
/-- i waits for j, directly or not. -/
def bef (ops : Array Oper) (j i : Nat) : Bool := memN (ancS ops ops.size (predsB ops i)) j
theorem ancS_of {ops : Array Oper} {p : Nat → Prop} (hp : ∀ k, p k → ∀ x ∈ predsB ops k, p x) : ∀ (n : Nat) (S : List Nat), (∀ x ∈ S, p x) → ∀ x ∈ ancS ops n S, p x
  | 0, S, h => h
  | n + 1, S, h => by
    unfold ancS
    refine ancS_of hp n _ ?_
    split
    · rename_i hm
      intro x hx
      rw [List.mem_append] at hx
      rcases hx with hx | hx
      · exact hp n (h n (memN_iff.1 hm)) x hx
      · exact h x hx
    · exact h
theorem bef_of {ops : Array Oper} {p : Nat → Prop} (hp : ∀ k, p k → ∀ x ∈ predsB ops k, p x) {i j : Nat} (hi : ∀ x ∈ predsB ops i, p x) (h : bef ops j i = true) : p j :=
  ancS_of hp _ _ hi j (memN_iff.1 h)
/-! ### Garbage -/
/-- w' is w with further blocks behind it; of the old blocks no more are loose. -/
structure GX (g : Nat → Prop) (w : World) (g' : Nat → Prop) (w' : World) : Prop where
  os : w'.os = w.os
  tape : w'.tape = w.tape
  output : w'.output = w.output
  size : w.heap.size ≤ w'.heap.size
  blk : ∀ b, b < w.heap.size → w'.heap[b]? = w.heap[b]?
  old : ∀ b, b < w.heap.size → g' b → g b
theorem GX.refl (g : Nat → Prop) (w : World) : GX g w g w := ⟨rfl, rfl, rfl, Nat.le_refl _, fun _ _ => rfl, fun _ _ h => h⟩
theorem GX.trans {g g1 g2 : Nat → Prop} {w w1 w2 : World} (h : GX g w g1 w1) (k : GX g1 w1 g2 w2) : GX g w g2 w2 :=
  ⟨k.os.trans h.os, k.tape.trans h.tape, k.output.trans h.output, Nat.le_trans h.size k.size, fun b hb => (k.blk b (Nat.lt_of_lt_of_le hb h.size)).trans (h.blk b hb), fun b hb hg => h.old b hb (k.old b (Nat.lt_of_lt_of_le hb h.size) hg)⟩
theorem GX.less {g g' : Nat → Prop} (w : World) (h : ∀ b, g' b → g b) : GX g w g' w := ⟨rfl, rfl, rfl, Nat.le_refl _, fun _ _ => rfl, fun b _ hg => h b hg⟩
theorem GX.alloc (g : Nat → Prop) (w : World) (o : Obj) : GX g w (fun x => g x ∨ x = w.heap.size) (w.alloc o) := by
  refine ⟨rfl, rfl, rfl, by simp, fun b hb => ?_, fun b hb hg => ?_⟩
  · show (w.heap.push o)[b]? = _
    rw [Array.getElem?_push, if_neg (by omega)]
  · rcases hg with hg | hg
    · exact hg
    · omega
theorem alloc_last (w : World) (o : Obj) : (w.alloc o).heap[w.heap.size]? = some o := by
  show (w.heap.push o)[w.heap.size]? = _
  simp
abbrev Pn := Nat → Nat → Obj → Prop
def Pn.add (p : Pn) (i b : Nat) (o : Obj) : Pn := fun f c x => p f c x ∨ (f = i ∧ c = b ∧ x = o)
def Pn.holds (p : Pn) (w : World) : Prop := ∀ f b x, p f b x → w.heap[b]? = some x
theorem lt_of_some {w : World} {b : Nat} {o : Obj} (h : w.heap[b]? = some o) : b < w.heap.size := (Array.getElem?_eq_some_iff.1 h).1
theorem Pn.holds.gx {p : Pn} {g g' : Nat → Prop} {w w' : World} (h : p.holds w) (k : GX g w g' w') : p.holds w' := fun f b x hp => (k.blk b (lt_of_some (h f b x hp))).trans (h f b x hp)
/-- What a walk goes by: the readers' classes; the heavy operations; the loose ones; which of these are held. -/
structure Plan where
  C : Nat → World → Prop
  hv : List Nat
  fr : List Nat
  pin : Nat → Bool
section
variable {P : Program} {ops : Array Oper} {pl : Plan} {Q : Act → World → Prop}
def pinAdd (pl : Plan) (pn : Pn) (i b : Nat) (o : Obj) : Pn := if pl.pin i then pn.add i b o else pn
def Rdp (P : Program) (ops : Array Oper) (pl : Plan) (pn : Pn) (i : Nat) (o : Oper) (v : Value) (a : Act) : Prop :=
  (Region.wanted o (yielded ops a.tmps) = true ∧ ∀ w, pl.C i w → (∀ f b x, pn f b x → bef ops f i = true → w.heap[b]? = some x) → (execOp a.eval o).run P w = .ok (.value v) w) ∨
  (Region.wanted o (yielded ops a.tmps) = false ∧ v = undef)
def Fr (P : Program) (o : Oper) (obj : Obj) (mk : Nat → Value) (a : Act) : Prop := ∀ w, (execOp a.eval o).run P w = .ok (.value (mk w.heap.size)) (w.alloc obj)
/-- What a heavy operation leaves alone. -/
structure HP (ops : Array Oper) (pl : Plan) (i : Nat) (pn : Pn) (g : Nat → Prop) (w w' : World) : Prop where
  loose : ∀ b, g b → b < w.heap.size → w'.heap[b]? = w.heap[b]?
  pins : pn.holds w'
  C : ∀ j, bef ops j i = false → pl.C j w'
  size : w.heap.size ≤ w'.heap.size
def TWI (P : Program) (ops : Array Oper) (pl : Plan) (Q : Act → World → Prop) : List Nat → Pn → (Nat → Prop) → Act → World → Prop
  | [], _, g, a, w => ∀ g' w', GX g w g' w' → Q a w'
  | i :: rest, pn, g, a, w => match ops[i]? with
    | none => False
    | some o =>
      if memN pl.hv i then
        if Region.wanted o (yielded ops a.tmps) then ∀ g' w', GX g w g' w' → o.wp P a w' (fun a' w'' => HP ops pl i pn g' w' w'' ∧ TWI P ops pl Q rest pn (fun b => g' b ∧ b < w'.heap.size) a' w'') NoQ
        else TWI P ops pl Q rest pn g (a.put o.dst undef) w
      else if memN pl.fr i then
        ∃ obj mk, Fr P o obj mk a ∧ ∀ g' w' b, GX g w g' w' → g' b → w'.heap[b]? = some obj → TWI P ops pl Q rest (pinAdd pl pn i b obj) (fun x => g' x ∧ x ≠ b) (a.put o.dst (mk b)) w'
      else ∃ v, Rdp P ops pl pn i o v a ∧ TWI P ops pl Q rest pn g (a.put o.dst v) w
theorem TWI.up : ∀ {rem : List Nat} {pn : Pn} {g g' : Nat → Prop} {a : Act} {w w' : World}, TWI P ops pl Q rem pn g a w → GX g w g' w' → TWI P ops pl Q rem pn g' a w'
  | [], pn, g, g', a, w, w', h, k => fun g2 w2 k2 => h g2 w2 (k.trans k2)
  | i :: rest, pn, g, g', a, w, w', h, k => by
    unfold TWI at h ⊢
    cases ho : ops[i]? with
    | none => rw [ho] at h; exact h
    | some o =>
      rw [ho] at h
      dsimp only at h ⊢
      split at h
      · rename_i h1
        rw [if_pos h1]
        split at h
        · rename_i h2
          rw [if_pos h2]
          exact fun g2 w2 k2 => h g2 w2 (k.trans k2)
        · rename_i h2
          rw [if_neg h2]
          exact TWI.up h k
      · rename_i h1
        rw [if_neg h1]
        split at h
        · rename_i h2
          rw [if_pos h2]
          obtain ⟨obj, mk, hf, h⟩ := h
          exact ⟨obj, mk, hf, fun g2 w2 b k2 => h g2 w2 b (k.trans k2)⟩
        · rename_i h2
          rw [if_neg h2]
          obtain ⟨v, hr, h⟩ := h
          exact ⟨v, hr, TWI.up h k⟩
theorem Rdp.same {pn : Pn} {i : Nat} {o : Oper} {v : Value} {a a' : Act} (hy : Rdp P ops pl pn i o v a) (he : execOp a'.eval o = execOp a.eval o)
    (hw : Region.wanted o (yielded ops a'.tmps) = Region.wanted o (yielded ops a.tmps)) : Rdp P ops pl pn i o v a' := by
  unfold Rdp at *
  rw [he, hw]
  exact hy
theorem Rdp.det {pn : Pn} {i : Nat} {o : Oper} {v u : Value} {a : Act} {w : World} (hw : pl.C i w) (hp : pn.holds w) (h : Rdp P ops pl pn i o v a) (h' : Rdp P ops pl pn i o u a) : v = u := by
  have hp' : ∀ f b x, pn f b x → bef ops f i = true → w.heap[b]? = some x := fun f b x q _ => hp f b x q
  rcases h with ⟨h1, h2⟩ | ⟨h1, h2⟩ <;> rcases h' with ⟨h3, h4⟩ | ⟨h3, h4⟩
  · have := (h2 w hw hp').symm.trans (h4 w hw hp')
    injection this with this
    injection this
  · rw [h1] at h3; cases h3
  · rw [h1] at h3; cases h3
  · rw [h2, h4]
theorem Rdp.put {pn : Pn} {i : Nat} {o p : Oper} {v : Value} {a : Act} (hs : NoSel o) (hap : ∀ d, p.dst = some d → d ∉ o.looksAt ops) (u : Value) :
    Rdp P ops pl pn i o v (a.put p.dst u) ↔ Rdp P ops pl pn i o v a :=
  ⟨fun h => h.same (execOp_put o hs a p.dst u hap).symm (wanted_put o a p.dst u hap).symm, fun h => h.same (execOp_put o hs a p.dst u hap) (wanted_put o a p.dst u hap)⟩
theorem Rdp.defers {pn : Pn} {i : Nat} {o : Oper} {v : Value} {a : Act} (d : List Deferred) : Rdp P ops pl pn i o v { a with defers := d } ↔ Rdp P ops pl pn i o v a :=
  ⟨fun h => h.same rfl rfl, fun h => h.same rfl rfl⟩
theorem Rdp.pins {pn pn' : Pn} {i : Nat} {o : Oper} {v : Value} {a : Act} (h : Rdp P ops pl pn i o v a) (hp : ∀ f b x, pn f b x → bef ops f i = true → pn' f b x) : Rdp P ops pl pn' i o v a := by
  rcases h with ⟨h1, h2⟩ | h
  · exact .inl ⟨h1, fun w hw hh => h2 w hw fun f b x q r => hh f b x (hp f b x q r) r⟩
  · exact .inr h
theorem pinAdd_mono {pn : Pn} {i b : Nat} {o : Obj} {f c : Nat} {x : Obj} (h : pn f c x) : pinAdd pl pn i b o f c x := by
  unfold pinAdd; split
  · exact .inl h
  · exact h
theorem pinAdd_back {pn : Pn} {i b : Nat} {o : Obj} {f c : Nat} {x : Obj} (h : pinAdd pl pn i b o f c x) : pn f c x ∨ (f = i ∧ c = b ∧ x = o) := by
  unfold pinAdd at h; split at h
  · exact h
  · exact .inl h
theorem pinAdd_holds {pn : Pn} {i b : Nat} {o : Obj} {w : World} (h : pn.holds w) (hb : w.heap[b]? = some o) : (pinAdd pl pn i b o).holds w := by
  intro f c x hx
  rcases pinAdd_back hx with hx | ⟨rfl, rfl, rfl⟩
  · exact h _ _ _ hx
  · exact hb
theorem pinAdd_comm (pn : Pn) (i b : Nat) (o : Obj) (i' b' : Nat) (o' : Obj) : pinAdd pl (pinAdd pl pn i b o) i' b' o' = pinAdd pl (pinAdd pl pn i' b' o') i b o := by
  unfold pinAdd
  funext f c x
  apply propext
  by_cases h1 : pl.pin i = true <;> by_cases h2 : pl.pin i' = true <;> simp only [h1, h2, if_true, if_false, Pn.add, Bool.false_eq_true]
  constructor
  · rintro ((h | h) | h)
    · exact .inl (.inl h)
    · exact .inr h
    · exact .inl (.inr h)
  · rintro ((h | h) | h)
    · exact .inl (.inl h)
    · exact .inr h
    · exact .inl (.inr h)
theorem Fr.put {o p : Oper} {obj : Obj} {mk : Nat → Value} {a : Act} (hs : NoSel o) (hap : ∀ d, p.dst = some d → d ∉ o.looksAt ops) (u : Value) : Fr P o obj mk (a.put p.dst u) ↔ Fr P o obj mk a := by
  unfold Fr
  rw [execOp_put o hs a p.dst u hap]
theorem Fr.det {o : Oper} {obj obj' : Obj} {mk mk' : Nat → Value} {a : Act} (h : Fr P o obj mk a) (h' : Fr P o obj' mk' a) (w : World) : obj = obj' ∧ ∀ n, mk n = mk' n := by
  constructor
  · have := (h w).symm.trans (h' w)
    injection this with _ this
    have hh := congrArg (fun v : World => v.heap[w.heap.size]?) this
    rw [alloc_last, alloc_last] at hh
    injection hh
  · intro n
    have := (h { w with heap := Array.replicate n (.deferred none) }).symm.trans (h' { w with heap := Array.replicate n (.deferred none) })
    injection this with this _
    injection this with this
    simpa using this
/-- Claim R: a reader that may come up may come up now. -/
theorem twi_reader (hsel : ∀ (i : Nat) (o : Oper), ops[i]? = some o → NoSel o) (hCX : ∀ j g w g' w', GX g w g' w' → pl.C j w → pl.C j w') {j : Nat} {oj : Oper} (hj : ops[j]? = some oj) (hjh : memN pl.hv j = false) (hjf : memN pl.fr j = false) {post : List Nat} :
    ∀ (pre : List Nat) (pn : Pn) (g : Nat → Prop) (a : Act) (w : World), (∀ k ∈ pre, bef ops j k = false ∧ bef ops k j = false ∧ ∀ ok : Oper, ops[k]? = some ok → Ap ops ok oj) → pl.C j w → pn.holds w →
      TWI P ops pl Q (pre ++ j :: post) pn g a w → ∃ v, Rdp P ops pl pn j oj v a ∧ TWI P ops pl Q (pre ++ post) pn g (a.put oj.dst v) w := by
  intro pre
  induction pre with
  | nil =>
    intro pn g a w _ hC hp h
    rw [List.nil_append] at h
    unfold TWI at h
    simp only [hj, hjh, hjf, Bool.false_eq_true, if_false] at h
    exact h
  | cons k rest ih =>
    intro pn g a w hap hC hp h
    rw [List.cons_append] at h ⊢
    unfold TWI at h ⊢
    obtain ⟨hb1, hb2, hA⟩ := hap k (List.mem_cons_self)
    have hap' := fun k' hk' => hap k' (List.mem_cons_of_mem _ hk')
    cases hok : ops[k]? with
    | none => rw [hok] at h; exact h.elim
    | some ok =>
      rw [hok] at h
      dsimp only at h ⊢
      have hA := hA ok hok
      have hsj := hsel j oj hj
      have hsk := hsel k ok hok
      split at h
      · rename_i hkh
        split at h
        · rename_i hw
          obtain ⟨b, u, w', ⟨hC', hK⟩, hb⟩ := upon_some (h g w (.refl g w))
          obtain ⟨v, hv1, _⟩ := ih _ _ _ w' hap' (hC'.C j hb1) hC'.pins hK
          have hv2 : Rdp P ops pl pn j oj v a := by
            have h3 := (Rdp.put hsj hA.a u).1 hv1
            rcases hb with rfl | ⟨d, rfl⟩
            · exact h3
            · exact (Rdp.defers _).1 h3
          refine ⟨v, hv2, ?_⟩
          rw [if_pos hkh, wanted_put ok a oj.dst v hA.c, if_pos hw]
          intro g1 w1 k1
          have h1 := h g1 w1 k1
          unfold Oper.wp at *
          rw [execOp_put ok hsk a oj.dst v hA.c]
          have key : ∀ (b : Act) (u : Value) (w' : World), (Rdp P ops pl pn j oj v a ↔ Rdp P ops pl pn j oj v b) → (HP ops pl k pn g1 w1 w' ∧ TWI P ops pl Q (rest ++ j :: post) pn (fun b => g1 b ∧ b < w1.heap.size) (b.put ok.dst u) w') →
              HP ops pl k pn g1 w1 w' ∧ TWI P ops pl Q (rest ++ post) pn (fun b => g1 b ∧ b < w1.heap.size) ((b.put oj.dst v).put ok.dst u) w' := by
            intro b u w' hb ⟨hC', hK⟩
            obtain ⟨v', h4, h5⟩ := ih _ _ _ w' hap' (hC'.C j hb1) hC'.pins hK
            have h6 := (Rdp.put hsj hA.a u).1 h4
            have : v' = v := h6.det (hC'.C j hb1) hC'.pins (hb.1 hv2)
            subst this
            refine ⟨hC', ?_⟩
            rw [Act.put_comm b v' u (fun d hd he => hA.b d he hd)]
            exact h5
          refine upon_frame (fun u w' hh => key a u w' Iff.rfl hh) (fun d u w' hh => ?_) h1
          have := key { a with defers := d :: a.defers } u w' (Rdp.defers _).symm hh
          rw [← Act.put_defers] at this
          exact this
        · rename_i hw
          obtain ⟨v, h1, h2⟩ := ih _ _ _ w hap' hC hp h
          refine ⟨v, (Rdp.put hsj hA.a undef).1 h1, ?_⟩
          rw [if_pos hkh, wanted_put ok a oj.dst v hA.c, if_neg hw]
          rw [Act.put_comm a v undef (fun d hd he => hA.b d he hd)]
          exact h2
      · rename_i hkh
        split at h
        · rename_i hkf
          obtain ⟨obj, mk, hF, h⟩ := h
          have back : ∀ (b : Nat) (v : Value) (c : Act), Rdp P ops pl (pinAdd pl pn k b obj) j oj v c → Rdp P ops pl pn j oj v c := fun b v c hr => hr.pins fun f c' x q r => by
            rcases pinAdd_back q with q | ⟨rfl, _, _⟩
            · exact q
            · rw [hb2] at r; cases r
          obtain ⟨v, hv1, _⟩ := ih _ _ _ (w.alloc obj) hap' (hCX _ _ _ _ _ (GX.alloc g w obj) hC) (pinAdd_holds (hp.gx (GX.alloc g w obj)) (alloc_last w obj)) (h _ _ _ (GX.alloc g w obj) (.inr rfl) (alloc_last w obj))
          have hv2 : Rdp P ops pl pn j oj v a := (Rdp.put hsj hA.a _).1 (back _ _ _ hv1)
          refine ⟨v, hv2, ?_⟩
          rw [if_neg hkh, if_pos hkf]
          refine ⟨obj, mk, (Fr.put hsk hA.c v).2 hF, fun g1 w1 b k1 hg hb => ?_⟩
          have hC1 := hCX _ _ _ _ _ k1 hC
          have hp1 := hp.gx k1
          obtain ⟨v', h4, h5⟩ := ih _ _ _ w1 hap' hC1 (pinAdd_holds hp1 hb) (h g1 w1 b k1 hg hb)
          have h6 := (Rdp.put hsj hA.a _).1 (back _ _ _ h4)
          have : v' = v := h6.det hC1 hp1 hv2
          subst this
          rw [Act.put_comm a v' (mk b) (fun d hd he => hA.b d he hd)]
          exact h5
        · rename_i hkf
          obtain ⟨u, h0, h⟩ := h
          obtain ⟨v, h1, h2⟩ := ih _ _ _ w hap' hC hp h
          refine ⟨v, (Rdp.put hsj hA.a u).1 h1, ?_⟩
          rw [if_neg hkh, if_neg hkf]
          refine ⟨u, (Rdp.put hsk hA.c v).2 h0, ?_⟩
          rw [Act.put_comm a v u (fun d hd he => hA.b d he hd)]
          exact h2
/-- Claim H: a heavy operation ahead of which readers alone stand may come up now. -/
theorem twi_heavy (hsel : ∀ (i : Nat) (o : Oper), ops[i]? = some o → NoSel o) {j : Nat} {oj : Oper} (hj : ops[j]? = some oj) (hjh : memN pl.hv j = true) {post : List Nat} :
    ∀ (pre : List Nat) (pn : Pn) (g : Nat → Prop) (a : Act) (w : World), (∀ k ∈ pre, memN pl.hv k = false ∧ memN pl.fr k = false ∧ ∀ ok : Oper, ops[k]? = some ok → Ap ops ok oj) →
      TWI P ops pl Q (pre ++ j :: post) pn g a w →
      if Region.wanted oj (yielded ops a.tmps) then ∀ g' w', GX g w g' w' → oj.wp P a w' (fun a' w'' => HP ops pl j pn g' w' w'' ∧ TWI P ops pl Q (pre ++ post) pn (fun b => g' b ∧ b < w'.heap.size) a' w'') NoQ
      else TWI P ops pl Q (pre ++ post) pn g (a.put oj.dst undef) w := by
  intro pre
  induction pre with
  | nil =>
    intro pn g a w _ h
    rw [List.nil_append] at h
    unfold TWI at h
    simp only [hj, hjh, if_true] at h
    exact h
  | cons k rest ih =>
    intro pn g a w hap h
    rw [List.cons_append] at h
    unfold TWI at h
    obtain ⟨hkh, hkf, hA'⟩ := hap k (List.mem_cons_self)
    cases hok : ops[k]? with
    | none => rw [hok] at h; exact h.elim
    | some ok =>
      rw [hok] at h
      have hA := hA' ok hok
      have hsj := hsel j oj hj
      have hsk := hsel k ok hok
      simp only [hkh, hkf, Bool.false_eq_true, if_false] at h
      obtain ⟨u, h0, h⟩ := h
      have h1 := ih pn g (a.put ok.dst u) w (fun k' hk' => hap k' (List.mem_cons_of_mem _ hk')) h
      rw [wanted_put oj a ok.dst u hA.a] at h1
      split at h1
      · rename_i hw
        rw [if_pos hw]
        intro g1 w1 k1
        have h1 := h1 g1 w1 k1
        unfold Oper.wp at h1 ⊢
        rw [execOp_put oj hsj a ok.dst u hA.a] at h1
        have key : ∀ (b : Act) (x : Value) (w' : World), (Rdp P ops pl pn k ok u a ↔ Rdp P ops pl pn k ok u b) → (HP ops pl j pn g1 w1 w' ∧ TWI P ops pl Q (rest ++ post) pn (fun b => g1 b ∧ b < w1.heap.size) ((b.put ok.dst u).put oj.dst x) w') →
            HP ops pl j pn g1 w1 w' ∧ TWI P ops pl Q (k :: rest ++ post) pn (fun b => g1 b ∧ b < w1.heap.size) (b.put oj.dst x) w' := by
          intro b x w' hb ⟨hC', hK⟩
          refine ⟨hC', ?_⟩
          rw [List.cons_append]
          unfold TWI
          simp only [hok, hkh, hkf, Bool.false_eq_true, if_false]
          refine ⟨u, (Rdp.put hsk hA.c x).2 (hb.1 h0), ?_⟩
          rw [← Act.put_comm b u x (fun d hd he => hA.b d hd he)]
          exact hK
        refine upon_frame (fun x w' hh => key a x w' Iff.rfl hh) (fun d x w' hh => ?_) h1
        refine key { a with defers := d :: a.defers } x w' (Rdp.defers _).symm ?_
        rw [← Act.put_defers]
        exact hh
      · rename_i hw
        rw [if_neg hw, List.cons_append]
        unfold TWI
        simp only [hok, hkh, hkf, Bool.false_eq_true, if_false]
        refine ⟨u, (Rdp.put hsk hA.c undef).2 h0, ?_⟩
        rw [← Act.put_comm a u undef (fun d hd he => hA.b d hd he)]
        exact h1
/-- Claim F: a block may be laid early. -/
theorem twi_free (hsel : ∀ (i : Nat) (o : Oper), ops[i]? = some o → NoSel o) {j : Nat} {oj : Oper} (hj : ops[j]? = some oj) (hjh : memN pl.hv j = false) (hjf : memN pl.fr j = true) {post : List Nat} :
    ∀ (pre : List Nat) (pn : Pn) (g : Nat → Prop) (a : Act) (w : World), (∀ k ∈ pre, ∀ ok : Oper, ops[k]? = some ok → Ap ops ok oj) →
      TWI P ops pl Q (pre ++ j :: post) pn g a w →
      ∃ obj mk, Fr P oj obj mk a ∧ ∀ g' w' b, GX g w g' w' → g' b → w'.heap[b]? = some obj → TWI P ops pl Q (pre ++ post) (pinAdd pl pn j b obj) (fun x => g' x ∧ x ≠ b) (a.put oj.dst (mk b)) w' := by
  intro pre
  induction pre with
  | nil =>
    intro pn g a w _ h
    rw [List.nil_append] at h
    unfold TWI at h
    simp only [hj, hjh, hjf, Bool.false_eq_true, if_false, if_true] at h
    exact h
  | cons k rest ih =>
    intro pn g a w hap h
    rw [List.cons_append] at h
    unfold TWI at h
    have hap' := fun k' hk' => hap k' (List.mem_cons_of_mem _ hk')
    cases hok : ops[k]? with
    | none => rw [hok] at h; exact h.elim
    | some ok =>
      rw [hok] at h
      dsimp only at h
      have hA := hap k (List.mem_cons_self) ok hok
      have hsj := hsel j oj hj
      have hsk := hsel k ok hok
      -- the loose blocks with b among them
      have widen : ∀ {g' g2 : Nat → Prop} {w' w2 : World} {b : Nat}, GX g w g' w' → g' b → b < w'.heap.size → GX (fun x => g' x ∧ x ≠ b) w' g2 w2 → GX g w (fun x => g2 x ∨ x = b) w2 := fun {g' g2 w' w2 b} k1 hg hb k2 => by
        refine ⟨k2.os.trans k1.os, k2.tape.trans k1.tape, k2.output.trans k1.output, Nat.le_trans k1.size k2.size, fun x hx => (k2.blk x (Nat.lt_of_lt_of_le hx k1.size)).trans (k1.blk x hx), fun x hx hh => ?_⟩
        rcases hh with hh | rfl
        · exact k1.old x hx (k2.old x (Nat.lt_of_lt_of_le hx k1.size) hh).1
        · exact k1.old _ hx hg
      have notb : ∀ {g' g2 : Nat → Prop} {w' w2 : World} {b : Nat}, b < w'.heap.size → GX (fun x => g' x ∧ x ≠ b) w' g2 w2 → ¬ g2 b := fun {g' g2 w' w2 b} hb k2 hh => (k2.old b hb hh).2 rfl
      split at h
      · rename_i hkh
        split at h
        · rename_i hw
          obtain ⟨c, u, w0, ⟨_, hK⟩, hb⟩ := upon_some (h g w (.refl g w))
          obtain ⟨obj, mk, hF, _⟩ := ih _ _ _ w0 hap' hK
          have hF : Fr P oj obj mk a := by
            have h3 := (Fr.put hsj hA.a u).1 hF
            rcases hb with rfl | ⟨d, rfl⟩
            · exact h3
            · exact h3
          refine ⟨obj, mk, hF, fun g1 w1 b k1 hg hb1 => ?_⟩
          have hblt := lt_of_some hb1
          rw [List.cons_append]
          unfold TWI
          simp only [hok]
          rw [if_pos hkh, wanted_put ok a oj.dst (mk b) hA.c, if_pos hw]
          intro g2 w2 k2
          have h1 := h _ w2 (widen k1 hg hblt k2)
          have hb2 : w2.heap[b]? = some obj := (k2.blk b hblt).trans hb1
          have hnb := notb hblt k2
          unfold Oper.wp at *
          rw [execOp_put ok hsk a oj.dst (mk b) hA.c]
          have key : ∀ (c : Act) (u : Value) (w' : World), (Fr P oj obj mk c) → (HP ops pl k pn (fun x => g2 x ∨ x = b) w2 w' ∧ TWI P ops pl Q (rest ++ j :: post) pn (fun x => (g2 x ∨ x = b) ∧ x < w2.heap.size) (c.put ok.dst u) w') →
              HP ops pl k (pinAdd pl pn j b obj) g2 w2 w' ∧ TWI P ops pl Q (rest ++ post) (pinAdd pl pn j b obj) (fun x => g2 x ∧ x < w2.heap.size) ((c.put oj.dst (mk b)).put ok.dst u) w' := by
            intro c u w' hc ⟨hC', hK⟩
            have hb3 : w'.heap[b]? = some obj := (hC'.loose b (.inr rfl) (lt_of_some hb2)).trans hb2
            refine ⟨⟨fun x hx hl => hC'.loose x (.inl hx) hl, pinAdd_holds hC'.pins hb3, hC'.C, hC'.size⟩, ?_⟩
            obtain ⟨obj', mk', h4, h5⟩ := ih _ _ _ w' hap' hK
            obtain ⟨e1, e2⟩ := Fr.det ((Fr.put hsj hA.a u).1 h4) hc w'
            subst e1
            have h6 := h5 _ w' b (.refl _ _) ⟨.inr rfl, lt_of_some hb2⟩ hb3
            rw [e2] at h6
            rw [Act.put_comm c (mk b) u (fun d hd he => hA.b d he hd)]
            exact h6.up (GX.less w' fun x hx => ⟨⟨.inl hx.1, hx.2⟩, fun e => hnb (e ▸ hx.1)⟩)
          refine upon_frame (fun u w' hh => key a u w' hF hh) (fun d u w' hh => ?_) h1
          have := key { a with defers := d :: a.defers } u w' hF hh
          rw [← Act.put_defers] at this
          exact this
        · rename_i hw
          obtain ⟨obj, mk, hF, h1⟩ := ih _ _ _ w hap' h
          have hF := (Fr.put hsj hA.a undef).1 hF
          refine ⟨obj, mk, hF, fun g1 w1 b k1 hg hb1 => ?_⟩
          rw [List.cons_append]
          unfold TWI
          simp only [hok]
          rw [if_pos hkh, wanted_put ok a oj.dst (mk b) hA.c, if_neg hw]
          rw [Act.put_comm a (mk b) undef (fun d hd he => hA.b d he hd)]
          exact h1 g1 w1 b k1 hg hb1
      · rename_i hkh
        split at h
        · rename_i hkf
          obtain ⟨obj', mk', hF', h⟩ := h
          obtain ⟨obj, mk, hF, _⟩ := ih _ _ _ (w.alloc obj') hap' (h _ _ _ (GX.alloc g w obj') (.inr rfl) (alloc_last w obj'))
          have hF := (Fr.put hsj hA.a _).1 hF
          refine ⟨obj, mk, hF, fun g1 w1 b k1 hg hb1 => ?_⟩
          have hblt := lt_of_some hb1
          rw [List.cons_append]
          unfold TWI
          simp only [hok]
          rw [if_neg hkh, if_pos hkf]
          refine ⟨obj', mk', (Fr.put hsk hA.c _).2 hF', fun g2 w2 b' k2 hg2 hb2 => ?_⟩
          have hnb := notb hblt k2
          have hbw2 : w2.heap[b]? = some obj := (k2.blk b hblt).trans hb1
          have hbb : b' ≠ b := fun e => hnb (e ▸ hg2)
          obtain ⟨obj2, mk2, h4, h5⟩ := ih _ _ _ w2 hap' (h _ w2 b' (widen k1 hg hblt k2) (.inl hg2) hb2)
          obtain ⟨e1, e2⟩ := Fr.det ((Fr.put hsj hA.a _).1 h4) hF w2
          subst e1
          have h6 := h5 _ w2 b (.refl _ _) ⟨.inr rfl, fun e => hbb e.symm⟩ hbw2
          rw [e2, pinAdd_comm] at h6
          rw [Act.put_comm a (mk b) (mk' b') (fun d hd he => hA.b d he hd)]
          exact h6.up (GX.less w2 fun x hx => ⟨⟨.inl hx.1, hx.2⟩, fun e => hnb (e ▸ hx.1)⟩)
        · rename_i hkf
          obtain ⟨u, h0, h⟩ := h
          obtain ⟨obj, mk, hF, h1⟩ := ih _ _ _ w hap' h
          have hF := (Fr.put hsj hA.a u).1 hF
          refine ⟨obj, mk, hF, fun g1 w1 b k1 hg hb1 => ?_⟩
          rw [List.cons_append]
          unfold TWI
          simp only [hok]
          rw [if_neg hkh, if_neg hkf]
          refine ⟨u, ((Rdp.put hsk hA.c _).2 h0).pins fun f c x q _ => pinAdd_mono q, ?_⟩
          rw [Act.put_comm a (mk b) u (fun d hd he => hA.b d he hd)]
          exact h1 g1 w1 b k1 hg hb1
end
end Go.Wx
end PDrawJ
/- Regions that draw their order: one walk serves every order. -/
section PDrawK
set_option linter.unusedVariables false
set_option linter.unusedSimpArgs false
namespace Go.Wx
def apartB (ops : Array Oper) (x y : Nat) : Bool := match ops[x]?, ops[y]? with
  | some ox, some oy => ox.apart ops oy
  | _, _ => true
def ancL (ops : Array Oper) (i : Nat) : List Nat := ancS ops ops.size (predsB ops i)
/-- x stands ahead of y in the order of the walk. -/
def relB (ops : Array Oper) (hv fr : List Nat) (x y : Nat) : Bool :=
  !(Nat.beq x y) && !(memN (ancL ops x) y) && (waits ops x y || apartB ops x y) && (!(memN hv y) || !(memN hv x || memN fr x) || memN (ancL ops y) x)
def pairsB (r : Nat → Nat → Bool) : List Nat → Bool
  | [] => true
  | x :: l => l.all (r x) && pairsB r l
def freeB (ops : Array Oper) (hv : List Nat) (i : Nat) : Bool := match ops[i]? with
  | some o => o.guard.isNone && !(memN hv i)
  | none => false
/-- The static check of a region with its order. -/
def planB (ops : Array Oper) (σ hv fr : List Nat) : Bool :=
  Region.noSelect ops && noDefer ops && pairsB (relB ops hv fr) σ && (List.range ops.size).all (memN σ) && σ.all (fun i => Nat.blt i ops.size) && Nat.beq σ.length ops.size &&
  (List.range ops.size).all (fun i => (predsB ops i).all fun p => Nat.blt p ops.size && !(Nat.beq p i)) && fr.all (freeB ops hv)
structure RelS (ops : Array Oper) (hv fr : List Nat) (x y : Nat) : Prop where
  ne : x ≠ y
  back : bef ops y x = false
  ap : waits ops x y = true ∨ ∀ ox oy : Oper, ops[x]? = some ox → ops[y]? = some oy → Ap ops ox oy
  way : memN hv y = true → (memN hv x = true ∨ memN fr x = true) → bef ops x y = true
theorem relB_spec {ops : Array Oper} {hv fr : List Nat} {x y : Nat} (h : relB ops hv fr x y = true) : RelS ops hv fr x y := by
  unfold relB at h
  simp only [Bool.and_eq_true, Bool.or_eq_true, Bool.not_eq_true'] at h
  obtain ⟨⟨⟨h1, h2⟩, h3⟩, h4⟩ := h
  refine ⟨fun e => ?_, h2, ?_, fun hy hx => ?_⟩
  · rw [e] at h1
    have : Nat.beq y y = true := by rw [Nat.beq_eq]
    rw [this] at h1; cases h1
  · rcases h3 with h3 | h3
    · exact .inl h3
    · refine .inr fun ox oy hox hoy => ?_
      unfold apartB at h3
      rw [hox, hoy] at h3
      exact Ap.of h3
  · rcases h4 with (h4 | h4) | h4
    · rw [hy] at h4; cases h4
    · rw [Bool.or_eq_false_iff] at h4
      rcases hx with hx | hx
      · rw [hx] at h4; cases h4.1
      · rw [hx] at h4; cases h4.2
    · exact h4
theorem pairsB_spec {r : Nat → Nat → Bool} : ∀ {l : List Nat}, pairsB r l = true → l.Pairwise fun x y => r x y = true
  | [], _ => .nil
  | x :: l, h => by
    unfold pairsB at h
    rw [Bool.and_eq_true, List.all_eq_true] at h
    exact .cons h.1 (pairsB_spec h.2)
theorem ancS_sub {ops : Array Oper} : ∀ (n : Nat) (S : List Nat), ∀ x ∈ S, x ∈ ancS ops n S
  | 0, S, x, h => h
  | n + 1, S, x, h => by
    unfold ancS
    refine ancS_sub n _ x ?_
    split
    · exact List.mem_append_right _ h
    · exact h
theorem bef_pred {ops : Array Oper} {p i : Nat} (h : p ∈ predsB ops i) : bef ops p i = true := memN_iff.2 (ancS_sub _ _ _ h)
theorem waits_pred {ops : Array Oper} {x y : Nat} (h : waits ops x y = true) : x ∈ predsB ops y := by
  obtain ⟨o, ho, e, he, hb, heq⟩ := waits_spec h
  unfold predsB
  rw [ho]
  refine List.mem_map.2 ⟨e, ?_, heq⟩
  rw [List.mem_filter]
  exact ⟨by simpa using he, hb⟩
section
variable {P : Program} {ops : Array Oper} {pl : Plan} {ro : Option Nat}
structure InvS (ops : Array Oper) (pl : Plan) (listed : Array Bool) (rem : List Nat) : Prop where
  size : listed.size = ops.size
  mem : ∀ i, i ∈ rem ↔ listed.getD i true = false
  pair : rem.Pairwise (RelS ops pl.hv pl.fr)
  down : ∀ k, listed.getD k false = true → ∀ p ∈ predsB ops k, listed.getD p false = true
theorem InvS.lt {listed : Array Bool} {rem : List Nat} (h : InvS ops pl listed rem) {i : Nat} (hi : i ∈ rem) : i < ops.size := by
  have := (h.mem i).1 hi
  rcases Nat.lt_or_ge i listed.size with h' | h'
  · rw [← h.size]; exact h'
  · simp [Array.getD, Nat.not_lt.2 h'] at this
theorem InvS.listed_iff {listed : Array Bool} {rem : List Nat} (h : InvS ops pl listed rem) {i : Nat} (hi : i < ops.size) : listed.getD i false = true ↔ i ∉ rem := by
  have hs : i < listed.size := by rw [h.size]; exact hi
  rw [h.mem, getD_false_of hs]
  simp
theorem ready_preds {listed : Array Bool} {j : Nat} (h : j ∈ Region.ready .any ops listed) : ∀ p ∈ predsB ops j, listed.getD p false = true := by
  obtain ⟨_, oj, hoj, hall⟩ := mem_ready.1 h
  intro p hp
  unfold predsB at hp
  rw [hoj] at hp
  obtain ⟨e, he, rfl⟩ := List.mem_map.1 hp
  rw [List.mem_filter] at he
  exact hall e (by simpa using he.1) he.2
theorem InvS.bef_listed {listed : Array Bool} {rem : List Nat} (h : InvS ops pl listed rem) {j k : Nat} (hr : j ∈ Region.ready .any ops listed) (hb : bef ops k j = true) : listed.getD k false = true :=
  bef_of (p := fun i => listed.getD i false = true) (fun k hk => h.down k hk) (ready_preds hr) hb
theorem InvS.step {listed : Array Bool} {pre post : List Nat} {j : Nat} (h : InvS ops pl listed (pre ++ j :: post)) (hr : j ∈ Region.ready .any ops listed) : InvS ops pl (listed.setIfInBounds j true) (pre ++ post) := by
  have hlt := h.lt (i := j) (by simp)
  have hs : j < listed.size := by rw [h.size]; exact hlt
  obtain ⟨h1, h2, h3⟩ := List.pairwise_append.1 h.pair
  obtain ⟨h4, h5⟩ := List.pairwise_cons.1 h2
  have hn1 : j ∉ pre := fun hm => (h3 j hm j (by simp)).ne rfl
  have hn2 : j ∉ post := fun hm => (h4 j hm).ne rfl
  refine ⟨by simp [h.size], fun i => ?_, List.pairwise_append.2 ⟨h1, h5, fun x hx y hy => h3 x hx y (List.mem_cons_of_mem _ hy)⟩, fun k hk p hp => ?_⟩
  · by_cases hij : i = j
    · subst hij
      simp [Array.getD, hs, hn1, hn2]
    · rw [getD_set_ne true (Ne.symm hij), ← h.mem]
      simp [hij]
  · by_cases hkj : k = j
    · subst hkj
      exact getD_set_true (ready_preds hr p hp)
    · rw [getD_set_ne false (Ne.symm hkj)] at hk
      exact getD_set_true (h.down k hk p hp)
/-- One walk serves every order. -/
theorem twi_any {Q : Exit → Act → World → Prop} {Q0 : Act → World → Prop} (hsel : ∀ (i : Nat) (o : Oper), ops[i]? = some o → NoSel o) (hD : noDefer ops = true) (hCX : ∀ j g w g' w', GX g w g' w' → pl.C j w → pl.C j w')
    (hpr : ∀ i, ∀ p ∈ predsB ops i, p < ops.size ∧ p ≠ i) (hfg : ∀ i ∈ pl.fr, ∀ o : Oper, ops[i]? = some o → o.guard = none ∧ memN pl.hv i = false) {tl : List Nat}
    (htl : ∀ m ∈ tl, ∀ i, i < ops.size → i ∉ tl → bef ops i m = true)
    (hend : ∀ listed a w, InvS ops pl listed tl → Q0 a w → wpAnyIn (fw ro) 0 P .any ops Q tl.length listed a w) :
    ∀ (n : Nat) (rem : List Nat) (listed : Array Bool) (pn : Pn) (g : Nat → Prop) (a : Act) (w : World), rem.length = n → InvS ops pl listed (rem ++ tl) → (∀ j ∈ rem, memN pl.hv j = false → pl.C j w) → pn.holds w →
      TWI P ops pl Q0 rem pn g a w → wpAnyIn (fw ro) 0 P .any ops Q (n + tl.length) listed a w := by
  intro n
  induction n with
  | zero =>
    intro rem listed pn g a w hn hI hC hp h
    have : rem = [] := List.eq_nil_of_length_eq_zero hn
    subst this
    rw [Nat.zero_add]
    exact hend listed a w (by simpa using hI) (h g w (.refl g w))
  | succ n ih =>
    intro rem listed pn g a w hn hI hC hp h
    rw [show n + 1 + tl.length = (n + tl.length) + 1 from by omega]
    obtain ⟨i, rest, hrem⟩ : ∃ i rest, rem = i :: rest := by
      cases rem with
      | nil => simp at hn
      | cons i rest => exact ⟨i, rest, rfl⟩
    have hir : i ∈ Region.ready .any ops listed := by
      have hlt := hI.lt (i := i) (by rw [hrem]; simp)
      refine mem_ready.2 ⟨(hI.mem i).1 (by rw [hrem]; simp), ops[i], Array.getElem?_eq_getElem hlt, fun e he hb => ?_⟩
      have hpm : e.on ∈ predsB ops i := by
        unfold predsB
        rw [Array.getElem?_eq_getElem hlt]
        exact List.mem_map.2 ⟨e, by rw [List.mem_filter]; exact ⟨by simpa using he, hb⟩, rfl⟩
      obtain ⟨hp1, hp2⟩ := hpr i _ hpm
      rw [hI.listed_iff hp1]
      intro hm
      rw [hrem, List.cons_append, List.mem_cons] at hm
      rcases hm with hm | hm
      · exact hp2 hm
      · have hpair := hI.pair
        rw [hrem, List.cons_append] at hpair
        have := ((List.pairwise_cons.1 hpair).1 _ hm).back
        rw [bef_pred hpm] at this
        cases this
    refine ⟨fun h0 => (by rw [h0] at hir; cases hir), fun j hj => ?_⟩
    obtain ⟨hun, oj, hoj, hall⟩ := mem_ready.1 hj
    have hjm0 : j ∈ rem ++ tl := (hI.mem j).2 hun
    have hjm : j ∈ rem := by
      rcases List.mem_append.1 hjm0 with hm | hm
      · exact hm
      · exfalso
        have hit : i ∉ tl := fun hit => by
          have := (List.pairwise_append.1 hI.pair).2.2 i (by rw [hrem]; simp) i hit
          exact this.ne rfl
        have hil := hI.lt (i := i) (by rw [hrem]; simp)
        have := hI.bef_listed hj (htl j hm i hil hit)
        rw [hI.listed_iff hil] at this
        exact this (by rw [hrem]; simp)
    obtain ⟨pre, post, hs⟩ := List.append_of_mem hjm
    subst hs
    have hI1 : InvS ops pl listed (pre ++ j :: (post ++ tl)) := by simpa using hI
    have hI' := hI1.step hj
    have hI' : InvS ops pl (listed.setIfInBounds j true) ((pre ++ post) ++ tl) := by simpa using hI'
    have hlen : (pre ++ post).length = n := by simp at hn ⊢; omega
    have hlt := hI1.lt (i := j) (by simp)
    have hrel : ∀ k ∈ pre, RelS ops pl.hv pl.fr k j := fun k hk => (List.pairwise_append.1 hI1.pair).2.2 k hk j (by simp)
    have hunl : ∀ k ∈ pre ++ post, listed.getD k false ≠ true := fun k hk hh => by
      have hkl := hI.lt (i := k) (by rw [List.mem_append] at hk; simp; rcases hk with hk | hk <;> simp [hk])
      rw [hI.listed_iff hkl] at hh
      exact hh (by rw [List.mem_append] at hk; simp; rcases hk with hk | hk <;> simp [hk])
    have hnb : ∀ k ∈ pre ++ post, bef ops k j = false := fun k hk => by
      cases hb : bef ops k j with
      | false => rfl
      | true => exact absurd (hI.bef_listed hj hb) (hunl k hk)
    have hap : ∀ k ∈ pre, ∀ ok : Oper, ops[k]? = some ok → Ap ops ok oj := fun k hk ok hok => by
      rcases (hrel k hk).ap with hw | ha
      · have := hnb k (List.mem_append_left _ hk)
        rw [bef_pred (waits_pred hw)] at this
        cases this
      · exact ha ok oj hok hoj
    have hCs : ∀ w', (∀ k, bef ops k j = false → pl.C k w') → ∀ k ∈ pre ++ post, memN pl.hv k = false → pl.C k w' := fun w' hh k hk _ => hh k (hnb k hk)
    have hCk : ∀ k ∈ pre ++ post, memN pl.hv k = false → pl.C k w := fun k hk hh => hC k (by rw [List.mem_append] at hk; simp; rcases hk with hk | hk <;> simp [hk]) hh
    cases hjh : memN pl.hv j with
    | true =>
      have h1 := twi_heavy hsel hoj hjh pre pn g a w (fun k hk => ?_) h
      · unfold wpOpIn
        simp only [hoj]
        by_cases hw : Region.wanted oj (yielded ops a.tmps) = true
        · rw [if_pos hw] at h1 ⊢
          exact wpIn_op (upon_mono (fun a' w' hh => ih _ _ pn _ a' w' hlen hI' (hCs w' hh.1.C) hh.1.pins hh.2) (fun _ _ _ hh => hh.elim) (h1 g w (.refl g w))) (.inr (noDefer_at hD hoj))
        · rw [if_neg hw] at h1 ⊢
          exact ⟨fun _ _ => trivial, ih _ _ pn g _ w hlen hI' hCk hp h1⟩
      · have hb := hnb k (List.mem_append_left _ hk)
        have hway := (hrel k hk).way hjh
        refine ⟨?_, ?_, hap k hk⟩
        · cases hkh : memN pl.hv k with
          | false => rfl
          | true => rw [hway (.inl hkh)] at hb; cases hb
        · cases hkf : memN pl.fr k with
          | false => rfl
          | true => rw [hway (.inr hkf)] at hb; cases hb
    | false =>
      cases hjf : memN pl.fr j with
      | true =>
        obtain ⟨obj, mk, hF, h1⟩ := twi_free hsel hoj hjh hjf pre pn g a w hap h
        have hgd := (hfg j (memN_iff.1 hjf) oj hoj).1
        have hw : Region.wanted oj (yielded ops a.tmps) = true := by unfold Region.wanted; rw [hgd]
        unfold wpOpIn
        simp only [hoj]
        rw [if_pos hw]
        refine wpIn_op ?_ (.inr (noDefer_at hD hoj))
        unfold Oper.wp
        rw [hF w]
        simp only [Oper.upon]
        have k1 := GX.alloc g w obj
        exact ih _ _ _ _ _ _ hlen hI' (fun k hk hh => hCX _ _ _ _ _ k1 (hCk k hk hh)) (pinAdd_holds (hp.gx k1) (alloc_last w obj)) (h1 _ _ _ k1 (.inr rfl) (alloc_last w obj))
      | false =>
        obtain ⟨v, h1, h2⟩ := twi_reader hsel hCX hoj hjh hjf pre pn g a w (fun k hk => ⟨(hrel k hk).back, hnb k (List.mem_append_left _ hk), hap k hk⟩) (hC j (by simp) hjh) hp h
        have h3 := ih _ _ pn g _ w hlen hI' hCk hp h2
        unfold wpOpIn
        simp only [hoj]
        rcases h1 with ⟨hw, hv'⟩ | ⟨hw, rfl⟩
        · rw [if_pos hw]
          refine wpIn_op ?_ (.inr (noDefer_at hD hoj))
          unfold Oper.wp
          rw [hv' w (hC j (by simp) hjh) (fun f b x q _ => hp f b x q)]
          simp only [Oper.upon]
          exact h3
        · rw [if_neg (by rw [hw]; simp)]
          exact ⟨fun _ _ => trivial, h3⟩
theorem InvS.start {σ : List Nat} (h1 : pairsB (relB ops pl.hv pl.fr) σ = true) (h2 : ∀ i, i < ops.size → i ∈ σ) (h3 : ∀ i ∈ σ, i < ops.size) (hpr : ∀ i, ∀ p ∈ predsB ops i, p < ops.size ∧ p ≠ i) : InvS ops pl (Array.replicate ops.size false) σ := by
  refine ⟨by simp, fun i => ?_, (pairsB_spec h1).imp fun h => relB_spec h, fun k hk p hp => ?_⟩
  · by_cases h : i < ops.size
    · simp [Array.getD, h, h2 i h]
    · simp [Array.getD, h]
      exact fun hm => h (h3 i hm)
  · exfalso
    by_cases h : k < ops.size <;> simp [Array.getD, h] at hk
structure PlanOk (ops : Array Oper) (σ hv fr : List Nat) : Prop where
  sel : ∀ (i : Nat) (o : Oper), ops[i]? = some o → NoSel o
  nd : noDefer ops = true
  pairs : pairsB (relB ops hv fr) σ = true
  all : ∀ i, i < ops.size → i ∈ σ
  lt : ∀ i ∈ σ, i < ops.size
  len : σ.length = ops.size
  pr : ∀ i, ∀ p ∈ predsB ops i, p < ops.size ∧ p ≠ i
  fg : ∀ i ∈ fr, ∀ o : Oper, ops[i]? = some o → o.guard = none ∧ memN hv i = false
theorem planB_spec {σ hv fr : List Nat} (h : planB ops σ hv fr = true) : PlanOk ops σ hv fr := by
  unfold planB at h
  simp only [Bool.and_eq_true, List.all_eq_true, List.mem_range, Nat.blt_eq, Nat.beq_eq, Bool.not_eq_true'] at h
  obtain ⟨⟨⟨⟨⟨⟨⟨h1, h2⟩, h3⟩, h4⟩, h5⟩, h6⟩, h7⟩, h8⟩ := h
  refine ⟨fun i o h cs b => Region.noSelect_spec h1 i o cs b h, h2, h3, fun i hi => memN_iff.1 (h4 i hi), h5, h6, fun i p hp => ?_, fun i hi o ho => ?_⟩
  · have hi : i < ops.size := by
      rcases Nat.lt_or_ge i ops.size with h | h
      · exact h
      · unfold predsB at hp
        rw [Array.getElem?_eq_none h] at hp
        cases hp
    obtain ⟨a, b⟩ := h7 i hi p hp
    exact ⟨a, fun e => by rw [e] at b; have : Nat.beq i i = true := by rw [Nat.beq_eq]
                          rw [this] at b; cases b⟩
  · have := h8 i hi
    unfold freeB at this
    rw [ho] at this
    simp only [Bool.and_eq_true, Bool.not_eq_true', Option.isNone_iff_eq_none] at this
    exact this
/-- A region that draws its order, in a frame or a round. -/
theorem wpIn_region_twi {id : Nat} {Q : Exit → Act → World → Prop} {a : Act} {w : World} {σ : List Nat} (hm : P.follows .mixedOrders = true) (hB : PlanOk ops σ pl.hv pl.fr) (hCX : ∀ j g w g' w', GX g w g' w' → pl.C j w → pl.C j w') (hC : ∀ j, pl.C j w.drew)
    (h : TWI P ops pl (fun a w => Q .normal a w) σ (fun _ _ _ => False) (fun _ => False) a w.drew) : (Code.region id ops true).wpIn (fw ro) 0 P Q a w := by
  have hI := InvS.start (pl := pl) hB.pairs hB.all hB.lt hB.pr
  have := twi_any (ro := ro) (Q := Q) (tl := []) hB.sel hB.nd hCX hB.pr hB.fg (fun m hm => by cases hm) (fun listed a w hI hq => ?_) ops.size σ _ _ _ a w.drew hB.len (by simpa using hI) (fun j _ _ => hC j) (fun f b x hx => hx.elim) h
  · exact wpIn_region_any hm (by simpa using this)
  · refine ⟨?_, hq⟩
    rw [List.eq_nil_iff_forall_not_mem]
    intro j hj
    have := (mem_ready.1 hj).1
    exact absurd ((hI.mem j).2 this) (by simp)
/-- A region that draws its order, whose last operation may end it. -/
theorem wpIn_region_twiL {id : Nat} {Q : Exit → Act → World → Prop} {a : Act} {w : World} {σ : List Nat} {m : Nat} (hm : P.follows .mixedOrders = true) (hB : PlanOk ops (σ ++ [m]) pl.hv pl.fr) (hL : ∀ i, i < ops.size → i ≠ m → bef ops i m = true)
    (hCX : ∀ j g w g' w', GX g w g' w' → pl.C j w → pl.C j w') (hC : ∀ j, pl.C j w.drew)
    (h : TWI P ops pl (fun a w => wpOpIn (fw ro) 0 P ops Q m (fun a w => Q .normal a w) a w) σ (fun _ _ _ => False) (fun _ => False) a w.drew) : (Code.region id ops true).wpIn (fw ro) 0 P Q a w := by
  have hI := InvS.start (pl := pl) hB.pairs hB.all hB.lt hB.pr
  have hlen := hB.len
  rw [List.length_append, List.length_singleton] at hlen
  have := twi_any (ro := ro) (Q := Q) (tl := [m]) hB.sel hB.nd hCX hB.pr hB.fg (fun x hx i hi hn => ?_) (fun listed a w hI hq => ?_) σ.length σ _ _ _ a w.drew rfl hI (fun j _ _ => hC j) (fun f b x hx => hx.elim) h
  · rw [List.length_singleton, hlen] at this
    exact wpIn_region_any hm this
  · simp only [List.mem_singleton] at hx hn
    subst hx
    exact hL i hi hn
  · have hm0 := hI.lt (i := m) (by simp)
    have hr : m ∈ Region.ready .any ops listed := by
      refine mem_ready.2 ⟨(hI.mem _).1 (by simp), ops[m], Array.getElem?_eq_getElem hm0, fun e he hb => ?_⟩
      have hpm : e.on ∈ predsB ops m := by
        unfold predsB
        rw [Array.getElem?_eq_getElem hm0]
        exact List.mem_map.2 ⟨e, by rw [List.mem_filter]; exact ⟨by simpa using he, hb⟩, rfl⟩
      obtain ⟨hp1, hp2⟩ := hB.pr m _ hpm
      rw [hI.listed_iff hp1]
      simpa using hp2
    rw [List.length_singleton]
    refine ⟨fun h0 => (by rw [h0] at hr; cases hr), fun j hj => ?_⟩
    have hjm : j = m := by
      have := (hI.mem j).2 (mem_ready.1 hj).1
      simpa using this
    subst hjm
    have hI' := hI.step (pre := []) (post := []) hj
    have h0 : Region.ready .any ops (listed.setIfInBounds j true) = [] := by
      rw [List.eq_nil_iff_forall_not_mem]
      intro k hk
      exact absurd ((hI'.mem k).2 (mem_ready.1 hk).1) (by simp)
    exact wpOpIn_mono (fun a w hq => ⟨h0, hq⟩) hq
end
end Go.Wx
end PDrawK
/- The evaluator: tries, abstract blocks, how abstract values and worlds read concretely. -/
noncomputable section PEv1
set_option linter.unusedVariables false
set_option linter.unusedSimpArgs false
namespace Go.Wx
open Go.RowKit

/-! ### Tries -/
inductive Tr (α : Type) where
  | lf
  | nd (v : Option α) (l r : Tr α)
noncomputable def Tr.get {α : Type} (t : Tr α) : Nat → Option α :=
  Tr.rec (motive := fun _ => Nat → Option α) (fun _ => none)
    (fun v _ _ il ir k => Nat.rec (motive := fun _ => Option α) v (fun j _ => Nat.rec (motive := fun _ => Option α) (il (Nat.div j 2)) (fun _ _ => ir (Nat.div j 2)) (Nat.mod j 2)) k) t
noncomputable def Tr.set {α : Type} (f : Nat) : Tr α → Nat → α → Tr α :=
  Nat.rec (motive := fun _ => Tr α → Nat → α → Tr α) (fun t _ _ => t) (fun _ ih t k x =>
    Tr.rec (motive := fun _ => Tr α)
      (Nat.rec (motive := fun _ => Tr α) (.nd (some x) .lf .lf) (fun j _ => Nat.rec (motive := fun _ => Tr α) (.nd none (ih .lf (Nat.div j 2) x) .lf) (fun _ _ => .nd none .lf (ih .lf (Nat.div j 2) x)) (Nat.mod j 2)) k)
      (fun v l r _ _ => Nat.rec (motive := fun _ => Tr α) (.nd (some x) l r) (fun j _ => Nat.rec (motive := fun _ => Tr α) (.nd v (ih l (Nat.div j 2) x) r) (fun _ _ => .nd v l (ih r (Nat.div j 2) x)) (Nat.mod j 2)) k) t) f
theorem Tr.get_lf {α : Type} (k : Nat) : (Tr.lf : Tr α).get k = none := rfl
theorem Tr.get_nd0 {α : Type} (v : Option α) (l r : Tr α) : (Tr.nd v l r).get 0 = v := rfl
theorem Tr.get_ndl {α : Type} (v : Option α) (l r : Tr α) {j : Nat} (h : j % 2 = 0) : (Tr.nd v l r).get (j + 1) = l.get (j / 2) := by
  show Nat.rec (motive := fun _ => Option α) (l.get (j / 2)) (fun _ _ => r.get (j / 2)) (j % 2) = _
  rw [h]
  rfl
theorem Tr.get_ndr {α : Type} (v : Option α) (l r : Tr α) {j : Nat} (h : j % 2 = 1) : (Tr.nd v l r).get (j + 1) = r.get (j / 2) := by
  show Nat.rec (motive := fun _ => Option α) (l.get (j / 2)) (fun _ _ => r.get (j / 2)) (j % 2) = _
  rw [h]
  rfl
theorem Tr.set_lfl {α : Type} (f : Nat) {j : Nat} (x : α) (h : j % 2 = 0) : Tr.set (f + 1) .lf (j + 1) x = .nd none (Tr.set f .lf (j / 2) x) .lf := by
  show Nat.rec (motive := fun _ => Tr α) _ (fun _ _ => _) (j % 2) = _
  rw [h]
  rfl
theorem Tr.set_lfr {α : Type} (f : Nat) {j : Nat} (x : α) (h : j % 2 = 1) : Tr.set (f + 1) .lf (j + 1) x = .nd none .lf (Tr.set f .lf (j / 2) x) := by
  show Nat.rec (motive := fun _ => Tr α) _ (fun _ _ => _) (j % 2) = _
  rw [h]
  rfl
theorem Tr.set_ndl {α : Type} (f : Nat) (v : Option α) (l r : Tr α) {j : Nat} (x : α) (h : j % 2 = 0) : Tr.set (f + 1) (.nd v l r) (j + 1) x = .nd v (Tr.set f l (j / 2) x) r := by
  show Nat.rec (motive := fun _ => Tr α) _ (fun _ _ => _) (j % 2) = _
  rw [h]
  rfl
theorem Tr.set_ndr {α : Type} (f : Nat) (v : Option α) (l r : Tr α) {j : Nat} (x : α) (h : j % 2 = 1) : Tr.set (f + 1) (.nd v l r) (j + 1) x = .nd v l (Tr.set f r (j / 2) x) := by
  show Nat.rec (motive := fun _ => Tr α) _ (fun _ _ => _) (j % 2) = _
  rw [h]
  rfl
theorem Tr.get_set {α : Type} : ∀ (f : Nat) (t : Tr α) (k : Nat) (x : α) (i : Nat), k + 1 < 2 ^ f → (Tr.set f t k x).get i = if i = k then some x else t.get i
  | 0, t, k, x, i, h => by simp at h
  | f + 1, t, k, x, i, h => by
    cases k with
    | zero =>
      cases i with
      | zero => cases t <;> rfl
      | succ i =>
        rw [if_neg (by omega)]
        cases t with
        | lf =>
          rcases Nat.mod_two_eq_zero_or_one i with h1 | h1
          · exact (Tr.get_ndl (some x) .lf .lf h1).trans rfl
          · exact (Tr.get_ndr (some x) .lf .lf h1).trans rfl
        | nd v l r =>
          rcases Nat.mod_two_eq_zero_or_one i with h1 | h1
          · exact (Tr.get_ndl (some x) l r h1).trans (Tr.get_ndl v l r h1).symm
          · exact (Tr.get_ndr (some x) l r h1).trans (Tr.get_ndr v l r h1).symm
    | succ k =>
      have hk : k / 2 + 1 < 2 ^ f := by rw [Nat.pow_succ] at h; omega
      have ih := fun t i => Tr.get_set f t (k / 2) x i hk
      rcases Nat.mod_two_eq_zero_or_one k with h0 | h0
      · cases t with
        | lf =>
          rw [Tr.set_lfl f x h0]
          cases i with
          | zero => rw [if_neg (by omega)]; rfl
          | succ i =>
            rcases Nat.mod_two_eq_zero_or_one i with h1 | h1
            · rw [Tr.get_ndl _ _ _ h1, ih]
              by_cases e : i = k
              · subst e; simp
              · rw [if_neg (by omega), if_neg (by omega)]; rfl
            · rw [Tr.get_ndr _ _ _ h1, if_neg (by omega)]; rfl
        | nd v l r =>
          rw [Tr.set_ndl f v l r x h0]
          cases i with
          | zero => rw [if_neg (by omega)]; rfl
          | succ i =>
            rcases Nat.mod_two_eq_zero_or_one i with h1 | h1
            · rw [Tr.get_ndl _ _ _ h1, Tr.get_ndl _ _ _ h1, ih]
              by_cases e : i = k
              · subst e; simp
              · rw [if_neg (by omega), if_neg (by omega)]
            · rw [Tr.get_ndr _ _ _ h1, Tr.get_ndr _ _ _ h1, if_neg (by omega)]
      · cases t with
        | lf =>
          rw [Tr.set_lfr f x h0]
          cases i with
          | zero => rw [if_neg (by omega)]; rfl
          | succ i =>
            rcases Nat.mod_two_eq_zero_or_one i with h1 | h1
            · rw [Tr.get_ndl _ _ _ h1, if_neg (by omega)]; rfl
            · rw [Tr.get_ndr _ _ _ h1, ih]
              by_cases e : i = k
              · subst e; simp
              · rw [if_neg (by omega), if_neg (by omega)]; rfl
        | nd v l r =>
          rw [Tr.set_ndr f v l r x h0]
          cases i with
          | zero => rw [if_neg (by omega)]; rfl
          | succ i =>
            rcases Nat.mod_two_eq_zero_or_one i with h1 | h1
            · rw [Tr.get_ndl _ _ _ h1, Tr.get_ndl _ _ _ h1, if_neg (by omega)]
            · rw [Tr.get_ndr _ _ _ h1, Tr.get_ndr _ _ _ h1, ih]
              by_cases e : i = k
              · subst e; simp
              · rw [if_neg (by omega), if_neg (by omega)]
/-- A number is worked out ahead of what goes by it. -/
noncomputable def forceN {α : Type} (n : Nat) (f : Nat → α) : α := Nat.rec (motive := fun _ => α) (f 0) (fun k _ => f (Nat.succ k)) n
theorem forceN_eq {α : Type} (n : Nat) (f : Nat → α) : forceN n f = f n := by cases n <;> rfl

/-! ### Slots -/
/-- A call that is put off, abstractly; or the mark of a range over a function. -/
inductive Dfr where
  | call (f : FuncId) (args : List Value)
  | mark (i : Nat)
structure Tm where
  sz : Nat
  t : Tr Value
  ds : List Dfr
noncomputable def Tm.get (m : Tm) (t : Nat) : Value := match m.t.get t with
  | some v => v
  | none => undef
noncomputable def Tm.put (m : Tm) (dst : Option Tmp) (v : Value) : Tm := match dst with
  | none => m
  | some d => match m with
    | ⟨sz, t, ds⟩ => match Nat.blt d sz with
      | true => ⟨sz, Tr.set 20 t d v, ds⟩
      | false => ⟨sz, t, ds⟩
/-! ### Abstract blocks and states -/
inductive AB where
  | cells (c : List Value) (t : TypeId) (opn stale ro : Bool) (par : Option Nat)
  | map (es : List MapEntry) (clock : Nat)
  | iter (s : ByteArray) (pos : Nat)
  | loop (state : LoopState) (pend : Option Code) (tm : Tm) (ps : Array Tmp) (assign body : Code) (df : Nat)
  | defr (open_ : Bool)
  | bld (c : List Value) (t : TypeId) (k : Nat)
  | dead
def AB.live : AB → Bool
  | .dead => false
  | _ => true
def AB.par : AB → Option Nat
  | .cells _ _ _ _ _ p => p
  | _ => none
def AB.stale : AB → Bool
  | .cells _ _ _ s _ _ => s
  | _ => false
structure St where
  h : Tr (AB × Nat)
  n : Nat
  clk : Nat
noncomputable def St.ver (st : St) (i : Nat) : Nat := match st.h.get i with
  | some (_, v) => v
  | none => 0
/-- A block's turn. -/
noncomputable def St.put (st : St) (i : Nat) (ab : AB) : St := match st with
  | ⟨h, n, clk⟩ => forceN (clk + 1) fun c => ⟨Tr.set 20 h i (ab, c), n, c⟩
/-- A new block. -/
noncomputable def St.new (st : St) (ab : AB) : St := match st with
  | ⟨h, n, clk⟩ => forceN (clk + 1) fun c => forceN (n + 1) fun m => ⟨Tr.set 20 h n (ab, c), m, c⟩
/-- A block dies: its stamp stays. -/
noncomputable def St.drop (st : St) (i : Nat) (v : Nat) : St := match st with
  | ⟨h, n, clk⟩ => ⟨Tr.set 20 h i (.dead, v), n, clk⟩

structure Loc where
  b : Nat
  o : Nat
  n : Nat
  sz : Nat
  opn : Bool
abbrev Mp := Nat → Option Loc

def flatV : Value → Bool
  | .bool _ | .int _ _ | .float _ _ | .complex _ _ _ | .string _ | .pointer none | .slice none 0 0 | .map none | .chan none | .nilFunc | .nilIface => true
  | _ => false

def fnOk : Fn → Bool
  | .yield _ => false
  | _ => true
mutual
inductive VR (M : Mp) : Value → Value → Prop where
  | flat {v : Value} : flatV v = true → VR M v v
  | ptr {i off : Nat} {L : Loc} : M i = some L → VR M (.pointer (some ⟨i, off, none⟩)) (.pointer (some ⟨L.b, L.o + off, none⟩))
  | slice {i off len cap cap' : Nat} {L : Loc} : M i = some L → len ≤ cap → cap ≤ cap' → (L.opn = false → cap = cap') → (L.opn = true → off + cap' * L.sz ≤ L.n) →
      VR M (.slice (some ⟨i, off, none⟩) len cap) (.slice (some ⟨L.b, L.o + off, none⟩) len cap')
  | sliceZ {b o c' : Nat} : VR M (.slice (some ⟨0, 0, some 0⟩) 0 0) (.slice (some ⟨b, o, none⟩) 0 c')
  | map {i : Nat} {L : Loc} : M i = some L → VR M (.map (some i)) (.map (some L.b))
  | yld {i : Nat} {L : Loc} : M i = some L → VR M (.func (.yield i) #[] #[]) (.func (.yield L.b) #[] #[])
  | func {fn : Fn} {a a' c c' : Array Value} : fnOk fn = true → VRs M a.toList a'.toList → VRs M c.toList c'.toList → VR M (.func fn a c) (.func fn a' c')
  | iface {t : TypeId} {v v' : Value} : VR M v v' → VR M (.iface t v) (.iface t v')
  | agg {l l' : Array Value} : VRs M l.toList l'.toList → VR M (.agg l) (.agg l')
  | tup {l l' : Array Value} : VRs M l.toList l'.toList → VR M (.tuple l) (.tuple l')
inductive VRs (M : Mp) : List Value → List Value → Prop where
  | nil : VRs M [] []
  | cons {v v' : Value} {l l' : List Value} : VR M v v' → VRs M l l' → VRs M (v :: l) (v' :: l')
end
def Ext (M M' : Mp) : Prop := ∀ i L, M i = some L → M' i = some L
theorem Ext.refl (M : Mp) : Ext M M := fun _ _ h => h
theorem Ext.trans {A B C : Mp} (h : Ext A B) (k : Ext B C) : Ext A C := fun i L e => k i L (h i L e)
mutual
theorem VR.ext {M M' : Mp} (h : Ext M M') : ∀ {v v' : Value}, VR M v v' → VR M' v v'
  | _, _, .flat e => .flat e
  | _, _, .ptr e => .ptr (h _ _ e)
  | _, _, .slice e a b c d => .slice (h _ _ e) a b c d
  | _, _, .sliceZ => .sliceZ
  | _, _, .map e => .map (h _ _ e)
  | _, _, .yld e => .yld (h _ _ e)
  | _, _, .func o a b => .func o (VRs.ext h a) (VRs.ext h b)
  | _, _, .iface a => .iface (VR.ext h a)
  | _, _, .agg a => .agg (VRs.ext h a)
  | _, _, .tup a => .tup (VRs.ext h a)
theorem VRs.ext {M M' : Mp} (h : Ext M M') : ∀ {v v' : List Value}, VRs M v v' → VRs M' v v'
  | _, _, .nil => .nil
  | _, _, .cons a b => .cons (VR.ext h a) (VRs.ext h b)
end
theorem VR.undef (M : Mp) : VR M undef undef := .tup .nil
section
variable {M : Mp}
theorem VR.int {k : IntKind} {n : Int} {v : Value} (h : VR M (.int k n) v) : v = .int k n := by cases h; rfl
theorem VR.bool {b : Bool} {v : Value} (h : VR M (.bool b) v) : v = .bool b := by cases h; rfl
theorem VR.string {s : ByteArray} {v : Value} (h : VR M (.string s) v) : v = .string s := by cases h; rfl
theorem VR.flat_eq {u v : Value} (h : VR M u v) (hf : flatV u = true) : v = u := by cases h <;> first | rfl | (simp [flatV] at hf)
theorem VRs.len {l l' : List Value} (h : VRs M l l') : l'.length = l.length := by
  induction l generalizing l' with
  | nil => cases h; rfl
  | cons a l ih => cases h with | cons _ h => simp [ih h]
theorem VRs.get {l l' : List Value} (h : VRs M l l') : ∀ (k : Nat) (v : Value), l[k]? = some v → ∃ v', l'[k]? = some v' ∧ VR M v v' := by
  induction l generalizing l' with
  | nil => intro k v e; simp at e
  | cons a l ih =>
    cases h with
    | cons h1 h2 =>
      intro k v e
      cases k with
      | zero => simp at e; subst e; exact ⟨_, by simp, h1⟩
      | succ k => simp at e ⊢; exact ih h2 k v e
theorem VRs.append {a a' b b' : List Value} (h : VRs M a a') (k : VRs M b b') : VRs M (a ++ b) (a' ++ b') := by
  induction a generalizing a' with
  | nil => cases h; exact k
  | cons x a ih => cases h with | cons h1 h2 => exact .cons h1 (ih h2)
theorem VRs.take {a a' : List Value} (h : VRs M a a') (n : Nat) : VRs M (a.take n) (a'.take n) := by
  induction a generalizing a' n with
  | nil => cases h; simp; exact .nil
  | cons x a ih => cases h with | cons h1 h2 => cases n with
    | zero => simp; exact .nil
    | succ n => simp; exact .cons h1 (ih h2 n)
theorem VRs.drop {a a' : List Value} (h : VRs M a a') (n : Nat) : VRs M (a.drop n) (a'.drop n) := by
  induction a generalizing a' n with
  | nil => cases h; simp; exact .nil
  | cons x a ih => cases h with | cons h1 h2 => cases n with
    | zero => exact .cons h1 h2
    | succ n => simp; exact ih h2 n
/-- From cells one by one. -/
theorem VRs.of_get : ∀ {l l' : List Value}, l'.length = l.length → (∀ (k : Nat) (v : Value), l[k]? = some v → ∃ v', l'[k]? = some v' ∧ VR M v v') → VRs M l l'
  | [], [], _, _ => .nil
  | a :: l, b :: l', hl, h => by
    refine .cons ?_ (VRs.of_get (by simpa using hl) fun k v e => ?_)
    · obtain ⟨v', e, hv⟩ := h 0 a rfl
      simp at e; subst e; exact hv
    · have := h (k + 1) v (by simpa using e)
      simpa using this
  | [], _ :: _, hl, _ => by simp at hl
  | _ :: _, [], hl, _ => by simp at hl
end
/-! ### Slots, related -/
def bigN : Nat := 1000000
structure TR (M : Mp) (m : Tm) (A : Array Value) : Prop where
  sz : m.sz = A.size
  lim : m.sz ≤ bigN
  get : ∀ t, VR M (m.get t) (A.getD t undef)
theorem TR.ext {M M' : Mp} (h : Ext M M') {m : Tm} {A : Array Value} (k : TR M m A) : TR M' m A := ⟨k.sz, k.lim, fun t => (k.get t).ext h⟩
/-! ### Worlds -/
def CellsR (P : Program) (M : Mp) (w : World) (L : Loc) (c : List Value) (t : TypeId) (opn ro : Bool) : Prop :=
  L.opn = opn ∧ ∃ (C : Array Value) (fz : Nat × Nat), w.heap[L.b]? = some (.cells C t fz) ∧ C.size = L.o + L.n ∧ c.length ≤ L.n ∧ (L.opn = false → L.o = 0 ∧ c.length = L.n) ∧ (L.opn = true → L.sz = P.cellsOf t) ∧
    (ro = false → ∀ j, L.o ≤ j → j < L.o + L.n → ¬ (fz.1 ≤ j ∧ j < fz.2)) ∧ ∀ (j : Nat) (v : Value), c[j]? = some v → ∃ v', C[L.o + j]? = some v' ∧ VR M v v'
inductive EntR (M : Mp) : List MapEntry → List MapEntry → Prop where
  | nil : EntR M [] []
  | cons {k v v' : Value} {b : Nat} {l l' : List MapEntry} : flatV k = true → VR M v v' → EntR M l l' → EntR M (⟨k, v, b⟩ :: l) (⟨k, v', b⟩ :: l')
theorem EntR.ext {M M' : Mp} (h : Ext M M') {l l' : List MapEntry} (k : EntR M l l') : EntR M' l l' := by
  induction k with
  | nil => exact .nil
  | cons a b _ ih => exact .cons a (b.ext h) ih
def BR (P : Program) (M : Mp) (w : World) (L : Loc) : AB → Prop
  | .cells c t opn _ ro _ => CellsR P M w L c t opn ro
  | .map es clock => ∃ es', w.heap[L.b]? = some (.map es' clock) ∧ EntR M es es'.toList
  | .iter s pos => L.o = 0 ∧ w.heap[L.b]? = some (.stringIter s pos)
  | .loop state pend tm ps assign body df => ∃ tmps Ld, M df = some Ld ∧ TR M tm tmps ∧ ∃ fn, w.heap[L.b]? = some (.loop ⟨state, pend, fn, tmps, ps, assign, body, Ld.b⟩)
  | .defr o => w.heap[L.b]? = some (.deferred (if o then some [] else none))
  | .bld c t k => CellsR P M w L c t true true ∧ ∀ C t' fz, w.heap[L.b]? = some (.cells C t' fz) → fz.1 = fz.2 ∨ fz.2 ≤ L.o + k
  | .dead => True
theorem BR.ext {P : Program} {M M' : Mp} {w : World} {L : Loc} (h : Ext M M') : ∀ {ab : AB}, BR P M w L ab → BR P M' w L ab
  | .cells .., ⟨o, C, fz, a, b, c, d, e, f, g⟩ => ⟨o, C, fz, a, b, c, d, e, f, fun j v hv => let ⟨v', x, y⟩ := g j v hv; ⟨v', x, y.ext h⟩⟩
  | .map .., ⟨es', a, b⟩ => ⟨es', a, b.ext h⟩
  | .iter .., a => a
  | .loop .., ⟨tmps, Ld, a, b, fn, c⟩ => ⟨tmps, Ld, h _ _ a, b.ext h, fn, c⟩
  | .defr _, a => a
  | .bld .., ⟨⟨o, C, fz, a, b, c, d, e, f, g⟩, h2⟩ => ⟨⟨o, C, fz, a, b, c, d, e, f, fun j v hv => let ⟨v', x, y⟩ := g j v hv; ⟨v', x, y.ext h⟩⟩, h2⟩
  | .dead, _ => trivial
theorem BR.block {P : Program} {M : Mp} {w w' : World} {L : Loc} (h : w'.heap[L.b]? = w.heap[L.b]?) : ∀ {ab : AB}, BR P M w L ab → BR P M w' L ab
  | .cells .., ⟨o, C, fz, a, b⟩ => ⟨o, C, fz, h.trans a, b⟩
  | .map .., ⟨es', a, b⟩ => ⟨es', h.trans a, b⟩
  | .iter .., ⟨o, a⟩ => ⟨o, h.trans a⟩
  | .loop .., ⟨tmps, Ld, a, b, fn, c⟩ => ⟨tmps, Ld, a, b, fn, h.trans c⟩
  | .defr _, a => h.trans a
  | .bld .., ⟨⟨o, C, fz, a, b⟩, h2⟩ => ⟨⟨o, C, fz, h.trans a, b⟩, fun C t' fz hh => h2 C t' fz (h.symm.trans hh)⟩
  | .dead, _ => trivial
structure RR (P : Program) (G : Nat) (M : Mp) (st : St) (w : World) : Prop where
  dom : ∀ i L, M i = some L → i < st.n ∧ L.b < w.heap.size
  blk : ∀ i ab v, st.h.get i = some (ab, v) → ∃ L, M i = some L ∧ BR P M w L ab
  ver : ∀ i, st.ver i ≤ st.clk
  lim : st.n ≤ bigN
  sep : ∀ i j ab bb vi vj Li Lj, st.h.get i = some (ab, vi) → st.h.get j = some (bb, vj) → ab.live = true → bb.live = true → M i = some Li → M j = some Lj → Li.b = Lj.b → i ≠ j → ab.par = some j ∨ bb.par = some i
  par : ∀ i j ab bb vi vj, st.h.get i = some (ab, vi) → st.h.get j = some (bb, vj) → ab.live = true → bb.live = true → bb.par = some i → ab.stale = true
  glob : ∀ g L, g < G → M g = some L → L.b = g ∧ L.o = 0
  plt : ∀ j bb v p, st.h.get j = some (bb, v) → bb.par = some p → p < j
structure Stp (M : Mp) (st : St) (w : World) (M' : Mp) (st' : St) (w' : World) : Prop where
  ext : Ext M M'
  new : ∀ i L, M' i = some L → M i = none → w.heap.size ≤ L.b ∨ ∃ j Lj, M j = some Lj ∧ Lj.b = L.b ∧ st.clk < st'.ver j
  os : w'.os = w.os
  tape : w'.tape = w.tape
  output : w'.output = w.output
  size : w.heap.size ≤ w'.heap.size
  clk : st.clk ≤ st'.clk
  ver : ∀ i, st.ver i ≤ st'.ver i
  n : st.n ≤ st'.n
  frame : ∀ b, b < w.heap.size → w'.heap[b]? = w.heap[b]? ∨ ∃ i L, M i = some L ∧ L.b = b ∧ st.clk < st'.ver i
  same : ∀ j x, st'.h.get j = some x → x.1.live = true → x.2 ≤ st.clk → st.h.get j = some x
  keep : ∀ j x L, st'.h.get j = some x → x.1.live = true → x.2 ≤ st.clk → M j = some L → w'.heap[L.b]? = w.heap[L.b]?
theorem Stp.refl (M : Mp) (st : St) (w : World) : Stp M st w M st w :=
  ⟨.refl M, fun i L h h' => (by rw [h] at h'; cases h'), rfl, rfl, rfl, Nat.le_refl _, Nat.le_refl _, fun _ => Nat.le_refl _, Nat.le_refl _, fun _ _ => .inl rfl, fun _ _ h _ _ => h, fun _ _ _ _ _ _ _ => rfl⟩
theorem Stp.trans {M M1 M2 : Mp} {st st1 st2 : St} {w w1 w2 : World} (h : Stp M st w M1 st1 w1) (k : Stp M1 st1 w1 M2 st2 w2) : Stp M st w M2 st2 w2 := by
  refine ⟨h.ext.trans k.ext, fun i L hi hn => ?_, k.os.trans h.os, k.tape.trans h.tape, k.output.trans h.output, Nat.le_trans h.size k.size, Nat.le_trans h.clk k.clk, fun i => Nat.le_trans (h.ver i) (k.ver i), Nat.le_trans h.n k.n, fun b hb => ?_,
    fun j x h1 h2 h3 => h.same j x (k.same j x h1 h2 (Nat.le_trans h3 h.clk)) h2 h3,
    fun j x L h1 h2 h3 h4 => (k.keep j x L h1 h2 (Nat.le_trans h3 h.clk) (h.ext j L h4)).trans (h.keep j x L (k.same j x h1 h2 (Nat.le_trans h3 h.clk)) h2 h3 h4)⟩
  · have old : ∀ L', M1 i = some L' → w.heap.size ≤ L'.b ∨ ∃ j Lj, M j = some Lj ∧ Lj.b = L'.b ∧ st.clk < st2.ver j := fun L' h1 => by
      rcases h.new i L' h1 hn with h2 | ⟨j, Lj, a, b, c⟩
      · exact .inl h2
      · exact .inr ⟨j, Lj, a, b, Nat.lt_of_lt_of_le c (k.ver j)⟩
    cases h1 : M1 i with
    | some L' => have := k.ext i L' h1; rw [hi] at this; cases this; exact old L h1
    | none =>
      rcases k.new i L hi h1 with h2 | ⟨j, Lj, a, b, c⟩
      · exact .inl (Nat.le_trans h.size h2)
      · cases hj : M j with
        | some L'' => have := h.ext j L'' hj; rw [a] at this; cases this; exact .inr ⟨j, Lj, hj, b, Nat.lt_of_le_of_lt h.clk c⟩
        | none =>
          rcases h.new j Lj a hj with h2 | ⟨m, Lm, x, y, z⟩
          · exact .inl (b ▸ h2)
          · exact .inr ⟨m, Lm, x, y.trans b, Nat.lt_of_lt_of_le z (k.ver m)⟩
  · rcases k.frame b (Nat.lt_of_lt_of_le hb h.size) with h1 | ⟨i, L, a, e, c⟩
    · rcases h.frame b hb with h2 | ⟨i, L, a, e, c⟩
      · exact .inl (h1.trans h2)
      · exact .inr ⟨i, L, a, e, Nat.lt_of_lt_of_le c (k.ver i)⟩
    · cases hi : M i with
      | some L' => have := h.ext i L' hi; rw [a] at this; cases this; exact .inr ⟨i, L, hi, e, Nat.lt_of_le_of_lt h.clk c⟩
      | none =>
        rcases h.new i L a hi with h2 | ⟨m, Lm, x, y, z⟩
        · omega
        · exact .inr ⟨m, Lm, x, y.trans e, Nat.lt_of_lt_of_le z (k.ver m)⟩
end Go.Wx
end PEv1
/- The evaluator: operands, slots, operations that only read. -/
noncomputable section PEv2
set_option linter.unusedVariables false
set_option linter.unusedSimpArgs false
namespace Go.Wx
open Go.RowKit

/-! ### Slots -/
def Tm.yes (ops : Array Oper) (m : Tm) (j : Nat) : Option Bool :=
  match (ops[j]?).bind (·.dst) with
  | none => none
  | some d => match m.get d with
    | .bool b => some b
    | _ => none
theorem getD_set (A : Array Value) (d t : Nat) (v u : Value) (hd : d < A.size) : (A.setIfInBounds d v).getD t u = if t = d then v else A.getD t u := by
  rw [Array.getD_eq_getD_getElem?, Array.getD_eq_getD_getElem?, Array.getElem?_setIfInBounds]
  by_cases e : t = d
  · subst e; simp [hd]
  · rw [if_neg (Ne.symm e), if_neg e]
theorem Tm.get_put (m : Tm) (d t : Nat) (v : Value) (hd : d < m.sz) (hl : m.sz ≤ bigN) : (m.put (some d) v).get t = if t = d then v else m.get t := by
  have hb : Nat.blt d m.sz = true := by rw [Nat.blt_eq]; exact hd
  have hlim : d + 1 < 2 ^ 20 := by unfold bigN at hl; omega
  simp only [Tm.put, hb, if_true, Tm.get]
  rw [Tr.get_set 20 m.t d v t hlim]
  by_cases e : t = d
  · subst e; simp
  · simp only [e, if_false]
theorem TR.put {M : Mp} {m : Tm} {a : Act} (k : TR M m a.tmps) (dst : Option Nat) {v v' : Value} (hv : VR M v v') : TR M (m.put dst v) (a.put dst v').tmps := by
  cases dst with
  | none => exact k
  | some d =>
    by_cases hd : d < m.sz
    · have hb : Nat.blt d m.sz = true := by rw [Nat.blt_eq]; exact hd
      have hd' : d < a.tmps.size := by rw [← k.sz]; exact hd
      refine ⟨by simp only [Tm.put, hb, Act.put, Array.size_setIfInBounds]; exact k.sz, by simp only [Tm.put, hb]; exact k.lim, fun t => ?_⟩
      rw [Tm.get_put m d t v hd k.lim]
      show VR M _ ((a.tmps.setIfInBounds d v').getD t undef)
      rw [getD_set _ _ _ _ _ hd']
      by_cases e : t = d
      · rw [if_pos e, if_pos e]; exact hv
      · rw [if_neg e, if_neg e]; exact k.get t
    · have hb : Nat.blt d m.sz = false := by cases hh : Nat.blt d m.sz with
        | false => rfl
        | true => rw [Nat.blt_eq] at hh; exact absurd hh hd
      have hd' : a.tmps.size ≤ d := by rw [← k.sz]; omega
      simp only [Tm.put, hb, Bool.false_eq_true, if_false, Act.put]
      rw [Array.setIfInBounds_eq_of_size_le hd']
      exact k
theorem TR.yes {M : Mp} {m : Tm} {A : Array Value} (k : TR M m A) (ops : Array Oper) (j : Nat) : yielded ops A j = m.yes ops j := by
  unfold yielded Tm.yes
  cases h : (ops[j]?).bind (·.dst) with
  | none => rfl
  | some d =>
    have hg := k.get d
    simp only [Option.bind_some]
    by_cases hd : d < A.size
    · have e : A[d]? = some (A.getD d undef) := by simp [Array.getD, hd]
      rw [e]
      generalize A.getD d undef = x at hg
      generalize m.get d = y at hg
      cases hg <;> first | rfl | (cases x <;> first | rfl | (rename_i hf; simp [flatV] at hf))
    · have e : A[d]? = none := Array.getElem?_eq_none (Nat.le_of_not_lt hd)
      have e2 : A.getD d undef = undef := by simp [Array.getD, hd]
      rw [e]
      rw [e2] at hg
      generalize m.get d = y at hg
      unfold undef at hg
      cases hg with
      | flat hf => simp [flatV] at hf
      | tup _ => rfl

/-! ### Operands -/
def flatN : Nat → Value → Bool
  | 0, v => flatV v
  | n + 1, v => match v with
    | .agg l => l.toList.all (flatN n)
    | .tuple l => l.toList.all (flatN n)
    | .iface _ v => flatN n v
    | v => flatV v
theorem VRs.of_all {M : Mp} {p : Value → Bool} (h : ∀ v, p v = true → VR M v v) : ∀ (l : List Value), l.all p = true → VRs M l l
  | [], _ => .nil
  | a :: l, e => by simp at e; exact .cons (h a e.1) (VRs.of_all h l (by simpa using e.2))
theorem VR.of_flatN (M : Mp) : ∀ (n : Nat) (v : Value), flatN n v = true → VR M v v
  | 0, v, h => .flat h
  | n + 1, v, h => by
    unfold flatN at h
    split at h
    · exact .agg (VRs.of_all (VR.of_flatN M n) _ h)
    · exact .tup (VRs.of_all (VR.of_flatN M n) _ h)
    · exact .iface (VR.of_flatN M n _ h)
    · exact .flat h
def evO (G : Nat) (st : St) (m : Tm) : Operand → Option Value
  | .tmp t => some (m.get t)
  | .const v => match flatN 4 v with
    | true => some v
    | false => none
  | .global g => if Nat.blt g G && (st.h.get g).isSome then some (.pointer (some ⟨g, 0, none⟩)) else none
  | .func f => some (.func (.func f) #[] #[])
section
variable {P : Program} {G : Nat} {M : Mp} {st : St} {w : World}
theorem evO_sound (hR : RR P G M st w) {m : Tm} {a : Act} (hT : TR M m a.tmps) {x : Operand} {v : Value} (h : evO G st m x = some v) : VR M v (a.eval x) := by
  cases x with
  | tmp t => simp only [evO, Option.some.injEq] at h; subst h; exact hT.get t
  | const u =>
    simp only [evO] at h
    split at h
    · cases h; exact VR.of_flatN M 4 _ (by assumption)
    · cases h
  | global g =>
    simp only [evO] at h
    split at h
    · rename_i hg
      simp only [Bool.and_eq_true] at hg
      cases h
      obtain ⟨ab, hab⟩ := Option.isSome_iff_exists.1 hg.2
      obtain ⟨L, hL, _⟩ := hR.blk g ab.1 ab.2 hab
      have hlt : g < G := by have := hg.1; rw [Nat.blt_eq] at this; exact this
      obtain ⟨e1, e2⟩ := hR.glob g L hlt hL
      have := VR.ptr (off := 0) hL
      rw [e1, e2] at this
      exact this
    · cases h
  | func f => simp only [evO, Option.some.injEq] at h; subst h; exact .func rfl .nil .nil
end

/-! ### Cells -/
theorem Addr.add_spot (b o k : Nat) : Addr.add ⟨b, o, none⟩ k = ⟨b, o + k, none⟩ := by
  unfold Addr.add; split
  · subst_vars; rfl
  · rfl
section
variable {P : Program} {w : World}
theorem run_lcf {b o : Nat} : ∀ (l : List Value) (i : Nat) (acc : Array Value), (∀ (k : Nat) (v : Value), l[k]? = some v → w.cell? ⟨b, o + (i + k), none⟩ = some v) →
    (loadCellsFrom ⟨b, o, none⟩ i l.length acc).run P w = .ok (acc ++ l.toArray) w
  | [], i, acc, h => by simp [loadCellsFrom]
  | a :: l, i, acc, h => by
    have h0 := h 0 a rfl
    have ih := run_lcf l (i + 1) (acc.push a) fun k v e => by
      have := h (k + 1) v (by simpa using e)
      rw [← this]; rw [show o + (i + 1 + k) = o + (i + (k + 1)) from by omega]
    simp only [List.length_cons, loadCellsFrom, Addr.add_spot]
    show (Sem.bind (load _) _).run P w = _
    simp only [load, Sem.bind, Sem.run]
    simp only [Nat.add_zero] at h0
    rw [h0]
    simp only []
    rw [ih]
    simp
theorem run_loadCells {b o : Nat} (l : List Value) (h : ∀ (k : Nat) (v : Value), l[k]? = some v → w.cell? ⟨b, o + k, none⟩ = some v) :
    (loadCells ⟨b, o, none⟩ l.length).run P w = .ok l.toArray w := by
  unfold loadCells
  rw [run_lcf l 0 #[] (fun k v e => by rw [Nat.zero_add]; exact h k v e)]
  simp
end
end Go.Wx
end PEv2
/- The evaluator: operators. -/
noncomputable section PEv3
set_option linter.unusedVariables false
set_option linter.unusedSimpArgs false
namespace Go.Wx
open Go.RowKit

def binI (op : BinOp) (k : IntKind) (a b : Int) : Option Value :=
  match op with
  | .add => some (.int k (k.wrap (a + b)))
  | .sub => some (.int k (k.wrap (a - b)))
  | .mul => some (.int k (k.wrap (a * b)))
  | .quo => if b = 0 then none else some (.int k (k.wrap (a.tdiv b)))
  | .rem => if b = 0 then none else some (.int k (a.tmod b))
  | .and => some (.int k (k.wrap (BitVec.ofInt k.bits a &&& BitVec.ofInt k.bits b).toNat))
  | .or => some (.int k (k.wrap (BitVec.ofInt k.bits a ||| BitVec.ofInt k.bits b).toNat))
  | .xor => some (.int k (k.wrap (BitVec.ofInt k.bits a ^^^ BitVec.ofInt k.bits b).toNat))
  | .andNot => some (.int k (k.wrap (BitVec.ofInt k.bits a &&& ~~~BitVec.ofInt k.bits b).toNat))
  | .eql => some (.bool (a == b))
  | .neq => some (.bool (a != b))
  | .lss => some (.bool (decide (a < b)))
  | .leq => some (.bool (decide (a ≤ b)))
  | .gtr => some (.bool (decide (a > b)))
  | .geq => some (.bool (decide (a ≥ b)))
  | _ => none
def binShift (op : BinOp) (k : IntKind) (a b : Int) : Option Value :=
  match op with
  | .shl => if b < 0 then none else some (.int k (k.wrap (a * 2 ^ (min b.toNat k.bits))))
  | .shr => if b < 0 then none else some (.int k (a.fdiv (2 ^ (min b.toNat k.bits))))
  | _ => none
def strEq : List UInt8 → List UInt8 → Bool
  | [], [] => true
  | a :: x, b :: y => Nat.beq a.toNat b.toNat && strEq x y
  | _, _ => false
theorem strEq_iff : ∀ (x y : List UInt8), strEq x y = (x == y)
  | [], [] => rfl
  | [], _ :: _ => rfl
  | _ :: _, [] => rfl
  | a :: x, b :: y => by
    simp only [strEq, strEq_iff x y]
    rw [show (a :: x == b :: y) = (a == b && x == y) from rfl]
    congr 1
    rw [Bool.eq_iff_iff]
    simp [UInt8.toNat_inj]
def binS (op : BinOp) (x y : ByteArray) : Option Value :=
  match op with
  | .add => if Nat.ble (x.data.toList.length + y.data.toList.length) 1000000000 then some (.string ⟨⟨x.data.toList ++ y.data.toList⟩⟩) else none
  | .eql => some (.bool (strEq x.data.toList y.data.toList))
  | .neq => some (.bool (!strEq x.data.toList y.data.toList))
  | _ => none
def isC : Operand → Bool
  | .const _ => true
  | _ => false
def eqE (d : Option TypeDesc) (x y : Operand) (a b : Value) : Option Bool :=
  match d, a, b with
  | some .bool, .bool p, .bool q => some (p == q)
  | some (.pointer _), .pointer none, .pointer q => some q.isNone
  | some (.pointer _), .pointer (some _), .pointer none => some false
  | some (.interface _), .nilIface, .nilIface => if isC x || isC y then some true else none
  | some (.interface _), .nilIface, .iface _ _ => some false
  | some (.interface _), .iface _ _, .nilIface => some false
  | some (.slice _), .slice none _ _, .slice q _ _ => some q.isNone
  | some (.slice _), .slice (some _) _ _, .slice none _ _ => some false
  | some (.map _ _), .map none, .map q => some q.isNone
  | some (.map _ _), .map (some _), .map none => some false
  | some (.func _ _ _), .nilFunc, .nilFunc => some true
  | some (.func _ _ _), .nilFunc, .func _ _ _ => some false
  | some (.func _ _ _), .func _ _ _, .nilFunc => some false
  | _, _, _ => none
def eqO (P : Program) (op : BinOp) (t : TypeId) (x y : Operand) (a b : Value) : Option Value :=
  match op with
  | .eql => match eqE (P.underlying t) x y a b with
    | some p => some (.bool p)
    | none => none
  | .neq => match eqE (P.underlying t) x y a b with
    | some p => some (.bool (!p))
    | none => none
  | _ => none
def binE (P : Program) (op : BinOp) (t : TypeId) (x y : Operand) (a b : Value) : Option Value :=
  match a, b with
  | .int k i, .int k' j => match op with
    | .shl | .shr => binShift op k i j
    | _ => if k = k' then binI op k i j else none
  | .string s, .string s' => binS op s s'
  | a, b => eqO P op t x y a b

section
variable {P : Program} {M : Mp}
theorem bytes_list (s : ByteArray) : s.toList = s.data.toList := by
  exact ByteArray.toList_eq s
theorem run_eqGuard_int (op : BinOp) (t : TypeId) (x y : Operand) (k k' : IntKind) (i j : Int) (w : World) : (eqGuard op t x y (.int k i) (.int k' j)).run P w = .ok () w := by
  unfold eqGuard; split <;> rfl
theorem run_eqGuard_str (op : BinOp) (t : TypeId) (x y : Operand) (s s' : ByteArray) (w : World) : (eqGuard op t x y (.string s) (.string s')).run P w = .ok () w := by
  unfold eqGuard; split <;> rfl
theorem binI_sound {op : BinOp} {k : IntKind} {a b : Int} {v : Value} (h : binI op k a b = some v) (w : World) (t : TypeId) (hs : op ≠ .shl ∧ op ≠ .shr) :
    flatV v = true ∧ (binOp op t (.int k a) (.int k b)).run P w = .ok v w := by
  cases op <;> simp only [binI, Option.some.injEq] at h <;> first
    | (subst h; exact ⟨rfl, by simp [binOp, Op.intArith, Op.intBits, Op.intCmp]⟩)
    | (split at h
       · cases h
       · rename_i hb
         cases h
         exact ⟨rfl, by simp [binOp, Op.intDiv, hb]⟩)
    | (exact absurd rfl hs.1)
    | (exact absurd rfl hs.2)
    | (cases h)
theorem binShift_sound {op : BinOp} {k k' : IntKind} {a b : Int} {v : Value} (h : binShift op k a b = some v) (w : World) (t : TypeId) :
    flatV v = true ∧ (binOp op t (.int k a) (.int k' b)).run P w = .ok v w := by
  cases op <;> simp only [binShift] at h <;> first
    | (cases h; done)
    | (split at h
       · cases h
       · rename_i hb
         cases h
         exact ⟨rfl, by simp [binOp, Op.shift, hb]⟩)
theorem binS_sound {op : BinOp} {x y : ByteArray} {v : Value} (h : binS op x y = some v) (w : World) (t : TypeId) :
    flatV v = true ∧ (binOp op t (.string x) (.string y)).run P w = .ok v w := by
  cases op <;> simp only [binS, Option.some.injEq] at h <;> first
    | (cases h; done)
    | (subst h; refine ⟨rfl, ?_⟩; simp only [binOp, Op.stringOp, strEq_iff, bytes_list]; rfl)
    | (split at h
       · rename_i hb
         cases h
         refine ⟨rfl, ?_⟩
         rw [Nat.ble_eq] at hb
         simp only [Array.length_toList] at hb
         have : ¬ (((x.size + y.size : Nat) : Int) > IntKind.i64.max) := by
           have h1 : x.size = x.data.size := rfl
           have h2 : y.size = y.data.size := rfl
           have h3 : IntKind.i64.max = 9223372036854775807 := by decide
           rw [h3]; omega
         simp only [binOp, Op.stringOp, this, if_false]
         show Result.ok (Value.string (x ++ y)) w = _
         congr 2
       · cases h)
theorem underlying_some {t : TypeId} {d : TypeDesc} {w : World} (h : P.underlying t = some d) : (underlying t).run P w = .ok d w := run_underlying h w
theorem eqE_flat {d : TypeDesc} {t : TypeId} {x y : Operand} {a b a' b' : Value} {p : Bool} (hd : P.underlying t = some d) (h : eqE (some d) x y a b = some p) (ha : VR M a a') (hb : VR M b b') (op : BinOp) (w : World) :
    (eqGuard op t x y a' b').run P w = .ok () w ∧ (Op.equal t a' b').run P w = .ok p w ∧ binOp .eql t a' b' = (do pure (.bool (← Op.equal t a' b'))) ∧ binOp .neq t a' b' = (do pure (.bool (!(← Op.equal t a' b')))) := by
  have key : ∀ q : Bool, (∀ n, (Op.equalIn (n + 1) t a' b').run P w = .ok q w) → (Op.equal t a' b').run P w = .ok q w := fun q hq => hq 9999
  unfold eqE at h
  split at h <;> first
    | (cases h; done)
    | skip
  all_goals (rename_i hx; cases hx)
  all_goals (cases ha <;> cases hb)
  all_goals (first
    | (simp only [Option.some.injEq] at h; subst h; refine ⟨?_, key _ ?_, rfl, rfl⟩
       · unfold eqGuard; split <;> rfl
       · intro n; rw [Op.equalIn, Sem.run_bind, underlying_some hd, Result.andThen_ok]; rfl)
    | (split at h
       · rename_i hc
         simp only [Option.some.injEq] at h; subst h; refine ⟨?_, key _ ?_, rfl, rfl⟩
         · cases x <;> cases y <;> first | (simp [isC] at hc; done) | (unfold eqGuard; split <;> rfl)
         · intro n; rw [Op.equalIn, Sem.run_bind, underlying_some hd, Result.andThen_ok]; rfl
       · cases h))
theorem eqO_sound {op : BinOp} {t : TypeId} {x y : Operand} {a b a' b' v : Value} (h : eqO P op t x y a b = some v) (ha : VR M a a') (hb : VR M b b') (w : World) :
    flatV v = true ∧ (eqGuard op t x y a' b').run P w = .ok () w ∧ (binOp op t a' b').run P w = .ok v w := by
  unfold eqO at h
  cases hd : P.underlying t with
  | none => rw [hd] at h; cases op <;> simp [eqE] at h
  | some d =>
    rw [hd] at h
    cases op <;> simp only at h <;> first
      | (cases h; done)
      | (cases hq : eqE (some d) x y a b with
         | none => rw [hq] at h; cases h
         | some p =>
           rw [hq] at h; cases h
           obtain ⟨h1, h2, h3, h4⟩ := eqE_flat hd hq ha hb _ w
           refine ⟨rfl, h1, ?_⟩
           first | rw [h3] | rw [h4]
           rw [Sem.run_bind, h2, Result.andThen_ok]; rfl)
/-- An operator on two values, its test ahead included. -/
theorem binE_sound {op : BinOp} {t : TypeId} {x y : Operand} {a b a' b' v : Value} (h : binE P op t x y a b = some v) (ha : VR M a a') (hb : VR M b b') (w : World) :
    flatV v = true ∧ (do eqGuard op t x y a' b'; binOp op t a' b' : Sem Value).run P w = .ok v w := by
  have mk : ∀ u, (eqGuard op t x y a' b').run P w = .ok () w → (binOp op t a' b').run P w = .ok u w → (do eqGuard op t x y a' b'; binOp op t a' b' : Sem Value).run P w = .ok u w := fun u h1 h2 => by
    show (Sem.bind _ _).run P w = _
    rw [show (Sem.bind (eqGuard op t x y a' b') (fun _ => binOp op t a' b')) = (eqGuard op t x y a' b' >>= fun _ => binOp op t a' b') from rfl, Sem.run_bind, h1, Result.andThen_ok, h2]
  unfold binE at h
  split at h
  · have ea := ha.int; have eb := hb.int; subst ea; subst eb
    rename_i k i k' j
    split at h
    · obtain ⟨h1, h2⟩ := binShift_sound (k' := k') h w t
      exact ⟨h1, mk _ (run_eqGuard_int _ _ _ _ _ _ _ _ _) h2⟩
    · obtain ⟨h1, h2⟩ := binShift_sound (k' := k') h w t
      exact ⟨h1, mk _ (run_eqGuard_int _ _ _ _ _ _ _ _ _) h2⟩
    · rename_i n1 n2
      split at h
      · rename_i hk; subst hk
        obtain ⟨h1, h2⟩ := binI_sound h w t ⟨fun e => n1 e, fun e => n2 e⟩
        exact ⟨h1, mk _ (run_eqGuard_int _ _ _ _ _ _ _ _ _) h2⟩
      · cases h
  · have ea := ha.string; have eb := hb.string; subst ea; subst eb
    obtain ⟨h1, h2⟩ := binS_sound h w t
    exact ⟨h1, mk _ (run_eqGuard_str _ _ _ _ _ _ _) h2⟩
  · rename_i n1 n2
    obtain ⟨hf, hg, ho⟩ := eqO_sound h ha hb w
    exact ⟨hf, mk _ hg ho⟩
end
end Go.Wx
end PEv3
/- The evaluator: values without memory. -/
noncomputable section PEv4
set_option linter.unusedVariables false
set_option linter.unusedSimpArgs false
namespace Go.Wx
open Go.RowKit
section
variable {P : Program} {M : Mp}
theorem info_of_underlying {t : TypeId} {d : TypeDesc} (h : P.underlying t = some d) : ∃ i, P.info? t = some i := by
  unfold Program.underlying at h
  cases hi : P.info? t with
  | none => rw [hi] at h; cases h
  | some i => exact ⟨i, rfl⟩
theorem run_sizeOf_u {t : TypeId} {d : TypeDesc} (h : P.underlying t = some d) (w : World) : (sizeOf t).run P w = .ok (P.cellsOf t) w := by
  obtain ⟨i, hi⟩ := info_of_underlying h
  simp [sizeOf, typeInfo, hi, Program.cellsOf]
def aggD : TypeDesc → Bool
  | .struct _ | .array _ _ => true
  | _ => false
theorem run_isAgg {t : TypeId} {d : TypeDesc} (h : P.underlying t = some d) (w : World) : (isAgg t).run P w = .ok (aggD d) w := by
  unfold isAgg
  rw [Sem.run_bind, run_underlying h, Result.andThen_ok]
  cases d <;> rfl
/-- Unary operators. -/
def unE (op : UnOp) (a : Value) : Option Value :=
  match op, a with
  | .not, .bool b => some (.bool (!b))
  | .neg, .int k n => some (.int k (k.wrap (0 - n)))
  | .xor, .int k n => binI .xor k (if k.signed then -1 else k.max) n
  | _, _ => none
theorem unE_sound {op : UnOp} {a a' v : Value} (h : unE op a = some v) (ha : VR M a a') (w : World) : flatV v = true ∧ (Op.unary op a').run P w = .ok v w := by
  unfold unE at h
  split at h
  · cases h; have := ha.bool; subst this; exact ⟨rfl, rfl⟩
  · cases h; have := ha.int; subst this; exact ⟨rfl, rfl⟩
  · have := ha.int; subst this
    simp only [binI, Option.some.injEq] at h
    subst h; exact ⟨rfl, rfl⟩
  · cases h
/-- Conversions of numbers and strings. -/
def cvE (P : Program) (src dst : TypeId) (a : Value) : Option Value :=
  match P.underlying src, P.underlying dst, a with
  | some _, some (.int k), .int _ n => some (.int k (k.wrap n))
  | some _, some .string, .int _ n => some (.string (Utf8.encode n))
  | some _, some .string, .string s => some (.string s)
  | _, _, _ => none
theorem cvE_sound {src dst : TypeId} {a a' v : Value} (h : cvE P src dst a = some v) (ha : VR M a a') (w : World) : flatV v = true ∧ (convert src dst a').run P w = .ok v w := by
  unfold cvE at h
  split at h
  · rename_i h1 h2; cases h; have := ha.int; subst this
    refine ⟨rfl, ?_⟩
    unfold convert
    rw [Sem.run_bind, run_underlying h1, Result.andThen_ok, Sem.run_bind, run_underlying h2, Result.andThen_ok]
    rfl
  · rename_i h1 h2; cases h; have := ha.int; subst this
    refine ⟨rfl, ?_⟩
    unfold convert
    rw [Sem.run_bind, run_underlying h1, Result.andThen_ok, Sem.run_bind, run_underlying h2, Result.andThen_ok]
    rfl
  · rename_i h1 h2; cases h; have := ha.string; subst this
    refine ⟨rfl, ?_⟩
    unfold convert
    rw [Sem.run_bind, run_underlying h1, Result.andThen_ok, Sem.run_bind, run_underlying h2, Result.andThen_ok]
    rfl
  · cases h
/-- A part of a struct's or an array's cells. -/
def partE (P : Program) (t : TypeId) (cs : List Value) (off : Nat) : Option Value :=
  match P.underlying t with
  | none => none
  | some d => if aggD d then some (.agg ⟨(cs.drop off).take (P.cellsOf t)⟩) else cs[off]?
theorem partE_sound {t : TypeId} {cs : List Value} {off : Nat} {v : Value} (h : partE P t cs off = some v) {cs' : Array Value} (hc : VRs M cs cs'.toList) :
    ∃ v', VR M v v' ∧ ∀ w, (part t cs' off).run P w = .ok v' w := by
  unfold partE at h
  split at h
  · cases h
  · rename_i d hd
    split at h
    · rename_i hg
      cases h
      refine ⟨.agg (cs'.extract off (off + P.cellsOf t)), .agg ?_, fun w => ?_⟩
      · rw [Array.toList_extract, List.extract_eq_drop_take']
        have := (hc.drop off).take (P.cellsOf t)
        rw [List.drop_take, show (off + P.cellsOf t - off) = P.cellsOf t from by omega]
        exact this
      · unfold part
        rw [Sem.run_bind, run_isAgg hd, Result.andThen_ok, hg]
        simp only [if_true]
        rw [Sem.run_bind, run_sizeOf_u hd, Result.andThen_ok]
        rfl
    · rename_i hg
      obtain ⟨v', e, hv⟩ := hc.get off v h
      refine ⟨v', hv, fun w => ?_⟩
      unfold part
      rw [Sem.run_bind, run_isAgg hd, Result.andThen_ok]
      simp only [hg]
      rw [Array.getElem?_toList] at e
      simp only [e]
      rfl
def fieldE (P : Program) (t : TypeId) (a : Value) (f : Nat) : Option Value :=
  match P.underlying t, a with
  | some (.struct fields), .agg cs => match fields[f]? with
    | some fl => partE P fl.type cs.toList fl.offset
    | none => none
  | _, _ => none
theorem fieldE_sound {t : TypeId} {a a' v : Value} {f : Nat} (h : fieldE P t a f = some v) (ha : VR M a a') : ∃ v', VR M v v' ∧ ∀ w, (Instr.field t a' f).run P w = .ok v' w := by
  unfold fieldE at h
  split at h
  · rename_i fields cs hd
    split at h
    · rename_i fl hf
      cases ha with
      | flat hh => simp [flatV] at hh
      | agg hc =>
        rename_i cs'
        obtain ⟨v', hv, hr⟩ := partE_sound h hc
        refine ⟨v', hv, fun w => ?_⟩
        unfold Instr.field
        rw [Sem.run_bind, run_underlying hd, Result.andThen_ok]
        simp only [hf]
        rw [Sem.run_bind]
        show Result.andThen (Result.ok cs' w) _ = _
        rw [Result.andThen_ok]
        exact hr w
    · cases h
  · cases h
def inB : Int → Nat → Bool
  | .ofNat m, n => Nat.blt m n
  | .negSucc _, _ => false
theorem inB_iff {i : Int} {n : Nat} (h : inB i n = true) : 0 ≤ i ∧ i < (n : Int) := by
  cases i with
  | ofNat m =>
    have h : Nat.blt m n = true := h
    rw [Nat.blt_eq] at h
    exact ⟨by simp, by simp; omega⟩
  | negSucc m => cases h
def nnB : Int → Bool
  | .ofNat _ => true
  | .negSucc _ => false
theorem nnB_iff {i : Int} (h : nnB i = true) : 0 ≤ i := by
  cases i with
  | ofNat m => simp
  | negSucc m => cases h
def indexE (P : Program) (t : TypeId) (a i : Value) : Option Value :=
  match P.underlying t, a, i with
  | some (.array len elem), .agg cs, .int _ i => (match inB i len with
    | true => (match P.underlying elem with
      | some _ => partE P elem cs.toList (i.toNat * P.cellsOf elem)
      | none => none)
    | false => none)
  | some .string, .string s, .int _ i => (match nnB i with
    | true => (match s.data.toList[i.toNat]? with
      | some b => some (.int .u8 b.toNat)
      | none => none)
    | false => none)
  | _, _, _ => none
theorem indexE_sound {t : TypeId} {a a' i i' v : Value} (h : indexE P t a i = some v) (ha : VR M a a') (hi : VR M i i') : ∃ v', VR M v v' ∧ ∀ w, (Instr.index t a' i').run P w = .ok v' w := by
  unfold indexE at h
  split at h
  · rename_i len elem cs k i hd
    have := hi.int; subst this
    split at h
    · rename_i hb
      have hb := inB_iff hb
      split at h
      · rename_i d' he
        cases ha with
        | flat hh => simp [flatV] at hh
        | agg hc =>
          rename_i cs'
          obtain ⟨v', hv, hr⟩ := partE_sound h hc
          refine ⟨v', hv, fun w => ?_⟩
          unfold Instr.index
          rw [Sem.run_bind]
          show Result.andThen (Result.ok (k, i) w) _ = _
          rw [Result.andThen_ok]
          dsimp only
          rw [Sem.run_bind, run_underlying hd, Result.andThen_ok]
          dsimp only
          rw [if_pos hb, Sem.run_bind, run_sizeOf_u he, Result.andThen_ok]
          exact hr w
      · cases h
    · cases h
  · rename_i s k i hd
    have := hi.int; subst this
    have := ha.string; subst this
    split at h
    · rename_i hb
      have hb := nnB_iff hb
      split at h
      · rename_i b he
        cases h
        refine ⟨_, .flat rfl, fun w => ?_⟩
        unfold Instr.index
        rw [Sem.run_bind]
        show Result.andThen (Result.ok (k, i) w) _ = _
        rw [Result.andThen_ok]
        dsimp only
        rw [Sem.run_bind, run_underlying hd, Result.andThen_ok]
        dsimp only
        have e : s[i.toNat]? = some b := by
          rw [Array.getElem?_toList] at he
          have hlt : i.toNat < s.data.size := (Array.getElem?_eq_some_iff.1 he).1
          have hlt' : i.toNat < s.size := hlt
          rw [getElem?_pos s i.toNat hlt']
          rw [getElem?_pos s.data i.toNat hlt] at he
          exact he
        rw [if_pos hb, e]
        rfl
      · cases h
    · cases h
  · cases h
def extractE (a : Value) (i : Nat) : Option Value :=
  match a with
  | .tuple vs => vs.toList[i]?
  | _ => none
theorem extractE_sound {a a' v : Value} {i : Nat} (h : extractE a i = some v) (ha : VR M a a') : ∃ v', VR M v v' ∧ ∀ w, (Instr.extract a' i).run P w = .ok v' w := by
  unfold extractE at h
  split at h
  · cases ha with
    | flat hh => simp [flatV] at hh
    | tup hc =>
      rename_i vs'
      obtain ⟨v', e, hv⟩ := hc.get i v h
      refine ⟨v', hv, fun w => ?_⟩
      rw [Array.getElem?_toList] at e
      simp only [Instr.extract, e]
      rfl
  · cases h
def ifaceE (P : Program) (t : TypeId) (a : Value) : Option Value :=
  match P.underlying t with
  | some (.interface _) => none
  | some _ => some (.iface t a)
  | none => none
theorem ifaceE_sound {t : TypeId} {a a' v : Value} (h : ifaceE P t a = some v) (ha : VR M a a') : ∃ v', VR M v v' ∧ ∀ w, (Instr.makeInterface t a').run P w = .ok v' w := by
  unfold ifaceE at h
  split at h
  · cases h
  · rename_i d hn hd
    cases h
    refine ⟨_, .iface ha, fun w => ?_⟩
    unfold Instr.makeInterface
    rw [Sem.run_bind, run_underlying hd, Result.andThen_ok]
    cases d <;> first | rfl | exact (hn _ rfl).elim
  · cases h
def nilcE (a : Value) : Option Value :=
  match a with
  | .pointer (some _) => some a
  | .iface _ _ => some a
  | .func (.func _) _ _ => some a
  | .func (.via _ _ _ _) _ _ => some a
  | .func (.yield _) _ _ => some a
  | _ => none
theorem nilcE_sound {x : Operand} {a v : Value} {act : Act} (h : nilcE a = some v) (ha : VR M a (act.eval x)) {o : Oper} (ho : o.op = .nilCheck x) : ∃ v', VR M v v' ∧ ∀ w, (execOp act.eval o).run P w = .ok (.value v') w := by
  have key : ∀ w, (execOp act.eval o).run P w = .ok (.value (act.eval x)) w → (execOp act.eval o).run P w = .ok (.value (act.eval x)) w := fun _ h => h
  unfold nilcE at h
  refine ⟨act.eval x, ?_, fun w => ?_⟩
  · split at h <;> first | (cases h; exact ha) | cases h
  · unfold execOp
    rw [ho]
    dsimp only
    split at h <;> first | (cases h; done) | skip
    all_goals (generalize act.eval x = b at ha)
    all_goals (cases ha)
    all_goals first | rfl | (rename_i hf; simp [flatV] at hf)
def sbE (x : Value) (y : Nat) : Option Nat :=
  match x with
  | .int _ (.ofNat m) => (match Nat.ble m y with
    | true => some m
    | false => none)
  | _ => none
theorem sbE_sound {x x' : Value} {y y' n : Nat} (h : sbE x y = some n) (hx : VR M x x') (hy : y ≤ y') (code : BoundsCode) (w : World) : (Instr.sliceBound x' y' code).run P w = .ok n w ∧ n ≤ y := by
  unfold sbE at h
  split at h
  · rename_i k m
    have := hx.int; subst this
    split at h
    · rename_i hb
      rw [Nat.ble_eq] at hb
      cases h
      refine ⟨?_, hb⟩
      unfold Instr.sliceBound
      rw [Sem.run_bind]
      show Result.andThen (Result.ok (k, Int.ofNat n) w) _ = _
      rw [Result.andThen_ok]
      dsimp only
      rw [if_pos ⟨by simp, by simp; omega⟩]
      rfl
    · cases h
  · cases h
/-- The bounds of a slice expression without a third one: low and high. -/
def loHi (len cap : Nat) (lo hi : Option Value) : Option (Nat × Nat) :=
  match (match hi with | some v => sbE v cap | none => some len) with
  | none => none
  | some h => match (match lo with | some v => sbE v h | none => some 0) with
    | none => none
    | some l => some (l, h)
def VRo (M : Mp) : Option Value → Option Value → Prop
  | none, none => True
  | some a, some b => VR M a b
  | _, _ => False
theorem loHi_sound {len cap cap' l h : Nat} {lo hi lo' hi' : Option Value} (hx : loHi len cap lo hi = some (l, h)) (hl : VRo M lo lo') (hh : VRo M hi hi') (hc : cap ≤ cap') (hlen : len ≤ cap) (isS : Bool) (w : World) :
    (Instr.sliceBounds isS len cap' lo' hi' none).run P w = .ok (l, h, cap') w ∧ h ≤ cap ∧ l ≤ h := by
  unfold loHi at hx
  rcases hi with _ | hv <;> rcases hi' with _ | hv' <;> simp only [VRo] at hh <;> rcases lo with _ | lv <;> rcases lo' with _ | lv' <;> simp only [VRo] at hl <;> dsimp only at hx
  · simp only [Option.some.injEq, Prod.mk.injEq] at hx
    obtain ⟨rfl, rfl⟩ := hx
    exact ⟨by simp only [Instr.sliceBounds, Sem.run_bind, Sem.run_pure, Result.andThen_ok], hlen, Nat.zero_le _⟩
  · cases e : sbE lv len with
    | none => rw [e] at hx; cases hx
    | some l0 =>
      rw [e] at hx
      simp only [Option.some.injEq, Prod.mk.injEq] at hx
      obtain ⟨rfl, rfl⟩ := hx
      have s1 := fun code => sbE_sound (P := P) e hl (Nat.le_refl _) code w
      refine ⟨?_, hlen, (s1 .index).2⟩
      simp only [Instr.sliceBounds, Sem.run_bind, Sem.run_pure, Result.andThen_ok, (s1 _).1]
  · cases e : sbE hv cap with
    | none => rw [e] at hx; cases hx
    | some h0 =>
      rw [e] at hx
      simp only [Option.some.injEq, Prod.mk.injEq] at hx
      obtain ⟨rfl, rfl⟩ := hx
      have s1 := fun code => sbE_sound (P := P) e hh hc code w
      refine ⟨?_, (s1 .index).2, Nat.zero_le _⟩
      simp only [Instr.sliceBounds, Sem.run_bind, Sem.run_pure, Result.andThen_ok, (s1 _).1]
  · cases e : sbE hv cap with
    | none => rw [e] at hx; cases hx
    | some h0 =>
      rw [e] at hx
      simp only at hx
      cases e2 : sbE lv h0 with
      | none => rw [e2] at hx; cases hx
      | some l0 =>
        rw [e2] at hx
        simp only [Option.some.injEq, Prod.mk.injEq] at hx
        obtain ⟨rfl, rfl⟩ := hx
        have s1 := fun code => sbE_sound (P := P) e hh hc code w
        have s2 := fun code => sbE_sound (P := P) e2 hl (Nat.le_refl _) code w
        refine ⟨?_, (s1 .index).2, (s2 .index).2⟩
        simp only [Instr.sliceBounds, Sem.run_bind, Sem.run_pure, Result.andThen_ok, (s1 _).1, (s2 _).1]
/-- A slice expression of a string. -/
def sliceS (s : ByteArray) (lo hi : Option Value) : Option Value :=
  match loHi s.data.toList.length s.data.toList.length lo hi with
  | some (l, h) => some (.string ⟨⟨(s.data.toList.drop l).take (h - l)⟩⟩)
  | none => none
theorem sliceS_sound {t : TypeId} {s : ByteArray} {lo hi lo' hi' : Option Value} {v : Value} (hd : P.underlying t = some .string) (h : sliceS s lo hi = some v) (hl : VRo M lo lo') (hh : VRo M hi hi') (w : World) :
    flatV v = true ∧ (Instr.sliceAt t (.string s) lo' hi' none).run P w = .ok v w := by
  unfold sliceS at h
  split at h
  · rename_i l h0 e
    cases h
    refine ⟨rfl, ?_⟩
    have hs : s.data.toList.length = s.size := by simp
    rw [hs] at e
    obtain ⟨r1, r2, r3⟩ := loHi_sound (P := P) e hl hh (Nat.le_refl _) (Nat.le_refl _) false w
    unfold Instr.sliceAt
    rw [Sem.run_bind, run_underlying hd, Result.andThen_ok]
    dsimp only
    unfold Instr.slice
    rw [Sem.run_bind, run_underlying hd, Result.andThen_ok]
    dsimp only [Option.isSome_none]
    simp only [Bool.false_eq_true, if_false]
    rw [show ((do let __discr ← Instr.sliceBounds false s.size s.size lo' hi' none; (match __discr with | (l, h, _) => pure (Value.string (s.extract l h))) : Sem Value)) = (Instr.sliceBounds false s.size s.size lo' hi' none >>= fun d => match d with | (l, h, _) => pure (Value.string (s.extract l h))) from rfl]
    rw [Sem.run_bind, r1, Result.andThen_ok]
    show Result.ok (Value.string (s.extract l h0)) w = _
    congr 2
    apply bs_ext
    rw [ByteArray.data_extract, Array.toList_extract, List.extract_eq_drop_take', List.drop_take]
  · cases h
end
end Go.Wx
end PEv4
