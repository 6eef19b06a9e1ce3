/- ScriptHex: Builder.WriteByte beside a row, script.Hex, script.Unhex; the walk, for every text of at most 1048576 bytes, place and byte. -/
import Derived.Shelf.Strings.Builder1
import Derived.Shelf.Strings.Builder2
import Derived.Shelf.Small.Strs
import Derived.Shelf.Strings.BuilderX
import Derived.Test.YtadmacldbhgijaaGreatDoorPhA
import Derived.Test.YtadmacldbhgijaaGreatDoorProg
import Derived.KernelRfl
import Derived.WalkKit
import Derived.Lib.Walk
import Derived.Lib.Builder
import Derived.Laws.AppendOwn
import Derived.Laws.IdiomStrings
import Derived.Deep.Draws
import Derived.WalkSpells
import Derived.WalkLawsBesides
import Derived.Laws.BitsAllLaws
import Derived.Test.YtadmacldbhgijaaGreatDoorPhF
/- Contracts of Go's library at this program: strings.Builder, strings.IndexByte. -/
section PHexS
namespace Go.Proofs
open Go.Shelf
def Tryz.lays167_ren : Go.Shelf.Ren := ⟨fun | 167 => 21 | 240 => 42 | 276 => 83 | n => n, fun | 0 => 0 | 4 => 4 | 5 => 5 | 9 => 9 | 20 => 20 | 37 => 27 | 70 => 53 | 72 => 55 | 75 => 57 | 80 => 50 | 164 => 164 | n => n, fun | n => n⟩
theorem Tryz.lays167 : Go.Proofs.Lays.n167 Tryz.prog Tryz.lays167_ren := {
  mixed := by kernel_rfl
  f167 := Tryz.func21.trans (congrArg some (by kernel_rfl))
  f240 := Tryz.func42.trans (congrArg some (by kernel_rfl))
  f276 := Tryz.func83.trans (congrArg some (by kernel_rfl))
  t0 := Tryz.underlying0
  a0 := Tryz.isAgg0
  z0 := Tryz.sizeOf0
  v0 := Tryz.zeroValue0
  t4 := Tryz.underlying4
  a4 := Tryz.isAgg4
  z4 := Tryz.sizeOf4
  v4 := Tryz.zeroValue4
  t5 := Tryz.underlying5
  a5 := Tryz.isAgg5
  z5 := Tryz.sizeOf5
  v5 := Tryz.zeroValue5
  t9 := Tryz.underlying9
  a9 := Tryz.isAgg9
  z9 := Tryz.sizeOf9
  v9 := Tryz.zeroValue9
  t20 := Tryz.underlying20
  a20 := Tryz.isAgg20
  z20 := Tryz.sizeOf20
  v20 := Tryz.zeroValue20
  t37 := Tryz.underlying27
  a37 := Tryz.isAgg27
  z37 := Tryz.sizeOf27
  v37 := Tryz.zeroValue27
  t70 := Tryz.underlying53
  a70 := Tryz.isAgg53
  z70 := Tryz.sizeOf53
  v70 := Tryz.zeroValue53
  t72 := Tryz.underlying55
  a72 := Tryz.isAgg55
  z72 := Tryz.sizeOf55
  v72 := Tryz.zeroValue55
  t75 := Tryz.underlying57
  a75 := Tryz.isAgg57
  z75 := Tryz.sizeOf57
  v75 := Tryz.zeroValue57
  t164 := Tryz.underlying164
  a164 := Tryz.isAgg164
  z164 := Tryz.sizeOf164
  v164 := Tryz.zeroValue164 }
theorem Tryz.Builder_Extra_167 : Builder.Extra Tryz.prog Tryz.lays167_ren := {
  sizeBuilder := by kernel_rfl
  liesBuilder := by kernel_rfl
  t5 := Tryz.underlying5
  a5 := Tryz.isAgg5
  z5 := Tryz.sizeOf5
  v5 := Tryz.zeroValue5
  infoByte := by kernel_rfl
  cellsByte := by kernel_rfl
  sizeByte := by kernel_rfl
  neB5 := by decide }
def Tryz.lays169_ren : Go.Shelf.Ren := ⟨fun | 169 => 22 | n => n, fun | 70 => 53 | 9 => 9 | 0 => 0 | 72 => 55 | 37 => 27 | 127 => 126 | 3 => 3 | 5 => 5 | n => n, fun | n => n⟩
theorem Tryz.lays169 : Go.Proofs.Lays.n169 Tryz.prog Tryz.lays169_ren := {
  mixed := by kernel_rfl
  f169 := Tryz.func22.trans (congrArg some (by kernel_rfl))
  t0 := Tryz.underlying0
  a0 := Tryz.isAgg0
  z0 := Tryz.sizeOf0
  v0 := Tryz.zeroValue0
  t3 := Tryz.underlying3
  a3 := Tryz.isAgg3
  z3 := Tryz.sizeOf3
  v3 := Tryz.zeroValue3
  t9 := Tryz.underlying9
  a9 := Tryz.isAgg9
  z9 := Tryz.sizeOf9
  v9 := Tryz.zeroValue9
  t37 := Tryz.underlying27
  a37 := Tryz.isAgg27
  z37 := Tryz.sizeOf27
  v37 := Tryz.zeroValue27
  t70 := Tryz.underlying53
  a70 := Tryz.isAgg53
  z70 := Tryz.sizeOf53
  v70 := Tryz.zeroValue53
  t72 := Tryz.underlying55
  a72 := Tryz.isAgg55
  z72 := Tryz.sizeOf55
  v72 := Tryz.zeroValue55
  t127 := Tryz.underlying126
  a127 := Tryz.isAgg126
  z127 := Tryz.sizeOf126
  v127 := Tryz.zeroValue126 }
theorem Tryz.Builder_Extra_169 : Builder.Extra Tryz.prog Tryz.lays169_ren := {
  sizeBuilder := by kernel_rfl
  liesBuilder := by kernel_rfl
  t5 := Tryz.underlying5
  a5 := Tryz.isAgg5
  z5 := Tryz.sizeOf5
  v5 := Tryz.zeroValue5
  infoByte := by kernel_rfl
  cellsByte := by kernel_rfl
  sizeByte := by kernel_rfl
  neB5 := by decide }
open Go.RowKit in
theorem Tryz.Builder_String_any (B b : Nat) (l : List UInt8) (w : World) (h : Lib.IsBuilder 55 5 B b (Lib.byteCells l) w) (hBw : B ≤ w.heap.size) :
    Calls Tryz.prog 22 #[.pointer (some ⟨b, 0, none⟩)] w fun e w' => e = .returned (.string ⟨l.toArray⟩) ∧ Below B w w' := Any.Builder_String_any Tryz.lays169 Tryz.Builder_Extra_169 B b l w h hBw
def Tryz.lays137_ren : Go.Shelf.Ren := ⟨fun | 137 => 23 | 217 => 43 | 266 => 84 | n => n, fun | 9 => 9 | 5 => 5 | 3 => 3 | n => n, fun | n => n⟩
theorem Tryz.lays137 : Go.Proofs.Lays.n137 Tryz.prog Tryz.lays137_ren := {
  mixed := by kernel_rfl
  f137 := Tryz.func23.trans (congrArg some (by kernel_rfl))
  f217 := Tryz.func43.trans (congrArg some (by kernel_rfl))
  f266 := Tryz.func84.trans (congrArg some (by kernel_rfl))
  t3 := Tryz.underlying3
  a3 := Tryz.isAgg3
  z3 := Tryz.sizeOf3
  v3 := Tryz.zeroValue3
  t5 := Tryz.underlying5
  a5 := Tryz.isAgg5
  z5 := Tryz.sizeOf5
  v5 := Tryz.zeroValue5
  t9 := Tryz.underlying9
  a9 := Tryz.isAgg9
  z9 := Tryz.sizeOf9
  v9 := Tryz.zeroValue9 }
open Go.RowKit in
theorem Tryz.strings_IndexByte (s : ByteArray) (c : Int) (w : World) :
    Calls Tryz.prog 23 #[.string s, .int .u8 c] w fun e w' => e = .returned (.int .i64 (Lib.indexByte s.data.toList c.toNat.toUInt8)) ∧ w' = w := Any.strings_IndexByte Tryz.lays137 s c w
end Go.Proofs
end PHexS
/- strings.Builder.WriteByte beside a row of bytes that stays. -/
section PHexA
set_option maxRecDepth 100000
set_option linter.unusedVariables false
set_option linter.unusedSimpArgs false
namespace Go.Proofs.YtadmacldbhgijaaGreatDoor
open Go.RowKit Go.Wx Go.Proofs
/-- What stands behind a call that writes to block b and to blocks behind k alone. -/
structure Fr (b k : Nat) (w w' : World) : Prop where
  os : w'.os = w.os
  tape : w'.tape = w.tape
  output : w'.output = w.output
  size : w.heap.size ≤ w'.heap.size
  block : ∀ i, i ≤ k → i ≠ b → w'.heap[i]? = w.heap[i]?
theorem Fr.refl (b k : Nat) (w : World) : Fr b k w w := ⟨rfl, rfl, rfl, Nat.le_refl _, fun _ _ _ => rfl⟩
theorem Fr.trans {b k : Nat} {w w1 w2 : World} (h : Fr b k w w1) (g : Fr b k w1 w2) : Fr b k w w2 :=
  ⟨g.os.trans h.os, g.tape.trans h.tape, g.output.trans h.output, Nat.le_trans h.size g.size, fun i hi hb => (g.block i hi hb).trans (h.block i hi hb)⟩
theorem Fr.set {b k : Nat} {w w1 : World} (h : Fr b k w w1) {p : Addr} (hp : p.block = b) (v : Value) : Fr b k w (w1.setCell p v) :=
  ⟨h.os, h.tape, h.output, by simpa [World.setCell] using h.size, fun i hi hb => (Below.heap_setCell w1 p v i (by rw [hp]; exact hb)).trans (h.block i hi hb)⟩
theorem Fr.alloc {b k : Nat} {w w1 : World} (h : Fr b k w w1) (hk : k < w1.heap.size) (o : Obj) : Fr b k w (w1.alloc o) :=
  ⟨h.os, h.tape, h.output, Nat.le_trans h.size (by simp), fun i hi hb => (Below.heap_alloc w1 o i (by omega)).trans (h.block i hi hb)⟩
theorem Fr.grown {b k : Nat} {w w1 w2 : World} {row : Option Nat} (h : Fr b k w w1) (hk : k < w1.heap.size) (g : w1.grownBy w2 row) (hr : ∀ j, row = some j → k < j) : Fr b k w w2 :=
  ⟨g.os.trans h.os, g.tape.trans h.tape, g.output.trans h.output, Nat.le_trans h.size g.size, fun i hi hb => (g.block i (by omega) (fun e => by have := hr i e.symm; omega)).trans (h.block i hi hb)⟩
theorem own_lt {w : World} {base e size n : Nat} {v : Value} {xs : List Value} (h : w.ownsRow base e size v n xs) : ∀ j, v.ownBlock = some j → base ≤ j := by
  intro j hj
  rcases h.2 with ⟨rfl, _⟩ | ⟨g, cap, cur, rfl, hb, _⟩
  · cases hj
  · cases hj; exact hb
theorem cc_any (b k : Nat) (p v : Value) (n : Nat) (xs : List Value) (w : World) (hbk : b ≤ k) (hp : p = .pointer none ∨ p = .pointer (some ⟨b, 0, none⟩)) (h : w.heap[b]? = some (.cells #[p, v] 55 (0, 0))) (hown : w.ownsRow (k + 1) 5 1 v n xs) :
    Calls Tryz.prog 42 #[.pointer (some ⟨b, 0, none⟩)] w fun e w' => e = .returned (.tuple #[]) ∧ w'.heap[b]? = some (.cells #[.pointer (some ⟨b, 0, none⟩), v] 55 (0, 0)) ∧ w'.ownsRow (k + 1) 5 1 v n xs ∧ Fr b k w w' := by
  rcases hp with rfl | rfl
  · refine (Any.Builder_copyCheck_fresh (P := Tryz.prog) (ρ := Tryz.lays167_ren) { Tryz.lays167 with } Tryz.Builder_Extra_167.toX72 b w (by rw [Lib.cell_of_heap h]; rfl) (by simp [World.shape?, h]; rfl) (Lib.frozen_of_heap h 0)).mono ?_
    rintro e w' ⟨rfl, rfl⟩
    refine ⟨rfl, by simp [World.setCell, Array.getElem?_modify, h], ?_, (Fr.refl b k w).set rfl _⟩
    refine hown.kept (row := some b) ⟨rfl, rfl, rfl, by simp [World.setCell], fun i _ hi => Below.heap_setCell _ _ _ _ (fun e => hi (by simp [e]))⟩ (Or.inr fun e => ?_)
    have := own_lt hown b e
    omega
  · refine (Any.Builder_copyCheck_used (P := Tryz.prog) (ρ := Tryz.lays167_ren) { Tryz.lays167 with } Tryz.Builder_Extra_167.toX72 b w (by rw [Lib.cell_of_heap h]; rfl)).mono ?_
    rintro e w' ⟨rfl, rfl⟩
    exact ⟨rfl, h, hown, Fr.refl b k _⟩
set_option maxHeartbeats 2000000 in
theorem wb_any (b k : Nat) (p v : Value) (xs : List Value) (c : Int) (w : World) (hbk : b ≤ k) (hk : k < w.heap.size) (hp : p = .pointer none ∨ p = .pointer (some ⟨b, 0, none⟩)) (h : w.heap[b]? = some (.cells #[p, v] 55 (0, 0))) (hown : w.ownsRow (k + 1) 5 1 v xs.length xs)
    (hlen : xs.length + 1 ≤ 140737488355328) :
    Calls Tryz.prog 21 #[.pointer (some ⟨b, 0, none⟩), .int .u8 c] w fun e w' => e = .returned .nilIface ∧ (∃ v', w'.heap[b]? = some (.cells #[.pointer (some ⟨b, 0, none⟩), v'] 55 (0, 0)) ∧ w'.ownsRow (k + 1) 5 1 v' (xs.length + 1) (xs ++ [.int .u8 c])) ∧ Fr b k w w' := by
  obtain ⟨i0, hi, hz0, hz1, hz2⟩ := info_parts Tryz.Builder_Extra_167.infoByte
  go_enter Tryz.func21, Tryz.ntmps21
  go_wp2_with fail
  refine (cc_any b k p v _ _ _ hbk hp h hown).mono ?_
  rintro e w1 ⟨rfl, hb1, hown1, hf1⟩
  have c0 : w1.cell? ⟨b, 0, none⟩ = some (.pointer (some ⟨b, 0, none⟩)) := by rw [Lib.cell_of_heap hb1]; rfl
  have c1 : w1.cell? ⟨b, 1, none⟩ = some v := by rw [Lib.cell_of_heap hb1]; rfl
  have hk1 : k < w1.heap.size := Nat.lt_of_lt_of_le hk hf1.size
  go_wp2_with (at_builtin; refine wpList_append_own _ rfl _ _ 27 rfl (k + 1) 5 i0 (.int .u8 0) 1 1 Tryz.underlying27 hi hz0 hz1 hz2 rfl (by decide) _ _ _ rfl (hown1.alloc _) ⟨w1.heap.size, 0, none⟩ 1 1 [.int .u8 c] rfl rfl ?c1 ?c2 ?c3 ?c4 ?c5 ?_)
  case c1 =>
    intro j u hj
    match j, hj with
    | 0, hj => simp at hj; subst hj; simp [Addr.add]
  case c2 => intro u hu; simp at hu; subst hu; rfl
  case c3 => unfold maxLen; omega
  case c4 => omega
  case c5 => simp; omega
  intro v' w2 hown' hgrow _
  have hb2 : w2.heap[b]? = some (.cells #[.pointer (some ⟨b, 0, none⟩), v] 55 (0, 0)) := by
    rw [hgrow.block b (by simp; omega) (fun e => by have := own_lt hown1 b e.symm; omega), Lib.alloc_old w1 _ b (by omega)]
    exact hb1
  have d0 : w2.cell? ⟨b, 0, none⟩ = some (.pointer (some ⟨b, 0, none⟩)) := by rw [Lib.cell_of_heap hb2]; rfl
  have d1 : w2.cell? ⟨b, 1, none⟩ = some v := by rw [Lib.cell_of_heap hb2]; rfl
  have f1 : w2.frozen? ⟨b, 1, none⟩ = false := Lib.frozen_of_heap hb2 1
  obtain ⟨g, cap, rfl⟩ : ∃ g cap, v' = .slice (some ⟨g, 0, none⟩) (xs.length + 1) cap := by
    rcases hown'.2 with ⟨_, h0⟩ | ⟨g, cap, cur, hv, _⟩
    · omega
    · exact ⟨g, cap, hv⟩
  go_wp2
  go_ret
  refine ⟨rfl, ⟨.slice (some ⟨g, 0, none⟩) (xs.length + 1) cap, ?_, ?_⟩, ?_⟩
  · simp [World.setCell, Array.getElem?_modify, hb2]
  · refine hown'.kept (row := some b) ⟨rfl, rfl, rfl, by simp [World.setCell], fun i _ hi => Below.heap_setCell _ _ _ _ (fun e => hi (by simp [e]))⟩ (Or.inr fun e => ?_)
    have := own_lt hown' b e
    omega
  · exact (((hf1.alloc hk1 _).grown (by simp; omega) hgrow (fun j hj => own_lt hown1 j hj)).set rfl _)
end Go.Proofs.YtadmacldbhgijaaGreatDoor
end PHexA
/- script.Hex: each byte's two digits. -/
section PHexB
set_option maxRecDepth 100000
set_option linter.unusedVariables false
set_option linter.unusedSimpArgs false
namespace Go.Proofs.YtadmacldbhgijaaGreatDoor
open Go.RowKit Go.Wx Go.Proofs
def dg (n : Nat) : UInt8 := if n < 10 then UInt8.ofNat (48 + n) else UInt8.ofNat (87 + n)
def hexB (b : UInt8) : List UInt8 := [dg (b.toNat / 16), dg (b.toNat % 16)]
def hexL (l : List UInt8) : List UInt8 := l.flatMap hexB
theorem hexL_len (l : List UInt8) : (hexL l).length = 2 * l.length := by
  induction l with
  | nil => rfl
  | cons a l ih => simp only [hexL, List.flatMap_cons, List.length_append, List.length_cons, hexB, List.length_nil] at *; omega
def digs : ByteArray := { data := #[48, 49, 50, 51, 52, 53, 54, 55, 56, 57, 97, 98, 99, 100, 101, 102] }
theorem digs_at : ∀ (n : Nat) (h : n < digs.size), digs[n] = dg n
  | 0, _ | 1, _ | 2, _ | 3, _ | 4, _ | 5, _ | 6, _ | 7, _ | 8, _ | 9, _ | 10, _ | 11, _ | 12, _ | 13, _ | 14, _ | 15, _ => rfl
  | n + 16, h => absurd h (by show ¬ n + 16 < 16; omega)
theorem st1 (w : World) (o1 o2 : Obj) : ((w.alloc o1).alloc o2).drew.heap[w.heap.size]? = some o1 :=
  (Below.heap_alloc (w.alloc o1) o2 w.heap.size (by simp)).trans (heap_alloc_new w o1)
theorem st2 (w : World) (o1 o2 : Obj) : ((w.alloc o1).alloc o2).drew.heap[w.heap.size + 1]? = some o2 := by
  have := heap_alloc_new (w.alloc o1) o2
  rw [show (w.alloc o1).heap.size = w.heap.size + 1 from by simp] at this
  exact this
theorem st3 (w : World) (o1 o2 : Obj) : Below w.heap.size w ((w.alloc o1).alloc o2).drew := (bl_alloc (bl_alloc (bl_self w) o1) o2).drew
theorem bytesRow_at (s : ByteArray) (cap j : Nat) (hj : j < s.size) : (bytesRow s cap)[j]? = some (.int .u8 s[j].toNat) := by
  unfold bytesRow
  rw [Array.getElem?_append_left (by simpa using hj), Array.getElem?_map, Array.getElem?_eq_getElem (by exact hj)]
  rfl
theorem bytes_one (l : List UInt8) (b : UInt8) : Lib.byteCells l ++ [.int .u8 b.toNat] = Lib.byteCells (l ++ [b]) := by simp [Lib.byteCells]
theorem hexL_next (s : ByteArray) (i : Nat) (h : i < s.size) : hexL (s.data.toList.take (i + 1)) = (hexL (s.data.toList.take i) ++ [dg (s[i].toNat / 16)]) ++ [dg (s[i].toNat % 16)] := by
  rw [take_at s i h]
  simp [hexL, hexB, List.flatMap_append]
set_option maxHeartbeats 4000000 in
theorem hex_any (s : ByteArray) (hs : 2 * s.size ≤ 140737488355328) (w : World) :
    Calls Tryz.prog 9 #[.string s] w fun e w' => e = .returned (.string ⟨(hexL s.data.toList).toArray⟩) ∧ Below w.heap.size w w' := by
  have hconv : ∀ w : World, _ := fun w => run_bytes_of_string (P := Tryz.prog) w 9 27 5 s Tryz.underlying9 Tryz.underlying27 Tryz.underlying5
  go_enter Tryz.func9, Tryz.ntmps9
  go_wp2_with fail
  go_loopw [5, 9, 10, 11, 12, 13, 14, 15, 16, 17, 18, 19, 20, 21] (fun _ t9 _ _ _ _ _ _ _ _ _ _ _ _ wr => ∃ (i : Nat) (p v : Value), i ≤ s.size ∧ t9 = .int .i64 i ∧ (p = .pointer none ∨ p = .pointer (some ⟨w.heap.size, 0, none⟩)) ∧ wr.heap[w.heap.size]? = some (.cells #[p, v] 55 (0, 0)) ∧ wr.ownsRow (w.heap.size + 2) 5 1 v (2 * i) (Lib.byteCells (hexL (s.data.toList.take i))) ∧ Below w.heap.size w wr ∧ w.heap.size + 1 < wr.heap.size ∧ (∃ row fz, wr.heap[w.heap.size + 1]? = some (.cells row 5 fz) ∧ ∀ j, (h : j < s.size) → row[j]? = some (.int .u8 s[j].toNat))) (fun _ t9 _ _ _ _ _ _ _ _ _ _ _ _ _ => s.size - (intOf t9).toNat)
  case atStart =>
    exact ⟨0, .pointer none, .slice none 0 0, Nat.zero_le _, rfl, .inl rfl, st1 w _ _, ⟨rfl, .inl ⟨rfl, rfl⟩⟩, st3 w _ _, by simp, _, _, st2 w _ _, fun j hj => bytesRow_at s _ j hj⟩
  case round =>
    obtain ⟨i, p, v, hi, rfl, hp, hb, hown, hbl, hsz, row, fz, hrow, hr⟩ := hrel
    by_cases hlt : i < s.size
    · have cell : wr.cell? ⟨w.heap.size + 1, i, none⟩ = some (.int .u8 s[i].toNat) := by rw [Lib.cell_of_heap hrow]; exact hr i hlt
      have h256 : s[i].toNat < 256 := s[i].toNat_lt
      have h15 : bits .and .u8 (s[i].toNat : Int) 15 = ((s[i].toNat % 16 : Nat) : Int) := by
        rw [show (15 : Int) = ((15 : Nat) : Int) from rfl, u8_and_nat _ _ h256 (by decide), show (15 : Nat) = 2 ^ 4 - 1 from rfl, Nat.and_two_pow_sub_one_eq_mod]
      have hlen : (Lib.byteCells (hexL (s.data.toList.take i))).length = 2 * i := by
        rw [Lib.byteCells_length, hexL_len, List.length_take, Nat.min_eq_left (by simpa using hi)]
      go_wp2_with fail
      have e1 := digs_at (s[i].toNat / 16) (by show _ < 16; omega)
      unfold digs at e1
      rw [e1]
      rw [← hlen] at hown
      refine (wb_any w.heap.size (w.heap.size + 1) p v _ _ wr (by omega) hsz hp hb hown (by omega)).mono ?_
      rintro e w1 ⟨rfl, ⟨v1, hb1, hown1⟩, hf1⟩
      go_wp2_with fail
      have e2 := digs_at (s[i].toNat % 16) (by show _ < 16; omega)
      unfold digs at e2
      rw [e2]
      rw [bytes_one] at hown1
      have hlen1 : (Lib.byteCells (hexL (s.data.toList.take i) ++ [dg (s[i].toNat / 16)])).length = 2 * i + 1 := by
        rw [Lib.byteCells_length, List.length_append, hexL_len, List.length_take, Nat.min_eq_left (by simpa using hi)]; rfl
      rw [hlen, ← hlen1] at hown1
      refine (wb_any w.heap.size (w.heap.size + 1) _ v1 _ _ w1 (by omega) (Nat.lt_of_lt_of_le hsz hf1.size) (.inr rfl) hb1 hown1 (by omega)).mono ?_
      rintro e w2 ⟨rfl, ⟨v2, hb2, hown2⟩, hf2⟩
      go_wp2_with fail
      go_roundw
      case rel =>
        have hF := hf1.trans hf2
        refine ⟨i + 1, _, v2, by omega, by go_num, .inr rfl, hb2, ?_, hbl.trans ⟨hF.os, hF.tape, hF.output, hF.size, fun j hj => hF.block j (by omega) (by omega)⟩, Nat.lt_of_lt_of_le hsz hF.size, row, fz, ?_, hr⟩
        · rw [hexL_next s i hlt, ← bytes_one, show 2 * (i + 1) = 2 * i + 1 + 1 from by omega, ← hlen1]
          exact hown2
        · rw [hF.block _ (Nat.le_refl _) (by omega)]; exact hrow
      case measure => simp [intOf]; omega
    · obtain rfl : i = s.size := by omega
      go_wp2_with fail
      have hfull : s.data.toList.take s.size = s.data.toList := List.take_of_length_le (by simp)
      rw [hfull] at hown
      have hlen : 2 * s.size = (Lib.byteCells (hexL s.data.toList)).length := by rw [Lib.byteCells_length, hexL_len]; simp
      rw [hlen] at hown
      have hB : Lib.BuilderAt 55 5 w.heap.size w.heap.size p (Lib.byteCells (hexL s.data.toList)) wr := by
        refine ⟨Nat.le_refl _, v, hb, ⟨hown.1, ?_⟩, fun e => by have := own_lt hown _ e; omega⟩
        rcases hown.2 with h | ⟨g, cap, cur, h1, h2, h3⟩
        · exact .inl h
        · exact .inr ⟨g, cap, cur, h1, by omega, h3⟩
      refine (Tryz.Builder_String_any w.heap.size w.heap.size (hexL s.data.toList) wr (by rcases hp with rfl | rfl; exact .inl hB; exact .inr hB) (by omega)).mono ?_
      rintro e w1 ⟨rfl, hb1⟩
      go_wp2_with fail
      go_ret
      exact ⟨rfl, hbl.trans hb1⟩
end Go.Proofs.YtadmacldbhgijaaGreatDoor
end PHexB
/- script.Unhex: what two digits each tell. -/
section PHexC
set_option maxRecDepth 100000
set_option linter.unusedVariables false
set_option linter.unusedSimpArgs false
namespace Go.Proofs.YtadmacldbhgijaaGreatDoor
open Go.RowKit Go.Wx Go.Proofs
def di (c : UInt8) : Int := Lib.indexByte digs.data.toList c
def vI (a b : UInt8) : Int := bits .or .i64 (wrap64 (di a * 16)) (di b) % 256
def vB (a b : UInt8) : UInt8 := UInt8.ofNat (vI a b).toNat
theorem vB_nat (a b : UInt8) : ((vB a b).toNat : Int) = vI a b := by
  have h : 0 ≤ vI a b ∧ vI a b < 256 := by
    unfold vI
    omega
  unfold vB
  rw [UInt8.toNat_ofNat']
  omega
def unR : List UInt8 → List UInt8 → Option (List UInt8)
  | [], acc => some acc
  | [_], _ => none
  | a :: b :: r, acc => if di a < 0 ∨ di b < 0 then none else unR r (acc ++ [vB a b])
def unV (l : List UInt8) : Value := match unR l [] with
  | some r => .tuple #[.string ⟨r.toArray⟩, .bool true]
  | none => .tuple #[.string ⟨#[]⟩, .bool false]
def slen : Value → Nat
  | .string s => s.size
  | _ => 0
theorem conv_own {w : World} {B : Nat} {v : Value} {l : List UInt8} (h : w.ownsRow B 5 1 v l.length (Lib.byteCells l)) : (convert 27 9 v).run Tryz.prog w = .ok (.string ⟨l.toArray⟩) w := by
  rcases h.2 with ⟨rfl, h0⟩ | ⟨g, cap, cur, rfl, _, hg, _, _, _, ht⟩
  · obtain rfl : l = [] := List.eq_nil_of_length_eq_zero h0
    rw [run_convert_bytes_string w 27 9 5 none 0 0 Tryz.underlying27 Tryz.underlying5 Tryz.underlying9]
    rfl
  · refine run_convert_bytes_back w 27 9 5 ⟨g, 0, none⟩ cap l Tryz.underlying27 Tryz.underlying5 Tryz.underlying9 fun j hj => ?_
    rw [show (⟨g, 0, none⟩ : Addr).add j = ⟨g, j, none⟩ from by simp [Addr.add]; intro h; exact h.symm, Lib.cell_of_heap hg]
    have : (cur.toList.take (l.length * 1))[j]? = some (Value.int .u8 (l[j].toNat : Int)) := by rw [ht]; simp [Lib.byteCells, hj]
    rw [List.getElem?_take] at this
    split at this
    · rwa [Array.getElem?_toList] at this
    · cases this
theorem emp0 : (bs []).toList.isEmpty = true := by simp [bs]
theorem empC (a : UInt8) (r : List UInt8) : (bs (a :: r)).toList.isEmpty = false := by simp [bs]
theorem c23 : Callable Tryz.prog 23 := ⟨Tryz.f23, Tryz.func23, by kernel_rfl, by kernel_rfl⟩
theorem cIdx (a : UInt8) (w : World) : Calls Tryz.prog 23 #[.string digs, .int .u8 (a.toNat : Int)] w fun e w' => e = .returned (.int .i64 (di a)) ∧ w' = w := by
  have := Tryz.strings_IndexByte digs a.toNat w
  rw [show (a.toNat : Int).toNat.toUInt8 = a from by simp] at this
  exact this
set_option maxHeartbeats 4000000 in
theorem unhex_any (s : ByteArray) (hs : s.size ≤ 140737488355328) (w : World) :
    Calls Tryz.prog 10 #[.string s] w fun e w' => e = .returned (unV s.data.toList) ∧ Below w.heap.size w w' := by
  go_enter Tryz.func10, Tryz.ntmps10
  go_wp2_with fail
  go_loopw [0, 2, 3, 4, 5, 6, 7, 8, 9, 10, 11, 12, 13, 14, 15, 16, 17, 18, 19, 20, 21, 22, 23, 24, 25, 26, 27, 28, 29, 30, 31] (fun t0 _ _ t4 _ _ _ _ _ _ _ _ _ _ _ _ _ _ _ _ _ _ _ _ _ _ _ _ _ _ _ wr => ∃ (r acc : List UInt8), t0 = .string (bs r) ∧ r.length + 2 * acc.length ≤ s.size ∧ wr.ownsRow w.heap.size 5 1 t4 acc.length (Lib.byteCells acc) ∧ Below w.heap.size w wr ∧ unR s.data.toList [] = unR r acc) (fun t0 _ _ _ _ _ _ _ _ _ _ _ _ _ _ _ _ _ _ _ _ _ _ _ _ _ _ _ _ _ _ _ => slen t0)
  case atStart =>
    exact ⟨s.data.toList, [], rfl, by simp, ⟨rfl, .inl ⟨rfl, rfl⟩⟩, Below.refl _ _, rfl⟩
  case round =>
    obtain ⟨r, acc, rfl, hlen, hown, hbl, hun⟩ := hrel
    match r, hlen, hun with
    | [], hlen, hun =>
      have hz : ((bs []).size : Int) = 0 := rfl
      have he := emp0
      have hcv := conv_own hown
      go_wp2_with fail
      exact bodyPost_ret (v := unV s.data.toList) (by simp [results, Tryz.results10, go_sem, unV, hun, unR]) rfl (⟨rfl, hbl⟩)
    | [a], hlen, hun =>
      have hz : ((bs [a]).size : Int) = 1 := rfl
      have he := empC a []
      go_wp2_with fail
      exact bodyPost_ret (v := unV s.data.toList) (by simp [results, Tryz.results10, go_sem, unV, hun, unR]) rfl (⟨rfl, hbl⟩)
    | a :: b :: r, hlen, hun =>
      have hz : ((bs (a :: b :: r)).size : Int) = (r.length : Int) + 2 := by rw [bs_size]; simp; omega
      have i0 : (0 : Nat) < (bs (a :: b :: r)).size := by rw [bs_size]; simp
      have i1 : (1 : Nat) < (bs (a :: b :: r)).size := by rw [bs_size]; simp
      go_wp2_with fail
      have l0 : (0 : Int) < (r.length : Int) + 2 := by omega
      have l1 : (1 : Int) < (r.length : Int) + 2 := by omega
      refine wp_region_gen (F := fun W => W.ownsRow w.heap.size 5 1 u4 acc.length (Lib.byteCells acc) ∧ Below w.heap.size w W) [] [2, 5] [2, 5] (by kernel_rfl) (by kernel_rfl) (by kernel_rfl) (by kernel_rfl) (l := [0, 1, 2, 3, 4, 5, 6, 7]) rfl ?_ ?_
      · exact ⟨hown, hbl⟩
      rintro W ⟨hownW, hblW⟩ hkb
      (refine tw_rdK rfl rfl rfl (fun K hK => ?_); refine ⟨?_, fun w' hw' => ?_, ?_⟩; rotate_left; (· (go_simp; try rfl)); go_simp; refine hK _ _ ?_; clear hK K)
      (refine tw_rdK rfl rfl rfl (fun K hK => ?_); refine ⟨?_, fun w' hw' => ?_, ?_⟩; rotate_left; (· (go_simp; try rfl)); go_simp; refine hK _ _ ?_; clear hK K)
      refine tw_call rfl rfl rfl c23 rfl (cIdx a _) ?_
      rintro K hK e w1 ⟨rfl, rfl⟩
      refine ⟨_, rfl, hK _ _ hkb ?_⟩
      clear hK K
      (refine tw_rdK rfl rfl rfl (fun K hK => ?_); refine ⟨?_, fun w' hw' => ?_, ?_⟩; rotate_left; (· (go_simp; try rfl)); go_simp; refine hK _ _ ?_; clear hK K)
      (refine tw_rdK rfl rfl rfl (fun K hK => ?_); refine ⟨?_, fun w' hw' => ?_, ?_⟩; rotate_left; (· (go_simp; try rfl)); go_simp; refine hK _ _ ?_; clear hK K)
      refine tw_call rfl rfl rfl c23 rfl (cIdx b _) ?_
      rintro K hK e w1 ⟨rfl, rfl⟩
      refine ⟨_, rfl, hK _ _ hkb ?_⟩
      clear hK K
      (refine tw_rdK rfl rfl rfl (fun K hK => ?_); refine ⟨?_, fun w' hw' => ?_, ?_⟩; rotate_left; (· (go_simp; try rfl)); go_simp; refine hK _ _ ?_; clear hK K)
      (refine tw_rdK rfl rfl rfl (fun K hK => ?_); refine ⟨?_, fun w' hw' => ?_, ?_⟩; rotate_left; (· (go_simp; try rfl)); go_simp; refine hK _ _ ?_; clear hK K)
      refine tw_nil ?_
      by_cases hd : di a < 0
      · have hn : decide (di a < 0) = true := by simpa using hd
        go_wp2_with fail
        exact bodyPost_ret (v := unV s.data.toList) (by simp [results, Tryz.results10, go_sem, unV, hun, unR, hd]) rfl (⟨rfl, hblW.drew⟩)
      by_cases hd' : di b < 0
      · have hn : decide (di a < 0) = false := by simpa using hd
        have hn' : decide (di b < 0) = true := by simpa using hd'
        go_wp2_with fail
        exact bodyPost_ret (v := unV s.data.toList) (by simp [results, Tryz.results10, go_sem, unV, hun, unR, hd, hd']) rfl (⟨rfl, hblW.drew⟩)
      · have hda : decide (di a < 0) = false := by simp; omega
        have hdb : decide (di b < 0) = false := by simp; omega
        obtain ⟨i0, hi, hz0, hz1, hz2⟩ := info_parts Tryz.Builder_Extra_167.infoByte
        have hlen' : r.length + 2 + 2 * acc.length ≤ s.size := by simpa using hlen
        go_wp2_with (at_builtin; refine wpList_append_own _ rfl _ _ 27 rfl w.heap.size 5 i0 (.int .u8 0) 1 1 Tryz.underlying27 hi hz0 hz1 hz2 rfl (by decide) _ _ _ rfl (hownW.alloc _) ⟨W.heap.size, 0, none⟩ 1 1 [.int .u8 (vI a b)] rfl rfl ?c1 ?c2 ?c3 ?c4 ?c5 ?_)
        case c1 =>
          intro j u hj
          match j, hj with
          | 0, hj => simp at hj; subst hj; simp [Addr.add, vI]
        case c2 => rfl
        case c3 => unfold maxLen; omega
        case c4 => omega
        case c5 => have := hblW.size; simp; omega
        intro v' w2 hown' hgrow _
        go_wp2_with fail
        have hex : (bs (a :: b :: r)).extract 2 (bs (a :: b :: r)).size = bs r := extract_drop _ 2
        go_roundw
        case rel =>
          refine ⟨r, acc ++ [vB a b], by rw [hex], by simp; omega, ?_, ?_, ?_⟩
          · rw [← bytes_one, vB_nat, List.length_append]
            exact hown'
          · exact ((hblW.alloc hblW.size _).drew).grown hgrow (by have := hblW.size; simp; omega) (fun k hk => (hownW.lt k hk).1)
          · rw [hun, unR, if_neg (by omega)]
        case measure =>
          show slen (Value.string ((bs (a :: b :: r)).extract 2 (bs (a :: b :: r)).size)) < slen (Value.string (bs (a :: b :: r)))
          rw [hex]
          show (bs r).size < (bs (a :: b :: r)).size
          rw [bs_size, bs_size]
          simp
          omega
end Go.Proofs.YtadmacldbhgijaaGreatDoor
end PHexC
/- ScriptHex: what the digits tell, in plain words. -/
section PHexD
set_option maxRecDepth 100000
set_option linter.unusedVariables false
set_option linter.unusedSimpArgs false
namespace Go.Proofs.YtadmacldbhgijaaGreatDoor
open Go.RowKit Go.Wx Go.Proofs
def isDig (b : UInt8) : Bool := (decide (48 ≤ b.toNat) && decide (b.toNat ≤ 57)) || (decide (97 ≤ b.toNat) && decide (b.toNat ≤ 102))
theorem di_fin : ∀ n : Fin 256, decide (0 ≤ di (UInt8.ofNat n.val)) = isDig (UInt8.ofNat n.val) := by decide +kernel
theorem hex_fin : ∀ n : Fin 256, vB (dg (n.val / 16)) (dg (n.val % 16)) = UInt8.ofNat n.val ∧ 0 ≤ di (dg (n.val / 16)) ∧ 0 ≤ di (dg (n.val % 16)) := by decide +kernel
theorem of_nat (b : UInt8) : UInt8.ofNat b.toNat = b := by simp
theorem di_dig (b : UInt8) : decide (0 ≤ di b) = isDig b := by
  have := di_fin ⟨b.toNat, b.toNat_lt⟩
  rwa [of_nat] at this
theorem hex_one (b : UInt8) : vB (dg (b.toNat / 16)) (dg (b.toNat % 16)) = b ∧ 0 ≤ di (dg (b.toNat / 16)) ∧ 0 ≤ di (dg (b.toNat % 16)) := by
  have := hex_fin ⟨b.toNat, b.toNat_lt⟩
  rwa [of_nat] at this
theorem unR_hex (t : List UInt8) : ∀ (l acc : List UInt8), unR (hexL l ++ t) acc = unR t (acc ++ l)
  | [], acc => by simp [hexL]
  | b :: l, acc => by
    obtain ⟨h1, h2, h3⟩ := hex_one b
    have e : hexL (b :: l) ++ t = dg (b.toNat / 16) :: dg (b.toNat % 16) :: (hexL l ++ t) := by simp [hexL, hexB]
    rw [e, unR, if_neg (by omega), h1, unR_hex t l]
    simp
theorem unV_hex (l : List UInt8) : unV (hexL l) = .tuple #[.string ⟨l.toArray⟩, .bool true] := by
  have := unR_hex [] l []
  rw [List.append_nil, List.nil_append] at this
  unfold unV
  rw [this]
  rfl
theorem unV_more (l : List UInt8) : unV (hexL l ++ [48]) = .tuple #[.string ⟨#[]⟩, .bool false] := by
  have := unR_hex [48] l []
  unfold unV
  rw [this]
  rfl
theorem unR_some : ∀ (l acc : List UInt8), l.length % 2 = 0 → (unR l acc).isSome = l.all isDig
  | [], acc, h => rfl
  | [a], acc, h => by simp at h
  | a :: b :: l, acc, h => by
    rw [unR, List.all_cons, List.all_cons, ← di_dig, ← di_dig]
    by_cases ha : 0 ≤ di a
    · by_cases hb : 0 ≤ di b
      · rw [if_neg (by omega), unR_some l _ (by simp at h; omega)]
        simp [ha, hb]
      · rw [if_pos (by omega)]
        simp [hb]
    · rw [if_pos (by omega)]
      simp [ha]
theorem hexL_dig (l : List UInt8) : ∀ x ∈ hexL l, isDig x = true := by
  intro x hx
  unfold hexL at hx
  rw [List.mem_flatMap] at hx
  obtain ⟨b, _, hb⟩ := hx
  obtain ⟨_, h2, h3⟩ := hex_one b
  rw [← di_dig]
  simp only [hexB, List.mem_cons, List.not_mem_nil, or_false] at hb
  rcases hb with rfl | rfl
  · simpa using h2
  · simpa using h3
/-- One digit turned. -/
theorem turned (l : List UInt8) (k : Nat) (c : UInt8) (hk : k < (hexL l ++ [48, 48]).length) : (unR ((hexL l ++ [48, 48]).set k c) []).isSome = isDig c := by
  have hall : ∀ x ∈ hexL l ++ [48, 48], isDig x = true := by
    intro x hx
    rw [List.mem_append] at hx
    rcases hx with hx | hx
    · exact hexL_dig l x hx
    · simp only [List.mem_cons, List.not_mem_nil, or_false] at hx
      rcases hx with rfl | rfl <;> rfl
  rw [unR_some _ _ (by rw [List.length_set, List.length_append, hexL_len]; simp)]
  rw [Bool.eq_iff_iff, List.all_eq_true]
  constructor
  · intro h
    exact h c (List.mem_set hk c)
  · intro h x hx
    rcases List.mem_or_eq_of_mem_set hx with h1 | rfl
    · exact hall x h1
    · exact h
theorem unV_turned (l : List UInt8) (k : Nat) (c : UInt8) (hk : k < (hexL l ++ [48, 48]).length) : ∃ r, unV ((hexL l ++ [48, 48]).set k c) = .tuple #[.string r, .bool (isDig c)] := by
  have := turned l k c hk
  unfold unV
  cases h : unR ((hexL l ++ [48, 48]).set k c) [] with
  | none => rw [h] at this; exact ⟨_, by rw [← this]; rfl⟩
  | some r => rw [h] at this; exact ⟨_, by rw [← this]; rfl⟩
end Go.Proofs.YtadmacldbhgijaaGreatDoor
end PHexD
/- ScriptHex: the walk. -/
section PHexE
set_option maxRecDepth 100000
set_option linter.unusedVariables false
set_option linter.unusedSimpArgs false
namespace Go.Proofs.YtadmacldbhgijaaGreatDoor
open Go.RowKit Go.Wx Go.Proofs
theorem cat_bs (t u : List UInt8) : ({ data := t.toArray } : ByteArray) ++ { data := u.toArray } = bs (t ++ u) := by
  apply ByteArray.ext
  simp [bs]
theorem conv_str (l : List UInt8) (w : World) : ∃ W cap row fz, (convert 9 27 (.string (bs l))).run Tryz.prog w = .ok (.slice (some ⟨w.heap.size, 0, none⟩) l.length cap) W ∧ Below w.heap.size w W ∧ W.heap[w.heap.size]? = some (.cells row 5 fz) ∧
    (∀ j, (h : j < l.length) → row[j]? = some (.int .u8 l[j].toNat)) ∧ l.length ≤ fz.1 := by
  have h := run_bytes_of_string (P := Tryz.prog) w 9 27 5 (bs l) Tryz.underlying9 Tryz.underlying27 Tryz.underlying5
  refine ⟨_, _, _, _, h, (bl_alloc (w1 := w.drew) ((bl_self w).drew) _), heap_alloc_new w.drew _, fun j hj => bytesRow_at (bs l) _ j hj, ?_⟩
  unfold bytesRow
  simp [bs_size]
theorem conv_back {w : World} {b cap : Nat} {row : Array Value} {fz : Nat × Nat} {l : List UInt8} (hb : w.heap[b]? = some (.cells row 5 fz)) (hr : ∀ j, (h : j < l.length) → row[j]? = some (.int .u8 l[j].toNat)) :
    (convert 27 9 (.slice (some ⟨b, 0, none⟩) l.length cap)).run Tryz.prog w = .ok (.string (bs l)) w := by
  refine run_convert_bytes_back w 27 9 5 ⟨b, 0, none⟩ cap l Tryz.underlying27 Tryz.underlying5 Tryz.underlying9 fun j hj => ?_
  rw [show (⟨b, 0, none⟩ : Addr).add j = ⟨b, j, none⟩ from by simp [Addr.add]; intro h; exact h.symm, Lib.cell_of_heap hb]
  exact hr j hj
set_option maxHeartbeats 4000000 in
theorem hexlaw_any (s : ByteArray) (hs : s.size ≤ 1048576) (n : Nat) (hn : n < 65536) (c : UInt8) (w : World) :
    Calls Tryz.prog 3 #[.string s, .int .u16 n, .int .u8 c.toNat] w fun e w' => e = .returned (.bool true) ∧ Below w.heap.size w w' := by
  obtain ⟨t, ht⟩ : ∃ t, t = hexL s.data.toList := ⟨_, rfl⟩
  have hl : t.length = 2 * s.size := by rw [ht, hexL_len]; simp
  have hT1 : unV t = .tuple #[.string s, .bool true] := by rw [ht, unV_hex]
  have hT2 : unV (t ++ [48]) = .tuple #[.string ⟨#[]⟩, .bool false] := by rw [ht]; exact unV_more _
  have hT3 : ∀ k c, k < (t ++ [48, 48]).length → ∃ r, unV ((t ++ [48, 48]).set k c) = .tuple #[.string r, .bool (isDig c)] := by rw [ht]; exact unV_turned _
  have hT3 := Lib.hid hT3
  have hT2 := Lib.hid hT2
  have hT1 := Lib.hid hT1
  have hH := hex_any s (by omega)
  rw [← ht] at hH
  have hH := Lib.hid hH
  clear ht
  have e1 : ({ data := t.toArray } : ByteArray) ++ { data := #[48] } = bs (t ++ [48]) := cat_bs t [48]
  have e2 : ({ data := t.toArray } : ByteArray) ++ { data := #[48, 48] } = bs (t ++ [48, 48]) := cat_bs t [48, 48]
  go_enter Tryz.func3, Tryz.ntmps3
  go_wp2_with fail
  refine (Go.Wx.Tryz.ex.2.2.2 _).mono ?_
  rintro e w1 ⟨rfl, hb1⟩
  go_wp2_with fail
  refine (hH.out _).mono ?_
  rintro e w2 ⟨rfl, hb2⟩
  go_wp2_with fail
  refine (unhex_any (bs t) (by rw [bs_size]; omega) _).mono ?_
  rintro e w3 ⟨rfl, hb3⟩
  rw [bs_list, hT1.out]
  go_wp2_with fail
  refine (unhex_any (bs (t ++ [48])) (by rw [bs_size, List.length_append]; simp; omega) _).mono ?_
  rintro e w4 ⟨rfl, hb4⟩
  rw [bs_list, hT2.out]
  obtain ⟨B, hB⟩ : ∃ B, B = t ++ [48, 48] := ⟨_, rfl⟩
  have hBl : B.length = 2 * s.size + 2 := by rw [hB, List.length_append, hl]; rfl
  obtain ⟨W5, cap, row, fz, hcv, hb5, hrow, hat, hfz⟩ := conv_str B w4
  obtain ⟨k, hkd⟩ : ∃ k, k = n % B.length := ⟨_, rfl⟩
  have hk : k < B.length := by rw [hkd]; exact Nat.mod_lt _ (by omega)
  have hm : (n : Int) % (B.length : Int) = (k : Int) := by rw [hkd]; simp
  have hpos : (0 : Int) < (B.length : Int) := by omega
  have hc5 : W5.cell? ⟨w4.heap.size, k, none⟩ = some (.int .u8 B[k].toNat) := by rw [Lib.cell_of_heap hrow]; exact hat k hk
  have hf5 : W5.frozen? ⟨w4.heap.size, k, none⟩ = false := by
    simp [World.frozen?, hrow]
    omega
  rw [← hB] at e2
  have hT3 := hT3.out
  rw [← hB] at hT3
  have hT3 := Lib.hid hT3
  have hBb : B.length ≤ 2097154 := by omega
  clear hB hkd hBl
  obtain ⟨r, hr⟩ := hT3.out k c hk
  have hr := Lib.hid hr
  clear hT3
  have hlt : w4.heap.size < W5.heap.size := (Array.getElem?_eq_some_iff.1 hrow).1
  have hrow6 : (W5.setCell ⟨w4.heap.size, k, none⟩ (.int .u8 (c.toNat : Int))).heap[w4.heap.size]? = some (.cells (row.setIfInBounds k (.int .u8 (c.toNat : Int))) 5 fz) := by
    simp [World.setCell, Array.getElem?_modify, hrow]
  have hback := conv_back (cap := cap) (l := B.set k c) hrow6 (fun j hj => by
    rw [List.length_set] at hj
    rw [Array.getElem?_setIfInBounds]
    by_cases e : k = j
    · subst e
      have hz : k < row.size := (Array.getElem?_eq_some_iff.1 (hat k hj)).1
      simp [hz]
    · rw [if_neg e, hat j hj]
      simp [List.getElem_set, e])
  rw [List.length_set] at hback
  have hb6 : Below w4.heap.size w4 (W5.setCell ⟨w4.heap.size, k, none⟩ (.int .u8 (c.toNat : Int))) := hb5.setCell (Nat.le_refl _) _
  have hw := Lib.hid (And.intro hrow6 hrow)
  clear hat hrow hrow6
  have hbb := bl_then (bl_then (bl_then (bl_then hb1 hb2) hb3) hb4) hb6
  have hbs : (bs (B.set k c)).size ≤ 140737488355328 := by rw [bs_size, List.length_set]; omega
  go_wp2_with fail
  all_goals
    refine (unhex_any (bs (B.set k c)) hbs _).mono ?_
    rintro e w7 ⟨rfl, hb7⟩
    rw [bs_list, hr.out]
    go_wp2_with fail
  all_goals
    go_ret
    refine ⟨?_, bl_then hbb hb7⟩
    refine congrArg (fun b => Ending.returned (.bool b)) ?_
    first
      | (rw [beq_iff_eq, Bool.eq_iff_iff]; simp [isDig]; omega)
      | (simp [isDig]; omega)
end Go.Proofs.YtadmacldbhgijaaGreatDoor
end PHexE
