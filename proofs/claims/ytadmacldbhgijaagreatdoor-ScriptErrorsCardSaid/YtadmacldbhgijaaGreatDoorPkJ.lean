/- ScriptErrors: the walk, for every line and every rest that is not longer than 2^60 bytes. -/
import Derived.Test.YtadmacldbhgijaaGreatDoorPkG
import Derived.Test.YtadmacldbhgijaaGreatDoorPkH
import Derived.Test.YtadmacldbhgijaaGreatDoorPkI
/- ScriptErrors: the walk, for every line of the list and every rest. -/
noncomputable section PErrAll
set_option linter.unusedVariables false
namespace Go.Wx
open Go.RowKit Go.Proofs
theorem of_map {α β : Type} {f : Nat → α} {g : Nat → β} {x : α} {y : β} : ∀ (n a : Nat), (List.range' a n).map (fun k => (f k, g k)) = List.replicate n (x, y) → ∀ k, a ≤ k → k < a + n → f k = x ∧ g k = y
  | 0, a, h, k, h1, h2 => by omega
  | n + 1, a, h, k, h1, h2 => by
    rw [List.range'_succ, List.map_cons, List.replicate_succ] at h
    injection h with h3 h4
    by_cases e : k = a
    · subst e; exact ⟨congrArg Prod.fst h3, congrArg Prod.snd h3⟩
    · exact of_map n (a + 1) h4 k (by omega) (by omega)
theorem Tryz.er_all {k : Nat} (hk : k < 256) (l : List UInt8) : Tryz.chk k l = true ∧ Tryz.erB (Tryz.er1 k l) = .string ⟨⟨l⟩⟩ := by
  by_cases h0 : k < 32
  · exact of_map 32 0 (Tryz.erc0 l) k (by omega) (by omega)
  by_cases h1 : k < 64
  · exact of_map 32 32 (Tryz.erc1 l) k (by omega) (by omega)
  by_cases h2 : k < 96
  · exact of_map 32 64 (Tryz.erc2 l) k (by omega) (by omega)
  by_cases h3 : k < 128
  · exact of_map 32 96 (Tryz.erc3 l) k (by omega) (by omega)
  by_cases h4 : k < 160
  · exact of_map 32 128 (Tryz.erc4 l) k (by omega) (by omega)
  by_cases h5 : k < 192
  · exact of_map 32 160 (Tryz.erc5 l) k (by omega) (by omega)
  by_cases h6 : k < 224
  · exact of_map 32 192 (Tryz.erc6 l) k (by omega) (by omega)
  · exact of_map 32 224 (Tryz.erc7 l) k (by omega) (by omega)
theorem Tryz.er_walk {k : Nat} (hk : k < 256) (l : List UInt8) (hl : l.length ≤ 1152921504606846976) (w : World) :
    Calls Tryz.prog 7 #[.int .u8 k, .string ⟨⟨l⟩⟩] w fun e w' => e = .returned (.bool true) ∧ Below w.heap.size w w' :=
  Tryz.er_sound (Tryz.er_all hk l).1 (Tryz.er_all hk l).2 hl w
end Go.Wx
end PErrAll
