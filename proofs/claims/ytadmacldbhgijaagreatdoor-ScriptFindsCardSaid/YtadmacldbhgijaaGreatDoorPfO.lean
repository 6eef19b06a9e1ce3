/- ScriptFinds: the walk, for every pattern of the list and every text of it. -/
import Derived.Test.YtadmacldbhgijaaGreatDoorPfN0
import Derived.Test.YtadmacldbhgijaaGreatDoorPfN1
import Derived.Test.YtadmacldbhgijaaGreatDoorPfN2
import Derived.Test.YtadmacldbhgijaaGreatDoorPfN3
import Derived.Test.YtadmacldbhgijaaGreatDoorPfN4
/- ScriptFinds: the walk, for every pattern of the list and every text of it. -/
noncomputable section PFndAll
set_option linter.unusedVariables false
namespace Go.Wx
open Go.RowKit Go.Proofs
theorem Tryz.fi_walk {a b : Int} (ha : 0 ≤ a) (hb : 0 ≤ b) {w : World} (hw : w.heap[1]? = some (.cells Tryz.pow10.toArray 340 (0, 0))) :
    Calls Tryz.prog 6 #[.int .u8 a, .int .u8 b] w fun e w' => e = .returned (.bool true) ∧ Below w.heap.size w w' := by
  have e1 : a.tmod 5 = a % 5 := Int.tmod_eq_emod_of_nonneg ha
  have e2 : b.tmod 7 = b % 7 := Int.tmod_eq_emod_of_nonneg hb
  have h1 : a.tmod 5 = 0 ∨ a.tmod 5 = 1 ∨ a.tmod 5 = 2 ∨ a.tmod 5 = 3 ∨ a.tmod 5 = 4 := by omega
  have h2 : b.tmod 7 = 0 ∨ b.tmod 7 = 1 ∨ b.tmod 7 = 2 ∨ b.tmod 7 = 3 ∨ b.tmod 7 = 4 ∨ b.tmod 7 = 5 ∨ b.tmod 7 = 6 := by omega
  rcases h1 with h1 | h1 | h1 | h1 | h1
  · rcases h2 with h2 | h2 | h2 | h2 | h2 | h2 | h2
    · exact Tryz.fi_sound Tryz.fE0_ok rfl rfl Tryz.fc0_0 h1 h2 hw
    · exact Tryz.fi_sound Tryz.fE0_ok rfl rfl Tryz.fc0_1 h1 h2 hw
    · exact Tryz.fi_sound Tryz.fE0_ok rfl rfl Tryz.fc0_2 h1 h2 hw
    · exact Tryz.fi_sound Tryz.fE0_ok rfl rfl Tryz.fc0_3 h1 h2 hw
    · exact Tryz.fi_sound Tryz.fE0_ok rfl rfl Tryz.fc0_4 h1 h2 hw
    · exact Tryz.fi_sound Tryz.fE0_ok rfl rfl Tryz.fc0_5 h1 h2 hw
    · exact Tryz.fi_sound Tryz.fE0_ok rfl rfl Tryz.fc0_6 h1 h2 hw
  · rcases h2 with h2 | h2 | h2 | h2 | h2 | h2 | h2
    · exact Tryz.fi_sound Tryz.fE1_ok rfl rfl Tryz.fc1_0 h1 h2 hw
    · exact Tryz.fi_sound Tryz.fE1_ok rfl rfl Tryz.fc1_1 h1 h2 hw
    · exact Tryz.fi_sound Tryz.fE1_ok rfl rfl Tryz.fc1_2 h1 h2 hw
    · exact Tryz.fi_sound Tryz.fE1_ok rfl rfl Tryz.fc1_3 h1 h2 hw
    · exact Tryz.fi_sound Tryz.fE1_ok rfl rfl Tryz.fc1_4 h1 h2 hw
    · exact Tryz.fi_sound Tryz.fE1_ok rfl rfl Tryz.fc1_5 h1 h2 hw
    · exact Tryz.fi_sound Tryz.fE1_ok rfl rfl Tryz.fc1_6 h1 h2 hw
  · rcases h2 with h2 | h2 | h2 | h2 | h2 | h2 | h2
    · exact Tryz.fi_sound Tryz.fE2_ok rfl rfl Tryz.fc2_0 h1 h2 hw
    · exact Tryz.fi_sound Tryz.fE2_ok rfl rfl Tryz.fc2_1 h1 h2 hw
    · exact Tryz.fi_sound Tryz.fE2_ok rfl rfl Tryz.fc2_2 h1 h2 hw
    · exact Tryz.fi_sound Tryz.fE2_ok rfl rfl Tryz.fc2_3 h1 h2 hw
    · exact Tryz.fi_sound Tryz.fE2_ok rfl rfl Tryz.fc2_4 h1 h2 hw
    · exact Tryz.fi_sound Tryz.fE2_ok rfl rfl Tryz.fc2_5 h1 h2 hw
    · exact Tryz.fi_sound Tryz.fE2_ok rfl rfl Tryz.fc2_6 h1 h2 hw
  · rcases h2 with h2 | h2 | h2 | h2 | h2 | h2 | h2
    · exact Tryz.fi_sound Tryz.fE3_ok rfl rfl Tryz.fc3_0 h1 h2 hw
    · exact Tryz.fi_sound Tryz.fE3_ok rfl rfl Tryz.fc3_1 h1 h2 hw
    · exact Tryz.fi_sound Tryz.fE3_ok rfl rfl Tryz.fc3_2 h1 h2 hw
    · exact Tryz.fi_sound Tryz.fE3_ok rfl rfl Tryz.fc3_3 h1 h2 hw
    · exact Tryz.fi_sound Tryz.fE3_ok rfl rfl Tryz.fc3_4 h1 h2 hw
    · exact Tryz.fi_sound Tryz.fE3_ok rfl rfl Tryz.fc3_5 h1 h2 hw
    · exact Tryz.fi_sound Tryz.fE3_ok rfl rfl Tryz.fc3_6 h1 h2 hw
  · rcases h2 with h2 | h2 | h2 | h2 | h2 | h2 | h2
    · exact Tryz.fi_sound Tryz.fE4_ok rfl rfl Tryz.fc4_0 h1 h2 hw
    · exact Tryz.fi_sound Tryz.fE4_ok rfl rfl Tryz.fc4_1 h1 h2 hw
    · exact Tryz.fi_sound Tryz.fE4_ok rfl rfl Tryz.fc4_2 h1 h2 hw
    · exact Tryz.fi_sound Tryz.fE4_ok rfl rfl Tryz.fc4_3 h1 h2 hw
    · exact Tryz.fi_sound Tryz.fE4_ok rfl rfl Tryz.fc4_4 h1 h2 hw
    · exact Tryz.fi_sound Tryz.fE4_ok rfl rfl Tryz.fc4_5 h1 h2 hw
    · exact Tryz.fi_sound Tryz.fE4_ok rfl rfl Tryz.fc4_6 h1 h2 hw
end Go.Wx
end PFndAll
