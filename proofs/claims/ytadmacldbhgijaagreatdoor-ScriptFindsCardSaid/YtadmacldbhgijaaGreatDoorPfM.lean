/- ScriptFinds: the tables of proved calls; what the kernel runs of the walk is what the program does. -/
import Derived.Test.YtadmacldbhgijaaGreatDoorPfI
import Derived.Test.YtadmacldbhgijaaGreatDoorPfJ
import Derived.Test.YtadmacldbhgijaaGreatDoorPfK
import Derived.Test.YtadmacldbhgijaaGreatDoorPfL0
import Derived.Test.YtadmacldbhgijaaGreatDoorPfL1
import Derived.Test.YtadmacldbhgijaaGreatDoorPfL2
import Derived.Test.YtadmacldbhgijaaGreatDoorPfL3
import Derived.Test.YtadmacldbhgijaaGreatDoorPfL4
import Derived.Test.YtadmacldbhgijaaGreatDoorPfF
import Derived.Test.YtadmacldbhgijaaGreatDoorPfH
import Derived.KernelRfl
/- ScriptFinds: the tables of proved calls. -/
noncomputable section PFndE
set_option linter.unusedVariables false
set_option maxRecDepth 1000000
namespace Go.Wx
open Go.RowKit Go.Proofs
def Tryz.fT0 : Tbl := [(8, [([], .bool true)]), (12, [([.string ⟨⟨[97]⟩⟩], .agg #[.string ⟨⟨[87, 88, 80, 1, 1, 0, 2, 4, 1, 1, 97, 0, 3, 17, 4, 4, 1, 0, 0, 1, 2, 0, 0, 4, 3, 0, 1, 0, 0, 0, 0, 0, 42, 224, 1, 147]⟩⟩, .int .i64 1, .int .i64 0, .int .i64 0])]), (30, [([.string ⟨⟨[97]⟩⟩], .agg #[.string ⟨⟨[87, 88, 84, 4, 4, 3, 0, 97, 1, 5, 7, 2, 0, 1, 0, 1, 1, 1, 6, 3, 2, 0, 1, 0, 31, 229, 1, 143]⟩⟩, .int .i64 1, .int .i64 0, .int .i64 0])]), (9, [([.string ⟨⟨[87, 88, 80, 1, 1, 0, 2, 4, 1, 1, 97, 0, 3, 17, 4, 4, 1, 0, 0, 1, 2, 0, 0, 4, 3, 0, 1, 0, 0, 0, 0, 0, 42, 224, 1, 147]⟩⟩], .string ⟨⟨[53, 55, 53, 56, 53, 48, 48, 49, 48, 49, 48, 48, 48, 50, 48, 52, 48, 49, 48, 49, 54, 49, 48, 48, 48, 51, 49, 49, 48, 52, 48, 52, 48, 49, 48, 48, 48, 48, 48, 49, 48, 50, 48, 48, 48, 48, 48, 52, 48, 51, 48, 48, 48, 49, 48, 48, 48, 48, 48, 48, 48, 48, 48, 48, 50, 97, 101, 48, 48, 49, 57, 51]⟩⟩)])]
theorem Tryz.fT0_ok : ∀ x ∈ Tryz.fT0, ∀ y ∈ x.2, Good Tryz.prog x.1 y.1 y.2 := by
  intro x hx y hy
  unfold Tryz.fT0 at hx
  simp only [List.mem_cons, List.not_mem_nil, or_false] at hx
  rcases hx with rfl | rfl | rfl | rfl <;> simp only [List.mem_cons, List.not_mem_nil, or_false] at hy <;> subst hy
  · exact Tryz.ex
  · exact Tryz.ffP0
  · exact Tryz.ffT0
  · exact Tryz.fh0
def Tryz.fM0 : List MEnt := [⟨18, [.string ⟨⟨[87, 88, 80, 1, 1, 0, 2, 4, 1, 1, 97, 0, 3, 17, 4, 4, 1, 0, 0, 1, 2, 0, 0, 4, 3, 0, 1, 0, 0, 0, 0, 0, 42, 224, 1, 147]⟩⟩], .tuple #[.pointer (some ⟨315, 0, none⟩), .int .i64 0], Tryz.fBP0, 316⟩, ⟨18, [.string ⟨⟨[87, 88, 84, 4, 4, 3, 0, 97, 1, 5, 7, 2, 0, 1, 0, 1, 1, 1, 6, 3, 2, 0, 1, 0, 31, 229, 1, 143]⟩⟩], .tuple #[.pointer (some ⟨236, 0, none⟩), .int .i64 0], Tryz.fBT0, 237⟩]
theorem Tryz.fM0_ok : ∀ x ∈ Tryz.fM0, GoodM Tryz.prog 8 x.f x.args x.v x.B x.m := by
  intro x hx
  unfold Tryz.fM0 at hx
  simp only [List.mem_cons, List.not_mem_nil, or_false] at hx
  rcases hx with rfl | rfl
  · exact Tryz.fmP0
  · exact Tryz.fmT0
def Tryz.fGP0 : RGrp := ⟨315, Tryz.gB :: Tryz.fBP0, [(32, [([.pointer (some ⟨315, 0, none⟩), .int .u8 102, .string ⟨⟨[]⟩⟩], .string ⟨⟨[110, 111, 110, 101]⟩⟩), ([.pointer (some ⟨315, 0, none⟩), .int .u8 102, .string ⟨⟨[97]⟩⟩], .string ⟨⟨[48, 32, 49]⟩⟩), ([.pointer (some ⟨315, 0, none⟩), .int .u8 102, .string ⟨⟨[99, 99, 98, 100]⟩⟩], .string ⟨⟨[110, 111, 110, 101]⟩⟩), ([.pointer (some ⟨315, 0, none⟩), .int .u8 102, .string ⟨⟨[120, 121]⟩⟩], .string ⟨⟨[110, 111, 110, 101]⟩⟩), ([.pointer (some ⟨315, 0, none⟩), .int .u8 102, .string ⟨⟨[122, 49, 50]⟩⟩], .string ⟨⟨[110, 111, 110, 101]⟩⟩), ([.pointer (some ⟨315, 0, none⟩), .int .u8 102, .string ⟨⟨[97, 98]⟩⟩], .string ⟨⟨[48, 32, 49]⟩⟩), ([.pointer (some ⟨315, 0, none⟩), .int .u8 102, .string ⟨⟨[98, 97]⟩⟩], .string ⟨⟨[49, 32, 50]⟩⟩), ([.pointer (some ⟨315, 0, none⟩), .int .u8 99, .string ⟨⟨[]⟩⟩], .string ⟨⟨[110, 111]⟩⟩), ([.pointer (some ⟨315, 0, none⟩), .int .u8 99, .string ⟨⟨[97]⟩⟩], .string ⟨⟨[121, 101, 115]⟩⟩), ([.pointer (some ⟨315, 0, none⟩), .int .u8 99, .string ⟨⟨[99, 99, 98, 100]⟩⟩], .string ⟨⟨[110, 111]⟩⟩), ([.pointer (some ⟨315, 0, none⟩), .int .u8 99, .string ⟨⟨[120, 121]⟩⟩], .string ⟨⟨[110, 111]⟩⟩), ([.pointer (some ⟨315, 0, none⟩), .int .u8 99, .string ⟨⟨[122, 49, 50]⟩⟩], .string ⟨⟨[110, 111]⟩⟩), ([.pointer (some ⟨315, 0, none⟩), .int .u8 99, .string ⟨⟨[97, 98]⟩⟩], .string ⟨⟨[121, 101, 115]⟩⟩), ([.pointer (some ⟨315, 0, none⟩), .int .u8 99, .string ⟨⟨[98, 97]⟩⟩], .string ⟨⟨[121, 101, 115]⟩⟩), ([.pointer (some ⟨315, 0, none⟩), .int .u8 118, .string ⟨⟨[]⟩⟩], .string ⟨⟨[121, 101, 115]⟩⟩), ([.pointer (some ⟨315, 0, none⟩), .int .u8 118, .string ⟨⟨[97]⟩⟩], .string ⟨⟨[121, 101, 115]⟩⟩), ([.pointer (some ⟨315, 0, none⟩), .int .u8 118, .string ⟨⟨[99, 99, 98, 100]⟩⟩], .string ⟨⟨[121, 101, 115]⟩⟩), ([.pointer (some ⟨315, 0, none⟩), .int .u8 118, .string ⟨⟨[120, 121]⟩⟩], .string ⟨⟨[121, 101, 115]⟩⟩), ([.pointer (some ⟨315, 0, none⟩), .int .u8 118, .string ⟨⟨[122, 49, 50]⟩⟩], .string ⟨⟨[121, 101, 115]⟩⟩), ([.pointer (some ⟨315, 0, none⟩), .int .u8 118, .string ⟨⟨[97, 98]⟩⟩], .string ⟨⟨[121, 101, 115]⟩⟩), ([.pointer (some ⟨315, 0, none⟩), .int .u8 118, .string ⟨⟨[98, 97]⟩⟩], .string ⟨⟨[121, 101, 115]⟩⟩)]), (20, [([.pointer (some ⟨315, 0, none⟩)], .string ⟨⟨[87, 88, 80, 1, 1, 0, 2, 4, 1, 1, 97, 0, 3, 17, 4, 4, 1, 0, 0, 1, 2, 0, 0, 4, 3, 0, 1, 0, 0, 0, 0, 0, 42, 224, 1, 147]⟩⟩)])]⟩
theorem Tryz.fGP0_ok : ∀ x ∈ Tryz.fGP0.es, ∀ y ∈ x.2, GoodR Tryz.prog 8 x.1 y.1 Tryz.fGP0.B y.2 := by
  intro x hx y hy
  unfold Tryz.fGP0 at hx
  simp only [List.mem_cons, List.not_mem_nil, or_false] at hx
  rcases hx with rfl | rfl
  · simp only [List.mem_cons, List.not_mem_nil, or_false] at hy
    rcases hy with rfl | rfl | rfl | rfl | rfl | rfl | rfl | rfl | rfl | rfl | rfl | rfl | rfl | rfl | rfl | rfl | rfl | rfl | rfl | rfl | rfl
    · exact Tryz.frP0_0
    · exact Tryz.frP0_1
    · exact Tryz.frP0_2
    · exact Tryz.frP0_3
    · exact Tryz.frP0_4
    · exact Tryz.frP0_5
    · exact Tryz.frP0_6
    · exact Tryz.frP0_7
    · exact Tryz.frP0_8
    · exact Tryz.frP0_9
    · exact Tryz.frP0_10
    · exact Tryz.frP0_11
    · exact Tryz.frP0_12
    · exact Tryz.frP0_13
    · exact Tryz.frP0_14
    · exact Tryz.frP0_15
    · exact Tryz.frP0_16
    · exact Tryz.frP0_17
    · exact Tryz.frP0_18
    · exact Tryz.frP0_19
    · exact Tryz.frP0_20
  · simp only [List.mem_cons, List.not_mem_nil, or_false] at hy
    subst hy
    exact Tryz.fb0
def Tryz.fGT0 : RGrp := ⟨236, Tryz.gB :: Tryz.fBT0, [(32, [([.pointer (some ⟨236, 0, none⟩), .int .u8 99, .string ⟨⟨[]⟩⟩], .string ⟨⟨[110, 111]⟩⟩), ([.pointer (some ⟨236, 0, none⟩), .int .u8 99, .string ⟨⟨[97]⟩⟩], .string ⟨⟨[121, 101, 115]⟩⟩), ([.pointer (some ⟨236, 0, none⟩), .int .u8 99, .string ⟨⟨[99, 99, 98, 100]⟩⟩], .string ⟨⟨[110, 111]⟩⟩), ([.pointer (some ⟨236, 0, none⟩), .int .u8 99, .string ⟨⟨[120, 121]⟩⟩], .string ⟨⟨[110, 111]⟩⟩), ([.pointer (some ⟨236, 0, none⟩), .int .u8 99, .string ⟨⟨[122, 49, 50]⟩⟩], .string ⟨⟨[110, 111]⟩⟩), ([.pointer (some ⟨236, 0, none⟩), .int .u8 99, .string ⟨⟨[97, 98]⟩⟩], .string ⟨⟨[121, 101, 115]⟩⟩), ([.pointer (some ⟨236, 0, none⟩), .int .u8 99, .string ⟨⟨[98, 97]⟩⟩], .string ⟨⟨[121, 101, 115]⟩⟩), ([.pointer (some ⟨236, 0, none⟩), .int .u8 118, .string ⟨⟨[]⟩⟩], .string ⟨⟨[121, 101, 115]⟩⟩), ([.pointer (some ⟨236, 0, none⟩), .int .u8 118, .string ⟨⟨[97]⟩⟩], .string ⟨⟨[121, 101, 115]⟩⟩), ([.pointer (some ⟨236, 0, none⟩), .int .u8 118, .string ⟨⟨[99, 99, 98, 100]⟩⟩], .string ⟨⟨[121, 101, 115]⟩⟩), ([.pointer (some ⟨236, 0, none⟩), .int .u8 118, .string ⟨⟨[120, 121]⟩⟩], .string ⟨⟨[121, 101, 115]⟩⟩), ([.pointer (some ⟨236, 0, none⟩), .int .u8 118, .string ⟨⟨[122, 49, 50]⟩⟩], .string ⟨⟨[121, 101, 115]⟩⟩), ([.pointer (some ⟨236, 0, none⟩), .int .u8 118, .string ⟨⟨[97, 98]⟩⟩], .string ⟨⟨[121, 101, 115]⟩⟩), ([.pointer (some ⟨236, 0, none⟩), .int .u8 118, .string ⟨⟨[98, 97]⟩⟩], .string ⟨⟨[121, 101, 115]⟩⟩)])]⟩
theorem Tryz.fGT0_ok : ∀ x ∈ Tryz.fGT0.es, ∀ y ∈ x.2, GoodR Tryz.prog 8 x.1 y.1 Tryz.fGT0.B y.2 := by
  intro x hx y hy
  unfold Tryz.fGT0 at hx
  simp only [List.mem_cons, List.not_mem_nil, or_false] at hx
  subst hx
  simp only [List.mem_cons, List.not_mem_nil, or_false] at hy
  rcases hy with rfl | rfl | rfl | rfl | rfl | rfl | rfl | rfl | rfl | rfl | rfl | rfl | rfl | rfl
  · exact Tryz.frT0_0
  · exact Tryz.frT0_1
  · exact Tryz.frT0_2
  · exact Tryz.frT0_3
  · exact Tryz.frT0_4
  · exact Tryz.frT0_5
  · exact Tryz.frT0_6
  · exact Tryz.frT0_7
  · exact Tryz.frT0_8
  · exact Tryz.frT0_9
  · exact Tryz.frT0_10
  · exact Tryz.frT0_11
  · exact Tryz.frT0_12
  · exact Tryz.frT0_13
def Tryz.fE0 : Env := mkEnvO Tryz.prog 8 Tryz.look Tryz.X 5 (orcG 8 Tryz.fT0 Tryz.fM0 [Tryz.fGP0, Tryz.fGT0])
theorem Tryz.fE0_ok : Tryz.fE0.Ok := mkEnvO_ok Tryz.mixed Tryz.len Tryz.names Tryz.extOk (orcG_ok Tryz.fT0_ok Tryz.fM0_ok fun g hg => by
  simp only [List.mem_cons, List.not_mem_nil, or_false] at hg
  rcases hg with rfl | rfl
  · exact Tryz.fGP0_ok
  · exact Tryz.fGT0_ok)
def Tryz.fT1 : Tbl := [(8, [([], .bool true)]), (12, [([.string ⟨⟨[40, 98, 124, 99, 41, 42, 100]⟩⟩], .agg #[.string ⟨⟨[87, 88, 80, 1, 1, 1, 2, 10, 3, 1, 98, 0, 1, 99, 0, 1, 100, 0, 3, 49, 12, 4, 1, 0, 0, 2, 2, 9, 0, 4, 3, 0, 2, 2, 4, 6, 0, 1, 5, 0, 0, 3, 7, 0, 0, 1, 7, 0, 1, 4, 8, 0, 3, 3, 1, 0, 0, 1, 10, 0, 2, 4, 11, 0, 1, 0, 0, 0, 0, 0, 0, 0, 170, 82, 2, 238]⟩⟩, .int .i64 7, .int .i64 0, .int .i64 1])]), (30, [([.string ⟨⟨[40, 98, 124, 99, 41, 42, 100]⟩⟩], .agg #[.string ⟨⟨[87, 88, 84, 4, 6, 5, 0, 98, 1, 1, 1, 5, 11, 2, 0, 0, 0, 1, 0, 1, 1, 1, 1, 1, 6, 3, 2, 0, 1, 0, 0, 0, 45, 0, 1, 156]⟩⟩, .int .i64 7, .int .i64 0, .int .i64 0])]), (9, [([.string ⟨⟨[87, 88, 80, 1, 1, 1, 2, 10, 3, 1, 98, 0, 1, 99, 0, 1, 100, 0, 3, 49, 12, 4, 1, 0, 0, 2, 2, 9, 0, 4, 3, 0, 2, 2, 4, 6, 0, 1, 5, 0, 0, 3, 7, 0, 0, 1, 7, 0, 1, 4, 8, 0, 3, 3, 1, 0, 0, 1, 10, 0, 2, 4, 11, 0, 1, 0, 0, 0, 0, 0, 0, 0, 170, 82, 2, 238]⟩⟩], .string ⟨⟨[53, 55, 53, 56, 53, 48, 48, 49, 48, 49, 48, 49, 48, 50, 48, 97, 48, 51, 48, 49, 54, 50, 48, 48, 48, 49, 54, 51, 48, 48, 48, 49, 54, 52, 48, 48, 48, 51, 51, 49, 48, 99, 48, 52, 48, 49, 48, 48, 48, 48, 48, 50, 48, 50, 48, 57, 48, 48, 48, 52, 48, 51, 48, 48, 48, 50, 48, 50, 48, 52, 48, 54, 48, 48, 48, 49, 48, 53, 48, 48, 48, 48, 48, 51, 48, 55, 48, 48, 48, 48, 48, 49, 48, 55, 48, 48, 48, 49, 48, 52, 48, 56, 48, 48, 48, 51, 48, 51, 48, 49, 48, 48, 48, 48, 48, 49, 48, 97, 48, 48, 48, 50, 48, 52, 48, 98, 48, 48, 48, 49, 48, 48, 48, 48, 48, 48, 48, 48, 48, 48, 48, 48, 48, 48, 97, 97, 53, 50, 48, 50, 101, 101]⟩⟩)])]
theorem Tryz.fT1_ok : ∀ x ∈ Tryz.fT1, ∀ y ∈ x.2, Good Tryz.prog x.1 y.1 y.2 := by
  intro x hx y hy
  unfold Tryz.fT1 at hx
  simp only [List.mem_cons, List.not_mem_nil, or_false] at hx
  rcases hx with rfl | rfl | rfl | rfl <;> simp only [List.mem_cons, List.not_mem_nil, or_false] at hy <;> subst hy
  · exact Tryz.ex
  · exact Tryz.ffP1
  · exact Tryz.ffT1
  · exact Tryz.fh1
def Tryz.fM1 : List MEnt := [⟨18, [.string ⟨⟨[87, 88, 80, 1, 1, 1, 2, 10, 3, 1, 98, 0, 1, 99, 0, 1, 100, 0, 3, 49, 12, 4, 1, 0, 0, 2, 2, 9, 0, 4, 3, 0, 2, 2, 4, 6, 0, 1, 5, 0, 0, 3, 7, 0, 0, 1, 7, 0, 1, 4, 8, 0, 3, 3, 1, 0, 0, 1, 10, 0, 2, 4, 11, 0, 1, 0, 0, 0, 0, 0, 0, 0, 170, 82, 2, 238]⟩⟩], .tuple #[.pointer (some ⟨715, 0, none⟩), .int .i64 0], Tryz.fBP1, 716⟩, ⟨18, [.string ⟨⟨[87, 88, 84, 4, 6, 5, 0, 98, 1, 1, 1, 5, 11, 2, 0, 0, 0, 1, 0, 1, 1, 1, 1, 1, 6, 3, 2, 0, 1, 0, 0, 0, 45, 0, 1, 156]⟩⟩], .tuple #[.pointer (some ⟨296, 0, none⟩), .int .i64 0], Tryz.fBT1, 297⟩]
theorem Tryz.fM1_ok : ∀ x ∈ Tryz.fM1, GoodM Tryz.prog 8 x.f x.args x.v x.B x.m := by
  intro x hx
  unfold Tryz.fM1 at hx
  simp only [List.mem_cons, List.not_mem_nil, or_false] at hx
  rcases hx with rfl | rfl
  · exact Tryz.fmP1
  · exact Tryz.fmT1
def Tryz.fGP1 : RGrp := ⟨715, Tryz.gB :: Tryz.fBP1, [(32, [([.pointer (some ⟨715, 0, none⟩), .int .u8 102, .string ⟨⟨[]⟩⟩], .string ⟨⟨[110, 111, 110, 101]⟩⟩), ([.pointer (some ⟨715, 0, none⟩), .int .u8 102, .string ⟨⟨[97]⟩⟩], .string ⟨⟨[110, 111, 110, 101]⟩⟩), ([.pointer (some ⟨715, 0, none⟩), .int .u8 102, .string ⟨⟨[99, 99, 98, 100]⟩⟩], .string ⟨⟨[48, 32, 52, 32, 50, 32, 51]⟩⟩), ([.pointer (some ⟨715, 0, none⟩), .int .u8 102, .string ⟨⟨[120, 121]⟩⟩], .string ⟨⟨[110, 111, 110, 101]⟩⟩), ([.pointer (some ⟨715, 0, none⟩), .int .u8 102, .string ⟨⟨[122, 49, 50]⟩⟩], .string ⟨⟨[110, 111, 110, 101]⟩⟩), ([.pointer (some ⟨715, 0, none⟩), .int .u8 102, .string ⟨⟨[97, 98]⟩⟩], .string ⟨⟨[110, 111, 110, 101]⟩⟩), ([.pointer (some ⟨715, 0, none⟩), .int .u8 102, .string ⟨⟨[98, 97]⟩⟩], .string ⟨⟨[110, 111, 110, 101]⟩⟩), ([.pointer (some ⟨715, 0, none⟩), .int .u8 99, .string ⟨⟨[]⟩⟩], .string ⟨⟨[110, 111]⟩⟩), ([.pointer (some ⟨715, 0, none⟩), .int .u8 99, .string ⟨⟨[97]⟩⟩], .string ⟨⟨[110, 111]⟩⟩), ([.pointer (some ⟨715, 0, none⟩), .int .u8 99, .string ⟨⟨[99, 99, 98, 100]⟩⟩], .string ⟨⟨[121, 101, 115]⟩⟩), ([.pointer (some ⟨715, 0, none⟩), .int .u8 99, .string ⟨⟨[120, 121]⟩⟩], .string ⟨⟨[110, 111]⟩⟩), ([.pointer (some ⟨715, 0, none⟩), .int .u8 99, .string ⟨⟨[122, 49, 50]⟩⟩], .string ⟨⟨[110, 111]⟩⟩), ([.pointer (some ⟨715, 0, none⟩), .int .u8 99, .string ⟨⟨[97, 98]⟩⟩], .string ⟨⟨[110, 111]⟩⟩), ([.pointer (some ⟨715, 0, none⟩), .int .u8 99, .string ⟨⟨[98, 97]⟩⟩], .string ⟨⟨[110, 111]⟩⟩), ([.pointer (some ⟨715, 0, none⟩), .int .u8 118, .string ⟨⟨[]⟩⟩], .string ⟨⟨[121, 101, 115]⟩⟩), ([.pointer (some ⟨715, 0, none⟩), .int .u8 118, .string ⟨⟨[97]⟩⟩], .string ⟨⟨[121, 101, 115]⟩⟩), ([.pointer (some ⟨715, 0, none⟩), .int .u8 118, .string ⟨⟨[99, 99, 98, 100]⟩⟩], .string ⟨⟨[121, 101, 115]⟩⟩), ([.pointer (some ⟨715, 0, none⟩), .int .u8 118, .string ⟨⟨[120, 121]⟩⟩], .string ⟨⟨[121, 101, 115]⟩⟩), ([.pointer (some ⟨715, 0, none⟩), .int .u8 118, .string ⟨⟨[122, 49, 50]⟩⟩], .string ⟨⟨[121, 101, 115]⟩⟩), ([.pointer (some ⟨715, 0, none⟩), .int .u8 118, .string ⟨⟨[97, 98]⟩⟩], .string ⟨⟨[121, 101, 115]⟩⟩), ([.pointer (some ⟨715, 0, none⟩), .int .u8 118, .string ⟨⟨[98, 97]⟩⟩], .string ⟨⟨[121, 101, 115]⟩⟩)]), (20, [([.pointer (some ⟨715, 0, none⟩)], .string ⟨⟨[87, 88, 80, 1, 1, 1, 2, 10, 3, 1, 98, 0, 1, 99, 0, 1, 100, 0, 3, 49, 12, 4, 1, 0, 0, 2, 2, 9, 0, 4, 3, 0, 2, 2, 4, 6, 0, 1, 5, 0, 0, 3, 7, 0, 0, 1, 7, 0, 1, 4, 8, 0, 3, 3, 1, 0, 0, 1, 10, 0, 2, 4, 11, 0, 1, 0, 0, 0, 0, 0, 0, 0, 170, 82, 2, 238]⟩⟩)])]⟩
theorem Tryz.fGP1_ok : ∀ x ∈ Tryz.fGP1.es, ∀ y ∈ x.2, GoodR Tryz.prog 8 x.1 y.1 Tryz.fGP1.B y.2 := by
  intro x hx y hy
  unfold Tryz.fGP1 at hx
  simp only [List.mem_cons, List.not_mem_nil, or_false] at hx
  rcases hx with rfl | rfl
  · simp only [List.mem_cons, List.not_mem_nil, or_false] at hy
    rcases hy with rfl | rfl | rfl | rfl | rfl | rfl | rfl | rfl | rfl | rfl | rfl | rfl | rfl | rfl | rfl | rfl | rfl | rfl | rfl | rfl | rfl
    · exact Tryz.frP1_0
    · exact Tryz.frP1_1
    · exact Tryz.frP1_2
    · exact Tryz.frP1_3
    · exact Tryz.frP1_4
    · exact Tryz.frP1_5
    · exact Tryz.frP1_6
    · exact Tryz.frP1_7
    · exact Tryz.frP1_8
    · exact Tryz.frP1_9
    · exact Tryz.frP1_10
    · exact Tryz.frP1_11
    · exact Tryz.frP1_12
    · exact Tryz.frP1_13
    · exact Tryz.frP1_14
    · exact Tryz.frP1_15
    · exact Tryz.frP1_16
    · exact Tryz.frP1_17
    · exact Tryz.frP1_18
    · exact Tryz.frP1_19
    · exact Tryz.frP1_20
  · simp only [List.mem_cons, List.not_mem_nil, or_false] at hy
    subst hy
    exact Tryz.fb1
def Tryz.fGT1 : RGrp := ⟨296, Tryz.gB :: Tryz.fBT1, [(32, [([.pointer (some ⟨296, 0, none⟩), .int .u8 99, .string ⟨⟨[]⟩⟩], .string ⟨⟨[110, 111]⟩⟩), ([.pointer (some ⟨296, 0, none⟩), .int .u8 99, .string ⟨⟨[97]⟩⟩], .string ⟨⟨[110, 111]⟩⟩), ([.pointer (some ⟨296, 0, none⟩), .int .u8 99, .string ⟨⟨[99, 99, 98, 100]⟩⟩], .string ⟨⟨[121, 101, 115]⟩⟩), ([.pointer (some ⟨296, 0, none⟩), .int .u8 99, .string ⟨⟨[120, 121]⟩⟩], .string ⟨⟨[110, 111]⟩⟩), ([.pointer (some ⟨296, 0, none⟩), .int .u8 99, .string ⟨⟨[122, 49, 50]⟩⟩], .string ⟨⟨[110, 111]⟩⟩), ([.pointer (some ⟨296, 0, none⟩), .int .u8 99, .string ⟨⟨[97, 98]⟩⟩], .string ⟨⟨[110, 111]⟩⟩), ([.pointer (some ⟨296, 0, none⟩), .int .u8 99, .string ⟨⟨[98, 97]⟩⟩], .string ⟨⟨[110, 111]⟩⟩), ([.pointer (some ⟨296, 0, none⟩), .int .u8 118, .string ⟨⟨[]⟩⟩], .string ⟨⟨[121, 101, 115]⟩⟩), ([.pointer (some ⟨296, 0, none⟩), .int .u8 118, .string ⟨⟨[97]⟩⟩], .string ⟨⟨[121, 101, 115]⟩⟩), ([.pointer (some ⟨296, 0, none⟩), .int .u8 118, .string ⟨⟨[99, 99, 98, 100]⟩⟩], .string ⟨⟨[121, 101, 115]⟩⟩), ([.pointer (some ⟨296, 0, none⟩), .int .u8 118, .string ⟨⟨[120, 121]⟩⟩], .string ⟨⟨[121, 101, 115]⟩⟩), ([.pointer (some ⟨296, 0, none⟩), .int .u8 118, .string ⟨⟨[122, 49, 50]⟩⟩], .string ⟨⟨[121, 101, 115]⟩⟩), ([.pointer (some ⟨296, 0, none⟩), .int .u8 118, .string ⟨⟨[97, 98]⟩⟩], .string ⟨⟨[121, 101, 115]⟩⟩), ([.pointer (some ⟨296, 0, none⟩), .int .u8 118, .string ⟨⟨[98, 97]⟩⟩], .string ⟨⟨[121, 101, 115]⟩⟩)])]⟩
theorem Tryz.fGT1_ok : ∀ x ∈ Tryz.fGT1.es, ∀ y ∈ x.2, GoodR Tryz.prog 8 x.1 y.1 Tryz.fGT1.B y.2 := by
  intro x hx y hy
  unfold Tryz.fGT1 at hx
  simp only [List.mem_cons, List.not_mem_nil, or_false] at hx
  subst hx
  simp only [List.mem_cons, List.not_mem_nil, or_false] at hy
  rcases hy with rfl | rfl | rfl | rfl | rfl | rfl | rfl | rfl | rfl | rfl | rfl | rfl | rfl | rfl
  · exact Tryz.frT1_0
  · exact Tryz.frT1_1
  · exact Tryz.frT1_2
  · exact Tryz.frT1_3
  · exact Tryz.frT1_4
  · exact Tryz.frT1_5
  · exact Tryz.frT1_6
  · exact Tryz.frT1_7
  · exact Tryz.frT1_8
  · exact Tryz.frT1_9
  · exact Tryz.frT1_10
  · exact Tryz.frT1_11
  · exact Tryz.frT1_12
  · exact Tryz.frT1_13
def Tryz.fE1 : Env := mkEnvO Tryz.prog 8 Tryz.look Tryz.X 5 (orcG 8 Tryz.fT1 Tryz.fM1 [Tryz.fGP1, Tryz.fGT1])
theorem Tryz.fE1_ok : Tryz.fE1.Ok := mkEnvO_ok Tryz.mixed Tryz.len Tryz.names Tryz.extOk (orcG_ok Tryz.fT1_ok Tryz.fM1_ok fun g hg => by
  simp only [List.mem_cons, List.not_mem_nil, or_false] at hg
  rcases hg with rfl | rfl
  · exact Tryz.fGP1_ok
  · exact Tryz.fGT1_ok)
def Tryz.fT2 : Tbl := [(8, [([], .bool true)]), (12, [([.string ⟨⟨[120, 63, 121]⟩⟩], .agg #[.string ⟨⟨[87, 88, 80, 1, 1, 0, 2, 7, 2, 1, 120, 0, 1, 121, 0, 3, 25, 6, 4, 1, 0, 0, 2, 2, 3, 0, 1, 3, 0, 0, 1, 4, 0, 1, 4, 5, 0, 1, 0, 0, 0, 0, 0, 0, 81, 128, 2, 66]⟩⟩, .int .i64 3, .int .i64 0, .int .i64 0])]), (30, [([.string ⟨⟨[120, 63, 121]⟩⟩], .agg #[.string ⟨⟨[87, 88, 84, 4, 5, 4, 0, 120, 1, 1, 5, 9, 2, 0, 0, 1, 0, 1, 1, 1, 1, 6, 3, 2, 0, 1, 0, 0, 40, 54, 1, 172]⟩⟩, .int .i64 3, .int .i64 0, .int .i64 0])]), (9, [([.string ⟨⟨[87, 88, 80, 1, 1, 0, 2, 7, 2, 1, 120, 0, 1, 121, 0, 3, 25, 6, 4, 1, 0, 0, 2, 2, 3, 0, 1, 3, 0, 0, 1, 4, 0, 1, 4, 5, 0, 1, 0, 0, 0, 0, 0, 0, 81, 128, 2, 66]⟩⟩], .string ⟨⟨[53, 55, 53, 56, 53, 48, 48, 49, 48, 49, 48, 48, 48, 50, 48, 55, 48, 50, 48, 49, 55, 56, 48, 48, 48, 49, 55, 57, 48, 48, 48, 51, 49, 57, 48, 54, 48, 52, 48, 49, 48, 48, 48, 48, 48, 50, 48, 50, 48, 51, 48, 48, 48, 49, 48, 51, 48, 48, 48, 48, 48, 49, 48, 52, 48, 48, 48, 49, 48, 52, 48, 53, 48, 48, 48, 49, 48, 48, 48, 48, 48, 48, 48, 48, 48, 48, 48, 48, 53, 49, 56, 48, 48, 50, 52, 50]⟩⟩)])]
theorem Tryz.fT2_ok : ∀ x ∈ Tryz.fT2, ∀ y ∈ x.2, Good Tryz.prog x.1 y.1 y.2 := by
  intro x hx y hy
  unfold Tryz.fT2 at hx
  simp only [List.mem_cons, List.not_mem_nil, or_false] at hx
  rcases hx with rfl | rfl | rfl | rfl <;> simp only [List.mem_cons, List.not_mem_nil, or_false] at hy <;> subst hy
  · exact Tryz.ex
  · exact Tryz.ffP2
  · exact Tryz.ffT2
  · exact Tryz.fh2
def Tryz.fM2 : List MEnt := [⟨18, [.string ⟨⟨[87, 88, 80, 1, 1, 0, 2, 7, 2, 1, 120, 0, 1, 121, 0, 3, 25, 6, 4, 1, 0, 0, 2, 2, 3, 0, 1, 3, 0, 0, 1, 4, 0, 1, 4, 5, 0, 1, 0, 0, 0, 0, 0, 0, 81, 128, 2, 66]⟩⟩], .tuple #[.pointer (some ⟨430, 0, none⟩), .int .i64 0], Tryz.fBP2, 431⟩, ⟨18, [.string ⟨⟨[87, 88, 84, 4, 5, 4, 0, 120, 1, 1, 5, 9, 2, 0, 0, 1, 0, 1, 1, 1, 1, 6, 3, 2, 0, 1, 0, 0, 40, 54, 1, 172]⟩⟩], .tuple #[.pointer (some ⟨266, 0, none⟩), .int .i64 0], Tryz.fBT2, 267⟩]
theorem Tryz.fM2_ok : ∀ x ∈ Tryz.fM2, GoodM Tryz.prog 8 x.f x.args x.v x.B x.m := by
  intro x hx
  unfold Tryz.fM2 at hx
  simp only [List.mem_cons, List.not_mem_nil, or_false] at hx
  rcases hx with rfl | rfl
  · exact Tryz.fmP2
  · exact Tryz.fmT2
def Tryz.fGP2 : RGrp := ⟨430, Tryz.gB :: Tryz.fBP2, [(32, [([.pointer (some ⟨430, 0, none⟩), .int .u8 102, .string ⟨⟨[]⟩⟩], .string ⟨⟨[110, 111, 110, 101]⟩⟩), ([.pointer (some ⟨430, 0, none⟩), .int .u8 102, .string ⟨⟨[97]⟩⟩], .string ⟨⟨[110, 111, 110, 101]⟩⟩), ([.pointer (some ⟨430, 0, none⟩), .int .u8 102, .string ⟨⟨[99, 99, 98, 100]⟩⟩], .string ⟨⟨[110, 111, 110, 101]⟩⟩), ([.pointer (some ⟨430, 0, none⟩), .int .u8 102, .string ⟨⟨[120, 121]⟩⟩], .string ⟨⟨[48, 32, 50]⟩⟩), ([.pointer (some ⟨430, 0, none⟩), .int .u8 102, .string ⟨⟨[122, 49, 50]⟩⟩], .string ⟨⟨[110, 111, 110, 101]⟩⟩), ([.pointer (some ⟨430, 0, none⟩), .int .u8 102, .string ⟨⟨[97, 98]⟩⟩], .string ⟨⟨[110, 111, 110, 101]⟩⟩), ([.pointer (some ⟨430, 0, none⟩), .int .u8 102, .string ⟨⟨[98, 97]⟩⟩], .string ⟨⟨[110, 111, 110, 101]⟩⟩), ([.pointer (some ⟨430, 0, none⟩), .int .u8 99, .string ⟨⟨[]⟩⟩], .string ⟨⟨[110, 111]⟩⟩), ([.pointer (some ⟨430, 0, none⟩), .int .u8 99, .string ⟨⟨[97]⟩⟩], .string ⟨⟨[110, 111]⟩⟩), ([.pointer (some ⟨430, 0, none⟩), .int .u8 99, .string ⟨⟨[99, 99, 98, 100]⟩⟩], .string ⟨⟨[110, 111]⟩⟩), ([.pointer (some ⟨430, 0, none⟩), .int .u8 99, .string ⟨⟨[120, 121]⟩⟩], .string ⟨⟨[121, 101, 115]⟩⟩), ([.pointer (some ⟨430, 0, none⟩), .int .u8 99, .string ⟨⟨[122, 49, 50]⟩⟩], .string ⟨⟨[110, 111]⟩⟩), ([.pointer (some ⟨430, 0, none⟩), .int .u8 99, .string ⟨⟨[97, 98]⟩⟩], .string ⟨⟨[110, 111]⟩⟩), ([.pointer (some ⟨430, 0, none⟩), .int .u8 99, .string ⟨⟨[98, 97]⟩⟩], .string ⟨⟨[110, 111]⟩⟩), ([.pointer (some ⟨430, 0, none⟩), .int .u8 118, .string ⟨⟨[]⟩⟩], .string ⟨⟨[121, 101, 115]⟩⟩), ([.pointer (some ⟨430, 0, none⟩), .int .u8 118, .string ⟨⟨[97]⟩⟩], .string ⟨⟨[121, 101, 115]⟩⟩), ([.pointer (some ⟨430, 0, none⟩), .int .u8 118, .string ⟨⟨[99, 99, 98, 100]⟩⟩], .string ⟨⟨[121, 101, 115]⟩⟩), ([.pointer (some ⟨430, 0, none⟩), .int .u8 118, .string ⟨⟨[120, 121]⟩⟩], .string ⟨⟨[121, 101, 115]⟩⟩), ([.pointer (some ⟨430, 0, none⟩), .int .u8 118, .string ⟨⟨[122, 49, 50]⟩⟩], .string ⟨⟨[121, 101, 115]⟩⟩), ([.pointer (some ⟨430, 0, none⟩), .int .u8 118, .string ⟨⟨[97, 98]⟩⟩], .string ⟨⟨[121, 101, 115]⟩⟩), ([.pointer (some ⟨430, 0, none⟩), .int .u8 118, .string ⟨⟨[98, 97]⟩⟩], .string ⟨⟨[121, 101, 115]⟩⟩)]), (20, [([.pointer (some ⟨430, 0, none⟩)], .string ⟨⟨[87, 88, 80, 1, 1, 0, 2, 7, 2, 1, 120, 0, 1, 121, 0, 3, 25, 6, 4, 1, 0, 0, 2, 2, 3, 0, 1, 3, 0, 0, 1, 4, 0, 1, 4, 5, 0, 1, 0, 0, 0, 0, 0, 0, 81, 128, 2, 66]⟩⟩)])]⟩
theorem Tryz.fGP2_ok : ∀ x ∈ Tryz.fGP2.es, ∀ y ∈ x.2, GoodR Tryz.prog 8 x.1 y.1 Tryz.fGP2.B y.2 := by
  intro x hx y hy
  unfold Tryz.fGP2 at hx
  simp only [List.mem_cons, List.not_mem_nil, or_false] at hx
  rcases hx with rfl | rfl
  · simp only [List.mem_cons, List.not_mem_nil, or_false] at hy
    rcases hy with rfl | rfl | rfl | rfl | rfl | rfl | rfl | rfl | rfl | rfl | rfl | rfl | rfl | rfl | rfl | rfl | rfl | rfl | rfl | rfl | rfl
    · exact Tryz.frP2_0
    · exact Tryz.frP2_1
    · exact Tryz.frP2_2
    · exact Tryz.frP2_3
    · exact Tryz.frP2_4
    · exact Tryz.frP2_5
    · exact Tryz.frP2_6
    · exact Tryz.frP2_7
    · exact Tryz.frP2_8
    · exact Tryz.frP2_9
    · exact Tryz.frP2_10
    · exact Tryz.frP2_11
    · exact Tryz.frP2_12
    · exact Tryz.frP2_13
    · exact Tryz.frP2_14
    · exact Tryz.frP2_15
    · exact Tryz.frP2_16
    · exact Tryz.frP2_17
    · exact Tryz.frP2_18
    · exact Tryz.frP2_19
    · exact Tryz.frP2_20
  · simp only [List.mem_cons, List.not_mem_nil, or_false] at hy
    subst hy
    exact Tryz.fb2
def Tryz.fGT2 : RGrp := ⟨266, Tryz.gB :: Tryz.fBT2, [(32, [([.pointer (some ⟨266, 0, none⟩), .int .u8 99, .string ⟨⟨[]⟩⟩], .string ⟨⟨[110, 111]⟩⟩), ([.pointer (some ⟨266, 0, none⟩), .int .u8 99, .string ⟨⟨[97]⟩⟩], .string ⟨⟨[110, 111]⟩⟩), ([.pointer (some ⟨266, 0, none⟩), .int .u8 99, .string ⟨⟨[99, 99, 98, 100]⟩⟩], .string ⟨⟨[110, 111]⟩⟩), ([.pointer (some ⟨266, 0, none⟩), .int .u8 99, .string ⟨⟨[120, 121]⟩⟩], .string ⟨⟨[121, 101, 115]⟩⟩), ([.pointer (some ⟨266, 0, none⟩), .int .u8 99, .string ⟨⟨[122, 49, 50]⟩⟩], .string ⟨⟨[110, 111]⟩⟩), ([.pointer (some ⟨266, 0, none⟩), .int .u8 99, .string ⟨⟨[97, 98]⟩⟩], .string ⟨⟨[110, 111]⟩⟩), ([.pointer (some ⟨266, 0, none⟩), .int .u8 99, .string ⟨⟨[98, 97]⟩⟩], .string ⟨⟨[110, 111]⟩⟩), ([.pointer (some ⟨266, 0, none⟩), .int .u8 118, .string ⟨⟨[]⟩⟩], .string ⟨⟨[121, 101, 115]⟩⟩), ([.pointer (some ⟨266, 0, none⟩), .int .u8 118, .string ⟨⟨[97]⟩⟩], .string ⟨⟨[121, 101, 115]⟩⟩), ([.pointer (some ⟨266, 0, none⟩), .int .u8 118, .string ⟨⟨[99, 99, 98, 100]⟩⟩], .string ⟨⟨[121, 101, 115]⟩⟩), ([.pointer (some ⟨266, 0, none⟩), .int .u8 118, .string ⟨⟨[120, 121]⟩⟩], .string ⟨⟨[121, 101, 115]⟩⟩), ([.pointer (some ⟨266, 0, none⟩), .int .u8 118, .string ⟨⟨[122, 49, 50]⟩⟩], .string ⟨⟨[121, 101, 115]⟩⟩), ([.pointer (some ⟨266, 0, none⟩), .int .u8 118, .string ⟨⟨[97, 98]⟩⟩], .string ⟨⟨[121, 101, 115]⟩⟩), ([.pointer (some ⟨266, 0, none⟩), .int .u8 118, .string ⟨⟨[98, 97]⟩⟩], .string ⟨⟨[121, 101, 115]⟩⟩)])]⟩
theorem Tryz.fGT2_ok : ∀ x ∈ Tryz.fGT2.es, ∀ y ∈ x.2, GoodR Tryz.prog 8 x.1 y.1 Tryz.fGT2.B y.2 := by
  intro x hx y hy
  unfold Tryz.fGT2 at hx
  simp only [List.mem_cons, List.not_mem_nil, or_false] at hx
  subst hx
  simp only [List.mem_cons, List.not_mem_nil, or_false] at hy
  rcases hy with rfl | rfl | rfl | rfl | rfl | rfl | rfl | rfl | rfl | rfl | rfl | rfl | rfl | rfl
  · exact Tryz.frT2_0
  · exact Tryz.frT2_1
  · exact Tryz.frT2_2
  · exact Tryz.frT2_3
  · exact Tryz.frT2_4
  · exact Tryz.frT2_5
  · exact Tryz.frT2_6
  · exact Tryz.frT2_7
  · exact Tryz.frT2_8
  · exact Tryz.frT2_9
  · exact Tryz.frT2_10
  · exact Tryz.frT2_11
  · exact Tryz.frT2_12
  · exact Tryz.frT2_13
def Tryz.fE2 : Env := mkEnvO Tryz.prog 8 Tryz.look Tryz.X 5 (orcG 8 Tryz.fT2 Tryz.fM2 [Tryz.fGP2, Tryz.fGT2])
theorem Tryz.fE2_ok : Tryz.fE2.Ok := mkEnvO_ok Tryz.mixed Tryz.len Tryz.names Tryz.extOk (orcG_ok Tryz.fT2_ok Tryz.fM2_ok fun g hg => by
  simp only [List.mem_cons, List.not_mem_nil, or_false] at hg
  rcases hg with rfl | rfl
  · exact Tryz.fGP2_ok
  · exact Tryz.fGT2_ok)
def Tryz.fT3 : Tbl := [(8, [([], .bool true)]), (12, [([.string ⟨⟨[92, 100, 43]⟩⟩], .agg #[.string ⟨⟨[87, 88, 80, 1, 1, 0, 2, 4, 1, 1, 48, 9, 3, 21, 5, 4, 1, 0, 0, 1, 2, 0, 0, 2, 1, 3, 0, 4, 4, 0, 1, 0, 0, 0, 0, 0, 45, 180, 1, 119]⟩⟩, .int .i64 3, .int .i64 0, .int .i64 0])]), (30, [([.string ⟨⟨[92, 100, 43]⟩⟩], .agg #[.string ⟨⟨[87, 88, 84, 4, 4, 3, 0, 48, 10, 5, 7, 2, 0, 1, 0, 1, 1, 1, 6, 3, 2, 0, 1, 0, 29, 52, 1, 103]⟩⟩, .int .i64 3, .int .i64 0, .int .i64 0])]), (9, [([.string ⟨⟨[87, 88, 80, 1, 1, 0, 2, 4, 1, 1, 48, 9, 3, 21, 5, 4, 1, 0, 0, 1, 2, 0, 0, 2, 1, 3, 0, 4, 4, 0, 1, 0, 0, 0, 0, 0, 45, 180, 1, 119]⟩⟩], .string ⟨⟨[53, 55, 53, 56, 53, 48, 48, 49, 48, 49, 48, 48, 48, 50, 48, 52, 48, 49, 48, 49, 51, 48, 48, 57, 48, 51, 49, 53, 48, 53, 48, 52, 48, 49, 48, 48, 48, 48, 48, 49, 48, 50, 48, 48, 48, 48, 48, 50, 48, 49, 48, 51, 48, 48, 48, 52, 48, 52, 48, 48, 48, 49, 48, 48, 48, 48, 48, 48, 48, 48, 48, 48, 50, 100, 98, 52, 48, 49, 55, 55]⟩⟩)])]
theorem Tryz.fT3_ok : ∀ x ∈ Tryz.fT3, ∀ y ∈ x.2, Good Tryz.prog x.1 y.1 y.2 := by
  intro x hx y hy
  unfold Tryz.fT3 at hx
  simp only [List.mem_cons, List.not_mem_nil, or_false] at hx
  rcases hx with rfl | rfl | rfl | rfl <;> simp only [List.mem_cons, List.not_mem_nil, or_false] at hy <;> subst hy
  · exact Tryz.ex
  · exact Tryz.ffP3
  · exact Tryz.ffT3
  · exact Tryz.fh3
def Tryz.fM3 : List MEnt := [⟨18, [.string ⟨⟨[87, 88, 80, 1, 1, 0, 2, 4, 1, 1, 48, 9, 3, 21, 5, 4, 1, 0, 0, 1, 2, 0, 0, 2, 1, 3, 0, 4, 4, 0, 1, 0, 0, 0, 0, 0, 45, 180, 1, 119]⟩⟩], .tuple #[.pointer (some ⟨356, 0, none⟩), .int .i64 0], Tryz.fBP3, 357⟩, ⟨18, [.string ⟨⟨[87, 88, 84, 4, 4, 3, 0, 48, 10, 5, 7, 2, 0, 1, 0, 1, 1, 1, 6, 3, 2, 0, 1, 0, 29, 52, 1, 103]⟩⟩], .tuple #[.pointer (some ⟨236, 0, none⟩), .int .i64 0], Tryz.fBT3, 237⟩]
theorem Tryz.fM3_ok : ∀ x ∈ Tryz.fM3, GoodM Tryz.prog 8 x.f x.args x.v x.B x.m := by
  intro x hx
  unfold Tryz.fM3 at hx
  simp only [List.mem_cons, List.not_mem_nil, or_false] at hx
  rcases hx with rfl | rfl
  · exact Tryz.fmP3
  · exact Tryz.fmT3
def Tryz.fGP3 : RGrp := ⟨356, Tryz.gB :: Tryz.fBP3, [(32, [([.pointer (some ⟨356, 0, none⟩), .int .u8 102, .string ⟨⟨[]⟩⟩], .string ⟨⟨[110, 111, 110, 101]⟩⟩), ([.pointer (some ⟨356, 0, none⟩), .int .u8 102, .string ⟨⟨[97]⟩⟩], .string ⟨⟨[110, 111, 110, 101]⟩⟩), ([.pointer (some ⟨356, 0, none⟩), .int .u8 102, .string ⟨⟨[99, 99, 98, 100]⟩⟩], .string ⟨⟨[110, 111, 110, 101]⟩⟩), ([.pointer (some ⟨356, 0, none⟩), .int .u8 102, .string ⟨⟨[120, 121]⟩⟩], .string ⟨⟨[110, 111, 110, 101]⟩⟩), ([.pointer (some ⟨356, 0, none⟩), .int .u8 102, .string ⟨⟨[122, 49, 50]⟩⟩], .string ⟨⟨[49, 32, 51]⟩⟩), ([.pointer (some ⟨356, 0, none⟩), .int .u8 102, .string ⟨⟨[97, 98]⟩⟩], .string ⟨⟨[110, 111, 110, 101]⟩⟩), ([.pointer (some ⟨356, 0, none⟩), .int .u8 102, .string ⟨⟨[98, 97]⟩⟩], .string ⟨⟨[110, 111, 110, 101]⟩⟩), ([.pointer (some ⟨356, 0, none⟩), .int .u8 99, .string ⟨⟨[]⟩⟩], .string ⟨⟨[110, 111]⟩⟩), ([.pointer (some ⟨356, 0, none⟩), .int .u8 99, .string ⟨⟨[97]⟩⟩], .string ⟨⟨[110, 111]⟩⟩), ([.pointer (some ⟨356, 0, none⟩), .int .u8 99, .string ⟨⟨[99, 99, 98, 100]⟩⟩], .string ⟨⟨[110, 111]⟩⟩), ([.pointer (some ⟨356, 0, none⟩), .int .u8 99, .string ⟨⟨[120, 121]⟩⟩], .string ⟨⟨[110, 111]⟩⟩), ([.pointer (some ⟨356, 0, none⟩), .int .u8 99, .string ⟨⟨[122, 49, 50]⟩⟩], .string ⟨⟨[121, 101, 115]⟩⟩), ([.pointer (some ⟨356, 0, none⟩), .int .u8 99, .string ⟨⟨[97, 98]⟩⟩], .string ⟨⟨[110, 111]⟩⟩), ([.pointer (some ⟨356, 0, none⟩), .int .u8 99, .string ⟨⟨[98, 97]⟩⟩], .string ⟨⟨[110, 111]⟩⟩), ([.pointer (some ⟨356, 0, none⟩), .int .u8 118, .string ⟨⟨[]⟩⟩], .string ⟨⟨[121, 101, 115]⟩⟩), ([.pointer (some ⟨356, 0, none⟩), .int .u8 118, .string ⟨⟨[97]⟩⟩], .string ⟨⟨[121, 101, 115]⟩⟩), ([.pointer (some ⟨356, 0, none⟩), .int .u8 118, .string ⟨⟨[99, 99, 98, 100]⟩⟩], .string ⟨⟨[121, 101, 115]⟩⟩), ([.pointer (some ⟨356, 0, none⟩), .int .u8 118, .string ⟨⟨[120, 121]⟩⟩], .string ⟨⟨[121, 101, 115]⟩⟩), ([.pointer (some ⟨356, 0, none⟩), .int .u8 118, .string ⟨⟨[122, 49, 50]⟩⟩], .string ⟨⟨[121, 101, 115]⟩⟩), ([.pointer (some ⟨356, 0, none⟩), .int .u8 118, .string ⟨⟨[97, 98]⟩⟩], .string ⟨⟨[121, 101, 115]⟩⟩), ([.pointer (some ⟨356, 0, none⟩), .int .u8 118, .string ⟨⟨[98, 97]⟩⟩], .string ⟨⟨[121, 101, 115]⟩⟩)]), (20, [([.pointer (some ⟨356, 0, none⟩)], .string ⟨⟨[87, 88, 80, 1, 1, 0, 2, 4, 1, 1, 48, 9, 3, 21, 5, 4, 1, 0, 0, 1, 2, 0, 0, 2, 1, 3, 0, 4, 4, 0, 1, 0, 0, 0, 0, 0, 45, 180, 1, 119]⟩⟩)])]⟩
theorem Tryz.fGP3_ok : ∀ x ∈ Tryz.fGP3.es, ∀ y ∈ x.2, GoodR Tryz.prog 8 x.1 y.1 Tryz.fGP3.B y.2 := by
  intro x hx y hy
  unfold Tryz.fGP3 at hx
  simp only [List.mem_cons, List.not_mem_nil, or_false] at hx
  rcases hx with rfl | rfl
  · simp only [List.mem_cons, List.not_mem_nil, or_false] at hy
    rcases hy with rfl | rfl | rfl | rfl | rfl | rfl | rfl | rfl | rfl | rfl | rfl | rfl | rfl | rfl | rfl | rfl | rfl | rfl | rfl | rfl | rfl
    · exact Tryz.frP3_0
    · exact Tryz.frP3_1
    · exact Tryz.frP3_2
    · exact Tryz.frP3_3
    · exact Tryz.frP3_4
    · exact Tryz.frP3_5
    · exact Tryz.frP3_6
    · exact Tryz.frP3_7
    · exact Tryz.frP3_8
    · exact Tryz.frP3_9
    · exact Tryz.frP3_10
    · exact Tryz.frP3_11
    · exact Tryz.frP3_12
    · exact Tryz.frP3_13
    · exact Tryz.frP3_14
    · exact Tryz.frP3_15
    · exact Tryz.frP3_16
    · exact Tryz.frP3_17
    · exact Tryz.frP3_18
    · exact Tryz.frP3_19
    · exact Tryz.frP3_20
  · simp only [List.mem_cons, List.not_mem_nil, or_false] at hy
    subst hy
    exact Tryz.fb3
def Tryz.fGT3 : RGrp := ⟨236, Tryz.gB :: Tryz.fBT3, [(32, [([.pointer (some ⟨236, 0, none⟩), .int .u8 99, .string ⟨⟨[]⟩⟩], .string ⟨⟨[110, 111]⟩⟩), ([.pointer (some ⟨236, 0, none⟩), .int .u8 99, .string ⟨⟨[97]⟩⟩], .string ⟨⟨[110, 111]⟩⟩), ([.pointer (some ⟨236, 0, none⟩), .int .u8 99, .string ⟨⟨[99, 99, 98, 100]⟩⟩], .string ⟨⟨[110, 111]⟩⟩), ([.pointer (some ⟨236, 0, none⟩), .int .u8 99, .string ⟨⟨[120, 121]⟩⟩], .string ⟨⟨[110, 111]⟩⟩), ([.pointer (some ⟨236, 0, none⟩), .int .u8 99, .string ⟨⟨[122, 49, 50]⟩⟩], .string ⟨⟨[121, 101, 115]⟩⟩), ([.pointer (some ⟨236, 0, none⟩), .int .u8 99, .string ⟨⟨[97, 98]⟩⟩], .string ⟨⟨[110, 111]⟩⟩), ([.pointer (some ⟨236, 0, none⟩), .int .u8 99, .string ⟨⟨[98, 97]⟩⟩], .string ⟨⟨[110, 111]⟩⟩), ([.pointer (some ⟨236, 0, none⟩), .int .u8 118, .string ⟨⟨[]⟩⟩], .string ⟨⟨[121, 101, 115]⟩⟩), ([.pointer (some ⟨236, 0, none⟩), .int .u8 118, .string ⟨⟨[97]⟩⟩], .string ⟨⟨[121, 101, 115]⟩⟩), ([.pointer (some ⟨236, 0, none⟩), .int .u8 118, .string ⟨⟨[99, 99, 98, 100]⟩⟩], .string ⟨⟨[121, 101, 115]⟩⟩), ([.pointer (some ⟨236, 0, none⟩), .int .u8 118, .string ⟨⟨[120, 121]⟩⟩], .string ⟨⟨[121, 101, 115]⟩⟩), ([.pointer (some ⟨236, 0, none⟩), .int .u8 118, .string ⟨⟨[122, 49, 50]⟩⟩], .string ⟨⟨[121, 101, 115]⟩⟩), ([.pointer (some ⟨236, 0, none⟩), .int .u8 118, .string ⟨⟨[97, 98]⟩⟩], .string ⟨⟨[121, 101, 115]⟩⟩), ([.pointer (some ⟨236, 0, none⟩), .int .u8 118, .string ⟨⟨[98, 97]⟩⟩], .string ⟨⟨[121, 101, 115]⟩⟩)])]⟩
theorem Tryz.fGT3_ok : ∀ x ∈ Tryz.fGT3.es, ∀ y ∈ x.2, GoodR Tryz.prog 8 x.1 y.1 Tryz.fGT3.B y.2 := by
  intro x hx y hy
  unfold Tryz.fGT3 at hx
  simp only [List.mem_cons, List.not_mem_nil, or_false] at hx
  subst hx
  simp only [List.mem_cons, List.not_mem_nil, or_false] at hy
  rcases hy with rfl | rfl | rfl | rfl | rfl | rfl | rfl | rfl | rfl | rfl | rfl | rfl | rfl | rfl
  · exact Tryz.frT3_0
  · exact Tryz.frT3_1
  · exact Tryz.frT3_2
  · exact Tryz.frT3_3
  · exact Tryz.frT3_4
  · exact Tryz.frT3_5
  · exact Tryz.frT3_6
  · exact Tryz.frT3_7
  · exact Tryz.frT3_8
  · exact Tryz.frT3_9
  · exact Tryz.frT3_10
  · exact Tryz.frT3_11
  · exact Tryz.frT3_12
  · exact Tryz.frT3_13
def Tryz.fE3 : Env := mkEnvO Tryz.prog 8 Tryz.look Tryz.X 5 (orcG 8 Tryz.fT3 Tryz.fM3 [Tryz.fGP3, Tryz.fGT3])
theorem Tryz.fE3_ok : Tryz.fE3.Ok := mkEnvO_ok Tryz.mixed Tryz.len Tryz.names Tryz.extOk (orcG_ok Tryz.fT3_ok Tryz.fM3_ok fun g hg => by
  simp only [List.mem_cons, List.not_mem_nil, or_false] at hg
  rcases hg with rfl | rfl
  · exact Tryz.fGP3_ok
  · exact Tryz.fGT3_ok)
def Tryz.fT4 : Tbl := [(8, [([], .bool true)]), (12, [([.string ⟨⟨[40, 97, 41, 40, 98, 41, 63]⟩⟩], .agg #[.string ⟨⟨[87, 88, 80, 1, 1, 2, 2, 7, 2, 1, 97, 0, 1, 98, 0, 3, 41, 10, 4, 1, 0, 0, 4, 2, 0, 2, 1, 3, 0, 0, 4, 4, 0, 3, 2, 5, 8, 0, 4, 6, 0, 4, 1, 7, 0, 1, 4, 8, 0, 5, 4, 9, 0, 1, 0, 0, 0, 0, 0, 0, 116, 255, 2, 107]⟩⟩, .int .i64 7, .int .i64 0, .int .i64 2])]), (30, [([.string ⟨⟨[40, 97, 41, 40, 98, 41, 63]⟩⟩], .agg #[.string ⟨⟨[87, 88, 84, 4, 5, 4, 0, 97, 1, 1, 5, 9, 2, 0, 1, 0, 0, 1, 1, 1, 1, 6, 3, 2, 0, 1, 0, 0, 38, 84, 1, 149]⟩⟩, .int .i64 7, .int .i64 0, .int .i64 0])]), (9, [([.string ⟨⟨[87, 88, 80, 1, 1, 2, 2, 7, 2, 1, 97, 0, 1, 98, 0, 3, 41, 10, 4, 1, 0, 0, 4, 2, 0, 2, 1, 3, 0, 0, 4, 4, 0, 3, 2, 5, 8, 0, 4, 6, 0, 4, 1, 7, 0, 1, 4, 8, 0, 5, 4, 9, 0, 1, 0, 0, 0, 0, 0, 0, 116, 255, 2, 107]⟩⟩], .string ⟨⟨[53, 55, 53, 56, 53, 48, 48, 49, 48, 49, 48, 50, 48, 50, 48, 55, 48, 50, 48, 49, 54, 49, 48, 48, 48, 49, 54, 50, 48, 48, 48, 51, 50, 57, 48, 97, 48, 52, 48, 49, 48, 48, 48, 48, 48, 52, 48, 50, 48, 48, 48, 50, 48, 49, 48, 51, 48, 48, 48, 48, 48, 52, 48, 52, 48, 48, 48, 51, 48, 50, 48, 53, 48, 56, 48, 48, 48, 52, 48, 54, 48, 48, 48, 52, 48, 49, 48, 55, 48, 48, 48, 49, 48, 52, 48, 56, 48, 48, 48, 53, 48, 52, 48, 57, 48, 48, 48, 49, 48, 48, 48, 48, 48, 48, 48, 48, 48, 48, 48, 48, 55, 52, 102, 102, 48, 50, 54, 98]⟩⟩)])]
theorem Tryz.fT4_ok : ∀ x ∈ Tryz.fT4, ∀ y ∈ x.2, Good Tryz.prog x.1 y.1 y.2 := by
  intro x hx y hy
  unfold Tryz.fT4 at hx
  simp only [List.mem_cons, List.not_mem_nil, or_false] at hx
  rcases hx with rfl | rfl | rfl | rfl <;> simp only [List.mem_cons, List.not_mem_nil, or_false] at hy <;> subst hy
  · exact Tryz.ex
  · exact Tryz.ffP4
  · exact Tryz.ffT4
  · exact Tryz.fh4
def Tryz.fM4 : List MEnt := [⟨18, [.string ⟨⟨[87, 88, 80, 1, 1, 2, 2, 7, 2, 1, 97, 0, 1, 98, 0, 3, 41, 10, 4, 1, 0, 0, 4, 2, 0, 2, 1, 3, 0, 0, 4, 4, 0, 3, 2, 5, 8, 0, 4, 6, 0, 4, 1, 7, 0, 1, 4, 8, 0, 5, 4, 9, 0, 1, 0, 0, 0, 0, 0, 0, 116, 255, 2, 107]⟩⟩], .tuple #[.pointer (some ⟨606, 0, none⟩), .int .i64 0], Tryz.fBP4, 607⟩, ⟨18, [.string ⟨⟨[87, 88, 84, 4, 5, 4, 0, 97, 1, 1, 5, 9, 2, 0, 1, 0, 0, 1, 1, 1, 1, 6, 3, 2, 0, 1, 0, 0, 38, 84, 1, 149]⟩⟩], .tuple #[.pointer (some ⟨266, 0, none⟩), .int .i64 0], Tryz.fBT4, 267⟩]
theorem Tryz.fM4_ok : ∀ x ∈ Tryz.fM4, GoodM Tryz.prog 8 x.f x.args x.v x.B x.m := by
  intro x hx
  unfold Tryz.fM4 at hx
  simp only [List.mem_cons, List.not_mem_nil, or_false] at hx
  rcases hx with rfl | rfl
  · exact Tryz.fmP4
  · exact Tryz.fmT4
def Tryz.fGP4 : RGrp := ⟨606, Tryz.gB :: Tryz.fBP4, [(32, [([.pointer (some ⟨606, 0, none⟩), .int .u8 102, .string ⟨⟨[]⟩⟩], .string ⟨⟨[110, 111, 110, 101]⟩⟩), ([.pointer (some ⟨606, 0, none⟩), .int .u8 102, .string ⟨⟨[97]⟩⟩], .string ⟨⟨[48, 32, 49, 32, 48, 32, 49, 32, 45, 49, 32, 45, 49]⟩⟩), ([.pointer (some ⟨606, 0, none⟩), .int .u8 102, .string ⟨⟨[99, 99, 98, 100]⟩⟩], .string ⟨⟨[110, 111, 110, 101]⟩⟩), ([.pointer (some ⟨606, 0, none⟩), .int .u8 102, .string ⟨⟨[120, 121]⟩⟩], .string ⟨⟨[110, 111, 110, 101]⟩⟩), ([.pointer (some ⟨606, 0, none⟩), .int .u8 102, .string ⟨⟨[122, 49, 50]⟩⟩], .string ⟨⟨[110, 111, 110, 101]⟩⟩), ([.pointer (some ⟨606, 0, none⟩), .int .u8 102, .string ⟨⟨[97, 98]⟩⟩], .string ⟨⟨[48, 32, 50, 32, 48, 32, 49, 32, 49, 32, 50]⟩⟩), ([.pointer (some ⟨606, 0, none⟩), .int .u8 102, .string ⟨⟨[98, 97]⟩⟩], .string ⟨⟨[49, 32, 50, 32, 49, 32, 50, 32, 45, 49, 32, 45, 49]⟩⟩), ([.pointer (some ⟨606, 0, none⟩), .int .u8 99, .string ⟨⟨[]⟩⟩], .string ⟨⟨[110, 111]⟩⟩), ([.pointer (some ⟨606, 0, none⟩), .int .u8 99, .string ⟨⟨[97]⟩⟩], .string ⟨⟨[121, 101, 115]⟩⟩), ([.pointer (some ⟨606, 0, none⟩), .int .u8 99, .string ⟨⟨[99, 99, 98, 100]⟩⟩], .string ⟨⟨[110, 111]⟩⟩), ([.pointer (some ⟨606, 0, none⟩), .int .u8 99, .string ⟨⟨[120, 121]⟩⟩], .string ⟨⟨[110, 111]⟩⟩), ([.pointer (some ⟨606, 0, none⟩), .int .u8 99, .string ⟨⟨[122, 49, 50]⟩⟩], .string ⟨⟨[110, 111]⟩⟩), ([.pointer (some ⟨606, 0, none⟩), .int .u8 99, .string ⟨⟨[97, 98]⟩⟩], .string ⟨⟨[121, 101, 115]⟩⟩), ([.pointer (some ⟨606, 0, none⟩), .int .u8 99, .string ⟨⟨[98, 97]⟩⟩], .string ⟨⟨[121, 101, 115]⟩⟩), ([.pointer (some ⟨606, 0, none⟩), .int .u8 118, .string ⟨⟨[]⟩⟩], .string ⟨⟨[121, 101, 115]⟩⟩), ([.pointer (some ⟨606, 0, none⟩), .int .u8 118, .string ⟨⟨[97]⟩⟩], .string ⟨⟨[121, 101, 115]⟩⟩), ([.pointer (some ⟨606, 0, none⟩), .int .u8 118, .string ⟨⟨[99, 99, 98, 100]⟩⟩], .string ⟨⟨[121, 101, 115]⟩⟩), ([.pointer (some ⟨606, 0, none⟩), .int .u8 118, .string ⟨⟨[120, 121]⟩⟩], .string ⟨⟨[121, 101, 115]⟩⟩), ([.pointer (some ⟨606, 0, none⟩), .int .u8 118, .string ⟨⟨[122, 49, 50]⟩⟩], .string ⟨⟨[121, 101, 115]⟩⟩), ([.pointer (some ⟨606, 0, none⟩), .int .u8 118, .string ⟨⟨[97, 98]⟩⟩], .string ⟨⟨[121, 101, 115]⟩⟩), ([.pointer (some ⟨606, 0, none⟩), .int .u8 118, .string ⟨⟨[98, 97]⟩⟩], .string ⟨⟨[121, 101, 115]⟩⟩)]), (20, [([.pointer (some ⟨606, 0, none⟩)], .string ⟨⟨[87, 88, 80, 1, 1, 2, 2, 7, 2, 1, 97, 0, 1, 98, 0, 3, 41, 10, 4, 1, 0, 0, 4, 2, 0, 2, 1, 3, 0, 0, 4, 4, 0, 3, 2, 5, 8, 0, 4, 6, 0, 4, 1, 7, 0, 1, 4, 8, 0, 5, 4, 9, 0, 1, 0, 0, 0, 0, 0, 0, 116, 255, 2, 107]⟩⟩)])]⟩
theorem Tryz.fGP4_ok : ∀ x ∈ Tryz.fGP4.es, ∀ y ∈ x.2, GoodR Tryz.prog 8 x.1 y.1 Tryz.fGP4.B y.2 := by
  intro x hx y hy
  unfold Tryz.fGP4 at hx
  simp only [List.mem_cons, List.not_mem_nil, or_false] at hx
  rcases hx with rfl | rfl
  · simp only [List.mem_cons, List.not_mem_nil, or_false] at hy
    rcases hy with rfl | rfl | rfl | rfl | rfl | rfl | rfl | rfl | rfl | rfl | rfl | rfl | rfl | rfl | rfl | rfl | rfl | rfl | rfl | rfl | rfl
    · exact Tryz.frP4_0
    · exact Tryz.frP4_1
    · exact Tryz.frP4_2
    · exact Tryz.frP4_3
    · exact Tryz.frP4_4
    · exact Tryz.frP4_5
    · exact Tryz.frP4_6
    · exact Tryz.frP4_7
    · exact Tryz.frP4_8
    · exact Tryz.frP4_9
    · exact Tryz.frP4_10
    · exact Tryz.frP4_11
    · exact Tryz.frP4_12
    · exact Tryz.frP4_13
    · exact Tryz.frP4_14
    · exact Tryz.frP4_15
    · exact Tryz.frP4_16
    · exact Tryz.frP4_17
    · exact Tryz.frP4_18
    · exact Tryz.frP4_19
    · exact Tryz.frP4_20
  · simp only [List.mem_cons, List.not_mem_nil, or_false] at hy
    subst hy
    exact Tryz.fb4
def Tryz.fGT4 : RGrp := ⟨266, Tryz.gB :: Tryz.fBT4, [(32, [([.pointer (some ⟨266, 0, none⟩), .int .u8 99, .string ⟨⟨[]⟩⟩], .string ⟨⟨[110, 111]⟩⟩), ([.pointer (some ⟨266, 0, none⟩), .int .u8 99, .string ⟨⟨[97]⟩⟩], .string ⟨⟨[121, 101, 115]⟩⟩), ([.pointer (some ⟨266, 0, none⟩), .int .u8 99, .string ⟨⟨[99, 99, 98, 100]⟩⟩], .string ⟨⟨[110, 111]⟩⟩), ([.pointer (some ⟨266, 0, none⟩), .int .u8 99, .string ⟨⟨[120, 121]⟩⟩], .string ⟨⟨[110, 111]⟩⟩), ([.pointer (some ⟨266, 0, none⟩), .int .u8 99, .string ⟨⟨[122, 49, 50]⟩⟩], .string ⟨⟨[110, 111]⟩⟩), ([.pointer (some ⟨266, 0, none⟩), .int .u8 99, .string ⟨⟨[97, 98]⟩⟩], .string ⟨⟨[121, 101, 115]⟩⟩), ([.pointer (some ⟨266, 0, none⟩), .int .u8 99, .string ⟨⟨[98, 97]⟩⟩], .string ⟨⟨[121, 101, 115]⟩⟩), ([.pointer (some ⟨266, 0, none⟩), .int .u8 118, .string ⟨⟨[]⟩⟩], .string ⟨⟨[121, 101, 115]⟩⟩), ([.pointer (some ⟨266, 0, none⟩), .int .u8 118, .string ⟨⟨[97]⟩⟩], .string ⟨⟨[121, 101, 115]⟩⟩), ([.pointer (some ⟨266, 0, none⟩), .int .u8 118, .string ⟨⟨[99, 99, 98, 100]⟩⟩], .string ⟨⟨[121, 101, 115]⟩⟩), ([.pointer (some ⟨266, 0, none⟩), .int .u8 118, .string ⟨⟨[120, 121]⟩⟩], .string ⟨⟨[121, 101, 115]⟩⟩), ([.pointer (some ⟨266, 0, none⟩), .int .u8 118, .string ⟨⟨[122, 49, 50]⟩⟩], .string ⟨⟨[121, 101, 115]⟩⟩), ([.pointer (some ⟨266, 0, none⟩), .int .u8 118, .string ⟨⟨[97, 98]⟩⟩], .string ⟨⟨[121, 101, 115]⟩⟩), ([.pointer (some ⟨266, 0, none⟩), .int .u8 118, .string ⟨⟨[98, 97]⟩⟩], .string ⟨⟨[121, 101, 115]⟩⟩)])]⟩
theorem Tryz.fGT4_ok : ∀ x ∈ Tryz.fGT4.es, ∀ y ∈ x.2, GoodR Tryz.prog 8 x.1 y.1 Tryz.fGT4.B y.2 := by
  intro x hx y hy
  unfold Tryz.fGT4 at hx
  simp only [List.mem_cons, List.not_mem_nil, or_false] at hx
  subst hx
  simp only [List.mem_cons, List.not_mem_nil, or_false] at hy
  rcases hy with rfl | rfl | rfl | rfl | rfl | rfl | rfl | rfl | rfl | rfl | rfl | rfl | rfl | rfl
  · exact Tryz.frT4_0
  · exact Tryz.frT4_1
  · exact Tryz.frT4_2
  · exact Tryz.frT4_3
  · exact Tryz.frT4_4
  · exact Tryz.frT4_5
  · exact Tryz.frT4_6
  · exact Tryz.frT4_7
  · exact Tryz.frT4_8
  · exact Tryz.frT4_9
  · exact Tryz.frT4_10
  · exact Tryz.frT4_11
  · exact Tryz.frT4_12
  · exact Tryz.frT4_13
def Tryz.fE4 : Env := mkEnvO Tryz.prog 8 Tryz.look Tryz.X 5 (orcG 8 Tryz.fT4 Tryz.fM4 [Tryz.fGP4, Tryz.fGT4])
theorem Tryz.fE4_ok : Tryz.fE4.Ok := mkEnvO_ok Tryz.mixed Tryz.len Tryz.names Tryz.extOk (orcG_ok Tryz.fT4_ok Tryz.fM4_ok fun g hg => by
  simp only [List.mem_cons, List.not_mem_nil, or_false] at hg
  rcases hg with rfl | rfl
  · exact Tryz.fGP4_ok
  · exact Tryz.fGT4_ok)
end Go.Wx
end PFndE
/- ScriptFinds: what the kernel runs of its walk, and that it is what the program does. -/
noncomputable section PFndS
set_option linter.unusedVariables false
set_option linter.unusedSimpArgs false
set_option maxRecDepth 1000000
namespace Go.Wx
open Go.RowKit Go.Proofs
noncomputable def bodyF (f : Func) : Code := match f.body with
  | some c => c
  | none => .skip
noncomputable def regF : Code → Array Oper
  | .region _ ops _ => ops
  | _ => #[]
noncomputable def Tryz.fi7 : Array Oper := regF (firstC (tailC 5 (bodyF Tryz.f6)))
noncomputable def Tryz.fi8 : Array Oper := regF (firstC (tailC 6 (bodyF Tryz.f6)))
abbrev RunF := Option (Ex × Tm × St)
def Tryz.fst : St := stOf [Tryz.gB] 8
def Tryz.fargs (a b : Int) : List Value := [.int .u8 a, .int .u8 b]
noncomputable def Tryz.fi1 (C : CallF) (a b : Int) : RunF := match frontE Tryz.prog 8 C 5 (bodyF Tryz.f6) (tm0 (Tryz.fargs a b) 121) Tryz.fst with
  | some (.norm, tm, st) => evOps Tryz.prog 8 C true Tryz.fi7 (Tryz.fi7.toList.take 2) tm st
  | _ => none
noncomputable def Tryz.fi2 (C : CallF) (r : Int) (R : RunF) : RunF := match R with
  | some (.norm, tm, st) => (match evOps Tryz.prog 8 C true Tryz.fi7 (Tryz.fi7.toList.drop 3) (tm.put (some 24) (.int .u8 r)) st with
    | some (.norm, tm, st) => evOps Tryz.prog 8 C true Tryz.fi8 (Tryz.fi8.toList.take 2) tm st
    | _ => none)
  | _ => none
noncomputable def Tryz.fi3 (C : CallF) (q : Int) (R : RunF) : RunF := match R with
  | some (.norm, tm, st) => (match evOps Tryz.prog 8 C true Tryz.fi8 (Tryz.fi8.toList.drop 3) (tm.put (some 29) (.int .u8 q)) st with
    | some (.norm, tm, st) => evCode Tryz.prog 8 C false (nextC (tailC 6 (bodyF Tryz.f6))) tm st
    | _ => none)
  | _ => none
noncomputable def tmpB (R : RunF) (t : Nat) (v : Value) : Bool := match R with
  | some (.norm, tm, _) => flatEqB (tm.get t) v
  | _ => false
noncomputable def slot (R : RunF) (t : Nat) : Value := match R with
  | some (_, tm, _) => tm.get t
  | _ => undef
noncomputable def endOk (R : RunF) (t : Nat) : Bool := match R with
  | some (.ret, tm, st) => (match tm.ds, tm.get t, st.h.get 1 with
    | [], .bool true, some (_, k) => Nat.ble k 1
    | _, _, _ => false)
  | _ => false
/-- All that the kernel has to run of a case. -/
structure Tryz.FindRuns (E : Env) (r q : Int) : Prop where
  s23 : ∀ a b, slot (Tryz.fi1 (evCall E 39) a b) 23 = .int .u8 a
  s28 : ∀ a b, slot (Tryz.fi2 (evCall E 39) r (Tryz.fi1 (evCall E 39) a b)) 28 = .int .u8 b
  ok : ∀ a b, endOk (Tryz.fi3 (evCall E 39) q (Tryz.fi2 (evCall E 39) r (Tryz.fi1 (evCall E 39) a b))) 4 = true
theorem Tryz.body6 : Tryz.f6.body = some (bodyF Tryz.f6) := by kernel_rfl
theorem Tryz.res6 : Tryz.f6.results = #[.tmp 4] := by kernel_rfl
theorem Tryz.nt6 : Tryz.f6.ntmps = 121 := by kernel_rfl
theorem Tryz.tail6a : tailC 5 (bodyF Tryz.f6) = .seq (.region 7 Tryz.fi7 false) (tailC 6 (bodyF Tryz.f6)) := by kernel_rfl
theorem Tryz.tail6b : tailC 6 (bodyF Tryz.f6) = .seq (.region 8 Tryz.fi8 false) (nextC (tailC 6 (bodyF Tryz.f6))) := by kernel_rfl
theorem Tryz.fsz7 : Tryz.fi7.size = 6 := by kernel_rfl
theorem Tryz.fsz8 : Tryz.fi8.size = 6 := by kernel_rfl
noncomputable def Tryz.fo7 : Oper := (Tryz.fi7[2]?).getD default
noncomputable def Tryz.fo8 : Oper := (Tryz.fi8[2]?).getD default
theorem Tryz.fo7_at : Tryz.fi7[2]? = some Tryz.fo7 := by kernel_rfl
theorem Tryz.fo7_g : Tryz.fo7.guard = none := by kernel_rfl
theorem Tryz.fo7_op : Tryz.fo7.op = .binOp .rem 5 (.tmp 23) (.const (.int .u8 5)) 5 := by kernel_rfl
theorem Tryz.fo7_d : Tryz.fo7.dst = some 24 := by kernel_rfl
theorem Tryz.fo8_at : Tryz.fi8[2]? = some Tryz.fo8 := by kernel_rfl
theorem Tryz.fo8_g : Tryz.fo8.guard = none := by kernel_rfl
theorem Tryz.fo8_op : Tryz.fo8.op = .binOp .rem 5 (.tmp 28) (.const (.int .u8 7)) 5 := by kernel_rfl
theorem Tryz.fo8_d : Tryz.fo8.dst = some 29 := by kernel_rfl
/-- A rest of a byte. -/
theorem rem_op {P : Program} {w : World} {ops : Array Oper} {k m : Nat} {o : Oper} (ho : ops[k]? = some o) (hg : o.guard = none) {t yt : TypeId} {x : Operand} {n : Int} (hop : o.op = .binOp .rem t x (.const (.int .u8 n)) yt) {a : Act} {i r : Int} (hx : a.eval x = .int .u8 i)
    (hn : n ≠ 0) (hr : i.tmod n = r) {Q : Exit → Act → World → Prop} (h : wpOpsIn (fw none) 0 P ops Q (List.range' (k + 1) m) (a.put o.dst (.int .u8 r)) w) :
    wpOpsIn (fw none) 0 P ops Q (List.range' k (m + 1)) a w := by
  rw [List.range'_succ]
  unfold wpOpsIn
  simp only [ho]
  have hw : Region.wanted o (yielded ops a.tmps) = true := by unfold Region.wanted; rw [hg]
  rw [if_pos hw]
  refine wpIn_op ?_ (.inl rfl)
  unfold Oper.wp
  have hex : (execOp a.eval o).run P w = .ok (.value (.int .u8 r)) w := by
    unfold execOp
    rw [hop]
    dsimp only
    rw [hx]
    refine run_v ?_
    show (Sem.bind (eqGuard .rem t x (.const (.int .u8 n)) (.int .u8 i) (.int .u8 n)) (fun _ => binOp .rem t (.int .u8 i) (.int .u8 n))).run P w = _
    rw [show (Sem.bind (eqGuard .rem t x (.const (.int .u8 n)) (.int .u8 i) (.int .u8 n)) (fun _ => binOp .rem t (.int .u8 i) (.int .u8 n))) = (eqGuard .rem t x (.const (.int .u8 n)) (.int .u8 i) (.int .u8 n) >>= fun _ => binOp .rem t (.int .u8 i) (.int .u8 n)) from rfl, Sem.run_bind, run_eqGuard_int, Result.andThen_ok]
    have hv : binI .rem .u8 i n = some (.int .u8 r) := by
      show (if n = 0 then none else some (Value.int .u8 (i.tmod n))) = _
      rw [if_neg hn, hr]
    exact (binI_sound hv w t ⟨by simp, by simp⟩).2
  rw [hex]
  exact h
/-- The world of the one global. -/
def Tryz.gMp : Mp := fun i => match Nat.beq i 1 with
  | true => some ⟨1, 0, 20, 1, false⟩
  | false => none
def Tryz.pow10 : List Value := [.int .u64 1, .int .u64 10, .int .u64 100, .int .u64 1000, .int .u64 10000, .int .u64 100000, .int .u64 1000000, .int .u64 10000000, .int .u64 100000000, .int .u64 1000000000, .int .u64 10000000000, .int .u64 100000000000, .int .u64 1000000000000, .int .u64 10000000000000, .int .u64 100000000000000, .int .u64 1000000000000000, .int .u64 10000000000000000, .int .u64 100000000000000000, .int .u64 1000000000000000000, .int .u64 10000000000000000000]
theorem Tryz.g_start {w : World} (h : w.heap[1]? = some (.cells Tryz.pow10.toArray 340 (0, 0))) : RR Tryz.prog 8 Tryz.gMp Tryz.fst w := by
  have key : ∀ {i : Nat} {y : AB × Nat}, Tryz.fst.h.get i = some y → y.2 = 1 ∧ i = 1 ∧ y.1 = Tryz.gB.2 := fun {i y} e => by
    have := stOf_get [Tryz.gB] 8 (fun x hx => by simp only [List.mem_cons, List.not_mem_nil, or_false] at hx; subst hx; show 1 + 1 < 2 ^ 20; decide) e
    refine ⟨this.1, ?_⟩
    have h2 := this.2
    simp only [List.mem_cons, List.not_mem_nil, or_false] at h2
    exact ⟨congrArg Prod.fst h2, congrArg Prod.snd h2⟩
  have hm : ∀ {i L}, Tryz.gMp i = some L → i = 1 ∧ L = ⟨1, 0, 20, 1, false⟩ := fun {i L} e => by
    unfold Tryz.gMp at e
    split at e
    · rename_i hi; rw [Nat.beq_eq] at hi; cases e; exact ⟨hi, rfl⟩
    · cases e
  have hsz : 1 < w.heap.size := (Array.getElem?_eq_some_iff.1 h).1
  refine ⟨fun i L e => ?_, fun i ab v e => ?_, fun i => ?_, (by show 8 ≤ bigN; decide), fun i j ab bb vi vj Li Lj g1 g2 l1 l2 m1 m2 e hne => ?_, fun i j ab bb vi vj g1 g2 l1 l2 e => ?_, fun g L hg e => ?_, fun j bb v p g1 e => ?_⟩
  · obtain ⟨rfl, rfl⟩ := hm e
    exact ⟨by show 1 < 8; decide, hsz⟩
  · obtain ⟨-, rfl, h2⟩ := key e
    refine ⟨⟨1, 0, 20, 1, false⟩, rfl, ?_⟩
    dsimp only at h2
    subst h2
    exact ⟨rfl, _, _, h, by simp [Tryz.pow10], by show 20 ≤ 20; decide, fun _ => ⟨rfl, rfl⟩, (fun e => by cases e), (fun e => by cases e), fun j v e => ⟨v, (by rw [Nat.zero_add, List.getElem?_toArray]; exact e), VR.of_flatN _ 0 v (List.all_eq_true.1 (show Tryz.pow10.all (flatN 0) = true by decide) v (List.mem_of_getElem? e))⟩⟩
  · unfold St.ver
    split
    · rename_i hg
      exact Nat.le_of_eq (key hg).1
    · exact Nat.zero_le _
  · exact absurd ((key g1).2.1.trans (key g2).2.1.symm) hne
  · obtain ⟨-, -, h2⟩ := key g2
    dsimp only at h2
    subst h2
    cases e
  · obtain ⟨rfl, rfl⟩ := hm e
    exact ⟨rfl, rfl⟩
  · obtain ⟨-, -, h2⟩ := key g1
    dsimp only at h2
    subst h2
    cases e
/-- A case that the kernel has run is what the program does. -/
theorem Tryz.fi_sound {E : Env} (hE : E.Ok) (hP : E.P = Tryz.prog) (hG : E.G = 8) {r q : Int} (h : Tryz.FindRuns E r q) {a b : Int} (ha : a.tmod 5 = r) (hb : b.tmod 7 = q) {w : World} (hw : w.heap[1]? = some (.cells Tryz.pow10.toArray 340 (0, 0))) :
    Calls Tryz.prog 6 #[.int .u8 a, .int .u8 b] w fun e w' => e = .returned (.bool true) ∧ Below w.heap.size w w' := by
  have h23 := h.s23 a b
  have h28 := h.s28 a b
  have hok := h.ok a b
  have hcall : CallOk Tryz.prog 8 (evCall E 39) := by
    have := evCall_ok hE 39
    rwa [hP, hG] at this
  generalize hC : evCall E 39 = C at h23 h28 hok hcall
  unfold endOk at hok
  generalize hf3 : Tryz.fi3 C q (Tryz.fi2 C r (Tryz.fi1 C a b)) = R3 at hok
  cases R3 with
  | none => cases hok
  | some R3 =>
    obtain ⟨x9, tm9, st9⟩ := R3
    cases x9 <;> dsimp only at hok <;> try (cases hok; done)
    have hds : tm9.ds = [] ∧ tm9.get 4 = .bool true ∧ st9.ver 1 ≤ 1 := by
      split at hok
      · rename_i k _ _ hk
        rw [Nat.ble_eq] at hok
        refine ⟨by assumption, by assumption, ?_⟩
        unfold St.ver
        rw [hk]
        exact hok
      · cases hok
    unfold Tryz.fi3 at hf3
    generalize hf2 : Tryz.fi2 C r (Tryz.fi1 C a b) = R2 at hf3 h28
    cases R2 with
    | none => cases hf3
    | some R2 =>
      obtain ⟨x5, tm5, st5⟩ := R2
      cases x5 <;> dsimp only at hf3 <;> try (cases hf3; done)
      have h28 : tm5.get 28 = .int .u8 b := h28
      generalize hev8 : evOps Tryz.prog 8 C true Tryz.fi8 (Tryz.fi8.toList.drop 3) (tm5.put (some 29) (.int .u8 q)) st5 = R7 at hf3
      cases R7 with
      | none => cases hf3
      | some R7 =>
        obtain ⟨x7, tm7, st7⟩ := R7
        cases x7 <;> dsimp only at hf3 <;> try (cases hf3; done)
        unfold Tryz.fi2 at hf2
        generalize hf1 : Tryz.fi1 C a b = R1 at hf2 h23
        cases R1 with
        | none => cases hf2
        | some R1 =>
          obtain ⟨x2, tm2, st2⟩ := R1
          cases x2 <;> dsimp only at hf2 <;> try (cases hf2; done)
          have h23 : tm2.get 23 = .int .u8 a := h23
          generalize hev7 : evOps Tryz.prog 8 C true Tryz.fi7 (Tryz.fi7.toList.drop 3) (tm2.put (some 24) (.int .u8 r)) st2 = R4 at hf2
          cases R4 with
          | none => cases hf2
          | some R4 =>
            obtain ⟨x4, tm4, st4⟩ := R4
            cases x4 <;> dsimp only at hf2 <;> try (cases hf2; done)
            unfold Tryz.fi1 at hf1
            generalize hf : frontE Tryz.prog 8 C 5 (bodyF Tryz.f6) (tm0 (Tryz.fargs a b) 121) Tryz.fst = R0 at hf1
            cases R0 with
            | none => cases hf1
            | some R0 =>
              obtain ⟨x1, tm1, st1⟩ := R0
              cases x1 <;> dsimp only at hf1 <;> try (cases hf1; done)
              have hA : VRs Tryz.gMp (Tryz.fargs a b) [.int .u8 a, .int .u8 b] := .cons (.flat rfl) (.cons (.flat rfl) .nil)
              have hT0 := tm0_TR hA (n := 121) (show max 121 2 ≤ bigN by decide)
              have hR0 := Tryz.g_start hw
              refine Calls.mono (R := CallR Tryz.prog 8 Tryz.gMp Tryz.fst w (.ret (.bool true)) st9) (callsIn_fw.1 (callsIn_of_wp_marks (F := fw none) (n := 0) Tryz.func6 Tryz.body6 trivial ?_)) ?_
              · rw [Tryz.nt6]
                refine frontE_sound hcall Tryz.mixed 5 _ _ _ _ _ _ hf Tryz.gMp w _ hR0 hT0 .nil (Stp.refl _ _ _) fun M1 w1 a1 hR1 hT1 hD1 hS1 => ?_
                rw [Tryz.tail6a]
                generalize hrest : nextC (tailC 6 (bodyF Tryz.f6)) = rest at hf3
                have htl : tailC 6 (bodyF Tryz.f6) = .seq (.region 8 Tryz.fi8 false) rest := by rw [← hrest]; exact Tryz.tail6b
                refine wpIn_seq (wpIn_mono (Q := QS Tryz.prog 8 Tryz.gMp Tryz.fst w .norm tm4 st4) (wpIn_region ?_) ?_)
                · rw [Tryz.fsz7, List.range_eq_range']
                  have hlen : (Tryz.fi7.toList.take 2).length = 2 := by rw [List.length_take, Array.length_toList, Tryz.fsz7]; rfl
                  have := evOps_part hcall Tryz.fi7 (M0 := Tryz.gMp) (st0 := Tryz.fst) (w0 := w) (Q := QS Tryz.prog 8 Tryz.gMp Tryz.fst w .norm tm4 st4) 4 (Tryz.fi7.toList.take 2) 0 tm1 st1 tm2 st2 (fun i o hi => by
                    rw [Nat.zero_add, ← Array.getElem?_toList]
                    rw [List.getElem?_take] at hi
                    split at hi
                    · exact hi
                    · cases hi) hf1 M1 w1 a1 hR1 hT1 hD1 hS1 (fun M2 w2 a2 hR2 hT2 hD2 hS2 => by
                    rw [hlen]
                    have e23 := (h23 ▸ hT2.get 23).int
                    refine rem_op (k := 2) (m := 3) Tryz.fo7_at Tryz.fo7_g Tryz.fo7_op e23 (by decide) ha ?_
                    have hl2 : (Tryz.fi7.toList.drop 3).length = 3 := by rw [List.length_drop, Array.length_toList, Tryz.fsz7]
                    have := evOps_sound hcall (ro := true) (r := none) (fun _ => rfl) Tryz.fi7 (M0 := Tryz.gMp) (st0 := Tryz.fst) (w0 := w) (Tryz.fi7.toList.drop 3) 3 rfl M2 st2 w2 _ (a2.put Tryz.fo7.dst (.int .u8 r)) hev7 hR2 (by rw [Tryz.fo7_d]; exact hT2.put (some 24) (.flat rfl)) (hD2.put _ _ _) hS2
                    rw [hl2] at this
                    exact this)
                  rw [hlen] at this
                  exact this
                · rintro e a4 w4 ⟨M4, q1, q2, q3, q4, q5⟩
                  cases e <;> first | (cases q1; done) | skip
                  show (tailC 6 (bodyF Tryz.f6)).wpIn _ _ _ _ _ _
                  rw [htl]
                  refine wpIn_seq (wpIn_mono (Q := QS Tryz.prog 8 Tryz.gMp Tryz.fst w .norm tm7 st7) (wpIn_region ?_) ?_)
                  · rw [Tryz.fsz8, List.range_eq_range']
                    have hlen : (Tryz.fi8.toList.take 2).length = 2 := by rw [List.length_take, Array.length_toList, Tryz.fsz8]; rfl
                    have := evOps_part hcall Tryz.fi8 (M0 := Tryz.gMp) (st0 := Tryz.fst) (w0 := w) (Q := QS Tryz.prog 8 Tryz.gMp Tryz.fst w .norm tm7 st7) 4 (Tryz.fi8.toList.take 2) 0 tm4 st4 tm5 st5 (fun i o hi => by
                      rw [Nat.zero_add, ← Array.getElem?_toList]
                      rw [List.getElem?_take] at hi
                      split at hi
                      · exact hi
                      · cases hi) hf2 M4 w4 a4 q3 q2 q5 q4 (fun M2 w2 a2 hR2 hT2 hD2 hS2 => by
                      rw [hlen]
                      have e28 := (h28 ▸ hT2.get 28).int
                      refine rem_op (k := 2) (m := 3) Tryz.fo8_at Tryz.fo8_g Tryz.fo8_op e28 (by decide) hb ?_
                      have hl2 : (Tryz.fi8.toList.drop 3).length = 3 := by rw [List.length_drop, Array.length_toList, Tryz.fsz8]
                      have := evOps_sound hcall (ro := true) (r := none) (fun _ => rfl) Tryz.fi8 (M0 := Tryz.gMp) (st0 := Tryz.fst) (w0 := w) (Tryz.fi8.toList.drop 3) 3 rfl M2 st5 w2 _ (a2.put Tryz.fo8.dst (.int .u8 q)) hev8 hR2 (by rw [Tryz.fo8_d]; exact hT2.put (some 29) (.flat rfl)) (hD2.put _ _ _) hS2
                      rw [hl2] at this
                      exact this)
                    rw [hlen] at this
                    exact this
                  · rintro e a7 w7 ⟨M7, q1, q2, q3, q4, q5⟩
                    cases e <;> first | (cases q1; done) | skip
                    refine wpIn_mono ((evC_sound (r := none) hcall Tryz.mixed (fun _ => rfl) rest).1 tm7 st7 .ret tm9 st9 hf3 M7 w7 a7 q3 q2 q5) ?_
                    rintro e a9 w9 ⟨M9, p1, p2, p3, p4, p5⟩
                    cases e <;> first | (cases p1; done) | skip
                    have hl : leaveE E C Tryz.f6 tm9 tm9.ds .ret st9 = some (.ret (.bool true), st9) := by
                      rw [hds.1]
                      show (match resL E.P st9 tm9 Tryz.f6.results.toList with
                        | some vs => some (Res.ret (tupE vs), st9)
                        | none => none) = _
                      rw [Tryz.res6]
                      simp only [resL, resE, hds.2.1]
                      rfl
                    have hcall' : CallOk E.P E.G C := by rw [hP, hG]; exact hcall
                    have hRR : RR E.P E.G M9 st9 w9 := by rw [hP, hG]; exact p3
                    have := leaveE_sound hE (rec := C) hcall' (fn := Tryz.f6) tm9.ds .ret st9 M9 w9 a9.defers .returning hl hRR p2 p5 (q4.trans p4) .ret
                    rw [hP, hG] at this
                    exact this
              · rintro e w' ⟨M', q1, q2, q3⟩
                cases e with
                | returned v' =>
                  have : v' = .bool true := VR.bool q1
                  refine ⟨by rw [this], ⟨q3.os, q3.tape, q3.output, q3.size, fun b hb' => ?_⟩⟩
                  rcases q3.frame b hb' with e | ⟨i, L, e, -, hlt⟩
                  · exact e
                  · exfalso
                    have h1 : i = 1 := by
                      unfold Tryz.gMp at e
                      split at e
                      · rename_i hi; rwa [Nat.beq_eq] at hi
                      · cases e
                    subst h1
                    have hlt : 1 < st9.ver 1 := hlt
                    omega
                | panicked c => cases q1
                | outgrown => cases q1
end Go.Wx
end PFndS
