/- A part of the proof of PurityKnownCardSaid: the compiled functions, the answers found by evaluation, and what follows of them. There is no further condition. -/
import Derived.Test.YtooommicgmbmiaaGreatDoorX12
namespace Go.Proofs
open Go.Shelf
/-- The numbers of the shelf, in this program. -/
def Tryz.lays143_ren : Ren where
  f := fun x =>
    match x with
    | 143 => 13
    | 219 => 28
    | 217 => 55
    | 225 => 56
    | 224 => 57
    | 267 => 58
    | 266 => 93
    | 314 => 94
    | n => n
  t := fun x =>
    match x with
    | 9 => 9
    | 3 => 3
    | 4 => 4
    | 5 => 5
    | 46 => 135
    | 146 => 179
    | 51 => 178
    | n => n
  g := fun x =>
    match x with
    | 1 => 0
    | n => n
theorem Tryz.lays143 : Lays.n143 Tryz.prog Tryz.lays143_ren where
  mixed := by kernel_rfl
  f143 := Tryz.func13.trans (by kernel_rfl)
  f217 := Tryz.func55.trans (by kernel_rfl)
  f219 := Tryz.func28.trans (by kernel_rfl)
  f224 := Tryz.func57.trans (by kernel_rfl)
  f225 := Tryz.func56.trans (by kernel_rfl)
  f266 := Tryz.func93.trans (by kernel_rfl)
  f267 := Tryz.func58.trans (by kernel_rfl)
  f314 := Tryz.func94.trans (by kernel_rfl)
  t3 := Tryz.underlying3
  a3 := Tryz.isAgg3
  z3 := Tryz.sizeOf3
  v3 := Tryz.zeroValue3
  t4 := Tryz.underlying4
  a4 := Tryz.isAgg4
  z4 := Tryz.sizeOf4
  v4 := Tryz.zeroValue4
  t5 := Tryz.underlying5
  a5 := Tryz.isAgg5
  z5 := Tryz.sizeOf5
  v5 := Tryz.zeroValue5
  t9 := Tryz.underlying9
  a9 := Tryz.isAgg9
  z9 := Tryz.sizeOf9
  v9 := Tryz.zeroValue9
  t46 := Tryz.underlying135
  a46 := Tryz.isAgg135
  z46 := Tryz.sizeOf135
  v46 := Tryz.zeroValue135
  t51 := Tryz.underlying178
  a51 := Tryz.isAgg178
  z51 := Tryz.sizeOf178
  v51 := Tryz.zeroValue178
  t146 := Tryz.underlying179
  a146 := Tryz.isAgg179
  z146 := Tryz.sizeOf179
  v146 := Tryz.zeroValue179
  g1 := by kernel_rfl
end Go.Proofs
