import Derived.Shelf.Strings.OnBuilder
import Derived.Test.YtojbggomekgkcaaGreatProg
/- strings.Join: the contract that the kit's shelf holds, laid at this program by its own tool. -/
namespace Go.Proofs
open Go.Shelf
def Tryz.lays156_ren : Go.Shelf.Ren := ⟨fun | 156 => 363 | 165 => 380 | 166 => 381 | 169 => 382 | 240 => 405 | 241 => 406 | 276 => 421 | 277 => 422 | n => n, fun | 31 => 65 | 9 => 9 | 3 => 3 | 4 => 4 | 0 => 0 | 20 => 20 | 72 => 466 | 76 => 468 | 70 => 463 | 37 => 464 | 75 => 253 | 127 => 488 | 164 => 500 | 5 => 5 | 80 => 470 | n => n, fun | n => n⟩
theorem Tryz.lays156 : Go.Proofs.Lays.n156 Tryz.prog Tryz.lays156_ren := {
  mixed := by kernel_rfl
  f156 := Tryz.func363.trans (congrArg some (by kernel_rfl))
  f165 := Tryz.func380.trans (congrArg some (by kernel_rfl))
  f166 := Tryz.func381.trans (congrArg some (by kernel_rfl))
  f169 := Tryz.func382.trans (congrArg some (by kernel_rfl))
  f240 := Tryz.func405.trans (congrArg some (by kernel_rfl))
  f241 := Tryz.func406.trans (congrArg some (by kernel_rfl))
  f276 := Tryz.func421.trans (congrArg some (by kernel_rfl))
  f277 := Tryz.func422.trans (congrArg some (by kernel_rfl))
  t0 := Tryz.underlying0
  a0 := Tryz.isAgg0
  z0 := Tryz.sizeOf0
  v0 := Tryz.zeroValue0
  t3 := Tryz.underlying3
  a3 := Tryz.isAgg3
  z3 := Tryz.sizeOf3
  v3 := Tryz.zeroValue3
  t4 := Tryz.underlying4
  a4 := Tryz.isAgg4
  z4 := Tryz.sizeOf4
  v4 := Tryz.zeroValue4
  t9 := Tryz.underlying9
  a9 := Tryz.isAgg9
  z9 := Tryz.sizeOf9
  v9 := Tryz.zeroValue9
  t20 := Tryz.underlying20
  a20 := Tryz.isAgg20
  z20 := Tryz.sizeOf20
  v20 := Tryz.zeroValue20
  t31 := Tryz.underlying65
  a31 := Tryz.isAgg65
  z31 := Tryz.sizeOf65
  v31 := Tryz.zeroValue65
  t37 := Tryz.underlying464
  a37 := Tryz.isAgg464
  z37 := Tryz.sizeOf464
  v37 := Tryz.zeroValue464
  t70 := Tryz.underlying463
  a70 := Tryz.isAgg463
  z70 := Tryz.sizeOf463
  v70 := Tryz.zeroValue463
  t72 := Tryz.underlying466
  a72 := Tryz.isAgg466
  z72 := Tryz.sizeOf466
  v72 := Tryz.zeroValue466
  t75 := Tryz.underlying253
  a75 := Tryz.isAgg253
  z75 := Tryz.sizeOf253
  v75 := Tryz.zeroValue253
  t76 := Tryz.underlying468
  a76 := Tryz.isAgg468
  z76 := Tryz.sizeOf468
  v76 := Tryz.zeroValue468
  t127 := Tryz.underlying488
  a127 := Tryz.isAgg488
  z127 := Tryz.sizeOf488
  v127 := Tryz.zeroValue488
  t164 := Tryz.underlying500
  a164 := Tryz.isAgg500
  z164 := Tryz.sizeOf500
  v164 := Tryz.zeroValue500 }
theorem Tryz.Builder_Extra_156 : Builder.Extra Tryz.prog Tryz.lays156_ren := {
  sizeBuilder := by kernel_rfl
  liesBuilder := by kernel_rfl
  t5 := Tryz.underlying5
  a5 := Tryz.isAgg5
  z5 := Tryz.sizeOf5
  v5 := Tryz.zeroValue5
  infoByte := by kernel_rfl
  cellsByte := by kernel_rfl
  sizeByte := by kernel_rfl
  neB5 := by decide }
open Go.RowKit in
theorem Tryz.strings_Join_none (a : Option Addr) (c : Nat) (sep : ByteArray) (w : World) :
    Calls Tryz.prog 363 #[.slice a 0 c, .string sep] w fun e w' => e = .returned (.string ⟨#[]⟩) ∧ w' = w := Any.strings_Join_none Tryz.lays156 Tryz.Builder_Extra_156 a c sep w
open Go.RowKit in
theorem Tryz.strings_Join (bk o c : Nat) (xs : List ByteArray) (sep : ByteArray) (w : World) (hcells : ∀ (j : Nat) x, xs[j]? = some x → w.cell? ⟨bk, o + j, none⟩ = some (.string x)) (hbk : bk < w.heap.size) (hN : xs.length ≤ 140737488355328) (hcap : xs.length ≤ c) (hlen : (Lib.join (xs.map (·.data.toList)) sep.data.toList).length ≤ 140737488355328) :
    Calls Tryz.prog 363 #[.slice (some ⟨bk, o, none⟩) xs.length c, .string sep] w fun e w' => e = .returned (.string ⟨(Lib.join (xs.map (·.data.toList)) sep.data.toList).toArray⟩) ∧ Below w.heap.size w w' := Any.strings_Join Tryz.lays156 Tryz.Builder_Extra_156 bk o c xs sep w hcells hbk hN hcap hlen
end Go.Proofs
