import Derived.Shelf.Strings.OnBuilder
import Derived.Test.YtlfhlkknakiafaaGreatDoorProg
set_option linter.unusedSimpArgs false
set_option linter.unusedVariables false
namespace Go.Proofs
open Go.Shelf
def Tryz.lays156_ren : Go.Shelf.Ren := ⟨fun | 156 => 320 | 165 => 386 | 166 => 316 | 169 => 317 | 240 => 388 | 241 => 419 | 276 => 420 | 277 => 431 | n => n, fun | 31 => 105 | 9 => 9 | 3 => 3 | 4 => 4 | 0 => 0 | 20 => 20 | 72 => 338 | 76 => 341 | 70 => 336 | 37 => 307 | 75 => 340 | 127 => 386 | 164 => 409 | 5 => 5 | 80 => 243 | n => n, fun | n => n⟩
theorem Tryz.lays156 : Go.Proofs.Lays.n156 Tryz.prog Tryz.lays156_ren := {
 mixed := by kernel_rfl
 f156 := Tryz.func320.trans (congrArg some (by kernel_rfl))
 f165 := Tryz.func386.trans (congrArg some (by kernel_rfl))
 f166 := Tryz.func316.trans (congrArg some (by kernel_rfl))
 f169 := Tryz.func317.trans (congrArg some (by kernel_rfl))
 f240 := Tryz.func388.trans (congrArg some (by kernel_rfl))
 f241 := Tryz.func419.trans (congrArg some (by kernel_rfl))
 f276 := Tryz.func420.trans (congrArg some (by kernel_rfl))
 f277 := Tryz.func431.trans (congrArg some (by kernel_rfl))
 t0 := Tryz.underlying0
 a0 := Tryz.isAgg0
 z0 := Tryz.sizeOf0
 v0 := Tryz.zeroValue0
 t3 := Tryz.underlying3
 a3 := Tryz.isAgg3
 z3 := Tryz.sizeOf3
 v3 := Tryz.zeroValue3
 t4 := Tryz.underlying4
 a4 := Tryz.isAgg4
 z4 := Tryz.sizeOf4
 v4 := Tryz.zeroValue4
 t9 := Tryz.underlying9
 a9 := Tryz.isAgg9
 z9 := Tryz.sizeOf9
 v9 := Tryz.zeroValue9
 t20 := Tryz.underlying20
 a20 := Tryz.isAgg20
 z20 := Tryz.sizeOf20
 v20 := Tryz.zeroValue20
 t31 := Tryz.underlying105
 a31 := Tryz.isAgg105
 z31 := Tryz.sizeOf105
 v31 := Tryz.zeroValue105
 t37 := Tryz.underlying307
 a37 := Tryz.isAgg307
 z37 := Tryz.sizeOf307
 v37 := Tryz.zeroValue307
 t70 := Tryz.underlying336
 a70 := Tryz.isAgg336
 z70 := Tryz.sizeOf336
 v70 := Tryz.zeroValue336
 t72 := Tryz.underlying338
 a72 := Tryz.isAgg338
 z72 := Tryz.sizeOf338
 v72 := Tryz.zeroValue338
 t75 := Tryz.underlying340
 a75 := Tryz.isAgg340
 z75 := Tryz.sizeOf340
 v75 := Tryz.zeroValue340
 t76 := Tryz.underlying341
 a76 := Tryz.isAgg341
 z76 := Tryz.sizeOf341
 v76 := Tryz.zeroValue341
 t127 := Tryz.underlying386
 a127 := Tryz.isAgg386
 z127 := Tryz.sizeOf386
 v127 := Tryz.zeroValue386
 t164 := Tryz.underlying409
 a164 := Tryz.isAgg409
 z164 := Tryz.sizeOf409
 v164 := Tryz.zeroValue409 }
theorem Tryz.Builder_Extra_156 : Builder.Extra Tryz.prog Tryz.lays156_ren := {
 sizeBuilder := by kernel_rfl
 liesBuilder := by kernel_rfl
 t5 := Tryz.underlying5
 a5 := Tryz.isAgg5
 z5 := Tryz.sizeOf5
 v5 := Tryz.zeroValue5
 infoByte := by kernel_rfl
 cellsByte := by kernel_rfl
 sizeByte := by kernel_rfl
 neB5 := by decide }
open Go.RowKit in
theorem Tryz.strings_Join_none (a : Option Addr) (c : Nat) (sep : ByteArray) (w : World) :
  Calls Tryz.prog 320 #[.slice a 0 c, .string sep] w fun e w' => e = .returned (.string ⟨#[]⟩) ∧ w' = w := Any.strings_Join_none Tryz.lays156 Tryz.Builder_Extra_156 a c sep w
open Go.RowKit in
theorem Tryz.strings_Join (bk o c : Nat) (xs : List ByteArray) (sep : ByteArray) (w : World) (hcells : ∀ (j : Nat) x, xs[j]? = some x → w.cell? ⟨bk, o + j, none⟩ = some (.string x)) (hbk : bk < w.heap.size) (hN : xs.length ≤ 140737488355328) (hcap : xs.length ≤ c) (hlen : (Lib.join (xs.map (·.data.toList)) sep.data.toList).length ≤ 140737488355328) :
  Calls Tryz.prog 320 #[.slice (some ⟨bk, o, none⟩) xs.length c, .string sep] w fun e w' => e = .returned (.string ⟨(Lib.join (xs.map (·.data.toList)) sep.data.toList).toArray⟩) ∧ Below w.heap.size w w' := Any.strings_Join Tryz.lays156 Tryz.Builder_Extra_156 bk o c xs sep w hcells hbk hN hcap hlen
end Go.Proofs
