import Derived.Shelf.Strings.OnBuilder
import Derived.Test.YtlfhlkknakiafaaGreatDoorProg
import Derived.Shelf.Sort.Plain
import Derived.Shelf.Slices.In.SortNone
set_option linter.unusedSimpArgs false
set_option linter.unusedVariables false
namespace Go.Proofs
open Go.Shelf
def Tryz.lays156_ren:Go.Shelf.Ren:=⟨fun | 156=>320 | 165=>386 | 166=>316 | 169=>317 | 240=>388 | 241=>419 | 276=>420 | 277=>431 | n=>n,fun | 31=>105 | 9=>9 | 3=>3 | 4=>4 | 0=>0 | 20=>20 | 72=>338 | 76=>341 | 70=>336 | 37=>307 | 75=>340 | 127=>386 | 164=>409 | 5=>5 | 80=>243 | n=>n,fun | n=>n⟩
theorem Tryz.lays156:Go.Proofs.Lays.n156 Tryz.prog Tryz.lays156_ren:={
 mixed:=by kernel_rfl
 f156:=Tryz.func320.trans (congrArg some (by kernel_rfl))
 f165:=Tryz.func386.trans (congrArg some (by kernel_rfl))
 f166:=Tryz.func316.trans (congrArg some (by kernel_rfl))
 f169:=Tryz.func317.trans (congrArg some (by kernel_rfl))
 f240:=Tryz.func388.trans (congrArg some (by kernel_rfl))
 f241:=Tryz.func419.trans (congrArg some (by kernel_rfl))
 f276:=Tryz.func420.trans (congrArg some (by kernel_rfl))
 f277:=Tryz.func431.trans (congrArg some (by kernel_rfl))
 t0:=Tryz.underlying0
 a0:=Tryz.isAgg0
 z0:=Tryz.sizeOf0
 v0:=Tryz.zeroValue0
 t3:=Tryz.underlying3
 a3:=Tryz.isAgg3
 z3:=Tryz.sizeOf3
 v3:=Tryz.zeroValue3
 t4:=Tryz.underlying4
 a4:=Tryz.isAgg4
 z4:=Tryz.sizeOf4
 v4:=Tryz.zeroValue4
 t9:=Tryz.underlying9
 a9:=Tryz.isAgg9
 z9:=Tryz.sizeOf9
 v9:=Tryz.zeroValue9
 t20:=Tryz.underlying20
 a20:=Tryz.isAgg20
 z20:=Tryz.sizeOf20
 v20:=Tryz.zeroValue20
 t31:=Tryz.underlying105
 a31:=Tryz.isAgg105
 z31:=Tryz.sizeOf105
 v31:=Tryz.zeroValue105
 t37:=Tryz.underlying307
 a37:=Tryz.isAgg307
 z37:=Tryz.sizeOf307
 v37:=Tryz.zeroValue307
 t70:=Tryz.underlying336
 a70:=Tryz.isAgg336
 z70:=Tryz.sizeOf336
 v70:=Tryz.zeroValue336
 t72:=Tryz.underlying338
 a72:=Tryz.isAgg338
 z72:=Tryz.sizeOf338
 v72:=Tryz.zeroValue338
 t75:=Tryz.underlying340
 a75:=Tryz.isAgg340
 z75:=Tryz.sizeOf340
 v75:=Tryz.zeroValue340
 t76:=Tryz.underlying341
 a76:=Tryz.isAgg341
 z76:=Tryz.sizeOf341
 v76:=Tryz.zeroValue341
 t127:=Tryz.underlying386
 a127:=Tryz.isAgg386
 z127:=Tryz.sizeOf386
 v127:=Tryz.zeroValue386
 t164:=Tryz.underlying409
 a164:=Tryz.isAgg409
 z164:=Tryz.sizeOf409
 v164:=Tryz.zeroValue409 }
theorem Tryz.Builder_Extra_156:Builder.Extra Tryz.prog Tryz.lays156_ren:={
 sizeBuilder:=by kernel_rfl
 liesBuilder:=by kernel_rfl
 t5:=Tryz.underlying5
 a5:=Tryz.isAgg5
 z5:=Tryz.sizeOf5
 v5:=Tryz.zeroValue5
 infoByte:=by kernel_rfl
 cellsByte:=by kernel_rfl
 sizeByte:=by kernel_rfl
 neB5:=by decide }
open Go.RowKit in
theorem Tryz.strings_Join_none (a:Option Addr) (c:Nat) (sep:ByteArray) (w:World) :
  Calls Tryz.prog 320 #[.slice a 0 c,.string sep] w fun e w'=>e=.returned (.string ⟨#[]⟩)/\w'=w:=Any.strings_Join_none Tryz.lays156 Tryz.Builder_Extra_156 a c sep w
open Go.RowKit in
theorem Tryz.strings_Join (bk o c:Nat) (xs:List ByteArray) (sep:ByteArray) (w:World) (hcells:∀ (j:Nat) x,xs[j]? = some x->w.cell? ⟨bk,o+j,none⟩=some (.string x)) (hbk:bk<w.heap.size) (hN:xs.length<=140737488355328) (hcap:xs.length<=c) (hlen:(Lib.join (xs.map (·.data.toList)) sep.data.toList).length<=140737488355328) :
  Calls Tryz.prog 320 #[.slice (some ⟨bk,o,none⟩) xs.length c,.string sep] w fun e w'=>e=.returned (.string ⟨(Lib.join (xs.map (·.data.toList)) sep.data.toList).toArray⟩)/\Below w.heap.size w w':=Any.strings_Join Tryz.lays156 Tryz.Builder_Extra_156 bk o c xs sep w hcells hbk hN hcap hlen
end Go.Proofs
namespace Go.Proofs
open Go.Shelf
def Tryz.lays189_ren:Go.Shelf.Ren:=⟨fun | 189=>212 | 125=>280 | 257=>285 | 128=>347 | 129=>348 | 294=>351 | 295=>352 | 296=>353 | 297=>354 | 298=>355 | 299=>356 | 216=>357 | 300=>358 | 301=>359 | 328=>405 | 329=>392 | 330=>393 | 331=>406 | 332=>407 | 215=>396 | 343=>425 | n=>n,fun | 28=>22 | 3=>3 | 46=>310 | 0=>0 | 51=>345 | 53=>301 | 4=>4 | 183=>361 | 182=>360 | 131=>147 | 5=>5 | 9=>9 | 218=>389 | 222=>393 | 228=>411 | 229=>242 | n=>n,fun | n=>n⟩
theorem Tryz.lays189:Go.Proofs.Lays.n189 Tryz.prog Tryz.lays189_ren:={
 mixed:=by kernel_rfl
 f125:=Tryz.func280.trans (congrArg some (by kernel_rfl))
 f128:=Tryz.func347.trans (congrArg some (by kernel_rfl))
 f129:=Tryz.func348.trans (congrArg some (by kernel_rfl))
 f189:=Tryz.func212.trans (congrArg some (by kernel_rfl))
 f215:=Tryz.func396.trans (congrArg some (by kernel_rfl))
 f216:=Tryz.func357.trans (congrArg some (by kernel_rfl))
 f257:=Tryz.func285.trans (congrArg some (by kernel_rfl))
 f294:=Tryz.func351.trans (congrArg some (by kernel_rfl))
 f295:=Tryz.func352.trans (congrArg some (by kernel_rfl))
 f296:=Tryz.func353.trans (congrArg some (by kernel_rfl))
 f297:=Tryz.func354.trans (congrArg some (by kernel_rfl))
 f298:=Tryz.func355.trans (congrArg some (by kernel_rfl))
 f299:=Tryz.func356.trans (congrArg some (by kernel_rfl))
 f300:=Tryz.func358.trans (congrArg some (by kernel_rfl))
 f301:=Tryz.func359.trans (congrArg some (by kernel_rfl))
 f328:=Tryz.func405.trans (congrArg some (by kernel_rfl))
 f329:=Tryz.func392.trans (congrArg some (by kernel_rfl))
 f330:=Tryz.func393.trans (congrArg some (by kernel_rfl))
 f331:=Tryz.func406.trans (congrArg some (by kernel_rfl))
 f332:=Tryz.func407.trans (congrArg some (by kernel_rfl))
 f343:=Tryz.func425.trans (congrArg some (by kernel_rfl))
 t0:=Tryz.underlying0
 a0:=Tryz.isAgg0
 z0:=Tryz.sizeOf0
 v0:=Tryz.zeroValue0
 t3:=Tryz.underlying3
 a3:=Tryz.isAgg3
 z3:=Tryz.sizeOf3
 v3:=Tryz.zeroValue3
 t4:=Tryz.underlying4
 a4:=Tryz.isAgg4
 z4:=Tryz.sizeOf4
 v4:=Tryz.zeroValue4
 t5:=Tryz.underlying5
 a5:=Tryz.isAgg5
 z5:=Tryz.sizeOf5
 v5:=Tryz.zeroValue5
 t9:=Tryz.underlying9
 a9:=Tryz.isAgg9
 z9:=Tryz.sizeOf9
 v9:=Tryz.zeroValue9
 t28:=Tryz.underlying22
 a28:=Tryz.isAgg22
 z28:=Tryz.sizeOf22
 v28:=Tryz.zeroValue22
 t46:=Tryz.underlying310
 a46:=Tryz.isAgg310
 z46:=Tryz.sizeOf310
 v46:=Tryz.zeroValue310
 t51:=Tryz.underlying345
 a51:=Tryz.isAgg345
 z51:=Tryz.sizeOf345
 v51:=Tryz.zeroValue345
 t53:=Tryz.underlying301
 a53:=Tryz.isAgg301
 z53:=Tryz.sizeOf301
 v53:=Tryz.zeroValue301
 t131:=Tryz.underlying147
 a131:=Tryz.isAgg147
 z131:=Tryz.sizeOf147
 v131:=Tryz.zeroValue147
 t182:=Tryz.underlying360
 a182:=Tryz.isAgg360
 z182:=Tryz.sizeOf360
 v182:=Tryz.zeroValue360
 t183:=Tryz.underlying361
 a183:=Tryz.isAgg361
 z183:=Tryz.sizeOf361
 v183:=Tryz.zeroValue361
 t218:=Tryz.underlying389
 a218:=Tryz.isAgg389
 z218:=Tryz.sizeOf389
 v218:=Tryz.zeroValue389
 t222:=Tryz.underlying393
 a222:=Tryz.isAgg393
 z222:=Tryz.sizeOf393
 v222:=Tryz.zeroValue393
 t228:=Tryz.underlying411
 a228:=Tryz.isAgg411
 z228:=Tryz.sizeOf411
 v228:=Tryz.zeroValue411
 t229:=Tryz.underlying242
 a229:=Tryz.isAgg242
 z229:=Tryz.sizeOf242
 v229:=Tryz.zeroValue242 }
open Go.Sort Go.RowKit in
theorem Tryz.slices_Sort_int (blk off cap:Nat) (zs:List Int) (w:World) (hH:Holds (Value.int .i64) w blk off zs.toArray) (hblk:blk<w.heap.size) (hsz:zs.length<4611686018427387904) :
  Calls Tryz.prog 212 #[.slice (some ⟨blk,off,none⟩) zs.length cap] w fun e w' =>
   e=.returned (.tuple #[])/\∃ n os,w'=grow (putRow (Value.int .i64) (Sort.ahead w n) blk off (zs.mergeSort fun x y=>decide (x<=y)).toArray) os:=Any.slices_Sort_int Tryz.lays189 blk off cap zs w hH hblk hsz
open Go.RowKit Go.Sort in
theorem Tryz.slices_Sort_int_none (p:Option Addr) (cap:Nat) (w:World) :
  Calls Tryz.prog 212 #[.slice p 0 cap] w fun e w'=>e=.returned (.tuple #[])/\w'=w:=Any.slices_Sort_int_none Tryz.lays189 p cap w
end Go.Proofs
