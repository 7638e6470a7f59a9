/- Parts of the proof. -/
import Derived.Shelf.Strings.Builder1
import Derived.Shelf.Strings.BuilderF
import Derived.Shelf.Strings.BuilderK
import Derived.Shelf.Strconv.Itoa0
import Derived.Shelf.Strconv.Itoa1
import Derived.Shelf.LaysM
import Derived.Shelf.Strconv.Itoa2
import Derived.Shelf.Strconv.Itoa3
import Derived.Shelf.Sort.Plain
import Derived.Shelf.Slices.In.SortNone
import Derived.Test.YtllbabjgpdmblaaDoorProg
set_option linter.unusedSimpArgs false
set_option linter.unusedVariables false
set_option linter.unusedSectionVars false
namespace Go.Proofs
open Go.Shelf
def Tryd.lays169_ren : Go.Shelf.Ren:=⟨fun | 169=>70 | n=>n,fun | 70=>120 | 9=>9 | 0=>0 | 72=>122 | 37=>60 | 127=>136 | 3=>3 | 5=>5 | n=>n,fun | n=>n⟩
theorem Tryd.lays169 : Go.Proofs.Lays.n169 Tryd.prog Tryd.lays169_ren:={
 mixed:=by kernel_rfl
 f169:=Tryd.func70.trans (congrArg some (by kernel_rfl))
 t0:=Tryd.underlying0
 a0:=Tryd.isAgg0
 z0:=Tryd.sizeOf0
 v0:=Tryd.zeroValue0
 t3:=Tryd.underlying3
 a3:=Tryd.isAgg3
 z3:=Tryd.sizeOf3
 v3:=Tryd.zeroValue3
 t9:=Tryd.underlying9
 a9:=Tryd.isAgg9
 z9:=Tryd.sizeOf9
 v9:=Tryd.zeroValue9
 t37:=Tryd.underlying60
 a37:=Tryd.isAgg60
 z37:=Tryd.sizeOf60
 v37:=Tryd.zeroValue60
 t70:=Tryd.underlying120
 a70:=Tryd.isAgg120
 z70:=Tryd.sizeOf120
 v70:=Tryd.zeroValue120
 t72:=Tryd.underlying122
 a72:=Tryd.isAgg122
 z72:=Tryd.sizeOf122
 v72:=Tryd.zeroValue122
 t127:=Tryd.underlying136
 a127:=Tryd.isAgg136
 z127:=Tryd.sizeOf136
 v127:=Tryd.zeroValue136 }
theorem Tryd.Builder_Extra_169 : Builder.Extra Tryd.prog Tryd.lays169_ren:={
 sizeBuilder:=by kernel_rfl
 liesBuilder:=by kernel_rfl
 t5:=Tryd.underlying5
 a5:=Tryd.isAgg5
 z5:=Tryd.sizeOf5
 v5:=Tryd.zeroValue5
 infoByte:=by kernel_rfl
 cellsByte:=by kernel_rfl
 sizeByte:=by kernel_rfl
 neB5:=by decide }
open Go.RowKit in
open Go.RowKit in
open Go.RowKit in
open Go.RowKit in
open Go.RowKit in
open Go.RowKit in
theorem Tryd.Builder_String_any_f (B b:Nat)(l:List UInt8)(w:World)(h:Lib.IsBuilderF 122 5 B b (Lib.byteCells l) w)(hBw:B≤w.heap.size) :
  Calls Tryd.prog 70 #[.pointer (some ⟨b,0,none⟩)] w fun e w'=>e=.returned (.string ⟨l.toArray⟩)∧(Lib.IsBuilderF 122 5 B b (Lib.byteCells l) w'∧Below B w w'):=Any.Builder_String_any_f Tryd.lays169 Tryd.Builder_Extra_169 B b l w h hBw
open Go.RowKit in
open Go.RowKit in
open Go.RowKit in
open Go.Lib in
open Go.Lib in
open Go.Lib in
open Go.Lib in
open Go.RowKit Go.Sort Go.Lib in
open Go.RowKit Go.Sort Go.Lib in
open Go.RowKit Go.Sort Go.Lib in
open Go.RowKit Go.Sort Go.Lib in
open Go.RowKit Go.Sort Go.Lib in
def Tryd.laysM171_ren : Go.Shelf.Ren:=⟨fun | 171=>68 | 243=>80 | 246=>93 | 283=>100 | 284=>101 | 285=>102 | 286=>103 | 129=>91 | 317=>105 | 318=>106 | 319=>107 | 320=>108 | 337=>109 | 338=>110 | n=>n,fun | 3=>3 | 9=>9 | 2=>2 | 4=>4 | 171=>157 | 0=>0 | 53=>147 | 37=>60 | 5=>5 | 173=>159 | 212=>166 | 51=>145 | 20=>20 | 213=>167 | 46=>134 | 232=>168 | 233=>169 | n=>n,fun | 17=>0 | 18=>1 | 19=>2 | n=>n⟩
theorem Tryd.laysM171 : Go.Proofs.LaysM.n171 Tryd.prog Tryd.laysM171_ren:={
 mixed:=by kernel_rfl
 f129:=Tryd.func91.trans (congrArg some (by kernel_rfl))
 f171:=Tryd.func68.trans (congrArg some (by kernel_rfl))
 f243:=Tryd.func80.trans (congrArg some (by kernel_rfl))
 f246:=Tryd.func93.trans (congrArg some (by kernel_rfl))
 f283:=Tryd.func100.trans (congrArg some (by kernel_rfl))
 f284:=Tryd.func101.trans (congrArg some (by kernel_rfl))
 f285:=Tryd.func102.trans (congrArg some (by kernel_rfl))
 f286:=Tryd.func103.trans (congrArg some (by kernel_rfl))
 f317:=Tryd.func105.trans (congrArg some (by kernel_rfl))
 f318:=Tryd.func106.trans (congrArg some (by kernel_rfl))
 f319:=Tryd.func107.trans (congrArg some (by kernel_rfl))
 f320:=Tryd.func108.trans (congrArg some (by kernel_rfl))
 f337:=Tryd.func109.trans (congrArg some (by kernel_rfl))
 f338:=Tryd.func110.trans (congrArg some (by kernel_rfl))
 t0:=Tryd.underlying0
 a0:=Tryd.isAgg0
 z0:=Tryd.sizeOf0
 v0:=Tryd.zeroValue0
 t2:=Tryd.underlying2
 a2:=Tryd.isAgg2
 z2:=Tryd.sizeOf2
 v2:=Tryd.zeroValue2
 t3:=Tryd.underlying3
 a3:=Tryd.isAgg3
 z3:=Tryd.sizeOf3
 v3:=Tryd.zeroValue3
 t4:=Tryd.underlying4
 a4:=Tryd.isAgg4
 z4:=Tryd.sizeOf4
 v4:=Tryd.zeroValue4
 t5:=Tryd.underlying5
 a5:=Tryd.isAgg5
 z5:=Tryd.sizeOf5
 v5:=Tryd.zeroValue5
 t9:=Tryd.underlying9
 a9:=Tryd.isAgg9
 z9:=Tryd.sizeOf9
 v9:=Tryd.zeroValue9
 t20:=Tryd.underlying20
 a20:=Tryd.isAgg20
 z20:=Tryd.sizeOf20
 v20:=Tryd.zeroValue20
 t37:=Tryd.underlying60
 a37:=Tryd.isAgg60
 z37:=Tryd.sizeOf60
 v37:=Tryd.zeroValue60
 t46:=Tryd.underlying134
 a46:=Tryd.isAgg134
 z46:=Tryd.sizeOf134
 v46:=Tryd.zeroValue134
 t51:=Tryd.underlying145
 a51:=Tryd.isAgg145
 z51:=Tryd.sizeOf145
 v51:=Tryd.zeroValue145
 t53:=Tryd.underlying147
 a53:=Tryd.isAgg147
 z53:=Tryd.sizeOf147
 v53:=Tryd.zeroValue147
 t171:=Tryd.underlying157
 a171:=Tryd.isAgg157
 z171:=Tryd.sizeOf157
 v171:=Tryd.zeroValue157
 t173:=Tryd.underlying159
 a173:=Tryd.isAgg159
 z173:=Tryd.sizeOf159
 v173:=Tryd.zeroValue159
 t212:=Tryd.underlying166
 a212:=Tryd.isAgg166
 z212:=Tryd.sizeOf166
 v212:=Tryd.zeroValue166
 t213:=Tryd.underlying167
 a213:=Tryd.isAgg167
 z213:=Tryd.sizeOf167
 t232:=Tryd.underlying168
 a232:=Tryd.isAgg168
 z232:=Tryd.sizeOf168
 v232:=Tryd.zeroValue168
 t233:=Tryd.underlying169
 a233:=Tryd.isAgg169
 z233:=Tryd.sizeOf169
 v233:=Tryd.zeroValue169
 g17:=by kernel_rfl
 g18:=by kernel_rfl
 g19:=by kernel_rfl
 i0:=by kernel_rfl
 i2:=by kernel_rfl
 i3:=by kernel_rfl
 i4:=by kernel_rfl
 i5:=by kernel_rfl
 i9:=by kernel_rfl
 i20:=by kernel_rfl
 i37:=by kernel_rfl
 i46:=by kernel_rfl
 i51:=by kernel_rfl
 i53:=by kernel_rfl
 i171:=by kernel_rfl
 i173:=by kernel_rfl
 i212:=by kernel_rfl
 i232:=by kernel_rfl
 i233:=by kernel_rfl
 m17:=by kernel_rfl
 m18:=by kernel_rfl
 m19:=by kernel_rfl }
open Go.RowKit Go.Sort Go.Lib in
theorem Tryd.strconv_Itoa (n:Int) (h0:-9223372036854775808≤n) (h1:n≤9223372036854775807) (w:World) (htab:Lib.TabIs Tryd.prog w "internal/strconv.uint64pow10" .u64 Lib.pow10Tab) :
  Calls Tryd.prog 68 #[.int .i64 n] w fun e w'=>e=.returned (.string ⟨(Lib.itoa n).toArray⟩)∧∃ k os,w'=grow (w.drewN k) os:=Any.strconv_Itoa Tryd.laysM171 n h0 h1 w htab
open Go.RowKit Go.Sort Go.Lib in
def Tryd.lays189_ren : Go.Shelf.Ren:=⟨fun | 189=>57 | 125=>75 | 257=>74 | 128=>90 | 129=>91 | 294=>81 | 295=>82 | 296=>83 | 297=>84 | 298=>85 | 299=>86 | 216=>87 | 300=>88 | 301=>89 | 328=>94 | 329=>95 | 330=>96 | 331=>97 | 332=>98 | 215=>99 | 343=>104 | n=>n,fun | 28=>62 | 3=>3 | 46=>134 | 0=>0 | 51=>145 | 53=>147 | 4=>4 | 183=>139 | 182=>138 | 131=>106 | 5=>5 | 9=>9 | 218=>151 | 222=>155 | 228=>161 | 229=>162 | n=>n,fun | n=>n⟩
theorem Tryd.lays189 : Go.Proofs.Lays.n189 Tryd.prog Tryd.lays189_ren:={
 mixed:=by kernel_rfl
 f125:=Tryd.func75.trans (congrArg some (by kernel_rfl))
 f128:=Tryd.func90.trans (congrArg some (by kernel_rfl))
 f129:=Tryd.func91.trans (congrArg some (by kernel_rfl))
 f189:=Tryd.func57.trans (congrArg some (by kernel_rfl))
 f215:=Tryd.func99.trans (congrArg some (by kernel_rfl))
 f216:=Tryd.func87.trans (congrArg some (by kernel_rfl))
 f257:=Tryd.func74.trans (congrArg some (by kernel_rfl))
 f294:=Tryd.func81.trans (congrArg some (by kernel_rfl))
 f295:=Tryd.func82.trans (congrArg some (by kernel_rfl))
 f296:=Tryd.func83.trans (congrArg some (by kernel_rfl))
 f297:=Tryd.func84.trans (congrArg some (by kernel_rfl))
 f298:=Tryd.func85.trans (congrArg some (by kernel_rfl))
 f299:=Tryd.func86.trans (congrArg some (by kernel_rfl))
 f300:=Tryd.func88.trans (congrArg some (by kernel_rfl))
 f301:=Tryd.func89.trans (congrArg some (by kernel_rfl))
 f328:=Tryd.func94.trans (congrArg some (by kernel_rfl))
 f329:=Tryd.func95.trans (congrArg some (by kernel_rfl))
 f330:=Tryd.func96.trans (congrArg some (by kernel_rfl))
 f331:=Tryd.func97.trans (congrArg some (by kernel_rfl))
 f332:=Tryd.func98.trans (congrArg some (by kernel_rfl))
 f343:=Tryd.func104.trans (congrArg some (by kernel_rfl))
 t0:=Tryd.underlying0
 a0:=Tryd.isAgg0
 z0:=Tryd.sizeOf0
 v0:=Tryd.zeroValue0
 t3:=Tryd.underlying3
 a3:=Tryd.isAgg3
 z3:=Tryd.sizeOf3
 v3:=Tryd.zeroValue3
 t4:=Tryd.underlying4
 a4:=Tryd.isAgg4
 z4:=Tryd.sizeOf4
 v4:=Tryd.zeroValue4
 t5:=Tryd.underlying5
 a5:=Tryd.isAgg5
 z5:=Tryd.sizeOf5
 v5:=Tryd.zeroValue5
 t9:=Tryd.underlying9
 a9:=Tryd.isAgg9
 z9:=Tryd.sizeOf9
 v9:=Tryd.zeroValue9
 t28:=Tryd.underlying62
 a28:=Tryd.isAgg62
 z28:=Tryd.sizeOf62
 v28:=Tryd.zeroValue62
 t46:=Tryd.underlying134
 a46:=Tryd.isAgg134
 z46:=Tryd.sizeOf134
 v46:=Tryd.zeroValue134
 t51:=Tryd.underlying145
 a51:=Tryd.isAgg145
 z51:=Tryd.sizeOf145
 v51:=Tryd.zeroValue145
 t53:=Tryd.underlying147
 a53:=Tryd.isAgg147
 z53:=Tryd.sizeOf147
 v53:=Tryd.zeroValue147
 t131:=Tryd.underlying106
 a131:=Tryd.isAgg106
 z131:=Tryd.sizeOf106
 v131:=Tryd.zeroValue106
 t182:=Tryd.underlying138
 a182:=Tryd.isAgg138
 z182:=Tryd.sizeOf138
 v182:=Tryd.zeroValue138
 t183:=Tryd.underlying139
 a183:=Tryd.isAgg139
 z183:=Tryd.sizeOf139
 v183:=Tryd.zeroValue139
 t218:=Tryd.underlying151
 a218:=Tryd.isAgg151
 z218:=Tryd.sizeOf151
 v218:=Tryd.zeroValue151
 t222:=Tryd.underlying155
 a222:=Tryd.isAgg155
 z222:=Tryd.sizeOf155
 v222:=Tryd.zeroValue155
 t228:=Tryd.underlying161
 a228:=Tryd.isAgg161
 z228:=Tryd.sizeOf161
 v228:=Tryd.zeroValue161
 t229:=Tryd.underlying162
 a229:=Tryd.isAgg162
 z229:=Tryd.sizeOf162
 v229:=Tryd.zeroValue162 }
open Go.Sort Go.RowKit in
theorem Tryd.slices_Sort_int (blk off cap:Nat)(zs:List Int)(w:World)(hH:Holds (Value.int .i64) w blk off zs.toArray)(hblk:blk<w.heap.size)(hsz:zs.length<4611686018427387904) :
  Calls Tryd.prog 57 #[.slice (some ⟨blk,off,none⟩) zs.length cap] w fun e w' =>
   e=.returned (.tuple #[])∧∃ n os,w'=grow (putRow (Value.int .i64) (Sort.ahead w n) blk off (zs.mergeSort fun x y=>decide (x≤y)).toArray) os:=Any.slices_Sort_int Tryd.lays189 blk off cap zs w hH hblk hsz
open Go.RowKit Go.Sort in
theorem Tryd.slices_Sort_int_none (p:Option Addr)(cap:Nat)(w:World) :
  Calls Tryd.prog 57 #[.slice p 0 cap] w fun e w'=>e=.returned (.tuple #[])∧w'=w:=Any.slices_Sort_int_none Tryd.lays189 p cap w
end Go.Proofs
