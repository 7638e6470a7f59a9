/- Parts of the proof. -/
import Derived.Shelf.Strings.Builder1
import Derived.Shelf.Strings.BuilderF
import Derived.Shelf.Strings.BuilderK
import Derived.Shelf.Strconv.Itoa0
import Derived.Shelf.Strconv.Itoa1
import Derived.Shelf.LaysM
import Derived.Shelf.Strconv.Itoa2
import Derived.Shelf.Strconv.Itoa3
import Derived.Shelf.Sort.Plain
import Derived.Shelf.Slices.In.SortNone
import Derived.Test.YtllbabjgpdmblaaGreatDoorProg
import Derived.WalkKit
import Derived.Lib.OthersKept
import Derived.BigCall
import Derived.Test.YtllbabjgpdmblaaGreatDoorZTdTab
import Derived.Test.YtllbabjgpdmblaaGreatDoorZTdT
set_option linter.unusedSimpArgs false
set_option linter.unusedVariables false
set_option linter.unusedSectionVars false
namespace Go.Proofs
open Go.Shelf
def Tryz.lays169_ren : Go.Shelf.Ren:=⟨fun | 169=>72 | n=>n,fun | 70=>115 | 9=>9 | 0=>0 | 72=>118 | 37=>116 | 127=>138 | 3=>3 | 5=>5 | n=>n,fun | n=>n⟩
theorem Tryz.lays169 : Go.Proofs.Lays.n169 Tryz.prog Tryz.lays169_ren:={
 mixed:=by kernel_rfl
 f169:=Tryz.func72.trans (congrArg some (by kernel_rfl))
 t0:=Tryz.underlying0
 a0:=Tryz.isAgg0
 z0:=Tryz.sizeOf0
 v0:=Tryz.zeroValue0
 t3:=Tryz.underlying3
 a3:=Tryz.isAgg3
 z3:=Tryz.sizeOf3
 v3:=Tryz.zeroValue3
 t9:=Tryz.underlying9
 a9:=Tryz.isAgg9
 z9:=Tryz.sizeOf9
 v9:=Tryz.zeroValue9
 t37:=Tryz.underlying116
 a37:=Tryz.isAgg116
 z37:=Tryz.sizeOf116
 v37:=Tryz.zeroValue116
 t70:=Tryz.underlying115
 a70:=Tryz.isAgg115
 z70:=Tryz.sizeOf115
 v70:=Tryz.zeroValue115
 t72:=Tryz.underlying118
 a72:=Tryz.isAgg118
 z72:=Tryz.sizeOf118
 v72:=Tryz.zeroValue118
 t127:=Tryz.underlying138
 a127:=Tryz.isAgg138
 z127:=Tryz.sizeOf138
 v127:=Tryz.zeroValue138 }
theorem Tryz.Builder_Extra_169 : Builder.Extra Tryz.prog Tryz.lays169_ren:={
 sizeBuilder:=by kernel_rfl
 liesBuilder:=by kernel_rfl
 t5:=Tryz.underlying5
 a5:=Tryz.isAgg5
 z5:=Tryz.sizeOf5
 v5:=Tryz.zeroValue5
 infoByte:=by kernel_rfl
 cellsByte:=by kernel_rfl
 sizeByte:=by kernel_rfl
 neB5:=by decide }
open Go.RowKit in
open Go.RowKit in
open Go.RowKit in
open Go.RowKit in
open Go.RowKit in
open Go.RowKit in
theorem Tryz.Builder_String_any_f (B b:Nat)(l:List UInt8)(w:World)(h:Lib.IsBuilderF 118 5 B b (Lib.byteCells l) w)(hBw:B≤w.heap.size) :
  Calls Tryz.prog 72 #[.pointer (some ⟨b,0,none⟩)] w fun e w'=>e=.returned (.string ⟨l.toArray⟩)∧(Lib.IsBuilderF 118 5 B b (Lib.byteCells l) w'∧Below B w w'):=Any.Builder_String_any_f Tryz.lays169 Tryz.Builder_Extra_169 B b l w h hBw
open Go.RowKit in
open Go.RowKit in
open Go.RowKit in
open Go.Lib in
open Go.Lib in
open Go.Lib in
open Go.Lib in
open Go.RowKit Go.Sort Go.Lib in
open Go.RowKit Go.Sort Go.Lib in
open Go.RowKit Go.Sort Go.Lib in
open Go.RowKit Go.Sort Go.Lib in
open Go.RowKit Go.Sort Go.Lib in
def Tryz.zn1 : Go.Shelf.Ren:=⟨fun | 171=>70 | 243=>90 | 246=>106 | 283=>113 | 284=>114 | 285=>115 | 286=>116 | 129=>101 | 317=>118 | 318=>119 | 319=>120 | 320=>121 | 337=>122 | 338=>123 | n=>n,fun | 3=>3 | 9=>9 | 2=>2 | 4=>4 | 171=>161 | 0=>0 | 53=>149 | 37=>116 | 5=>5 | 173=>163 | 212=>170 | 51=>147 | 20=>20 | 213=>171 | 46=>128 | 232=>172 | 233=>173 | n=>n,fun | 17=>0 | 18=>1 | 19=>2 | n=>n⟩
theorem Tryz.laysM171 : Go.Proofs.LaysM.n171 Tryz.prog Tryz.zn1:={
 mixed:=by kernel_rfl
 f129:=Tryz.func101.trans (congrArg some (by kernel_rfl))
 f171:=Tryz.func70.trans (congrArg some (by kernel_rfl))
 f243:=Tryz.func90.trans (congrArg some (by kernel_rfl))
 f246:=Tryz.func106.trans (congrArg some (by kernel_rfl))
 f283:=Tryz.func113.trans (congrArg some (by kernel_rfl))
 f284:=Tryz.func114.trans (congrArg some (by kernel_rfl))
 f285:=Tryz.func115.trans (congrArg some (by kernel_rfl))
 f286:=Tryz.func116.trans (congrArg some (by kernel_rfl))
 f317:=Tryz.func118.trans (congrArg some (by kernel_rfl))
 f318:=Tryz.func119.trans (congrArg some (by kernel_rfl))
 f319:=Tryz.func120.trans (congrArg some (by kernel_rfl))
 f320:=Tryz.func121.trans (congrArg some (by kernel_rfl))
 f337:=Tryz.func122.trans (congrArg some (by kernel_rfl))
 f338:=Tryz.func123.trans (congrArg some (by kernel_rfl))
 t0:=Tryz.underlying0
 a0:=Tryz.isAgg0
 z0:=Tryz.sizeOf0
 v0:=Tryz.zeroValue0
 t2:=Tryz.underlying2
 a2:=Tryz.isAgg2
 z2:=Tryz.sizeOf2
 v2:=Tryz.zeroValue2
 t3:=Tryz.underlying3
 a3:=Tryz.isAgg3
 z3:=Tryz.sizeOf3
 v3:=Tryz.zeroValue3
 t4:=Tryz.underlying4
 a4:=Tryz.isAgg4
 z4:=Tryz.sizeOf4
 v4:=Tryz.zeroValue4
 t5:=Tryz.underlying5
 a5:=Tryz.isAgg5
 z5:=Tryz.sizeOf5
 v5:=Tryz.zeroValue5
 t9:=Tryz.underlying9
 a9:=Tryz.isAgg9
 z9:=Tryz.sizeOf9
 v9:=Tryz.zeroValue9
 t20:=Tryz.underlying20
 a20:=Tryz.isAgg20
 z20:=Tryz.sizeOf20
 v20:=Tryz.zeroValue20
 t37:=Tryz.underlying116
 a37:=Tryz.isAgg116
 z37:=Tryz.sizeOf116
 v37:=Tryz.zeroValue116
 t46:=Tryz.underlying128
 a46:=Tryz.isAgg128
 z46:=Tryz.sizeOf128
 v46:=Tryz.zeroValue128
 t51:=Tryz.underlying147
 a51:=Tryz.isAgg147
 z51:=Tryz.sizeOf147
 v51:=Tryz.zeroValue147
 t53:=Tryz.underlying149
 a53:=Tryz.isAgg149
 z53:=Tryz.sizeOf149
 v53:=Tryz.zeroValue149
 t171:=Tryz.underlying161
 a171:=Tryz.isAgg161
 z171:=Tryz.sizeOf161
 v171:=Tryz.zeroValue161
 t173:=Tryz.underlying163
 a173:=Tryz.isAgg163
 z173:=Tryz.sizeOf163
 v173:=Tryz.zeroValue163
 t212:=Tryz.underlying170
 a212:=Tryz.isAgg170
 z212:=Tryz.sizeOf170
 v212:=Tryz.zeroValue170
 t213:=Tryz.underlying171
 a213:=Tryz.isAgg171
 z213:=Tryz.sizeOf171
 t232:=Tryz.underlying172
 a232:=Tryz.isAgg172
 z232:=Tryz.sizeOf172
 v232:=Tryz.zeroValue172
 t233:=Tryz.underlying173
 a233:=Tryz.isAgg173
 z233:=Tryz.sizeOf173
 v233:=Tryz.zeroValue173
 g17:=by kernel_rfl
 g18:=by kernel_rfl
 g19:=by kernel_rfl
 i0:=by kernel_rfl
 i2:=by kernel_rfl
 i3:=by kernel_rfl
 i4:=by kernel_rfl
 i5:=by kernel_rfl
 i9:=by kernel_rfl
 i20:=by kernel_rfl
 i37:=by kernel_rfl
 i46:=by kernel_rfl
 i51:=by kernel_rfl
 i53:=by kernel_rfl
 i171:=by kernel_rfl
 i173:=by kernel_rfl
 i212:=by kernel_rfl
 i232:=by kernel_rfl
 i233:=by kernel_rfl
 m17:=by kernel_rfl
 m18:=by kernel_rfl
 m19:=by kernel_rfl }
open Go.RowKit Go.Sort Go.Lib in
theorem Tryz.strconv_Itoa (n:Int) (h0:-9223372036854775808≤n) (h1:n≤9223372036854775807) (w:World) (htab:Lib.TabIs Tryz.prog w "internal/strconv.uint64pow10" .u64 Lib.pow10Tab) :
  Calls Tryz.prog 70 #[.int .i64 n] w fun e w'=>e=.returned (.string ⟨(Lib.itoa n).toArray⟩)∧∃ k os,w'=grow (w.drewN k) os:=Any.strconv_Itoa Tryz.laysM171 n h0 h1 w htab
open Go.RowKit Go.Sort Go.Lib in
def Tryz.jt1 : Go.Shelf.Ren:=⟨fun | 189=>34 | 125=>74 | 257=>73 | 128=>100 | 129=>101 | 294=>91 | 295=>92 | 296=>93 | 297=>94 | 298=>95 | 299=>96 | 216=>97 | 300=>98 | 301=>99 | 328=>107 | 329=>108 | 330=>109 | 331=>110 | 332=>111 | 215=>112 | 343=>117 | n=>n,fun | 28=>48 | 3=>3 | 46=>128 | 0=>0 | 51=>147 | 53=>149 | 4=>4 | 183=>141 | 182=>140 | 131=>81 | 5=>5 | 9=>9 | 218=>155 | 222=>159 | 228=>165 | 229=>166 | n=>n,fun | n=>n⟩
theorem Tryz.lays189 : Go.Proofs.Lays.n189 Tryz.prog Tryz.jt1:={
 mixed:=by kernel_rfl
 f125:=Tryz.func74.trans (congrArg some (by kernel_rfl))
 f128:=Tryz.func100.trans (congrArg some (by kernel_rfl))
 f129:=Tryz.func101.trans (congrArg some (by kernel_rfl))
 f189:=Tryz.func34.trans (congrArg some (by kernel_rfl))
 f215:=Tryz.func112.trans (congrArg some (by kernel_rfl))
 f216:=Tryz.func97.trans (congrArg some (by kernel_rfl))
 f257:=Tryz.func73.trans (congrArg some (by kernel_rfl))
 f294:=Tryz.func91.trans (congrArg some (by kernel_rfl))
 f295:=Tryz.func92.trans (congrArg some (by kernel_rfl))
 f296:=Tryz.func93.trans (congrArg some (by kernel_rfl))
 f297:=Tryz.func94.trans (congrArg some (by kernel_rfl))
 f298:=Tryz.func95.trans (congrArg some (by kernel_rfl))
 f299:=Tryz.func96.trans (congrArg some (by kernel_rfl))
 f300:=Tryz.func98.trans (congrArg some (by kernel_rfl))
 f301:=Tryz.func99.trans (congrArg some (by kernel_rfl))
 f328:=Tryz.func107.trans (congrArg some (by kernel_rfl))
 f329:=Tryz.func108.trans (congrArg some (by kernel_rfl))
 f330:=Tryz.func109.trans (congrArg some (by kernel_rfl))
 f331:=Tryz.func110.trans (congrArg some (by kernel_rfl))
 f332:=Tryz.func111.trans (congrArg some (by kernel_rfl))
 f343:=Tryz.func117.trans (congrArg some (by kernel_rfl))
 t0:=Tryz.underlying0
 a0:=Tryz.isAgg0
 z0:=Tryz.sizeOf0
 v0:=Tryz.zeroValue0
 t3:=Tryz.underlying3
 a3:=Tryz.isAgg3
 z3:=Tryz.sizeOf3
 v3:=Tryz.zeroValue3
 t4:=Tryz.underlying4
 a4:=Tryz.isAgg4
 z4:=Tryz.sizeOf4
 v4:=Tryz.zeroValue4
 t5:=Tryz.underlying5
 a5:=Tryz.isAgg5
 z5:=Tryz.sizeOf5
 v5:=Tryz.zeroValue5
 t9:=Tryz.underlying9
 a9:=Tryz.isAgg9
 z9:=Tryz.sizeOf9
 v9:=Tryz.zeroValue9
 t28:=Tryz.underlying48
 a28:=Tryz.isAgg48
 z28:=Tryz.sizeOf48
 v28:=Tryz.zeroValue48
 t46:=Tryz.underlying128
 a46:=Tryz.isAgg128
 z46:=Tryz.sizeOf128
 v46:=Tryz.zeroValue128
 t51:=Tryz.underlying147
 a51:=Tryz.isAgg147
 z51:=Tryz.sizeOf147
 v51:=Tryz.zeroValue147
 t53:=Tryz.underlying149
 a53:=Tryz.isAgg149
 z53:=Tryz.sizeOf149
 v53:=Tryz.zeroValue149
 t131:=Tryz.underlying81
 a131:=Tryz.isAgg81
 z131:=Tryz.sizeOf81
 v131:=Tryz.zeroValue81
 t182:=Tryz.underlying140
 a182:=Tryz.isAgg140
 z182:=Tryz.sizeOf140
 v182:=Tryz.zeroValue140
 t183:=Tryz.underlying141
 a183:=Tryz.isAgg141
 z183:=Tryz.sizeOf141
 v183:=Tryz.zeroValue141
 t218:=Tryz.underlying155
 a218:=Tryz.isAgg155
 z218:=Tryz.sizeOf155
 v218:=Tryz.zeroValue155
 t222:=Tryz.underlying159
 a222:=Tryz.isAgg159
 z222:=Tryz.sizeOf159
 v222:=Tryz.zeroValue159
 t228:=Tryz.underlying165
 a228:=Tryz.isAgg165
 z228:=Tryz.sizeOf165
 v228:=Tryz.zeroValue165
 t229:=Tryz.underlying166
 a229:=Tryz.isAgg166
 z229:=Tryz.sizeOf166
 v229:=Tryz.zeroValue166 }
open Go.Sort Go.RowKit in
theorem Tryz.slices_Sort_int (blk off cap:Nat)(zs:List Int)(w:World)(hH:Holds (Value.int .i64) w blk off zs.toArray)(hblk:blk<w.heap.size)(hsz:zs.length<4611686018427387904) :
  Calls Tryz.prog 34 #[.slice (some ⟨blk,off,none⟩) zs.length cap] w fun e w' =>
   e=.returned (.tuple #[])∧∃ n os,w'=grow (putRow (Value.int .i64) (Sort.ahead w n) blk off (zs.mergeSort fun x y=>decide (x≤y)).toArray) os:=Any.slices_Sort_int Tryz.lays189 blk off cap zs w hH hblk hsz
open Go.RowKit Go.Sort in
theorem Tryz.slices_Sort_int_none (p:Option Addr)(cap:Nat)(w:World) :
  Calls Tryz.prog 34 #[.slice p 0 cap] w fun e w'=>e=.returned (.tuple #[])∧w'=w:=Any.slices_Sort_int_none Tryz.lays189 p cap w
end Go.Proofs
namespace Go.Proofs
open Go.RowKit
set_option linter.unusedVariables false
set_option maxHeartbeats 1000000 in
set_option maxRecDepth 100000 in
theorem Tryz.cz0 (b:Nat)(w:World)(h0:w.cell? ⟨b,0,none⟩=some (.pointer (some ⟨b,0,none⟩))) :
  Calls Tryz.prog 89 #[.pointer (some ⟨b,0,none⟩)] w fun e w'=>e=.returned (.tuple #[])∧w'=w:=by
 have hsz:(Tryz.prog.info? 118).map (·.size)=some 2:=by kernel_rfl
 obtain⟨j,hj,_⟩:=Option.map_eq_some_iff.1 hsz
 go_enter Tryz.func89,Tryz.ntmps89
 go_wp2
 rw[Lib.run_neq_ptr_same w _ Tryz.underlying115 hj]
 go_wp2
 go_end0
 exact⟨rfl,rfl⟩
set_option maxHeartbeats 1000000 in
set_option maxRecDepth 100000 in
theorem Tryz.tz0 (b:Nat)(w:World)(h0:w.cell? ⟨b,0,none⟩=some (.pointer none))(hsh:w.shape? b=some (118,2))(hfz:w.frozen? ⟨b,0,none⟩=false) :
  Calls Tryz.prog 89 #[.pointer (some ⟨b,0,none⟩)] w fun e w'=>e=.returned (.tuple #[])∧w'=w.setCell ⟨b,0,none⟩ (.pointer (some ⟨b,0,none⟩)):=by
 have hsz:(Tryz.prog.info? 118).map (·.size)=some 2:=by kernel_rfl
 obtain⟨j,hj,hjs⟩:=Option.map_eq_some_iff.1 hsz
 go_enter Tryz.func89,Tryz.ntmps89
 go_wp2
 rw[Lib.run_to_unsafe w ⟨b,0,none⟩ Tryz.underlying115 Tryz.underlying152 hj (by rw[hjs];decide) hsh (Nat.zero_lt_succ 1)]
 simp only[Result.andThen]
 rw[Oper.upon_value]
 go_wp2
 rw[run_callFunc_extern Tryz.func105 (by kernel_rfl) (by kernel_rfl) (by kernel_rfl) (e:=Extern.AbiNoEscape.same) (by kernel_rfl)]
 rw[Lib.run_noEscape]
 simp only[Result.andThen]
 rw[Oper.upon_value]
 go_wp2
 rw[Lib.run_from_unsafe w ⟨b,0,none⟩ Tryz.underlying152 Tryz.underlying115 hj hsh (by kernel_rfl)]
 simp only[Result.andThen]
 rw[Oper.upon_value]
 go_wp2
 go_end0
 exact⟨rfl,rfl⟩
theorem Tryz.tq0 (B b:Nat)(bs:List Value)(w:World)(h:Lib.IsBuilderF 118 5 B b bs w) :
  Calls Tryz.prog 89 #[.pointer (some ⟨b,0,none⟩)] w fun e w'=>e=.returned (.tuple #[])∧(Lib.BuilderAtF 118 5 B b (.pointer (some ⟨b,0,none⟩)) bs w'∧Below B w w'∧Lib.OthersKept 5 (some b) w w'):=by
 rcases h with h | h
 ·refine(Tryz.tz0 b w h.cell0 h.shape h.frozen0).mono ?_
  rintro e w' ⟨rfl,rfl⟩
  exact⟨rfl,h.used _,(Below.refl B w).setCell (p:=⟨b,0,none⟩) h.1 _,(Lib.OthersKept.refl 5 (some b) w).setCell ⟨b,0,none⟩ rfl _⟩
 ·refine(Tryz.cz0 b w h.cell0).mono ?_
  rintro e w' ⟨rfl,rfl⟩
  exact⟨rfl,h,Below.refl B _,Lib.OthersKept.refl 5 (some b) _⟩
theorem Tryz.kb1 (B b:Nat)(bs:List Value)(w:World)(h:Lib.IsBuilderF 118 5 B b bs w) :
  Calls Tryz.prog 89 #[.pointer (some ⟨b,0,none⟩)] w fun e w'=>e=.returned (.tuple #[])∧(Lib.BuilderAtF 118 5 B b (.pointer (some ⟨b,0,none⟩)) bs w'∧Below B w w') :=
 (Tryz.tq0 B b bs w h).mono fun _ _ h=>⟨h.1,h.2.1,h.2.2.1⟩
set_option maxHeartbeats 2000000 in
set_option maxRecDepth 100000 in
theorem Tryz.om0 (B b:Nat)(bs:List Value)(s:ByteArray)(w:World)(h:Lib.IsBuilderF 118 5 B b bs w)(hlen:bs.length+s.size≤140737488355328)(hBw:B≤w.heap.size) :
  Calls Tryz.prog 69 #[.pointer (some ⟨b,0,none⟩),.string s] w fun e w'=>e=.returned (.tuple #[.int .i64 s.size,.nilIface])∧(Lib.BuilderAtF 118 5 B b (.pointer (some ⟨b,0,none⟩)) (bs++Lib.strCells s) w'∧Below B w w'∧Lib.OthersKept 5 (some b) w w'):=by
 obtain⟨i0,hi,hz0,hz1,hz2⟩:=info_parts (show (Tryz.prog.info? 5).map (fun i=>(i.zero,i.size,i.bytes))=some (some (.int .u8 0),1,1) by kernel_rfl)
 go_enter Tryz.func69,Tryz.ntmps69
 go_wp2_with (go_at_call 89;refine(Tryz.tq0 B b bs _ h).mono ?_)
 rintro e w1 ⟨rfl,h1,hb1,hk1⟩
 obtain⟨hB,v,hbk,hown,hne⟩:=h1
 have c0:w1.cell? ⟨b,0,none⟩=some (.pointer (some ⟨b,0,none⟩)):=by rw[Lib.cell_of_heap hbk];rfl
 have c1:w1.cell? ⟨b,1,none⟩=some v:=by rw[Lib.cell_of_heap hbk];rfl
 go_wp2_with (at_builtin;refine Lib.wpList_append_own_stringF _ rfl _ _ 116 9 rfl B 5 i0 Tryz.underlying116 Tryz.underlying9 hi hz0 hz1 hz2 _ _ _ rfl hown s rfl ?c3 ?c4 ?c5 ?_)
 case c3=>unfold maxLen;omega
 case c4=>omega
 case c5=>have:=hb1.size;omega
 intro v' w2 hown' hgrow _
 have hlt:b<w1.heap.size:=by
  rcases Nat.lt_or_ge b w1.heap.size with h' | h'
  ·exact h'
  ·simp[Array.getElem?_eq_none h'] at hbk
 have hb2:w2.heap[b]?=some (.cells #[.pointer (some ⟨b,0,none⟩),v] 118 (0,0)):=by
  rw[hgrow.block b hlt (fun e=>hne e.symm)]
  exact hbk
 have d0:w2.cell? ⟨b,0,none⟩=some (.pointer (some ⟨b,0,none⟩)):=by rw[Lib.cell_of_heap hb2];rfl
 have d1:w2.cell? ⟨b,1,none⟩=some v:=by rw[Lib.cell_of_heap hb2];rfl
 have f1:w2.frozen? ⟨b,1,none⟩=false:=Lib.frozen_of_heap hb2 1
 obtain⟨ao,n',cap,rfl⟩:∃ ao n' cap,v'=.slice ao n' cap:=by
  rcases hown'.2 with ⟨hv,_⟩ | ⟨g,cap,cur,fz,hv,_⟩
  ·exact⟨_,_,_,hv⟩
  ·exact⟨_,_,_,hv⟩
 go_wp2
 go_ret2
 refine⟨rfl,?_,?_,?_⟩
 ·exact Lib.BuilderAtF.put (T:=118) (e:=5) hB hb2 (bs':=bs++Lib.strCells s) (by simpa [Lib.strCells_length] using hown') (by decide)
 ·exact(hb1.grown hgrow (by have:=hb1.size;omega) (fun k hk=>(hown.lt k hk).1)).setCell (p:=⟨b,1,none⟩) hB _
 ·refine(hk1.grown hgrow fun g hg=>?_).setCell ⟨b,1,none⟩ rfl _
  rcases hown.2 with ⟨rfl,_⟩ | ⟨g',cap',cur,fz,rfl,_,hgg,_⟩
  ·simp[Value.ownBlock] at hg
  ·simp only[Value.ownBlock,Option.some.injEq] at hg;subst hg
   exact⟨cur,fz,hgg⟩
theorem Tryz.oc0 (B b:Nat)(bs:List Value)(s:ByteArray)(w:World)(h:Lib.IsBuilderF 118 5 B b bs w)(hlen:bs.length+s.size≤140737488355328)(hBw:B≤w.heap.size) :
  Calls Tryz.prog 69 #[.pointer (some ⟨b,0,none⟩),.string s] w fun e w'=>e=.returned (.tuple #[.int .i64 s.size,.nilIface])∧(Lib.BuilderAtF 118 5 B b (.pointer (some ⟨b,0,none⟩)) (bs++Lib.strCells s) w'∧Below B w w') :=
 (Tryz.om0 B b bs s w h hlen hBw).mono fun _ _ h=>⟨h.1,h.2.1,h.2.2.1⟩
set_option maxHeartbeats 2000000 in
set_option maxRecDepth 100000 in
theorem Tryz.kl1 (B b:Nat)(bs:List Value)(c:Int)(w:World)(h:Lib.IsBuilderF 118 5 B b bs w)(hlen:bs.length+1≤140737488355328)(hBw:B≤w.heap.size) :
  Calls Tryz.prog 71 #[.pointer (some ⟨b,0,none⟩),.int .u8 c] w fun e w'=>e=.returned .nilIface∧(Lib.BuilderAtF 118 5 B b (.pointer (some ⟨b,0,none⟩)) (bs++[.int .u8 c]) w'∧Below B w w'):=by
 obtain⟨i0,hi,hz0,hz1,hz2⟩:=info_parts (show (Tryz.prog.info? 5).map (fun i=>(i.zero,i.size,i.bytes))=some (some (.int .u8 0),1,1) by kernel_rfl)
 go_enter Tryz.func71,Tryz.ntmps71
 go_wp2_with (go_at_call 89;refine(Tryz.kb1 B b bs _ h).mono ?_)
 rintro e w1 ⟨rfl,h1,hb1⟩
 obtain⟨hB,v,hbk,hown,hne⟩:=h1
 have c0:w1.cell? ⟨b,0,none⟩=some (.pointer (some ⟨b,0,none⟩)):=by rw[Lib.cell_of_heap hbk];rfl
 have c1:w1.cell? ⟨b,1,none⟩=some v:=by rw[Lib.cell_of_heap hbk];rfl
 go_wp2_with (at_builtin;refine wpList_append_ownF _ rfl _ _ 116 rfl B 5 i0 (.int .u8 0) 1 1 Tryz.underlying116 hi hz0 hz1 hz2 rfl (by decide) _ _ _ rfl (hown.alloc _) ⟨w1.heap.size,0,none⟩ 1 1 [.int .u8 c] rfl rfl ?c1 ?c2 ?c3 ?c4 ?c5 ?_)
 case c1 =>
  intro j u hj
  match j,hj with
  | 0,hj=>simp at hj;subst hj;simp[Addr.add]
 case c2=>intro u hu;simp at hu;subst hu;rfl
 case c3=>unfold maxLen;omega
 case c4=>omega
 case c5=>have:=hb1.size;simp;omega
 intro v' w2 hown' hgrow _
 have hlt:b<w1.heap.size:=by
  rcases Nat.lt_or_ge b w1.heap.size with h' | h'
  ·exact h'
  ·simp[Array.getElem?_eq_none h'] at hbk
 have hb2:w2.heap[b]?=some (.cells #[.pointer (some ⟨b,0,none⟩),v] 118 (0,0)):=by
  rw[hgrow.block b (by simp;omega) (fun e=>hne e.symm),Lib.alloc_old w1 _ b hlt]
  exact hbk
 have d0:w2.cell? ⟨b,0,none⟩=some (.pointer (some ⟨b,0,none⟩)):=by rw[Lib.cell_of_heap hb2];rfl
 have d1:w2.cell? ⟨b,1,none⟩=some v:=by rw[Lib.cell_of_heap hb2];rfl
 have f1:w2.frozen? ⟨b,1,none⟩=false:=Lib.frozen_of_heap hb2 1
 obtain⟨g,cap,rfl⟩:∃ g cap,v'=.slice (some ⟨g,0,none⟩) (bs.length+1) cap:=by
  rcases hown'.2 with ⟨_,h0⟩ | ⟨g,cap,cur,fz,hv,_⟩
  ·omega
  ·exact⟨g,cap,hv⟩
 go_wp2
 go_ret
 refine⟨rfl,?_,?_⟩
 ·exact Lib.BuilderAtF.put (T:=118) (e:=5) hB hb2 (bs':=bs++[.int .u8 c]) (by simpa using hown') (by decide)
 ·exact((hb1.alloc (by have:=hb1.size;omega) _).grown hgrow (by have:=hb1.size;simp;omega) (fun k hk=>(hown.lt k hk).1)).setCell (p:=⟨b,1,none⟩) hB _
end Go.Proofs
namespace Go.SX.Td
open Go Go.SX Go.Proofs Go.RowKit Go.Sort
set_option linter.unusedVariables false
def vx1 (n:Int):List UInt8:=Lib.itoa n++[32]
def md0 (l:List Int):List UInt8:=l.flatMap vx1
def cm0 (l:List Int):List UInt8:=md0 l++[59]
def dj0 (ls:List (List Int)):List UInt8:=ls.flatMap cm0
def mb0 (n:Int):Prop:=-9223372036854775808≤n∧n≤9223372036854775807
def wn1 (ls:List (List Int)):Prop:=(∀ l∈ls,∀ n∈l,mb0 n)∧(dj0 ls).length≤140737488355328
open Classical in
noncomputable def wq0 (ls:List (List Int)):Option ByteArray:=if wn1 ls then some ⟨(dj0 ls).toArray⟩ else none
theorem kh1 {T e:TypeId}{B b:Nat}{bs:List Value}{w w':World}(h:Lib.IsBuilderF T e B b bs w)(hw:∀ k,k<w.heap.size→w'.heap[k]?=w.heap[k]?):Lib.IsBuilderF T e B b bs w':=by
 have at_:∀ p,Lib.BuilderAtF T e B b p bs w→Lib.BuilderAtF T e B b p bs w':=by
  rintro p ⟨hB,v,hb,hown,hne⟩
  refine⟨hB,v,by rw[hw b (Array.getElem?_eq_some_iff.1 hb).1];exact hb,⟨hown.1,?_⟩,hne⟩
  rcases hown.2 with hn | ⟨g,cap,cur,fz,rfl,hg,hgg,rest⟩
  ·exact .inl hn
  ·exact .inr ⟨g,cap,cur,fz,rfl,hg,by rw[hw g (Array.getElem?_eq_some_iff.1 hgg).1];exact hgg,rest⟩
 exact h.elim (fun x=>.inl (at_ _ x)) (fun x=>.inr (at_ _ x))
theorem below_grow {B:Nat}{w:World}(hB:B≤w.heap.size)(k:Nat)(os:Array Obj):Below B w (grow (w.drewN k) os) :=
 ⟨rfl,rfl,rfl,by simp[grow,World.drewN],fun i hi=>by simp[grow,World.drewN,Array.getElem?_append,show i<w.heap.size by omega]⟩
theorem sx1 {ls:List (List Int)}{i:Nat}{l:List Int}(h:ls[i]?=some l){j:Nat}:(dj0 (ls.take i)++md0 (l.take j)).length≤(dj0 ls).length:=by
 have hi:=(List.getElem?_eq_some_iff.1 h).1
 have e:dj0 ls=dj0 (ls.take i)++(cm0 l++dj0 (ls.drop (i+1))):=by
  have:ls=ls.take i++l::ls.drop (i+1):=by
   rw[← (List.getElem?_eq_some_iff.1 h).2,List.getElem_cons_drop,List.take_append_drop]
  conv=>lhs;rw[this]
  simp[dj0]
 have e2:md0 l=md0 (l.take j)++md0 (l.drop j):=by
  rw[md0,md0,md0,← List.flatMap_append,List.take_append_drop]
 rw[e,cm0,e2]
 simp only[List.length_append]
 omega
theorem qv1 {ls:List (List Int)}{i:Nat}{l:List Int}(h:ls[i]?=some l):dj0 (ls.take (i+1))=dj0 (ls.take i)++cm0 l:=by
 rw[List.take_add_one,h];simp[dj0]
theorem qw1 {l:List Int}{j:Nat}{n:Int}(h:l[j]?=some n):md0 (l.take (j+1))=md0 (l.take j)++vx1 n:=by
 rw[List.take_add_one,h];simp[md0]
theorem gk1 (ls:List (List Int))(k:Nat):dj0 ls=dj0 (ls.take k)++dj0 (ls.drop k):=by
 rw[dj0,dj0,dj0,← List.flatMap_append,List.take_append_drop]
def ut1 (w:World)(v:Value)(l:List Int):Prop :=
 ∃ a cap,v=.slice a l.length cap∧∀ (j:Nat) n,l[j]?=some n→∃ b off,a=some ⟨b,off,none⟩∧b<w.heap.size∧w.cell? ⟨b,off+j,none⟩=some (.int .i64 n)
def nj1 (w:World)(v:Value)(ls:List (List Int)):Prop :=
 ∃ a cap,v=.slice a ls.length cap∧∀ (i:Nat) l,ls[i]?=some l→∃ b off u,a=some ⟨b,off,none⟩∧b<w.heap.size∧w.cell? ⟨b,off+i,none⟩=some u∧ut1 w u l
theorem lv1 {F:Fz}{w:World}{v:Value}{l:List Int}(hF:∀ b o,F b=some o→w.heap[b]?=some o)(h:Rep F v (.sl (W qq0 l))):ut1 w v l:=by
 have hlen:(W qq0 l).length=l.length:=fq0 _ _
 generalize hd:D.sl (W qq0 l)=d at h
 cases h with
 | val v h=>cases hd
 | nil a cap h =>
  injection hd with hd
  have:l=[]:=by rw[hd] at hlen;exact List.eq_nil_of_length_eq_zero hlen.symm
  subst this
  exact⟨a,cap,rfl,fun j n hj=>by simp at hj⟩
 | sl b off cap c e fr es sz g hb hcap hsz hc hr =>
  injection hd with hd
  subst hd
  refine⟨some ⟨b,off,none⟩,cap,by rw[hlen],fun j n hj=>?_⟩
  have hes:(W qq0 l)[j]?=some [.val (.int .i64 n)]:=by rw[mi0,List.getElem?_map,hj];rfl
  have h1:=hsz j _ hes
  have h2:=hc j _ 0 _ hes rfl
  have h3:=hr j _ 0 _ hes rfl
  obtain⟨h3,_⟩:=Rep.dw0.1 h3
  simp at h1
  subst h1
  have hw:=hF _ _ hb
  refine⟨b,off,rfl,(Array.getElem?_eq_some_iff.1 hw).1,?_⟩
  simp only[World.cell?,hw,Option.isSome_none,Bool.false_eq_true,if_false]
  rw[h3] at h2
  simpa using h2
theorem fi1 {F:Fz}{w:World}{v:Value}{ls:List (List Int)}(hF:∀ b o,F b=some o→w.heap[b]?=some o)(h:Rep F v (.sl (W qt0 ls))):nj1 w v ls:=by
 have hlen:(W qt0 ls).length=ls.length:=fq0 _ _
 generalize hd:D.sl (W qt0 ls)=d at h
 cases h with
 | val v h=>cases hd
 | nil a cap h =>
  injection hd with hd
  have:ls=[]:=by rw[hd] at hlen;exact List.eq_nil_of_length_eq_zero hlen.symm
  subst this
  exact⟨a,cap,rfl,fun j n hj=>by simp at hj⟩
 | sl b off cap c e fr es sz g hb hcap hsz hc hr =>
  injection hd with hd
  subst hd
  refine⟨some ⟨b,off,none⟩,cap,by rw[hlen],fun j n hj=>?_⟩
  have hes:(W qt0 ls)[j]?=some [.sl (W qq0 n)]:=by rw[mi0,List.getElem?_map,hj];rfl
  have h1:=hsz j _ hes
  have h2:=hc j _ 0 _ hes rfl
  have h3:=hr j _ 0 _ hes rfl
  simp at h1
  subst h1
  have hw:=hF _ _ hb
  refine⟨b,off,g j 0,rfl,(Array.getElem?_eq_some_iff.1 hw).1,?_,lv1 hF h3⟩
  simp only[World.cell?,hw,Option.isSome_none,Bool.false_eq_true,if_false]
  simpa using h2
theorem zi1 {w w':World}{v:Value}{l:List Int}(h:ut1 w v l)(hb:Below w.heap.size w w'):ut1 w' v l:=by
 obtain⟨a,cap,h1,h2⟩:=h
 refine⟨a,cap,h1,fun j n hj=>?_⟩
 obtain⟨b,off,k1,k2,k3⟩:=h2 j n hj
 exact⟨b,off,k1,Nat.lt_of_lt_of_le k2 hb.size,by rw[hb.cell (p:=⟨b,off+j,none⟩) k2];exact k3⟩
theorem wa2 : ∀ ls:List (List Int),ls.length≤(dj0 ls).length
 | []=>Nat.zero_le _
 | l::ls=>by
  have:=wa2 ls
  have e:dj0 (l::ls)=cm0 l++dj0 ls:=by simp[dj0]
  rw[e,List.length_append,List.length_cons,cm0,List.length_append,List.length_singleton];omega
theorem l_le : ∀ l:List Int,l.length≤(md0 l).length
 | []=>Nat.zero_le _
 | n::l=>by
  have:=l_le l
  have e:md0 (n::l)=vx1 n++md0 l:=by simp[md0]
  rw[e,List.length_append,List.length_cons,vx1,List.length_append,List.length_singleton];omega
set_option maxHeartbeats 4000000 in
set_option maxRecDepth 100000 in
theorem sv1 (ls:List (List Int))(v:Value)(w:World)(hv:nj1 w v ls)(hok:wn1 ls)(htab:Lib.TabIs Tryz.prog w lo0 .u64 Lib.pow10Tab) :
  Calls Tryz.prog 33 #[v] w fun e w'=>e=.returned (.string ⟨(dj0 ls).toArray⟩)∧Below w.heap.size w w':=by
 obtain⟨hints,hfit⟩:=hok
 obtain⟨a,cap,rfl,hcell⟩:=hv
 have hlsm:ls.length≤140737488355328:=Nat.le_trans (wa2 ls) hfit
 have h0:Lib.IsBuilderF 118 5 w.heap.size w.heap.size (Lib.byteCells []) (w.alloc (.cells #[.pointer none,.slice none 0 0] 118)):=Lib.IsBuilderF.of (Lib.fresh_isBuilder 118 5 w)
 have b0:Below w.heap.size w (w.alloc (.cells #[.pointer none,.slice none 0 0] 118)):=(Below.refl _ w).alloc (Nat.le_refl _) _
 go_enter Tryz.func33,Tryz.ntmps33
 go_wp2
 go_loopw [10] (fun iv wr=>∃ i:Nat,iv=.int .i64 i∧i≤ls.length∧Lib.IsBuilderF 118 5 w.heap.size w.heap.size (Lib.byteCells (dj0 (ls.take i))) wr∧Below w.heap.size w wr)
  (fun iv _=>ls.length - (RowKit.intOf iv).toNat)
 case atStart=>exact⟨0,rfl,Nat.zero_le _,by simpa [dj0] using h0,b0⟩
 case round =>
  obtain⟨i,rfl,hi,hI,hnx⟩:=hrel
  clear h0 b0
  have hsize:=hnx.size
  by_cases hlt:i<ls.length
  ·obtain⟨l,hl⟩:∃ l,ls[i]?=some l:=⟨ls[i],by simp[hlt]⟩
   obtain⟨b,off,u,rfl,hb,hc,hints'⟩:=hcell i l hl
   obtain⟨a',cap',rfl,hin⟩:=zi1 (zi1 hints' (Below.refl _ _)) hnx
   have hc':wr.cell? ⟨b,off+i,none⟩=some (.slice a' l.length cap'):=by rw[hnx.cell (p:=⟨b,off+i,none⟩) hb];exact hc
   have hle:=sx1 hl (j:=l.length)
   have hlm:l.length≤140737488355328:=by
    have:=l_le l
    rw[List.take_length,List.length_append] at hle
    omega
   have hln:∀ n∈l,mb0 n:=hints l (List.mem_of_getElem? hl)
   have hints2:=hints'
   clear hin hints' hcell
   go_wp2
   go_loopw [16] (fun jv wr'=>∃ j:Nat,jv=.int .i64 j∧j≤l.length∧Lib.IsBuilderF 118 5 w.heap.size w.heap.size (Lib.byteCells (dj0 (ls.take i)++md0 (l.take j))) wr'∧Below w.heap.size w wr')
    (fun jv _=>l.length - (RowKit.intOf jv).toNat)
   case atStart=>exact⟨0,rfl,Nat.zero_le _,by simpa [md0] using hI,hnx⟩
   case round =>
    obtain⟨j,rfl,hj,hI2,hnx2⟩:=hrel
    have hsize2:=hnx2.size
    by_cases hjlt:j<l.length
    ·obtain⟨n,hn⟩:∃ n,l[j]?=some n:=⟨l[j],by simp[hjlt]⟩
     obtain⟨_,_,e0,hin⟩:=hints2
     cases e0
     obtain⟨b2,off2,rfl,hb2,hc2⟩:=hin j n hn
     have hc2':wr.cell? ⟨b2,off2+j,none⟩=some (.int .i64 n):=by rw[hnx2.cell (p:=⟨b2,off2+j,none⟩) hb2];exact hc2
     have hnok:=hln n (List.mem_of_getElem? hn)
     have htab2:=zr2 htab hnx2
     have hlj:=sx1 hl (j:=j+1)
     rw[qw1 hn] at hlj
     simp only[List.length_append] at hlj
     have hcat:¬ 9223372036854775807<(Lib.itoa n).length+1:=by
      have e:(vx1 n).length=(Lib.itoa n).length+1:=by simp[vx1]
      omega
     clear hin
     go_wp2_with (go_at_call 70;refine(Tryz.strconv_Itoa n hnok.1 hnok.2 _ htab2).mono ?_;rintro e w3 ⟨rfl,k,os,rfl⟩)
     have hI3:=kh1 (w':=grow (wr.drewN k) os) hI2 (fun q hq=>by simp[grow,World.drewN,Array.getElem?_append,hq])
     have hbl3:=hnx2.trans (below_grow hsize2 k os)
     have hdata:(⟨(Lib.itoa n).toArray⟩++⟨#[32]⟩:ByteArray).data.toList=vx1 n:=by rw[ByteArray.data_append];simp[vx1]
     have hstr:Lib.strCells (⟨(Lib.itoa n).toArray⟩++⟨#[32]⟩)=Lib.byteCells (vx1 n):=by rw[Lib.strCells_eq,hdata]
     have hsz:(⟨(Lib.itoa n).toArray⟩++⟨#[32]⟩:ByteArray).size=(vx1 n).length:=by rw[← Lib.strCells_length,hstr,Lib.byteCells_length]
     refine(Tryz.oc0 w.heap.size w.heap.size _ _ _ hI3 (by rw[Lib.byteCells_length,hsz,List.length_append];omega) hbl3.size).mono ?_
     rintro e w4 ⟨rfl,h4,b4⟩
     go_wp2
     go_roundw
     case rel =>
      refine⟨j+1,by go_num,by omega,?_,hbl3.trans b4⟩
      rw[qw1 hn,← List.append_assoc,Lib.byteCells_append,← hstr]
      exact Or.inr h4
     case measure=>simp[RowKit.intOf];omega
    ·have hjl:j=l.length:=by omega
     subst hjl
     rw[List.take_length] at hI2
     have hls:=gk1 ls (i+1)
     rw[qv1 hl,cm0] at hls
     have hls2:=congrArg List.length hls
     simp only[List.length_append,List.length_singleton] at hls2
     go_wp2_with (go_at_call 71;refine(Tryz.kl1 w.heap.size w.heap.size _ 59 _ hI2 (by rw[Lib.byteCells_length,List.length_append];omega) hsize2).mono ?_)
     rintro e w4 ⟨rfl,h4,b4⟩
     go_wp2
     go_roundw
     case rel =>
      refine⟨i+1,by go_num,by omega,?_,hnx2.trans b4⟩
      rw[qv1 hl,cm0,← List.append_assoc,Lib.byteCells_append]
      exact Or.inr h4
     case measure=>simp[RowKit.intOf];omega
  ·have hil:i=ls.length:=by omega
   subst hil
   rw[List.take_length] at hI
   go_wp2_with (go_at_call 72;refine(Tryz.Builder_String_any_f w.heap.size w.heap.size _ _ hI hsize).mono ?_)
   rintro e w4 ⟨rfl,_,b4⟩
   go_wp2
   go_ret
   exact⟨rfl,hnx.trans b4⟩
theorem ok38 : ii1 Tryz.prog 33=true:=by kernel_rfl
theorem gv0 {P:Program}(hP:P=Tryz.prog)(l:List (List Int))(r:ByteArray)(h:wq0 l=some r):Fn1 P 33 [ij1 l] (vS r):=by
 subst hP
 unfold wq0 at h
 split at h
 ·rename_i hok
  cases h
  refine⟨ok38,fun c w us hS hr=>?_⟩
  obtain⟨u,us',rfl,hu,hn⟩:=we0.jt0.1 hr
  obtain rfl:=we0.uv0.1 hn
  cases hu with | d hrep =>
  refine(sv1 l u w (fi1 hS.le hrep) hok (za2 hS)).mono ?_
  rintro e w' ⟨rfl,hb⟩
  have hle:=Cx.le.refl c
  have hS':Sat c [] w':=hS.on hle rfl hS.one (fun b hb'=>hb.block b hb') (fun b o hb'=>by rw[hb.block b (hS.nb1 hb')];exact hS.le b o hb') (fun b hb'=>.inl hb')
  exact⟨c,[],_,_,rfl,.d (.val _ rfl),hS',hle,⟨hb.os,hb.tape,hb.output,hb.size,fun b hb' _=>hb.block b hb',fun b hb'=>.inl hb',fun b hb'=>.inl hb',fun _ _ h=>h⟩,rfl⟩
 ·cases h
end Go.SX.Td
namespace Go.SX.Td
open Go Go.SX Go.Proofs Go.RowKit Go.Sort
theorem ok57 : ii1 Tryz.prog 34=true:=by kernel_rfl
noncomputable def sortL (l:List Int):List Int:=l.mergeSort fun x y=>decide (x≤y)
theorem bj0 (l:List Int):(sortL l).length=l.length:=by simp[sortL]
noncomputable def sr1 (l:List Int):Option (List Int):=if l.length≤1000000000 then some (sortL l) else none
theorem mh1 (l:List Int):(W qq0 l).flatten=l.map fun n=>D.val (.int .i64 n):=by
 rw[mi0]
 induction l with
 | nil=>rfl
 | cons a l ih=>simp only[List.map_cons,List.flatten_cons,ih];rfl
theorem bl2 (l:List Int):∀ ds∈W qq0 l,ds.length=1:=by
 rw[mi0];intro ds hd
 simp only[List.mem_map] at hd
 obtain⟨x,_,rfl⟩:=hd;rfl
theorem ij0 {P:Program}(hP:P=Tryz.prog)(l r:List Int)(h:sr1 l=some r) :
  qe0 P 34 [.row 3 1 (W qq0 l)] [.hd 0] (fun sv own'=>sv=.tup []∧own'=[.row 3 1 (W qq0 r)]):=by
 subst hP
 unfold sr1 at h
 split at h
 ·rename_i hl
  cases h
  refine⟨ok57,fun c w us hS hr=>?_⟩
  obtain⟨u,us',rfl,hu,hn⟩:=we0.jt0.1 hr
  obtain rfl:=we0.uv0.1 hn
  cases hu with | hd hr0 hθ =>
  obtain⟨hd1,xs,⟨hxl,hv⟩,hc⟩:=hS.res 0 _ rfl
  rw[hθ] at hv
  rcases hv with ⟨rfl,h0⟩ | ⟨g,cap,cur,rfl,_,hb,hle,hm,hcs,htake⟩
  ·have hl0:l=[]:=by rw[fq0] at h0;exact List.eq_nil_of_length_eq_zero h0
   subst hl0
   refine(Tryz.slices_Sort_int_none none 0 w).mono ?_
   rintro e w' ⟨rfl,rfl⟩
   exact⟨c,_,.tup [],_,rfl,.tup rfl (fun i s u hs=>by simp at hs),hS,.refl c,.refl c _ _,rfl,by simp[sortL]⟩
  ·have hwl:(W qq0 l).length=l.length:=fq0 _ _
   have hcell:∀ j,j<l.length→cur[j]?=some (.int .i64 (l[j]?.getD 0)):=fun j hj=>by
    obtain⟨u,h1,h2⟩:=hc j (.val (.int .i64 l[j])) (by rw[mh1];simp[hj])
    obtain⟨rfl,_⟩:=Rep.dw0.1 h2
    rw[← htake,List.getElem?_take] at h1
    split at h1
    ·rw[Array.getElem?_toList] at h1;rw[h1];simp[hj]
    ·cases h1
   have hH:Holds (Value.int .i64) w g 0 l.toArray:=fun j hj=>by
    have hj':j<l.length:=by simpa using hj
    refine⟨?_,?_⟩
    ·simp only[World.cell?,hb,Nat.zero_add,hcell j hj']
     simp[hj']
    ·simp[World.frozen?,hb]
   have hblk:g<w.heap.size:=(Array.getElem?_eq_some_iff.1 hb).1
   have:=Tryz.slices_Sort_int g 0 cap l w hH hblk (by omega)
   rw[← hwl] at this
   refine this.mono ?_
   rintro e w' ⟨rfl,n,os,rfl⟩
   have hput:(putRow (Value.int .i64) (Go.Sort.ahead w n) g 0 (sortL l).toArray).heap[g]?=some (.cells (putCells (Value.int .i64) 0 (sortL l).toArray cur) 3 (0,0)):=by
    simp only[putRow,mapBlock,Go.Sort.ahead,Array.getElem?_modify,if_true,hb,Option.map_some];rfl
   have hoth:∀ k,k≠g→(putRow (Value.int .i64) (Go.Sort.ahead w n) g 0 (sortL l).toArray).heap[k]?=w.heap[k]?:=fun k hk=>by
    simp only[putRow,mapBlock,Go.Sort.ahead,Array.getElem?_modify,if_neg (Ne.symm hk)]
   have hsl:(sortL l).length=l.length:=bj0 l
   obtain⟨k1,k2⟩:=hS.update (w':=putRow (Value.int .i64) (Go.Sort.ahead w n) g 0 (sortL l).toArray) (x':=.row 3 1 (W qq0 (sortL l))) (r:=0) rfl rfl rfl (by rw[hθ];rfl) rfl rfl rfl (by simp[putRow,mapBlock,Go.Sort.ahead]) hoth
    ⟨bl2 _,(sortL l).map (Value.int .i64),by
     rw[hθ]
     refine⟨by simp[fq0],.inr ⟨g,cap,_,by rw[fq0,fq0,hsl],Nat.zero_le _,hput,by rw[fq0,hsl,← hwl];exact hle,hm,by simp[putCells,hcs],?_⟩⟩
     apply List.ext_getElem?
     intro j
     rw[List.getElem?_take,fq0,hsl,List.getElem?_map]
     have hgs:l.length≤cur.size:=by rw[hcs];omega
     split
     ·rename_i hj
      have hjl:j<l.length:=by omega
      rw[Array.getElem?_toList]
      have hjs:j<(sortL l).length:=by omega
      have hjc:j<cur.size:=by omega
      simp[putCells,hjl,hjs,hjc,hsl]
     ·rename_i hj
      rw[List.getElem?_eq_none (by omega)];rfl,fun j d hj=>by
     rw[mh1,List.getElem?_map,Option.map_eq_some_iff] at hj
     obtain⟨z,hz,rfl⟩:=hj
     exact⟨.int .i64 z,by rw[List.getElem?_map,hz];rfl,.val _ rfl⟩⟩
   have hgrow:∀ b,b<(putRow (Value.int .i64) (Go.Sort.ahead w n) g 0 (sortL l).toArray).heap.size→(grow (putRow (Value.int .i64) (Go.Sort.ahead w n) g 0 (sortL l).toArray) os).heap[b]?=(putRow (Value.int .i64) (Go.Sort.ahead w n) g 0 (sortL l).toArray).heap[b]?:=fun b hb'=>by
    simp only[grow];rw[Array.getElem?_append_left hb']
   refine⟨c,[.row 3 1 (W qq0 (sortL l))],.tup [],_,rfl,.tup rfl (fun i s u hs=>by simp at hs),?_,.refl c,k2.trans ⟨rfl,rfl,rfl,by simp[grow],fun b hb' _=>hgrow b hb',fun _ hb=>.inl hb,fun _ hb=>.inl hb,fun _ _ hb=>hb⟩,rfl,rfl⟩
   exact k1.on (.refl c) rfl k1.one hgrow (fun b x hb'=>(hgrow b (k1.nb1 hb')).trans (k1.le b x hb')) (fun b hb=>.inl hb)
 ·cases h
end Go.SX.Td
namespace Go.SX.Td
open Go Go.SX Go.Proofs
set_option maxRecDepth 100000
def to2 : List GOp:=[
 ⟨(some 2),.mv (.const (.slice none 0 0)),none⟩]
def te2 : List GOp:=[
 ⟨(some 6),.mv (.tmp 0),none⟩,
 ⟨(some 7),.len false (.tmp 6),none⟩,
 ⟨(some 8),.bin .lss (.tmp 7) (.const (.int .i64 2)),none⟩]
def tn2 : List GOp:=[
 ⟨(some 9),.mv (.tmp 0),none⟩,
 ⟨(some 2),.mv (.tmp 9),none⟩]
def ts2 : List GOp:=[
 ⟨(some 3),.mv (.const (.int .i64 1)),none⟩]
def tt2 : List GOp:=[
 ⟨(some 10),.mv (.tmp 3),none⟩,
 ⟨(some 11),.mv (.tmp 0),none⟩,
 ⟨(some 12),.len false (.tmp 11),none⟩,
 ⟨(some 13),.bin .lss (.tmp 10) (.tmp 12),none⟩]
def tl2 : List GOp:=[
 ⟨(some 16),.mv (.tmp 0),none⟩,
 ⟨(some 17),.mv (.tmp 3),none⟩,
 ⟨(some 18),.idxA 1 (.tmp 16) (.tmp 17),none⟩,
 ⟨(some 19),.load 1 false (.tmp 18),none⟩,
 ⟨(some 20),.mv (.tmp 0),none⟩,
 ⟨(some 21),.mv (.tmp 3),none⟩,
 ⟨(some 22),.bin .sub (.tmp 21) (.const (.int .i64 1)),none⟩,
 ⟨(some 23),.idxA 1 (.tmp 20) (.tmp 22),none⟩,
 ⟨(some 24),.load 1 false (.tmp 23),none⟩,
 ⟨(some 25),.bin .eql (.tmp 19) (.tmp 24),none⟩]
def td2 : List GOp:=[
 ⟨(some 26),.mv (.tmp 0),none⟩,
 ⟨(some 27),.mv (.tmp 3),none⟩,
 ⟨(some 28),.slc 1 (.tmp 26) (some (.tmp 27)) none,none⟩,
 ⟨(some 4),.mv (.tmp 28),none⟩]
def tc2 : List GOp:=[
 ⟨(some 5),.mv (.const (.int .i64 1)),none⟩]
def tm2 : List GOp:=[
 ⟨(some 29),.mv (.tmp 5),none⟩,
 ⟨(some 30),.mv (.tmp 4),none⟩,
 ⟨(some 31),.len false (.tmp 30),none⟩,
 ⟨(some 32),.bin .lss (.tmp 29) (.tmp 31),none⟩]
def tf2 : List GOp:=[
 ⟨(some 35),.mv (.tmp 4),none⟩,
 ⟨(some 36),.mv (.tmp 5),none⟩,
 ⟨(some 37),.idxA 1 (.tmp 35) (.tmp 36),none⟩,
 ⟨(some 38),.load 1 false (.tmp 37),none⟩,
 ⟨(some 39),.mv (.tmp 4),none⟩,
 ⟨(some 40),.mv (.tmp 5),none⟩,
 ⟨(some 41),.bin .sub (.tmp 40) (.const (.int .i64 1)),none⟩,
 ⟨(some 42),.idxA 1 (.tmp 39) (.tmp 41),none⟩,
 ⟨(some 43),.load 1 false (.tmp 42),none⟩,
 ⟨(some 44),.bin .neq (.tmp 38) (.tmp 43),none⟩]
def yc2 : List GOp:=[
 ⟨(some 45),.mv (.tmp 0),none⟩,
 ⟨(some 46),.mv (.tmp 3),none⟩,
 ⟨(some 47),.mv (.tmp 4),none⟩,
 ⟨(some 48),.mv (.tmp 5),none⟩,
 ⟨(some 49),.idxA 1 (.tmp 47) (.tmp 48),none⟩,
 ⟨(some 50),.load 1 false (.tmp 49),none⟩,
 ⟨(some 51),.idxA 1 (.tmp 45) (.tmp 46),none⟩,
 ⟨none,.store 1 (.tmp 51) (.tmp 50),none⟩]
def ym2 : List GOp:=[
 ⟨(some 52),.mv (.tmp 3),none⟩,
 ⟨(some 53),.bin .add (.tmp 52) (.const (.int .i64 1)),none⟩,
 ⟨(some 3),.mv (.tmp 53),none⟩]
def yf2 : List GOp:=[
 ⟨(some 33),.mv (.tmp 5),none⟩,
 ⟨(some 34),.bin .add (.tmp 33) (.const (.int .i64 1)),none⟩,
 ⟨(some 5),.mv (.tmp 34),none⟩]
def yl2 : DC:=.seq (.seq (.reg tm2) (.cond (.tmp 32) (.skip) (.exit 2))) (.seq (.block 3 (.seq (.par true true true 9 tf2) (.cond (.tmp 44) (.seq (.reg yc2) (.reg ym2)) (.skip)))) (.reg yf2))
def yh2 : List GOp:=[
 ⟨(some 54),.mv (.tmp 0),none⟩,
 ⟨(some 55),.mv (.tmp 3),none⟩,
 ⟨(some 56),.slc 1 (.tmp 54) (some (.tmp 55)) none,none⟩,
 ⟨none,.clr 1 (.int .i64 0) (.tmp 56),none⟩]
def yp2 : List GOp:=[
 ⟨(some 57),.mv (.tmp 0),none⟩,
 ⟨(some 58),.mv (.tmp 3),none⟩,
 ⟨(some 59),.slc 1 (.tmp 57) none (some (.tmp 58)),none⟩,
 ⟨(some 2),.mv (.tmp 59),none⟩]
def yg2 : List GOp:=[
 ⟨(some 14),.mv (.tmp 3),none⟩,
 ⟨(some 15),.bin .add (.tmp 14) (.const (.int .i64 1)),none⟩,
 ⟨(some 3),.mv (.tmp 15),none⟩]
def yd2 : DC:=.seq (.seq (.reg tt2) (.cond (.tmp 13) (.skip) (.exit 0))) (.seq (.block 1 (.seq (.par true true true 9 tl2) (.cond (.tmp 25) (.seq (.reg td2) (.seq (.seq (.reg tc2) (.block 2 (.loop yl2))) (.seq (.reg yh2) (.seq (.reg yp2) (.ret))))) (.skip)))) (.reg yg2))
def yb2 : List GOp:=[
 ⟨(some 60),.mv (.tmp 0),none⟩,
 ⟨(some 2),.mv (.tmp 60),none⟩]
def d58c : DC:=.seq (.reg to2) (.seq (.seq (.reg te2) (.cond (.tmp 8) (.seq (.reg tn2) (.ret)) (.skip))) (.seq (.seq (.reg ts2) (.block 0 (.loop yd2))) (.seq (.reg yb2) (.ret))))
def d58 : DFn:=⟨61,d58c,[.tmp 2]⟩
theorem yt2 : zv0 Tryz.prog 35=some d58:=by kernel_rfl
theorem db0 {α:Type}{a:List α}{k:Nat}{x:α}(h:a[k]?=some x):a.take (k+1)=a.take k++[x]:=by
 rw[List.take_add_one,h];rfl
theorem gv1 {k:Int}(h:0≤k):(k+1).toNat=k.toNat+1:=by omega
def gk0 (l:List Int):Nat→List Int
 | 0=>[]
 | k+1=>match l[k]? with
  | none=>gk0 l k
  | some x=>if k≠0∧l[k - 1]?=some x then gk0 l k else gk0 l k++[x]
def cj0 (l:List Int):List Int:=gk0 l l.length
theorem fc0 {l:List Int}{k:Nat}{x:Int}(h:l[k]?=some x):gk0 l (k+1)=if k≠0∧l[k - 1]?=some x then gk0 l k else gk0 l k++[x]:=by
 rw[gk0,h]
theorem rf1 (l:List Int)(k:Nat):(gk0 l k).length≤k:=by
 induction k with
 | zero=>simp[gk0]
 | succ k ih =>
  rw[gk0]
  split
  ·omega
  ·split
   ·omega
   ·simp;omega
theorem em0 {l:List Int}{k:Nat}{x y:Int}(h0:k≠0)(h:l[k]?=some x)(h':l[k - 1]?=some y)(he:x=y):gk0 l (k+1)=gk0 l k:=by
 rw[fc0 h,if_pos ⟨h0,by rw[h',he]⟩]
theorem wc1 {l:List Int}{k:Nat}{x y:Int}(h:l[k]?=some x)(h':l[k - 1]?=some y)(he:x≠y):gk0 l (k+1)=gk0 l k++[x]:=by
 rw[fc0 h,if_neg]
 rintro ⟨_,h2⟩
 rw[h'] at h2;cases h2;exact he rfl
variable {P:Program}(hP:P=Tryz.prog)
include hP
theorem li1 {l:List Int}{es:List (List D)}(hes:es=l.map dI)(hl:l.length≤1000000000) :
  qe0 P 35 [.row 3 1 es] [.hd 0] (fun sv own'=>sv=.d (.sl ((cj0 l).map dI))∧own'=[.gone]):=by
 refine .rl2 (hP▸yt2) rfl fun K hK=>?_
 have la:es.length=l.length:=by simp[hes]
 cbv
 refine brk (fun h=>?_) (fun h=>?_)
 ·simp only[x_lt,x_len,la,decide_eq_true_eq] at h
  cbv
  refine hK _ _ (slE ?_)
  have:cj0 l=l:=by
   match l,h with
   | [],_=>rfl
   | [x],_=>rfl
   | x::y::r,h=>simp at h;omega
  rw[this,hes]
 simp only[x_lt,x_len,la,decide_eq_false_iff_not] at h
 cbv
 refine .intro (ι:=Int) (fun k=>[.hd 0,.top,.top,.i k]++List.replicate 57 .top) (fun _=>[.row 3 1 es]) (fun env _=>iAt env 3)
  (fun k=>1≤k∧k≤l.length∧gk0 l k.toNat=l.take k.toNat) (fun k=>l.length - k.toNat) 1 ?_ (.mtn [0] ?_) fun k hk Kn hKn=>?_
 ·refine⟨Int.le_refl _,by (first | omega | ((try simp only[nc] at *);(try simp only[Int.ofNat_eq_natCast] at *);omega)),?_⟩
  have hn0:0<l.length:=by (first | omega | ((try simp only[nc] at *);(try simp only[Int.ofNat_eq_natCast] at *);omega))
  have hx:l[0]?=some l[0]:=List.getElem?_eq_getElem hn0
  show gk0 l 1=l.take 1
  rw[fc0 hx,if_neg (by simp),db0 hx];rfl
 ·(cbv;repeat (refine⟨rfl,?_⟩;cbv))
 obtain⟨hk1,hk2,hk3⟩:=hk
 cbv
 refine brk (fun h1=>?_) (fun h1=>?_)
 ·simp only[x_lt,x_len,la,decide_eq_true_eq] at h1
  cbv
  refine⟨by (first | omega | ((try simp only[nc] at *);(try simp only[Int.ofNat_eq_natCast] at *);omega)),by rw[la];exact h1,?_⟩
  cbv
  refine .map hes (by simp only[fj0];(first | omega | ((try simp only[nc] at *);(try simp only[Int.ofNat_eq_natCast] at *);omega))) fun x hx=>?_
  simp only[fj0] at hx
  have ew:IntKind.i64.wrap (k - 1)=k - 1:=nt0 (by (first | omega | ((try simp only[nc] at *);(try simp only[Int.ofNat_eq_natCast] at *);omega))) (by (first | omega | ((try simp only[nc] at *);(try simp only[Int.ofNat_eq_natCast] at *);omega)))
  cbv
  refine⟨by simp only[mg0];rw[ew];(first | omega | ((try simp only[nc] at *);(try simp only[Int.ofNat_eq_natCast] at *);omega)),by simp only[mg0];rw[ew,la];(first | omega | ((try simp only[nc] at *);(try simp only[Int.ofNat_eq_natCast] at *);omega)),?_⟩
  cbv
  refine .map hes (by simp only[fj0,mg0];rw[ew];(first | omega | ((try simp only[nc] at *);(try simp only[Int.ofNat_eq_natCast] at *);omega))) fun y hy=>?_
  simp only[fj0,mg0] at hy
  rw[ew] at hy
  have hy:l[k.toNat - 1]?=some y:=by rw[← hy];congr 1;(first | omega | ((try simp only[nc] at *);(try simp only[Int.ofNat_eq_natCast] at *);omega))
  cbv
  refine brk (fun h2=>?_) (fun h2=>?_)
  ·simp only[x_eq,decide_eq_true_eq] at h2
   cbv
   refine .own ?_
   cbv
   refine⟨by (first | omega | ((try simp only[nc] at *);(try simp only[Int.ofNat_eq_natCast] at *);omega)),by rw[la];(first | omega | ((try simp only[nc] at *);(try simp only[Int.ofNat_eq_natCast] at *);omega)),?_⟩
   cbv
   refine .intro (ι:=Int×Int×List (List D)) (fun q=>[.hd 0,.top,.top,.i q.1,.rs 0 1 ((Classical.choice yw1).1.nat k),.i q.2.1]++List.replicate 55 .top) (fun q=>[.row 3 1 q.2.2]) (fun env own=>(iAt env 3,iAt env 5,rAt own 0))
    (fun q=>∃ ml:List Int,q.2.2=ml.map dI∧ml.length=l.length∧0≤q.1∧q.1+1≤k+q.2.1∧1≤q.2.1∧k+q.2.1≤l.length∧ml.take q.1.toNat=gk0 l (k+q.2.1).toNat∧ml.drop (k+q.2.1 - 1).toNat=l.drop (k+q.2.1 - 1).toNat)
    (fun q=>l.length - q.2.1.toNat) (k,1,es) ?_ (.mtn [0] ?_) fun q hq Kn2 hKn2=>?_
   ·refine⟨l,hes,rfl,by (first | omega | ((try simp only[nc] at *);(try simp only[Int.ofNat_eq_natCast] at *);omega)),by (first | omega | ((try simp only[nc] at *);(try simp only[Int.ofNat_eq_natCast] at *);omega)),by (first | omega | ((try simp only[nc] at *);(try simp only[Int.ofNat_eq_natCast] at *);omega)),by (first | omega | ((try simp only[nc] at *);(try simp only[Int.ofNat_eq_natCast] at *);omega)),?_,rfl⟩
    have e1:(k+1).toNat=k.toNat+1:=by (first | omega | ((try simp only[nc] at *);(try simp only[Int.ofNat_eq_natCast] at *);omega))
    rw[e1,em0 (by (first | omega | ((try simp only[nc] at *);(try simp only[Int.ofNat_eq_natCast] at *);omega))) hx hy h2,hk3]
   ·(cbv;repeat (refine⟨rfl,?_⟩;cbv))
   obtain⟨p,q,es'⟩:=q
   obtain⟨ml,hml,hmlen,hp0,hpq,hq1,hql,hmt,hmd⟩:=hq
   dsimp only at hml hp0 hpq hq1 hql hmt hmd
   have la':es'.length=l.length:=by rw[hml,List.length_map,hmlen]
   have hget:∀ j:Nat,k+q - 1≤j→ml[j]?=l[j]?:=fun j hj=>by
    have:(ml.drop (k+q - 1).toNat)[j - (k+q - 1).toNat]?=(l.drop (k+q - 1).toNat)[j - (k+q - 1).toNat]?:=by rw[hmd]
    rw[List.getElem?_drop,List.getElem?_drop] at this
    rw[show (k+q - 1).toNat+(j - (k+q - 1).toNat)=j by omega] at this
    exact this
   cbv
   refine brk (fun h3=>?_) (fun h3=>?_)
   ·simp only[x_lt,cw1,fj0,la',decide_eq_true_eq] at h3
    have h4:k+q<l.length:=by (first | omega | ((try simp only[nc] at *);(try simp only[Int.ofNat_eq_natCast] at *);omega))
    cbv
    refine⟨by (first | omega | ((try simp only[nc] at *);(try simp only[Int.ofNat_eq_natCast] at *);omega)),by simp only[la',fj0];(first | omega | ((try simp only[nc] at *);(try simp only[Int.ofNat_eq_natCast] at *);omega)),?_⟩
    cbv
    refine .map hml (by simp only[cg0,fj0];(first | omega | ((try simp only[nc] at *);(try simp only[Int.ofNat_eq_natCast] at *);omega))) fun u hu=>?_
    simp only[cg0,fj0] at hu
    have hu2:l[(k+q).toNat]?=some u:=by rw[← hu,← hget _ (by (first | omega | ((try simp only[nc] at *);(try simp only[Int.ofNat_eq_natCast] at *);omega)))];congr 1;(first | omega | ((try simp only[nc] at *);(try simp only[Int.ofNat_eq_natCast] at *);omega))
    have ew:IntKind.i64.wrap (q - 1)=q - 1:=nt0 (by (first | omega | ((try simp only[nc] at *);(try simp only[Int.ofNat_eq_natCast] at *);omega))) (by (first | omega | ((try simp only[nc] at *);(try simp only[Int.ofNat_eq_natCast] at *);omega)))
    cbv
    refine⟨by simp only[mg0];rw[ew];(first | omega | ((try simp only[nc] at *);(try simp only[Int.ofNat_eq_natCast] at *);omega)),by simp only[mg0];simp only[ew,la',fj0];(first | omega | ((try simp only[nc] at *);(try simp only[Int.ofNat_eq_natCast] at *);omega)),?_⟩
    cbv
    refine .map hml (by simp only[cg0,fj0,mg0];rw[ew];(first | omega | ((try simp only[nc] at *);(try simp only[Int.ofNat_eq_natCast] at *);omega))) fun v hv=>?_
    simp only[cg0,fj0,mg0] at hv
    rw[ew] at hv
    have hv2:l[(k+q).toNat - 1]?=some v:=by rw[← hv,← hget _ (by (first | omega | ((try simp only[nc] at *);(try simp only[Int.ofNat_eq_natCast] at *);omega)))];congr 1;(first | omega | ((try simp only[nc] at *);(try simp only[Int.ofNat_eq_natCast] at *);omega))
    cbv
    refine brk (fun h5=>?_) (fun h5=>?_)
    ·simp only[x_eq,zd2,Bool.not_eq_true',decide_eq_false_iff_not] at h5
     cbv
     refine⟨by (first | omega | ((try simp only[nc] at *);(try simp only[Int.ofNat_eq_natCast] at *);omega)),by simp only[la',fj0];(first | omega | ((try simp only[nc] at *);(try simp only[Int.ofNat_eq_natCast] at *);omega)),?_⟩
     cbv
     refine .map hml (by simp only[cg0,fj0];(first | omega | ((try simp only[nc] at *);(try simp only[Int.ofNat_eq_natCast] at *);omega))) fun u' hu'=>?_
     simp only[cg0,fj0] at hu'
     rw[hu] at hu';cases hu'
     cbv
     refine⟨by (first | omega | ((try simp only[nc] at *);(try simp only[Int.ofNat_eq_natCast] at *);omega)),by rw[la'];(first | omega | ((try simp only[nc] at *);(try simp only[Int.ofNat_eq_natCast] at *);omega)),?_⟩
     cbv
     refine .map hml (by simp only[fj0];(first | omega | ((try simp only[nc] at *);(try simp only[Int.ofNat_eq_natCast] at *);omega))) fun z hz=>?_
     cbv
     refine hKn2 _ _ (.mtn [0] ?_) ?_ ?_
     ·(cbv;repeat (refine⟨rfl,?_⟩;cbv))
     ·simp only[iAt,jh0,rAt,ze0,gz1,rc2,fj0]
      rw[nt0 (by (first | omega | ((try simp only[nc] at *);(try simp only[Int.ofNat_eq_natCast] at *);omega))) (by (first | omega | ((try simp only[nc] at *);(try simp only[Int.ofNat_eq_natCast] at *);omega))),nt0 (by (first | omega | ((try simp only[nc] at *);(try simp only[Int.ofNat_eq_natCast] at *);omega))) (by (first | omega | ((try simp only[nc] at *);(try simp only[Int.ofNat_eq_natCast] at *);omega)))]
      refine⟨ml.set p.toNat u,?_,by rw[List.length_set];exact hmlen,by (first | omega | ((try simp only[nc] at *);(try simp only[Int.ofNat_eq_natCast] at *);omega)),by (first | omega | ((try simp only[nc] at *);(try simp only[Int.ofNat_eq_natCast] at *);omega)),by (first | omega | ((try simp only[nc] at *);(try simp only[Int.ofNat_eq_natCast] at *);omega)),by (first | omega | ((try simp only[nc] at *);(try simp only[Int.ofNat_eq_natCast] at *);omega)),?_,?_⟩
      ·rw[hml,List.map_set];rfl
      ·have hlt:p.toNat<ml.length:=by (first | omega | ((try simp only[nc] at *);(try simp only[Int.ofNat_eq_natCast] at *);omega))
       have hg:(ml.set p.toNat u)[p.toNat]?=some u:=by simp[hlt]
       rw[show (k+(q+1)).toNat=(k+q).toNat+1 by (first | omega | ((try simp only[nc] at *);(try simp only[Int.ofNat_eq_natCast] at *);omega)),show (p+1).toNat=p.toNat+1 by (first | omega | ((try simp only[nc] at *);(try simp only[Int.ofNat_eq_natCast] at *);omega)),wc1 hu2 hv2 h5,db0 hg,List.take_set_of_le (Nat.le_refl _),hmt]
      ·rw[List.drop_set_of_lt (by (first | omega | ((try simp only[nc] at *);(try simp only[Int.ofNat_eq_natCast] at *);omega))),show (k+(q+1) - 1).toNat=(k+q - 1).toNat+1 by (first | omega | ((try simp only[nc] at *);(try simp only[Int.ofNat_eq_natCast] at *);omega)),← List.drop_drop,hmd,List.drop_drop]
     ·simp only[iAt,jh0,gz1]
      rw[nt0 (by (first | omega | ((try simp only[nc] at *);(try simp only[Int.ofNat_eq_natCast] at *);omega))) (by (first | omega | ((try simp only[nc] at *);(try simp only[Int.ofNat_eq_natCast] at *);omega)))]
      (first | omega | ((try simp only[nc] at *);(try simp only[Int.ofNat_eq_natCast] at *);omega))
    ·simp only[x_eq,zd2,Bool.not_eq_false',decide_eq_true_eq] at h5
     cbv
     refine hKn2 _ _ (.mtn [0] ?_) ?_ ?_
     ·(cbv;repeat (refine⟨rfl,?_⟩;cbv))
     ·simp only[iAt,jh0,rAt,ze0,gz1]
      rw[nt0 (by (first | omega | ((try simp only[nc] at *);(try simp only[Int.ofNat_eq_natCast] at *);omega))) (by (first | omega | ((try simp only[nc] at *);(try simp only[Int.ofNat_eq_natCast] at *);omega)))]
      refine⟨ml,hml,hmlen,by (first | omega | ((try simp only[nc] at *);(try simp only[Int.ofNat_eq_natCast] at *);omega)),by (first | omega | ((try simp only[nc] at *);(try simp only[Int.ofNat_eq_natCast] at *);omega)),by (first | omega | ((try simp only[nc] at *);(try simp only[Int.ofNat_eq_natCast] at *);omega)),by (first | omega | ((try simp only[nc] at *);(try simp only[Int.ofNat_eq_natCast] at *);omega)),?_,?_⟩
      ·rw[show (k+(q+1)).toNat=(k+q).toNat+1 by (first | omega | ((try simp only[nc] at *);(try simp only[Int.ofNat_eq_natCast] at *);omega)),em0 (by (first | omega | ((try simp only[nc] at *);(try simp only[Int.ofNat_eq_natCast] at *);omega))) hu2 hv2 h5,hmt]
      ·rw[show (k+(q+1) - 1).toNat=(k+q - 1).toNat+1 by (first | omega | ((try simp only[nc] at *);(try simp only[Int.ofNat_eq_natCast] at *);omega)),← List.drop_drop,hmd,List.drop_drop]
     ·simp only[iAt,jh0,gz1]
      rw[nt0 (by (first | omega | ((try simp only[nc] at *);(try simp only[Int.ofNat_eq_natCast] at *);omega))) (by (first | omega | ((try simp only[nc] at *);(try simp only[Int.ofNat_eq_natCast] at *);omega)))]
      (first | omega | ((try simp only[nc] at *);(try simp only[Int.ofNat_eq_natCast] at *);omega))
   ·simp only[x_lt,cw1,fj0,la',decide_eq_false_iff_not] at h3
    have hpl:p.toNat≤es'.length:=by (first | omega | ((try simp only[nc] at *);(try simp only[Int.ofNat_eq_natCast] at *);omega))
    cbv
    refine .own ?_
    cbv
    refine⟨hp0,by rw[la'];(first | omega | ((try simp only[nc] at *);(try simp only[Int.ofNat_eq_natCast] at *);omega)),?_⟩
    cbv
    refine⟨by simp only[fj0];exact hpl,?_⟩
    cbv
    refine .own ?_
    cbv
    refine⟨hp0,?_,?_⟩
    ·simp only[zl2,fj0,List.length_append,List.length_take,List.length_replicate]
     (first | omega | ((try simp only[nc] at *);(try simp only[Int.ofNat_eq_natCast] at *);omega))
    cbv
    refine hK _ _ (slE ?_)
    simp only[zc2,zl2,fj0]
    rw[List.take_append_of_le_length (by rw[List.length_take];omega),List.take_take,Nat.min_self,hml,← List.map_take,hmt,cj0]
    congr 2
    (first | omega | ((try simp only[nc] at *);(try simp only[Int.ofNat_eq_natCast] at *);omega))
  ·simp only[x_eq,decide_eq_false_iff_not] at h2
   cbv
   refine hKn _ _ (.mtn [0] ?_) ?_ ?_
   ·(cbv;repeat (refine⟨rfl,?_⟩;cbv))
   ·simp only[iAt,jh0,gz1]
    rw[nt0 (by (first | omega | ((try simp only[nc] at *);(try simp only[Int.ofNat_eq_natCast] at *);omega))) (by (first | omega | ((try simp only[nc] at *);(try simp only[Int.ofNat_eq_natCast] at *);omega))),gv1 (by (first | omega | ((try simp only[nc] at *);(try simp only[Int.ofNat_eq_natCast] at *);omega)))]
    refine⟨by (first | omega | ((try simp only[nc] at *);(try simp only[Int.ofNat_eq_natCast] at *);omega)),by (first | omega | ((try simp only[nc] at *);(try simp only[Int.ofNat_eq_natCast] at *);omega)),?_⟩
    rw[wc1 hx hy h2,hk3,db0 hx]
   ·simp only[iAt,jh0,gz1]
    rw[nt0 (by (first | omega | ((try simp only[nc] at *);(try simp only[Int.ofNat_eq_natCast] at *);omega))) (by (first | omega | ((try simp only[nc] at *);(try simp only[Int.ofNat_eq_natCast] at *);omega)))]
    (first | omega | ((try simp only[nc] at *);(try simp only[Int.ofNat_eq_natCast] at *);omega))
 ·simp only[x_lt,x_len,la,decide_eq_false_iff_not] at h1
  cbv
  refine hK _ _ (slE ?_)
  have e1:k.toNat=l.length:=by (first | omega | ((try simp only[nc] at *);(try simp only[Int.ofNat_eq_natCast] at *);omega))
  rw[hes,cj0,← e1,hk3,e1,List.take_length]
omit hP in
theorem W_dI (l:List Int):W qq0 l=l.map dI:=by rw[mi0];rfl
noncomputable def mq1 (l:List Int):Option (List Int):=if l.length≤1000000000 then some (cj0 l) else none
theorem ml0 (l r:List Int)(h:mq1 l=some r) :
  qe0 P 35 [.row 3 1 (W qq0 l)] [.hd 0] (fun sv own'=>sv=.d (.sl (W qq0 r))∧own'=[.gone]):=by
 unfold mq1 at h
 split at h
 ·rename_i hl
  cases h
  rw[W_dI,W_dI]
  exact li1 hP rfl hl
 ·cases h
end Go.SX.Td
