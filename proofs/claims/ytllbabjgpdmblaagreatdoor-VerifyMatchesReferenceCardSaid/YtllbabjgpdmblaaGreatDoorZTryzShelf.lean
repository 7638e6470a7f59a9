/- Parts of the proof. -/
import Derived.Shelf.Strings.Builder1
import Derived.Shelf.Strings.BuilderF
import Derived.Shelf.Strings.BuilderK
import Derived.Shelf.Strconv.Itoa0
import Derived.Shelf.Strconv.Itoa1
import Derived.Shelf.LaysM
import Derived.Shelf.Strconv.Itoa2
import Derived.Shelf.Strconv.Itoa3
import Derived.Shelf.Sort.Plain
import Derived.Shelf.Slices.In.SortNone
import Derived.Test.YtllbabjgpdmblaaGreatDoorProg
import Derived.WalkKit
import Derived.Lib.OthersKept
import Derived.BigCall
import Derived.Test.YtllbabjgpdmblaaGreatDoorZTdTab
import Derived.Test.YtllbabjgpdmblaaGreatDoorZTdT
import Derived.Laws.AppendOwnNone
import Derived.Lib.ItoaLen
import Derived.Deep.RegionHeld3
set_option linter.unusedSimpArgs false
set_option linter.unusedVariables false
set_option linter.unusedSectionVars false
namespace Go.Proofs
open Go.Shelf
def Tryz.lays169_ren : Go.Shelf.Ren:=⟨fun|169=>72|n=>n,fun|70=>115|9=>9|0=>0|72=>118|37=>116|127=>138|3=>3|5=>5|n=>n,fun|n=>n⟩
theorem Tryz.lays169 : Go.Proofs.Lays.n169 Tryz.prog Tryz.lays169_ren:={
 mixed:=by kernel_rfl
 f169:=Tryz.func72.trans (congrArg some (by kernel_rfl))
 t0:=Tryz.underlying0
 a0:=Tryz.isAgg0
 z0:=Tryz.sizeOf0
 v0:=Tryz.zeroValue0
 t3:=Tryz.underlying3
 a3:=Tryz.isAgg3
 z3:=Tryz.sizeOf3
 v3:=Tryz.zeroValue3
 t9:=Tryz.underlying9
 a9:=Tryz.isAgg9
 z9:=Tryz.sizeOf9
 v9:=Tryz.zeroValue9
 t37:=Tryz.underlying116
 a37:=Tryz.isAgg116
 z37:=Tryz.sizeOf116
 v37:=Tryz.zeroValue116
 t70:=Tryz.underlying115
 a70:=Tryz.isAgg115
 z70:=Tryz.sizeOf115
 v70:=Tryz.zeroValue115
 t72:=Tryz.underlying118
 a72:=Tryz.isAgg118
 z72:=Tryz.sizeOf118
 v72:=Tryz.zeroValue118
 t127:=Tryz.underlying138
 a127:=Tryz.isAgg138
 z127:=Tryz.sizeOf138
 v127:=Tryz.zeroValue138 }
theorem Tryz.Builder_Extra_169 : Builder.Extra Tryz.prog Tryz.lays169_ren:={
 sizeBuilder:=by kernel_rfl
 liesBuilder:=by kernel_rfl
 t5:=Tryz.underlying5
 a5:=Tryz.isAgg5
 z5:=Tryz.sizeOf5
 v5:=Tryz.zeroValue5
 infoByte:=by kernel_rfl
 cellsByte:=by kernel_rfl
 sizeByte:=by kernel_rfl
 neB5:=by decide }
open Go.RowKit in
open Go.RowKit in
open Go.RowKit in
open Go.RowKit in
open Go.RowKit in
open Go.RowKit in
theorem Tryz.Builder_String_any_f (B b:Nat)(l:List UInt8)(w:World)(h:Lib.IsBuilderF 118 5 B b (Lib.byteCells l) w)(hBw:B<=w.heap.size) :
  Calls Tryz.prog 72 #[.pointer (some ⟨b,0,none⟩)] w fun e w'=>e=.returned (.string ⟨l.toArray⟩)/\(Lib.IsBuilderF 118 5 B b (Lib.byteCells l) w'/\Below B w w'):=Any.Builder_String_any_f Tryz.lays169 Tryz.Builder_Extra_169 B b l w h hBw
open Go.RowKit in
open Go.RowKit in
open Go.RowKit in
open Go.Lib in
open Go.Lib in
open Go.Lib in
open Go.Lib in
open Go.RowKit Go.Sort Go.Lib in
open Go.RowKit Go.Sort Go.Lib in
open Go.RowKit Go.Sort Go.Lib in
open Go.RowKit Go.Sort Go.Lib in
open Go.RowKit Go.Sort Go.Lib in
def Tryz.jh1 : Go.Shelf.Ren:=⟨fun|171=>70|243=>90|246=>106|283=>113|284=>114|285=>115|286=>116|129=>101|317=>118|318=>119|319=>120|320=>121|337=>122|338=>123|n=>n,fun|3=>3|9=>9|2=>2|4=>4|171=>161|0=>0|53=>149|37=>116|5=>5|173=>163|212=>170|51=>147|20=>20|213=>171|46=>128|232=>172|233=>173|n=>n,fun|17=>0|18=>1|19=>2|n=>n⟩
theorem Tryz.laysM171 : Go.Proofs.LaysM.n171 Tryz.prog Tryz.jh1:={
 mixed:=by kernel_rfl
 f129:=Tryz.func101.trans (congrArg some (by kernel_rfl))
 f171:=Tryz.func70.trans (congrArg some (by kernel_rfl))
 f243:=Tryz.func90.trans (congrArg some (by kernel_rfl))
 f246:=Tryz.func106.trans (congrArg some (by kernel_rfl))
 f283:=Tryz.func113.trans (congrArg some (by kernel_rfl))
 f284:=Tryz.func114.trans (congrArg some (by kernel_rfl))
 f285:=Tryz.func115.trans (congrArg some (by kernel_rfl))
 f286:=Tryz.func116.trans (congrArg some (by kernel_rfl))
 f317:=Tryz.func118.trans (congrArg some (by kernel_rfl))
 f318:=Tryz.func119.trans (congrArg some (by kernel_rfl))
 f319:=Tryz.func120.trans (congrArg some (by kernel_rfl))
 f320:=Tryz.func121.trans (congrArg some (by kernel_rfl))
 f337:=Tryz.func122.trans (congrArg some (by kernel_rfl))
 f338:=Tryz.func123.trans (congrArg some (by kernel_rfl))
 t0:=Tryz.underlying0
 a0:=Tryz.isAgg0
 z0:=Tryz.sizeOf0
 v0:=Tryz.zeroValue0
 t2:=Tryz.underlying2
 a2:=Tryz.isAgg2
 z2:=Tryz.sizeOf2
 v2:=Tryz.zeroValue2
 t3:=Tryz.underlying3
 a3:=Tryz.isAgg3
 z3:=Tryz.sizeOf3
 v3:=Tryz.zeroValue3
 t4:=Tryz.underlying4
 a4:=Tryz.isAgg4
 z4:=Tryz.sizeOf4
 v4:=Tryz.zeroValue4
 t5:=Tryz.underlying5
 a5:=Tryz.isAgg5
 z5:=Tryz.sizeOf5
 v5:=Tryz.zeroValue5
 t9:=Tryz.underlying9
 a9:=Tryz.isAgg9
 z9:=Tryz.sizeOf9
 v9:=Tryz.zeroValue9
 t20:=Tryz.underlying20
 a20:=Tryz.isAgg20
 z20:=Tryz.sizeOf20
 v20:=Tryz.zeroValue20
 t37:=Tryz.underlying116
 a37:=Tryz.isAgg116
 z37:=Tryz.sizeOf116
 v37:=Tryz.zeroValue116
 t46:=Tryz.underlying128
 a46:=Tryz.isAgg128
 z46:=Tryz.sizeOf128
 v46:=Tryz.zeroValue128
 t51:=Tryz.underlying147
 a51:=Tryz.isAgg147
 z51:=Tryz.sizeOf147
 v51:=Tryz.zeroValue147
 t53:=Tryz.underlying149
 a53:=Tryz.isAgg149
 z53:=Tryz.sizeOf149
 v53:=Tryz.zeroValue149
 t171:=Tryz.underlying161
 a171:=Tryz.isAgg161
 z171:=Tryz.sizeOf161
 v171:=Tryz.zeroValue161
 t173:=Tryz.underlying163
 a173:=Tryz.isAgg163
 z173:=Tryz.sizeOf163
 v173:=Tryz.zeroValue163
 t212:=Tryz.underlying170
 a212:=Tryz.isAgg170
 z212:=Tryz.sizeOf170
 v212:=Tryz.zeroValue170
 t213:=Tryz.underlying171
 a213:=Tryz.isAgg171
 z213:=Tryz.sizeOf171
 t232:=Tryz.underlying172
 a232:=Tryz.isAgg172
 z232:=Tryz.sizeOf172
 v232:=Tryz.zeroValue172
 t233:=Tryz.underlying173
 a233:=Tryz.isAgg173
 z233:=Tryz.sizeOf173
 v233:=Tryz.zeroValue173
 g17:=by kernel_rfl
 g18:=by kernel_rfl
 g19:=by kernel_rfl
 i0:=by kernel_rfl
 i2:=by kernel_rfl
 i3:=by kernel_rfl
 i4:=by kernel_rfl
 i5:=by kernel_rfl
 i9:=by kernel_rfl
 i20:=by kernel_rfl
 i37:=by kernel_rfl
 i46:=by kernel_rfl
 i51:=by kernel_rfl
 i53:=by kernel_rfl
 i171:=by kernel_rfl
 i173:=by kernel_rfl
 i212:=by kernel_rfl
 i232:=by kernel_rfl
 i233:=by kernel_rfl
 m17:=by kernel_rfl
 m18:=by kernel_rfl
 m19:=by kernel_rfl }
open Go.RowKit Go.Sort Go.Lib in
theorem Tryz.strconv_Itoa (n:Int) (h0:-9223372036854775808<=n) (h1:n<=9223372036854775807) (w:World) (htab:Lib.TabIs Tryz.prog w "internal/strconv.uint64pow10" .u64 Lib.pow10Tab) :
  Calls Tryz.prog 70 #[.int .i64 n] w fun e w'=>e=.returned (.string ⟨(Lib.itoa n).toArray⟩)/\∃ k os,w'=grow (w.drewN k) os:=Any.strconv_Itoa Tryz.laysM171 n h0 h1 w htab
open Go.RowKit Go.Sort Go.Lib in
def Tryz.xy1 : Go.Shelf.Ren:=⟨fun|189=>34|125=>74|257=>73|128=>100|129=>101|294=>91|295=>92|296=>93|297=>94|298=>95|299=>96|216=>97|300=>98|301=>99|328=>107|329=>108|330=>109|331=>110|332=>111|215=>112|343=>117|n=>n,fun|28=>48|3=>3|46=>128|0=>0|51=>147|53=>149|4=>4|183=>141|182=>140|131=>81|5=>5|9=>9|218=>155|222=>159|228=>165|229=>166|n=>n,fun|n=>n⟩
theorem Tryz.lays189 : Go.Proofs.Lays.n189 Tryz.prog Tryz.xy1:={
 mixed:=by kernel_rfl
 f125:=Tryz.func74.trans (congrArg some (by kernel_rfl))
 f128:=Tryz.func100.trans (congrArg some (by kernel_rfl))
 f129:=Tryz.func101.trans (congrArg some (by kernel_rfl))
 f189:=Tryz.func34.trans (congrArg some (by kernel_rfl))
 f215:=Tryz.func112.trans (congrArg some (by kernel_rfl))
 f216:=Tryz.func97.trans (congrArg some (by kernel_rfl))
 f257:=Tryz.func73.trans (congrArg some (by kernel_rfl))
 f294:=Tryz.func91.trans (congrArg some (by kernel_rfl))
 f295:=Tryz.func92.trans (congrArg some (by kernel_rfl))
 f296:=Tryz.func93.trans (congrArg some (by kernel_rfl))
 f297:=Tryz.func94.trans (congrArg some (by kernel_rfl))
 f298:=Tryz.func95.trans (congrArg some (by kernel_rfl))
 f299:=Tryz.func96.trans (congrArg some (by kernel_rfl))
 f300:=Tryz.func98.trans (congrArg some (by kernel_rfl))
 f301:=Tryz.func99.trans (congrArg some (by kernel_rfl))
 f328:=Tryz.func107.trans (congrArg some (by kernel_rfl))
 f329:=Tryz.func108.trans (congrArg some (by kernel_rfl))
 f330:=Tryz.func109.trans (congrArg some (by kernel_rfl))
 f331:=Tryz.func110.trans (congrArg some (by kernel_rfl))
 f332:=Tryz.func111.trans (congrArg some (by kernel_rfl))
 f343:=Tryz.func117.trans (congrArg some (by kernel_rfl))
 t0:=Tryz.underlying0
 a0:=Tryz.isAgg0
 z0:=Tryz.sizeOf0
 v0:=Tryz.zeroValue0
 t3:=Tryz.underlying3
 a3:=Tryz.isAgg3
 z3:=Tryz.sizeOf3
 v3:=Tryz.zeroValue3
 t4:=Tryz.underlying4
 a4:=Tryz.isAgg4
 z4:=Tryz.sizeOf4
 v4:=Tryz.zeroValue4
 t5:=Tryz.underlying5
 a5:=Tryz.isAgg5
 z5:=Tryz.sizeOf5
 v5:=Tryz.zeroValue5
 t9:=Tryz.underlying9
 a9:=Tryz.isAgg9
 z9:=Tryz.sizeOf9
 v9:=Tryz.zeroValue9
 t28:=Tryz.underlying48
 a28:=Tryz.isAgg48
 z28:=Tryz.sizeOf48
 v28:=Tryz.zeroValue48
 t46:=Tryz.underlying128
 a46:=Tryz.isAgg128
 z46:=Tryz.sizeOf128
 v46:=Tryz.zeroValue128
 t51:=Tryz.underlying147
 a51:=Tryz.isAgg147
 z51:=Tryz.sizeOf147
 v51:=Tryz.zeroValue147
 t53:=Tryz.underlying149
 a53:=Tryz.isAgg149
 z53:=Tryz.sizeOf149
 v53:=Tryz.zeroValue149
 t131:=Tryz.underlying81
 a131:=Tryz.isAgg81
 z131:=Tryz.sizeOf81
 v131:=Tryz.zeroValue81
 t182:=Tryz.underlying140
 a182:=Tryz.isAgg140
 z182:=Tryz.sizeOf140
 v182:=Tryz.zeroValue140
 t183:=Tryz.underlying141
 a183:=Tryz.isAgg141
 z183:=Tryz.sizeOf141
 v183:=Tryz.zeroValue141
 t218:=Tryz.underlying155
 a218:=Tryz.isAgg155
 z218:=Tryz.sizeOf155
 v218:=Tryz.zeroValue155
 t222:=Tryz.underlying159
 a222:=Tryz.isAgg159
 z222:=Tryz.sizeOf159
 v222:=Tryz.zeroValue159
 t228:=Tryz.underlying165
 a228:=Tryz.isAgg165
 z228:=Tryz.sizeOf165
 v228:=Tryz.zeroValue165
 t229:=Tryz.underlying166
 a229:=Tryz.isAgg166
 z229:=Tryz.sizeOf166
 v229:=Tryz.zeroValue166 }
open Go.Sort Go.RowKit in
theorem Tryz.slices_Sort_int (blk off cap:Nat)(zs:List Int)(w:World)(hH:Holds (Value.int .i64) w blk off zs.toArray)(hblk:blk<w.heap.size)(hsz:zs.length<4611686018427387904) :
  Calls Tryz.prog 34 #[.slice (some ⟨blk,off,none⟩) zs.length cap] w fun e w' =>
   e=.returned (.tuple #[])/\∃ n os,w'=grow (putRow (Value.int .i64) (Sort.ahead w n) blk off (zs.mergeSort fun x y=>decide (x<=y)).toArray) os:=Any.slices_Sort_int Tryz.lays189 blk off cap zs w hH hblk hsz
open Go.RowKit Go.Sort in
theorem Tryz.slices_Sort_int_none (p:Option Addr)(cap:Nat)(w:World) :
  Calls Tryz.prog 34 #[.slice p 0 cap] w fun e w'=>e=.returned (.tuple #[])/\w'=w:=Any.slices_Sort_int_none Tryz.lays189 p cap w
end Go.Proofs
namespace Go.Proofs
open Go.RowKit
set_option maxHeartbeats 1000000 in
set_option maxRecDepth 100000 in
theorem Tryz.ij0 (b:Nat)(w:World)(h0:w.cell? ⟨b,0,none⟩=some (.pointer (some ⟨b,0,none⟩))) :
  Calls Tryz.prog 89 #[.pointer (some ⟨b,0,none⟩)] w fun e w'=>e=.returned (.tuple #[])/\w'=w:=by
 have hsz:(Tryz.prog.info? 118).map (·.size)=some 2:=by kernel_rfl
 obtain⟨j,hj,_⟩:=Option.map_eq_some_iff.1 hsz
 go_enter Tryz.func89,Tryz.ntmps89
 go_wp2
 rw[Lib.run_neq_ptr_same w _ Tryz.underlying115 hj]
 go_wp2
 go_end0
 exact⟨rfl,rfl⟩
set_option maxHeartbeats 1000000 in
set_option maxRecDepth 100000 in
theorem Tryz.cu0 (b:Nat)(w:World)(h0:w.cell? ⟨b,0,none⟩=some (.pointer none))(hsh:w.shape? b=some (118,2))(hfz:w.frozen? ⟨b,0,none⟩=false) :
  Calls Tryz.prog 89 #[.pointer (some ⟨b,0,none⟩)] w fun e w'=>e=.returned (.tuple #[])/\w'=w.setCell ⟨b,0,none⟩ (.pointer (some ⟨b,0,none⟩)):=by
 have hsz:(Tryz.prog.info? 118).map (·.size)=some 2:=by kernel_rfl
 obtain⟨j,hj,hjs⟩:=Option.map_eq_some_iff.1 hsz
 go_enter Tryz.func89,Tryz.ntmps89
 go_wp2
 rw[Lib.run_to_unsafe w ⟨b,0,none⟩ Tryz.underlying115 Tryz.underlying152 hj (by rw[hjs];decide) hsh (Nat.zero_lt_succ 1)]
 simp only[Result.andThen]
 rw[Oper.upon_value]
 go_wp2
 rw[run_callFunc_extern Tryz.func105 (by kernel_rfl) (by kernel_rfl) (by kernel_rfl) (e:=Extern.AbiNoEscape.same) (by kernel_rfl)]
 rw[Lib.run_noEscape]
 simp only[Result.andThen]
 rw[Oper.upon_value]
 go_wp2
 rw[Lib.run_from_unsafe w ⟨b,0,none⟩ Tryz.underlying152 Tryz.underlying115 hj hsh (by kernel_rfl)]
 simp only[Result.andThen]
 rw[Oper.upon_value]
 go_wp2
 go_end0
 exact⟨rfl,rfl⟩
theorem Tryz.co0 (B b:Nat)(bs:List Value)(w:World)(h:Lib.IsBuilderF 118 5 B b bs w) :
  Calls Tryz.prog 89 #[.pointer (some ⟨b,0,none⟩)] w fun e w'=>e=.returned (.tuple #[])/\(Lib.BuilderAtF 118 5 B b (.pointer (some ⟨b,0,none⟩)) bs w'/\Below B w w'/\Lib.OthersKept 5 (some b) w w'):=by
 rcases h with h|h
 ·refine(Tryz.cu0 b w h.cell0 h.shape h.frozen0).mono ?_
  rintro e w' ⟨rfl,rfl⟩
  exact⟨rfl,h.used _,(Below.refl B w).setCell (p:=⟨b,0,none⟩) h.1 _,(Lib.OthersKept.refl 5 (some b) w).setCell ⟨b,0,none⟩ rfl _⟩
 ·refine(Tryz.ij0 b w h.cell0).mono ?_
  rintro e w' ⟨rfl,rfl⟩
  exact⟨rfl,h,Below.refl B _,Lib.OthersKept.refl 5 (some b) _⟩
theorem Tryz.xu1 (B b:Nat)(bs:List Value)(w:World)(h:Lib.IsBuilderF 118 5 B b bs w) :
  Calls Tryz.prog 89 #[.pointer (some ⟨b,0,none⟩)] w fun e w'=>e=.returned (.tuple #[])/\(Lib.BuilderAtF 118 5 B b (.pointer (some ⟨b,0,none⟩)) bs w'/\Below B w w') :=
 (Tryz.co0 B b bs w h).mono fun _ _ h=>⟨h.1,h.2.1,h.2.2.1⟩
set_option maxHeartbeats 2000000 in
set_option maxRecDepth 100000 in
theorem Tryz.lu0 (B b:Nat)(bs:List Value)(s:ByteArray)(w:World)(h:Lib.IsBuilderF 118 5 B b bs w)(hlen:bs.length+s.size<=140737488355328)(hBw:B<=w.heap.size) :
  Calls Tryz.prog 69 #[.pointer (some ⟨b,0,none⟩),.string s] w fun e w'=>e=.returned (.tuple #[.int .i64 s.size,.nilIface])/\(Lib.BuilderAtF 118 5 B b (.pointer (some ⟨b,0,none⟩)) (bs++Lib.strCells s) w'/\Below B w w'/\Lib.OthersKept 5 (some b) w w'):=by
 obtain⟨i0,hi,hz0,hz1,hz2⟩:=info_parts (show (Tryz.prog.info? 5).map (fun i=>(i.zero,i.size,i.bytes))=some (some (.int .u8 0),1,1) by kernel_rfl)
 go_enter Tryz.func69,Tryz.ntmps69
 go_wp2_with (go_at_call 89;refine(Tryz.co0 B b bs _ h).mono ?_)
 rintro e w1 ⟨rfl,h1,hb1,hk1⟩
 obtain⟨hB,v,hbk,hown,hne⟩:=h1
 have c0:w1.cell? ⟨b,0,none⟩=some (.pointer (some ⟨b,0,none⟩)):=by rw[Lib.cell_of_heap hbk];rfl
 have c1:w1.cell? ⟨b,1,none⟩=some v:=by rw[Lib.cell_of_heap hbk];rfl
 go_wp2_with (at_builtin;refine Lib.wpList_append_own_stringF _ rfl _ _ 116 9 rfl B 5 i0 Tryz.underlying116 Tryz.underlying9 hi hz0 hz1 hz2 _ _ _ rfl hown s rfl ?c3 ?c4 ?c5 ?_)
 case c3=>unfold maxLen;omega
 case c4=>omega
 case c5=>have:=hb1.size;omega
 intro v' w2 hown' hgrow _
 have hlt:b<w1.heap.size:=by
  rcases Nat.lt_or_ge b w1.heap.size with h'|h'
  ·exact h'
  ·simp[Array.getElem?_eq_none h'] at hbk
 have hb2:w2.heap[b]?=some (.cells #[.pointer (some ⟨b,0,none⟩),v] 118 (0,0)):=by
  rw[hgrow.block b hlt (fun e=>hne e.symm)]
  exact hbk
 have d0:w2.cell? ⟨b,0,none⟩=some (.pointer (some ⟨b,0,none⟩)):=by rw[Lib.cell_of_heap hb2];rfl
 have d1:w2.cell? ⟨b,1,none⟩=some v:=by rw[Lib.cell_of_heap hb2];rfl
 have f1:w2.frozen? ⟨b,1,none⟩=false:=Lib.frozen_of_heap hb2 1
 obtain⟨ao,n',cap,rfl⟩:∃ ao n' cap,v'=.slice ao n' cap:=by
  rcases hown'.2 with ⟨hv,_⟩|⟨g,cap,cur,fz,hv,_⟩
  ·exact⟨_,_,_,hv⟩
  ·exact⟨_,_,_,hv⟩
 go_wp2
 go_ret2
 refine⟨rfl,?_,?_,?_⟩
 ·exact Lib.BuilderAtF.put (T:=118) (e:=5) hB hb2 (bs':=bs++Lib.strCells s) (by simpa [Lib.strCells_length] using hown') (by decide)
 ·exact(hb1.grown hgrow (by have:=hb1.size;omega) (fun k hk=>(hown.lt k hk).1)).setCell (p:=⟨b,1,none⟩) hB _
 ·refine(hk1.grown hgrow fun g hg=>?_).setCell ⟨b,1,none⟩ rfl _
  rcases hown.2 with ⟨rfl,_⟩|⟨g',cap',cur,fz,rfl,_,hgg,_⟩
  ·simp[Value.ownBlock] at hg
  ·simp only[Value.ownBlock,Option.some.injEq] at hg;subst hg
   exact⟨cur,fz,hgg⟩
theorem Tryz.zl1 (B b:Nat)(bs:List Value)(s:ByteArray)(w:World)(h:Lib.IsBuilderF 118 5 B b bs w)(hlen:bs.length+s.size<=140737488355328)(hBw:B<=w.heap.size) :
  Calls Tryz.prog 69 #[.pointer (some ⟨b,0,none⟩),.string s] w fun e w'=>e=.returned (.tuple #[.int .i64 s.size,.nilIface])/\(Lib.BuilderAtF 118 5 B b (.pointer (some ⟨b,0,none⟩)) (bs++Lib.strCells s) w'/\Below B w w') :=
 (Tryz.lu0 B b bs s w h hlen hBw).mono fun _ _ h=>⟨h.1,h.2.1,h.2.2.1⟩
set_option maxHeartbeats 2000000 in
set_option maxRecDepth 100000 in
theorem Tryz.ub1 (B b:Nat)(bs:List Value)(c:Int)(w:World)(h:Lib.IsBuilderF 118 5 B b bs w)(hlen:bs.length+1<=140737488355328)(hBw:B<=w.heap.size) :
  Calls Tryz.prog 71 #[.pointer (some ⟨b,0,none⟩),.int .u8 c] w fun e w'=>e=.returned .nilIface/\(Lib.BuilderAtF 118 5 B b (.pointer (some ⟨b,0,none⟩)) (bs++[.int .u8 c]) w'/\Below B w w'):=by
 obtain⟨i0,hi,hz0,hz1,hz2⟩:=info_parts (show (Tryz.prog.info? 5).map (fun i=>(i.zero,i.size,i.bytes))=some (some (.int .u8 0),1,1) by kernel_rfl)
 go_enter Tryz.func71,Tryz.ntmps71
 go_wp2_with (go_at_call 89;refine(Tryz.xu1 B b bs _ h).mono ?_)
 rintro e w1 ⟨rfl,h1,hb1⟩
 obtain⟨hB,v,hbk,hown,hne⟩:=h1
 have c0:w1.cell? ⟨b,0,none⟩=some (.pointer (some ⟨b,0,none⟩)):=by rw[Lib.cell_of_heap hbk];rfl
 have c1:w1.cell? ⟨b,1,none⟩=some v:=by rw[Lib.cell_of_heap hbk];rfl
 go_wp2_with (at_builtin;refine wpList_append_ownF _ rfl _ _ 116 rfl B 5 i0 (.int .u8 0) 1 1 Tryz.underlying116 hi hz0 hz1 hz2 rfl (by decide) _ _ _ rfl (hown.alloc _) ⟨w1.heap.size,0,none⟩ 1 1 [.int .u8 c] rfl rfl ?c1 ?c2 ?c3 ?c4 ?c5 ?_)
 case c1 =>
  intro j u hj
  match j,hj with
  |0,hj=>simp at hj;subst hj;simp[Addr.add]
 case c2=>intro u hu;simp at hu;subst hu;rfl
 case c3=>unfold maxLen;omega
 case c4=>omega
 case c5=>have:=hb1.size;simp;omega
 intro v' w2 hown' hgrow _
 have hlt:b<w1.heap.size:=by
  rcases Nat.lt_or_ge b w1.heap.size with h'|h'
  ·exact h'
  ·simp[Array.getElem?_eq_none h'] at hbk
 have hb2:w2.heap[b]?=some (.cells #[.pointer (some ⟨b,0,none⟩),v] 118 (0,0)):=by
  rw[hgrow.block b (by simp;omega) (fun e=>hne e.symm),Lib.alloc_old w1 _ b hlt]
  exact hbk
 have d0:w2.cell? ⟨b,0,none⟩=some (.pointer (some ⟨b,0,none⟩)):=by rw[Lib.cell_of_heap hb2];rfl
 have d1:w2.cell? ⟨b,1,none⟩=some v:=by rw[Lib.cell_of_heap hb2];rfl
 have f1:w2.frozen? ⟨b,1,none⟩=false:=Lib.frozen_of_heap hb2 1
 obtain⟨g,cap,rfl⟩:∃ g cap,v'=.slice (some ⟨g,0,none⟩) (bs.length+1) cap:=by
  rcases hown'.2 with ⟨_,h0⟩|⟨g,cap,cur,fz,hv,_⟩
  ·omega
  ·exact⟨g,cap,hv⟩
 go_wp2
 go_ret
 refine⟨rfl,?_,?_⟩
 ·exact Lib.BuilderAtF.put (T:=118) (e:=5) hB hb2 (bs':=bs++[.int .u8 c]) (by simpa using hown') (by decide)
 ·exact((hb1.alloc (by have:=hb1.size;omega) _).grown hgrow (by have:=hb1.size;simp;omega) (fun k hk=>(hown.lt k hk).1)).setCell (p:=⟨b,1,none⟩) hB _
end Go.Proofs
namespace Go.SX.Td
open Go Go.SX Go.Proofs Go.RowKit Go.Sort
def BG (n:Int):List UInt8:=Lib.itoa n++[32]
def sZ (l:List Int):List UInt8:=l.flatMap BG
def wM (l:List Int):List UInt8:=sZ l++[59]
def kU (ls:List (List Int)):List UInt8:=ls.flatMap wM
def qg (n:Int):Prop:=-9223372036854775808<=n/\n<=9223372036854775807
def Tv (ls:List (List Int)):Prop:=(∀ l∈ls,∀ n∈l,qg n)/\(kU ls).length<=140737488355328
open Classical in
noncomputable def LZ (ls:List (List Int)):Option ByteArray:=if Tv ls then some ⟨(kU ls).toArray⟩ else none
theorem ez0 {T e:TypeId}{B b:Nat}{bs:List Value}{w w':World}(h:Lib.IsBuilderF T e B b bs w)(hw:∀ k,k<w.heap.size->w'.heap[k]?=w.heap[k]?):Lib.IsBuilderF T e B b bs w':=by
 have at_:∀ p,Lib.BuilderAtF T e B b p bs w->Lib.BuilderAtF T e B b p bs w':=by
  rintro p ⟨hB,v,hb,hown,hne⟩
  refine⟨hB,v,by rw[hw b (Array.getElem?_eq_some_iff.1 hb).1];exact hb,⟨hown.1,?_⟩,hne⟩
  rcases hown.2 with hn|⟨g,cap,cur,fz,rfl,hg,hgg,rest⟩
  ·exact .inl hn
  ·exact .inr ⟨g,cap,cur,fz,rfl,hg,by rw[hw g (Array.getElem?_eq_some_iff.1 hgg).1];exact hgg,rest⟩
 exact h.elim (fun x=>.inl (at_ _ x)) (fun x=>.inr (at_ _ x))
theorem below_grow {B:Nat}{w:World}(hB:B<=w.heap.size)(k:Nat)(os:Array Obj):Below B w (grow (w.drewN k) os) :=
 ⟨rfl,rfl,rfl,by simp[grow,World.drewN],fun i hi=>by simp[grow,World.drewN,Array.getElem?_append,show i<w.heap.size by omega]⟩
theorem mv1 {ls:List (List Int)}{i:Nat}{l:List Int}(h:ls[i]?=some l){j:Nat}:(kU (ls.take i)++sZ (l.take j)).length<=(kU ls).length:=by
 have hi:=(List.getElem?_eq_some_iff.1 h).1
 have e:kU ls=kU (ls.take i)++(wM l++kU (ls.drop (i+1))):=by
  have:ls=ls.take i++l::ls.drop (i+1):=by
   rw[<- (List.getElem?_eq_some_iff.1 h).2,List.getElem_cons_drop,List.take_append_drop]
  conv=>lhs;rw[this]
  simp[kU]
 have e2:sZ l=sZ (l.take j)++sZ (l.drop j):=by
  rw[sZ,sZ,sZ,<- List.flatMap_append,List.take_append_drop]
 rw[e,wM,e2]
 simp only[List.length_append]
 omega
theorem ws1 {ls:List (List Int)}{i:Nat}{l:List Int}(h:ls[i]?=some l):kU (ls.take (i+1))=kU (ls.take i)++wM l:=by
 rw[List.take_add_one,h];simp[kU]
theorem wn1 {l:List Int}{j:Nat}{n:Int}(h:l[j]?=some n):sZ (l.take (j+1))=sZ (l.take j)++BG n:=by
 rw[List.take_add_one,h];simp[sZ]
theorem sk1 (ls:List (List Int))(k:Nat):kU ls=kU (ls.take k)++kU (ls.drop k):=by
 rw[kU,kU,kU,<- List.flatMap_append,List.take_append_drop]
def Ye (w:World)(v:Value)(l:List Int):Prop :=
 ∃ a cap,v=.slice a l.length cap/\∀ (j:Nat) n,l[j]?=some n->∃ b off,a=some ⟨b,off,none⟩/\b<w.heap.size/\w.cell? ⟨b,off+j,none⟩=some (.int .i64 n)
def cu1 (w:World)(v:Value)(ls:List (List Int)):Prop :=
 ∃ a cap,v=.slice a ls.length cap/\∀ (i:Nat) l,ls[i]?=some l->∃ b off u,a=some ⟨b,off,none⟩/\b<w.heap.size/\w.cell? ⟨b,off+i,none⟩=some u/\Ye w u l
theorem rd1 {F:Fz}{w:World}{v:Value}{l:List Int}(hF:∀ b o,F b=some o->w.heap[b]?=some o)(h:Rep F v (.sl (W aH l))):Ye w v l:=by
 have hlen:(W aH l).length=l.length:=rX _ _
 generalize hd:D.sl (W aH l)=d at h
 cases h with
 |val v h=>cases hd
 |nil a cap h =>
  injection hd with hd
  have:l=[]:=by rw[hd] at hlen;exact List.eq_nil_of_length_eq_zero hlen.symm
  subst this
  exact⟨a,cap,rfl,fun j n hj=>by simp at hj⟩
 |sl b off cap c e fr es sz g hb hcap hsz hc hr =>
  injection hd with hd
  subst hd
  refine⟨some ⟨b,off,none⟩,cap,by rw[hlen],fun j n hj=>?_⟩
  have hes:(W aH l)[j]?=some [.val (.int .i64 n)]:=by rw[og,List.getElem?_map,hj];rfl
  have h1:=hsz j _ hes
  have h2:=hc j _ 0 _ hes rfl
  have h3:=hr j _ 0 _ hes rfl
  obtain⟨h3,_⟩:=Rep.BD.1 h3
  simp at h1
  subst h1
  have hw:=hF _ _ hb
  refine⟨b,off,rfl,(Array.getElem?_eq_some_iff.1 hw).1,?_⟩
  simp only[World.cell?,hw,Option.isSome_none,Bool.false_eq_true,if_false]
  rw[h3] at h2
  simpa using h2
theorem pw1 {F:Fz}{w:World}{v:Value}{ls:List (List Int)}(hF:∀ b o,F b=some o->w.heap[b]?=some o)(h:Rep F v (.sl (W xZ ls))):cu1 w v ls:=by
 have hlen:(W xZ ls).length=ls.length:=rX _ _
 generalize hd:D.sl (W xZ ls)=d at h
 cases h with
 |val v h=>cases hd
 |nil a cap h =>
  injection hd with hd
  have:ls=[]:=by rw[hd] at hlen;exact List.eq_nil_of_length_eq_zero hlen.symm
  subst this
  exact⟨a,cap,rfl,fun j n hj=>by simp at hj⟩
 |sl b off cap c e fr es sz g hb hcap hsz hc hr =>
  injection hd with hd
  subst hd
  refine⟨some ⟨b,off,none⟩,cap,by rw[hlen],fun j n hj=>?_⟩
  have hes:(W xZ ls)[j]?=some [.sl (W aH n)]:=by rw[og,List.getElem?_map,hj];rfl
  have h1:=hsz j _ hes
  have h2:=hc j _ 0 _ hes rfl
  have h3:=hr j _ 0 _ hes rfl
  simp at h1
  subst h1
  have hw:=hF _ _ hb
  refine⟨b,off,g j 0,rfl,(Array.getElem?_eq_some_iff.1 hw).1,?_,rd1 hF h3⟩
  simp only[World.cell?,hw,Option.isSome_none,Bool.false_eq_true,if_false]
  simpa using h2
theorem jd1 {w w':World}{v:Value}{l:List Int}(h:Ye w v l)(hb:Below w.heap.size w w'):Ye w' v l:=by
 obtain⟨a,cap,h1,h2⟩:=h
 refine⟨a,cap,h1,fun j n hj=>?_⟩
 obtain⟨b,off,k1,k2,k3⟩:=h2 j n hj
 exact⟨b,off,k1,Nat.lt_of_lt_of_le k2 hb.size,by rw[hb.cell (p:=⟨b,off+j,none⟩) k2];exact k3⟩
theorem gx2 : ∀ ls:List (List Int),ls.length<=(kU ls).length
 |[]=>Nat.zero_le _
 |l::ls=>by
  have:=gx2 ls
  have e:kU (l::ls)=wM l++kU ls:=by simp[kU]
  rw[e,List.length_append,List.length_cons,wM,List.length_append,List.length_singleton];omega
theorem SE : ∀ l:List Int,l.length<=(sZ l).length
 |[]=>Nat.zero_le _
 |n::l=>by
  have:=SE l
  have e:sZ (n::l)=BG n++sZ l:=by simp[sZ]
  rw[e,List.length_append,List.length_cons,BG,List.length_append,List.length_singleton];omega
set_option maxHeartbeats 4000000 in
set_option maxRecDepth 100000 in
theorem mb1 (ls:List (List Int))(v:Value)(w:World)(hv:cu1 w v ls)(hok:Tv ls)(htab:Lib.TabIs Tryz.prog w LM .u64 Lib.pow10Tab) :
  Calls Tryz.prog 33 #[v] w fun e w'=>e=.returned (.string ⟨(kU ls).toArray⟩)/\Below w.heap.size w w':=by
 obtain⟨hints,hfit⟩:=hok
 obtain⟨a,cap,rfl,hcell⟩:=hv
 have hlsm:ls.length<=140737488355328:=Nat.le_trans (gx2 ls) hfit
 have h0:Lib.IsBuilderF 118 5 w.heap.size w.heap.size (Lib.byteCells []) (w.alloc (.cells #[.pointer none,.slice none 0 0] 118)):=Lib.IsBuilderF.of (Lib.fresh_isBuilder 118 5 w)
 have b0:Below w.heap.size w (w.alloc (.cells #[.pointer none,.slice none 0 0] 118)):=(Below.refl _ w).alloc (Nat.le_refl _) _
 go_enter Tryz.func33,Tryz.ntmps33
 go_wp2
 go_loopw [10] (fun iv wr=>∃ i:Nat,iv=.int .i64 i/\i<=ls.length/\Lib.IsBuilderF 118 5 w.heap.size w.heap.size (Lib.byteCells (kU (ls.take i))) wr/\Below w.heap.size w wr)
  (fun iv _=>ls.length - (RowKit.intOf iv).toNat)
 case atStart=>exact⟨0,rfl,Nat.zero_le _,by simpa [kU] using h0,b0⟩
 case round =>
  obtain⟨i,rfl,hi,hI,hnx⟩:=hrel
  clear h0 b0
  have hsize:=hnx.size
  by_cases hlt:i<ls.length
  ·obtain⟨l,hl⟩:∃ l,ls[i]?=some l:=⟨ls[i],by simp[hlt]⟩
   obtain⟨b,off,u,rfl,hb,hc,AL⟩:=hcell i l hl
   obtain⟨a',cap',rfl,hin⟩:=jd1 (jd1 AL (Below.refl _ _)) hnx
   have hc':wr.cell? ⟨b,off+i,none⟩=some (.slice a' l.length cap'):=by rw[hnx.cell (p:=⟨b,off+i,none⟩) hb];exact hc
   have hle:=mv1 hl (j:=l.length)
   have hlm:l.length<=140737488355328:=by
    have:=SE l
    rw[List.take_length,List.length_append] at hle
    omega
   have hln:∀ n∈l,qg n:=hints l (List.mem_of_getElem? hl)
   have MR:=AL
   clear hin AL hcell
   go_wp2
   go_loopw [16] (fun jv wr'=>∃ j:Nat,jv=.int .i64 j/\j<=l.length/\Lib.IsBuilderF 118 5 w.heap.size w.heap.size (Lib.byteCells (kU (ls.take i)++sZ (l.take j))) wr'/\Below w.heap.size w wr')
    (fun jv _=>l.length - (RowKit.intOf jv).toNat)
   case atStart=>exact⟨0,rfl,Nat.zero_le _,by simpa [sZ] using hI,hnx⟩
   case round =>
    obtain⟨j,rfl,hj,hI2,hnx2⟩:=hrel
    have ER:=hnx2.size
    by_cases hjlt:j<l.length
    ·obtain⟨n,hn⟩:∃ n,l[j]?=some n:=⟨l[j],by simp[hjlt]⟩
     obtain⟨_,_,e0,hin⟩:=MR
     cases e0
     obtain⟨b2,off2,rfl,hb2,hc2⟩:=hin j n hn
     have hc2':wr.cell? ⟨b2,off2+j,none⟩=some (.int .i64 n):=by rw[hnx2.cell (p:=⟨b2,off2+j,none⟩) hb2];exact hc2
     have Uo:=hln n (List.mem_of_getElem? hn)
     have Ug:=mh1 htab hnx2
     have hlj:=mv1 hl (j:=j+1)
     rw[wn1 hn] at hlj
     simp only[List.length_append] at hlj
     have hcat:¬ 9223372036854775807<(Lib.itoa n).length+1:=by
      have e:(BG n).length=(Lib.itoa n).length+1:=by simp[BG]
      omega
     clear hin
     go_wp2_with (go_at_call 70;refine(Tryz.strconv_Itoa n Uo.1 Uo.2 _ Ug).mono ?_;rintro e w3 ⟨rfl,k,os,rfl⟩)
     have Nk:=ez0 (w':=grow (wr.drewN k) os) hI2 (fun q hq=>by simp[grow,World.drewN,Array.getElem?_append,hq])
     have UN:=hnx2.trans (below_grow ER k os)
     have hdata:(⟨(Lib.itoa n).toArray⟩++⟨#[32]⟩:ByteArray).data.toList=BG n:=by rw[ByteArray.data_append];simp[BG]
     have hstr:Lib.strCells (⟨(Lib.itoa n).toArray⟩++⟨#[32]⟩)=Lib.byteCells (BG n):=by rw[Lib.strCells_eq,hdata]
     have hsz:(⟨(Lib.itoa n).toArray⟩++⟨#[32]⟩:ByteArray).size=(BG n).length:=by rw[<- Lib.strCells_length,hstr,Lib.byteCells_length]
     refine(Tryz.zl1 w.heap.size w.heap.size _ _ _ Nk (by rw[Lib.byteCells_length,hsz,List.length_append];omega) UN.size).mono ?_
     rintro e w4 ⟨rfl,h4,b4⟩
     go_wp2
     go_roundw
     case rel =>
      refine⟨j+1,by go_num,by omega,?_,UN.trans b4⟩
      rw[wn1 hn,<- List.append_assoc,Lib.byteCells_append,<- hstr]
      exact Or.inr h4
     case measure=>simp[RowKit.intOf];omega
    ·have hjl:j=l.length:=by omega
     subst hjl
     rw[List.take_length] at hI2
     have hls:=sk1 ls (i+1)
     rw[ws1 hl,wM] at hls
     have Uz:=congrArg List.length hls
     simp only[List.length_append,List.length_singleton] at Uz
     go_wp2_with (go_at_call 71;refine(Tryz.ub1 w.heap.size w.heap.size _ 59 _ hI2 (by rw[Lib.byteCells_length,List.length_append];omega) ER).mono ?_)
     rintro e w4 ⟨rfl,h4,b4⟩
     go_wp2
     go_roundw
     case rel =>
      refine⟨i+1,by go_num,by omega,?_,hnx2.trans b4⟩
      rw[ws1 hl,wM,<- List.append_assoc,Lib.byteCells_append]
      exact Or.inr h4
     case measure=>simp[RowKit.intOf];omega
  ·have hil:i=ls.length:=by omega
   subst hil
   rw[List.take_length] at hI
   go_wp2_with (go_at_call 72;refine(Tryz.Builder_String_any_f w.heap.size w.heap.size _ _ hI hsize).mono ?_)
   rintro e w4 ⟨rfl,_,b4⟩
   go_wp2
   go_ret
   exact⟨rfl,hnx.trans b4⟩
theorem ok38 : Jk Tryz.prog 33=true:=by kernel_rfl
theorem wi1 {P:Program}(hP:P=Tryz.prog)(l:List (List Int))(r:ByteArray)(h:LZ l=some r):Fn1 P 33 [jk2 l] (vS r):=by
 subst hP
 unfold LZ at h
 split at h
 ·rename_i hok
  cases h
  refine⟨ok38,fun c w us hS hr=>?_⟩
  obtain⟨u,us',rfl,hu,hn⟩:=dP.xE.1 hr
  obtain rfl:=dP.CG.1 hn
  cases hu with|d hrep =>
  refine(mb1 l u w (pw1 hS.le hrep) hok (wm2 hS)).mono ?_
  rintro e w' ⟨rfl,hb⟩
  have hle:=Cx.le.refl c
  have hS':Sat c [] w':=hS.on hle rfl hS.one (fun b hb'=>hb.block b hb') (fun b o hb'=>by rw[hb.block b (hS.wI hb')];exact hS.le b o hb') (fun b hb'=>.inl hb')
  exact⟨c,[],_,_,rfl,.d (.val _ rfl),hS',hle,⟨hb.os,hb.tape,hb.output,hb.size,fun b hb' _=>hb.block b hb',fun b hb'=>.inl hb',fun b hb'=>.inl hb',fun _ _ h=>h⟩,rfl⟩
 ·cases h
def xJ (x:Live):List UInt8:=Lib.itoa x.rule++[46]++Lib.itoa x.zone++[32]
def rZ (l:List Live):List UInt8:=l.flatMap xJ
def im2 (a n:Int)(l:List Live):Prop:=qg a/\qg n/\(∀ x∈l,qg x.rule/\qg x.zone)/\(rZ (Live.mk a n::l)).length<=140737488355328/\l.length<=1000000
open Classical in
noncomputable def QO (a n:Int)(l:List Live):Option ByteArray:=if im2 a n l then some ⟨(rZ (Live.mk a n::l)).toArray⟩ else none
def cellsOf (l:List Live):List Value:=l.flatMap fun x=>[.int .i64 x.rule,.int .i64 x.zone]
theorem py0 : ∀ l:List Live,(cellsOf l).length=l.length * 2
 |[]=>rfl
 |x::l=>by
  have:=py0 l
  simp only[cellsOf,List.flatMap_cons,List.length_append,List.length_cons,List.length_nil] at this ⊢;omega
theorem pb0 : ∀ (l:List Live)(k:Nat),(cellsOf l)[k * 2]?=l[k]?.map (fun x=>Value.int .i64 x.rule)/\(cellsOf l)[k * 2+1]?=l[k]?.map (fun x=>Value.int .i64 x.zone)
 |[],k=>⟨rfl,rfl⟩
 |x::l,0=>⟨rfl,rfl⟩
 |x::l,k+1=>by
  have:=pb0 l k
  have e:(k+1) * 2=k * 2+1+1:=by omega
  have e2:(k+1) * 2+1=k * 2+1+1+1:=by omega
  have c:cellsOf (x::l)=.int .i64 x.rule::.int .i64 x.zone::cellsOf l:=rfl
  rw[c,e2,e]
  simpa using this
def Wq (w:World)(v:Value)(l:List Live):Prop :=
 ∃ a cap,v=.slice a l.length cap/\(a=none->cap=0/\l=[])/\∀ ad,a=some ad->(l≠[]->ad.block<w.heap.size)/\∀ (j:Nat) u,(cellsOf l)[j]?=some u->w.cell? (ad.add j)=some u
theorem ae1 {F:Fz}{w:World}{v:Value}{l:List Live}(hF:∀ b o,F b=some o->w.heap[b]?=some o)(h:Rep F v (.sl (W jX l))):Wq w v l:=by
 have hlen:(W jX l).length=l.length:=rX _ _
 generalize hd:D.sl (W jX l)=d at h
 cases h with
 |val v h=>cases hd
 |nil a cap h =>
  injection hd with hd
  have:l=[]:=by rw[hd] at hlen;exact List.eq_nil_of_length_eq_zero hlen.symm
  subst this
  exact⟨a,cap,rfl,fun e=>⟨h e,rfl⟩,fun ad _=>⟨fun e=>absurd rfl e,fun j u hj=>by simp[cellsOf] at hj⟩⟩
 |sl b off cap c e fr es sz g hb hcap hsz hc hr =>
  injection hd with hd
  subst hd
  have hw:=hF _ _ hb
  refine⟨some ⟨b,off,none⟩,cap,by rw[hlen],(fun e=>by cases e),fun ad had=>?_⟩
  cases had
  refine⟨fun _=>(Array.getElem?_eq_some_iff.1 hw).1,fun j u hj=>?_⟩
  have hjl:=(List.getElem?_eq_some_iff.1 hj).1
  rw[py0] at hjl
  obtain⟨k,r,hr2,rfl⟩:∃ k r,r<2/\j=k * 2+r:=⟨j / 2,j % 2,by omega,by omega⟩
  have hx:l[k]?=some l[k]:=by rw[List.getElem?_eq_getElem]
  generalize l[k]=x at hx
  have hes:(W jX l)[k]?=some [.val (.int .i64 x.rule),.val (.int .i64 x.zone)]:=by rw[og,List.getElem?_map,hx];rfl
  have h1:2=sz:=hsz k _ hes
  subst h1
  have hk:=pb0 l k
  rw[hx] at hk
  have hadd:∀ n,(Addr.mk b off none).add n=⟨b,off+n,none⟩:=fun n=>by
   unfold Addr.add;split
   ·rename_i h0;subst h0;rfl
   ·rfl
  rw[hadd]
  match r,hr2 with
  |0,_ =>
   have h2:=hc k _ 0 _ hes rfl
   have h3:=hr k _ 0 _ hes rfl
   obtain⟨h3,_⟩:=Rep.BD.1 h3
   rw[h3] at h2
   have hu:=hj.symm.trans hk.1
   simp only[Option.map_some,Option.some.injEq] at hu
   subst hu
   simp only[World.cell?,hw,Option.isSome_none,Bool.false_eq_true,if_false]
   simpa using h2
  |1,_ =>
   have h2:=hc k _ 1 _ hes rfl
   have h3:=hr k _ 1 _ hes rfl
   obtain⟨h3,_⟩:=Rep.BD.1 h3
   rw[h3] at h2
   have hu:=hj.symm.trans hk.2
   simp only[Option.map_some,Option.some.injEq] at hu
   subst hu
   simp only[World.cell?,hw,Option.isSome_none,Bool.false_eq_true,if_false]
   simpa [Nat.add_assoc] using h2
theorem kp1 {ops:Array Oper}{rest:List Oper}{o:Oper}{a:Act}{Q:Exit->Act->World->Prop}{w:World}(hgd:o.guard=none)(s x:Operand)
  (ho:o.op=.call { callee:=.builtin .append,args:=#[s,x],argTypes:=#[64,64] }) (base:Nat) (v:Value) (xs:List Value) (hs:a.eval s=v) (hown:w.ownsRow base 66 2 v 1 xs)
  (u:Value) (l:List Live) (hx:a.eval x=u) (hv:Wq w u l) (hl:l.length<=1000000) (hbase:base<=w.heap.size)
  (h:∀ v' w',w'.ownsRow base 66 2 v' (1+l.length) (xs++cellsOf l)->w.grownBy w' v.ownBlock->wpList Tryz.prog ops Q rest (a.put o.dst v') w'):wpList Tryz.prog ops Q (o::rest) a w:=by
 have hi82:(Tryz.prog.info? 66).map (fun i=>(i.zero,i.size,i.bytes))=some (some (.agg #[.int .i64 0,.int .i64 0]),2,16):=by kernel_rfl
 obtain⟨i0,hi,hz0,hz1,hz2⟩:=info_parts hi82
 obtain⟨ad,cap,rfl,hn,hc⟩:=hv
 cases ad with
 |none =>
  obtain⟨rfl,rfl⟩:=hn rfl
  exact wpList_append_own_none hgd s x 64 ho base 66 i0 2 Tryz.underlying64 hi v 1 xs hs hown hx (h v w (by simpa [cellsOf] using hown) ⟨rfl,rfl,rfl,Nat.le_refl _,fun _ _ _=>rfl⟩)
 |some ad =>
  obtain⟨-,hc⟩:=hc ad rfl
  refine wpList_append_own _ hgd s x 64 ho base 66 i0 (.agg #[.int .i64 0,.int .i64 0]) 2 16 Tryz.underlying64 hi hz0 hz1 hz2 rfl (by decide) v 1 xs hs hown ad l.length cap (cellsOf l) hx (py0 l) hc ?_ ?_ ?_ hbase fun v' w' h1 h2 _=>h v' w' h1 h2
  ·intro u hu
   simp only[cellsOf,List.mem_flatMap,List.mem_cons,List.not_mem_nil,or_false] at hu
   obtain⟨x,_,rfl|rfl⟩:=hu<;>rfl
  ·unfold maxLen;omega
  ·omega
theorem CQ {B:Nat}{w w':World}(h:Below B w w'):Below B w w'.drew:=⟨h.os,h.tape,h.output,h.size,h.block⟩
theorem kH {w W:World}(h:Below w.heap.size w W)(k:Nat)(os:Array Obj):Below w.heap.size w (grow (W.drewN k) os):=h.trans (below_grow h.size k os)
theorem vd2 {w wr W:World}(h:Below w.heap.size w wr)(k:Below wr.heap.size wr W):Below w.heap.size w W :=
 h.trans ⟨k.os,k.tape,k.output,k.size,fun b hb=>k.block b (Nat.lt_of_lt_of_le hb h.size)⟩
theorem DR {B:Nat}{w w':World}(h:Below B w w')(k:Nat):Below B w (w'.drewN k):=⟨h.os,h.tape,h.output,h.size,h.block⟩
theorem Pn {W:World}{a:Addr}{v:Value}(h:W.cell? a=some v)(k:Nat)(os:Array Obj):(grow (W.drewN k) os).cell? a=some v:=by
 have hlt:a.block<W.heap.size:=by
  rcases Nat.lt_or_ge a.block W.heap.size with h'|h'
  ·exact h'
  ·simp[World.cell?,Array.getElem?_eq_none h'] at h
 rw[World.cell?_of_block (w:=W) (by simp[grow,World.drewN,Array.getElem?_append,hlt])];exact h
theorem Po {W:World}{g:Nat}{o:Obj}(h:W.heap[g]?=some o)(k:Nat)(os:Array Obj):(grow (W.drewN k) os).heap[g]?=some o:=by
 have hlt:=(Array.getElem?_eq_some_iff.1 h).1
 simpa [grow,World.drewN,Array.getElem?_append,hlt] using h
theorem cell_kept {W w4:World}{b g:Nat}{c:Array Value}{e:TypeId}(k4:Lib.OthersKept 5 (some b) W w4)(h:W.heap[g]?=some (.cells c e (0,0)))(hb:g≠b)(he:e≠5){o:Nat}{v:Value}(hc:c[o]?=some v):w4.cell? ⟨g,o,none⟩=some v:=by
 have:=k4 g _ h (by simpa using hb) (fun c' fz e'=>by cases e';exact he rfl)
 rw[Lib.cell_of_heap this];exact hc
set_option maxHeartbeats 4000000 in
set_option maxRecDepth 100000 in
theorem qz2 (A N:Int)(l:List Live)(v:Value)(w:World)(hv:Wq w v l)(hok:im2 A N l)(htab:Lib.TabIs Tryz.prog w LM .u64 Lib.pow10Tab) :
  Calls Tryz.prog 52 #[.int .i64 A,.int .i64 N,v] w fun e w'=>e=.returned (.string ⟨(rZ (Live.mk A N::l)).toArray⟩)/\Below w.heap.size w w':=by
 obtain⟨hA,hN,hints,hfit,hlen⟩:=hok
 obtain⟨W2,hW2⟩:∃ W,W=(w.alloc (.cells #[.pointer none,.slice none 0 0] 118)).alloc (.cells #[.int .i64 A,.int .i64 N] 66):=⟨_,rfl⟩
 have hown:W2.ownsRow (w.heap.size+1) 66 2 (.slice (some ⟨w.heap.size+1,0,none⟩) 1 1) 1 [.int .i64 A,.int .i64 N]:=by
  refine⟨rfl,.inr ⟨w.heap.size+1,1,#[.int .i64 A,.int .i64 N],rfl,Nat.le_refl _,?_,Nat.le_refl _,by decide,rfl,rfl⟩⟩
  rw[hW2]
  have:=heap_alloc_new (w.alloc (.cells #[.pointer none,.slice none 0 0] 118)) (.cells #[.int .i64 A,.int .i64 N] 66)
  simpa using this
 have hb2:W2.heap[w.heap.size]?=some (.cells #[.pointer none,.slice none 0 0] 118):=by
  rw[hW2,Lib.alloc_old _ _ _ (by simp),heap_alloc_new]
 have jG:Below w.heap.size w W2:=by rw[hW2];exact((Below.refl _ w).alloc (Nat.le_refl _) _).alloc (by simp) _
 have hv2:Wq W2 v l:=by
  obtain⟨a,cap,e,h1,h2⟩:=hv
  refine⟨a,cap,e,h1,fun ad had=>?_⟩
  obtain⟨k1,k2⟩:=h2 ad had
  refine⟨fun h=>Nat.lt_of_lt_of_le (k1 h) jG.size,fun j u hj=>?_⟩
  have hne:l≠[]:=by rintro rfl;simp[cellsOf] at hj
  have hab:(ad.add j).block=ad.block:=by unfold Addr.add;split<;>rfl
  rw[jG.cell (p:=ad.add j) (by rw[hab];exact k1 hne)];exact k2 j u hj
 have hsz2:W2.heap.size=w.heap.size+2:=by rw[hW2];simp
 go_enter Tryz.func52,Tryz.ntmps52
 go_wp2_with (at_builtin;refine kp1 rfl _ _ rfl (w.heap.size+1) _ _ rfl (hW2▸hown) v l rfl (hW2▸hv2) hlen (by simp) ?_)
 intro v' w1 hown1 hgrow
 rw[<- hW2] at hgrow
 rcases hown1.2 with ⟨_,h0⟩|⟨g,cap',cur,rfl,hge,hg,hn,hcm,hcs,htk⟩
 ·omega
 have hb1:w1.heap[w.heap.size]?=some (.cells #[.pointer none,.slice none 0 0] 118):=by
  rw[hgrow.block _ (by omega) (by simp[Value.ownBlock])];exact hb2
 have h0:Lib.IsBuilderF 118 5 w.heap.size w.heap.size (Lib.byteCells []) w1:=Lib.IsBuilderF.of (Or.inl ⟨Nat.le_refl _,.slice none 0 0,hb1,World.ownsRow_nil _ _ _ _,by simp[Value.ownBlock]⟩)
 have hbl1:Below w.heap.size w w1:=jG.grown hgrow (by omega) (fun k hk=>by simp[Value.ownBlock] at hk;omega)
 clear hown1 hgrow hb1 hb2 hown hv2 hW2 jG hsz2
 have hLl:(Live.mk A N::l).length=1+l.length:=by simp;omega
 have hget:∀ (i:Nat) x,(Live.mk A N::l)[i]?=some x->cur[i * 2]?=some (.int .i64 x.rule)/\cur[i * 2+1]?=some (.int .i64 x.zone):=fun i x hx=>by
  have hi:=(List.getElem?_eq_some_iff.1 hx).1
  have h1:=pb0 (Live.mk A N::l) i
  rw[hx] at h1
  have htk':List.take ((1+l.length) * 2) cur.toList=cellsOf (Live.mk A N::l):=htk
  rw[<- htk',List.getElem?_take_of_lt (by omega),List.getElem?_take_of_lt (by omega)] at h1
  simpa using h1
 have hLi:∀ x∈Live.mk A N::l,qg x.rule/\qg x.zone:=fun x hx=>by
  rcases List.mem_cons.1 hx with rfl|hx
  ·exact⟨hA,hN⟩
  ·exact hints x hx
 generalize hL:Live.mk A N::l=L at *
 go_wp2
 go_loopw [17] (fun iv wr=>∃ i:Nat,iv=.int .i64 i/\i<=L.length/\Lib.IsBuilderF 118 5 w.heap.size w.heap.size (Lib.byteCells (rZ (L.take i))) wr/\Below w.heap.size w wr/\wr.heap[g]?=some (.cells cur 66 (0,0)))
  (fun iv _=>L.length - (RowKit.intOf iv).toNat)
 case atStart=>exact⟨0,rfl,Nat.zero_le _,by simpa [rZ] using h0,hbl1,hg⟩
 case round =>
  obtain⟨i,rfl,hi,hI,hnx,hgr⟩:=hrel
  have hsize:=hnx.size
  by_cases hlt:i<L.length
  ·obtain⟨x,hx⟩:∃ x,L[i]?=some x:=⟨L[i],by simp[hlt]⟩
   obtain⟨q0,q1⟩:=hget i x hx
   have hc0:wr.cell? ⟨g,i * 2,none⟩=some (.int .i64 x.rule):=by rw[Lib.cell_of_heap hgr];exact q0
   have hc1:wr.cell? ⟨g,i * 2+1,none⟩=some (.int .i64 x.zone):=by rw[Lib.cell_of_heap hgr];exact q1
   go_wp2_with fail
   have hxi:=hLi x (List.mem_of_getElem? hx)
   have Uf:=mh1 htab hnx
   have b0:Below wr.heap.size wr (wr.alloc (.cells #[.int .i64 x.rule,.int .i64 x.zone] 66)):=(Below.refl _ wr).alloc (Nat.le_refl _) _
   have ha:(wr.alloc (.cells #[.int .i64 x.rule,.int .i64 x.zone] 66)).heap[wr.heap.size]?=some (.cells #[.int .i64 x.rule,.int .i64 x.zone] 66):=heap_alloc_new wr _
   have Ux:wr.heap.size≠w.heap.size:=by have:=(Array.getElem?_eq_some_iff.1 hgr).1;omega
   have ha0:(wr.alloc (.cells #[.int .i64 x.rule,.int .i64 x.zone] 66)).cell? ⟨wr.heap.size,0,none⟩=some (.int .i64 x.rule):=by rw[Lib.cell_of_heap (heap_alloc_new wr _)];rfl
   have ha1:(wr.alloc (.cells #[.int .i64 x.rule,.int .i64 x.zone] 66)).cell? ⟨wr.heap.size,1,none⟩=some (.int .i64 x.zone):=by rw[Lib.cell_of_heap (heap_alloc_new wr _)];rfl
   have hxl:(xJ x).length<=1000:=by
    have h1:=Lib.itoa_length_le x.rule hxi.1.1 hxi.1.2
    have h2:=Lib.itoa_length_le x.zone hxi.2.1 hxi.2.2
    simp[xJ];omega
   have hpl:(xJ x).length=(Lib.itoa x.rule).length+1+(Lib.itoa x.zone).length+1:=by simp[xJ];omega
   have hcat1:¬ 9223372036854775807<(Lib.itoa x.rule).length+1:=by omega
   have hcat2:¬ 9223372036854775807<(Lib.itoa x.rule).length+1+(Lib.itoa x.zone).length:=by omega
   have hcat3:¬ 9223372036854775807<(Lib.itoa x.rule).length+1+(Lib.itoa x.zone).length+1:=by omega
   have hdata:(⟨(Lib.itoa x.rule).toArray⟩++⟨#[46]⟩++⟨(Lib.itoa x.zone).toArray⟩++⟨#[32]⟩:ByteArray).data.toList=xJ x:=by simp only[ByteArray.data_append];simp[xJ]
   have hstr:Lib.strCells (⟨(Lib.itoa x.rule).toArray⟩++⟨#[46]⟩++⟨(Lib.itoa x.zone).toArray⟩++⟨#[32]⟩)=Lib.byteCells (xJ x):=by rw[Lib.strCells_eq,hdata]
   have hsz:(⟨(Lib.itoa x.rule).toArray⟩++⟨#[46]⟩++⟨(Lib.itoa x.zone).toArray⟩++⟨#[32]⟩:ByteArray).size=(xJ x).length:=by rw[<- Lib.strCells_length,hstr,Lib.byteCells_length]
   have htake:rZ (L.take (i+1))=rZ (L.take i)++xJ x:=by rw[List.take_add_one,hx];simp[rZ]
   have hle:(rZ (L.take i)).length+(xJ x).length<=140737488355328:=by
    have e:rZ L=rZ (L.take (i+1))++rZ (L.drop (i+1)):=by rw[rZ,rZ,rZ,<- List.flatMap_append,List.take_append_drop]
    have:=congrArg List.length e
    rw[htake,List.length_append,List.length_append] at this
    omega
   go_region_held3 (fun w'=>w'.cell? ⟨wr.heap.size,0,none⟩=some (.int .i64 x.rule)/\w'.cell? ⟨wr.heap.size,1,none⟩=some (.int .i64 x.zone))
    (first|(refine⟨?_,?_⟩<;>first|go_keep|first|exact CQ b0|exact DR b0 _|exact kH b0 _ _|exact CQ (kH b0 _ _)|exact DR (kH b0 _ _) _|exact kH (kH b0 _ _) _ _|exact CQ (kH (kH b0 _ _) _ _)|exact DR (kH (kH b0 _ _) _ _) _|exact Pn ha0 _ _|exact Pn ha1 _ _|exact Pn (Pn ha0 _ _) _ _|exact Pn (Pn ha1 _ _) _ _|exact cell_kept k4 (Po (Po ha _ _) _ _) Ux (by decide) rfl|exact cell_kept k4 (Po (Po ha _ _) _ _:(World.drew _).heap[_]?=_) Ux (by decide) rfl))
    (first|(go_at_call 70;refine(Tryz.strconv_Itoa _ (by first|exact hxi.1.1|exact hxi.2.1) (by first|exact hxi.1.2|exact hxi.2.2) _ (mh1 Uf (by first|exact CQ b0|exact DR b0 _|exact kH b0 _ _|exact CQ (kH b0 _ _)|exact DR (kH b0 _ _) _|exact kH (kH b0 _ _) _ _|exact CQ (kH (kH b0 _ _) _ _)|exact DR (kH (kH b0 _ _) _ _) _))).mono ?_;rintro e w3 ⟨rfl,k,os,rfl⟩)|(go_at_call 69;refine(Tryz.lu0 w.heap.size w.heap.size _ _ _ (ez0 hI (Below.block (by first|exact CQ b0|exact DR b0 _|exact kH b0 _ _|exact CQ (kH b0 _ _)|exact DR (kH b0 _ _) _|exact kH (kH b0 _ _) _ _|exact CQ (kH (kH b0 _ _) _ _)|exact DR (kH (kH b0 _ _) _ _) _))) (by rw[Lib.byteCells_length,hsz];exact hle) (Nat.le_trans hsize (Below.size (by first|exact CQ b0|exact DR b0 _|exact kH b0 _ _|exact CQ (kH b0 _ _)|exact DR (kH b0 _ _) _|exact kH (kH b0 _ _) _ _|exact CQ (kH (kH b0 _ _) _ _)|exact DR (kH (kH b0 _ _) _ _) _)))).mono ?_;rintro e w4 ⟨rfl,h4,b4,k4⟩))
   go_wp2
   go_roundw
   case rel =>
    refine⟨i+1,by go_num,by omega,?_,?_,?_⟩
    ·rw[htake,Lib.byteCells_append,<- hstr];exact Or.inr h4
    ·exact(vd2 hnx (by first|exact kH (kH b0 _ _) _ _|exact CQ (kH (kH b0 _ _) _ _))).trans b4
    ·refine k4 g _ ?_ (by simp;omega) (fun c' fz e'=>by cases e')
     have hg0:(wr.alloc (.cells #[.int .i64 x.rule,.int .i64 x.zone] 66)).heap[g]?=some (.cells cur 66 (0,0)):=by
      rw[Lib.alloc_old _ _ _ (Array.getElem?_eq_some_iff.1 hgr).1];exact hgr
     exact Po (Po hg0 _ _) _ _
   case measure=>simp[RowKit.intOf];omega
  ·have hil:i=L.length:=by omega
   subst hil
   rw[List.take_length] at hI
   go_wp2_with (go_at_call 72;refine(Tryz.Builder_String_any_f w.heap.size w.heap.size _ _ hI hsize).mono ?_)
   rintro e w4 ⟨rfl,_,b4⟩
   go_wp2
   go_ret
   subst hL
   exact⟨rfl,hnx.trans b4⟩
noncomputable def ux2 : List Live->SV:=fun x=>.d (.sl (W jX x))
theorem ok63 : Jk Tryz.prog 52=true:=by kernel_rfl
theorem wh1 {P:Program}(hP:P=Tryz.prog)(a n:Int)(l:List Live)(r:ByteArray)(h:QO a n l=some r):Fn1 P 52 [G8 a,G8 n,ux2 l] (vS r):=by
 subst hP
 unfold QO at h
 split at h
 ·rename_i hok
  cases h
  refine⟨ok63,fun c w us hS hr=>?_⟩
  obtain⟨u0,Lm,rfl,hu0,hr⟩:=dP.xE.1 hr
  obtain⟨u1,us1,rfl,hu1,hr⟩:=dP.xE.1 hr
  obtain⟨u2,us2,rfl,hu2,hr⟩:=dP.xE.1 hr
  obtain rfl:=dP.CG.1 hr
  obtain rfl:=hu0.gB
  obtain rfl:=hu1.gB
  cases hu2 with|d hrep =>
  refine(qz2 a n l u2 w (ae1 hS.le hrep) hok (wm2 hS)).mono ?_
  rintro e w' ⟨rfl,hb⟩
  have hle:=Cx.le.refl c
  have hS':Sat c [] w':=hS.on hle rfl hS.one (fun b hb'=>hb.block b hb') (fun b o hb'=>by rw[hb.block b (hS.wI hb')];exact hS.le b o hb') (fun b hb'=>.inl hb')
  exact⟨c,[],_,_,rfl,.d (.val _ rfl),hS',hle,⟨hb.os,hb.tape,hb.output,hb.size,fun b hb' _=>hb.block b hb',fun b hb'=>.inl hb',fun b hb'=>.inl hb',fun _ _ h=>h⟩,rfl⟩
 ·cases h
theorem ok57 : Jk Tryz.prog 34=true:=by kernel_rfl
noncomputable def sortL (l:List Int):List Int:=l.mergeSort fun x y=>decide (x<=y)
theorem Vq (l:List Int):(sortL l).length=l.length:=by simp[sortL]
noncomputable def KZ (l:List Int):Option (List Int):=if l.length<=1000000000 then some (sortL l) else none
theorem cg1 (l:List Int):(W aH l).flatten=l.map fun n=>D.val (.int .i64 n):=by
 rw[og]
 induction l with
 |nil=>rfl
 |cons a l ih=>simp only[List.map_cons,List.flatten_cons,ih];rfl
theorem iw2 (l:List Int):∀ ds∈W aH l,ds.length=1:=by
 rw[og];intro ds hd
 simp only[List.mem_map] at hd
 obtain⟨x,_,rfl⟩:=hd;rfl
theorem oa0 {P:Program}(hP:P=Tryz.prog)(l r:List Int)(h:KZ l=some r) :
  dX P 34 [.row 3 1 (W aH l)] [.hd 0] (fun sv own'=>sv=.dO []/\own'=[.row 3 1 (W aH r)]):=by
 subst hP
 unfold KZ at h
 split at h
 ·rename_i hl
  cases h
  refine⟨ok57,fun c w us hS hr=>?_⟩
  obtain⟨u,us',rfl,hu,hn⟩:=dP.xE.1 hr
  obtain rfl:=dP.CG.1 hn
  cases hu with|hd hr0 hθ =>
  obtain⟨hd1,xs,⟨hxl,hv⟩,hc⟩:=hS.res 0 _ rfl
  rw[hθ] at hv
  rcases hv with ⟨rfl,h0⟩|⟨g,cap,cur,rfl,_,hb,hle,hm,hcs,htake⟩
  ·have hl0:l=[]:=by rw[rX] at h0;exact List.eq_nil_of_length_eq_zero h0
   subst hl0
   refine(Tryz.slices_Sort_int_none none 0 w).mono ?_
   rintro e w' ⟨rfl,rfl⟩
   exact⟨c,_,.dO [],_,rfl,.dO rfl (fun i s u hs=>by simp at hs),hS,.refl c,.refl c _ _,rfl,by simp[sortL]⟩
  ·have hwl:(W aH l).length=l.length:=rX _ _
   have hcell:∀ j,j<l.length->cur[j]?=some (.int .i64 (l[j]?.getD 0)):=fun j hj=>by
    obtain⟨u,h1,h2⟩:=hc j (.val (.int .i64 l[j])) (by rw[cg1];simp[hj])
    obtain⟨rfl,_⟩:=Rep.BD.1 h2
    rw[<- htake,List.getElem?_take] at h1
    split at h1
    ·rw[Array.getElem?_toList] at h1;rw[h1];simp[hj]
    ·cases h1
   have hH:Holds (Value.int .i64) w g 0 l.toArray:=fun j hj=>by
    have hj':j<l.length:=by simpa using hj
    refine⟨?_,?_⟩
    ·simp only[World.cell?,hb,Nat.zero_add,hcell j hj']
     simp[hj']
    ·simp[World.frozen?,hb]
   have hblk:g<w.heap.size:=(Array.getElem?_eq_some_iff.1 hb).1
   have:=Tryz.slices_Sort_int g 0 cap l w hH hblk (by omega)
   rw[<- hwl] at this
   refine this.mono ?_
   rintro e w' ⟨rfl,n,os,rfl⟩
   have hput:(putRow (Value.int .i64) (Go.Sort.ahead w n) g 0 (sortL l).toArray).heap[g]?=some (.cells (putCells (Value.int .i64) 0 (sortL l).toArray cur) 3 (0,0)):=by
    simp only[putRow,mapBlock,Go.Sort.ahead,Array.getElem?_modify,if_true,hb,Option.map_some];rfl
   have hoth:∀ k,k≠g->(putRow (Value.int .i64) (Go.Sort.ahead w n) g 0 (sortL l).toArray).heap[k]?=w.heap[k]?:=fun k hk=>by
    simp only[putRow,mapBlock,Go.Sort.ahead,Array.getElem?_modify,if_neg (Ne.symm hk)]
   have hsl:(sortL l).length=l.length:=Vq l
   obtain⟨k1,k2⟩:=hS.update (w':=putRow (Value.int .i64) (Go.Sort.ahead w n) g 0 (sortL l).toArray) (x':=.row 3 1 (W aH (sortL l))) (r:=0) rfl rfl rfl (by rw[hθ];rfl) rfl rfl rfl (by simp[putRow,mapBlock,Go.Sort.ahead]) hoth
    ⟨iw2 _,(sortL l).map (Value.int .i64),by
     rw[hθ]
     refine⟨by simp[rX],.inr ⟨g,cap,_,by rw[rX,rX,hsl],Nat.zero_le _,hput,by rw[rX,hsl,<- hwl];exact hle,hm,by simp[putCells,hcs],?_⟩⟩
     apply List.ext_getElem?
     intro j
     rw[List.getElem?_take,rX,hsl,List.getElem?_map]
     have hgs:l.length<=cur.size:=by rw[hcs];omega
     split
     ·rename_i hj
      have hjl:j<l.length:=by omega
      rw[Array.getElem?_toList]
      have hjs:j<(sortL l).length:=by omega
      have hjc:j<cur.size:=by omega
      simp[putCells,hjl,hjs,hjc,hsl]
     ·rename_i hj
      rw[List.getElem?_eq_none (by omega)];rfl,fun j d hj=>by
     rw[cg1,List.getElem?_map,Option.map_eq_some_iff] at hj
     obtain⟨z,hz,rfl⟩:=hj
     exact⟨.int .i64 z,by rw[List.getElem?_map,hz];rfl,.val _ rfl⟩⟩
   have hgrow:∀ b,b<(putRow (Value.int .i64) (Go.Sort.ahead w n) g 0 (sortL l).toArray).heap.size->(grow (putRow (Value.int .i64) (Go.Sort.ahead w n) g 0 (sortL l).toArray) os).heap[b]?=(putRow (Value.int .i64) (Go.Sort.ahead w n) g 0 (sortL l).toArray).heap[b]?:=fun b hb'=>by
    simp only[grow];rw[Array.getElem?_append_left hb']
   refine⟨c,[.row 3 1 (W aH (sortL l))],.dO [],_,rfl,.dO rfl (fun i s u hs=>by simp at hs),?_,.refl c,k2.trans ⟨rfl,rfl,rfl,by simp[grow],fun b hb' _=>hgrow b hb',fun _ hb=>.inl hb,fun _ hb=>.inl hb,fun _ _ hb=>hb⟩,rfl,rfl⟩
   exact k1.on (.refl c) rfl k1.one hgrow (fun b x hb'=>(hgrow b (k1.wI hb')).trans (k1.le b x hb')) (fun b hb=>.inl hb)
 ·cases h
end Go.SX.Td
