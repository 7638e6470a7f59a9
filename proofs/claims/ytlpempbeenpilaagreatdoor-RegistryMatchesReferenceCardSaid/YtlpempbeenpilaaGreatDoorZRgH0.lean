/- Parts of the proof. -/
import Derived.Test.YtlpempbeenpilaaGreatDoorZRgT
import Derived.Deep.OwnRows
import Derived.BigQuiet
import Derived.OneCell
import Derived.WalkKit
import Derived.Deep.MidRow
import Derived.Test.YtlpempbeenpilaaGreatDoorZRgTab
import Derived.Shelf.Strings.SlTrimAscii
import Derived.Lib.ItoaLen
set_option linter.unusedSimpArgs false
set_option linter.unusedVariables false
set_option linter.unusedSectionVars false
set_option linter.unusedSimpArgs false
set_option linter.unusedVariables false
set_option linter.unusedSectionVars false
namespace Go.SX.Rg
open Go Go.SX Go.Proofs Go.RowKit
theorem pure_call {P:Program}{f:FuncId}{ss:List SV}{s:SV}(h:Fn1 P f ss s){c:Cx}{w0 w:World}{us:List Value}(hS:Sat c [] w0)(hb:Below w0.heap.size w0 w)(hr:RelL c ss us) :
  Calls P f us.toArray w fun e w'=>∃ v c',e=.returned v∧Rel c' s v∧(∀ b o,c'.F b=some o→w'.heap[b]?=some o)∧Below w.heap.size w w':=by
 have hS':Sat c [] w:=hS.on (.refl c) rfl hS.one (fun b hb'=>hb.block b hb') (fun b o hb'=>by rw[hb.block b (hS.F_lt hb')];exact hS.le b o hb') (fun b hb'=>.inl hb');refine(h.2 c w us hS' hr).mono ?_;rintro e w' ⟨c',own',sv,u,rfl,h1,h2,h3,h4,rfl⟩;exact⟨u,c',rfl,h1,h2.le,⟨h4.os,h4.tape,h4.output,h4.size,fun b hb'=>h4.keep b hb' (fun ⟨r,x,hx,_⟩=>by cases hx)⟩⟩
theorem pure_int {P:Program}{f:FuncId}{ss:List SV}{v:Value}(h:Fn1 P f ss (.d (.val v))){c:Cx}{w0 w:World}{us:List Value}(hS:Sat c [] w0)(hb:Below w0.heap.size w0 w)(hr:RelL c ss us) :
  Calls P f us.toArray w fun e w'=>e=.returned v∧Below w.heap.size w w':=by
 refine(pure_call h hS hb hr).mono ?_;rintro e w' ⟨u,c',rfl,h1,-,h2⟩;obtain rfl:=h1.of_val;exact⟨rfl,h2⟩
theorem below_to {w wr w':World}(h:Below w.heap.size w wr)(h':Below wr.heap.size wr w'):Below w.heap.size w w' :=
 h.trans ⟨h'.os,h'.tape,h'.output,h'.size,fun b hb=>h'.block b (Nat.lt_of_lt_of_le hb h.size)⟩
theorem bl_drew {B:Nat}{w w':World}(h:Below B w w'):Below B w w'.drew:=⟨h.os,h.tape,h.output,h.size,h.block⟩
theorem bl_drewN {B:Nat}{w w':World}(h:Below B w w')(k:Nat):Below B w (w'.drewN k):=⟨h.os,h.tape,h.output,h.size,h.block⟩
theorem pure_end {c:Cx}{w w':World}(S:Sat c [] w)(hb:Below w.heap.size w w'):Sat c [] w'∧Goes c [] w c [] w' :=
 ⟨S.on (.refl c) rfl S.one (fun b hb'=>hb.block b hb') (fun b o hb'=>by rw[hb.block b (S.F_lt hb')];exact S.le b o hb') (fun b hb'=>.inl hb'),
  ⟨hb.os,hb.tape,hb.output,hb.size,fun b hb' _=>hb.block b hb',fun b h=>.inl h,fun b ⟨r,x,hx,_⟩=>(by cases hx),fun _ _ h=>h⟩⟩
theorem own_below {w1 w':World}{n e sz k:Nat}{v:Value}{xs:List Value}(h:w1.ownsRow n e sz v k xs)(hb:Below w1.heap.size w1 w'):w'.ownsRow n e sz v k xs :=
 h.kept (row:=none) ⟨hb.os,hb.tape,hb.output,hb.size,fun b hb' _=>hb.block b hb'⟩ (by cases v.ownBlock<;>simp)
theorem below_n {n:Nat}{w3 w1 w':World}(h:Below n w3 w1)(hn:n≤w1.heap.size)(hb:Below w1.heap.size w1 w'):Below n w3 w' :=
 h.trans ⟨hb.os,hb.tape,hb.output,hb.size,fun b hb'=>hb.block b (by omega)⟩
theorem row_block {w1:World}{n e sz k:Nat}{v:Value}{xs:List Value}(h:w1.ownsRow n e sz v k xs)(hk:0<k):∃ g cap,v=.slice (some ⟨g,0,none⟩) k cap∧n≤g:=by
 rcases h.2 with ⟨_,h0⟩ | ⟨g,cap,cur,rfl,hb,_⟩
 ·omega
 ·exact⟨g,cap,rfl,hb⟩
theorem fn1_of {P:Program}{f:FuncId}{args:List SV}{v:Value}(h0:okFn P f=true)(h1:v.oneCell'=true)(h:∀ (c:Cx)(w:World)(us:List Value),Sat c [] w→RelL c args us→Calls P f us.toArray w fun e w'=>e=.returned v∧Below w.heap.size w w'):Fn1 P f args (.d (.val v)) :=
 ⟨h0,fun c w us hS hr=>(h c w us hS hr).mono fun e w' ⟨he,hb⟩=>by
  subst he;obtain⟨k1,k2⟩:=pure_end hS hb;exact⟨c,[],_,v,rfl,.d (.val _ h1),k1,.refl c,k2,rfl⟩⟩
end Go.SX.Rg
set_option linter.unusedVariables false
namespace Go.SX.Rg
open Go Go.SX Go.Proofs Go.RowKit Go.Sort
open Classical in
noncomputable def strings_Trim_g (s cs:ByteArray):Option ByteArray :=
 if s.size≤9223372036854775807∧cs.size<4294967281∧∀ (j:Nat) b,cs.data.toList[j]?=some b→b.toNat<128 then some ⟨(Lib.trimS s.data.toList cs.data.toList).toArray⟩ else none
theorem strings_Trim_R {P:Program}(hP:P=Tryz.prog)(s cs:ByteArray)(r:ByteArray)(h:strings_Trim_g s cs=some r):Fn1 P 97 [vS s,vS cs] (vS r):=by
 subst hP;unfold strings_Trim_g at h;split at h
 ·rename_i hs;cases h;refine fn1_of (by kernel_rfl) rfl fun c w us hS hr=>?_
  obtain⟨k1,k2⟩:=hr
  match us,k1 with
  | [u,v],_ =>
   obtain rfl:=(k2 0 _ u rfl rfl).of_val;obtain rfl:=(k2 1 _ v rfl rfl).of_val;exact Any.strings_Trim_laid Tryz.lays160 (by kernel_rfl) s cs w hs.1 hs.2.1 hs.2.2
 ·cases h
noncomputable def strconv_Itoa_g (n:Int):Option ByteArray:=if -9223372036854775808≤n∧n≤9223372036854775807 then some ⟨(Lib.itoa n).toArray⟩ else none
theorem below_grow0 (w:World)(k:Nat)(os:Array Obj):Below w.heap.size w (grow (w.drewN k) os) :=
 ⟨rfl,rfl,rfl,by simp[grow,World.drewN],fun i hi=>by simp[grow,World.drewN,Array.getElem?_append,hi]⟩
theorem strconv_Itoa_R {P:Program}(hP:P=Tryz.prog)(n:Int)(r:ByteArray)(h:strconv_Itoa_g n=some r):Fn1 P 67 [vIi64 n] (vS r):=by
 subst hP;unfold strconv_Itoa_g at h;split at h
 ·rename_i hs;cases h;refine fn1_of (by kernel_rfl) rfl fun c w us hS hr=>?_
  obtain⟨k1,k2⟩:=hr
  match us,k1 with
  | [u],_ =>
   obtain rfl:=(k2 0 _ u rfl rfl).of_val;refine(Tryz.strconv_Itoa n hs.1 hs.2 w (tab_is hS)).mono ?_;rintro e w' ⟨rfl,k,os,rfl⟩;exact⟨rfl,below_grow0 w k os⟩
 ·cases h
end Go.SX.Rg
