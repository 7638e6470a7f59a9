/- Parts of the proof. -/
import Derived.Test.YtlpempbeenpilaaGreatDoorZRgH0
import Derived.Test.YtlpempbeenpilaaGreatDoorZRgTab
import Derived.Test.YtlpempbeenpilaaGreatDoorZRg44d
import Derived.Laws.AppendOwnNone
import Derived.RangeFuncNested
import Derived.RangeFuncBound
import Derived.RangeFuncCalls
import Derived.RangeFuncLeaves
import Derived.Shelf.Abstract
import Derived.Shelf.RegionOpen
import Derived.OwnWalkIn
import Derived.TacticsInMore
import Derived.LoopNIn
import Derived.LoopIn
import Derived.Maps.AppendAt
import Derived.Lib.ConvBytes
import Derived.Lib.IndexLaws
import Derived.Deep.WholeRow
import Derived.Laws.IdiomCopy
import Derived.Laws.Rows
import Derived.Test.YtlpempbeenpilaaGreatDoorZRgH1
import Derived.Test.YtlpempbeenpilaaGreatDoorZRg46d
import Derived.Laws.MakeOwn
import Derived.Lib.AppendStr
set_option linter.unusedSimpArgs false
set_option linter.unusedVariables false
set_option linter.unusedSectionVars false
set_option linter.unusedVariables false
namespace Go.SX.Rg
open Go Go.SX Go.Proofs Go.RowKit Go.Sort
def txtP (x:ByteArray):List UInt8:=Lib.itoa x.size++[58]++x.data.toList
def txtZ (l:List ByteArray):List UInt8:=l.flatMap txtP
def ListOk (l:List ByteArray):Prop:=(txtZ l).length≤140737488355328
open Classical in
noncomputable def digest_List_g (l:List ByteArray):Option ByteArray:=if ListOk l then digest_Sum_g ⟨(txtZ l).toArray⟩ else none
theorem builderF_on {T e:TypeId}{B b:Nat}{bs:List Value}{w w':World}(h:Lib.IsBuilderF T e B b bs w)(hw:∀ k,k<w.heap.size→w'.heap[k]?=w.heap[k]?):Lib.IsBuilderF T e B b bs w':=by
 have at_:∀ p,Lib.BuilderAtF T e B b p bs w→Lib.BuilderAtF T e B b p bs w':=by
  rintro p ⟨hB,v,hb,hown,hne⟩
  refine⟨hB,v,by rw[hw b (Array.getElem?_eq_some_iff.1 hb).1];exact hb,⟨hown.1,?_⟩,hne⟩
  rcases hown.2 with hn | ⟨g,cap,cur,fz,rfl,hg,hgg,rest⟩
  ·exact .inl hn
  ·exact .inr ⟨g,cap,cur,fz,rfl,hg,by rw[hw g (Array.getElem?_eq_some_iff.1 hgg).1];exact hgg,rest⟩
 exact h.elim (fun x=>.inl (at_ _ x)) (fun x=>.inr (at_ _ x))
def StrsAt (w:World)(v:Value)(l:List ByteArray):Prop :=
 ∃ a cap,v=.slice a l.length cap∧∀ (j:Nat) n,l[j]?=some n→∃ b off,a=some ⟨b,off,none⟩∧b<w.heap.size∧w.cell? ⟨b,off+j,none⟩=some (.string n)
theorem strsAt_of {F:Fz}{w:World}{v:Value}{l:List ByteArray}(hF:∀ b o,F b=some o→w.heap[b]?=some o)(h:Rep F v (.sl (W eS l))):StrsAt w v l:=by
 have hlen:(W eS l).length=l.length:=W_len _ _
 generalize hd:D.sl (W eS l)=d at h
 cases h with
 | val v h=>cases hd
 | nil a cap h =>
  injection hd with hd
  have:l=[]:=by rw[hd] at hlen;exact List.eq_nil_of_length_eq_zero hlen.symm
  subst this
  exact⟨a,cap,rfl,fun j n hj=>by simp at hj⟩
 | sl b off cap c e fr es sz g hb hcap hsz hc hr =>
  injection hd with hd
  subst hd
  refine⟨some ⟨b,off,none⟩,cap,by rw[hlen],fun j n hj=>?_⟩
  have hes:(W eS l)[j]?=some [.val (.string n)]:=by rw[W_eq,List.getElem?_map,hj];rfl
  have h1:=hsz j _ hes
  have h2:=hc j _ 0 _ hes rfl
  have h3:=hr j _ 0 _ hes rfl
  obtain⟨h3,_⟩:=Rep.val_iff.1 h3
  simp at h1
  subst h1
  have hw:=hF _ _ hb
  refine⟨b,off,rfl,(Array.getElem?_eq_some_iff.1 hw).1,?_⟩
  simp only[World.cell?,hw,Option.isSome_none,Bool.false_eq_true,if_false]
  rw[h3] at h2
  simpa using h2
theorem txtZ_take {l:List ByteArray}{i:Nat}{x:ByteArray}(h:l[i]?=some x):txtZ (l.take (i+1))=txtZ (l.take i)++txtP x:=by
 rw[List.take_add_one,h];simp[txtZ]
theorem txtZ_split (l:List ByteArray)(k:Nat):txtZ l=txtZ (l.take k)++txtZ (l.drop k):=by
 rw[txtZ,txtZ,txtZ,← List.flatMap_append,List.take_append_drop]
theorem txtZ_le : ∀ l:List ByteArray,l.length≤(txtZ l).length
 | []=>Nat.zero_le _
 | x::l=>by
  have:=txtZ_le l
  have e:txtZ (x::l)=txtP x++txtZ l:=by simp[txtZ]
  rw[e,List.length_append,List.length_cons,txtP,List.length_append,List.length_append,List.length_singleton];omega
theorem below_grow {B:Nat}{w:World}(hB:B≤w.heap.size)(k:Nat)(os:Array Obj):Below B w (grow (w.drewN k) os) :=
 ⟨rfl,rfl,rfl,by simp[grow,World.drewN],fun i hi=>by simp[grow,World.drewN,Array.getElem?_append,show i<w.heap.size by omega]⟩
set_option maxHeartbeats 4000000 in
set_option maxRecDepth 100000 in
theorem list_walk {c:Cx}(l:List ByteArray)(v:Value)(w:World)(S:Sat c [] w)(hv:StrsAt w v l)(hok:ListOk l)(r:ByteArray)(hr:digest_Sum_g ⟨(txtZ l).toArray⟩=some r) :
  Calls Tryz.prog 54 #[v] w fun e w'=>e=.returned (.string r)∧Below w.heap.size w w':=by
 have htab:=tab_is S
 have hSum:=digest_Sum_R (P:=Tryz.prog) rfl _ r hr
 obtain⟨a,cap,rfl,hcell⟩:=hv
 have hfit:(txtZ l).length≤140737488355328:=hok
 have hlsm:l.length≤140737488355328:=Nat.le_trans (txtZ_le l) hfit
 have h0:Lib.IsBuilderF 119 5 w.heap.size w.heap.size (Lib.byteCells []) (w.alloc (.cells #[.pointer none,.slice none 0 0] 119)):=Lib.IsBuilderF.of (Lib.fresh_isBuilder 119 5 w)
 have b0:Below w.heap.size w (w.alloc (.cells #[.pointer none,.slice none 0 0] 119)):=(Below.refl _ w).alloc (Nat.le_refl _) _
 go_enter Tryz.func54,Tryz.ntmps54
 go_wp2
 go_loopw [8] (fun iv wr=>∃ i:Nat,iv=.int .i64 i∧i≤l.length∧Lib.IsBuilderF 119 5 w.heap.size w.heap.size (Lib.byteCells (txtZ (l.take i))) wr∧Below w.heap.size w wr)
  (fun iv _=>l.length - (RowKit.intOf iv).toNat)
 case atStart=>exact⟨0,rfl,Nat.zero_le _,by simpa [txtZ] using h0,b0⟩
 case round =>
  obtain⟨i,rfl,hi,hI,hnx⟩:=hrel
  clear h0 b0
  have hsize:=hnx.size
  by_cases hlt:i<l.length
  ·obtain⟨x,hl⟩:∃ x,l[i]?=some x:=⟨l[i],by simp[hlt]⟩
   obtain⟨b,off,rfl,hb,hc⟩:=hcell i x hl
   have hc':wr.cell? ⟨b,off+i,none⟩=some (.string x):=by rw[hnx.cell (p:=⟨b,off+i,none⟩) hb];exact hc
   have htake:=txtZ_take hl
   have hsp:=congrArg List.length (txtZ_split l (i+1))
   rw[htake] at hsp
   simp only[List.length_append] at hsp
   have hxs:x.data.toList.length=x.size:=by simp
   have hpl:(txtP x).length=(Lib.itoa x.size).length+1+x.size:=by simp[txtP];omega
   have htabr:=tab_on htab hnx
   have hn1:¬ 9223372036854775807<(Lib.itoa (x.size:Int)).length+1:=by omega
   have hn2:¬ 9223372036854775807<(Lib.itoa (x.size:Int)).length+1+x.size:=by omega
   have hn3:(x.size:Int)≤9223372036854775807:=by omega
   go_wp2_with (go_at_call 67;refine(Tryz.strconv_Itoa x.size (by omega) (by omega) _ htabr).mono ?_;rintro e w3 ⟨rfl,k,os,rfl⟩)
   have hI3:=builderF_on (w':=grow (wr.drewN k) os) hI (fun q hq=>by simp[grow,World.drewN,Array.getElem?_append,hq])
   have hbl3:=hnx.trans (below_grow hsize k os)
   have hdata:(⟨(Lib.itoa (x.size:Int)).toArray⟩++⟨#[58]⟩++x:ByteArray).data.toList=txtP x:=by simp only[ByteArray.data_append];simp[txtP]
   have hstr:Lib.strCells (⟨(Lib.itoa (x.size:Int)).toArray⟩++⟨#[58]⟩++x)=Lib.byteCells (txtP x):=by rw[Lib.strCells_eq,hdata]
   have hsz:(⟨(Lib.itoa (x.size:Int)).toArray⟩++⟨#[58]⟩++x:ByteArray).size=(txtP x).length:=by rw[← Lib.strCells_length,hstr,Lib.byteCells_length]
   refine(Tryz.WriteString_f w.heap.size w.heap.size _ _ _ hI3 (by rw[Lib.byteCells_length,hsz];omega) hbl3.size).mono ?_
   rintro e w4 ⟨rfl,h4,b4⟩
   go_wp2
   go_roundw
   case rel =>
    refine⟨i+1,by go_num,by omega,?_,hbl3.trans b4⟩
    rw[htake,Lib.byteCells_append,← hstr]
    exact Or.inr h4
   case measure=>simp[RowKit.intOf];omega
  ·have hil:i=l.length:=by omega
   subst hil
   rw[List.take_length] at hI
   go_wp2_with (go_at_call 94;refine(Tryz.Builder_String_any_f w.heap.size w.heap.size _ _ hI hsize).mono ?_)
   rintro e w4 ⟨rfl,_,b4⟩
   have hb5:=hnx.trans b4
   go_wp2_with (go_at_call 44;refine(pure_int hSum S (by first | exact hb5 | exact bl_drew hb5 | exact bl_drewN hb5 _) (us:=[.string ⟨(txtZ l).toArray⟩]) ⟨rfl,fun i s u h1 h2=>by match i with | 0=>(cases h1;cases h2;exact .d (.val _ rfl))⟩).mono ?_)
   rintro e w5 ⟨rfl,b5⟩
   go_wp2
   go_ret
   exact⟨rfl,below_n hb5 hb5.size b5⟩
theorem digest_List_R {P:Program}(hP:P=Tryz.prog)(l:List ByteArray)(r:ByteArray)(h:digest_List_g l=some r):Fn1 P 54 [.d (.sl (W eS l))] (vS r):=by
 subst hP
 unfold digest_List_g at h
 split at h
 ·rename_i hok
  refine fn1_of (by kernel_rfl) rfl fun c w us hS hr=>?_
  obtain⟨k1,k2⟩:=hr
  match us,k1 with
  | [u],_ =>
   cases k2 0 _ u rfl rfl with | d hrep =>
   exact list_walk l u w hS (strsAt_of hS.le hrep) hok r h
 ·cases h
end Go.SX.Rg
set_option linter.unusedVariables false
namespace Go.SX.Rg
open Go Go.SX Go.Proofs Go.RowKit Go.Sort Go.Shelf
attribute [local go_sem] Oper.semAt_some
def fins (k:Nat):List (_root_.Fin 18):=(List.finRange 18).take k
theorem fins_succ {k:Nat}(h:k<18):fins (k+1)=fins k++[⟨k,h⟩]:=by
 unfold fins;rw[List.take_add_one,List.getElem?_eq_getElem (by simpa using h)];simp
theorem fins_length {k:Nat}(h:k≤18):(fins k).length=k:=by unfold fins;rw[List.length_take];simp;omega
theorem below_grownBy {w w':World}(h:Below w.heap.size w w'):w.grownBy w' none:=⟨h.os,h.tape,h.output,h.size,fun k hk _=>h.block k hk⟩
theorem ret_bool {e:Ending}{A B:Prop}(h:(e=.returned (.bool true)∧A)∨(e=.returned (.bool false)∧B)):∃ bb,e=.returned (.bool bb)∧(bb=true→A)∧(bb=false→B):=by
 rcases h with ⟨rfl,h⟩ | ⟨rfl,h⟩
 ·exact⟨true,rfl,fun _=>h,fun e=>(by cases e)⟩
 ·exact⟨false,rfl,fun e=>(by cases e),fun _=>h⟩
def StartsOk (s:ByteArray)(st:Nat→ByteArray):Prop:=∀ i:Nat,i<18→∃ t,ListOk [s,⟨(Lib.itoa (i:Int)).toArray⟩]∧t=st i∧digest_Sum_g ⟨(txtZ [s,⟨(Lib.itoa (i:Int)).toArray⟩]).toArray⟩=some t
theorem cell_at {w:World}{b o:Nat}{cs:Array Value}{ty:TypeId}{v:Value}(h:w.heap[b]?=some (.cells cs ty))(hv:cs[o]?=some v):w.cell? ⟨b,o,none⟩=some v:=by
 unfold World.cell?;rw[h];simpa using hv
theorem list_two {c:Cx}{w0:World}(S:Sat c [] w0){s1 s2 t:ByteArray}(hok:ListOk [s1,s2])(ht:digest_Sum_g ⟨(txtZ [s1,s2]).toArray⟩=some t)(X:World)(b:Nat)(hb:b=X.heap.size)(hX:Below w0.heap.size w0 X) :
  Calls Tryz.prog 54 #[.slice (some ⟨b,0,none⟩) 2 2] (X.alloc (.cells #[.string s1,.string s2] 9)) fun e w'=>e=.returned (.string t)∧Below (X.alloc (.cells #[.string s1,.string s2] 9)).heap.size (X.alloc (.cells #[.string s1,.string s2] 9)) w':=by
 have hX':Below w0.heap.size w0 (X.alloc (.cells #[.string s1,.string s2] 9)):=hX.alloc hX.size _
 have S':Sat c [] (X.alloc (.cells #[.string s1,.string s2] 9)):=S.on (.refl c) rfl S.one (fun b hb'=>hX'.block b hb') (fun b o hb'=>by rw[hX'.block b (S.F_lt hb')];exact S.le b o hb') (fun b hb'=>.inl hb')
 refine list_walk [s1,s2] _ _ S' ⟨_,_,rfl,fun j n hj=>⟨b,0,rfl,by rw[hb];simp,?_⟩⟩ hok t ht
 subst hb
 have hn:=heap_alloc_new X (.cells #[.string s1,.string s2] 9)
 match j,hj with
 | 0,hj=>simp only[List.getElem?_cons_zero,Option.some.injEq] at hj;subst hj;exact cell_at hn rfl
 | 1,hj=>simp only[List.getElem?_cons_succ,List.getElem?_cons_zero,Option.some.injEq] at hj;subst hj;exact cell_at hn rfl
def KpB (n₀ B:Nat)(W W':World):Prop:=Below n₀ W W'∧W'.heap[B]?=W.heap[B]?
theorem KpB.trans {n₀ B:Nat}{A C E:World}(h:KpB n₀ B A C)(k:KpB n₀ B C E):KpB n₀ B A E:=⟨h.1.trans k.1,k.2.trans h.2⟩
theorem KpB.of {n₀ B:Nat}{w w':World}(h:Below w.heap.size w w')(hn:n₀≤w.heap.size)(hB:B<w.heap.size):KpB n₀ B w w':=⟨h.mono hn,h.block B hB⟩
theorem KpB.put {n₀ B:Nat}{w:World}(hn:n₀≤w.heap.size)(hB:B<w.heap.size)(W:World)(l:Nat)(o o':Obj)(hl:w.heap.size≤l)(h:W.heap[l]?=some o)(h1:o.isCells=false)(h2:o.isWalk=false):KpB n₀ B W (W.putObj l o') :=
 ⟨belowK_b hn W l o o' hl h h1 h2,(grownBy_putObj' W l o').block B (by have:=(Array.getElem?_eq_some_iff.1 h).1;omega) (fun e=>by cases e;omega)⟩
set_option maxRecDepth 100000 in
set_option maxHeartbeats 2000000 in
theorem starts1_in {c:Cx}(s:ByteArray)(st:Nat→ByteArray)(hst:StartsOk s st)(n l Bs n₀:Nat)(hn:2≤n)(w0:World)(S:Sat c [] w0)(hn0:n₀=w0.heap.size)(J Jx:List (_root_.Fin 18)→World→Prop)
  (hY:∀ pre x W,J pre W→pre.length<18→YieldAt Fence.wide (n - 1) Tryz.prog l #[.int .i64 ((x.val:Nat):Int),.string (st x.val)] W fun e W' =>
   (e=.returned (.bool true)∧J (pre++[x]) W'∧KpB n₀ Bs W W')∨(e=.returned (.bool false)∧Jx (pre++[x]) W'))
  (W:World) (hW:Below n₀ w0 W) (hJ:AbidesFrom W.heap.size J) (hBs:W.heap[Bs]?=some (.cells #[.string s] 9)) (h0:J [] W) :
  CallsIn Fence.wide n Tryz.prog 114 #[.func (.yield l) #[] #[],.pointer (some ⟨Bs,0,none⟩)] W fun e W'=>(∃ v,e=.returned v) ∧
   ((∃ ys,ys=fins 18∧J ys W')∨(∃ pre,True∧Jx pre W')):=by
 refine callsIn_of_wp Tryz.func114 rfl trivial ?_ rfl
 simp only[Tryz.ntmps114,List.size_toArray,List.length_cons,List.length_nil,Nat.reduceAdd,Nat.reduceSub,Array.replicate_succ,Array.replicate_zero,List.push_toArray,List.append_toArray,List.nil_append,List.cons_append]
 gi_wp2
 gi_loopw [4] (fun i wr=>∃ k:Nat,k≤18∧i=.int .i64 k∧J (fins k) wr∧KpB n₀ Bs W wr)
  (fun i _=>18 - (RowKit.intOf i).toNat)
 case atStart=>exact⟨0,Nat.zero_le _,rfl,h0,Below.refl _ _,rfl⟩
 case round =>
  obtain⟨k,hk,rfl,hJs,hnx,hbk⟩:=hrel
  have hbk':=hbk.trans hBs
  have hblt:Bs<wr.heap.size:=(Array.getElem?_eq_some_iff.1 hbk').1
  have hsz:=hnx.size
  by_cases hlt:k<18
  ·have hcx:wr.cell? ⟨Bs,0,none⟩=some (.string s):=cell_at hbk' rfl
   obtain⟨t,hok,rfl,hsum⟩:=hst k hlt
   have hlt':(k:Int)<18:=by omega
   have hbr:Below n₀ w0 wr:=hW.trans hnx
   have htab:Lib.TabIs Tryz.prog wr.drew powName .u64 Lib.pow10Tab:=tab_on (tab_is S) (by rw[← hn0];exact bl_drew hbr)
   have f67:Fence.wide.fn 67:=trivial
   have f54:Fence.wide.fn 54:=trivial
   have hn1:1≤n:=by omega
   have hX:∀ (k':Nat)(os:Array Obj),Below w0.heap.size w0 (grow (wr.drewN k') os):=fun k' os=>by rw[← hn0];exact hbr.trans (below_grow (by rw[hn0];rw[hn0] at hbr;exact hbr.size) k' os)
   have hcg:∀ (k':Nat)(os:Array Obj),(grow (wr.drewN k') os).cell? ⟨Bs,0,none⟩=some (.string s):=fun k' os=>((below_grow (Nat.le_refl _) k' os).cell (p:=⟨Bs,0,none⟩) hblt).trans hcx
   have hJ4:∀ (k':Nat)(os:Array Obj)(w4:World),Below ((grow (wr.drewN k') os).alloc (.cells #[.string s,.string ⟨(Lib.itoa (k:Int)).toArray⟩] 9)).heap.size ((grow (wr.drewN k') os).alloc (.cells #[.string s,.string ⟨(Lib.itoa (k:Int)).toArray⟩] 9)) w4→J (fins k) w4:=fun k' os w4 b4 =>
    hJ _ _ _ none hJs (below_grownBy (below_to ((below_grow (Nat.le_refl _) k' os).alloc (by simp[grow,World.drewN]) _) b4)) (fun r e=>by cases e)
   have hB4:∀ (k':Nat)(os:Array Obj)(w4:World),Below ((grow (wr.drewN k') os).alloc (.cells #[.string s,.string ⟨(Lib.itoa (k:Int)).toArray⟩] 9)).heap.size ((grow (wr.drewN k') os).alloc (.cells #[.string s,.string ⟨(Lib.itoa (k:Int)).toArray⟩] 9)) w4→KpB n₀ Bs wr w4:=fun k' os w4 b4 =>
    KpB.of (below_to ((below_grow (Nat.le_refl _) k' os).alloc (by simp[grow,World.drewN]) _) b4) (by rw[hn0];rw[hn0] at hbr;exact hbr.size) hblt
   have hm:Tryz.prog.follows .mixedOrders=true:=by kernel_rfl
   gi_wp2
   gi_region_with_o (first
    | (gi_at_call 67;refine(callsIn_wide.2 (Tryz.strconv_Itoa k (by omega) (by omega) _ htab)).mono ?_;rintro e w2 ⟨rfl,k',os,rfl⟩;have hcx2:=hcg (1+k') os)
    | (gi_at_call 54;refine(callsIn_wide.2 (list_two S hok hsum _ _ (by simp[grow,World.drewN]) (hX _ _))).mono ?_;rintro e w4 ⟨rfl,b4⟩;obtain⟨fn,tmps,assign,body,hy,hR⟩:=hY _ ⟨k,hlt⟩ w4 (hJ4 _ _ _ b4) (by rw[fins_length hk];exact hlt);dsimp only at hy;have hb4:=hB4 _ _ _ b4)
    | (refine hR.mono ?_;rintro e W3 hW3;obtain⟨bb,rfl,hyes,hno⟩:=ret_bool hW3))
   all_goals cases bb
   all_goals gi_wp2
   all_goals first
    | (obtain⟨hJ3,hk3⟩:=hyes rfl;exact⟨⟨k+1,by omega,by simp,by rw[fins_succ hlt];exact hJ3,((KpB.trans ⟨hnx,hbk⟩ hb4).trans hk3)⟩,by simp[RowKit.intOf];omega⟩)
    | skip
   all_goals refine bodyPost_ret (results_none rfl _ _ _) rfl ?_
   all_goals exact⟨⟨_,rfl⟩,.inr ⟨_,by first | exact hno trivial | exact hno rfl⟩⟩
  ·obtain rfl:k=18:=by omega
   gi_wp2
   go_end0
   exact⟨⟨_,rfl⟩,.inl ⟨_,rfl,hJs⟩⟩
theorem starts_stops {c:Cx}(s:ByteArray)(st:Nat→ByteArray)(hst:StartsOk s st)(n Bs n₀:Nat)(hn:2≤n)(w w0:World)(S:Sat c [] w0)(hn0:n₀=w0.heap.size)(hw:Below n₀ w0 w)(hc:w.heap[Bs]?=some (.cells #[.string s] 9)) :
  SeqStopsK Fence.wide n Tryz.prog 114 #[.pointer (some ⟨Bs,0,none⟩)] (fun x:_root_.Fin 18=>#[Value.int .i64 ((x.val:Nat):Int),.string (st x.val)]) (KpB n₀ Bs) (fun ys=>ys=fins 18) (fun _=>True) 18 w:=fun l J Jx W hW hJ _ hY h0 =>
 starts1_in s st hst n l Bs n₀ hn w0 S hn0 J Jx hY W (by subst hn0;exact hw.trans (hW.mono hw.size)) hJ ((hW.block Bs (Array.getElem?_eq_some_iff.1 hc).1).trans hc) h0
end Go.SX.Rg
set_option linter.unusedVariables false
namespace Go.SX.Rg
open Go Go.SX Go.Proofs Go.RowKit Go.Sort
theorem _root_.Go.SX.PixE.c18 {ρ:Type}{r:ρ}{n:Int}{k:Nat→Option ρ}{K:Nat→Prop}(h:(pixG 18 n).bind k=some r)(h0:n=0→k 0=some r→K 0)(h1:n=1→k 1=some r→K 1)(h2:n=2→k 2=some r→K 2)(h3:n=3→k 3=some r→K 3)(h4:n=4→k 4=some r→K 4)(h5:n=5→k 5=some r→K 5)(h6:n=6→k 6=some r→K 6)(h7:n=7→k 7=some r→K 7)(h8:n=8→k 8=some r→K 8)(h9:n=9→k 9=some r→K 9)(h10:n=10→k 10=some r→K 10)(h11:n=11→k 11=some r→K 11)(h12:n=12→k 12=some r→K 12)(h13:n=13→k 13=some r→K 13)(h14:n=14→k 14=some r→K 14)(h15:n=15→k 15=some r→K 15)(h16:n=16→k 16=some r→K 16)(h17:n=17→k 17=some r→K 17):PixE n 18 K :=
 .cs h fun i hi he hk=>match i,hi,he,hk with | 0,_,e,h=>h0 e h | 1,_,e,h=>h1 e h | 2,_,e,h=>h2 e h | 3,_,e,h=>h3 e h | 4,_,e,h=>h4 e h | 5,_,e,h=>h5 e h | 6,_,e,h=>h6 e h | 7,_,e,h=>h7 e h | 8,_,e,h=>h8 e h | 9,_,e,h=>h9 e h | 10,_,e,h=>h10 e h | 11,_,e,h=>h11 e h | 12,_,e,h=>h12 e h | 13,_,e,h=>h13 e h | 14,_,e,h=>h14 e h | 15,_,e,h=>h15 e h | 16,_,e,h=>h16 e h | 17,_,e,h=>h17 e h | i+18,hi,_,_=>absurd hi (by omega)
def hexL : List UInt8:=[48,49,50,51,52,53,54,55,56,57,97,98,99,100,101,102]
def dgI (t:ByteArray)(k:Nat):Int:=Lib.indexByte hexL (t.data.toList.getD k 0)
def dgSum (t:ByteArray):Nat→Int
 | 0=>0
 | k+1=>dgSum t k+(15 - dgI t k)
theorem ixb_lt : ∀ (l:List UInt8)(c:UInt8),-1≤Lib.indexByte l c∧Lib.indexByte l c<l.length
 | [],c=>by simp[Lib.indexByte]
 | b::l,c=>by
  have:=ixb_lt l c
  unfold Lib.indexByte
  simp only[List.length_cons]
  split
  ·omega
  ·split<;>omega
theorem dg_bd (t:ByteArray)(k:Nat):-1≤dgI t k∧dgI t k<16:=ixb_lt hexL _
theorem dgSum_bd (t:ByteArray):∀ k:Nat,0≤dgSum t k∧dgSum t k≤16 * k
 | 0=>by simp[dgSum]
 | k+1=>by
  have:=dgSum_bd t k
  have:=dg_bd t k
  unfold dgSum
  omega
def dgA (t:ByteArray):A18 Int:=⟨dgI t 0,dgI t 1,dgI t 2,dgI t 3,dgI t 4,dgI t 5,dgI t 6,dgI t 7,dgI t 8,dgI t 9,dgI t 10,dgI t 11,dgI t 12,dgI t 13,dgI t 14,dgI t 15,dgSum t 16 / 16,dgSum t 16 % 16⟩
noncomputable def sign_digits_g (m:ByteArray):Option (A18 Int):=Option.bind (digest_Sum_g m) fun t=>if t.size=16 then some (dgA t) else none
def dgV (t:ByteArray)(i k:Nat):Value:=.int .i64 (if k<i then dgI t k else 0)
def BAt (w:World)(B:Nat)(t:ByteArray):Prop:=∀ j,j<16→w.cell? ⟨B,j,none⟩=some (.int .u8 (t.data.toList.getD j 0).toNat)
theorem BAt.set {w:World}{B:Nat}{t:ByteArray}(h:BAt w B t){a:Addr}(ha:B≠a.block)(v:Value):BAt (w.setCell a v) B t:=fun j hj=>by
 rw[World.cell?_setCell_other _ _ _ _ (fun e=>ha (by rw[e]))];exact h j hj
theorem rowIs_setCells {b:Nat}{ty:TypeId}{n:Nat}:∀ (vs:List Value)(o:Nat)(w:World)(f:Nat→Value),w.rowIs b ty n f→(w.setCells b o vs).rowIs b ty n (fun j=>if o≤j then vs.getD (j - o) (f j) else f j)
 | [],o,w,f,h=>h.congr fun j _=>by split<;>simp
 | v::r,o,w,f,h=>by
  refine(rowIs_setCells r (o+1) _ _ (h.set o v)).congr fun j _=>?_
  by_cases h1:o+1≤j
  ·have h3:j≠o:=by omega
   have h4:o≤j:=by omega
   simp only[h1,h3,h4,if_true,if_false,ite_true,ite_false]
   rw[show j - o=(j - (o+1))+1 by omega,List.getD_cons_succ]
  ·by_cases h2:j=o
   ·subst h2;rw[if_neg h1,if_pos rfl,if_pos (by omega)];simp
   ·rw[if_neg h1,if_neg h2,if_neg (by omega)]
theorem below_setCells {w0:World}(b:Nat):∀ (vs:List Value)(o:Nat)(w:World),Below b w0 w→Below b w0 (w.setCells b o vs)
 | [],o,w,h=>h
 | v::r,o,w,h=>below_setCells b r (o+1) _ (h.setCell (p:=⟨b,o,none⟩) (Nat.le_refl _) v)
theorem heap18 {W:World}{b:Nat}{ty:TypeId}{A:Array Value}(h:W.rowIs b ty 18 (fun j=>A.getD j .nilFunc))(hs:A.size=18):W.heap[b]?=some (.cells A ty (0,0)):=by
 obtain⟨c,h1,h2,h3⟩:=h
 have:c=A:=Array.ext (by omega) fun i hi1 hi2=>by
  have:=h3 i (by omega)
  simp[hi1,hi2] at this
  exact this
 rw[h1,this]
def dgArr (t:ByteArray):Array Value:=#[.int .i64 (dgA t).a0,.int .i64 (dgA t).a1,.int .i64 (dgA t).a2,.int .i64 (dgA t).a3,.int .i64 (dgA t).a4,.int .i64 (dgA t).a5,.int .i64 (dgA t).a6,.int .i64 (dgA t).a7,.int .i64 (dgA t).a8,.int .i64 (dgA t).a9,.int .i64 (dgA t).a10,.int .i64 (dgA t).a11,.int .i64 (dgA t).a12,.int .i64 (dgA t).a13,.int .i64 (dgA t).a14,.int .i64 (dgA t).a15,.int .i64 (dgA t).a16,.int .i64 (dgA t).a17]
def IsDg (A:Array Value)(t:ByteArray):Prop:=dgArr t=A
set_option maxHeartbeats 4000000 in
set_option maxRecDepth 100000 in
theorem digits_walk {c:Cx}{w:World}(S:Sat c [] w)(m t:ByteArray)(ht:digest_Sum_g m=some t)(h16:t.size=16) :
  Calls Tryz.prog 68 #[.string m] w fun e w'=>e=.returned (.agg (dgArr t))∧Below w.heap.size w w':=by
 have hSum:=digest_Sum_R (P:=Tryz.prog) rfl _ t ht
 obtain⟨Z,hZ⟩:∃ Z,Z=Obj.cells (Array.replicate 18 (Value.int .i64 0)) 96:=⟨_,rfl⟩
 obtain⟨W1,hW1⟩:∃ W,W=(w.alloc Z).alloc Z:=⟨_,rfl⟩
 have b1:Below w.heap.size w W1:=by rw[hW1];exact((Below.refl _ w).alloc (Nat.le_refl _) _).alloc (by simp) _
 have z1:W1.heap.size=w.heap.size+2:=by rw[hW1];simp
 have r0:W1.rowIs w.heap.size 96 18 (fun _=>.int .i64 0):=by
  rw[hW1]
  refine World.rowIs.alloc ?_ _
  rw[hZ]
  exact World.rowIs_alloc w _ 96 _ (fun i hi=>by simp at hi;simp[hi])
 have r1:W1.rowIs (w.heap.size+1) 96 18 (fun _=>.int .i64 0):=by
  rw[hW1,show w.heap.size+1=(w.alloc Z).heap.size by simp,hZ]
  exact World.rowIs_alloc _ _ 96 _ (fun i hi=>by simp at hi;simp[hi])
 go_enter Tryz.func68,Tryz.ntmps68
 go_wp2_with (go_at_call 44;refine(pure_int hSum S (by rw[hW1,hZ] at b1;exact b1) (us:=[.string m]) ⟨rfl,fun i s u h1 h2=>by match i with | 0=>(cases h1;cases h2;exact .d (.val _ rfl))⟩).mono ?_;rintro e w2 ⟨rfl,b2⟩)
 replace b2:Below W1.heap.size W1 w2:=by rw[hW1,hZ];exact b2
 have hconv:=Lib.run_convert_string_bytes (P:=Tryz.prog) w2 9 117 5 t Tryz.underlying9 Tryz.underlying117 Tryz.underlying5
 replace r0:=r0.of_block (b2.block _ r0.lt)
 replace r1:=r1.of_block (b2.block _ r1.lt)
 have hl2:=b2.size
 obtain⟨w3,hw3⟩:∃ w3,Lib.bytesWorld w2 5 t=w3:=⟨_,rfl⟩
 replace r0:w3.rowIs w.heap.size 96 18 (fun _=>.int .i64 0):=hw3▸r0.of_block (Lib.bytesWorld_at_old w2 5 t _ (by omega))
 replace r1:w3.rowIs (w.heap.size+1) 96 18 (fun _=>.int .i64 0):=hw3▸r1.of_block (Lib.bytesWorld_at_old w2 5 t _ (by omega))
 have hB:∀ j,j<16→w3.cell? ⟨w2.heap.size,j,none⟩=some (.int .u8 (t.data.toList.getD j 0).toNat):=fun j hj=>hw3▸Lib.bytesWorld_cell w2 5 t j (by omega)
 have b3:Below w.heap.size w w3:=by
  refine b1.trans ?_
  have b23:Below w2.heap.size w2 w3:=by
   rw[← hw3]
   exact⟨rfl,rfl,rfl,by rw[Lib.bytesWorld_size];omega,fun b hb=>Lib.bytesWorld_at_old w2 5 t b hb⟩
  have b12:Below w.heap.size W1 w2:=⟨b2.os,b2.tape,b2.output,b2.size,fun b hb=>b2.block b (by omega)⟩
  exact b12.trans ⟨b23.os,b23.tape,b23.output,b23.size,fun b hb=>b23.block b (by omega)⟩
 rw[hw3] at hconv
 obtain⟨B,hBe⟩:∃ B,B=w2.heap.size:=⟨_,rfl⟩
 rw[← hBe] at hconv hB
 have hBlt:w.heap.size+2≤B:=by omega
 have hB3:B<w3.heap.size:=by rw[← hw3,Lib.bytesWorld_size,hBe];omega
 rw[h16] at hconv
 clear hSum S hW1 hZ b1 z1 b2 hl2 hw3 hBe
 go_wp2_with (first | (rw[hconv]))
 go_loopw [4,11] (fun s i wr=>∃ k:Nat,s=.int .i64 (dgSum t k)∧i=.int .i64 (k:Int)∧k≤16∧wr.rowIs w.heap.size 96 18 (fun _=>.int .i64 0)∧wr.rowIs (w.heap.size+1) 96 18 (dgV t k)∧BAt wr B t∧Below w.heap.size w wr) (fun _ i _=>16 - (RowKit.intOf i).toNat)
 case atStart=>exact⟨0,rfl,rfl,by omega,r0,r1.congr (fun q _=>by simp[dgV]),hB,b3⟩
 case round =>
  clear r0 r1 hB b3 hB3
  obtain⟨k,rfl,rfl,hk,hr0,hr1,hB,hbel⟩:=hrel
  by_cases hlt:k<16
  ·have hc:=hB k hlt
   have hix:∀ W,Calls Tryz.prog 104 #[.string ⟨#[48,49,50,51,52,53,54,55,56,57,97,98,99,100,101,102]⟩,.int .u8 ((t.data.toList.getD k 0).toNat:Int)] W fun e w'=>e=.returned (.int .i64 (dgI t k))∧w'=W:=fun W=>by
    refine(Tryz.strings_IndexByte _ _ W).mono ?_
    rintro e w' ⟨rfl,rfl⟩
    refine⟨?_,rfl⟩
    have:(((t.data.toList.getD k 0).toNat:Int)).toNat.toUInt8=t.data.toList.getD k 0:=by simp
    rw[this];rfl
   have ha:=hr1.cell (i:=k) (by omega)
   have hf:=hr1.frozen k
   have hd:=dg_bd t k
   have hs:=dgSum_bd t k
   have hs1:dgSum t (k+1)=dgSum t k+(15 - dgI t k):=rfl
   obtain⟨x,hx⟩:∃ x,(t.data.toList.getD k 0).toNat=x:=⟨_,rfl⟩
   rw[hx] at hc hix
   have hV:∀ q,q<18→(if q=k then .int .i64 (dgI t k) else dgV t k q)=dgV t (k+1) q:=fun q hq=>by
    unfold dgV
    by_cases h:q=k
    ·subst h;rw[if_pos rfl,if_pos (by omega)]
    ·rw[if_neg h]
     by_cases h2:q<k
     ·rw[if_pos h2,if_pos (by omega)]
     ·rw[if_neg h2,if_neg (by omega)]
   obtain⟨d,ed⟩:∃ d,dgI t k=d:=⟨_,rfl⟩
   obtain⟨S,eS⟩:∃ S,dgSum t k=S:=⟨_,rfl⟩
   rw[ed] at hix hd hs1 hV
   rw[eS] at hs hs1
   rw[eS]
   obtain⟨hd1,hd2⟩:=hd
   obtain⟨hS1,hS2⟩:=hs
   have k1:(0:Int)≤(k:Int):=by omega
   have k2:(k:Int)<16:=by omega
   have k3:IntKind.i64.wrap (15 - d)=15 - d:=by rw[wr64 (by omega) (by omega)]
   have k4:IntKind.i64.wrap (S+(15 - d))=S+(15 - d):=by rw[wr64 (by omega) (by omega)]
   have hset:=(hr1.set k (.int .i64 d)).congr hV
   go_wp2_with (go_at_call 104;refine(hix _).mono ?_;rintro e w4 ⟨rfl,rfl⟩)
   go_roundw
   case rel =>
    refine⟨k+1,by rw[hs1],by go_num,by omega,hr0.setOther (by simp) _,hset,hB.set (by simp;omega) _,hbel.setCell (Nat.le_succ _) _⟩
   case measure=>simp[RowKit.intOf];omega
  ·have hke:k=16:=by omega
   subst hke
   have hs:=dgSum_bd t 16
   obtain⟨A,hA⟩:∃ A:Array Value,A=dgArr t:=⟨_,rfl⟩
   have hsz:A.size=18:=by rw[hA];rfl
   obtain⟨W5,hW5⟩:∃ W5,W5=(wr.setCell ⟨w.heap.size+1,16,none⟩ (.int .i64 (dgSum t 16 / 16))).setCell ⟨w.heap.size+1,17,none⟩ (.int .i64 (dgSum t 16 % 16)):=⟨_,rfl⟩
   have q1:W5.rowIs (w.heap.size+1) 96 18 (fun j=>A.getD j .nilFunc):=by
    rw[hW5]
    refine((hr1.set 16 _).set 17 _).congr fun j hj=>?_
    rw[hA]
    rcases (by omega:j=0∨j=1∨j=2∨j=3∨j=4∨j=5∨j=6∨j=7∨j=8∨j=9∨j=10∨j=11∨j=12∨j=13∨j=14∨j=15∨j=16∨j=17) with rfl | rfl | rfl | rfl | rfl | rfl | rfl | rfl | rfl | rfl | rfl | rfl | rfl | rfl | rfl | rfl | rfl | rfl<;>rfl
   have q0:W5.rowIs w.heap.size 96 18 (fun _=>.int .i64 0):=by
    rw[hW5];exact(hr0.setOther (by simp) _).setOther (by simp) _
   have q2:Below w.heap.size w W5:=by rw[hW5];exact(hbel.setCell (Nat.le_succ _) _).setCell (Nat.le_succ _) _
   have hc16:wr.cell? ⟨w.heap.size+1,16,none⟩=some (.int .i64 0):=hr1.cell (i:=16) (by omega)
   have hc17:wr.cell? ⟨w.heap.size+1,17,none⟩=some (.int .i64 0):=hr1.cell (i:=17) (by omega)
   have hf16:=hr1.frozen 16
   have hf17:=hr1.frozen 17
   have hone:∀ v∈A.toList,v.oneCell'=true:=by
    rw[hA];intro v hv;simp[dgArr] at hv
    rcases hv with rfl | rfl | rfl | rfl | rfl | rfl | rfl | rfl | rfl | rfl | rfl | rfl | rfl | rfl | rfl | rfl | rfl | rfl<;>rfl
   have hg5:=heap18 q1 hsz
   have hst:=run_storeCells_cells (P:=Tryz.prog) w.heap.size 0 A.toList 0 W5 (fun j hj=>by rw[show 0+0+j=j by omega,q0.cell (by simp at hj;omega)];rfl) (fun j _=>q0.frozen _) hone
   obtain⟨W6,hW6⟩:∃ W6,W6=W5.setCells w.heap.size (0+0) A.toList:=⟨_,rfl⟩
   rw[← hW6] at hst
   have q3:W6.rowIs w.heap.size 96 18 (fun j=>A.getD j .nilFunc):=by
    rw[hW6]
    refine(rowIs_setCells A.toList (0+0) _ _ q0).congr fun j hj=>?_
    rw[if_pos (by omega)]
    simp[show j<A.size by omega]
   have q4:Below w.heap.size w W6:=by rw[hW6];exact below_setCells _ _ _ _ q2
   have hg6:=heap18 q3 hsz
   rw[hW5] at hg5 hst
   have hA2:IsDg A t:=hA.symm
   clear hA hr1 hr0 hW5 hW6 q0 q1 q2 q3 hone hB hbel
   go_wp2_with (first | (refine wpList_load_row rfl 96 _ rfl (w.heap.size+1) rfl 96 A (0,0) _ hg5 Tryz.underlying96 rfl (by rw[hsz];kernel_rfl) ?_) | rw[hst])
   refine bodyPost_ret (results_cell_row (P:=Tryz.prog) rfl _ W6 w.heap.size 96 A (0,0) _ rfl hg6 Tryz.underlying96 rfl (by rw[hsz];kernel_rfl)) rfl ?_
   exact⟨by rw[show dgArr t=A from hA2],q4⟩
theorem sign_digits_R {P:Program}(hP:P=Tryz.prog)(m:ByteArray)(r:A18 Int)(h:sign_digits_g m=some r):Fn1 P 68 [vS m] (vA18Ii64 r):=by
 subst hP
 unfold sign_digits_g at h
 cases ht:digest_Sum_g m with
 | none=>rw[ht] at h;cases h
 | some t =>
  rw[ht,Option.bind_some] at h
  split at h
  ·rename_i hs
   cases h
   refine⟨by kernel_rfl,fun c w us hS hr=>?_⟩
   obtain⟨k1,k2⟩:=hr
   match us,k1 with
   | [u],_ =>
    obtain rfl:=(k2 0 _ u rfl rfl).of_val
    refine(digits_walk hS m t ht hs).mono ?_
    rintro e w' ⟨rfl,hb⟩
    obtain⟨j1,j2⟩:=pure_end hS hb
    refine⟨c,[],_,_,rfl,Rel.agg_iff.2 ⟨_,rfl,rfl,fun i s u h1 h2=>?_⟩,j1,.refl c,j2,rfl⟩
    match i with
    | 0 | 1 | 2 | 3 | 4 | 5 | 6 | 7 | 8 | 9 | 10 | 11 | 12 | 13 | 14 | 15 | 16 | 17=>(cases h1;cases h2;exact .d (.val _ rfl))
    | i+18=>cases h1
  ·cases h
end Go.SX.Rg
set_option linter.unusedVariables false
namespace Go.SX.Rg
open Go Go.SX Go.Proofs Go.RowKit Go.Sort
theorem size_mk (l:List UInt8):(⟨l.toArray⟩:ByteArray).size=l.length:=by show l.toArray.size=l.length;simp
def room (l:List ByteArray):Nat:=(l.map fun x=>x.size+21).sum
theorem room_take {l:List ByteArray}{i:Nat}{x:ByteArray}(h:l[i]?=some x):room (l.take (i+1))=room (l.take i)+(x.size+21):=by
 unfold room
 rw[List.take_add_one,h];simp
theorem room_le (l:List ByteArray)(i:Nat):room (l.take i)≤room l:=by
 have:room l=room (l.take i)+room (l.drop i):=by
  unfold room;rw[← List.sum_append,← List.map_append,List.take_append_drop]
 omega
theorem itoa_nat_le (n:Nat)(h:n≤140737488355328):(Lib.itoa (n:Int)).length≤20:=by
 rw[Lib.itoa_nonneg,Lib.decDigits_length];exact Lib.nDigits_le20 n (by omega)
theorem txtZ_room (l:List ByteArray)(h:room l≤140737488355328):(txtZ l).length≤room l:=by
 induction l with
 | nil=>exact Nat.zero_le _
 | cons x l ih =>
  have e1:room (x::l)=x.size+21+room l:=by simp[room]
  have e2:txtZ (x::l)=txtP x++txtZ l:=by simp[txtZ]
  have:=ih (by omega)
  have h3:=itoa_nat_le x.size (by omega)
  have h4:x.data.toList.length=x.size:=by simp
  rw[e2,List.length_append,txtP,List.length_append,List.length_append,List.length_singleton];omega
theorem conv_row {w1:World}{v:Value}{bs:List UInt8}{n k:Nat}(h:w1.ownsRow n 5 1 v k (Lib.byteCells bs))(hk:k=bs.length)(hv:∃ g cap,v=.slice (some ⟨g,0,none⟩) k cap) :
  (convert 117 9 v).run Tryz.prog w1=.ok (.string ⟨bs.toArray⟩) w1:=by
 obtain⟨g,cap,rfl⟩:=hv
 rw[run_convert_bytes_string w1 117 9 5 _ _ _ Tryz.underlying117 Tryz.underlying5 Tryz.underlying9]
 have hl:=run_loadCells_list (P:=Tryz.prog) w1 ⟨g,0,none⟩ (Lib.byteCells bs) (h.cells (g:=g) rfl)
 have e:Lib.byteCells bs=(bs.map fun b=>(b.toNat:Int)).map (Value.int .u8):=by simp[Lib.byteCells]
 rw[Lib.byteCells_length,← hk,e] at hl
 rw[run_bytesToString w1 _ _ _ _ hl]
 congr 2
 have:=bytesS_eq (bs.map fun b=>(b.toNat:Int))
 unfold bytesS at this
 rw[this]
 simp only[strOfNums,List.map_map]
 congr 2
 exact(List.map_congr_left fun b _=>by simp).trans (List.map_id' _)
set_option maxHeartbeats 4000000 in
set_option maxRecDepth 100000 in
theorem joined_walk {c:Cx}(l:List ByteArray)(v:Value)(w:World)(S:Sat c [] w)(hv:StrsAt w v l)(hok:room l≤140737488355328) :
  Calls Tryz.prog 102 #[v] w fun e w'=>e=.returned (.string ⟨(txtZ l).toArray⟩)∧Below w.heap.size w w':=by
 obtain⟨a,cap,rfl,hcell⟩:=hv
 obtain⟨i0,hi0,hz0,hz1,hz2⟩:=info_parts (show (Tryz.prog.info? 5).map (fun i=>(i.zero,i.size,i.bytes))=some (some (.int .u8 0),1,1) by kernel_rfl)
 have hfit:=txtZ_room l hok
 have hlsm:l.length≤140737488355328:=Nat.le_trans (txtZ_le l) (by omega)
 go_enter Tryz.func102,Tryz.ntmps102
 go_wp2
 go_loopw [3,4] (fun nv iv wr=>∃ i:Nat,iv=.int .i64 i∧i≤l.length∧nv=.int .i64 (room (l.take i):Nat)∧wr=w)
  (fun _ iv _=>l.length - (RowKit.intOf iv).toNat)
 case atStart=>exact⟨0,rfl,Nat.zero_le _,by simp[room],rfl⟩
 case round =>
  obtain⟨i,rfl,hi,rfl,hwr⟩:=hrel
  have hwr':w=wr:=hwr.symm
  subst hwr'
  clear hwr
  by_cases hlt:i<l.length
  ·obtain⟨x,hl⟩:∃ x,l[i]?=some x:=⟨l[i],by simp[hlt]⟩
   obtain⟨b,off,rfl,hb,hc⟩:=hcell i x hl
   have htake:=room_take hl
   have hrl:=room_le l (i+1)
   rw[htake] at hrl
   have hn1:IntKind.i64.wrap ((x.size:Int)+21)=(x.size:Int)+21:=by rw[wr64 (by omega) (by omega)]
   have hn2:IntKind.i64.wrap ((room (l.take i):Int)+((x.size:Int)+21))=(room (l.take i):Int)+((x.size:Int)+21):=by rw[wr64 (by omega) (by omega)]
   go_wp2_with fail
   go_roundw
   case rel=>exact⟨i+1,by go_num,by omega,by rw[htake];go_num,trivial⟩
   case measure=>simp[RowKit.intOf];omega
  ·have hil:i=l.length:=by omega
   subst hil
   rw[List.take_length]
   obtain⟨w1,hmk,hrow0,hgr0⟩:=run_make_own (P:=Tryz.prog) w w.heap.size 117 5 i0 (.int .u8 0) 1 Tryz.underlying117 hi0 hz0 hz1 .i64 .i64 (room l) (by rw[hz2];omega) (by unfold maxLen;omega) (Nat.le_refl _)
   have b1:Below w.heap.size w w1:=(Below.refl _ w).grown hgr0 (Nat.le_refl _) (fun k hk=>by cases hk)
   go_wp2_with (rw[hmk])
   go_loopw [5,6] (fun vv iv wq=>∃ i:Nat,iv=.int .i64 i∧i≤l.length∧(∃ g cap',vv=.slice (some ⟨g,0,none⟩) (txtZ (l.take i)).length cap')∧wq.ownsRow w.heap.size 5 1 vv (txtZ (l.take i)).length (Lib.byteCells (txtZ (l.take i)))∧Below w.heap.size w wq)
    (fun _ iv _=>l.length - (RowKit.intOf iv).toNat)
   case atStart=>exact⟨0,rfl,Nat.zero_le _,⟨_,_,rfl⟩,by simpa [txtZ,Lib.byteCells] using hrow0,b1⟩
   case round =>
    clear hrow0 hmk
    obtain⟨i,rfl,hi,⟨g,cap',rfl⟩,hrow,hbel⟩:=hrel
    by_cases hlt:i<l.length
    ·obtain⟨x,hl⟩:∃ x,l[i]?=some x:=⟨l[i],by simp[hlt]⟩
     obtain⟨b,off,rfl,hb,hc⟩:=hcell i x hl
     have hc':wr.cell? ⟨b,off+i,none⟩=some (.string x):=by rw[hbel.cell (p:=⟨b,off+i,none⟩) hb];exact hc
     have htake:=txtZ_take hl
     have hsp:=congrArg List.length (txtZ_split l (i+1))
     rw[htake] at hsp
     simp only[List.length_append] at hsp
     have hxs:x.data.toList.length=x.size:=by simp
     have hpl:(txtP x).length=(Lib.itoa x.size).length+1+x.size:=by simp[txtP];omega
     have hnp:1≤(Lib.itoa (x.size:Int)).length:=by rw[Lib.itoa_nonneg,Lib.decDigits_length];exact Lib.nDigits_pos _
     have hDec:=ref02_Decimal_R (P:=Tryz.prog) rfl (x.size:Int) _ (Decimal_eq x.size (by omega) (by omega))
     have hnum:(⟨(Lib.itoa (x.size:Int)).toArray⟩:ByteArray).size=(Lib.itoa (x.size:Int)).length:=size_mk _
     go_wp2_with (go_at_call 47;refine(pure_int hDec S hbel (us:=[.int .i64 x.size]) ⟨rfl,fun i s u h1 h2=>by match i with | 0=>(cases h1;cases h2;exact .d (.val _ rfl))⟩).mono ?_)
     rintro e w2 ⟨rfl,b2⟩
     have hrow2:=own_below hrow b2
     have hbel2:=below_n hbel hbel.size b2
     go_wp2_with (at_builtin;refine Lib.wpList_append_own_string _ rfl _ _ 117 9 rfl w.heap.size 5 i0 Tryz.underlying117 Tryz.underlying9 hi0 hz0 hz1 hz2 _ _ _ rfl hrow2 ⟨(Lib.itoa (x.size:Int)).toArray⟩ rfl (by unfold maxLen;omega) (by omega) hbel2.size ?_)
     intro v3 w3 hrow3 hgr3 _
     have hbel3:=hbel2.grown hgr3 hbel2.size (fun k hk=>(hrow2.lt k hk).1)
     obtain⟨g3,cap3,rfl,hg3⟩:=row_block hrow3 (by omega)
     go_wp2_with (at_builtin;refine wpList_append_own _ rfl _ _ 117 rfl w.heap.size 5 i0 (.int .u8 0) 1 1 Tryz.underlying117 hi0 hz0 hz1 hz2 rfl (by decide) _ _ _ rfl (hrow3.alloc _) ⟨w3.heap.size,0,none⟩ 1 1 [.int .u8 58] rfl rfl (cell_one_new _ _ _) (by simp[Value.oneCell']) (by unfold maxLen;omega) (by omega) (by have:=hbel3.size;simp;omega) ?_)
     intro v4 w4 hrow4 hgr4 _
     have hbel4:=(hbel3.alloc hbel3.size (.cells #[.int .u8 58] 5)).grown hgr4 (by have:=hbel3.size;simp;omega) (fun k hk=>((hrow3.alloc (.cells #[.int .u8 58] 5)).lt k hk).1)
     obtain⟨g4,cap4,rfl,hg4⟩:=row_block hrow4 (by omega)
     have hc4:w4.cell? ⟨b,off+i,none⟩=some (.string x):=by rw[hbel4.cell (p:=⟨b,off+i,none⟩) hb];exact hc
     go_wp2_with (at_builtin;refine Lib.wpList_append_own_string _ rfl _ _ 117 9 rfl w.heap.size 5 i0 Tryz.underlying117 Tryz.underlying9 hi0 hz0 hz1 hz2 _ _ _ rfl hrow4 x rfl (by unfold maxLen;omega) (by omega) hbel4.size ?_)
     intro v5 w5 hrow5 hgr5 _
     have hbel5:=hbel4.grown hgr5 hbel4.size (fun k hk=>(hrow4.lt k hk).1)
     obtain⟨g5,cap5,rfl,hg5⟩:=row_block hrow5 (by omega)
     go_wp2_with fail
     go_roundw
     case rel =>
      have hlen:(txtZ (l.take (i+1))).length=(txtZ (l.take i)).length+(⟨(Lib.itoa (x.size:Int)).toArray⟩:ByteArray).size+1+x.size:=by rw[htake,List.length_append,hpl,hnum];omega
      refine⟨i+1,by go_num,by omega,⟨g5,cap5,by rw[hlen,hnum]⟩,?_,hbel5⟩
      rw[hlen]
      have e:Lib.byteCells (txtZ (l.take (i+1)))=Lib.byteCells (txtZ (l.take i))++Lib.strCells ⟨(Lib.itoa (x.size:Int)).toArray⟩++[.int .u8 58]++Lib.strCells x:=by
       rw[htake,Lib.byteCells_append]
       simp[txtP,Lib.byteCells,Lib.strCells]
      rw[e];simpa only[List.append_assoc,hnum,List.singleton_append] using hrow5
     case measure=>simp[RowKit.intOf];omega
    ·have hil:i=l.length:=by omega
     subst hil
     rw[List.take_length] at hrow ⊢
     have hfin:=conv_row hrow rfl ⟨g,cap',rfl⟩
     go_wp2_with (rw[hfin])
     go_ret
     exact⟨rfl,hbel⟩
open Classical in
noncomputable def ref02_Joined_g (l:List ByteArray):Option ByteArray:=if room l≤140737488355328 then some ⟨(txtZ l).toArray⟩ else none
theorem ref02_Joined_R {P:Program}(hP:P=Tryz.prog)(l:List ByteArray)(r:ByteArray)(h:ref02_Joined_g l=some r):Fn1 P 102 [.d (.sl (W eS l))] (vS r):=by
 subst hP
 unfold ref02_Joined_g at h
 split at h
 ·rename_i hok
  cases h
  refine fn1_of (by kernel_rfl) rfl fun c w us hS hr=>?_
  obtain⟨k1,k2⟩:=hr
  match us,k1 with
  | [u],_ =>
   cases k2 0 _ u rfl rfl with | d hrep =>
   exact joined_walk l u w hS (strsAt_of hS.le hrep) hok
 ·cases h
end Go.SX.Rg
