/- Parts of the proof. -/
import Derived.Test.YtllbabjgpdmblaaDoorZTdBuilder
import Derived.Laws.AppendOwnNone
import Derived.Lib.ItoaLen
import Derived.Deep.RegionHeld3
import Derived.Test.YtllbabjgpdmblaaDoorZTdT
import Derived.Test.YtllbabjgpdmblaaDoorZTrydShelf
set_option linter.unusedSimpArgs false
set_option linter.unusedVariables false
set_option linter.unusedSectionVars false
namespace Go.SX.Td
open Go Go.SX Go.Proofs Go.RowKit Go.Sort
set_option linter.unusedVariables false
def txtP (x:Live):List UInt8:=Lib.itoa x.rule++[46]++Lib.itoa x.zone++[32]
def txtZ (l:List Live):List UInt8:=l.flatMap txtP
def KeyOk (a n:Int)(l:List Live):Prop:=IntOk a∧IntOk n∧(∀ x∈l,IntOk x.rule∧IntOk x.zone)∧(txtZ (Live.mk a n::l)).length≤140737488355328∧l.length≤1000000
open Classical in
noncomputable def verify_key_g (a n:Int)(l:List Live):Option ByteArray:=if KeyOk a n l then some ⟨(txtZ (Live.mk a n::l)).toArray⟩ else none
def cellsOf (l:List Live):List Value:=l.flatMap fun x=>[.int .i64 x.rule,.int .i64 x.zone]
theorem ul0 : ∀ l:List Live,(cellsOf l).length=l.length * 2
 | []=>rfl
 | x::l=>by
  have:=ul0 l
  simp only[cellsOf,List.flatMap_cons,List.length_append,List.length_cons,List.length_nil] at this ⊢;omega
theorem ut0 : ∀ (l:List Live)(k:Nat),(cellsOf l)[k * 2]?=l[k]?.map (fun x=>Value.int .i64 x.rule)∧(cellsOf l)[k * 2+1]?=l[k]?.map (fun x=>Value.int .i64 x.zone)
 | [],k=>⟨rfl,rfl⟩
 | x::l,0=>⟨rfl,rfl⟩
 | x::l,k+1=>by
  have:=ut0 l k
  have e:(k+1) * 2=k * 2+1+1:=by omega
  have e2:(k+1) * 2+1=k * 2+1+1+1:=by omega
  have c:cellsOf (x::l)=.int .i64 x.rule::.int .i64 x.zone::cellsOf l:=rfl
  rw[c,e2,e]
  simpa using this
def PairsAt (w:World)(v:Value)(l:List Live):Prop :=
 ∃ a cap,v=.slice a l.length cap∧(a=none→cap=0∧l=[])∧∀ ad,a=some ad→(l≠[]→ad.block<w.heap.size)∧∀ (j:Nat) u,(cellsOf l)[j]?=some u→w.cell? (ad.add j)=some u
theorem pairsAt_of {F:Fz}{w:World}{v:Value}{l:List Live}(hF:∀ b o,F b=some o→w.heap[b]?=some o)(h:Rep F v (.sl (W eLive l))):PairsAt w v l:=by
 have hlen:(W eLive l).length=l.length:=ja0 _ _
 generalize hd:D.sl (W eLive l)=d at h
 cases h with
 | val v h=>cases hd
 | nil a cap h =>
  injection hd with hd
  have:l=[]:=by rw[hd] at hlen;exact List.eq_nil_of_length_eq_zero hlen.symm
  subst this
  exact⟨a,cap,rfl,fun e=>⟨h e,rfl⟩,fun ad _=>⟨fun e=>absurd rfl e,fun j u hj=>by simp[cellsOf] at hj⟩⟩
 | sl b off cap c e fr es sz g hb hcap hsz hc hr =>
  injection hd with hd
  subst hd
  have hw:=hF _ _ hb
  refine⟨some ⟨b,off,none⟩,cap,by rw[hlen],(fun e=>by cases e),fun ad had=>?_⟩
  cases had
  refine⟨fun _=>(Array.getElem?_eq_some_iff.1 hw).1,fun j u hj=>?_⟩
  have hjl:=(List.getElem?_eq_some_iff.1 hj).1
  rw[ul0] at hjl
  obtain⟨k,r,hr2,rfl⟩:∃ k r,r<2∧j=k * 2+r:=⟨j / 2,j % 2,by omega,by omega⟩
  have hx:l[k]?=some l[k]:=by rw[List.getElem?_eq_getElem]
  generalize l[k]=x at hx
  have hes:(W eLive l)[k]?=some [.val (.int .i64 x.rule),.val (.int .i64 x.zone)]:=by rw[dl0,List.getElem?_map,hx];rfl
  have h1:2=sz:=hsz k _ hes
  subst h1
  have hk:=ut0 l k
  rw[hx] at hk
  have hadd:∀ n,(Addr.mk b off none).add n=⟨b,off+n,none⟩:=fun n=>by
   unfold Addr.add;split
   ·rename_i h0;subst h0;rfl
   ·rfl
  rw[hadd]
  match r,hr2 with
  | 0,_ =>
   have h2:=hc k _ 0 _ hes rfl
   have h3:=hr k _ 0 _ hes rfl
   obtain⟨h3,_⟩:=Rep.kz0.1 h3
   rw[h3] at h2
   have hu:=hj.symm.trans hk.1
   simp only[Option.map_some,Option.some.injEq] at hu
   subst hu
   simp only[World.cell?,hw,Option.isSome_none,Bool.false_eq_true,if_false]
   simpa using h2
  | 1,_ =>
   have h2:=hc k _ 1 _ hes rfl
   have h3:=hr k _ 1 _ hes rfl
   obtain⟨h3,_⟩:=Rep.kz0.1 h3
   rw[h3] at h2
   have hu:=hj.symm.trans hk.2
   simp only[Option.map_some,Option.some.injEq] at hu
   subst hu
   simp only[World.cell?,hw,Option.isSome_none,Bool.false_eq_true,if_false]
   simpa [Nat.add_assoc] using h2
theorem append_pairs {ops:Array Oper}{rest:List Oper}{o:Oper}{a:Act}{Q:Exit→Act→World→Prop}{w:World}(hgd:o.guard=none)(s x:Operand)
  (ho:o.op=.call { callee:=.builtin .append,args:=#[s,x],argTypes:=#[80,80] }) (base:Nat) (v:Value) (xs:List Value) (hs:a.eval s=v) (hown:w.ownsRow base 82 2 v 1 xs)
  (u:Value) (l:List Live) (hx:a.eval x=u) (hv:PairsAt w u l) (hl:l.length≤1000000) (hbase:base≤w.heap.size)
  (h:∀ v' w',w'.ownsRow base 82 2 v' (1+l.length) (xs++cellsOf l)→w.grownBy w' v.ownBlock→wpList Tryd.prog ops Q rest (a.put o.dst v') w'):wpList Tryd.prog ops Q (o::rest) a w:=by
 have hi82:(Tryd.prog.info? 82).map (fun i=>(i.zero,i.size,i.bytes))=some (some (.agg #[.int .i64 0,.int .i64 0]),2,16):=by kernel_rfl
 obtain⟨i0,hi,hz0,hz1,hz2⟩:=info_parts hi82
 obtain⟨ad,cap,rfl,hn,hc⟩:=hv
 cases ad with
 | none =>
  obtain⟨rfl,rfl⟩:=hn rfl
  exact wpList_append_own_none hgd s x 80 ho base 82 i0 2 Tryd.underlying80 hi v 1 xs hs hown hx (h v w (by simpa [cellsOf] using hown) ⟨rfl,rfl,rfl,Nat.le_refl _,fun _ _ _=>rfl⟩)
 | some ad =>
  obtain⟨-,hc⟩:=hc ad rfl
  refine wpList_append_own _ hgd s x 80 ho base 82 i0 (.agg #[.int .i64 0,.int .i64 0]) 2 16 Tryd.underlying80 hi hz0 hz1 hz2 rfl (by decide) v 1 xs hs hown ad l.length cap (cellsOf l) hx (ul0 l) hc ?_ ?_ ?_ hbase fun v' w' h1 h2 _=>h v' w' h1 h2
  ·intro u hu
   simp only[cellsOf,List.mem_flatMap,List.mem_cons,List.not_mem_nil,or_false] at hu
   obtain⟨x,_,rfl | rfl⟩:=hu<;>rfl
  ·unfold maxLen;omega
  ·omega
theorem wi0 {B:Nat}{w w':World}(h:Below B w w'):Below B w w'.drew:=⟨h.os,h.tape,h.output,h.size,h.block⟩
theorem qv0 {w W:World}(h:Below w.heap.size w W)(k:Nat)(os:Array Obj):Below w.heap.size w (grow (W.drewN k) os):=h.trans (below_grow h.size k os)
theorem below_w {w wr W:World}(h:Below w.heap.size w wr)(k:Below wr.heap.size wr W):Below w.heap.size w W :=
 h.trans ⟨k.os,k.tape,k.output,k.size,fun b hb=>k.block b (Nat.lt_of_lt_of_le hb h.size)⟩
theorem wy0 {B:Nat}{w w':World}(h:Below B w w')(k:Nat):Below B w (w'.drewN k):=⟨h.os,h.tape,h.output,h.size,h.block⟩
theorem fi0 {W:World}{a:Addr}{v:Value}(h:W.cell? a=some v)(k:Nat)(os:Array Obj):(grow (W.drewN k) os).cell? a=some v:=by
 have hlt:a.block<W.heap.size:=by
  rcases Nat.lt_or_ge a.block W.heap.size with h' | h'
  ·exact h'
  ·simp[World.cell?,Array.getElem?_eq_none h'] at h
 rw[World.cell?_of_block (w:=W) (by simp[grow,World.drewN,Array.getElem?_append,hlt])];exact h
theorem fc0 {W:World}{g:Nat}{o:Obj}(h:W.heap[g]?=some o)(k:Nat)(os:Array Obj):(grow (W.drewN k) os).heap[g]?=some o:=by
 have hlt:=(Array.getElem?_eq_some_iff.1 h).1
 simpa [grow,World.drewN,Array.getElem?_append,hlt] using h
theorem cell_kept {W w4:World}{b g:Nat}{c:Array Value}{e:TypeId}(k4:Lib.OthersKept 5 (some b) W w4)(h:W.heap[g]?=some (.cells c e (0,0)))(hb:g≠b)(he:e≠5){o:Nat}{v:Value}(hc:c[o]?=some v):w4.cell? ⟨g,o,none⟩=some v:=by
 have:=k4 g _ h (by simpa using hb) (fun c' fz e'=>by cases e';exact he rfl)
 rw[Lib.cell_of_heap this];exact hc
set_option maxHeartbeats 4000000 in
set_option maxRecDepth 100000 in
theorem key_walk (A N:Int)(l:List Live)(v:Value)(w:World)(hv:PairsAt w v l)(hok:KeyOk A N l)(htab:Lib.TabIs Tryd.prog w powName .u64 Lib.pow10Tab) :
  Calls Tryd.prog 63 #[.int .i64 A,.int .i64 N,v] w fun e w'=>e=.returned (.string ⟨(txtZ (Live.mk A N::l)).toArray⟩)∧Below w.heap.size w w':=by
 obtain⟨hA,hN,hints,hfit,hlen⟩:=hok
 obtain⟨W2,hW2⟩:∃ W,W=(w.alloc (.cells #[.pointer none,.slice none 0 0] 122)).alloc (.cells #[.int .i64 A,.int .i64 N] 82):=⟨_,rfl⟩
 have hown:W2.ownsRow (w.heap.size+1) 82 2 (.slice (some ⟨w.heap.size+1,0,none⟩) 1 1) 1 [.int .i64 A,.int .i64 N]:=by
  refine⟨rfl,.inr ⟨w.heap.size+1,1,#[.int .i64 A,.int .i64 N],rfl,Nat.le_refl _,?_,Nat.le_refl _,by decide,rfl,rfl⟩⟩
  rw[hW2]
  have:=heap_alloc_new (w.alloc (.cells #[.pointer none,.slice none 0 0] 122)) (.cells #[.int .i64 A,.int .i64 N] 82)
  simpa using this
 have hb2:W2.heap[w.heap.size]?=some (.cells #[.pointer none,.slice none 0 0] 122):=by
  rw[hW2,Lib.alloc_old _ _ _ (by simp),heap_alloc_new]
 have hbl2:Below w.heap.size w W2:=by rw[hW2];exact((Below.refl _ w).alloc (Nat.le_refl _) _).alloc (by simp) _
 have hv2:PairsAt W2 v l:=by
  obtain⟨a,cap,e,h1,h2⟩:=hv
  refine⟨a,cap,e,h1,fun ad had=>?_⟩
  obtain⟨k1,k2⟩:=h2 ad had
  refine⟨fun h=>Nat.lt_of_lt_of_le (k1 h) hbl2.size,fun j u hj=>?_⟩
  have hne:l≠[]:=by rintro rfl;simp[cellsOf] at hj
  have hab:(ad.add j).block=ad.block:=by unfold Addr.add;split<;>rfl
  rw[hbl2.cell (p:=ad.add j) (by rw[hab];exact k1 hne)];exact k2 j u hj
 have hsz2:W2.heap.size=w.heap.size+2:=by rw[hW2];simp
 go_enter Tryd.func63,Tryd.ntmps63
 go_wp2_with (at_builtin;refine append_pairs rfl _ _ rfl (w.heap.size+1) _ _ rfl (hW2▸hown) v l rfl (hW2▸hv2) hlen (by simp) ?_)
 intro v' w1 hown1 hgrow
 rw[← hW2] at hgrow
 rcases hown1.2 with ⟨_,h0⟩ | ⟨g,cap',cur,rfl,hge,hg,hn,hcm,hcs,htk⟩
 ·omega
 have hb1:w1.heap[w.heap.size]?=some (.cells #[.pointer none,.slice none 0 0] 122):=by
  rw[hgrow.block _ (by omega) (by simp[Value.ownBlock])];exact hb2
 have h0:Lib.IsBuilderF 122 5 w.heap.size w.heap.size (Lib.byteCells []) w1:=Lib.IsBuilderF.of (Or.inl ⟨Nat.le_refl _,.slice none 0 0,hb1,World.ownsRow_nil _ _ _ _,by simp[Value.ownBlock]⟩)
 have hbl1:Below w.heap.size w w1:=hbl2.grown hgrow (by omega) (fun k hk=>by simp[Value.ownBlock] at hk;omega)
 clear hown1 hgrow hb1 hb2 hown hv2 hW2 hbl2 hsz2
 have hLl:(Live.mk A N::l).length=1+l.length:=by simp;omega
 have hget:∀ (i:Nat) x,(Live.mk A N::l)[i]?=some x→cur[i * 2]?=some (.int .i64 x.rule)∧cur[i * 2+1]?=some (.int .i64 x.zone):=fun i x hx=>by
  have hi:=(List.getElem?_eq_some_iff.1 hx).1
  have h1:=ut0 (Live.mk A N::l) i
  rw[hx] at h1
  have htk':List.take ((1+l.length) * 2) cur.toList=cellsOf (Live.mk A N::l):=htk
  rw[← htk',List.getElem?_take_of_lt (by omega),List.getElem?_take_of_lt (by omega)] at h1
  simpa using h1
 have hLi:∀ x∈Live.mk A N::l,IntOk x.rule∧IntOk x.zone:=fun x hx=>by
  rcases List.mem_cons.1 hx with rfl | hx
  ·exact⟨hA,hN⟩
  ·exact hints x hx
 generalize hL:Live.mk A N::l=L at *
 go_wp2
 go_loopw [17] (fun iv wr=>∃ i:Nat,iv=.int .i64 i∧i≤L.length∧Lib.IsBuilderF 122 5 w.heap.size w.heap.size (Lib.byteCells (txtZ (L.take i))) wr∧Below w.heap.size w wr∧wr.heap[g]?=some (.cells cur 82 (0,0)))
  (fun iv _=>L.length - (RowKit.intOf iv).toNat)
 case atStart=>exact⟨0,rfl,Nat.zero_le _,by simpa [txtZ] using h0,hbl1,hg⟩
 case round =>
  obtain⟨i,rfl,hi,hI,hnx,hgr⟩:=hrel
  have hsize:=hnx.size
  by_cases hlt:i<L.length
  ·obtain⟨x,hx⟩:∃ x,L[i]?=some x:=⟨L[i],by simp[hlt]⟩
   obtain⟨q0,q1⟩:=hget i x hx
   have hc0:wr.cell? ⟨g,i * 2,none⟩=some (.int .i64 x.rule):=by rw[Lib.cell_of_heap hgr];exact q0
   have hc1:wr.cell? ⟨g,i * 2+1,none⟩=some (.int .i64 x.zone):=by rw[Lib.cell_of_heap hgr];exact q1
   go_wp2_with fail
   have hxi:=hLi x (List.mem_of_getElem? hx)
   have htabr:=tab_on htab hnx
   have b0:Below wr.heap.size wr (wr.alloc (.cells #[.int .i64 x.rule,.int .i64 x.zone] 82)):=(Below.refl _ wr).alloc (Nat.le_refl _) _
   have ha:(wr.alloc (.cells #[.int .i64 x.rule,.int .i64 x.zone] 82)).heap[wr.heap.size]?=some (.cells #[.int .i64 x.rule,.int .i64 x.zone] 82):=heap_alloc_new wr _
   have hne9:wr.heap.size≠w.heap.size:=by have:=(Array.getElem?_eq_some_iff.1 hgr).1;omega
   have ha0:(wr.alloc (.cells #[.int .i64 x.rule,.int .i64 x.zone] 82)).cell? ⟨wr.heap.size,0,none⟩=some (.int .i64 x.rule):=by rw[Lib.cell_of_heap (heap_alloc_new wr _)];rfl
   have ha1:(wr.alloc (.cells #[.int .i64 x.rule,.int .i64 x.zone] 82)).cell? ⟨wr.heap.size,1,none⟩=some (.int .i64 x.zone):=by rw[Lib.cell_of_heap (heap_alloc_new wr _)];rfl
   have hxl:(txtP x).length≤1000:=by
    have h1:=Lib.itoa_length_le x.rule hxi.1.1 hxi.1.2
    have h2:=Lib.itoa_length_le x.zone hxi.2.1 hxi.2.2
    simp[txtP];omega
   have hpl:(txtP x).length=(Lib.itoa x.rule).length+1+(Lib.itoa x.zone).length+1:=by simp[txtP];omega
   have hcat1:¬ 9223372036854775807<(Lib.itoa x.rule).length+1:=by omega
   have hcat2:¬ 9223372036854775807<(Lib.itoa x.rule).length+1+(Lib.itoa x.zone).length:=by omega
   have hcat3:¬ 9223372036854775807<(Lib.itoa x.rule).length+1+(Lib.itoa x.zone).length+1:=by omega
   have hdata:(⟨(Lib.itoa x.rule).toArray⟩++⟨#[46]⟩++⟨(Lib.itoa x.zone).toArray⟩++⟨#[32]⟩:ByteArray).data.toList=txtP x:=by simp only[ByteArray.data_append];simp[txtP]
   have hstr:Lib.strCells (⟨(Lib.itoa x.rule).toArray⟩++⟨#[46]⟩++⟨(Lib.itoa x.zone).toArray⟩++⟨#[32]⟩)=Lib.byteCells (txtP x):=by rw[Lib.strCells_eq,hdata]
   have hsz:(⟨(Lib.itoa x.rule).toArray⟩++⟨#[46]⟩++⟨(Lib.itoa x.zone).toArray⟩++⟨#[32]⟩:ByteArray).size=(txtP x).length:=by rw[← Lib.strCells_length,hstr,Lib.byteCells_length]
   have htake:txtZ (L.take (i+1))=txtZ (L.take i)++txtP x:=by rw[List.take_add_one,hx];simp[txtZ]
   have hle:(txtZ (L.take i)).length+(txtP x).length≤140737488355328:=by
    have e:txtZ L=txtZ (L.take (i+1))++txtZ (L.drop (i+1)):=by rw[txtZ,txtZ,txtZ,← List.flatMap_append,List.take_append_drop]
    have:=congrArg List.length e
    rw[htake,List.length_append,List.length_append] at this
    omega
   go_region_held3 (fun w'=>w'.cell? ⟨wr.heap.size,0,none⟩=some (.int .i64 x.rule)∧w'.cell? ⟨wr.heap.size,1,none⟩=some (.int .i64 x.zone))
    (first | (refine⟨?_,?_⟩<;>first | go_keep | first | exact wi0 b0 | exact wy0 b0 _ | exact qv0 b0 _ _ | exact wi0 (qv0 b0 _ _) | exact wy0 (qv0 b0 _ _) _ | exact qv0 (qv0 b0 _ _) _ _ | exact wi0 (qv0 (qv0 b0 _ _) _ _) | exact wy0 (qv0 (qv0 b0 _ _) _ _) _ | exact fi0 ha0 _ _ | exact fi0 ha1 _ _ | exact fi0 (fi0 ha0 _ _) _ _ | exact fi0 (fi0 ha1 _ _) _ _ | exact cell_kept k4 (fc0 (fc0 ha _ _) _ _) hne9 (by decide) rfl | exact cell_kept k4 (fc0 (fc0 ha _ _) _ _:(World.drew _).heap[_]?=_) hne9 (by decide) rfl))
    (first | (go_at_call 68;refine(Tryd.strconv_Itoa _ (by first | exact hxi.1.1 | exact hxi.2.1) (by first | exact hxi.1.2 | exact hxi.2.2) _ (tab_on htabr (by first | exact wi0 b0 | exact wy0 b0 _ | exact qv0 b0 _ _ | exact wi0 (qv0 b0 _ _) | exact wy0 (qv0 b0 _ _) _ | exact qv0 (qv0 b0 _ _) _ _ | exact wi0 (qv0 (qv0 b0 _ _) _ _) | exact wy0 (qv0 (qv0 b0 _ _) _ _) _))).mono ?_;rintro e w3 ⟨rfl,k,os,rfl⟩) | (go_at_call 67;refine(Tryd.gl0 w.heap.size w.heap.size _ _ _ (pc0 hI (Below.block (by first | exact wi0 b0 | exact wy0 b0 _ | exact qv0 b0 _ _ | exact wi0 (qv0 b0 _ _) | exact wy0 (qv0 b0 _ _) _ | exact qv0 (qv0 b0 _ _) _ _ | exact wi0 (qv0 (qv0 b0 _ _) _ _) | exact wy0 (qv0 (qv0 b0 _ _) _ _) _))) (by rw[Lib.byteCells_length,hsz];exact hle) (Nat.le_trans hsize (Below.size (by first | exact wi0 b0 | exact wy0 b0 _ | exact qv0 b0 _ _ | exact wi0 (qv0 b0 _ _) | exact wy0 (qv0 b0 _ _) _ | exact qv0 (qv0 b0 _ _) _ _ | exact wi0 (qv0 (qv0 b0 _ _) _ _) | exact wy0 (qv0 (qv0 b0 _ _) _ _) _)))).mono ?_;rintro e w4 ⟨rfl,h4,b4,k4⟩))
   go_wp2
   go_roundw
   case rel =>
    refine⟨i+1,by go_num,by omega,?_,?_,?_⟩
    ·rw[htake,Lib.byteCells_append,← hstr];exact Or.inr h4
    ·exact(below_w hnx (by first | exact qv0 (qv0 b0 _ _) _ _ | exact wi0 (qv0 (qv0 b0 _ _) _ _))).trans b4
    ·refine k4 g _ ?_ (by simp;omega) (fun c' fz e'=>by cases e')
     have hg0:(wr.alloc (.cells #[.int .i64 x.rule,.int .i64 x.zone] 82)).heap[g]?=some (.cells cur 82 (0,0)):=by
      rw[Lib.alloc_old _ _ _ (Array.getElem?_eq_some_iff.1 hgr).1];exact hgr
     exact fc0 (fc0 hg0 _ _) _ _
   case measure=>simp[RowKit.intOf];omega
  ·have hil:i=L.length:=by omega
   subst hil
   rw[List.take_length] at hI
   go_wp2_with (go_at_call 70;refine(Tryd.Builder_String_any_f w.heap.size w.heap.size _ _ hI hsize).mono ?_)
   rintro e w4 ⟨rfl,_,b4⟩
   go_wp2
   go_ret
   subst hL
   exact⟨rfl,hnx.trans b4⟩
noncomputable def vLLive : List Live→SV:=fun x=>.d (.sl (W eLive x))
theorem ok63 : okFn Tryd.prog 63=true:=by kernel_rfl
theorem verify_key_R {P:Program}(hP:P=Tryd.prog)(a n:Int)(l:List Live)(r:ByteArray)(h:verify_key_g a n l=some r):Fn1 P 63 [vIi64 a,vIi64 n,vLLive l] (vS r):=by
 subst hP
 unfold verify_key_g at h
 split at h
 ·rename_i hok
  cases h
  refine⟨ok63,fun c w us hS hr=>?_⟩
  obtain⟨u0,us0,rfl,hu0,hr⟩:=zg0.zr0.1 hr
  obtain⟨u1,us1,rfl,hu1,hr⟩:=zg0.zr0.1 hr
  obtain⟨u2,us2,rfl,hu2,hr⟩:=zg0.zr0.1 hr
  obtain rfl:=zg0.yt0.1 hr
  obtain rfl:=hu0.qw0
  obtain rfl:=hu1.qw0
  cases hu2 with | d hrep =>
  refine(key_walk a n l u2 w (pairsAt_of hS.le hrep) hok (tab_is hS)).mono ?_
  rintro e w' ⟨rfl,hb⟩
  have hle:=Cx.le.refl c
  have hS':Sat c [] w':=hS.on hle rfl hS.one (fun b hb'=>hb.block b hb') (fun b o hb'=>by rw[hb.block b (hS.F_lt hb')];exact hS.le b o hb') (fun b hb'=>.inl hb')
  exact⟨c,[],_,_,rfl,.d (.val _ rfl),hS',hle,⟨hb.os,hb.tape,hb.output,hb.size,fun b hb' _=>hb.block b hb',fun b hb'=>.inl hb',fun b hb'=>.inl hb',fun _ _ h=>h⟩,rfl⟩
 ·cases h
end Go.SX.Td
namespace Go.SX.Td
open Go Go.SX Go.Proofs
set_option maxRecDepth 100000
noncomputable def tkid_l4 (x1:Node)(v:Int):Int→Option ((Int) ⊕ ((Unit) ⊕ (Int)))
 | v3 =>
 bif (io.lt v3 (io.len (W eIi64 x1.Cuts))) then (
 Option.bind (
 Option.bind (idxG x1.Cuts v3) fun x5 =>
 some (io.lt v x5)
 ) fun v4 =>
 bif v4 then (
 some (.inr (.inr v3))
 ) else (
 some (.inl (io.ar .add .i64 v3 1))
 )
 ) else (
 some (.inr (.inl ()))
 )
noncomputable def tkid_b (rules:(List Rule))(nodes:(List Node))(leaves:(List Decision))(limits:(A10 Range))(node:Int)(v:Int)(facts:(A10 Int))(equal:(List (ByteArray×Bool))):Option (Int) :=
 Option.bind (idxG nodes node) fun x1 =>
 Option.bind (
 orR (
 whileG (tkid_l4 x1 v) 0
 ) fun _ =>
 some (-1)
 ) fun k2 =>
 Option.bind (
 bif (io.lt k2 0) then (
 some (io.len (W eIi64 x1.Cuts))
 ) else (
 some k2
 )
 ) fun k6 =>
 Option.bind (idxG x1.Kids k6) fun x7 =>
 some x7
end Go.SX.Td
namespace Go.SX.Td
open Go Go.SX Go.Proofs Go.RowKit Go.Sort
theorem ok57 : okFn Tryd.prog 57=true:=by kernel_rfl
noncomputable def sortL (l:List Int):List Int:=l.mergeSort fun x y=>decide (x≤y)
theorem ky0 (l:List Int):(sortL l).length=l.length:=by simp[sortL]
noncomputable def sortG (l:List Int):Option (List Int):=if l.length≤1000000000 then some (sortL l) else none
theorem WI_flat (l:List Int):(W eIi64 l).flatten=l.map fun n=>D.val (.int .i64 n):=by
 rw[dl0]
 induction l with
 | nil=>rfl
 | cons a l ih=>simp only[List.map_cons,List.flatten_cons,ih];rfl
theorem WI_len (l:List Int):∀ ds∈W eIi64 l,ds.length=1:=by
 rw[dl0];intro ds hd
 simp only[List.mem_map] at hd
 obtain⟨x,_,rfl⟩:=hd;rfl
theorem slices_Sort_R {P:Program}(hP:P=Tryd.prog)(l r:List Int)(h:sortG l=some r) :
  SCall P 57 [.row 3 1 (W eIi64 l)] [.hd 0] (fun sv own'=>sv=.tup []∧own'=[.row 3 1 (W eIi64 r)]):=by
 subst hP
 unfold sortG at h
 split at h
 ·rename_i hl
  cases h
  refine⟨ok57,fun c w us hS hr=>?_⟩
  obtain⟨u,us',rfl,hu,hn⟩:=zg0.zr0.1 hr
  obtain rfl:=zg0.yt0.1 hn
  cases hu with | hd hr0 hθ =>
  obtain⟨hd1,xs,⟨hxl,hv⟩,hc⟩:=hS.res 0 _ rfl
  rw[hθ] at hv
  rcases hv with ⟨rfl,h0⟩ | ⟨g,cap,cur,rfl,_,hb,hle,hm,hcs,htake⟩
  ·have hl0:l=[]:=by rw[ja0] at h0;exact List.eq_nil_of_length_eq_zero h0
   subst hl0
   refine(Tryd.slices_Sort_int_none none 0 w).mono ?_
   rintro e w' ⟨rfl,rfl⟩
   exact⟨c,_,.tup [],_,rfl,.tup rfl (fun i s u hs=>by simp at hs),hS,.refl c,.refl c _ _,rfl,by simp[sortL]⟩
  ·have hwl:(W eIi64 l).length=l.length:=ja0 _ _
   have hcell:∀ j,j<l.length→cur[j]?=some (.int .i64 (l[j]?.getD 0)):=fun j hj=>by
    obtain⟨u,h1,h2⟩:=hc j (.val (.int .i64 l[j])) (by rw[WI_flat];simp[hj])
    obtain⟨rfl,_⟩:=Rep.kz0.1 h2
    rw[← htake,List.getElem?_take] at h1
    split at h1
    ·rw[Array.getElem?_toList] at h1;rw[h1];simp[hj]
    ·cases h1
   have hH:Holds (Value.int .i64) w g 0 l.toArray:=fun j hj=>by
    have hj':j<l.length:=by simpa using hj
    refine⟨?_,?_⟩
    ·simp only[World.cell?,hb,Nat.zero_add,hcell j hj']
     simp[hj']
    ·simp[World.frozen?,hb]
   have hblk:g<w.heap.size:=(Array.getElem?_eq_some_iff.1 hb).1
   have:=Tryd.slices_Sort_int g 0 cap l w hH hblk (by omega)
   rw[← hwl] at this
   refine this.mono ?_
   rintro e w' ⟨rfl,n,os,rfl⟩
   have hput:(putRow (Value.int .i64) (Go.Sort.ahead w n) g 0 (sortL l).toArray).heap[g]?=some (.cells (putCells (Value.int .i64) 0 (sortL l).toArray cur) 3 (0,0)):=by
    simp only[putRow,mapBlock,Go.Sort.ahead,Array.getElem?_modify,if_true,hb,Option.map_some];rfl
   have hoth:∀ k,k≠g→(putRow (Value.int .i64) (Go.Sort.ahead w n) g 0 (sortL l).toArray).heap[k]?=w.heap[k]?:=fun k hk=>by
    simp only[putRow,mapBlock,Go.Sort.ahead,Array.getElem?_modify,if_neg (Ne.symm hk)]
   have hsl:(sortL l).length=l.length:=ky0 l
   obtain⟨k1,k2⟩:=hS.update (w':=putRow (Value.int .i64) (Go.Sort.ahead w n) g 0 (sortL l).toArray) (x':=.row 3 1 (W eIi64 (sortL l))) (r:=0) rfl rfl rfl (by rw[hθ];rfl) rfl rfl rfl (by simp[putRow,mapBlock,Go.Sort.ahead]) hoth
    ⟨WI_len _,(sortL l).map (Value.int .i64),by
     rw[hθ]
     refine⟨by simp[ja0],.inr ⟨g,cap,_,by rw[ja0,ja0,hsl],Nat.zero_le _,hput,by rw[ja0,hsl,← hwl];exact hle,hm,by simp[putCells,hcs],?_⟩⟩
     apply List.ext_getElem?
     intro j
     rw[List.getElem?_take,ja0,hsl,List.getElem?_map]
     have hgs:l.length≤cur.size:=by rw[hcs];omega
     split
     ·rename_i hj
      have hjl:j<l.length:=by omega
      rw[Array.getElem?_toList]
      have hjs:j<(sortL l).length:=by omega
      have hjc:j<cur.size:=by omega
      simp[putCells,hjl,hjs,hjc,hsl]
     ·rename_i hj
      rw[List.getElem?_eq_none (by omega)];rfl,fun j d hj=>by
     rw[WI_flat,List.getElem?_map,Option.map_eq_some_iff] at hj
     obtain⟨z,hz,rfl⟩:=hj
     exact⟨.int .i64 z,by rw[List.getElem?_map,hz];rfl,.val _ rfl⟩⟩
   have hgrow:∀ b,b<(putRow (Value.int .i64) (Go.Sort.ahead w n) g 0 (sortL l).toArray).heap.size→(grow (putRow (Value.int .i64) (Go.Sort.ahead w n) g 0 (sortL l).toArray) os).heap[b]?=(putRow (Value.int .i64) (Go.Sort.ahead w n) g 0 (sortL l).toArray).heap[b]?:=fun b hb'=>by
    simp only[grow];rw[Array.getElem?_append_left hb']
   refine⟨c,[.row 3 1 (W eIi64 (sortL l))],.tup [],_,rfl,.tup rfl (fun i s u hs=>by simp at hs),?_,.refl c,k2.trans ⟨rfl,rfl,rfl,by simp[grow],fun b hb' _=>hgrow b hb',fun _ hb=>.inl hb,fun _ hb=>.inl hb,fun _ _ hb=>hb⟩,rfl,rfl⟩
   exact k1.on (.refl c) rfl k1.one hgrow (fun b x hb'=>(hgrow b (k1.F_lt hb')).trans (k1.le b x hb')) (fun b hb=>.inl hb)
 ·cases h
end Go.SX.Td
