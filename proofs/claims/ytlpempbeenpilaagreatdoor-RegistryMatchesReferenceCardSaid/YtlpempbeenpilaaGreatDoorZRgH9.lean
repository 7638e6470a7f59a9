/- Parts of the proof. -/
import Derived.Test.YtlpempbeenpilaaGreatDoorZRgH8
import Derived.Test.YtlpempbeenpilaaGreatDoorZRg46d
import Derived.Test.YtlpempbeenpilaaGreatDoorZRg30d
import Derived.Test.YtlpempbeenpilaaGreatDoorZRg44d
import Derived.Deep.MidRow
set_option linter.unusedSimpArgs false
set_option linter.unusedVariables false
set_option linter.unusedSectionVars false
set_option linter.unusedVariables false
namespace Go.SX.Rg
open Go Go.SX Go.Proofs Go.RowKit Go.Sort Go.Shelf
attribute [local go_sem] Oper.semAt_some
structure StepsAt (w:World)(a:Option Addr)(Bs b off n cap:Nat)(i0 i1 i2:Int)(s3:ByteArray)(to:Nat→ByteArray)(sa:Nat→Option Addr)(sn sc:Nat→Nat):Prop where
 box:w.heap[Bs]?=some (.cells #[.int .i64 i0,.int .i64 i1,.int .i64 i2,.string s3,.slice a n cap] 35)
 lt:0<n→b<w.heap.size
 a:0<n→a=some ⟨b,off,none⟩
 to:∀ k,k<n→w.cell? ⟨b,off+k * 2,none⟩=some (.string (to k))
 sg:∀ k,k<n→w.cell? ⟨b,off+k * 2+1,none⟩=some (.slice (sa k) (sn k) (sc k))
def stepVals (b off cap:Nat)(i0 i1 i2:Int)(s3:ByteArray)(to:Nat→ByteArray)(sa:Nat→Option Addr)(sn sc:Nat→Nat)(n:Nat)(x:_root_.Fin n):Array Value:=#[.agg #[.int .i64 i0,.int .i64 i1,.int .i64 i2,.string s3,.slice (some ⟨b,off,none⟩) x.val cap],.agg #[.string (to x.val),.slice (sa x.val) (sn x.val) (sc x.val)]]
def finN (n k:Nat):List (_root_.Fin n):=(List.finRange n).take k
theorem finN_succ {n k:Nat}(h:k<n):finN n (k+1)=finN n k++[⟨k,h⟩]:=by
 unfold finN;rw[List.take_add_one,List.getElem?_eq_getElem (by simpa using h)];simp
set_option maxRecDepth 100000 in
set_option maxHeartbeats 2000000 in
theorem steps1_in (a:Option Addr)(Bs b off N cap:Nat)(i0 i1 i2:Int)(s3:ByteArray)(to:Nat→ByteArray)(sa:Nat→Option Addr)(sn sc:Nat→Nat)(hcap:0<N→N≤cap)(hN:N≤140737488355328)(n l n₀:Nat)(hn:2≤n)(J Jx:List (_root_.Fin N)→World→Prop)
  (hY:∀ pre x W,J pre W→pre.length<N→YieldAt Fence.wide (n - 1) Tryz.prog l (stepVals b off cap i0 i1 i2 s3 to sa sn sc N x) W fun e W' =>
   (e=.returned (.bool true)∧J (pre++[x]) W'∧KpB n₀ Bs W W')∨(e=.returned (.bool false)∧Jx (pre++[x]) W'))
  (W:World) (hJ:AbidesFrom W.heap.size J) (hBs:StepsAt W a Bs b off N cap i0 i1 i2 s3 to sa sn sc) (hb0:0<N→b<n₀) (hn0:n₀≤W.heap.size) (h0:J [] W) :
  CallsIn Fence.wide n Tryz.prog 107 #[.func (.yield l) #[] #[],.pointer (some ⟨Bs,0,none⟩)] W fun e W'=>(∃ v,e=.returned v) ∧
   ((∃ ys,ys=List.finRange N∧J ys W')∨(∃ pre,True∧Jx pre W')):=by
 refine callsIn_of_wp Tryz.func107 rfl trivial ?_ rfl
 simp only[Tryz.ntmps107,List.size_toArray,List.length_cons,List.length_nil,Nat.reduceAdd,Nat.reduceSub,Array.replicate_succ,Array.replicate_zero,List.push_toArray,List.append_toArray,List.nil_append,List.cons_append]
 have hc4:W.cell? ⟨Bs,4,none⟩=some (.slice a N cap):=cell_at hBs.box rfl
 gi_wp2
 gi_loopw [9] (fun i wr=>∃ k:Nat,k≤N∧i=.int .i64 k∧J (finN N k) wr∧KpB n₀ Bs W wr)
  (fun i _=>N - (RowKit.intOf i).toNat)
 case atStart=>exact⟨0,Nat.zero_le _,rfl,h0,Below.refl _ _,rfl⟩
 case round =>
  obtain⟨k,hk,rfl,hJs,hnx,hbk⟩:=hrel
  have hA:StepsAt wr a Bs b off N cap i0 i1 i2 s3 to sa sn sc:=⟨hbk.trans hBs.box,fun h=>Nat.lt_of_lt_of_le (hBs.lt h) hnx.size,hBs.a,fun k hk=>(World.cell?_of_block (hnx.block b (hb0 (by omega)))).trans (hBs.to k hk),fun k hk=>(World.cell?_of_block (hnx.block b (hb0 (by omega)))).trans (hBs.sg k hk)⟩
  by_cases hlt:k<N
  ·have hlt':(k:Int)<N:=by omega
   obtain rfl:=hBs.a (by omega)
   have hcap:=hcap (by omega)
   have hc0:wr.cell? ⟨Bs,0,none⟩=some (.int .i64 i0):=cell_at hA.box rfl
   have hc1:wr.cell? ⟨Bs,1,none⟩=some (.int .i64 i1):=cell_at hA.box rfl
   have hc2:wr.cell? ⟨Bs,2,none⟩=some (.int .i64 i2):=cell_at hA.box rfl
   have hc3:wr.cell? ⟨Bs,3,none⟩=some (.string s3):=cell_at hA.box rfl
   have hc4':wr.cell? ⟨Bs,4,none⟩=some (.slice (some ⟨b,off,none⟩) N cap):=cell_at hA.box rfl
   have hblt:Bs<wr.heap.size:=(Array.getElem?_eq_some_iff.1 hA.box).1
   have hup:∀ (o:Obj)(i:Nat)(v:Value),wr.cell? ⟨Bs,i,none⟩=some v→(wr.alloc o).cell? ⟨Bs,i,none⟩=some v:=fun o i v h=>(World.cell?_of_block (a:=⟨Bs,i,none⟩) (Below.heap_alloc _ _ _ hblt)).trans h
   have hup2:∀ (o o':Obj)(i:Nat)(v:Value),wr.cell? ⟨Bs,i,none⟩=some v→((wr.alloc o).alloc o').cell? ⟨Bs,i,none⟩=some v:=fun o o' i v h=>(World.cell?_of_block (a:=⟨Bs,i,none⟩) (Below.heap_alloc _ _ _ (by simp;omega))).trans (hup o i v h)
   have hd0:=hup (.cells #[.string (to k),.slice (sa k) (sn k) (sc k)] 46) 0 _ hc0
   have hd1:=hup (.cells #[.string (to k),.slice (sa k) (sn k) (sc k)] 46) 1 _ hc1
   have hd2:=hup (.cells #[.string (to k),.slice (sa k) (sn k) (sc k)] 46) 2 _ hc2
   have hd3:=hup (.cells #[.string (to k),.slice (sa k) (sn k) (sc k)] 46) 3 _ hc3
   have hd4:=hup (.cells #[.string (to k),.slice (sa k) (sn k) (sc k)] 46) 4 _ hc4'
   have he4:=hup2 (.cells #[.string (to k),.slice (sa k) (sn k) (sc k)] 46) (.cells #[.int .i64 i0,.int .i64 i1,.int .i64 i2,.string s3,.slice (some ⟨b,off,none⟩) N cap] 35) 4 _ hc4'
   have ht:=hA.to k hlt
   have hs:=hA.sg k hlt
   obtain⟨w4,hw4⟩:∃ w4,w4=(wr.alloc (.cells #[.string (to k),.slice (sa k) (sn k) (sc k)] 46)).alloc (.cells #[.int .i64 i0,.int .i64 i1,.int .i64 i2,.string s3,.slice (some ⟨b,off,none⟩) k cap] 35):=⟨_,rfl⟩
   have hwr:wrap64 ((k:Int)+1)=(k:Int)+1:=by unfold wrap64;omega
   have hb4:Below wr.heap.size wr w4:=by rw[hw4];exact((Below.refl _ wr).alloc (Nat.le_refl _) _).alloc (by simp) _
   obtain⟨fn,tmps,assign,body,hy,hR⟩:=hY (finN N k) ⟨k,hlt⟩ w4 (hJ _ _ _ none hJs (below_grownBy hb4) (fun r e=>by cases e)) (by rw[finN,List.length_take];simp;omega)
   have hk4:KpB n₀ Bs wr w4:=KpB.of hb4 (by have:=hnx.size;omega) hblt
   rw[hw4] at hy
   dsimp only[stepVals] at hy
   gi_wp2
   rw[hw4] at hR
   refine⟨fun _=>by omega,hR.mono ?_⟩
   rintro e W3 hW3
   obtain⟨bb,rfl,hyes,hno⟩:=ret_bool hW3
   cases bb
   all_goals gi_wp2
   case roundEnd =>
    (obtain⟨hJ3,hk3⟩:=hyes (by first | exact trivial | rfl);rw[← hw4] at hk3;exact⟨⟨k+1,by omega,rfl,by rw[finN_succ hlt];exact hJ3,((KpB.trans ⟨hnx,hbk⟩ hk4).trans hk3)⟩,by simp only[RowKit.intOf];omega⟩)
   all_goals refine bodyPost_ret (results_none rfl _ _ _) rfl ?_
   all_goals exact⟨⟨_,rfl⟩,.inr ⟨_,trivial,by first | exact hno trivial | exact hno rfl⟩⟩
  ·obtain rfl:k=N:=by omega
   gi_wp2
   go_end0
   exact⟨⟨_,rfl⟩,.inl ⟨_,rfl,by have:=hJs;unfold finN at this;rwa [List.take_of_length_le (by simp)] at this⟩⟩
theorem steps_stops (a:Option Addr)(Bs b off N cap:Nat)(i0 i1 i2:Int)(s3:ByteArray)(to:Nat→ByteArray)(sa:Nat→Option Addr)(sn sc:Nat→Nat)(hcap:0<N→N≤cap)(hN:N≤140737488355328)(n n₀:Nat)(hn:2≤n)(w:World)
  (hBs:StepsAt w a Bs b off N cap i0 i1 i2 s3 to sa sn sc) (hb0:0<N→b<n₀) (hn0:n₀≤w.heap.size) :
  SeqStopsK Fence.wide n Tryz.prog 107 #[.pointer (some ⟨Bs,0,none⟩)] (stepVals b off cap i0 i1 i2 s3 to sa sn sc N) (KpB n₀ Bs) (fun ys=>ys=List.finRange N) (fun _=>True) N w:=fun l J Jx W hW hJ _ hY h0 =>
 steps1_in a Bs b off N cap i0 i1 i2 s3 to sa sn sc hcap hN n l n₀ hn J Jx hY W hJ
  ⟨(hW.block Bs (Array.getElem?_eq_some_iff.1 hBs.box).1).trans hBs.box,fun h=>Nat.lt_of_lt_of_le (hBs.lt h) hW.size,hBs.a,fun k hk=>(World.cell?_of_block (hW.block b (hBs.lt (by omega)))).trans (hBs.to k hk),fun k hk=>(World.cell?_of_block (hW.block b (hBs.lt (by omega)))).trans (hBs.sg k hk)⟩
  hb0 (Nat.le_trans hn0 hW.size) h0
theorem rep_take {F:Fz}{a:Option Addr}{n cap:Nat}{es:List (List D)}(h:Rep F (.slice a n cap) (.sl es)){k:Nat}(hk:k≤es.length)(ha:a≠none):Rep F (.slice a k cap) (.sl (es.take k)):=by
 rcases Nat.eq_zero_or_pos k with rfl | hp
 ·exact .nil a cap fun e=>absurd e ha
 ·cases h with
  | nil=>simp at hk;omega
  | sl b off cap c e fr es sz g hF hcap hsz hc hr =>
   have hl:(es.take k).length=k:=by rw[List.length_take];omega
   have:=Rep.sl b off cap c e fr (es.take k) sz g hF (by omega) (fun i ds hi=>hsz i ds (by rw[List.getElem?_take] at hi;split at hi;exact hi;cases hi)) (fun i ds j d hi hj=>hc i ds j d (by rw[List.getElem?_take] at hi;split at hi;exact hi;cases hi) hj) (fun i ds j d hi hj=>hr i ds j d (by rw[List.getElem?_take] at hi;split at hi;exact hi;cases hi) hj)
   rw[hl] at this
   exact this
theorem W_take {α:Type}(e:α→List D)(l:List α)(k:Nat):(W e l).take k=W e (l.take k):=by rw[W_eq,W_eq,List.map_take]
theorem chain_inv {F:Fz}{u:Value}{ch:List Transfer}(h:Rep F u (.sl (W eTransfer ch))):∃ a cap,u=.slice a ch.length cap∧(0<ch.length→ch.length≤cap∧∃ (b off:Nat)(cs:Array Value)(e:TypeId)(fr:Nat×Nat)(sa:Nat→Option Addr)(sn sc:Nat→Nat),a=some ⟨b,off,none⟩∧F b=some (.cells cs e fr) ∧
  ∀ k (x:Transfer),ch[k]?=some x→cs[off+k * 2]?=some (.string x.To)∧cs[off+k * 2+1]?=some (.slice (sa k) (sn k) (sc k))∧Rep F (.slice (sa k) (sn k) (sc k)) (.sl (W eS x.Sig))):=by
 have hlen:(W eTransfer ch).length=ch.length:=W_len _ _
 generalize hd:D.sl (W eTransfer ch)=d at h
 cases h with
 | val v h=>cases hd
 | nil a cap h =>
  injection hd with hd
  have h0:ch=[]:=by rw[hd] at hlen;exact List.eq_nil_of_length_eq_zero hlen.symm
  subst h0
  exact⟨a,cap,rfl,fun h=>absurd h (Nat.lt_irrefl 0)⟩
 | sl b off cap c e fr es sz g hb hcap hsz hc hr =>
  injection hd with hd
  subst hd
  refine⟨some ⟨b,off,none⟩,cap,by rw[hlen],fun hp=>⟨by omega,b,off,c,e,fr,fun k=>match g k 1 with | .slice a _ _=>a | _=>none,fun k=>match g k 1 with | .slice _ n _=>n | _=>0,fun k=>match g k 1 with | .slice _ _ c=>c | _=>0,rfl,hb,fun k x hk=>?_⟩⟩
  have hes:(W eTransfer ch)[k]?=some [.val (.string x.To),.sl (W eS x.Sig)]:=by rw[W_eq,List.getElem?_map,hk];rfl
  have h1:=hsz k _ hes
  simp at h1
  subst h1
  have h2:=hc k _ 0 _ hes rfl
  have h3:=hr k _ 0 _ hes rfl
  have h4:=hc k _ 1 _ hes rfl
  have h5:=hr k _ 1 _ hes rfl
  obtain⟨h3,_⟩:=Rep.val_iff.1 h3
  rw[h3] at h2
  obtain⟨a',n',c',h6⟩:∃ a' n' c',g k 1=.slice a' n' c':=by
   generalize g k 1=v at h5
   generalize W eS x.Sig=z at h5
   cases h5 with
   | nil a cap h=>exact⟨_,_,_,rfl⟩
   | sl=>exact⟨_,_,_,rfl⟩
  rw[h6] at h4 h5
  simp only[h6]
  exact⟨by simpa using h2,h4,h5⟩
end Go.SX.Rg
set_option linter.unusedVariables false
namespace Go.SX.Rg
open Go Go.SX Go.Proofs Go.RowKit Go.Sort Go.Shelf
attribute [local go_sem] Oper.semAt_some
noncomputable def stepG (t:Title)(x:Transfer):Option Bool :=
 (title_used_g t x.To).bind fun b=>bif b then some true else (title_Owner_g t).bind fun o=>(title_Message_g t x.To).bind fun m=>(sign_Verify_g o m x.Sig).bind fun v=>some (io.not v)
def c41r4 : List GOp:=[
 ⟨(some 3),.alloc 35 (.agg #[(.int .i64 0),(.int .i64 0),(.int .i64 0),(.string ⟨#[]⟩),(.slice none 0 0)]),none⟩,
 ⟨none,.store 5 (.tmp 3) (.tmp 10),none⟩]
def c41r5 : List GOp:=[
 ⟨(some 4),.alloc 46 (.agg #[(.string ⟨#[]⟩),(.slice none 0 0)]),none⟩,
 ⟨none,.store 2 (.tmp 4) (.tmp 11),none⟩]
def c41r6 : List GOp:=[
 ⟨(some 12),.load 5 true (.tmp 3),none⟩,
 ⟨(some 13),.fadd 0 (.tmp 4),none⟩,
 ⟨(some 14),.load 1 false (.tmp 13),none⟩,
 ⟨(some 15),.call 58 [(.tmp 12),(.tmp 14)],none⟩,
 ⟨(some 16),.mv (.tmp 15),none⟩,
 ⟨(some 17),.load 5 true (.tmp 3),some (16,false)⟩,
 ⟨(some 18),.call 35 [(.tmp 17)],some (16,false)⟩,
 ⟨(some 19),.load 5 true (.tmp 3),some (16,false)⟩,
 ⟨(some 20),.fadd 0 (.tmp 4),some (16,false)⟩,
 ⟨(some 21),.load 1 false (.tmp 20),some (16,false)⟩,
 ⟨(some 22),.call 36 [(.tmp 19),(.tmp 21)],some (16,false)⟩,
 ⟨(some 23),.fadd 1 (.tmp 4),some (16,false)⟩,
 ⟨(some 24),.load 1 false (.tmp 23),some (16,false)⟩,
 ⟨(some 25),.call 74 [(.tmp 18),(.tmp 22),(.tmp 24)],some (16,false)⟩,
 ⟨(some 26),.un .not (.tmp 25),some (16,false)⟩,
 ⟨(some 27),.pick (.tmp 16) (.const (.bool true)) (.tmp 26),none⟩]
noncomputable def vEnv0 (R:Nat)(t:Title)(x:Transfer):List SV:=[.top,.top,.d (.val (.pointer (some ⟨R,0,none⟩))),.top,.top,.top,.top,.top,.top,.top,vTitle t,.agg [.d (.val (.string x.To)),.d (.sl (W eS x.Sig))],.top,.top,.top,.top,.top,.top,.top,.top,.top,.top,.top,.top,.top,.top,.top,.top]
noncomputable def vEnv1 (R:Nat):List SV:=[.top,.top,.d (.val (.pointer (some ⟨R,0,none⟩))),.ptr 0 0,.ptr 1 0,.top,.top,.top,.top,.top,.top,.top,.top,.top,.top,.top,.top,.top,.top,.top,.top,.top,.top,.top,.top,.top,.top,.top]
noncomputable def vOwn (t:Title)(x:Transfer):List Res:=[.cells [.d (.val (.int .i64 t.Serial)),.d (.val (.int .i64 t.Show)),.d (.val (.int .i64 t.Place)),.d (.val (.string t.First)),.d (.sl (W eTransfer t.Chain))] 35,.cells [.d (.val (.string x.To)),.d (.sl (W eS x.Sig))] 46]
theorem valid_assign (P:Program)(R:Nat)(t:Title)(x:Transfer)(K:List SV→List Res→Prop)(hK:∀ env own,StLe 0 env own (vEnv1 R) (vOwn t x)→K env own):run P c41r4 (vEnv0 R t x) [] fun env own=>run P c41r5 env own K:=by
 simp only[← runE_eq]
 unfold c41r4 c41r5 vEnv0
 cbv
 refine hK _ _ (.mtE [0,1] ?_)
 cbv
 repeat (refine⟨by first | rfl | exact W_nil _ | simp only[W_nilx] | simp only[WM_nilx],?_⟩;cbv)
theorem valid_round {P:Program}(hP:P=Tryz.prog)(R:Nat)(t:Title)(x:Transfer)(b:Bool)(h:stepG t x=some b)(K:List SV→Prop)(hK:∀ env':List SV,env'[27]?=some (.d (.val (.bool b)))→env'[2]?=some (.d (.val (.pointer (some ⟨R,0,none⟩))))→K env'):runF P c41r6 (vEnv1 R) (vOwn t x) K:=by
 unfold stepG at h
 obtain⟨b1,h1,h⟩:=Option.bind_eq_some_iff.1 h
 rw[← runFE_eq]
 unfold c41r6 vEnv1 vOwn
 cbv
 refine .f1 (title_used_R hP _ _ _ h1) rfl rfl ?_
 cases b1 with
 | true =>
  obtain rfl:=Option.some.inj h
  cbv
  exact hK _ rfl rfl
 | false =>
  obtain⟨o,h2,h⟩:=Option.bind_eq_some_iff.1 h
  obtain⟨m,h3,h⟩:=Option.bind_eq_some_iff.1 h
  obtain⟨v,h4,h⟩:=Option.bind_eq_some_iff.1 h
  obtain rfl:=Option.some.inj h
  cbv
  refine .f1 (title_Owner_R hP _ _ h2) rfl rfl ?_
  cbv
  refine .f1 (title_Message_R hP _ _ _ h3) rfl rfl ?_
  cbv
  refine .f1 (sign_Verify_R hP _ _ _ _ h4) rfl rfl ?_
  cbv
  exact hK _ rfl rfl
theorem vOwn_flat {t:Title}{x:Transfer}:∀ y∈vOwn t x,y.flat=true:=by
 intro y hy
 simp only[vOwn,List.mem_cons,List.not_mem_nil,or_false] at hy
 rcases hy with rfl | rfl<;>rfl
theorem vEnv0_ok {c:Cx}{R:Nat}{t:Title}{x:Transfer}{u v v0 v1 v5 v6 v7 v8 v9:Value}(hu:Rel c (vTitle t) u)(hv:Rel c (.agg [.d (.val (.string x.To)),.d (.sl (W eS x.Sig))]) v) :
  EnvOk c (vEnv0 R t x) { tmps:=#[v0,v1,.pointer (some ⟨R,0,none⟩),undef,undef,v5,v6,v7,v8,v9,u,v,undef,undef,undef,undef,undef,undef,undef,undef,undef,undef,undef,undef,undef,undef,undef,undef],defers:=[] }:=by
 refine⟨rfl,fun j sv z hj hz=>?_⟩
 match j with
 | 2=>cases hj;cases hz;exact .d (.val _ rfl)
 | 10=>cases hj;cases hz;exact hu
 | 11=>cases hj;cases hz;exact hv
 | 0 | 1 | 3 | 4 | 5 | 6 | 7 | 8 | 9 | 12 | 13 | 14 | 15 | 16 | 17 | 18 | 19 | 20 | 21 | 22 | 23 | 24 | 25 | 26 | 27=>cases hj;exact .top _
 | j+28=>cases hj
theorem zip_two (u v:Value)(ts:Array Value):(#[10,11].zip #[u,v]).foldl (fun t x=>match x with | (p,v)=>t.setIfInBounds p v) ts=(ts.setIfInBounds 10 u).setIfInBounds 11 v:=by
 simp
theorem list_store_bool {ops:Array Oper}{o:Oper}{a:Act}{w:World}{Q:Exit→Act→World→Prop}(hgd:o.guard=none)(x:Operand)(v old:Bool)(ho:o.op=.store 4 x (.const (.bool v)))
  (g:Nat) (hx:a.eval x=.pointer (some ⟨g,0,none⟩)) (hg:w.heap[g]?=some (.cells #[.bool old] 4)) (h:Q .normal (a.put o.dst undef) (w.setRow g #[.bool v])):wpList Tryz.prog ops Q [o] a w:=by
 refine wpList_plain hgd fun K hK=>?_
 have h1:=run_storeCells_from (P:=Tryz.prog) g 4 [.bool v] 0 #[.bool old] w hg rfl (fun x hx=>by simp at hx;subst hx;rfl)
 have h2:(storeVar 4 ⟨g,0,none⟩ (.bool v)).run Tryz.prog w=.ok () (w.setRow g #[.bool v]):=by
  have hi:(Tryz.prog.info? 4).map (·.size)=some 1:=by kernel_rfl
  cases hq:Tryz.prog.info? 4 with
  | none=>simp[hq] at hi
  | some i =>
   have hs:i.size=1:=by simpa [hq] using hi
   simp only[List.take_zero,List.nil_append] at h1
   simp[storeVar,sizeOf,typeInfo,hq,Value.cells,hs,h1]
 have hy:a.eval (.const (.bool v))=.bool v:=rfl
 unfold Oper.wp execOp
 simp only[ho,hx,hy,Instr.storeAt,Instr.sureAddr,Sem.run_bind,Sem.run_pure,Result.andThen_ok,h2]
 exact hK _ _ (wpList_nil h)
theorem steps_in (i0 i1 i2:Int)(s3:ByteArray)(a:Option Addr)(n cap:Nat)(w:World):Calls Tryz.prog 73 #[.agg #[.int .i64 i0,.int .i64 i1,.int .i64 i2,.string s3,.slice a n cap]] w fun e w' =>
  e=.returned (.func (.func 107) #[] #[.pointer (some ⟨w.heap.size,0,none⟩)])∧w'=w.alloc (.cells #[.int .i64 i0,.int .i64 i1,.int .i64 i2,.string s3,.slice a n cap] 35):=by
 go_enter Tryz.func73,Tryz.ntmps73
 go_wp2
 first | go_end0 | go_ret
 exact⟨rfl,rfl⟩
set_option maxRecDepth 100000 in
set_option maxHeartbeats 2000000 in
theorem valid_S (t:Title)(hlen:t.Chain.length≤1000000)(bd:Nat→Bool)(hb:∀ (k:Nat)(x:Transfer),t.Chain[k]?=some x→stepG { t with Chain:=t.Chain.take k } x=some (bd k))(hf:title_formed_g t=some true) :
  Fn1 Tryz.prog 41 [vTitle t] (vB ((List.range t.Chain.length).all fun k=>!bd k)):=by
 refine⟨by kernel_rfl,fun c w us hS hr=>?_⟩
 obtain⟨u,rfl⟩:∃ u,us=[u]:=by
  have:=hr.1
  match us,this with
  | [a],_=>exact⟨a,rfl⟩
 have hu:=hr.2 0 _ _ rfl rfl
 obtain⟨us,rfl,hl,hu2⟩:=Rel.agg_iff.1 hu
 obtain⟨a0,a1,a2,a3,a4,rfl⟩:∃ a0 a1 a2 a3 a4,us=[a0,a1,a2,a3,a4]:=by
  match us,hl with
  | [a0,a1,a2,a3,a4],_=>exact⟨a0,a1,a2,a3,a4,rfl⟩
 obtain rfl:=(hu2 0 _ _ rfl rfl).of_val
 obtain rfl:=(hu2 1 _ _ rfl rfl).of_val
 obtain rfl:=(hu2 2 _ _ rfl rfl).of_val
 obtain rfl:=(hu2 3 _ _ rfl rfl).of_val
 obtain⟨a,cap,rfl,hch⟩:∃ a cap,a4=.slice a t.Chain.length cap∧_:=by
  cases hu2 4 _ _ rfl rfl with | d h=>exact chain_inv h
 have hS2:Sat c [] ((w.alloc (.cells #[.int .i64 t.Serial,.int .i64 t.Show,.int .i64 t.Place,.string t.First,.slice a t.Chain.length cap] 35)).alloc (.cells #[.bool false] 4)):=by
  refine hS.turn (fun b hb=>?_) (fun b hb=>absurd hb own_nil)
  obtain⟨o,ho⟩:=Option.ne_none_iff_exists'.1 hb
  have:=hS.F_lt ho
  exact(((Below.refl _ w).alloc (Nat.le_refl _) _).alloc (by simp) _).block b this
 have h72:=(title_formed_R rfl t true hf).2 c _ _ hS2 hr
 refine callsIn_wide.1 (callsIn_of_wp_marks (n:=8) Tryz.func41 rfl trivial ?_ rfl)
 simp only[Tryz.ntmps41,List.size_toArray,List.length_cons,List.length_nil,Nat.reduceAdd,Nat.reduceSub,Array.replicate_succ,Array.replicate_zero,List.push_toArray,List.append_toArray,List.nil_append,List.cons_append] at h72 ⊢
 gi_wp2
 refine⟨trivial,(callsIn_wide.2 h72).mono ?_⟩
 rintro e w2 ⟨c2,own2,sv,u2,rfl,k1,k2,k3,k4,rfl⟩
 obtain rfl:=k1.of_val
 obtain⟨w1,hw1⟩:∃ w1,w1=(w.alloc (.cells #[.int .i64 t.Serial,.int .i64 t.Show,.int .i64 t.Place,.string t.First,.slice a t.Chain.length cap] 35)).alloc (.cells #[.bool false] 4):=⟨_,rfl⟩
 rw[← hw1] at k4
 have hsz1:w1.heap.size=w.heap.size+2:=by rw[hw1];simp
 have hb1:w1.heap[w.heap.size]?=some (.cells #[.int .i64 t.Serial,.int .i64 t.Show,.int .i64 t.Place,.string t.First,.slice a t.Chain.length cap] 35):=by
  rw[hw1,Below.heap_alloc _ _ _ (by simp)];exact heap_alloc_new _ _
 have hR1:w1.heap[w.heap.size+1]?=some (.cells #[.bool false] 4):=by
  rw[hw1];have:=heap_alloc_new (w.alloc (.cells #[.int .i64 t.Serial,.int .i64 t.Show,.int .i64 t.Place,.string t.First,.slice a t.Chain.length cap] 35)) (.cells #[.bool false] 4);simpa using this
 have hb2:=(k4.keep _ (by omega) own_nil).trans hb1
 have hR2:=(k4.keep _ (by omega) own_nil).trans hR1
 have hc0:w2.cell? ⟨w.heap.size,0,none⟩=some (.int .i64 t.Serial):=cell_at hb2 rfl
 have hc1:w2.cell? ⟨w.heap.size,1,none⟩=some (.int .i64 t.Show):=cell_at hb2 rfl
 have hc2:w2.cell? ⟨w.heap.size,2,none⟩=some (.int .i64 t.Place):=cell_at hb2 rfl
 have hc3:w2.cell? ⟨w.heap.size,3,none⟩=some (.string t.First):=cell_at hb2 rfl
 have hc4:w2.cell? ⟨w.heap.size,4,none⟩=some (.slice a t.Chain.length cap):=cell_at hb2 rfl
 gi_wp2
 refine⟨trivial,(callsIn_wide.2 (steps_in _ _ _ _ _ _ _ w2)).mono ?_⟩
 rintro e w3 ⟨rfl,rfl⟩
 gi_wp2
 obtain⟨w3,hw3⟩:∃ w3,w3=w2.alloc (.cells #[.int .i64 t.Serial,.int .i64 t.Show,.int .i64 t.Place,.string t.First,.slice a t.Chain.length cap] 35):=⟨_,rfl⟩
 rw[← hw3]
 have hsz3:w3.heap.size=w2.heap.size+1:=by rw[hw3];simp
 have hbel:Below w2.heap.size w2 w3:=by rw[hw3];exact(Below.refl _ _).alloc (Nat.le_refl _) _
 have hR3:=(hbel.block (w.heap.size+1) (by have:=k4.size;omega)).trans hR2
 have hBs:w3.heap[w2.heap.size]?=some (.cells #[.int .i64 t.Serial,.int .i64 t.Show,.int .i64 t.Place,.string t.First,.slice a t.Chain.length cap] 35):=by rw[hw3];exact heap_alloc_new _ _
 clear hw3
 have hSE:Sat { c2 with N:=0 } [] w3:=k2.drop.turn (fun b hb=>by
  obtain⟨o,ho⟩:=Option.ne_none_iff_exists'.1 hb
  exact hbel.block b (k2.F_lt ho)) (fun b hb=>absurd hb own_nil)
 have hFR:c2.F (w.heap.size+1)=none:=by
  apply Classical.byContradiction;intro h
  rcases k4.newF _ h with h1 | h1 | h1
  ·obtain⟨o,ho⟩:=Option.ne_none_iff_exists'.1 h1
   have:=hS.F_lt ho;omega
  ·omega
  ·exact own_nil h1
 obtain⟨b,off,sa,sn,sc,hch2⟩:∃ (b off:Nat)(sa:Nat→Option Addr)(sn sc:Nat→Nat),0<t.Chain.length→t.Chain.length≤cap∧a=some ⟨b,off,none⟩∧∃ (cs:Array Value)(e:TypeId)(fr:Nat×Nat),c.F b=some (.cells cs e fr) ∧
   ∀ k (x:Transfer),t.Chain[k]?=some x→cs[off+k * 2]?=some (.string x.To)∧cs[off+k * 2+1]?=some (.slice (sa k) (sn k) (sc k))∧Rep c.F (.slice (sa k) (sn k) (sc k)) (.sl (W eS x.Sig)):=by
  rcases Nat.eq_zero_or_pos t.Chain.length with h0 | h0
  ·exact⟨0,0,fun _=>none,fun _=>0,fun _=>0,fun h=>by omega⟩
  ·obtain⟨q1,b,off,cs,e,fr,sa,sn,sc,q2,q3,q4⟩:=hch h0
   exact⟨b,off,sa,sn,sc,fun _=>⟨q1,q2,cs,e,fr,q3,q4⟩⟩
 have hblk:∀ (cs:Array Value)(e:TypeId)(fr:Nat×Nat),c.F b=some (.cells cs e fr)→w3.heap[b]?=some (.cells cs e fr)∧b<w2.heap.size:=fun cs e fr h=>by
  have h1:=k2.le _ _ (k4.f _ _ h)
  have h2:=(Array.getElem?_eq_some_iff.1 h1).1
  exact⟨(hbel.block b h2).trans h1,h2⟩
 have hSt:StepsAt w3 a w2.heap.size b off t.Chain.length cap t.Serial t.Show t.Place t.First (fun k=>(t.Chain[k]?.elim default fun x=>x.To)) sa sn sc:=by
  refine⟨hBs,fun h=>?_,fun h=>(hch2 h).2.1,fun k hk=>?_,fun k hk=>?_⟩
  ·obtain⟨_,_,cs,e,fr,q3,_⟩:=hch2 h
   have:=(hblk cs e fr q3).2
   omega
  ·obtain⟨_,_,cs,e,fr,q3,q4⟩:=hch2 (by omega)
   have hx:t.Chain[k]?=some t.Chain[k]:=List.getElem?_eq_getElem hk
   obtain⟨q5,q6,q7⟩:=q4 k _ hx
   have h1:=(hblk cs e fr q3).1
   rw[hx]
   simp only[World.cell?,h1,Option.isSome_none,Bool.false_eq_true,if_false,Option.elim]
   exact q5
  ·obtain⟨_,_,cs,e,fr,q3,q4⟩:=hch2 (by omega)
   have hx:t.Chain[k]?=some t.Chain[k]:=List.getElem?_eq_getElem hk
   obtain⟨q5,q6,q7⟩:=q4 k _ hx
   have h1:=(hblk cs e fr q3).1
   simp only[World.cell?,h1,Option.isSome_none,Bool.false_eq_true,if_false]
   exact q6
 have hk4s:=k4.size
 have hw01:Below w.heap.size w w1:=by rw[hw1];exact((Below.refl _ w).alloc (Nat.le_refl _) _).alloc (by simp) _
 have hend:∀ (W':World)(v:Bool),W'.os=w3.os→W'.tape=w3.tape→W'.output=w3.output→w3.heap.size≤W'.heap.size→(∀ k,k<w3.heap.size→k≠w.heap.size+1→W'.heap[k]?=w3.heap[k]?) →
   ∃ c' own' sv u,Ending.returned (.bool v)=.returned u∧Rel c' sv u∧Sat c' own' W'∧c.le c'∧Goes c [] w c' own' W'∧sv=vB v:=fun W' v z1 z2 z3 z4 z5=>by
  refine⟨{ c2 with N:=0 },[],_,_,rfl,.d (.val _ rfl),hSE.turn (fun b hb=>?_) (fun b hb=>absurd hb own_nil),⟨by have:=hS.n;simp at this;omega,fun r hr=>by have:=hS.n;simp at this;omega,k4.f⟩,⟨?_,?_,?_,?_,fun k hk _=>?_,fun b hb=>?_,fun b hb=>absurd hb own_nil,k4.f⟩,rfl⟩
  ·obtain⟨o,ho⟩:=Option.ne_none_iff_exists'.1 hb
   refine z5 b (hSE.F_lt ho) fun e=>?_
   subst e
   exact hb hFR
  ·rw[z1,hbel.os,k4.os,hw01.os]
  ·rw[z2,hbel.tape,k4.tape,hw01.tape]
  ·rw[z3,hbel.output,k4.output,hw01.output]
  ·omega
  ·rw[z5 k (by omega) (by omega),hbel.block k (by omega),k4.keep k (by omega) own_nil,hw01.block k hk]
  ·rcases k4.newF b hb with h1 | h1 | h1
   ·exact .inl h1
   ·exact .inr (.inl (by omega))
   ·exact absurd h1 own_nil
 have hm:Tryz.prog.follows .mixedOrders=true:=by kernel_rfl
 have hRlt:w.heap.size+1<w2.heap.size:=by have:=k4.size;omega
 refine wpIn_rangeFunc_ownH (F:=Fence.wide) (n:=8) (gf:=107) (lb:=#[.pointer (some ⟨w2.heap.size,0,none⟩)]) rfl (by omega) rfl trivial (enters_of Tryz.func107 (by kernel_rfl) rfl)
  (steps_stops a w2.heap.size b off t.Chain.length cap _ _ _ _ _ sa sn sc (fun h=>(hch2 h).1) (by omega) 7 w3.heap.size (by omega) w3 hSt (fun h=>by obtain⟨_,_,cs,e,fr,q3,_⟩:=hch2 h;have:=(hblk cs e fr q3).2;omega) (Nat.le_refl _))
  (fun h k=>KpB.trans h k) (fun W l o o' hl h h1 h2=>KpB.put (w:=w3) (Nat.le_refl _) (by omega) W l o o' hl h h1 h2) (Below.refl _ _) (fun _=>rfl)
  (fun pre W=>Rd { c2 with N:=0 } w3 { c2 with N:=0 } [] W∧∀ y∈pre,bd y.val=false) (fun cd pre W=>cd=.ret∧(∃ y∈pre,bd y.val=true)∧Below w3.heap.size w3 W)
  ?_ ?_ ?_
  (fun x a' W=>∃ c1,(∀ b o,c1.F b=some o→b<w3.heap.size∨o.isCells=true)∧Sat c1 (vOwn { t with Chain:=t.Chain.take x.val } (t.Chain[x.val])) W∧Goes { c2 with N:=0 } [] w3 c1 (vOwn { t with Chain:=t.Chain.take x.val } (t.Chain[x.val])) W∧EnvOk c1 (vEnv1 (w.heap.size+1)) a'∧a'.defers=[])
  ?_ ?_ ?_ ?_ ?_
 ·exact(Rd.own (Nat.le_refl _) (fun _=>[]) (fun l x hx=>by cases hx)).and fun _ _ _ _ h _ _=>h
 ·rintro cd pre A B row ⟨h1,h2,h3⟩ hg hr
  refine⟨h1,h2,hg.os.trans h3.os,hg.tape.trans h3.tape,hg.output.trans h3.output,Nat.le_trans h3.size hg.size,fun k hk=>(hg.block k (Nat.lt_of_lt_of_le hk h3.size) fun e=>?_).trans (h3.block k hk)⟩
  have:=(hr k e.symm).1
  omega
 ·exact⟨.of hSE (fun _ _ h=>h) (.refl _) hSE (.refl _ _ _) (fun x hx=>by cases hx),by simp⟩
 ·rintro x a' _ A B row ⟨c1,r1,r3,r4,r5,r6⟩ hg hr
  obtain⟨q1,q2⟩:=rd_grow r1 r3 r4 vOwn_flat hg hr
  exact⟨c1,r1,q1,q2,r5,r6⟩
 ·rintro l pre x Wr K ⟨⟨c1,r1,r2,r3,r4⟩,hbd⟩ hK
  obtain⟨q1,rfl,cs,e,fr,q3,q4⟩:=hch2 (by have:=x.2;omega)
  have hx:t.Chain[x.val]?=some t.Chain[x.val]:=List.getElem?_eq_getElem x.2
  obtain⟨q5,q6,q7⟩:=q4 x.val _ hx
  have hFc:∀ b o,c.F b=some o→c1.F b=some o:=fun b o h=>r4.f b o (k4.f b o h)
  have hu4:Rel c1 (vTitle { t with Chain:=t.Chain.take x.val }) (.agg #[.int .i64 t.Serial,.int .i64 t.Show,.int .i64 t.Place,.string t.First,.slice (some ⟨b,off,none⟩) x.val cap]):=by
   refine Rel.agg_iff.2 ⟨[_,_,_,_,_],rfl,rfl,fun i s u h1 h2=>?_⟩
   match i with
   | 0 | 1 | 2 | 3=>cases h1;cases h2;exact .d (.val _ rfl)
   | 4 =>
    cases h1;cases h2
    cases hu2 4 _ _ rfl rfl with
    | d h =>
     have:=rep_take (h.mono hFc) (k:=x.val) (by rw[W_len];exact Nat.le_of_lt x.2) (by simp)
     rw[W_take] at this
     exact .d this
   | i+5=>cases h1
  have hv4:Rel c1 (.agg [.d (.val (.string (t.Chain[x.val]).To)),.d (.sl (W eS (t.Chain[x.val]).Sig))]) (.agg #[.string (t.Chain[x.val]?.elim default fun x=>x.To),.slice (sa x.val) (sn x.val) (sc x.val)]):=by
   rw[hx]
   refine Rel.agg_iff.2 ⟨[_,_],rfl,rfl,fun i s u h1 h2=>?_⟩
   match i with
   | 0=>cases h1;cases h2;exact .d (.val _ rfl)
   | 1=>cases h1;cases h2;exact .d (q7.mono hFc)
   | i+2=>cases h1
  unfold stepVals
  rw[zip_two]
  refine wpIn_seq (region_run_in (gs:=c41r4) l _ (by kernel_rfl) (vEnv0_ok (R:=w.heap.size+1) hu4 hv4) r3 rfl 0 (Nat.zero_le _) (valid_assign Tryz.prog (w.heap.size+1) { t with Chain:=t.Chain.take x.val } (t.Chain[x.val]) (fun env own=>StLe 0 env own (vEnv1 (w.heap.size+1)) (vOwn { t with Chain:=t.Chain.take x.val } (t.Chain[x.val]))) (fun _ _ h=>h)) ?_)
  rintro a2 W2 ⟨e1,c3,env3,own3,e2,e3,e4,e5,e6,e7⟩
  refine region_run_in (gs:=c41r5) l _ (by kernel_rfl) e2 e3 e1 0 (Nat.zero_le _) e7 ?_
  rintro a5 W5 ⟨f1,c5,env5,own5,f2,f3,f4,f5,f6,f7⟩
  obtain⟨c6,m1,m2,m3,m4,m5⟩:=f7 c5 a5 W5 f5 f2 f3
  have hG:=(e6.trans f6).trans m5
  obtain⟨g1,g2⟩:=r4.rd (B:=w3.heap.size) r3 (fun x hx=>by cases hx) hG
  have hG0:=r4.trans hG
  have hcut:=Sat.cutE hSE hG0 m2 vOwn_flat
  refine hK _ _ g1 ⟨g2,g2.block _ (by omega)⟩ ⟨.of (c1:={ c6 with N:=0 }) hSE (fun _ _ h=>h) ⟨Nat.zero_le _,fun r hr=>absurd hr (Nat.not_lt_zero r),hG0.f⟩ m2.drop hG0.drop (fun x hx=>by cases hx),hbd⟩ ⟨_,hcut.1,hcut.2.1,hcut.2.2,⟨m1.size,fun i s u h1 h2=>(m1.rel i s u h1 h2).cut⟩,f1⟩
 ·rintro l pre x a' Wr _ _ hI ⟨c1,r1,r3,r4,hE,hd⟩ hlen
  have hx:t.Chain[x.val]?=some t.Chain[x.val]:=List.getElem?_eq_getElem x.2
  have hstep:=hb x.val _ hx
  refine wpIn_block (wpIn_seq (region_any_in (gs:=c41r6) l _ hm (by kernel_rfl) (by kernel_rfl) hE r3 hd 0 (Nat.zero_le _)
   (valid_round rfl (w.heap.size+1) _ _ _ hstep (fun env'=>env'[27]?=some (.d (.val (.bool (bd x.val))))∧env'[2]?=some (.d (.val (.pointer (some ⟨w.heap.size+1,0,none⟩))))) (fun _ h1 h2=>⟨h1,h2⟩)) ?_))
  rintro a2 W2 ⟨e1,c3,env3,own3,e2,e3,e4,e5,e6,rfl,h27,h2⟩
  have hv:a2.eval (.tmp 27)=.bool (bd x.val):=by
   have:=ev_rel e2 (.tmp 27)
   rw[show ev env3 (.tmp 27)=.d (.val (.bool (bd x.val))) by show geti env3 27=_;rw[geti_eq,h27];rfl] at this
   exact this.of_val
  have hv2:a2.eval (.tmp 2)=.pointer (some ⟨w.heap.size+1,0,none⟩):=by
   have:=ev_rel e2 (.tmp 2)
   rw[show ev env3 (.tmp 2)=.d (.val (.pointer (some ⟨w.heap.size+1,0,none⟩))) by show geti env3 2=_;rw[geti_eq,h2];rfl] at this
   exact this.of_val
  obtain⟨g1,g2⟩:=r4.rd (B:=w3.heap.size) r3 vOwn_flat e6
  have hG0:=r4.trans e6
  have hW2:Below w3.heap.size w3 W2:=⟨hG0.os,hG0.tape,hG0.output,hG0.size,fun k hk=>hG0.keep k hk own_nil⟩
  refine wpIn_cond_split hv (fun hbd=>?_) fun hbd=>?_
  ·have hRW:W2.heap[w.heap.size+1]?=some (.cells #[.bool false] 4):=(hW2.block _ (by omega)).trans hR3
   refine wpIn_seq (wpIn_region_list (list_in (R:=fun a w=>w=W2) l _ ?_ _ _ _ (fun o ho=>?_) (list_store_bool rfl (.tmp 2) false false rfl (w.heap.size+1) hv2 hRW ?_)))
   ·rintro a3 W3 rfl
    exact wpIn_ret ⟨g1,rfl,⟨x,by simp,hbd⟩,hW2⟩
   ·simp only[List.mem_cons,List.not_mem_nil,or_false] at ho
    subst ho
    intro c h;cases h
   ·exact setRow_self W2 _ _ _ _ hRW
  ·refine wpIn_skip ⟨g1,⟨g2,g2.block _ (by omega)⟩,.of (c1:={ c3 with N:=0 }) hSE (fun _ _ h=>h) ⟨Nat.zero_le _,fun r hr=>absurd hr (Nat.not_lt_zero r),hG0.f⟩ e3.drop hG0.drop (fun x hx=>by cases hx),fun y hy=>?_⟩
   rcases List.mem_append.1 hy with hy | hy
   ·exact hI.2 y hy
   ·simp only[List.mem_cons,List.not_mem_nil,or_false] at hy
    subst hy;exact hbd
 ·rintro D xs Wr hD rfl ⟨⟨c1,r1,r2,r3,r4⟩,hbd⟩ hK
  have hWr:Below w3.heap.size w3 Wr:=⟨r4.os,r4.tape,r4.output,r4.size,fun k hk=>r4.keep k hk own_nil⟩
  have hRW:Wr.heap[w.heap.size+1]?=some (.cells #[.bool false] 4):=(hWr.block _ (by omega)).trans hR3
  have hcR:Wr.cell? ⟨w.heap.size+1,0,none⟩=some (.bool false):=cell_at hRW rfl
  have hfR:Wr.frozen? ⟨w.heap.size+1,0,none⟩=false:=by simp[World.frozen?,hRW]
  gi_wp2
  have hK':=(KeepsOthers.setCell Wr ⟨w.heap.size+1,0,none⟩ (.bool true)).same D _ hK rfl
  refine⟨by simp,.inl ⟨_,_,rfl,run_takeDeferred hK',?_⟩⟩
  have hc5:=cell_kept (World.cell?_setCell_same' Wr ⟨w.heap.size+1,0,none⟩ (.bool true) (by rw[hcR];rfl)) (grownBy_putObj' _ D (.deferred none)) (fun r e=>by cases e;exact⟨_,hK',rfl⟩)
  refine⟨.bool true,?_,?_⟩
  ·simp[results,Tryz.f41,go_sem,hc5]
  have hall:((List.range t.Chain.length).all fun k=>!bd k)=true:=by
   rw[List.all_eq_true]
   intro k hk
   rw[List.mem_range] at hk
   rw[hbd ⟨k,hk⟩ (List.mem_finRange _)];rfl
  rw[hall]
  exact hend _ true hWr.os hWr.tape hWr.output (by simp[World.putObj];exact hWr.size) fun k hk hkR=>(World.putObj_heap_other (by omega)).trans ((heap_setCell_other _ _ _ _ hkR).trans (hWr.block k hk))
 ·rintro D cd pre Wr hD _ ⟨rfl,⟨y,hy,hbd⟩,hWr⟩ hK
  have hRW:Wr.heap[w.heap.size+1]?=some (.cells #[.bool false] 4):=(hWr.block _ (by omega)).trans hR3
  have hcR:Wr.cell? ⟨w.heap.size+1,0,none⟩=some (.bool false):=cell_at hRW rfl
  gi_wp2
  refine⟨by simp,.inl ⟨_,_,rfl,run_takeDeferred hK,?_⟩⟩
  have hc5:=cell_kept hcR (grownBy_putObj' _ D (.deferred none)) (fun r e=>by cases e;exact⟨_,hK,rfl⟩)
  refine⟨.bool false,?_,?_⟩
  ·simp[results,Tryz.f41,go_sem,hc5]
  have hall:((List.range t.Chain.length).all fun k=>!bd k)=false:=by
   rw[List.all_eq_false]
   exact⟨y.val,List.mem_range.2 y.2,by rw[hbd];decide⟩
  rw[hall]
  exact hend _ false hWr.os hWr.tape hWr.output (by simp[World.putObj];exact hWr.size) fun k hk hkR=>(World.putObj_heap_other (by omega)).trans (hWr.block k hk)
theorem allG_of {α:Type}{f:Nat→Option α}{n:Nat}{l:List α}(h:allG f n=some l)(d:α)(i:Nat)(hi:i<n):f i=some (l[i]?.getD d):=by
 obtain⟨h1,h2⟩:=allG_some h
 rw[h2 i hi,List.getElem?_eq_getElem (by omega)]
 rfl
noncomputable def title_Valid_g (t:Title):Option Bool :=
 (title_formed_g t).bind fun f=>bif f then
  if t.Chain.length≤1000000 then (allG (fun k=>(t.Chain[k]?).bind fun x=>stepG { t with Chain:=t.Chain.take k } x) t.Chain.length).bind fun l=>some (l.all fun b=>!b) else none
 else some false
set_option maxRecDepth 100000 in
set_option maxHeartbeats 2000000 in
theorem valid_no (t:Title)(hf:title_formed_g t=some false):Fn1 Tryz.prog 41 [vTitle t] (vB false):=by
 refine⟨by kernel_rfl,fun c w us hS hr=>?_⟩
 obtain⟨u,rfl⟩:∃ u,us=[u]:=by
  have:=hr.1
  match us,this with
  | [a],_=>exact⟨a,rfl⟩
 have hu:=hr.2 0 _ _ rfl rfl
 obtain⟨us,rfl,hl,hu2⟩:=Rel.agg_iff.1 hu
 obtain⟨a0,a1,a2,a3,a4,rfl⟩:∃ a0 a1 a2 a3 a4,us=[a0,a1,a2,a3,a4]:=by
  match us,hl with
  | [a0,a1,a2,a3,a4],_=>exact⟨a0,a1,a2,a3,a4,rfl⟩
 obtain rfl:=(hu2 0 _ _ rfl rfl).of_val
 obtain rfl:=(hu2 1 _ _ rfl rfl).of_val
 obtain rfl:=(hu2 2 _ _ rfl rfl).of_val
 obtain rfl:=(hu2 3 _ _ rfl rfl).of_val
 obtain⟨a,cap,rfl,hch⟩:∃ a cap,a4=.slice a t.Chain.length cap∧_:=by
  cases hu2 4 _ _ rfl rfl with | d h=>exact chain_inv h
 have hS2:Sat c [] ((w.alloc (.cells #[.int .i64 t.Serial,.int .i64 t.Show,.int .i64 t.Place,.string t.First,.slice a t.Chain.length cap] 35)).alloc (.cells #[.bool false] 4)):=by
  refine hS.turn (fun b hb=>?_) (fun b hb=>absurd hb own_nil)
  obtain⟨o,ho⟩:=Option.ne_none_iff_exists'.1 hb
  have:=hS.F_lt ho
  exact(((Below.refl _ w).alloc (Nat.le_refl _) _).alloc (by simp) _).block b this
 have h72:=(title_formed_R rfl t false hf).2 c _ _ hS2 hr
 refine callsIn_wide.1 (callsIn_of_wp_marks (n:=8) Tryz.func41 rfl trivial ?_ rfl)
 simp only[Tryz.ntmps41,List.size_toArray,List.length_cons,List.length_nil,Nat.reduceAdd,Nat.reduceSub,Array.replicate_succ,Array.replicate_zero,List.push_toArray,List.append_toArray,List.nil_append,List.cons_append] at h72 ⊢
 gi_wp2
 refine⟨trivial,(callsIn_wide.2 h72).mono ?_⟩
 rintro e w2 ⟨c2,own2,sv,u2,rfl,k1,k2,k3,k4,rfl⟩
 obtain rfl:=k1.of_val
 obtain⟨w1,hw1⟩:∃ w1,w1=(w.alloc (.cells #[.int .i64 t.Serial,.int .i64 t.Show,.int .i64 t.Place,.string t.First,.slice a t.Chain.length cap] 35)).alloc (.cells #[.bool false] 4):=⟨_,rfl⟩
 rw[← hw1] at k4
 have hsz1:w1.heap.size=w.heap.size+2:=by rw[hw1];simp
 have hb1:w1.heap[w.heap.size]?=some (.cells #[.int .i64 t.Serial,.int .i64 t.Show,.int .i64 t.Place,.string t.First,.slice a t.Chain.length cap] 35):=by
  rw[hw1,Below.heap_alloc _ _ _ (by simp)];exact heap_alloc_new _ _
 have hR1:w1.heap[w.heap.size+1]?=some (.cells #[.bool false] 4):=by
  rw[hw1];have:=heap_alloc_new (w.alloc (.cells #[.int .i64 t.Serial,.int .i64 t.Show,.int .i64 t.Place,.string t.First,.slice a t.Chain.length cap] 35)) (.cells #[.bool false] 4);simpa using this
 have hb2:=(k4.keep _ (by omega) own_nil).trans hb1
 have hR2:=(k4.keep _ (by omega) own_nil).trans hR1
 have hc0:w2.cell? ⟨w.heap.size,0,none⟩=some (.int .i64 t.Serial):=cell_at hb2 rfl
 have hc1:w2.cell? ⟨w.heap.size,1,none⟩=some (.int .i64 t.Show):=cell_at hb2 rfl
 have hc2:w2.cell? ⟨w.heap.size,2,none⟩=some (.int .i64 t.Place):=cell_at hb2 rfl
 have hc3:w2.cell? ⟨w.heap.size,3,none⟩=some (.string t.First):=cell_at hb2 rfl
 have hc4:w2.cell? ⟨w.heap.size,4,none⟩=some (.slice a t.Chain.length cap):=cell_at hb2 rfl
 have hfR:w2.frozen? ⟨w.heap.size+1,0,none⟩=false:=by simp[World.frozen?,hR2]
 have hcR:w2.cell? ⟨w.heap.size+1,0,none⟩=some (.bool false):=cell_at hR2 rfl
 gi_wp2
 have hc5:=World.cell?_setCell_same' w2 ⟨w.heap.size+1,0,none⟩ (.bool false) (by rw[hcR];rfl)
 refine⟨.bool false,?_,?_⟩
 ·simp[results,Tryz.f41,go_sem,hc5]
 have hw01:Below w.heap.size w w1:=by rw[hw1];exact((Below.refl _ w).alloc (Nat.le_refl _) _).alloc (by simp) _
 have hk4s:=k4.size
 have hFR:c2.F (w.heap.size+1)=none:=by
  apply Classical.byContradiction;intro h
  rcases k4.newF _ h with h1 | h1 | h1
  ·obtain⟨o,ho⟩:=Option.ne_none_iff_exists'.1 h1
   have:=hS.F_lt ho;omega
  ·omega
  ·exact own_nil h1
 refine⟨{ c2 with N:=0 },[],_,_,rfl,.d (.val _ rfl),k2.drop.turn (fun b hb=>?_) (fun b hb=>absurd hb own_nil),⟨by have:=hS.n;simp at this;omega,fun r hr=>by have:=hS.n;simp at this;omega,k4.f⟩,⟨?_,?_,?_,?_,fun k hk _=>?_,fun b hb=>?_,fun b hb=>absurd hb own_nil,k4.f⟩,rfl⟩
 ·refine heap_setCell_other _ _ _ _ fun e=>?_
  subst e
  exact hb hFR
 ·exact k4.os.trans hw01.os
 ·exact k4.tape.trans hw01.tape
 ·exact k4.output.trans hw01.output
 ·simp;omega
 ·rw[heap_setCell_other _ _ _ _ (by show k≠w.heap.size+1;omega),k4.keep k (by omega) own_nil,hw01.block k hk]
 ·rcases k4.newF b hb with h1 | h1 | h1
  ·exact .inl h1
  ·exact .inr (.inl (by omega))
  ·exact absurd h1 own_nil
theorem title_Valid_R {P:Program}(hP:P=Tryz.prog)(t_:Title)(r:Bool)(h:title_Valid_g t_=some r):Fn1 P 41 [vTitle t_] (vB r):=by
 subst hP
 unfold title_Valid_g at h
 obtain⟨f,hf,h⟩:=Option.bind_eq_some_iff.1 h
 cases f with
 | false=>obtain rfl:=Option.some.inj h;exact valid_no t_ hf
 | true =>
  simp only[cond_true] at h
  split at h
  ·rename_i hlen
   obtain⟨l,hl,h⟩:=Option.bind_eq_some_iff.1 h
   obtain rfl:=Option.some.inj h
   have:=valid_S t_ hlen (fun k=>l[k]?.getD false) (fun k x hx=>by
    have h1:=allG_of hl false k (List.getElem?_eq_some_iff.1 hx).1
    rw[hx] at h1
    exact h1) hf
   have e:((List.range t_.Chain.length).all fun k=>!(l[k]?.getD false))=l.all fun b=>!b:=by
    obtain⟨h1,_⟩:=allG_some hl
    rw[← h1,Bool.eq_iff_iff,List.all_eq_true,List.all_eq_true]
    constructor
    ·intro h b hb
     obtain⟨i,hi⟩:=List.mem_iff_getElem?.1 hb
     have:=h i (List.mem_range.2 (List.getElem?_eq_some_iff.1 hi).1)
     rwa [hi] at this
    ·intro h k hk
     have hk:=List.mem_range.1 hk
     rw[List.getElem?_eq_getElem hk]
     exact h _ (List.getElem_mem hk)
   rw[e] at this
   exact this
  ·cases h
end Go.SX.Rg
