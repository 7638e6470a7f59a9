/- Parts of the proof. -/
import Derived.Test.YtllbabjgpdmblaaGreatDoorZTdP4
import Derived.Test.YtllbabjgpdmblaaGreatDoorZTdP2
import Derived.Test.YtllbabjgpdmblaaGreatDoorZTzwnode
import Derived.Test.YtllbabjgpdmblaaGreatDoorZTdV1
import Derived.Test.YtllbabjgpdmblaaGreatDoorZTzP8
import Derived.Test.YtllbabjgpdmblaaGreatDoorZTd49
set_option linter.unusedSimpArgs false
set_option linter.unusedVariables false
set_option linter.unusedSectionVars false
namespace Go.SX.Td
open Go Go.SX Tb
theorem cq1 : ∀ (l:List Int)(lo hi:Int),Asc lo hi l↔∀ (k:Nat)(c:Int),l[k]?=some c->lo<c/\c<=hi/\∀ d,0<k->l[k - 1]?=some d->d<c
 |[],lo,hi=>⟨fun _ k c h=>(by cases h),fun _=>trivial⟩
 |x::l,lo,hi=>by
  rw[Asc,cq1 l x hi]
  constructor
  ·rintro ⟨h1,h2,h3⟩ k c hk
   match k,hk with
   |0,hk=>cases hk;exact⟨h1,h2,fun d h0=>absurd h0 (Nat.lt_irrefl 0)⟩
   |k+1,hk =>
    obtain⟨a,b,e⟩:=h3 k c hk;refine⟨by omega,b,fun d _ hd=>?_⟩
    match k,hd with
    |0,hd=>cases hd;exact a
    |k+1,hd=>exact e d (Nat.succ_pos k) hd
  ·intro h;obtain⟨a,b,_⟩:=h 0 x rfl;refine⟨a,b,fun k c hk=>?_⟩;obtain⟨_,b',e'⟩:=h (k+1) c hk;refine⟨?_,b',fun d hk0 hd=>e' d (Nat.succ_pos k) ?_⟩
   ·have up:∀ (j:Nat)(y:Int),l[j]?=some y->x<y:=by
     intro j
     induction j with
     |zero=>intro y hy;exact(h 1 y hy).2.2 x (Nat.succ_pos 0) rfl
     |succ j ih =>
      intro y hy;have hj:=(qA.1 hy).1;obtain⟨z,hz⟩:∃ z,l[j]?=some z:=⟨_,qD (by omega)⟩;have:=ih z hz;have:=(h (j+2) y hy).2.2 z (by omega) hz;omega
    exact up k c hk
   ·obtain⟨k,rfl⟩:∃ j,k=j+1:=⟨k - 1,by omega⟩;exact hd
theorem ah1 (N:Node)(lo hi:Int)(hn:N.aI.length<=100000):∃ b,dw (KG N lo hi) 0=some (if b=true then .inl () else .inr false)/\(b=true↔Asc lo hi N.aI):=by
 let bad:Nat->Bool:=fun k=>match N.aI[k]? with
  |some c=>decide (c<=lo)||(decide (hi<c)||(decide (0<k)&&(match N.aI[k - 1]? with|some d=>decide (c<=d)|none=>false)))
  |none=>false
 have h:=H8 (step:=KG N lo hi) N.aI.length bad (.inr false) (.inl ()) (fun k hk=>by
  have hx:N.aI[k]?=some N.aI[k]:=by simp[hk]
  generalize N.aI[k]=c at hx;have hlt:(k:Int)<N.aI.length:=by omega
  simp only[KG,bV,dF,hlt,decide_true,cond_true,fB hx,qC,nY,iD,gI (k:=k) (by omega),bad,hx];by_cases h1:c<=lo
  ·simp[h1]
  ·by_cases h2:hi<c
   ·simp[h1,h2]
   ·by_cases h3:0<k
    ·obtain⟨d,hd⟩:∃ d,N.aI[k - 1]?=some d:=⟨_,qD (by omega)⟩;have hk1:io.ar .sub .i64 (k:Int) 1=((k - 1:Nat):Int):=by
      rw[Kw,wE (by omega) (by omega)];omega
     have h3':(0:Int)<(k:Int):=by omega
     simp only[h1,h2,h3,h3',decide_false,decide_true,cond_false,cond_true,Bool.false_or,Bool.true_and,hk1,fB hd,qC,hd];by_cases h4:c<=d<;>simp[h4]
    ·have h3':¬ (0:Int)<(k:Int):=by omega
     simp[h1,h2,h3,h3']) (by simp[KG,bV,dF])
 refine⟨!(List.range N.aI.length).any bad,?_,?_⟩
 ·rw[h];cases (List.range N.aI.length).any bad<;>rfl
 ·rw[cq1,Bool.not_eq_true',List.any_eq_false]
  constructor
  ·intro hb k c hk;have hl:=(qA.1 hk).1;have:=hb k (List.mem_range.2 hl);simp only[bad,hk,Bool.or_eq_true,qK,qX,not_or,not_and] at this;refine⟨by omega,by omega,fun d h0 hd=>?_⟩;have h3:=this.2.2 h0;rw[hd] at h3
   simpa using h3
  ·intro hb k hk;have hl:=List.mem_range.1 hk;obtain⟨c,hc⟩:∃ c,N.aI[k]?=some c:=⟨_,qD hl⟩;obtain⟨a,b,e⟩:=hb k c hc;simp only[bad,hc,Bool.or_eq_true,qK,qX,not_or,not_and];refine⟨by omega,by omega,fun h0=>?_⟩;split
   ·rename_i d hd;have:=e d h0 hd
    simpa using this
   ·simp
theorem ak1 (T:Table)(N:Node)(hn:N.aI.length<=100000):QE T N=Gp T N:=by
 have hloop:∀ lo hi:Int,dw (KG N lo hi) 0=dw (Cj N hi) (lo,0):=fun lo hi=>by
  obtain⟨b,h1,h2⟩:=ah1 N lo hi hn;obtain⟨b',h3,h4⟩:=ji1 ⟨0,N.aI,[],0⟩ lo hi hn;have e:b=b':=by rw[Bool.eq_iff_iff,h2,h4]
  have h3':dw (Cj N hi) (lo,0)=some (if b'=true then .inl () else .inr false):=h3;rw[h1,h3',e]
 unfold QE Gp;have hl:(Bo:Option (aF Range))=KX:=LY.trans Q9.symm;rw[hl];simp only[hloop];have hk:Zn N T=D9 N T:=rfl;rw[hk]
 cases io.eq (io.len (W aH N.Kids)) 0 with
 |true=>rfl
 |false =>
  simp only[cond_false];congr 1
  cases io.lt N.Attr 0 with
  |true=>rfl
  |false =>
   cases io.le 10 N.Attr with
   |true=>rfl
   |false =>
    cases io.not (io.eq N.Leaf 0) with
    |true=>rfl
    |false =>
     simp only[cond_false];cases io.eq (io.len (W aH N.aI)) 0<;>cases io.not (io.eq (io.len (W aH N.Kids)) (io.ar .add .i64 (io.len (W aH N.aI)) 1))<;>rfl
def rlv (T:Table)(k:Nat):Nat:=((T.Nodes.take k).filter fun n=>n.Kids.isEmpty).length
theorem gl1 {T:Table}{k:Nat}{N:Node}(h:T.Nodes[k]?=some N):rlv T (k+1)=if N.Kids=[] then rlv T k+1 else rlv T k:=by
 rw[rlv,rlv,qW,h,zD,List.filter_append,qN]
 cases hk:N.Kids with
 |nil=>simp[hk]
 |cons a l=>simp[hk]
theorem no1 {T:Table}(S:jm T){i:Nat}{N:Node}(hi:T.Nodes[i]?=some N) :
  dw (PY (i:Int) T) 0=some (if (T.Nodes.take i).any (fun M=>decide (N=M)) then .inr (.inr (.inr (.inr false))) else .inl ()):=by
 have hil:=(qA.1 hi).1;have hN:=S.nodes;have hs:=S.node N (qL hi);have hlen:(T.Nodes.take i).length=i:=by rw[qU];omega
 refine Kq (step:=PY (i:Int) T) (T.Nodes.take i) (fun M=>decide (N=M)) _ _ (fun k M hk=>?_) ?_
 ·have hkl:=(qA.1 hk).1;rw[List.getElem?_take_of_lt (by omega)] at hk;have hlt:(k:Int)<(i:Int):=by omega
  simp only[PY,bV,hlt,decide_true,cond_true,fB hi,fB hk,qC,zi2 N M (by have:=hs.cuts;omega) (by have:=hs.kids;omega),iD,gI (k:=k) (by omega)];by_cases h:N=M<;>simp[h]
 ·rw[hlen];have hlt:¬ (i:Int)<(i:Int):=by omega
  simp only[PY,bV,hlt,decide_false,cond_false]
def NY (T:Table)(k:Nat):Prop:=∀ j N,j<k->T.Nodes[j]?=some N->Gp T N=some true/\(∀ i M,i<j->T.Nodes[i]?=some M->M≠N)/\(N.Kids=[]->N.Leaf=(rlv T j:Nat))
theorem rt0 {T:Table}(S:jm T):∃ r,dw (PS T) (0,0)=some r/\((r=.inl ((rlv T T.Nodes.length:Nat):Int)/\NY T T.Nodes.length)\/(r=.inr false/\¬ NY T T.Nodes.length)):=by
 refine sU (step:=PS T) (fun (s:Int) i=>(s,i)) T.Nodes.length (fun k s=>s=(rlv T k:Nat)/\NY T k)
  (fun r=>(r=.inl ((rlv T T.Nodes.length:Nat):Int)/\NY T T.Nodes.length)\/(r=.inr false/\¬ NY T T.Nodes.length)) (fun k s hk hI=>?_) (fun s hI=>?_) 0 ⟨rfl,fun j N hj=>absurd hj (Nat.not_lt_zero j)⟩
 ·obtain⟨rfl,hok⟩:=hI;have hn:=S.nodes;obtain⟨N,hN⟩:∃ N,T.Nodes[k]?=some N:=⟨_,qD hk⟩;have hs:=S.node N (qL hN);obtain⟨b,hb,_⟩:=mr0 S hs;have hlt:(k:Int)<T.Nodes.length:=by omega
  have hrl:rlv T k<=60:=by
   have:=List.length_filter_le (fun n:Node=>n.Kids.isEmpty) (T.Nodes.take k);rw[qU] at this;rw[rlv];omega
  have hkids:(io.eq (io.len (W aH N.Kids)) 0)=decide (N.Kids=[]):=by
   rw[mX,dF]
   cases N.Kids with
   |nil=>rfl
   |cons a l=>simp;omega
  simp only[PS,bV,dF,hlt,decide_true,cond_true,fB hN,qC,ak1 T N (by have:=hs.cuts;omega),hb,vX,no1 S hN,hkids,mX,iD,gI (k:=k) (by omega),gI (k:=rlv T k) (by omega)]
  cases b with
  |false =>
   refine .inr ⟨.inr false,by simp[gu],.inr ⟨rfl,fun h=>?_⟩⟩;have:=(h k N hk hN).1;rw[hb] at this;cases this
  |true =>
   by_cases hd:(T.Nodes.take k).any (fun M=>decide (N=M))=true
   ·refine .inr ⟨.inr false,by simp[gu,hd],.inr ⟨rfl,fun h=>?_⟩⟩;obtain⟨M,hM,he⟩:=zK.1 hd;obtain⟨i,hi⟩:=List.getElem?_of_mem hM;have hil:=(qA.1 hi).1;rw[qU] at hil;rw[List.getElem?_take_of_lt (by omega)] at hi;exact(h k N hk hN).2.1 i M (by omega) hi (of_decide_eq_true he).symm
   ·have hnd:∀ i M,i<k->T.Nodes[i]?=some M->M≠N:=fun i M hi hM e=>hd (zK.2 ⟨M,qL (i:=i) (by rw[List.getElem?_take_of_lt hi];exact hM),by simp[e]⟩)
    have hd:(T.Nodes.take k).any (fun M=>decide (N=M))=false:=Bool.eq_false_iff.2 hd;rw[hd];have next:(N.Kids=[]->N.Leaf=(rlv T k:Nat))->NY T (k+1):=fun hl j M hj hM=>by
     rcases Nat.lt_or_ge j k with h|h
     ·exact hok j M h hM
     ·have:j=k:=by omega
      subst this;rw[hN] at hM;cases hM;exact⟨hb,hnd,hl⟩
    by_cases hk0:N.Kids=[]
    ·by_cases hl:N.Leaf=(rlv T k:Nat)
     ·refine .inl ⟨((rlv T k+1:Nat):Int),by simp[gu,hk0,hl],?_,next fun _=>hl⟩;rw[gl1 hN,if_pos hk0]
     ·refine .inr ⟨.inr false,by simp[gu,hk0,hl],.inr ⟨rfl,fun h=>hl ((h k N hk hN).2.2 hk0)⟩⟩
    ·refine .inl ⟨((rlv T k:Nat):Int),by simp[gu,hk0],?_,next fun h=>absurd h hk0⟩;rw[gl1 hN,if_neg hk0]
 ·obtain⟨rfl,hok⟩:=hI;have hlt:¬ ((T.Nodes.length:Int)<T.Nodes.length):=by omega
  exact⟨_,by simp only[PS,bV,dF,hlt,decide_false,cond_false],.inl ⟨rfl,hok⟩⟩
theorem aj1 {T:Table}(S:jm T){i:Nat}{d:Decision}(hi:T.Leaves[i]?=some d) :
  dw (PZ (i:Int) T) 0=some (if (T.Leaves.take i).any (fun e=>Ez d e) then .inr (.inr (.inr false)) else .inl ()):=by
 have hil:=(qA.1 hi).1;have hN:=S.leaves;have hlen:(T.Leaves.take i).length=i:=by rw[qU];omega
 refine Kq (step:=PZ (i:Int) T) (T.Leaves.take i) (fun e=>Ez d e) _ _ (fun k e hk=>?_) ?_
 ·have hkl:=(qA.1 hk).1;rw[List.getElem?_take_of_lt (by omega)] at hk;have hlt:(k:Int)<(i:Int):=by omega
  simp only[PZ,bV,hlt,decide_true,cond_true,fB hi,fB hk,qC,iD,gI (k:=k) (by omega)];cases Ez d e<;>simp
 ·rw[hlen];have hlt:¬ (i:Int)<(i:Int):=by omega
  simp only[PZ,bV,hlt,decide_false,cond_false]
theorem yc1 {T:Table}(S:jm T)(hq:∀ a b:Decision,Ez a b=decide (a=b)):∃ r,dw (PN T) 0=some r/\((r=.inl ()/\T.Leaves.Nodup)\/(r=.inr false/\¬ T.Leaves.Nodup)):=by
 have hN:=S.leaves
 let p:Nat->Bool:=fun i=>match T.Leaves[i]? with|some d=>(T.Leaves.take i).any fun e=>Ez d e|none=>false
 have h:=H8 (step:=PN T) T.Leaves.length p (.inr false) (.inl ()) (fun k hk=>by
  obtain⟨d,hd⟩:∃ d,T.Leaves[k]?=some d:=⟨_,qD hk⟩;have hlt:(k:Int)<T.Leaves.length:=by omega
  simp only[PN,bV,dF,hlt,decide_true,cond_true,aj1 S hd,iD,gI (k:=k) (by omega),p,hd];cases (T.Leaves.take k).any (fun e=>Ez d e)<;>simp[gu]) (by simp[PN,bV,dF])
 have iff:(List.range T.Leaves.length).any p=false↔T.Leaves.Nodup:=by
  rw[List.any_eq_false,List.Nodup,List.pairwise_iff_getElem]
  constructor
  ·intro hb i j hi hj hij e;have:=hb j (List.mem_range.2 hj);simp only[p,qD hj,Bool.not_eq_true,List.any_eq_false] at this;have h9:=this T.Leaves[i] (qL (i:=i) (by rw[List.getElem?_take_of_lt hij,qD hi]));rw[hq,e,qM rfl] at h9;cases h9
  ·intro hb j hj;have hj:=List.mem_range.1 hj;simp only[p,qD hj,Bool.not_eq_true,List.any_eq_false];intro e he;rw[hq];refine qJ fun hqe=>?_
   obtain⟨i,hi⟩:=List.getElem?_of_mem he;have hil:=(qA.1 hi).1;rw[qU] at hil;rw[List.getElem?_take_of_lt (by omega)] at hi;obtain⟨h1,h2⟩:=qA.1 hi;exact hb i j h1 hj (by omega) (h2.trans hqe.symm)
 cases hany:(List.range T.Leaves.length).any p with
 |false=>exact⟨_,h,.inl ⟨by rw[hany];rfl,iff.1 hany⟩⟩
 |true=>exact⟨_,h,.inr ⟨by rw[hany];rfl,fun hn=>by rw[iff.2 hn] at hany;cases hany⟩⟩
theorem ZO {kids:Nat->List Nat}{lv:Nat->Nat}{N:Nat}(hk:∀ x,x<N->∀ k∈kids x,k<N/\lv x<lv k)(hl:∀ x,x<N->lv x<=10):∀ (n m x:Nat)(o:List Nat),x<N->10<n+lv x->10<m+lv x->walk kids n x o=walk kids m x o
 |0,m,x,o,hx,h1,_=>by have:=hl x hx;omega
 |n+1,0,x,o,hx,_,h2=>by have:=hl x hx;omega
 |n+1,m+1,x,o,hx,h1,h2=>by
  have hf:∀ (l:List Nat),(∀ k∈l,k<N/\lv x<lv k)->∀ o,l.foldl (fun o k=>walk kids n k o) o=l.foldl (fun o k=>walk kids m k o) o:=by
   intro l
   induction l with
   |nil=>intro _ o;rfl
   |cons k l ih =>
    intro hl' o;obtain⟨a,b⟩:=hl' k List.mem_cons_self;rw[qV,qV,ZO hk hl n m k o a (by omega) (by omega)];exact ih (fun k hk=>hl' k (zB _ hk)) _
  rw[walk,walk,hf (kids x) (hk x hx)]
theorem nm1 {t:Tab Decision}(hkl:∀ x,x<t.ns.length->∀ k∈(t.nd x).kids,k<t.ns.length/\aT (t.nd x)<aT (t.nd k))(hlv:∀ x,x<t.ns.length->aT (t.nd x)<=10)(hb:∀ n∈t.ns,Bd n)(hN:t.ns.length<=20000)(hp:0<t.ns.length) :
  dw (PK (dZ t)) ([0],0)=some (ints (walk (jf t) 11 0 [])):=by
 have hgx:bU (dZ t).Nodes 0=some (bD (t.nd 0)):=fB (k:=0) (Dx hp);have hmem:t.nd 0∈t.ns:=by unfold Tab.nd;rw[qI,qD hp];exact zA _
 have h62:walk (jf t) 11 0 []=(t.nd 0).kids.foldl (fun o k=>walk (jf t) 61 k o) [0]:=by
  rw[ZO (kids:=jf t) (lv:=fun x=>aT (t.nd x)) (N:=t.ns.length) hkl hlv 11 62 0 [] hp (by omega) (by omega)];rw[walk,if_neg (by simp)];rfl
 have hgood:∀ k,k<=(t.nd 0).kids.length->(((t.nd 0).kids.take k).foldl (fun o k=>walk (jf t) 61 k o) [0]).Nodup/\∀ y∈((t.nd 0).kids.take k).foldl (fun o k=>walk (jf t) 61 k o) [0],y<t.ns.length:=by
  intro k
  induction k with
  |zero=>intro _;simp only[List.take_zero,List.foldl_nil];exact⟨by simp,fun y hy=>by rw[zE.1 hy];exact hp⟩
  |succ k ih =>
   intro hk;obtain⟨i1,i2⟩:=ih (by omega);have hg:(t.nd 0).kids[k]?=some (t.nd 0).kids[k]:=by simp
   rw[qW,hg,zD,List.foldl_append];simp only[qV,List.foldl_nil];obtain⟨k1,k2⟩:=hkl 0 hp _ (qL hg);obtain⟨w1,-⟩:=Ed (kids:=jf t) (lv:=fun x=>aT (t.nd x)) (N:=t.ns.length) hkl 61 _ (((t.nd 0).kids.take k).foldl (fun o k=>walk (jf t) 61 k o) [0]) k1 (by omega) (hlv _ k1) hlv;exact⟨w1.CZ i1,fun y hy=>(w1.lt y hy).elim (i2 y) id⟩
 rw[h62];refine Df (step:=PK (dZ t)) (fun (s:List Nat) i=>(ints s,i)) (t.nd 0).kids (fun o k=>walk (jf t) 61 k o) [0] _ (fun k y hy=>?_) ?_
 ·have hk:k<(t.nd 0).kids.length:=(qA.1 hy).1;obtain⟨g1,g2⟩:=hgood k (by omega);obtain⟨k1,k2⟩:=hkl 0 hp y (qL hy);have hlt:(k:Int)<(ints (t.nd 0).kids).length:=by rw[jg];omega
  have e:Ia (dZ t).Nodes (dZ t).Leaves 61 (y:Int) (ints (((t.nd 0).kids.take k).foldl (fun o k=>walk (jf t) 61 k o) [0]))=_:=ou0 t.ls hkl hlv hb hN 61 y _ k1 (by omega) g1 g2;simp only[PK,hgx,qC,bV,dF,bD,hlt,decide_true,cond_true,fB (Ar hy),e,iD,gI (show k<9223372036854775807 by have:=(hb _ hmem).kids;omega)]
 ·have hlt:¬ (((t.nd 0).kids.length:Int)<(ints (t.nd 0).kids).length):=by rw[jg];omega
  simp only[PK,hgx,qC,bV,dF,bD,hlt,decide_false,cond_false]
theorem yy1 {p:au}{i:Nat}{r:Rule}(hr:p.Rules[i]?=some r)(z0:Zs)(hz:z0.length+r.ay.length<=1000000) :
  dw (PV p (i:Int)) (z0,ints (List.range z0.length),0)=some (z0++r.ay,ints (List.range (z0++r.ay).length)):=by
 have hf:∀ (l s:Zs),l.foldl (fun (s:Zs) z=>s++[z]) s=s++l:=by
  intro l
  induction l with
  |nil=>intro s;simp
  |cons z l ih=>intro s;rw[qV,ih];simp
 have hgr:bU p.Rules (i:Int)=some r:=fB hr;have h:=Df (step:=PV p (i:Int)) (fun (s:Zs) j=>(s,ints (List.range s.length),j)) r.ay (fun s z=>s++[z]) z0 (z0++r.ay,ints (List.range (z0++r.ay).length)) (fun k z hk=>?_) ?_
 ·exact h
 ·have hkl:=(qA.1 hk).1;rw[hf];have hlt:(k:Int)<r.ay.length:=by omega
  have hl:(z0++r.ay.take k).length<=1000000:=by rw[qN,qU];omega
  generalize z0++r.ay.take k=s at hl;have a1:appG (ints (List.range s.length)) [(s.length:Int)]=some (ints (List.range (s++[z]).length)):=by
   rw[rU (by rw[jg,List.length_range];simp;omega),qN,zF,List.range_succ];simp[ints]
  have a2:appG s [z]=some (s++[z]):=rU (by simp;omega);simp only[PV,hgr,qC,bV,dF,hlt,decide_true,cond_true,a1,fB hk,a2,iD,gI (k:=k) (by omega)]
 ·rw[hf];have hlt:¬ ((r.ay.length:Int)<r.ay.length):=by omega
  simp only[PV,hgr,qC,bV,dF,hlt,decide_false,cond_false]
theorem vn1 {p:au}(G:PG p):dw (P5 p) ([],[],0)=some (dM p,ints (List.range (dM p).length)):=by
 have hf:∀ (l:List Rule)(s:Zs),l.foldl (fun (s:Zs)(r:Rule)=>s++r.ay) s=s++l.flatMap (·.ay):=by
  intro l
  induction l with
  |nil=>intro s;simp
  |cons z l ih=>intro s;rw[qV,ih];simp
 have hz:dM p=p.Rules.foldl (fun (s:Zs)(r:Rule)=>s++r.ay) []:=by rw[hf];rfl
 rw[hz];refine Df (step:=P5 p) (fun (s:Zs) j=>(s,ints (List.range s.length),j)) p.Rules (fun (s:Zs)(r:Rule)=>s++r.ay) [] _ (fun k r hk=>?_) ?_
 ·have hkl:=(qA.1 hk).1;have hlt:(k:Int)<p.Rules.length:=by omega
  rw[hf,zN];have hlen:((p.Rules.take k).flatMap (·.ay)).length+r.ay.length<=1000000:=by
   have e2:dM p=(p.Rules.take (k+1)).flatMap (·.ay)++(p.Rules.drop (k+1)).flatMap (·.ay):=by
    rw[<- List.flatMap_append,List.take_append_drop];rfl
   have e3:(p.Rules.take (k+1)).flatMap (·.ay)=(p.Rules.take k).flatMap (·.ay)++r.ay:=by
    rw[qW,hk,zD,List.flatMap_append];simp
   have:=congrArg List.length e2;rw[e3,qN,qN] at this;have:=G.nz;omega
  have hr:=G.rules;simp only[P5,bV,dF,hlt,decide_true,cond_true,yy1 hk _ hlen,qC,iD,gI (k:=k) (by omega)]
 ·have hlt:¬ ((p.Rules.length:Int)<p.Rules.length):=by omega
  simp only[P5,bV,dF,hlt,decide_false,cond_false]
theorem ox1 {t:Tab Decision}(hkl:∀ x,x<t.ns.length->∀ k∈(t.nd x).kids,k<t.ns.length/\aT (t.nd x)<aT (t.nd k))(hlv:∀ x,x<t.ns.length->aT (t.nd x)<=10)(hb:∀ n∈t.ns,Bd n)(hN:t.ns.length<=20000){x:Nat}(hx:x<t.ns.length) :
  dw (P6 (t.ns.map bD) (x:Int) t.ls) ([(x:Int)],0)=some (ints (walk (jf t) 11 x [])):=by
 have hgx:bU (t.ns.map bD) (x:Int)=some (bD (t.nd x)):=fB (Dx hx);have hmem:t.nd x∈t.ns:=by unfold Tab.nd;rw[qI,qD hx];exact zA _
 have h62:walk (jf t) 11 x []=(t.nd x).kids.foldl (fun o k=>walk (jf t) 61 k o) [x]:=by
  rw[ZO (kids:=jf t) (lv:=fun x=>aT (t.nd x)) (N:=t.ns.length) hkl hlv 11 62 x [] hx (by omega) (by omega)];rw[walk,if_neg (by simp)];rfl
 have hgood:∀ k,k<=(t.nd x).kids.length->(((t.nd x).kids.take k).foldl (fun o k=>walk (jf t) 61 k o) [x]).Nodup/\∀ y∈((t.nd x).kids.take k).foldl (fun o k=>walk (jf t) 61 k o) [x],y<t.ns.length:=by
  intro k
  induction k with
  |zero=>intro _;simp only[List.take_zero,List.foldl_nil];exact⟨by simp,fun y hy=>by rw[zE.1 hy];exact hx⟩
  |succ k ih =>
   intro hk;obtain⟨i1,i2⟩:=ih (by omega);have hg:(t.nd x).kids[k]?=some (t.nd x).kids[k]:=by simp
   rw[qW,hg,zD,List.foldl_append];simp only[qV,List.foldl_nil];obtain⟨k1,k2⟩:=hkl x hx _ (qL hg);obtain⟨w1,-⟩:=Ed (kids:=jf t) (lv:=fun x=>aT (t.nd x)) (N:=t.ns.length) hkl 61 _ (((t.nd x).kids.take k).foldl (fun o k=>walk (jf t) 61 k o) [x]) k1 (by omega) (hlv _ k1) hlv;exact⟨w1.CZ i1,fun y hy=>(w1.lt y hy).elim (i2 y) id⟩
 rw[h62];refine Df (step:=P6 (t.ns.map bD) (x:Int) t.ls) (fun (s:List Nat) i=>(ints s,i)) (t.nd x).kids (fun o k=>walk (jf t) 61 k o) [x] _ (fun k y hy=>?_) ?_
 ·have hk:k<(t.nd x).kids.length:=(qA.1 hy).1;obtain⟨g1,g2⟩:=hgood k (by omega);obtain⟨k1,k2⟩:=hkl x hx y (qL hy);have hlt:(k:Int)<(ints (t.nd x).kids).length:=by rw[jg];omega
  have e:=ou0 t.ls hkl hlv hb hN 61 y _ k1 (by omega) g1 g2;simp only[P6,hgx,qC,bV,dF,bD,hlt,decide_true,cond_true,fB (Ar hy),e,iD,gI (show k<9223372036854775807 by have:=(hb _ hmem).kids;omega)]
 ·have hlt:¬ (((t.nd x).kids.length:Int)<(ints (t.nd x).kids).length):=by rw[jg];omega
  simp only[P6,hgx,qC,bV,dF,bD,hlt,decide_false,cond_false]
theorem nd1 {O:List Nat}{N:Nat}(hO:O.Nodup)(hlt:∀ x∈O,x<N)(hN:N<=20000) :
  ∃ l,dw (P9 (ints O)) (List.replicate N 0,0)=some l/\l.length=N/\∀ x∈O,l[x]?=some ((pos O x:Nat):Int):=by
 have hOl:=TL hO hlt;obtain⟨l,h1,h2,h3⟩:=sU (step:=P9 (ints O)) (fun (s:List Int) i=>(s,i)) O.length
  (fun k s=>s.length=N/\∀ (j:Nat) x,j<k->O[j]?=some x->s[x]?=some (j:Int)) (fun s=>s.length=N/\∀ (j:Nat) x,j<O.length->O[j]?=some x->s[x]?=some (j:Int)) (fun k s hk hI=>by
   obtain⟨i1,i2⟩:=hI;have hx:O[k]?=some O[k]:=by simp[hk]
   generalize O[k]=x at hx;have hxl:=hlt x (qL hx);have hlk:(k:Int)<(ints O).length:=by rw[jg];omega
   have hro:oL (ints O) (k:Int)=some k:=Gu (by rw[jg];omega);have hrn:oL s (x:Int)=some x:=Gu (by omega);have hu:QU s x (fun _=>(k:Int))=some (s.set x (k:Int)):=by unfold QU;rw[qD (by omega)]
   refine .inl ⟨s.set x (k:Int),?_,by rw[List.length_set];exact i1,fun j y hj hy=>?_⟩
   ·simp only[P9,bV,dF,hlk,decide_true,cond_true,hro,Ar hx,qC,hrn,hu,iD,gI (k:=k) (by omega)]
   ·by_cases hjk:j=k
    ·subst hjk;rw[hx] at hy;cases hy;rw[List.getElem?_set_self (by omega)]
    ·have:x≠y:=fun e=>by subst e;exact hjk (Vd hO hy hx)
     rw[List.getElem?_set_ne this];exact i2 j y (by omega) hy) (fun s hI=>by
   have hlk:¬ ((O.length:Int)<(ints O).length):=by rw[jg];omega
   exact⟨s,by simp only[P9,bV,dF,hlk,decide_false,cond_false],hI⟩) (List.replicate N 0) ⟨by simp,fun j x hj=>by omega⟩
 refine⟨l,h1,h2,fun x hx=>?_⟩;have hp:=Ls hx;exact h3 _ x (qA.1 hp).1 hp
theorem yd1 (n:Nd){O:List Nat}{l:List Int}(hl:∀ x∈O,l[x]?=some ((pos O x:Nat):Int))(XQ:∀ k∈n.kids,k∈O)(hk:n.kids.length<=100000):dw (PO (bD n) l) ([],0)=some (ints (n.kids.map (pos O))):=by
 have hf:∀ (l:List Nat)(s:List Int),l.foldl (fun (s:List Int)(k:Nat)=>s++[((pos O k:Nat):Int)]) s=s++ints (l.map (pos O)):=by
  intro l
  induction l with
  |nil=>intro s;simp[ints]
  |cons r l ih=>intro s;rw[qV,ih];simp[ints]
 have h0:=hf n.kids [];rw[zN] at h0;rw[<- h0];refine Df (step:=PO (bD n) l) (fun (s:List Int) i=>(s,i)) n.kids (fun s k=>s++[((pos O k:Nat):Int)]) [] _ (fun k x hx=>?_) (by simp[PO,bV,dF,bD,jg]);have hkl:k<n.kids.length:=(qA.1 hx).1;have hlt:(k:Int)<(ints n.kids).length:=by rw[jg];omega
 rw[hf,zN];have hg:=hl x (XQ x (qL hx));have hr:oL l (x:Int)=some x:=Gu (qA.1 hg).1;have hap:∀ y:Int,appG (ints ((n.kids.take k).map (pos O))) [y]=some (ints ((n.kids.take k).map (pos O))++[y]):=fun y=>rU (by rw[jg,qY,qU];simp;omega)
 simp only[PO,bV,dF,bD,hlt,decide_true,cond_true,fB (Ar hx),qC,hr,hg,hap,iD,gI (k:=k) (by omega)]
theorem va1 {t:Tab Decision}(h:t.Ok bn){O:List Nat}{l:List Int}(hl:∀ x∈O,l[x]?=some ((pos O x:Nat):Int))(uM:∀ x∈O,∀ k∈(t.nd x).kids,k∈O)(hO:∀ x∈O,x<t.ns.length)(hn:O.length<=20000)(hk:∀ x∈O,(t.nd x).kids.length<=100000) :
  dw (PL (ints O) (t.ns.map bD) l t.ls) ([],[],0)=some ((ren t (pos O) O 0).map bD,tq t O):=by
 obtain⟨r,h1,rfl⟩:=sU (step:=PL (ints O) (t.ns.map bD) l t.ls) (fun (s:List Node×List Decision) i=>(s.1,s.2,i)) O.length
  (fun k s=>s=((ren t (pos O) (O.take k) 0).map bD,tq t (O.take k))) (fun r=>r=((ren t (pos O) O 0).map bD,tq t O)) (fun k s hk' hI=>by
  subst hI;refine .inl ⟨_,?_,rfl⟩;have hx:O[k]?=some O[k]:=by simp[hk']
  have hm:O[k]∈O:=zA _;have hxl:=hO _ hm;have hxk:=hk _ hm;have hxc:=uM _ hm;have hro:oL (ints O) (k:Int)=some k:=Gu (by rw[jg];omega);rw[qW,hx,zD];generalize O[k]=x at hx hm hxl hxk hxc;have hrn:bU (t.ns.map bD) (x:Int)=some (bD (t.nd x)):=fB (Dx hxl);have hlt:(k:Int)<(ints O).length:=by rw[jg];omega
  have hlt2:(k:Int)<(O.length:Int):=by omega
  have hlo:nO t (O.take k)<=20000:=by
   unfold nO;have h1:=List.length_filter_le (fun x=>(t.nd x).kids.isEmpty) (O.take k);rw[qU] at h1;omega
  have hrl:(ren t (pos O) (O.take k) 0).length<=20000:=by rw[W9,qU];omega
  have hkn:=yd1 (t.nd x) hl hxc hxk;have hf:=h.fine x hxl;rw[Z5,ot1,Nat.zero_add];simp only[PL,bV,dF,hlt2,decide_true,cond_true,hro,Ar hx,qC,hrn,mX,hkn,iD,gI (k:=k) (by omega),ren,jg,qY];have UQ:∀ d,appG ((ren t (pos O) (O.take k) 0).map bD) [d]=some ((ren t (pos O) (O.take k) 0).map bD++[d]):=fun d=>rU (by rw[qY];simp;omega)
  by_cases hkk:(t.nd x).kids=[]
  ·obtain⟨f1,f2,f3⟩:=hf.leaf hkk;have hz:(((t.nd x).kids.length:Int)=0):=by simp[hkk]
   have hgl:t.ls[(t.nd x).leaf]?=some (t.ls.getD (t.nd x).leaf default):=by rw[qI,qD f3];rfl
   have hrl2:bU t.ls (bD (t.nd x)).Leaf=some (t.ls.getD (t.nd x).leaf default):=fB hgl;have hap:∀ d,appG (tq t (O.take k)) [d]=some (tq t (O.take k)++[d]):=fun d=>rU (by rw[Y3];simp;omega)
   have hwr:io.ar .sub .i64 (((tq t (O.take k)++[t.ls.getD (t.nd x).leaf default]).length:Nat):Int) 1=((nO t (O.take k):Nat):Int):=by
    rw[Kw,qN,Y3,zF,wE (by omega) (by omega)];omega
   simp only[hz,decide_true,cond_true,hrl2,hap,UQ,qC,dF,hwr,if_pos hkk,List.map_append,zC,List.map_nil];simp only[bD,hkk,List.map_nil]
  ·have hz:¬ (((t.nd x).kids.length:Int)=0):=by
    have:(t.nd x).kids.length≠0:=by simpa using hkk
    omega
   simp only[hz,decide_false,cond_false,UQ,qC,if_neg hkk,List.map_append,zC,List.map_nil,List.append_nil];simp only[bD]) (fun s hI=>by
  subst hI;refine⟨_,?_,rfl⟩;have hlt:¬ ((O.length:Int)<(ints O).length):=by rw[jg];omega
  simp only[PL,bV,dF,hlt,decide_false,cond_false,zG]) ([],[]) (by simp[ren,tq])
 exact h1
theorem oe2 {t:Tab Decision}(c:t.Ok bn)(hN:t.ns.length<=20000)(hL:t.ls.length<=20000)(hk:∀ n∈t.ns,n.kids.length<=2001):∀ n∈t.ns,Bd n:=by
 intro n hn;obtain⟨x,hx⟩:=List.getElem?_of_mem hn;have hxl:=(qA.1 hx).1;have e:t.nd x=n:=by unfold Tab.nd;rw[qI,hx];rfl
 have F:=c.fine x hxl;rw[e] at F;have:=hk n hn;by_cases h:n.kids=[]
 ·obtain⟨f1,f2,f3⟩:=F.leaf h;exact⟨by rw[f1];simp,by omega,by rw[f1];simp,by rw[h];simp,by omega,by omega⟩
 ·obtain⟨f1,f2,f3,f4,f5⟩:=F.inner h;refine⟨by omega,by omega,fun c hc=>?_,fun k hk=>?_,by omega,by omega⟩
  ·have:=JJ f5 c hc;have:=KA n.attr;omega
  ·have:=(F.kid k hk).1;omega
theorem yr1 {p:au}(hv:mG p=true)(hz:(dM p).length<=10):Je p=some (dZ (wG p),0):=by
 have G:=Yi hv hz;obtain⟨b1,b2,-⟩:=Xy p;have hsm:=na0 G.nz;obtain⟨n1,n2⟩:=G.bnd _ b1;have hb:=gd1 G hz 10 0 (List.range (fC p).nz) A0 B0 rfl (yu2 p) (YS p _);have hb':Ic p.Rules (dM p) 11 0 (ints (List.range (dM p).length)) (aF.mk 0 0 0 0 0 0 0 0 0 0) [] [] [] [] [] false=some (Dq (gY p)):=hb;have hkl:∀ x,x<(gY p).1.tab.ns.length->∀ k∈((gY p).1.tab.nd x).kids,k<(gY p).1.tab.ns.length/\aT ((gY p).1.tab.nd x)<aT ((gY p).1.tab.nd k):=fun x hx k hk=>Dz b1.ok hx k hk
 have hlv:∀ x,x<(gY p).1.tab.ns.length->aT ((gY p).1.tab.nd x)<=10:=fun x hx=>xG b1.ok hx
 have hBd:=oe2 b1.ok n1 n2 hsm;have hw:=ox1 hkl hlv hBd n1 b2;obtain⟨w1,-⟩:=Ed (kids:=jf (gY p).1.tab) (lv:=fun x=>aT ((gY p).1.tab.nd x)) (N:=(gY p).1.tab.ns.length) hkl 11 (gY p).2 [] b2 (by omega) (xG b1.ok b2) hlv;have hO:∀ x∈walk (jf (gY p).1.tab) 11 (gY p).2 [],x<(gY p).1.tab.ns.length:=fun x hx=>(w1.lt x hx).elim (by simp) id
 have XW:=w1.CZ (by simp);have uM:∀ x∈walk (jf (gY p).1.tab) 11 (gY p).2 [],∀ k∈((gY p).1.tab.nd x).kids,k∈walk (jf (gY p).1.tab) 11 (gY p).2 []:=fun x hx=>(w1.clo x hx).resolve_left (by simp)
 obtain⟨l,hl1,hl2,hl3⟩:=nd1 XW hO n1;have hr:=va1 b1.ok hl3 uM hO (Nat.le_trans (TL XW hO) n1) (fun x hx=>by
  have:=hsm _ (show (gY p).1.tab.nd x∈(gY p).1.tab.ns from by
   unfold Tab.nd;rw[qI,qD (hO x hx)];exact zA _)
  omega)
 have hmk:U4 ((kM (gY p).1).length:Int) (0:Int)=some (List.replicate (gY p).1.tab.ns.length 0):=by unfold U4;rw[Va,if_pos (by omega)];simp
 have hIn:Gx [] ((gY p).2:Int)=some false:=by rw[Ws _ _ (by simp)];simp
 have hap:appG ([]:List Int) [((gY p).2:Int)]=some [((gY p).2:Int)]:=rU (by simp);unfold Je;simp only[Zx,hv,qC,vX,Bool.not_true,cond_false,vn1 G,hb',Dq,hIn,hap,dF,hmk];rw[show kM (gY p).1=(gY p).1.tab.ns.map bD from rfl,hw];simp only[qC,hl1,hr];rfl
theorem io1 (O:List Nat)(hO:O.length<=20000):dw (PU (ints O)) 0=some (if O=List.range O.length then .inl () else .inr false):=by
 have h:=H8 (step:=PU (ints O)) O.length (fun k=>!decide (O[k]?=some k)) (.inr false) (.inl ()) (fun k hk=>by
  obtain⟨y,hy⟩:∃ y,O[k]?=some y:=⟨_,qD hk⟩;have hlt:(k:Int)<(ints O).length:=by rw[jg];omega
  have hr:oL (ints O) (k:Int)=some k:=by
   unfold oL;rw[if_pos ⟨by omega,hlt⟩];simp
  simp only[PU,bV,dF,hlt,decide_true,cond_true,hr,qC,Ar hy,vX,mX,iD,gI (k:=k) (by omega),hy];by_cases h:y=k
  ·simp[h]
  ·have h':¬ (y:Int)=(k:Int):=by omega
   simp[h,h']) (by
  have hlt:¬ ((O.length:Int)<(ints O).length):=by rw[jg];omega
  simp only[PU,bV,dF,hlt,decide_false,cond_false])
 rw[h];have iff:(List.range O.length).any (fun k=>!decide (O[k]?=some k))=false↔O=List.range O.length:=by
  rw[List.any_eq_false]
  constructor
  ·intro hb;apply List.ext_getElem?;intro k;by_cases hk:k<O.length
   ·have:=hb k (List.mem_range.2 hk);rw[List.getElem?_range hk]
    simpa using this
   ·rw[qT (by omega),qT (by simp;omega)]
  ·intro e k hk;have hk:=List.mem_range.1 hk;have:O[k]?=some k:=by rw[e,List.getElem?_range hk]
   simp[this]
 cases ha:(List.range O.length).any (fun k=>!decide (O[k]?=some k)) with
 |false=>rw[if_neg (by simp),if_pos (iff.1 ha)]
 |true=>rw[if_pos rfl,if_neg (fun e=>by rw[iff.2 e] at ha;cases ha)]
theorem Z9 (t:Tab Decision)(k:Nat):rlv (dZ t) k=iL t k:=by
 rw[rlv,iL,dZ];show ((t.ns.map bD).take k |>.filter _).length=_;rw[<- List.map_take,List.filter_map,qY];congr 1;apply List.filter_congr;intro n _;simp only[Function.comp,bD];cases n.kids<;>rfl
theorem nc1 {t:Tab Decision}(hb:∀ n∈t.ns,Bd n)(hN:t.ns.length<=60):NY (dZ t) t.ns.length↔(∀ x,x<t.ns.length->Fine bn t.ns.length t.ls.length t.nd (t.nd x))/\t.ns.Nodup/\∀ x,x<t.ns.length->(t.nd x).kids=[]->(t.nd x).leaf=iL t x:=by
 have hmem:∀ x,x<t.ns.length->t.nd x∈t.ns:=fun x hx=>by unfold Tab.nd;rw[qI,qD hx];exact zA _
 have hget:∀ x,x<t.ns.length->(dZ t).Nodes[x]?=some (bD (t.nd x)):=fun x hx=>Dx hx
 have hk0:∀ n:Nd,(bD n).Kids=[]↔n.kids=[]:=fun n=>by simp[bD,ints]
 constructor
 ·intro h;refine⟨fun x hx=>?_,nf0 fun i j a hi hj=>?_,fun x hx hk=>?_⟩
  ·obtain⟨b,h1,h2⟩:=cy0 t (hb _ (hmem x hx)) (by omega);have:=(h x _ hx (hget x hx)).1;rw[h1] at this;cases this;exact h2.1 rfl
  ·have hil:=(qA.1 hi).1;have hjl:=(qA.1 hj).1;have ei:(dZ t).Nodes[i]?=some (bD a):=by show (t.ns.map bD)[i]?=_;rw[qF,hi];rfl
   have ej:(dZ t).Nodes[j]?=some (bD a):=by show (t.ns.map bD)[j]?=_;rw[qF,hj];rfl
   rcases Nat.lt_trichotomy i j with hlt|heq|hlt
   ·exact absurd rfl ((h j _ hjl ej).2.1 i _ hlt ei)
   ·exact heq
   ·exact absurd rfl ((h i _ hil ei).2.1 j _ hlt ej)
  ·have:=(h x _ hx (hget x hx)).2.2 ((hk0 _).2 hk);rw[Z9] at this;have e:(bD (t.nd x)).Leaf=((t.nd x).leaf:Int):=rfl;omega
 ·rintro ⟨h1,h2,h3⟩ j N hj hN';rw[hget j hj] at hN';cases hN';obtain⟨b,e1,e2⟩:=cy0 t (hb _ (hmem j hj)) (by omega);refine⟨by rw[e1,e2.2 (h1 j hj)],fun i M hi hM e=>?_,fun hk=>?_⟩
  ·rw[hget i (by omega)] at hM;cases hM;have e:=Yl e;have:=Vd h2 (i:=i) (j:=j) (a:=t.nd j) (by rw[<- e];unfold Tab.nd;rw[qI,qD (show i<t.ns.length by omega)];rfl) (by unfold Tab.nd;rw[qI,qD hj];rfl);omega
  ·rw[Z9];have e:(bD (t.nd j)).Leaf=((t.nd j).leaf:Int):=rfl;have:=h3 j hj ((hk0 _).1 hk);omega
theorem am1 {t:Tab Decision}(hb:∀ n∈t.ns,Bd n)(S:jm (dZ t)):∃ b,Cm (dZ t)=some b/\(b=true↔t.Canon bn):=by
 have hnl:(dZ t).Nodes.length=t.ns.length:=by simp[dZ]
 have hll:(dZ t).Leaves.length=t.ls.length:=rfl;have hN:t.ns.length<=60:=by have:=S.nodes;omega
 unfold Cm;simp only[bV,dF,hnl,hll,mX];by_cases h1:t.ns.length<1
 ·have:((t.ns.length:Nat):Int)<1:=by omega
  rw[qM this];exact⟨false,rfl,⟨fun h=>(by cases h),fun h=>by have:=h.pos;omega⟩⟩
 ·have h1':¬ ((t.ns.length:Nat):Int)<1:=by omega
  have h2':¬ (20000:Int)<((t.ns.length:Nat):Int):=by omega
  rw[qJ h1',cond_false,qJ h2',qC,cond_false];have hc:=kv1 (t:=t) (by omega);obtain⟨r,e,hr⟩:=rt0 S;rw[e];rw[hnl] at hr;rcases hr with ⟨rfl,hok⟩|⟨rfl,hno⟩
  ·obtain⟨f1,f2,f3⟩:=(nc1 hb hN).1 hok;obtain⟨r2,e2,hr2⟩:=yc1 S dm0;have hls:(dZ t).Leaves=t.ls:=rfl;rw[hls] at hr2;rcases hr2 with ⟨rfl,hnd⟩|⟨rfl,hnd⟩
   ·have hlv:∀ x,x<t.ns.length->aT (t.nd x)<=10:=fun x hx=>by
     unfold aT;split
     ·exact qR _
     ·rename_i hk;have:=((f1 x hx).inner hk).1;omega
    have hkl:∀ x,x<t.ns.length->∀ k∈(t.nd x).kids,k<t.ns.length/\aT (t.nd x)<aT (t.nd k):=fun x hx k hk=>by
     have hne:(t.nd x).kids≠[]:=fun e=>by rw[e] at hk;cases hk
     have:=(f1 x hx).kid k hk;refine⟨this.1,?_⟩;rw[show aT (t.nd x)=(t.nd x).attr from by unfold aT;rw[if_neg hne]];exact this.2
    have hO:=nm1 hkl hlv hb (by omega) (by omega);have hIn:Gx [] 0=some false:=Ws [] 0 (by simp);have hap:appG ([]:List Int) [0]=some [0]:=rU (by simp);simp only[e2,gu,hIn,qC,cond_false,hap,hO];obtain⟨w1,-⟩:=Ed (kids:=jf t) (lv:=fun x=>aT (t.nd x)) (N:=t.ns.length) hkl 11 0 [] (by omega) (by omega) (hlv 0 (by omega)) hlv;have XW:(walk (jf t) 11 0 []).Nodup:=w1.CZ List.nodup_nil;have hOlt:∀ y∈walk (jf t) 11 0 [],y<t.ns.length:=fun y hy=>(w1.lt y hy).elim (fun h=>by cases h) id
    clear w1 hO;generalize walk (jf t) 11 0 []=O at *;have hOl:O.length<=t.ns.length:=by
     have:=LC (l:=O) (m:=List.range t.ns.length) XW fun y hy=>List.mem_range.2 (hOlt y hy)
     simpa using this
    rw[io1 O (by omega)];by_cases XY:O=List.range O.length
    ·rw[if_pos XY];refine⟨decide (O.length=t.ns.length)&&decide (iL t t.ns.length=t.ls.length),?_,?_⟩
     ·simp only[jg,Z9];by_cases q1:O.length=t.ns.length
      ·have q1':((O.length:Nat):Int)=((t.ns.length:Nat):Int):=by omega
       rw[qM q1',cond_true,qM q1,Bool.true_and];show some _=some _;exact congrArg some (decide_eq_decide.2 (by omega))
      ·have q1':¬ ((O.length:Nat):Int)=((t.ns.length:Nat):Int):=by omega
       rw[qJ q1',cond_false,qJ q1,Bool.false_and];rfl
     ·rw[qK,qX,qX,hc]
      constructor
      ·rintro ⟨q1,q2⟩;exact⟨⟨f1,f2,f3,by rw[q2,zG];exact hnd⟩,by rw[<- q1];exact XY,q2⟩
      ·rintro ⟨_,q1,q2⟩;exact⟨by rw[q1,List.length_range],q2⟩
    ·rw[if_neg XY];refine⟨false,rfl,⟨fun h=>(by cases h),fun c=>?_⟩⟩;have q1:=(hc.1 c).2.1;exact absurd (by rw[q1,List.length_range]) XY
   ·simp only[e2,gu,qC];exact⟨false,rfl,⟨fun h=>(by cases h),fun c=>absurd c.ok.uD hnd⟩⟩
  ·refine⟨false,rfl,⟨fun h=>(by cases h),fun c=>?_⟩⟩;have F:=(hc.1 c).1;exact absurd ((nc1 hb hN).2 ⟨F.fine,F.nodup,F.leaf⟩) hno
theorem ac1 {T:Table}(S:jm T):Cm T=zQ T:=by
 have hnn:=S.nodes;by_cases hok:∀ N∈T.Nodes,Hu N
 ·obtain⟨t,rfl,hb⟩:=mc1 hok;have hll:(dZ t).Leaves.length=t.ls.length:=rfl;have hnl:(dZ t).Nodes.length=t.ns.length:=by simp[dZ]
  obtain⟨b,e,hv⟩:=ey0 hb (by have:=S.leaves;omega);obtain⟨b',e',hv'⟩:=am1 hb S;rw[e,e'];congr 1;rw[Bool.eq_iff_iff,hv,hv'];exact⟨fun h=>⟨h,by omega⟩,fun h=>h.1⟩
 ·have hf:zQ T=some false:=by
   rcases kh1 S with h|⟨t,rfl,hb,_,_⟩
   ·exact h
   ·exact absurd (fun N hN=>by
     obtain⟨n,hn,rfl⟩:=zJ.1 hN;exact⟨n,rfl,hb n hn⟩) hok
  rw[hf];obtain⟨N,hN,hbad⟩:∃ N∈T.Nodes,¬ Hu N:=Classical.byContradiction fun hno=>hok fun N hN=>Classical.byContradiction fun h=>hno ⟨N,hN,h⟩
  obtain⟨k,hk⟩:=List.getElem?_of_mem hN;have hlt:=(qA.1 hk).1;obtain⟨r,e,hr⟩:=rt0 S;rcases hr with ⟨rfl,hR⟩|⟨rfl,_⟩
  ·obtain⟨b,h1,h2⟩:=mr0 S (S.node N hN);have h3:=(hR k N hlt hk).1;rw[h1] at h3;cases h3;exact absurd (h2 rfl).1 hbad
  ·unfold Cm;have h1':¬ ((T.Nodes.length:Nat):Int)<1:=by omega
   have h2':¬ (20000:Int)<((T.Nodes.length:Nat):Int):=by omega
   simp only[bV,dF,h1',h2',decide_false,cond_false,qC,e,gu]
end Go.SX.Td
