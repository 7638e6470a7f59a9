/- Parts of the proof. -/
import Derived.Test.YtllbabjgpdmblaaGreatDoorZTdP4
import Derived.Test.YtllbabjgpdmblaaGreatDoorZTbV
import Derived.Test.YtllbabjgpdmblaaGreatDoorZTryzShelf
import Derived.Test.YtllbabjgpdmblaaGreatDoorZTd17d
import Derived.Test.YtllbabjgpdmblaaGreatDoorZTd32d
import Derived.Test.YtllbabjgpdmblaaGreatDoorZTdP2
import Derived.Test.YtllbabjgpdmblaaGreatDoorZTd49
set_option linter.unusedSimpArgs false
set_option linter.unusedVariables false
set_option linter.unusedSectionVars false
namespace Go.SX.Td
open Go Go.SX Tb
def Hu (N:Node):Prop:=∃ n:Nd,N=bD n/\Bd n
structure F5 (N:Node):Prop where
 cuts:N.aI.length<=20
 kids:N.Kids.length<=21
 attr:qg N.Attr
 leaf:qg N.Leaf
 cv:∀ c∈N.aI,qg c
 kv:∀ k∈N.Kids,qg k
structure jm (T:Table):Prop where
 nodes:T.Nodes.length<=60
 leaves:T.Leaves.length<=60
 node:∀ N∈T.Nodes,F5 N
theorem qh2 (N:Node)(lo hi:Int)(hN:N.aI.length<=20):∃ r,dw (Cj N hi) (lo,0)=some r/\(r=.inr false\/r=.inl ()/\∀ c∈N.aI,lo<c/\c<=hi):=by
 refine sU (step:=Cj N hi) (fun (s:Int) i=>(s,i)) N.aI.length (fun k s=>lo<=s/\∀ c∈N.aI.take k,lo<c/\c<=hi) _ (fun k s hk hI=>?_) (fun s hI=>?_) lo (by simp)
 ·obtain⟨i1,i2⟩:=hI;have hx:N.aI[k]?=some N.aI[k]:=by simp[hk]
  have ht:N.aI.take (k+1)=N.aI.take k++[N.aI[k]]:=by rw[qW,hx];rfl
  generalize N.aI[k]=x at hx ht;have hlt:(k:Int)<N.aI.length:=by omega
  simp only[Cj,bV,dF,hlt,decide_true,cond_true,fB hx,qC,nY,iD,gI (k:=k) (by omega)];by_cases ha:x<=s
  ·exact .inr ⟨.inr false,by simp[ha],.inl rfl⟩
  ·by_cases hb:hi<x
   ·exact .inr ⟨.inr false,by simp[ha,hb],.inl rfl⟩
   ·refine .inl ⟨x,by simp[ha,hb],by omega,fun c hc=>?_⟩;rw[ht] at hc;rcases qO.1 hc with hc|hc
    ·exact i2 c hc
    ·simp only[zE] at hc;subst hc;omega
 ·have hlt:¬ ((N.aI.length:Int)<N.aI.length):=by omega
  refine⟨.inl (),by simp only[Cj,bV,dF,hlt,decide_false,cond_false],.inr ⟨rfl,?_⟩⟩;have:=hI.2
  rwa [zG] at this
theorem oo1 {T:Table}(S:jm T)(N:Node)(hN:N.Kids.length<=21):∃ r,dw (D9 N T) 0=some r/\(r=.inr false\/r=.inl ()/\∀ k∈N.Kids,0<=k/\k<60):=by
 have hnn:=S.nodes;refine sU (step:=D9 N T) (fun (_:Unit) i=>i) N.Kids.length (fun k _=>∀ c∈N.Kids.take k,0<=c/\c<60) _ (fun k s hk hI=>?_) (fun s hI=>?_) () (by simp)
 ·have hx:N.Kids[k]?=some N.Kids[k]:=by simp[hk]
  have ht:N.Kids.take (k+1)=N.Kids.take k++[N.Kids[k]]:=by rw[qW,hx];rfl
  generalize N.Kids[k]=x at hx ht;have hlt:(k:Int)<N.Kids.length:=by omega
  simp only[D9,bV,dF,hlt,decide_true,cond_true,fB hx,qC,nY,iD,gI (k:=k) (by omega)];by_cases h0:x<0
  ·exact .inr ⟨.inr false,by rw[qM h0];rfl,.inl rfl⟩
  ·rw[qJ h0,cond_false];by_cases h1:(T.Nodes.length:Int)<=x
   ·exact .inr ⟨.inr false,by rw[qM h1];rfl,.inl rfl⟩
   ·rw[qJ h1,cond_false];obtain⟨i,rfl⟩:∃ i:Nat,x=(i:Int):=⟨x.toNat,by omega⟩;have hi:i<T.Nodes.length:=by omega
    have hg:bU T.Nodes (i:Int)=some T.Nodes[i]:=fB (by simp[hi]);generalize T.Nodes[i]=y at hg;have tail:∃ b,(bif decide (0<((y.Kids.length:Nat):Int)) then some (decide (y.Attr<=N.Attr)) else some false)=some b:=by
     by_cases h:0<((y.Kids.length:Nat):Int)
     ·exact⟨_,by rw[qM h,cond_true]⟩
     ·exact⟨_,by rw[qJ h,cond_false]⟩
    obtain⟨b,htail⟩:=tail;have fin:∀ c∈N.Kids.take (k+1),0<=c/\c<60:=fun c hc=>by
     rw[ht] at hc;rcases qO.1 hc with hc|hc
     ·exact hI c hc
     ·simp only[zE] at hc;subst hc;omega
    by_cases h2:(0:Int)<(k:Int)
    ·obtain⟨z,hz⟩:∃ z,N.Kids[k - 1]?=some z:=⟨N.Kids[k - 1]'(by omega),by rw[qD]⟩;have hp:io.ar .sub .i64 (k:Int) 1=((k - 1:Nat):Int):=by rw[Kw,wE (by omega) (by omega)];omega
     simp only[qM h2,cond_true,hp,fB hz,qC,mX];by_cases h3:z=(i:Int)
     ·exact .inr ⟨.inr false,by rw[qM h3];rfl,.inl rfl⟩
     ·simp only[qJ h3,cond_false,hg,qC,htail]
      cases b with
      |true=>exact .inr ⟨.inr false,rfl,.inl rfl⟩
      |false=>exact .inl ⟨(),rfl,fin⟩
    ·simp only[qJ h2,cond_false,hg,qC,htail]
     cases b with
     |true=>exact .inr ⟨.inr false,rfl,.inl rfl⟩
     |false=>exact .inl ⟨(),rfl,fin⟩
 ·have hlt:¬ ((N.Kids.length:Int)<N.Kids.length):=by omega
  refine⟨.inl (),by simp only[D9,bV,dF,hlt,decide_false,cond_false],.inr ⟨rfl,?_⟩⟩
  rwa [zG] at hI
theorem bo1 {N:Node}(ha:0<=N.Attr/\N.Attr<60)(hl:0<=N.Leaf/\N.Leaf<60)(hcl:N.aI.length<=20)(hkl:N.Kids.length<=21)(hc:∀ c∈N.aI,-1<=c/\c<=1000000000)(hk:∀ k∈N.Kids,0<=k/\k<60):Hu N:=by
 obtain⟨A,C,K,l⟩:=N;simp only at ha hl hcl hkl hc hk;refine⟨⟨A.toNat,C,K.map Int.toNat,l.toNat⟩,?_,?_⟩
 ·have e:K=ints (K.map Int.toNat):=by
   unfold ints;rw[List.map_map]
   conv=>lhs;rw[<- List.map_id K]
   refine List.map_congr_left fun k h=>?_
   have:=hk k h;show k=Int.ofNat k.toNat;rw[Int.ofNat_eq_natCast];omega
  have e1:A=(A.toNat:Int):=by omega
  have e2:l=(l.toNat:Int):=by omega
  show Node.mk A C K l=Node.mk (A.toNat:Int) C (ints (K.map Int.toNat)) (l.toNat:Int);rw[<- e,<- e1,<- e2]
 ·refine⟨by show C.length<=_;omega,by simp;omega,fun c h=>by have:=hc c h;omega,fun k h=>?_,by show A.toNat<=_;omega,by show l.toNat<=_;omega⟩;simp only[zJ] at h;obtain⟨j,hj,rfl⟩:=h;have:=hk j hj;omega
theorem mr0 {T:Table}(S:jm T){N:Node}(hS:F5 N):∃ b,Gp T N=some b/\(b=true->Hu N/\(N.Kids=[]->N.Leaf<T.Leaves.length)):=by
 have hcl:=hS.cuts;have hkl:=hS.kids;have hnl:=S.leaves;unfold Gp;simp only[mX,dF,nY,bV,vX];by_cases hk:N.Kids=[]
 ·have h0:((N.Kids.length:Nat):Int)=0:=by rw[hk];rfl
  rw[qM h0,cond_true];by_cases h1:((N.aI.length:Nat):Int)=0
  ·rw[qM h1,cond_true];by_cases h2:N.Attr=0
   ·rw[qM h2,cond_true];by_cases h3:0<=N.Leaf
    ·rw[qM h3,cond_true];refine⟨_,rfl,fun h=>?_⟩;have h4:N.Leaf<T.Leaves.length:=by simpa using h
     have h5:N.aI=[]:=List.eq_nil_of_length_eq_zero (by omega);exact⟨bo1 (by omega) (by omega) hcl hkl (by rw[h5];simp) (by rw[hk];simp),fun _=>h4⟩
    ·exact⟨false,by rw[qJ h3,cond_false],fun h=>by cases h⟩
   ·exact⟨false,by rw[qJ h2,cond_false],fun h=>by cases h⟩
  ·exact⟨false,by rw[qJ h1,cond_false],fun h=>by cases h⟩
 ·have h0:¬ ((N.Kids.length:Nat):Int)=0:=by
   have:N.Kids.length≠0:=by simpa using hk
   omega
  rw[qJ h0,cond_false];by_cases h1:N.Attr<0
  ·exact⟨false,by rw[qM h1];rfl,fun h=>by cases h⟩
  ·rw[qJ h1,cond_false];by_cases h2:10<=N.Attr
   ·exact⟨false,by rw[qM h2];rfl,fun h=>by cases h⟩
   ·rw[qJ h2,cond_false];by_cases h3:N.Leaf=0
    ·rw[qM h3,Bool.not_true,cond_false];by_cases h4:((N.aI.length:Nat):Int)=0
     ·exact⟨false,by rw[qM h4];rfl,fun h=>by cases h⟩
     ·rw[qJ h4,cond_false];obtain⟨a,ha⟩:∃ a:Nat,N.Attr=(a:Int):=⟨N.Attr.toNat,by omega⟩;have qy:a<10:=by omega
      obtain⟨r1,e1,c1⟩:=qh2 N (dW.get a).Lo (dW.get a).Hi hcl;obtain⟨r2,e2,c2⟩:=oo1 S N hkl;simp only[qC,ha,Q9,wS qy,e1];by_cases h5:((N.Kids.length:Nat):Int)=io.ar .add .i64 ((N.aI.length:Nat):Int) 1
      ·rw[qM h5];rcases c1 with rfl|⟨rfl,c1⟩
       ·exact⟨false,rfl,fun h=>by cases h⟩
       ·simp only[Bool.not_true,cond_false,gu,qC,e2];rcases c2 with rfl|⟨rfl,c2⟩
        ·exact⟨false,rfl,fun h=>by cases h⟩
        ·refine⟨true,rfl,fun _=>⟨bo1 (by omega) (by omega) hcl hkl (fun c hc=>?_) c2,fun h=>absurd h hk⟩⟩;have:=c1 c hc;have h5:=KA a;have e5:bn.lo a=(dW.get a).Lo:=rfl;have e6:bn.hi a=(dW.get a).Hi:=rfl;omega
      ·exact⟨false,by rw[qJ h5];rfl,fun h=>by cases h⟩
    ·exact⟨false,by rw[qJ h3];rfl,fun h=>by cases h⟩
theorem mq1 {T:Table}(S:jm T){k0:Nat}{N0:Node}(hk0:T.Nodes[k0]?=some N0)(hbad:¬ Hu N0):dw (HY T) ([],[],0,0)=some (.inr false):=by
 have hlt0:=(qA.1 hk0).1;have hnn:=S.nodes;obtain⟨r,h1,rfl⟩:=sU (step:=HY T) (fun (s:List (ByteArray×Bool)×List (Decision×Bool)×Int) i=>(s.1,s.2.1,s.2.2,i)) T.Nodes.length
  (fun k s=>k<=k0/\∃ j:Nat,s.2.2=(j:Int)/\j<=k) (fun r=>r=.inr false) (fun k s hk hI=>by
  obtain⟨known,dec,leaf⟩:=s;obtain⟨i1,j,i2,i3⟩:=hI;simp only at i2;subst i2;have hx:T.Nodes[k]?=some T.Nodes[k]:=by simp[hk]
  have hm:T.Nodes[k]∈T.Nodes:=zA _;generalize T.Nodes[k]=N at hx hm;have hS:=S.node N hm;have hlt:(k:Int)<T.Nodes.length:=by omega
  have htxt:LZ [N.aI,N.Kids,[N.Attr,N.Leaf]]=some (DJ N):=by
   rw[text_eq (mg1 (fun x hx=>by
    simp only[List.mem_cons,List.not_mem_nil,or_false] at hx;rcases hx with rfl|rfl|rfl
    ·have:=hS.cuts;omega
    ·have:=hS.kids;omega
    ·simp) (by simp) (fun x hx m hm=>by
    simp only[List.mem_cons,List.not_mem_nil,or_false] at hx;rcases hx with rfl|rfl|rfl
    ·exact hS.cv m hm
    ·exact hS.kv m hm
    ·simp only[List.mem_cons,List.not_mem_nil,or_false] at hm;rcases hm with rfl|rfl
     ·exact hS.attr
     ·exact hS.leaf))]
   rfl
  obtain⟨b,f1,f2⟩:=mr0 S hS;simp only[HY,bV,dF,hlt,decide_true,cond_true,fB hx,qC,htxt,mX,vX,iD,gI (k:=k) (by omega),gI (k:=j) (by omega)]
  cases nI known (DJ N) false with
  |true=>exact .inr ⟨.inr false,rfl,rfl⟩
  |false =>
   rw[f1]
   cases b with
   |false=>exact .inr ⟨.inr false,rfl,rfl⟩
   |true =>
    obtain⟨g1,g2⟩:=f2 rfl;have hkk:k+1<=k0:=by
     rcases Nat.lt_or_eq_of_le i1 with h|h
     ·exact h
     ·subst h;rw[hk0] at hx;cases hx;exact absurd g1 hbad
    simp only[cond_false,qC,Bool.not_true];by_cases hkd:N.Kids=[]
    ·have h0:((N.Kids.length:Nat):Int)=0:=by rw[hkd];rfl
     rw[qM h0,cond_true];by_cases hle:N.Leaf=(j:Int)
     ·have hj:j<T.Leaves.length:=by have:=g2 hkd;omega
      have hgl:bU T.Leaves (j:Int)=some T.Leaves[j]:=fB (by simp[hj]);generalize T.Leaves[j]=d at hgl;rw[qM hle,Bool.not_true,cond_false,hgl];simp only[qC]
      cases nI dec d false with
      |true=>exact .inr ⟨.inr false,rfl,rfl⟩
      |false=>exact .inl ⟨(sW known (DJ N) true,sW dec d true,((j+1:Nat):Int)),rfl,hkk,j+1,rfl,by omega⟩
     ·exact .inr ⟨.inr false,by rw[qJ hle];rfl,rfl⟩
    ·have h0:¬ ((N.Kids.length:Nat):Int)=0:=by
      have:N.Kids.length≠0:=by simpa using hkd
      omega
     rw[qJ h0,cond_false];exact .inl ⟨(sW known (DJ N) true,dec,(j:Int)),rfl,hkk,j,rfl,by omega⟩) (fun s hI=>by
  have:=hI.1;omega) ([],[],0) ⟨Nat.zero_le _,0,rfl,qR _⟩
 exact h1
theorem mc1 {T:Table}(h:∀ N∈T.Nodes,Hu N):∃ t,T=dZ t/\∀ n∈t.ns,Bd n:=by
 obtain⟨Ns,ls⟩:=T;have key:∀ l:List Node,(∀ N∈l,Hu N)->∃ m:List Nd,l=m.map bD/\∀ n∈m,Bd n:=by
  intro l
  induction l with
  |nil=>exact fun _=>⟨[],rfl,by simp⟩
  |cons N l ih =>
   intro h;obtain⟨m,rfl,hm⟩:=ih fun N hN=>h N (zB _ hN)
   obtain⟨n,rfl,hn⟩:=h N (by simp);exact⟨n::m,rfl,fun x hx=>by
    rcases List.mem_cons.1 hx with rfl|hx
    ·exact hn
    ·exact hm x hx⟩
 obtain⟨m,e,hm⟩:=key Ns h;exact⟨⟨m,ls⟩,by rw[dZ,<- e],hm⟩
theorem kh1 {T:Table}(S:jm T):zQ T=some false\/∃ t:Tab Decision,T=dZ t/\(∀ n∈t.ns,Bd n)/\t.Canon bn/\zQ T=some true:=by
 have hnn:=S.nodes;by_cases hok:∀ N∈T.Nodes,Hu N
 ·obtain⟨t,rfl,hb⟩:=mc1 hok;obtain⟨b,e,hv⟩:=ey0 hb (by have:=S.leaves;show t.ls.length<=_;have e:(dZ t).Leaves.length=t.ls.length:=rfl;omega)
  cases b with
  |false=>exact .inl e
  |true=>exact .inr ⟨t,rfl,hb,(hv.1 rfl).1,e⟩
 ·refine .inl ?_;have:∃ N∈T.Nodes,¬ Hu N:=by
   refine Classical.byContradiction fun hno=>hok fun N hN=>Classical.byContradiction fun h=>hno ⟨N,hN,h⟩
  obtain⟨N,hN,hbad⟩:=this;obtain⟨k,hk⟩:=List.getElem?_of_mem hN;have hlt:=(qA.1 hk).1;have hw:=mq1 S hk hbad;unfold zQ;have h1:¬ ((T.Nodes.length:Nat):Int)<1:=by omega
  have h2:¬ (20000:Int)<((T.Nodes.length:Nat):Int):=by omega
  simp only[bV,dF,qJ h1,qJ h2,cond_false,qC,hw];rfl
def pI : Nat->List Rule->List Live
 |_,[]=>[]
 |i,r::l=>(List.range r.ay.length).map (fun k:Nat=>Live.mk (i:Int) (k:Int))++pI (i+1) l
theorem XA : ∀ (i:Nat)(l:List Rule),(pI i l).length=(l.flatMap (·.ay)).length
 |_,[]=>rfl
 |i,r::l=>by
  have:=XA (i+1) l;simp only[pI,List.flatMap_cons,qN,qY,List.length_range,this]
theorem yo1 : ∀ (l:List Rule)(i z:Nat)(zn:aF Range),(l.flatMap (·.ay))[z]?=some zn ->
  ∃ (a k:Nat)(r:Rule),(pI i l)[z]?=some ⟨((i+a:Nat):Int),(k:Int)⟩/\l[a]?=some r/\r.ay[k]?=some zn
 |[],_,_,_,h=>by simp at h
 |r::l,i,z,zn,h=>by
  rw[List.flatMap_cons] at h;by_cases hz:z<r.ay.length
  ·rw[qQ hz] at h;refine⟨0,z,r,?_,rfl,h⟩;simp only[pI];rw[qQ (by simpa using hz)];simp[hz]
  ·rw[qS (by omega)] at h;obtain⟨a,k,r',h1,h2,h3⟩:=yo1 l (i+1) (z - r.ay.length) zn h;refine⟨a+1,k,r',?_,by simpa using h2,h3⟩;simp only[pI];rw[qS (by simp;omega)];rw[show i+(a+1)=i+1+a by omega]
   simpa using h1
theorem ga1 : ∀ (l:List Rule)(i:Nat),∀ x∈pI i l,(i:Int)<=x.rule
 |[],_,x,h=>by simp[pI] at h
 |r::l,i,x,h=>by
  simp only[pI,qO,zJ,List.mem_range] at h;rcases h with ⟨k,_,rfl⟩|h
  ·exact Int.le_refl _
  ·have:=ga1 l (i+1) x h;omega
theorem tv0 : ∀ (l:List Rule)(i:Nat),(pI i l).Nodup
 |[],_=>by simp[pI]
 |r::l,i=>by
  simp only[pI];rw[List.nodup_append];refine⟨?_,tv0 l (i+1),fun a ha b hb e=>?_⟩
  ·rw[List.nodup_iff_pairwise_ne,List.pairwise_map];exact List.Pairwise.imp (fun {a b} h e=>by simp only[Live.mk.injEq,true_and] at e;omega) (List.nodup_iff_pairwise_ne.1 List.nodup_range)
  ·subst e;simp only[zJ,List.mem_range] at ha;obtain⟨k,_,rfl⟩:=ha;have:=ga1 l (i+1) _ hb;simp only at this;omega
def lv (p:au)(z:Nat):Live:=(pI 0 p.Rules).getD z default
def pz (p:au)(l:List Nat):List Live:=l.map (lv p)
theorem yz2 {p:au}{z:Nat}(hz:z<(dM p).length):∃ (a k:Nat)(r:Rule)(zn:aF Range),lv p z=⟨(a:Int),(k:Int)⟩/\p.Rules[a]?=some r/\r.ay[k]?=some zn/\(dM p)[z]?=some zn:=by
 have h:(dM p)[z]?=some (dM p)[z]:=by simp[hz]
 obtain⟨a,k,r,h1,h2,h3⟩:=yo1 p.Rules 0 z _ h;refine⟨a,k,r,_,?_,h2,h3,h⟩;unfold lv;rw[qI,h1];simp
theorem gj2 {p:au}{z z':Nat}(hz:z<(dM p).length)(hz':z'<(dM p).length)(h:lv p z=lv p z'):z=z':=by
 have hl:(pI 0 p.Rules).length=(dM p).length:=XA 0 _;unfold lv at h;rw[qI,qI,qD (by omega),qD (by omega)] at h;exact Vw (tv0 _ _) (by omega) (by omega) h
theorem wa2 {p:au}:∀ {l m:List Nat},(∀ z∈l,z<(dM p).length)->(∀ z∈m,z<(dM p).length)->pz p l=pz p m->l=m
 |[],[],_,_,_=>rfl
 |[],_::_,_,_,h=>by simp[pz] at h
 |_::_,[],_,_,h=>by simp[pz] at h
 |a::l,b::m,h1,h2,h=>by
  simp only[pz,zC,List.cons.injEq] at h;rw[gj2 (h1 a (by simp)) (h2 b (by simp)) h.1,wa2 (l:=l) (m:=m) (fun z hz=>h1 z (zB _ hz)) (fun z hz=>h2 z (zB _ hz)) h.2]
theorem nu1 {p:au}{l:List Nat}{k z:Nat}(h:l[k]?=some z):(pz p l)[k]?=some (lv p z):=by simp[pz,h]
theorem JH (p:au)(l:List Nat):(pz p l).length=l.length:=by simp[pz]
theorem ix1 {x y:Live}{r s:List UInt8}(h:xJ x++r=xJ y++s):x=y/\r=s:=by
 simp only[xJ,List.append_assoc,List.singleton_append,List.cons_append,zN] at h;obtain⟨h1,h2⟩:=Xq (fun e=>(Nv x.rule _ e).2.2 rfl) (fun e=>(Nv y.rule _ e).2.2 rfl) h;obtain⟨h3,h4⟩:=Xq (fun e=>(Nv x.zone _ e).1 rfl) (fun e=>(Nv y.zone _ e).1 rfl) h2;obtain⟨a,b⟩:=x;obtain⟨c,d⟩:=y;exact⟨by rw[show a=c from YJ h1,show b=d from YJ h3],h4⟩
theorem un1 : ∀ {l m:List Live},rZ l=rZ m->l=m
 |[],[],_=>rfl
 |[],y::m,h=>by have:=congrArg List.length h;simp[rZ,xJ] at this
 |x::l,[],h=>by have:=congrArg List.length h;simp[rZ,xJ] at this
 |x::l,y::m,h=>by
  simp only[rZ,List.flatMap_cons] at h;obtain⟨rfl,h2⟩:=ix1 h;rw[un1 (l:=l) (m:=m) h2]
def keyS (a x:Nat)(l:List Live):ByteArray:=⟨(rZ (Live.mk (a:Int) (x:Int)::l)).toArray⟩
theorem qj2 {a a' x x':Nat}{l l':List Live}(h:keyS a x l=keyS a' x' l'):a=a'/\x=x'/\l=l':=by
 have:=congrArg (fun s:ByteArray=>s.data.toList) h;simp only[keyS] at this;have h2:=un1 (by simpa using this);simp only[List.cons.injEq,Live.mk.injEq] at h2;exact⟨by omega,by omega,h2.2⟩
theorem mx1 : ∀ (l:List Live),(∀ x∈l,qg x.rule/\qg x.zone)->(rZ l).length<=50 * l.length
 |[],_=>by simp[rZ]
 |x::l,h=>by
  have h1:=mx1 l fun y hy=>h y (zB _ hy)
  have h2:=Lib.itoa_length_le x.rule (h x (by simp)).1.1 (h x (by simp)).1.2;have h3:=Lib.itoa_length_le x.zone (h x (by simp)).2.1 (h x (by simp)).2.2;have e:rZ (x::l)=xJ x++rZ l:=by simp[rZ]
  rw[e,qN,qZ];simp only[xJ,qN,zF];omega
section
variable {p:au}(G:PG p)(hR:p.Rules.length<=1000)(hZ:∀ r∈p.Rules,r.ay.length<=1000)
include G hR hZ
theorem qv3 {z:Nat}(hz:z<(dM p).length):qg (lv p z).rule/\qg (lv p z).zone:=by
 obtain⟨a,k,r,zn,h1,h2,h3,-⟩:=yz2 hz;rw[h1];have ha:=(qA.1 h2).1;have hk:=(qA.1 h3).1;have:=hZ r (qL h2);exact⟨⟨by show -9223372036854775808<=(a:Int);omega,by show (a:Int)<=_;omega⟩,⟨by show -9223372036854775808<=(k:Int);omega,by show (k:Int)<=_;omega⟩⟩
theorem key_eq {a x:Nat}{l:List Nat}(ha:a<=10)(hx:x<=20000)(hl:∀ z∈l,z<(dM p).length)(hn:l.length<=1000):QO (a:Int) (x:Int) (pz p l)=some (keyS a x (pz p l)):=by
 have h1:∀ y∈pz p l,qg y.rule/\qg y.zone:=fun y hy=>by
  simp only[pz,zJ] at hy;obtain⟨z,hz,rfl⟩:=hy;exact qv3 G hR hZ (hl z hz)
 have i1:qg (a:Int):=⟨by omega,by omega⟩;have i2:qg (x:Int):=⟨by omega,by omega⟩;have h2:=mx1 (Live.mk (a:Int) (x:Int)::pz p l) fun y hy=>by
  rcases List.mem_cons.1 hy with rfl|hy
  ·exact⟨i1,i2⟩
  ·exact h1 y hy
 rw[qZ,JH] at h2;unfold QO;rw[if_pos ⟨i1,i2,h1,by omega,by rw[JH];omega⟩];rfl
omit hR hZ in
theorem lc1 {z a:Nat}(hz:z<(dM p).length)(ha:a<10):∃ (i k:Nat)(r:Rule)(zn:aF Range),(lv p z).rule=(i:Int)/\(lv p z).zone=(k:Int)/\p.Rules[i]?=some r/\r.ay[k]?=some zn /\
  (zn.get a).Lo=kL (dM p) z a/\(zn.get a).Hi=jQ (dM p) z a/\0<=kL (dM p) z a/\jQ (dM p) z a<=1000000000:=by
 obtain⟨i,k,r,zn,h1,h2,h3,h4⟩:=yz2 hz;have:=G.YN.get hz ha;exact⟨i,k,r,zn,by rw[h1],by rw[h1],h2,h3,by simp[kL,h4],by simp[jQ,h4],this.1,this.2.2⟩
omit hR hZ in
theorem li1 {a:Nat}(ha:a<10){live:List Nat}(hl:∀ z∈live,z<(dM p).length)(hn:live.length<=1000000) :
  dw (O5 (pz p live) p.Rules (a:Int) dW) ([(dW.get a).Lo],0)=some (yE (dM p) a live):=by
 have e3:bn.lo a=(dW.get a).Lo:=rfl;have e4:bn.hi a=(dW.get a).Hi:=rfl;refine Df (step:=O5 (pz p live) p.Rules (a:Int) dW) (fun s i=>(s,i)) (ints live) (Ie (dM p) a) [(dW.get a).Lo] _ (fun k x hx=>?_) (by simp[O5,bV,dF,jg,JH];rfl);have hk:k<(ints live).length:=(qA.1 hx).1;have hka:k<live.length:=by rwa [jg] at hk
 obtain⟨i,hi,rfl⟩:∃ i,live[k]?=some i/\x=(i:Int):=⟨live[k],by simp[hka],by
  rw[Ar (i:=live[k]) (by simp[hka])] at hx;exact(Option.some.inj hx).symm⟩
 have hlt:(k:Int)<(pz p live).length:=by rw[JH];omega
 obtain⟨q,j,r,zn,g1,g2,g3,g4,g5,g6,g7,g8⟩:=lc1 G (hl i (qL hi)) ha;have hsl:=U6 (dM p) a ((ints live).take k) [(dW.get a).Lo];have hkl:((ints live).take k).length<=1000000:=by rw[qU,jg];omega
 generalize ((ints live).take k).foldl (Ie (dM p) a) [(dW.get a).Lo]=s at hsl;simp only[zF] at hsl;have hlk:=nu1 (p:=p) hi;generalize lv p i=x at hlk g1 g2;have i1:bU p.Rules x.rule=some r:=by rw[g1];exact fB g3
 have i2:bU r.ay x.zone=some zn:=by rw[g2];exact fB g4
 have hw:IntKind.i64.wrap (jQ (dM p) i a+1)=jQ (dM p) i a+1:=wE (by have:=G.YN.get (hl i (qL hi)) ha;omega) (by omega);have hap:∀ (s:List Int) c,s.length<=100000000->appG s [c]=some (s++[c]):=fun s c h=>rU (by simp;omega)
 have h1:=Yj a s (kL (dM p) i a);simp only[O5,bV,nY,dF,hlt,decide_true,cond_true,fB hlk,i1,i2,wS ha,qC,iD,gI (k:=k) (by omega),g5,g6,hw,Ie,Int.toNat_natCast];unfold xX;rw[e3,e4];by_cases h1:(dW.get a).Lo<kL (dM p) i a
 ·by_cases h2:kL (dM p) i a<=(dW.get a).Hi
  ·by_cases h3:(dW.get a).Lo<jQ (dM p) i a+1
   ·by_cases h4:jQ (dM p) i a+1<=(dW.get a).Hi
    ·simp[h1,h2,h3,h4,hap s _ (by omega),hap (s++[_]) _ (by simp;omega)]
    ·simp[h1,h2,h3,h4,hap s _ (by omega)]
   ·simp[h1,h2,h3,hap s _ (by omega)]
  ·by_cases h3:(dW.get a).Lo<jQ (dM p) i a+1
   ·by_cases h4:jQ (dM p) i a+1<=(dW.get a).Hi
    ·simp[h1,h2,h3,h4,hap s _ (by omega)]
    ·simp[h1,h2,h3,h4]
   ·simp[h1,h2,h3]
 ·by_cases h3:(dW.get a).Lo<jQ (dM p) i a+1
  ·by_cases h4:jQ (dM p) i a+1<=(dW.get a).Hi
   ·simp[h1,h3,h4,hap s _ (by omega)]
   ·simp[h1,h3,h4]
  ·simp[h1,h3]
end
theorem X9 (a:Nat):∀ (l:List Int)(s:List Int),(l.foldl (xX a) s).length<=s.length+l.length
 |[],s=>by simp
 |c::l,s=>by
  have:=X9 a l (xX a s c);have h1:=Yj a s c;rw[qV,qZ];omega
theorem nc0 (a:Nat)(x:Int):∀ (l:List Int)(s:List Int),x∈l.foldl (xX a) s↔x∈s\/x∈l/\bn.lo a<x/\x<=bn.hi a
 |[],s=>by simp
 |c::l,s=>by
  rw[qV,nc0 a x l,qi1];simp only[List.mem_cons]
  constructor
  ·rintro ((h|⟨rfl,h⟩)|⟨h1,h2⟩)
   ·exact .inl h
   ·exact .inr ⟨.inl rfl,h⟩
   ·exact .inr ⟨.inr h1,h2⟩
  ·rintro (h|⟨rfl|h1,h2⟩)
   ·exact .inl (.inl h)
   ·exact .inl (.inr ⟨rfl,h2⟩)
   ·exact .inr ⟨h1,h2⟩
theorem th1 (N:Node){a:Nat}(ha:a<10)(s:List Int)(hC:N.aI.length<=1000000)(hs:s.length<=10000000):dw (OX N (a:Int) dW) (s,0)=some (N.aI.foldl (xX a) s):=by
 have e3:bn.lo a=(dW.get a).Lo:=rfl;have e4:bn.hi a=(dW.get a).Hi:=rfl;refine Df (step:=OX N (a:Int) dW) (fun s i=>(s,i)) N.aI (xX a) s _ (fun k x hx=>?_) (by simp[OX,bV,dF]);have hk:k<N.aI.length:=(qA.1 hx).1;have hlt:(k:Int)<N.aI.length:=by omega
 have hsl:=X9 a (N.aI.take k) s;have hkl:(N.aI.take k).length<=1000000:=by rw[qU];omega
 generalize (N.aI.take k).foldl (xX a) s=s' at hsl;have hap:appG s' [x]=some (s'++[x]):=rU (by simp;omega);simp only[OX,bV,nY,dF,hlt,decide_true,cond_true,fB hx,wS ha,qC,iD,gI (k:=k) (by omega),xX,e3,e4];by_cases h1:(dW.get a).Lo<x
 ·by_cases h2:x<=(dW.get a).Hi
  ·simp[h1,h2,hap]
  ·simp[h1,h2]
 ·simp[h1]
theorem mw1 {t:Tab Decision}{i:Nat}(hi:i<t.ns.length):t.nd i∈t.ns:=by
 unfold Tab.nd;rw[qI,qD hi];exact zA _
noncomputable def Jm (p:au)(t:Tab Decision)(a:Nat)(live:List Nat)(x:Nat):List Int :=
 C9 (sortL (if (t.nd x).kids≠[]/\(t.nd x).attr=a then (t.nd x).cuts.foldl (xX a) (yE (dM p) a live) else yE (dM p) a live))
theorem fy1 {t:Tab Decision}{x a:Nat}(hx:x<t.ns.length) :
  (Option.bind (bU (dZ t).Nodes (x:Int)) fun x25=>bif decide ((0:Int)<(x25.Kids.length:Int)) then (Option.bind (bU (dZ t).Nodes (x:Int)) fun KW=>some (decide (KW.Attr=(a:Int)))) else some false)=some (decide ((t.nd x).kids≠[]/\(t.nd x).attr=a)):=by
 have hg:bU (dZ t).Nodes (x:Int)=some (bD (t.nd x)):=fB (Dx hx);have hkl:((bD (t.nd x)).Kids.length:Int)=((t.nd x).kids.length:Nat):=by simp[bD,jg]
 have ha:(bD (t.nd x)).Attr=((t.nd x).attr:Int):=rfl;rw[hg];simp only[qC,hkl,ha];by_cases h:(t.nd x).kids=[]
 ·have h0:¬ (0:Int)<((t.nd x).kids.length:Nat):=by rw[h];simp
  rw[qJ h0,cond_false];simp[h]
 ·have h0:(0:Int)<((t.nd x).kids.length:Nat):=by
   have:(t.nd x).kids.length≠0:=by simpa using h
   omega
  rw[qM h0,cond_true];congr 1;rw[decide_eq_decide];exact⟨fun e=>⟨h,by omega⟩,fun e=>by omega⟩
theorem vals_eq {p:au}(G:PG p){t:Tab Decision}(hb:∀ n∈t.ns,Bd n){a x:Nat}(ha:a<10)(hx:x<t.ns.length){live:List Nat}(hl:∀ z∈live,z<(dM p).length)(hn:live.length<=1000)(f:aF Int)(eq:List (ByteArray×Bool)) :
  Rw p.Rules (dZ t).Nodes (dZ t).Leaves dW (a:Int) (pz p live) (x:Int) f eq=some (Jm p t a live x):=by
 have hg:bU (dZ t).Nodes (x:Int)=some (bD (t.nd x)):=fB (Dx hx);have hbx:=hb _ (mw1 hx);have h1:=li1 G ha hl (by omega);have hsl:=U6 (dM p) a (ints live) [bn.lo a];rw[jg,zF] at hsl;have Uj:(yE (dM p) a live).length<=3000:=by unfold yE;omega
 have hC:(bD (t.nd x)).aI=(t.nd x).cuts:=rfl;have h2:=th1 (bD (t.nd x)) ha (yE (dM p) a live) (by rw[hC];have:=hbx.cuts;omega) (by omega);rw[hC] at h2;have h3:=X9 a (t.nd x).cuts (yE (dM p) a live);have hcc:=hbx.cuts;have hin:=fy1 (t:=t) (x:=x) (a:=a) hx;simp only[Rw,wS ha,qC,h1,bV,dF,mX];rw[hin];simp only[qC];unfold Jm;by_cases h:(t.nd x).kids≠[]/\(t.nd x).attr=a
 ·rw[qM h,cond_true,if_pos h,hg];simp only[qC,h2];generalize (t.nd x).cuts.foldl (xX a) (yE (dM p) a live)=s at h3;have hs2:KZ s=some (sortL s):=by unfold KZ;rw[if_pos (by omega)]
  have hs3:Lp (sortL s)=some (C9 (sortL s)):=by unfold Lp;rw[if_pos (by rw[Vq];omega)]
  simp only[hs2,hs3,qC]
 ·rw[qJ h,cond_false,if_neg h];generalize yE (dM p) a live=s at Uj;have hs2:KZ s=some (sortL s):=by unfold KZ;rw[if_pos (by omega)]
  have hs3:Lp (sortL s)=some (C9 (sortL s)):=by unfold Lp;rw[if_pos (by rw[Vq];omega)]
  simp only[hs2,hs3,qC]
theorem wm1 (p:au)(t:Tab Decision)(a:Nat)(live:List Nat)(x:Nat):(Jm p t a live x).Pairwise (·<·):=nr0 (ny0 _)
theorem rq1 {p:au}{t:Tab Decision}{a:Nat}{live:List Nat}{x:Nat}(c:Int):c∈Jm p t a live x↔Oa bn (fC p) t a live x c:=by
 have hst:∀ c,c∈yE (dM p) a live↔c=bn.lo a\/∃ z∈live,(c=kL (dM p) z a\/c=jQ (dM p) z a+1)/\bn.lo a<c/\c<=bn.hi a:=fun c=>by
  have:=@mm0 (dM p) a live c;unfold starts at this
  rwa [Zu,ZC] at this
 unfold Jm Oa;rw[Zu,ZC];have hlo:(fC p).lo=kL (dM p):=rfl;have hhi:(fC p).hi=jQ (dM p):=rfl;rw[hlo,hhi];by_cases h:(t.nd x).kids≠[]/\(t.nd x).attr=a
 ·rw[if_pos h,nc0,hst]
  constructor
  ·rintro ((h1|⟨z,h1,h2,h3⟩)|⟨h1,h2⟩)
   ·exact .inl h1
   ·exact .inr ⟨.inl ⟨z,h1,h2⟩,h3⟩
   ·exact .inr ⟨.inr ⟨h.1,h.2,h1⟩,h2⟩
  ·rintro (h1|⟨⟨z,h1,h2⟩|⟨_,_,h1⟩,h3⟩)
   ·exact .inl (.inl h1)
   ·exact .inl (.inr ⟨z,h1,h2,h3⟩)
   ·exact .inr ⟨h1,h3⟩
 ·rw[if_neg h,hst]
  constructor
  ·rintro (h1|⟨z,h1,h2,h3⟩)
   ·exact .inl h1
   ·exact .inr ⟨.inl ⟨z,h1,h2⟩,h3⟩
  ·rintro (h1|⟨⟨z,h1,h2⟩|⟨h4,h5,_⟩,h3⟩)
   ·exact .inl h1
   ·exact .inr ⟨z,h1,h2,h3⟩
   ·exact absurd ⟨h4,h5⟩ h
theorem lu1 {p:au}{t:Tab Decision}(hb:∀ n∈t.ns,Bd n){a:Nat}{live:List Nat}{x:Nat}(hx:x<t.ns.length)(hn:live.length<=1000):(Jm p t a live x).length<=200000:=by
 have hbx:=(hb _ (mw1 hx)).cuts;have hsl:=U6 (dM p) a (ints live) [bn.lo a];rw[jg,zF] at hsl;have Uj:(yE (dM p) a live).length<=3000:=by unfold yE;omega
 have h3:=X9 a (t.nd x).cuts (yE (dM p) a live);unfold Jm;refine Nat.le_trans (kq1 _) ?_;rw[Vq];split<;>omega
theorem rh1 (N:Node)(v:Int)(hC:N.aI.length<=100000):dw (Ph N v) 0=some (if iK N.aI v<N.aI.length then .inr ((iK N.aI v:Nat):Int) else .inl ()):=by
 obtain⟨r,h1,rfl⟩:=sU (step:=Ph N v) (fun (_:Unit) i=>i) N.aI.length
  (fun k _=>iK N.aI v=k+iK (N.aI.drop k) v) (fun r=>r=if iK N.aI v<N.aI.length then .inr ((iK N.aI v:Nat):Int) else .inl ()) (fun k s hk hI=>by
  have hx:N.aI[k]?=some N.aI[k]:=by simp[hk]
  rw[List.drop_eq_getElem_cons hk] at hI;generalize N.aI[k]=x at hx hI;have hlt:(k:Int)<N.aI.length:=by omega
  simp only[Ph,bV,dF,hlt,decide_true,cond_true,fB hx,qC,iD,gI (k:=k) (by omega)];by_cases h:v<x
  ·simp only[iK] at hI;rw[if_neg (by omega)] at hI;refine .inr ⟨.inr (k:Int),by rw[qM h];rfl,?_⟩;rw[hI,Nat.add_zero,if_pos hk]
  ·simp only[iK] at hI;rw[if_pos (by omega)] at hI;exact .inl ⟨(),by rw[qJ h];rfl,by omega⟩) (fun s hI=>by
  have hlt:¬ ((N.aI.length:Int)<N.aI.length):=by omega
  refine⟨.inl (),by simp only[Ph,bV,dF,hlt,decide_false,cond_false],?_⟩;rw[if_neg];rw[List.drop_length] at hI;simp only[iK] at hI;omega) () (by simp)
 exact h1
theorem kg2 {t:Tab Decision}(h:t.Ok bn)(hb:∀ n∈t.ns,Bd n)(R:List Rule){x:Nat}(hx:x<t.ns.length)(hk:(t.nd x).kids≠[])(v:Int)(f:aF Int)(eq:List (ByteArray×Bool)) :
  Qc R (dZ t).Nodes (dZ t).Leaves dW (x:Int) v f eq=some (((t.nd x).kids.getD (iK (t.nd x).cuts v) 0:Nat):Int):=by
 have hg:bU (dZ t).Nodes (x:Int)=some (bD (t.nd x)):=fB (Dx hx);have hbx:=hb _ (mw1 hx);obtain⟨k1,-⟩:=FI h hx hk v;have hC:(bD (t.nd x)).aI=(t.nd x).cuts:=rfl;have hloop:=rh1 (bD (t.nd x)) v (by rw[hC];exact hbx.cuts);rw[hC] at hloop;have hkx:=rp1 (t.nd x).cuts v;generalize (t.nd x).kids.getD (iK (t.nd x).cuts v) 0=z at k1;generalize hi:iK (t.nd x).cuts v=i at k1 hkx hloop;have hgk:bU (bD (t.nd x)).Kids (i:Int)=some (z:Int):=fB (Ar k1);simp only[Qc,hg,qC,hloop,bV,dF,hC];by_cases hlt:i<(t.nd x).cuts.length
 ·have h1:¬ ((i:Int)<0):=by omega
  simp only[if_pos hlt,gu,qC,qJ h1,cond_false,hgk]
 ·have he:((t.nd x).cuts.length:Int)=(i:Int):=by omega
  have h1:((-1:Int)<0):=by omega
  simp only[if_neg hlt,gu,qC,qM h1,cond_true,he,hgk]
end Go.SX.Td
namespace Go.SX.Td
open Go Go.SX Tb
section
variable (p:au)(t:Tab Decision)
noncomputable def tK (f:aF Int)(a:Nat):List Nat:=(List.range (fC p).nz).filter ((fC p).Pre a (fF f))
abbrev Xj (a:Nat)(l:List Nat)(x:Nat):Prop:=YI bn (fC p) (Ad p) t a l x
def VA (m:List (ByteArray×Bool)):Prop :=
 ∀ (a x:Nat)(l:List Nat),a<10->x<t.ns.length->(∀ z∈l,z<(dM p).length)->nI m (keyS a x (pz p l)) false=true->Xj p t a l x
end
theorem rj1 {p:au}{f:aF Int}{a:Nat}:∀ z∈tK p f a,z<(dM p).length:=fun z hz=>by
 have:=(List.mem_filter.1 hz).1
 simpa [fC] using this
theorem pv1 (p:au)(f:aF Int)(a:Nat):(tK p f a).length<=(dM p).length:=by
 have:=List.length_filter_le ((fC p).Pre a (fF f)) (List.range (fC p).nz);rw[List.length_range] at this;exact this
theorem xw1 (p:au)(f:aF Int):tK p f 0=List.range (dM p).length:=by
 unfold tK;exact(YS p (fF f)).symm
theorem bz1 {p:au}{f g:aF Int}{a:Nat}(h:∀ j,j<a->f.get j=g.get j):tK p f a=tK p g a:=by
 unfold tK;refine List.filter_congr fun z _=>?_
 unfold iC.Pre;rw[Bool.eq_iff_iff,qP,qP];refine forall_congr' fun b=>forall_congr' fun hb=>?_
 by_cases hab:a<=b
 ·simp[hab]
 ·rw[Ef f (List.mem_range.1 hb),Ef g (List.mem_range.1 hb),h b (by omega)]
theorem pk1 {p:au}{f f':aF Int}{a:Nat}(ha:a<10)(h:∀ j,j<a->f'.get j=f.get j)(c:Int):tK p (f'.put a c) (a+1)=(tK p f a).filter fun z=>(fC p).at z a c:=by
 rw[<- bz1 h];unfold tK;rw[Pm f' ha,List.filter_filter];exact List.filter_congr fun z _=>qt1 ha (fF f') c z
theorem fh1 (p:au)(f:aF Int):kX p f=Ad p (tK p f 10):=by
 have h:=(NS p).dec (fF f);have e:(fC p).dec (fF f)=kX p f:=by show kX p (toA (fF f))=_;rw[Ru]
 rw[<- e,h];rfl
theorem ns1 {p:au}(G:PG p){a:Nat}(ha:a<10){live:List Nat}(hl:∀ z∈live,z<(dM p).length)(hn:live.length<=1000000)(x:Int) :
  dw (Qo (pz p live) p.Rules (a:Int) x) ([],0)=some (pz p (live.filter fun z=>(fC p).at z a x)):=by
 have hf:∀ (l s:List Nat),l.foldl (fun s i=>if (fC p).at i a x then s++[i] else s) s=s++l.filter (fun i=>(fC p).at i a x):=fun l=>by
  induction l with
  |nil=>intro s;simp
  |cons i l ih =>
   intro s;rw[qV,ih,List.filter_cons];split<;>simp
 have:=Df (step:=Qo (pz p live) p.Rules (a:Int) x) (fun s i=>(pz p s,i)) live (fun s i=>if (fC p).at i a x then s++[i] else s) [] (pz p (live.filter fun i=>(fC p).at i a x)) (fun k i hi=>by
  have hk:k<live.length:=(qA.1 hi).1;have hlt:(k:Int)<(pz p live).length:=by rw[JH];omega
  obtain⟨q,j,r,zn,g1,g2,g3,g4,g5,g6,-,-⟩:=lc1 G (hl i (qL hi)) ha;rw[hf,zN];have hsl:((live.take k).filter fun i=>(fC p).at i a x).length<=1000000:=Nat.le_trans (List.length_filter_le _ _) (by rw[qU];omega);generalize ((live.take k).filter fun i=>(fC p).at i a x)=s at hsl;have i1:bU p.Rules (lv p i).rule=some r:=by rw[g1];exact fB g3
  have i2:bU r.ay (lv p i).zone=some zn:=by rw[g2];exact fB g4
  have h3:appG (pz p s) [lv p i]=some (pz p (s++[i])):=by
   rw[rU (by rw[JH];simp;omega)];simp[pz]
  have hat:(fC p).at i a x=decide (kL (dM p) i a<=x/\x<=jQ (dM p) i a):=rfl;simp only[Qo,bV,dF,hlt,decide_true,cond_true,fB (nu1 hi),i1,i2,wS ha,qC,g5,g6,nY,iD,gI (k:=k) (by omega),hat];by_cases h1:kL (dM p) i a<=x
  ·by_cases h2:x<=jQ (dM p) i a
   ·simp[h1,h2,h3]
   ·simp[h1,h2]
  ·simp[h1]) (by
  rw[hf,zN];simp[Qo,bV,dF,JH])
 exact this
variable {p:au}{t:Tab Decision}
theorem iv1 (G:PG p)(hR:p.Rules.length<=1000)(hZ:∀ r∈p.Rules,r.ay.length<=1000)(c:t.Ok bn)(hb:∀ n∈t.ns,Bd n)(hN:t.ns.length<=20000) :
  ∀ (n a x:Nat)(facts:aF Int)(m:List (ByteArray×Bool)),n+a=11->a<=10->x<t.ns.length->a<=aT (t.nd x)->VA p t m ->
  ∃ b g m',Jp p.Rules (dZ t).Nodes (dZ t).Leaves dW n (a:Int) (pz p (tK p facts a)) (x:Int) facts m=some (b,g,m')/\VA p t m'/\(∀ j,j<a->g.get j=facts.get j) /\
   (b=true->VP bn (fC p) (Ad p) t a (tK p facts a) x (fF facts) (fF g))/\(b=false->Xj p t a (tK p facts a) x):=by
 intro n
 induction n with
 |zero=>intro a x facts m h1 h2;omega
 |succ n ih =>
  intro a x facts m hna ha hx hlx hM;have hal:=rj1 (p:=p) (f:=facts) (a:=a);have hll:=pv1 p facts a;have hnz:=G.nz;simp only[Jp,Xo,mX];by_cases qy:a=10
  ·subst qy;have h10:((10:Nat):Int)=10:=rfl;have hkl:=OQ c hx hlx;have hlf:=((c.fine x hx).leaf hkl).2.2;have hg:bU (dZ t).Nodes (x:Int)=some (bD (t.nd x)):=fB (Dx hx);have hgl:bU (dZ t).Leaves (bD (t.nd x)).Leaf=some (t.ls.getD (t.nd x).leaf default):=by
    refine fB (k:=(t.nd x).leaf) ?_;show t.ls[_]?=_;rw[qI,qD hlf];rfl
   have hdec:PX (au.mk p.Rules) facts=some (kX p facts):=eh1 p facts G.rules G.zones;have hde:=tg1 (p:=fC p) (D:=Ad p) c hx hlx (live:=tK p facts 10) (g:=fF facts);rw[<- fh1] at hde;simp only[h10,decide_true,cond_true,hg,qC,hgl,hdec,dm0,vX];refine⟨_,facts,m,rfl,hM,fun _ _=>rfl,fun h=>kn2 (hde.2 ?_),fun h f _ hf=>?_⟩
   ·intro e;rw[e] at h;simp at h
   ·have e:t.ls.getD (t.nd x).leaf default=kX p facts:=by simpa using h
    have IE:D7 (fC p) (Ad p) t 10 (tK p facts 10) x f↔Ad p (tK p facts 10)≠t.ls.getD (t.nd x).leaf default:=tg1 c hx hlx;rw[<- fh1] at IE;exact IE.1 hf e.symm
  ·have halt:a<10:=by omega
   have hne:¬ ((a:Int)=10):=by omega
   have hkey:=key_eq G hR hZ (a:=a) (x:=x) ha (by omega) hal (by omega);simp only[qJ hne,cond_false,hkey,qC]
   cases hmem:nI m (keyS a x (pz p (tK p facts a))) false with
   |true=>exact⟨false,facts,m,rfl,hM,fun _ _=>rfl,(fun h=>by cases h),fun _=>hM a x _ halt hx hal hmem⟩
   |false =>
    simp only[cond_false,vals_eq G hb halt hx hal (by omega),qC,dF];have hv1:=wm1 p t a (tK p facts a) x;have hv2:=lu1 hb (a:=a) (live:=tK p facts a) hx (by omega) (p:=p);have hv3:=fun c=>@rq1 p t a (tK p facts a) x c
    have hzo:=fun (c:Int)(f':aF Int)(h:∀ j,j<a->f'.get j=facts.get j)=>pk1 (p:=p) halt h c
    have hrl:=fun c=>ns1 G halt hal (by omega) c
    generalize Jm p t a (tK p facts a) x=L at hv1 hv2 hv3;generalize tK p facts a=live at hal hll hkey hmem hv3 hzo hrl;obtain⟨r,hr,hQ⟩:=sU (step:=Qj (L.length:Int) L (a:Int) (pz p live) p.Rules (dZ t).Nodes (x:Int) (dZ t).Leaves dW (Jp p.Rules (dZ t).Nodes (dZ t).Leaves dW n)) (fun (s:aF Int×List (ByteArray×Bool)) i=>(s.1,s.2,i)) L.length
     (fun k s=>VA p t s.2/\(∀ j,j<a->s.1.get j=facts.get j)/\∀ c∈L.take k,Xj p t (a+1) (live.filter fun z=>(fC p).at z a c) (fG t a x c))
     (fun r=>(∃ f m',r=.inl (f,m')/\VA p t m'/\(∀ j,j<a->f.get j=facts.get j)/\Xj p t a live x) \/
      (∃ g m',r=.inr (true,g,m')/\VA p t m'/\(∀ j,j<a->g.get j=facts.get j)/\VP bn (fC p) (Ad p) t a live x (fF facts) (fF g)))
     (fun k s hk hI=>by
      obtain⟨f',m'⟩:=s;obtain⟨hI1,hI2,Nk⟩:=hI;simp only at hI1 hI2;have hck:L[k]?=some L[k]:=by simp[hk]
      have hmk:L[k]∈L:=zA hk;have hlt:(k:Int)<L.length:=by omega
      generalize hck':L[k]=v at hck hmk;have hput:∀ j,j<a->(f'.put a v).get j=facts.get j:=fun j hj=>by rw[aF.get_put _ _ _ _ halt (by omega),if_neg (by omega)];exact hI2 j hj
      have Um:(f'.put a v).get a=v:=by rw[aF.get_put _ _ _ _ halt halt,if_pos rfl]
      obtain⟨nx1,nx2⟩:=TA c hx hlx halt v;have hnext:(Option.bind (Option.bind (bU (dZ t).Nodes (x:Int)) fun x34=>bif decide ((0:Int)<(x34.Kids.length:Int)) then (Option.bind (bU (dZ t).Nodes (x:Int)) fun WA=>some (decide (WA.Attr=(a:Int)))) else some false) fun v33 =>
        bif v33 then (Option.bind (Qc p.Rules (dZ t).Nodes (dZ t).Leaves dW (x:Int) v (f'.put a v) m') fun WQ=>some WQ) else some (x:Int))=some ((fG t a x v:Nat):Int):=by
       rw[fy1 hx,qC];unfold fG;by_cases h:(t.nd x).kids≠[]/\(t.nd x).attr=a
       ·rw[qM h,cond_true,if_pos h,kg2 c hb _ hx h.1];rfl
       ·rw[qJ h,cond_false,if_neg h]
      obtain⟨b,g,m2,h1,h2,h3,h4,h5⟩:=ih (a+1) (fG t a x v) (f'.put a v) m' (by omega) (by omega) nx1 nx2 hI1;rw[hzo v f' hI2] at h1 h4 h5;have hg:∀ j,j<a->g.get j=facts.get j:=fun j hj=>(h3 j (by omega)).trans (hput j hj)
      have hwa:IntKind.i64.wrap ((a:Int)+1)=((a+1:Nat):Int):=gI (by omega);simp only[Qj,bV,dF,mX,hlt,decide_true,cond_true,fB hck,wS halt,qC,hrl,iD,hwa,gI (k:=k) (by omega)];rw[hnext];simp only[qC,h1]
      cases b with
      |true =>
       refine .inr ⟨_,by simp[gu],.inr ⟨g,m2,rfl,h2,hg,?_⟩⟩;refine gm2 FK c halt hx hv3 (facts':=fF (f'.put a v)) hmk (fun c' hc' hlt'=>?_) (fun j hj=>?_) ?_ (h4 rfl)
       ·obtain⟨i,hi,rfl⟩:=List.getElem_of_mem hc';refine Nk _ (List.mem_take_iff_getElem.2 ⟨i,?_,rfl⟩);have:i<k:=by
         refine Classical.byContradiction fun hge=>?_
         rcases Nat.lt_or_eq_of_le (Nat.le_of_not_lt hge) with h|h
         ·have:=List.pairwise_iff_getElem.1 hv1 k i hk hi h;omega
         ·subst h;omega
        omega
       ·rw[Ef _ (by omega),Ef _ (by omega)];exact hput j hj
       ·rw[Ef _ halt];exact Um
      |false =>
       refine .inl ⟨(g,m2),by simp[gu],h2,hg,fun c' hc'=>?_⟩;rw[qW,hck] at hc';rcases qO.1 hc' with h|h
       ·exact Nk c' h
       ·have:c'=v:=by simpa using h
        subst this;exact h5 rfl)
     (fun s hI=>by
      obtain⟨f',m'⟩:=s;obtain⟨hI1,hI2,Nk⟩:=hI;rw[zG] at Nk;exact⟨_,by simp[Qj,bV],.inl ⟨f',m',rfl,hI1,hI2,gc2 FK c halt hx hv3 Nk⟩⟩)
     (facts,m) ⟨hM,fun _ _=>rfl,fun c hc=>by simp at hc⟩
    have hr':dw (Qj (L.length:Int) L (a:Int) (pz p live) p.Rules (dZ t).Nodes (x:Int) (dZ t).Leaves dW (Jp p.Rules (dZ t).Nodes (dZ t).Leaves dW n)) (facts,m,0)=some r:=hr;rw[hr'];rcases hQ with ⟨f,m',rfl,hm,hcj,he⟩|⟨g,m',rfl,hm,hg,hf⟩
    ·refine⟨false,f,_,rfl,fun a' x' l' ha' hx' hal' hl'=>?_,hcj,(fun h=>by cases h),fun _=>he⟩;rw[dd0] at hl';split at hl'
     ·rename_i e;obtain⟨rfl,rfl,e3⟩:=qj2 e;rw[wa2 hal' hal e3];exact he
     ·exact hm a' x' l' ha' hx' hal' hl'
    ·exact⟨true,g,m',rfl,hm,hg,fun _=>hf,(fun h=>by cases h)⟩
end Go.SX.Td
namespace Go.SX.Td
open Go Go.SX Tb
def t1 (d:Decision):Tab Decision:=⟨[⟨0,[],[],0⟩],[d]⟩
def t3 (d0 d1:Decision):Tab Decision:=⟨[⟨2,[1],[1,2],0⟩,⟨0,[],[],0⟩,⟨0,[],[],1⟩],[d0,d1]⟩
def t5 (d0 d1 d2:Decision):Tab Decision:=⟨[⟨1,[18],[1,2],0⟩,⟨0,[],[],0⟩,⟨2,[1],[3,4],0⟩,⟨0,[],[],1⟩,⟨0,[],[],2⟩],[d0,d1,d2]⟩
theorem cf0 {nn nl:Nat}{nd:Nat->Nd}{k:Nat}(h:k<nl):Fine bn nn nl nd ⟨0,[],[],k⟩ :=
 ⟨fun _=>⟨rfl,rfl,h⟩,fun h=>absurd rfl h,fun k hk=>(by cases hk),trivial⟩
theorem qw2 {nn nl:Nat}{nd:Nat->Nd}{a:Nat}{c:Int}{i j:Nat}(ha:a<10)(hc:bn.lo a<c/\c<=bn.hi a)(hij:i≠j)(hi:i<nn/\a<aT (nd i))(hj:j<nn/\a<aT (nd j)):Fine bn nn nl nd ⟨a,[c],[i,j],0⟩ :=
 ⟨fun h=>(by cases h),fun _=>⟨ha,rfl,rfl,by simp,hc.1,hc.2,trivial⟩,fun k hk=>by
  simp only[List.mem_cons,List.not_mem_nil,or_false] at hk;rcases hk with rfl|rfl
  ·exact hi
  ·exact hj,⟨hij,trivial⟩⟩
theorem uo1 (d:Decision):(t1 d).Canon bn where
 ok:=⟨fun x hx=>by
  match x,hx with
  |0,_=>exact cf0 (show 0<1 by decide),by simp[t1],by simp[t1]⟩
 pos:=by show 0<1;decide
 walk:=by rfl
 leaf x hx _:=by
  match x,hx with
  |0,_=>rfl
 all:=by rfl
theorem ug2 (d:Decision)(g:Fa):(t1 d).val g 0=d:=rfl
def jd (l:List (Bool×Rule)):Decision:=XG (l.foldl (fun (s:JS×Nat) x=>(if x.1 then note s.1 s.2 x.2 else s.1,s.2+1)) (J0,0)).1
theorem tp1 (p:au)(f:aF Int):kX p f=jd (p.Rules.map fun r=>(holds r f,r)):=by
 unfold kX jd;rw[List.foldl_map];rfl
theorem km2 {g:Fa}(hg:bn.In g):zY dW (toA g)=true:=by
 rw[rl1];intro i hi;rw[Pj g i hi];exact hg i hi
def rl (kind:Int)(name:ByteArray)(n:Int)(z:aF Range):Rule:=⟨kind,name,[z],n,⟨0,1⟩,⟨0,1⟩⟩
def nA : ByteArray:=⟨#[97]⟩
theorem v0 : mG ⟨[]⟩=true:=by decide +kernel
theorem Yw {n:Nd}(h1:n.cuts.length<=1)(h2:n.kids.length<=2)(h3:∀ c∈n.cuts,0<=c/\c<=18)(h4:∀ k∈n.kids,k<=10)(h5:n.attr<=10)(h6:n.leaf<=10):Bd n :=
 ⟨by omega,by omega,fun c hc=>by have:=h3 c hc;omega,fun k hk=>by have:=h4 k hk;omega,by omega,by omega⟩
theorem PG0 {l:List Rule}(hv:mG ⟨l⟩=true)(h:(dM ⟨l⟩).length<=10):PG ⟨l⟩:=Yi hv h
theorem g0 : PG ⟨[]⟩:=PG0 v0 (by decide)
theorem cl0 : zQ ⟨[],[]⟩=some false:=by
 unfold zQ;simp only[bV,dF,List.length_nil,Int.natCast_zero];rfl
theorem qu2 {T:Table}(hT:T.Nodes.length<=9223372036854775807):∃ b,QH T=some b/\(b=true->T.Nodes.length<=60/\T.Leaves.length<=60/\∀ N∈T.Nodes,N.aI.length<=20/\N.Kids.length<=21):=by
 obtain⟨r,h1,h2⟩:=sU (step:=QI T) (fun (_:Unit) i=>i) T.Nodes.length (fun k _=>∀ N∈T.Nodes.take k,N.aI.length<=20/\N.Kids.length<=21) (fun r=>r=.inr false\/r=.inl ()/\∀ N∈T.Nodes,N.aI.length<=20/\N.Kids.length<=21)
  (fun k s hk hI=>by
   have hx:T.Nodes[k]?=some T.Nodes[k]:=by simp[hk]
   have ht:T.Nodes.take (k+1)=T.Nodes.take k++[T.Nodes[k]]:=by rw[qW,hx];rfl
   generalize T.Nodes[k]=x at hx ht;have hlt:(k:Int)<T.Nodes.length:=by omega
   simp only[QI,bV,dF,hlt,decide_true,cond_true,fB hx,qC,iD,gI (k:=k) (by omega)];by_cases h1:(20:Int)<x.aI.length
   ·exact .inr ⟨.inr false,by rw[qM h1];rfl,.inl rfl⟩
   ·by_cases h2:(21:Int)<x.Kids.length
    ·exact .inr ⟨.inr false,by rw[qJ h1,qM h2];rfl,.inl rfl⟩
    ·refine .inl ⟨(),by rw[qJ h1,qJ h2];rfl,fun N hN=>?_⟩;rw[ht] at hN;rcases qO.1 hN with hN|hN
     ·exact hI N hN
     ·simp only[zE] at hN;subst hN;omega) (fun s hI=>by
   rw[zG] at hI;exact⟨_,by simp[QI,bV,dF],.inr ⟨rfl,hI⟩⟩) () (by simp)
 unfold QH;rw[h1];rcases h2 with rfl|⟨rfl,h2⟩
 ·exact⟨false,rfl,fun h=>by cases h⟩
 ·simp only[gu,nY,dF];by_cases h3:(T.Nodes.length:Int)<=60
  ·rw[qM h3];refine⟨decide ((T.Leaves.length:Int)<=60),rfl,fun h=>?_⟩;have:(T.Leaves.length:Int)<=60:=by simpa using h
   exact⟨by omega,by omega,h2⟩
  ·exact⟨false,by rw[qJ h3];rfl,fun h=>by cases h⟩
def Zc (T:Table):Prop:=T.Nodes.length<=9223372036854775807/\∀ N∈T.Nodes,qg N.Attr/\qg N.Leaf/\(∀ c∈N.aI,qg c)/\∀ k∈N.Kids,qg k
theorem ir0 : ∀ (l:List Rule)(i:Nat)(r:Rule),pI i (l++[r])=pI i l++(List.range r.ay.length).map fun k:Nat=>Live.mk ((i+l.length:Nat):Int) (k:Int)
 |[],i,r=>by simp[pI]
 |q::l,i,r=>by
  simp only[List.cons_append,pI,ir0 l (i+1) r,qZ,List.append_assoc];rw[show i+1+l.length=i+(l.length+1) by omega]
theorem ul2 (p:au):pz p (List.range (dM p).length)=pI 0 p.Rules:=by
 have hl:(pI 0 p.Rules).length=(dM p).length:=XA 0 _;refine List.ext_getElem? fun k=>?_
 by_cases hk:k<(dM p).length
 ·rw[nu1 (z:=k) (by simp[hk]),lv,qI,qD (by omega)];simp
 ·rw[qT (by rw[JH,List.length_range];omega),qT (by omega)]
theorem kf2 (r:Rule)(v:Int)(s:List Live)(h:s.length+r.ay.length<=1000000):dw (Oc r v) (s,0)=some (s++(List.range r.ay.length).map fun k:Nat=>Live.mk v (k:Int)):=by
 obtain⟨q,h1,rfl⟩:=sU (step:=Oc r v) (fun (s:List Live) i=>(s,i)) r.ay.length (fun k s'=>s'=s++(List.range k).map fun k:Nat=>Live.mk v (k:Int)) (fun q=>q=s++(List.range r.ay.length).map fun k:Nat=>Live.mk v (k:Int))
  (fun k s' hk hI=>by
   subst hI;have hlt:(k:Int)<r.ay.length:=by omega
   have hap:appG (s++(List.range k).map fun k:Nat=>Live.mk v (k:Int)) [Live.mk v (k:Int)]=some (s++(List.range k).map (fun k:Nat=>Live.mk v (k:Int))++[Live.mk v (k:Int)]):=rU (by simp;omega);refine .inl ⟨s++(List.range k).map (fun k:Nat=>Live.mk v (k:Int))++[Live.mk v (k:Int)],by simp only[Oc,bV,dF,hlt,decide_true,cond_true,qC,hap,iD,gI (k:=k) (by omega)],?_⟩;rw[List.range_succ];simp) (fun s' hI=>by
   subst hI;exact⟨_,by simp[Oc,bV,dF],rfl⟩) s (by simp)
 exact h1
theorem of1 {p:au}(hR:p.Rules.length<=1000)(hZ:∀ r∈p.Rules,r.ay.length<=1000)(hn:(dM p).length<=1000):dw (Oj p) ([],0)=some (pI 0 p.Rules):=by
 obtain⟨q,h1,rfl⟩:=sU (step:=Oj p) (fun (s:List Live) i=>(s,i)) p.Rules.length (fun k s=>s=pI 0 (p.Rules.take k)) (fun q=>q=pI 0 p.Rules)
  (fun k s hk hI=>by
   subst hI;have hx:p.Rules[k]?=some p.Rules[k]:=by simp[hk]
   have hm:=zA hk;generalize p.Rules[k]=r at hx hm;have hlt:(k:Int)<p.Rules.length:=by omega
   have hsl:(pI 0 (p.Rules.take k)).length<=1000:=by
    rw[XA];have e:p.Rules.flatMap (·.ay)=(p.Rules.take k).flatMap (·.ay)++(p.Rules.drop k).flatMap (·.ay):=by rw[<- List.flatMap_append,List.take_append_drop]
    have:=congrArg List.length e;rw[qN] at this;have:(p.Rules.flatMap (·.ay)).length=(dM p).length:=rfl;omega
   have hin:=kf2 r (k:Int) (pI 0 (p.Rules.take k)) (by have:=hZ r hm;omega);refine .inl ⟨_,by simp only[Oj,bV,dF,hlt,decide_true,cond_true,fB hx,qC,hin,iD,gI (k:=k) (by omega)];rfl,?_⟩;rw[qW,hx,zD,ir0,Nat.zero_add,qU,Nat.min_eq_left (by omega)]) (fun s hI=>by
   subst hI;exact⟨_,by simp[Oj,bV,dF],rfl⟩) [] (by simp[pI])
 exact h1
structure yV (p:au)(t:Tab Decision)(g:aF Int)(b:Bool):Prop where
 yes:b=true->bn.In (fF g)/\kX p g≠t.val (fF g) 0/\∀ f:aF Int,bn.In (fF f)->Lx 0 (fF f) (fF g)->kX p f=t.val (fF f) 0
 no:b=false->g=A0/\∀ f:aF Int,bn.In (fF f)->kX p f=t.val (fF f) 0
theorem YM {p:au}{t:Tab Decision}(f:aF Int):D7 (fC p) (Ad p) t 0 (List.range (fC p).nz) 0 (fF f)↔kX p f≠t.val (fF f) 0:=by
 unfold D7 sem;rw[<- (NS p).dec (fF f)];have e:(fC p).dec (fF f)=kX p f:=by show kX p (toA (fF f))=_;rw[Ru]
 rw[e]
theorem WH {g:Fa}(h:bn.In g):KD bn 0 g:=fun j _ hj=>h j hj
theorem Rn {p:au}(G:PG p)(hR:p.Rules.length<=1000)(hZ:∀ r∈p.Rules,r.ay.length<=1000)(hv:mG p=true){t:Tab Decision}(c:t.Canon bn)(hb:∀ n∈t.ns,Bd n)(hN:t.ns.length<=20000)(hL:t.ls.length<=1000000) :
  ∃ g b,uj p (dZ t)=some (g,b)/\yV p t g b:=by
 obtain⟨b0,e0,hb0⟩:=ey0 hb hL;have:=hb0.2 ⟨c,hN⟩;subst this;obtain⟨b,g,m',h1,-,-,h4,h5⟩:=iv1 G hR hZ c.ok hb hN 11 0 0 A0 [] rfl (by omega) c.pos (Nat.zero_le _) (fun a x l _ _ _ h=>by simp[nI,xR] at h);have hl:tK p A0 0=List.range (fC p).nz:=xw1 p A0;rw[hl] at h1 h4 h5;have hz:pz p (List.range (fC p).nz)=pI 0 p.Rules:=ul2 p;rw[hz] at h1;have h1':Jp p.Rules (dZ t).Nodes (dZ t).Leaves dW 11 0 (pI 0 p.Rules) 0 (aF.mk 0 0 0 0 0 0 0 0 0 0) []=some (b,g,m'):=h1;unfold uj;simp only[YK,hv,qC,vX,Bool.not_true,cond_false,e0,Q9,of1 hR hZ G.nz,h1']
 cases b with
 |false =>
  refine⟨A0,false,rfl,(fun h=>by cases h),fun _=>⟨rfl,fun f hf=>?_⟩⟩;have:=h5 rfl (fF f) (WH hf);rw[YM] at this;exact Classical.byContradiction this
 |true =>
  refine⟨g,true,rfl,fun _=>?_,(fun h=>by cases h)⟩;have hf:=h4 rfl;refine⟨fun j hj=>hf.win j (Nat.zero_le _) hj,(YM g).1 hf.dif,fun f hin hlt=>?_⟩;have:=hf.least (fF f) (WH hin) hlt;rw[YM] at this;exact Classical.byContradiction this
theorem nk0 {p:au}{T:Table}(h:mG p=false\/zQ T=some false)(ht:∃ b,zQ T=some b):uj p T=some (A0,true):=by
 unfold uj;obtain⟨b,hb⟩:=ht
 cases hv:mG p with
 |false=>simp only[YK,hv,qC,vX,Bool.not_false,cond_true];rfl
 |true =>
  rw[hv] at h;rcases h with h|h
  ·cases h
  ·simp only[YK,hv,h,qC,vX,Bool.not_true,Bool.not_false,cond_true,cond_false];rfl
theorem yi2 (f g:Fa):Lx 0 f g\/Lx 0 g f\/∀ j,j<10->f j=g j:=by
 have key:∀ n,n<=10->(∀ j,j<n->f j=g j)\/Lx 0 f g\/Lx 0 g f:=by
  intro n
  induction n with
  |zero=>exact fun _=>.inl fun j hj=>by omega
  |succ n ih =>
   intro hn;rcases ih (by omega) with h|h
   ·rcases Int.lt_trichotomy (f n) (g n) with h1|h1|h1
    ·exact .inr (.inl ⟨n,Nat.zero_le _,by omega,fun j _ hj=>h j hj,h1⟩)
    ·refine .inl fun j hj=>?_
     rcases Nat.lt_or_eq_of_le (Nat.le_of_lt_succ hj) with h2|rfl
     ·exact h j h2
     ·exact h1
    ·exact .inr (.inr ⟨n,Nat.zero_le _,by omega,fun j _ hj=>(h j hj).symm,h1⟩)
   ·exact .inr h
 rcases key 10 (qR _) with h|h|h
 ·exact .inr (.inr h)
 ·exact .inl h
 ·exact .inr (.inl h)
theorem jn1 {f g:aF Int}(h:∀ j,j<10->fF f j=fF g j):f=g:=aF.ext_get fun j hj=>by have:=h j hj;rwa [Ef f hj,Ef g hj] at this
theorem ce1 {s g:Fa}(h:∀ j,j<10->s j<=g j):¬ Lx 0 g s:=fun ⟨n,_,h2,_,h4⟩=>by have:=h n h2;omega
theorem yV.unique {p q:au}{t:Tab Decision}{g h:aF Int}{a b:Bool}(H:yV p t g a)(K:yV q t h b)(he:∀ f,bn.In (fF f)->kX p f=kX q f):g=h/\a=b:=by
 cases a with
 |false =>
  obtain⟨rfl,h2⟩:=H.no rfl
  cases b with
  |false=>exact⟨(K.no rfl).1.symm,rfl⟩
  |true =>
   obtain⟨k1,k2,-⟩:=K.yes rfl;exact absurd ((he h k1).symm.trans (h2 h k1)) k2
 |true =>
  obtain⟨h1,h2,h3⟩:=H.yes rfl
  cases b with
  |false =>
   obtain⟨rfl,k2⟩:=K.no rfl;exact absurd ((he g h1).trans (k2 g h1)) h2
  |true =>
   obtain⟨k1,k2,k3⟩:=K.yes rfl;refine⟨?_,rfl⟩;rcases yi2 (fF g) (fF h) with hl|hl|hl
   ·exact absurd ((he g h1).trans (k3 g h1 hl)) h2
   ·exact absurd ((he h k1).symm.trans (h3 h k1 hl)) k2
   ·exact jn1 hl
theorem yV.least {p:au}{t:Tab Decision}{g:aF Int}{b:Bool}(H:yV p t g b){s:aF Int}(hs:bn.In (fF s))(hd:kX p s≠t.val (fF s) 0)(hl:∀ f:aF Int,bn.In (fF f)->kX p f≠t.val (fF f) 0->∀ j,j<10->fF s j<=fF f j):b=true/\g=s:=by
 cases b with
 |false=>exact absurd ((H.no rfl).2 s hs) hd
 |true =>
  obtain⟨h1,h2,h3⟩:=H.yes rfl;refine⟨rfl,?_⟩;rcases yi2 (fF s) (fF g) with h|h|h
  ·exact absurd (h3 s hs h) hd
  ·exact absurd h (ce1 (hl g h1 h2))
  ·exact(jn1 h).symm
theorem YQ (a b:List Int)(ha:a.length<=2000000000):JV a b=some (decide (a=b)):=by
 unfold JV;simp only[mX,dF,vX];by_cases hl:a.length=b.length
 ·have hl':((a.length:Nat):Int)=((b.length:Nat):Int):=by omega
  rw[qM hl',Bool.not_true,cond_false];rw[H8 (step:=QG a b) a.length (fun k=>decide (a[k]?≠b[k]?)) (.inr false) (.inl ()) (fun k hk=>by
   have h1:a[k]?=some a[k]:=by simp[hk]
   have h2:b[k]?=some (b[k]'(by omega)):=by rw[qD]
   generalize a[k]=x at h1;generalize b[k]'(by omega)=y at h2;have hlt:(k:Int)<a.length:=by omega
   simp only[QG,bV,dF,hlt,decide_true,cond_true,fB h1,fB h2,qC,mX,vX,iD,gI (k:=k) (by omega),h1,h2];by_cases h:x=y
   ·simp[h]
   ·simp[h]) (by simp[QG,bV,dF])]
  by_cases he:a=b
  ·subst he;rw[if_neg (by simp)];simp[gu]
  ·rw[if_pos]
   ·simp[gu,he]
   ·rw[zK];refine Classical.byContradiction fun hno=>he (List.ext_getElem? fun i=>?_)
    by_cases hi:i<a.length
    ·refine Classical.byContradiction fun hne=>hno ⟨i,List.mem_range.2 hi,by simpa using hne⟩
    ·rw[qT (by omega),qT (by omega)]
 ·have hl':¬ ((a.length:Nat):Int)=((b.length:Nat):Int):=by omega
  rw[qJ hl',Bool.not_false,cond_true];have:a≠b:=fun e=>hl (by rw[e])
  simp[this]
theorem xz2 (a b:List Int)(ha:a.length<=1000000000):JV a b=some (decide (a=b)):=YQ a b (by omega)
theorem kn1 (a b:Node)(h1:a.aI.length<=2000000000)(h2:a.Kids.length<=2000000000):L9 a b=some (decide (a=b)):=by
 obtain⟨a1,a2,a3,a4⟩:=a;obtain⟨b1,b2,b3,b4⟩:=b;unfold L9;simp only[mX,YQ _ _ h1,YQ _ _ h2,qC,Node.mk.injEq];by_cases e1:a1=b1<;>by_cases e2:a2=b2<;>by_cases e3:a3=b3<;>by_cases e4:a4=b4<;>simp[e1,e2,e3,e4]
theorem zi2 (a b:Node)(h1:a.aI.length<=1000000000)(h2:a.Kids.length<=1000000000):L9 a b=some (decide (a=b)):=kn1 a b (by omega) (by omega)
theorem ue1 {t s:Tab Decision}(h:dZ t=dZ s):t=s:=by
 obtain⟨a,b⟩:=t;obtain⟨c,d⟩:=s;simp only[dZ,Table.mk.injEq] at h;obtain⟨h1,rfl⟩:=h;have:∀ {l m:List Nd},l.map bD=m.map bD->l=m:=fun {l}=>by
  induction l with
  |nil=>intro m h;cases m with
   |nil=>rfl
   |cons=>simp at h
  |cons x l ih=>intro m h;cases m with
   |nil=>simp at h
   |cons y m =>
    simp only[zC,List.cons.injEq] at h;rw[Yl h.1,ih h.2]
 rw[this h1]
theorem Ws (l:List Int)(n:Int)(hl:l.length<=1000000000):Gx l n=some (decide (n∈l)):=by
 unfold Gx;rw[Kq (step:=QN l n) l (fun x=>decide (x=n)) (.inr true) (.inl ()) (fun k x hx=>by
  have hk:=(qA.1 hx).1;have hlt:(k:Int)<l.length:=by omega
  simp only[QN,bV,dF,hlt,decide_true,cond_true,fB hx,qC,mX,iD,gI (k:=k) (by omega)];by_cases h:x=n<;>simp[h]) (by simp[QN,bV,dF])]
 by_cases hm:n∈l
 ·rw[if_pos (zK.2 ⟨n,hm,by simp⟩),qM hm];rfl
 ·rw[if_neg (fun h=>by
   obtain⟨x,h1,h2⟩:=zK.1 h;exact hm (by rw[<- of_decide_eq_true h2];exact h1)),qJ hm];rfl
theorem fz1 {x:Nat}{o:List Nat}:(x:Int)∈ints o↔x∈o:=by
 rw[ints,zJ]
 constructor
 ·rintro ⟨a,h,e⟩;have e:(a:Int)=x:=e;have e:a=x:=by omega
  rw[<- e];exact h
 ·exact fun h=>⟨x,h,rfl⟩
theorem ou0 {t:Tab Decision}(ls:List Decision)(hkl:∀ x,x<t.ns.length->∀ k∈(t.nd x).kids,k<t.ns.length/\aT (t.nd x)<aT (t.nd k))(hlv:∀ x,x<t.ns.length->aT (t.nd x)<=10)(hb:∀ n∈t.ns,Bd n)(hN:t.ns.length<=20000):∀ (n x:Nat)(o:List Nat),x<t.ns.length->10<n+aT (t.nd x)->o.Nodup->(∀ y∈o,y<t.ns.length) ->
  Ia (t.ns.map bD) ls n (x:Int) (ints o)=some (ints (walk (jf t) n x o))
 |0,x,o,hx,hl,_,_=>by have:=hlv x hx;omega
 |n+1,x,o,hx,hl,ho,XV=>by
  show RF _ _ (Ia (t.ns.map bD) ls n) _ _=_;have hol:o.length<=t.ns.length:=by
   have:=LC (l:=o) (m:=List.range t.ns.length) ho fun y hy=>List.mem_range.2 (XV y hy)
   simpa using this
  rw[RF,Ws _ _ (by rw[jg];omega)];by_cases hm:x∈o
  ·simp only[qC,fz1,hm,decide_true,cond_true,walk,if_true]
  ·have wY:(o++[x]).Nodup:=by
    rw[List.nodup_append];exact⟨ho,by simp,fun a ha b hb e=>hm (by simp at hb;rw[<- hb,<- e];exact ha)⟩
   have hlt':∀ y∈o++[x],y<t.ns.length:=fun y hy=>by
    rcases qO.1 hy with hy|hy
    ·exact XV y hy
    ·simp at hy;omega
   have hgx:bU (t.ns.map bD) (x:Int)=some (bD (t.nd x)):=fB (Dx hx);have happ:appG (ints o) [(x:Int)]=some (ints (o++[x])):=by
    rw[rU (by rw[jg];simp;omega)];simp[ints]
   simp only[qC,fz1,hm,decide_false,cond_false,happ,walk,if_false];have hgood:∀ k,k<=(t.nd x).kids.length->(((t.nd x).kids.take k).foldl (fun o k=>walk (jf t) n k o) (o++[x])).Nodup/\∀ y∈((t.nd x).kids.take k).foldl (fun o k=>walk (jf t) n k o) (o++[x]),y<t.ns.length:=by
    intro k
    induction k with
    |zero=>intro _;simp only[List.take_zero,List.foldl_nil];exact⟨wY,hlt'⟩
    |succ k ih =>
     intro hk;obtain⟨i1,i2⟩:=ih (by omega);have hg:(t.nd x).kids[k]?=some (t.nd x).kids[k]:=by simp
     rw[qW,hg,zD,List.foldl_append];simp only[qV,List.foldl_nil];obtain⟨k1,k2⟩:=hkl x hx _ (qL hg);obtain⟨w1,-⟩:=Ed (kids:=jf t) (lv:=fun x=>aT (t.nd x)) (N:=t.ns.length) hkl n _ (((t.nd x).kids.take k).foldl (fun o k=>walk (jf t) n k o) (o++[x])) k1 (by omega) (hlv _ k1) hlv;exact⟨w1.CZ i1,fun y hy=>(w1.lt y hy).elim (i2 y) id⟩
   have hmem:t.nd x∈t.ns:=by unfold Tab.nd;rw[qI,qD hx];exact zA _
   have hloop:dw (OW (t.ns.map bD) (x:Int) (Ia (t.ns.map bD) ls n)) (ints (o++[x]),0)=some (ints ((jf t x).foldl (fun o k=>walk (jf t) n k o) (o++[x]))):=by
    refine Df (step:=OW (t.ns.map bD) (x:Int) (Ia (t.ns.map bD) ls n)) (fun (s:List Nat) i=>(ints s,i)) (t.nd x).kids (fun o k=>walk (jf t) n k o) (o++[x]) _ (fun k y hy=>?_) ?_
    ·have hk:k<(t.nd x).kids.length:=(qA.1 hy).1;obtain⟨g1,g2⟩:=hgood k (by omega);obtain⟨k1,k2⟩:=hkl x hx y (qL hy);have hlt:(k:Int)<(ints (t.nd x).kids).length:=by rw[jg];omega
     have e:=ou0 ls hkl hlv hb hN n y _ k1 (by omega) g1 g2;simp only[OW,hgx,qC,bV,dF,bD,hlt,decide_true,cond_true,fB (Ar hy),e,iD,gI (show k<9223372036854775807 by have:=(hb _ hmem).kids;omega)]
    ·have hlt:¬ (((t.nd x).kids.length:Int)<(ints (t.nd x).kids).length):=by rw[jg];omega
     simp only[OW,hgx,qC,bV,dF,bD,hlt,decide_false,cond_false]
   rw[hloop];rfl
end Go.SX.Td
