/- Parts of the proof. -/
import Derived.Test.YtllbabjgpdmblaaGreatDoorZSyP
import Derived.Test.YtllbabjgpdmblaaGreatDoorZTd32d
import Derived.Test.YtllbabjgpdmblaaGreatDoorZTryzShelf
import Derived.Lib.ItoaLen
import Derived.Test.YtllbabjgpdmblaaGreatDoorZTd49
import Derived.Test.YtllbabjgpdmblaaGreatDoorZTzwnode
import Derived.Laws.Strings
set_option linter.unusedSimpArgs false
set_option linter.unusedVariables false
set_option linter.unusedSectionVars false
namespace Go.SX.Td
open Go Go.SX
def dW : aF Range:=⟨⟨0,1000000000⟩,⟨0,150⟩,⟨0,1⟩,⟨0,19⟩,⟨0,7⟩,⟨0,319⟩,⟨0,3⟩,⟨0,3⟩,⟨1,12⟩,⟨0,100⟩⟩
theorem Q9 : KX=some dW:=rfl
def zY (z:aF Range)(f:aF Int):Bool:=(List.range 10).all fun i=>decide ((z.get i).Lo<=f.get i)&&decide (f.get i<=(z.get i).Hi)
def holds (r:Rule)(f:aF Int):Bool:=r.ay.any fun z=>zY z f
theorem rl1 {z:aF Range}{f:aF Int}:zY z f=true↔∀ i,i<10->(z.get i).Lo<=f.get i/\f.get i<=(z.get i).Hi:=by
 unfold zY;simp only[qP,List.mem_range,qK,qX]
theorem pq1 {n:Nat}{p:Nat->Bool}:(!(List.range n).any p)=(List.range n).all fun i=>!p i:=by
 rw[List.not_any_eq_all_not]
theorem ug1 (z:aF Range)(f:aF Int):dw (Og f z) 0=some (if zY z f then .inl () else .inr false):=by
 rw[H8 (step:=Og f z) 10 (fun i=>!(decide ((z.get i).Lo<=f.get i)&&decide (f.get i<=(z.get i).Hi))) (.inr false) (.inl ()) (fun k hk=>?_) (by simp[Og,bV])]
 ·congr 1;have:zY z f=!((List.range 10).any fun i=>!(decide ((z.get i).Lo<=f.get i)&&decide (f.get i<=(z.get i).Hi))):=by
   rw[pq1];simp[zY]
  rw[this];cases ((List.range 10).any fun i=>!(decide ((z.get i).Lo<=f.get i)&&decide (f.get i<=(z.get i).Hi)))<;>rfl
 ·have h10:(k:Int)<10:=by omega
  simp only[Og,bV,h10,decide_true,cond_true,wS hk,qC,iD,gI (k:=k) (by omega)];by_cases h1:f.get k<(z.get k).Lo
  ·have h1':¬ (z.get k).Lo<=f.get k:=by omega
   simp[h1,h1']
  ·have h1':(z.get k).Lo<=f.get k:=by omega
   by_cases h2:(z.get k).Hi<f.get k
   ·have h2':¬ f.get k<=(z.get k).Hi:=by omega
    simp[h1,h1',h2,h2']
   ·have h2':f.get k<=(z.get k).Hi:=by omega
    simp[h1,h1',h2,h2']
theorem za2 (r:Rule)(f:aF Int)(hz:r.ay.length<=1000000):D8 r f=some (holds r f):=by
 unfold D8;have key:=Vp (step:=SY r f) r.ay (fun z=>zY z f) (fun _ _=>.inr true) (.inl ()) (fun k x hx=>by
  have hk:k<r.ay.length:=(qA.1 hx).1;have hlt:(k:Int)<r.ay.length:=by omega
  have hge:(0:Int)<=k:=by omega
  simp only[SY,bV,dF,hlt,decide_true,cond_true,fB hx,qC,ug1,iD,gI (k:=k) (by omega),nY,hge];cases zY x f<;>simp[gu]) (by simp[SY,bV,dF])
 rcases key with ⟨k,x,h1,h2,h3,h4⟩|⟨h1,h2⟩
 ·have:holds r f=true:=zK.2 ⟨x,qL h1,h2⟩;simp[h4,gu,this]
 ·have:holds r f=false:=by
   unfold holds;rw[List.any_eq_false];intro x hx;simp[h1 x hx]
  simp[h2,gu,this,nY]
structure JS where
 OI:Bool
 CS:Bool
 limit:Int
 price:Int
 Ku:Ratio
 Jr:Ratio
 cap:Ratio
 share:Ratio
 kZ:Ratio
 kP:Bool
 sold:Bool
 back:Bool
 allowed:Int
 denied:Int
deriving DecidableEq
def one : Ratio:=⟨0,1⟩
def J0 : JS:=⟨false,false,0,0,one,one,one,one,one,false,false,false,-1,-1⟩
def note (s:JS)(i:Int)(r:Rule):JS :=
 if r.Kind=1 then { s with allowed:=if s.allowed<0 then i else s.allowed,limit:=if 0<r.N/\(s.limit=0\/r.N<s.limit) then r.N else s.limit }
 else if r.Kind=2 then { s with denied:=if s.denied<0 then i else s.denied }
 else if r.Kind=3 then (if s.kP then s else { s with kP:=true,price:=r.N,Ku:=r.R,Jr:=r.S })
 else if r.Kind=4 then (if s.sold then s else { s with sold:=true,cap:=r.R,share:=r.S })
 else if r.Kind=5 then (if s.back then s else { s with back:=true,kZ:=r.R })
 else if r.Kind=6 then { s with OI:=true }
 else if r.Kind=7 then { s with CS:=true }
 else s
def stepJ (f:aF Int)(s:JS×Nat)(r:Rule):JS×Nat:=(if holds r f then note s.1 s.2 r else s.1,s.2+1)
def XG (s:JS):Decision :=
 ⟨decide (0<=s.allowed)&&(s.kP&&decide (s.denied<0)),s.OI,s.CS,s.limit,s.price,s.Ku,s.Jr,s.cap,s.share,s.kZ,if 0<=s.denied then s.denied else s.allowed⟩
def kX (p:au)(f:aF Int):Decision:=XG (p.Rules.foldl (stepJ f) (J0,0)).1
theorem wu1 (f:aF Int):∀ (l:List Rule)(s:JS×Nat),(l.foldl (stepJ f) s).2=s.2+l.length
 |[],_=>rfl
 |r::l,s=>by
  rw[qV,wu1 f l];simp[stepJ];omega
abbrev QX (s:JS):Bool×Bool×Int×Int×Int×Int×Int×Int×Int×Int×Int×Int×Int×Int×Bool×Bool×Bool×Int×Int :=
 (s.OI,s.CS,s.limit,s.price,s.Ku.Num,s.Ku.Den,s.Jr.Num,s.Jr.Den,s.cap.Num,s.cap.Den,s.share.Num,s.share.Den,s.kZ.Num,s.kZ.Den,s.kP,s.sold,s.back,s.allowed,s.denied)
def Xw (s:JS×Nat)(i:Int):Bool×Bool×Int×Int×Int×Int×Int×Int×Int×Int×Int×Int×Int×Int×Bool×Bool×Bool×Int×Int×Int :=
 (s.1.OI,s.1.CS,s.1.limit,s.1.price,s.1.Ku.Num,s.1.Ku.Den,s.1.Jr.Num,s.1.Jr.Den,s.1.cap.Num,s.1.cap.Den,s.1.share.Num,s.1.share.Den,s.1.kZ.Num,s.1.kZ.Den,s.1.kP,s.1.sold,s.1.back,s.1.allowed,s.1.denied,i)
set_option maxHeartbeats 4000000 in
theorem eh1 (p:au)(f:aF Int)(hp:p.Rules.length<=1000000)(hz:∀ r∈p.Rules,r.ay.length<=1000000):PX p f=some (kX p f):=by
 unfold PX;have key:=Df (step:=Tt p f) Xw p.Rules (stepJ f) (J0,0) (QX (p.Rules.foldl (stepJ f) (J0,0)).1) (fun k x hx=>by
  have hk:k<p.Rules.length:=(qA.1 hx).1;have hlt:(k:Int)<p.Rules.length:=by omega
  have hidx:((p.Rules.take k).foldl (stepJ f) (J0,0)).2=k:=by rw[wu1];simp;omega
  generalize hs:(p.Rules.take k).foldl (stepJ f) (J0,0)=s at hidx;obtain⟨s,i⟩:=s;simp only at hidx;subst hidx;have hh:=za2 x f (hz x (qL hx));simp only[Tt,Xw,bV,nY,dF,hlt,decide_true,cond_true,fB hx,qC,iD,gI (k:=i) (by omega),mX,hh,vX,stepJ,note];cases hx':holds x f
  ·by_cases k1:x.Kind=1
   ·simp[k1]
   ·by_cases k2:x.Kind=2
    ·simp[k2]
    ·by_cases k3:x.Kind=3
     ·simp[k3]
     ·by_cases k4:x.Kind=4
      ·simp[k4]
      ·by_cases k5:x.Kind=5
       ·simp[k5]
       ·by_cases k6:x.Kind=6
        ·simp[k6]
        ·by_cases k7:x.Kind=7
         ·simp[k7]
         ·simp[k1,k2,k3,k4,k5,k6,k7]
  ·by_cases k1:x.Kind=1
   ·by_cases a1:s.allowed<0<;>by_cases a2:0<x.N<;>by_cases a3:s.limit=0<;>by_cases a4:x.N<s.limit<;>simp[k1,a1,a2,a3,a4]
    all_goals (first|omega|(simp_all) )
   ·by_cases k2:x.Kind=2
    ·by_cases a1:s.denied<0<;>simp[k2,a1]
    ·by_cases k3:x.Kind=3
     ·cases hs':s.kP<;>simp[k3,hs']
     ·by_cases k4:x.Kind=4
      ·cases hs':s.sold<;>simp[k4,hs']
      ·by_cases k5:x.Kind=5
       ·cases hs':s.back<;>simp[k5,hs']
       ·by_cases k6:x.Kind=6
        ·simp[k6]
        ·by_cases k7:x.Kind=7
         ·simp[k7]
         ·simp[k1,k2,k3,k4,k5,k6,k7]) (by simp[Tt,Xw,bV,dF])
 have h0:Xw (J0,0) 0=(false,false,0,0,0,1,0,1,0,1,0,1,0,1,false,false,false,-1,-1,0):=rfl;rw[h0] at key;rw[key];unfold kX XG;generalize (p.Rules.foldl (stepJ f) (J0,0)).1=s;simp only[QX,qC,nY,bV];by_cases h1:0<=s.allowed<;>cases h2:s.kP<;>by_cases h3:0<=s.denied<;>simp[h1,h2,h3]<;>first|omega|rfl
theorem dd0 {κ α:Type}[DecidableEq κ](k k':κ)(v z:α):∀ m:List (κ×α),nI (sW m k v) k' z=if k'=k then v else nI m k' z
 |[]=>by
  simp only[sW,nI,xR];split<;>rfl
 |(q,w)::m=>by
  have ih:=dd0 k k' v z m;simp only[nI] at ih;simp only[sW];by_cases h1:k=q
  ·subst h1;simp only[if_true,nI,xR];split<;>rfl
  ·simp only[if_neg h1,nI,xR];by_cases h2:k'=q
   ·subst h2;simp[Ne.symm h1]
   ·simp only[if_neg h2];exact ih
theorem LY : Bo=some dW:=by
 unfold Bo;simp only[qC];have step:∀ (k:Nat)(hk:k<10)(z:aF Range),P8 [1000000000,150,1,19,7,319,3,3,12,100] (z,(k:Int))=some (.inl (z.put k ⟨(z.get k).Lo,([1000000000,150,1,19,7,319,3,3,12,100]:List Int)[k]⟩,((k+1:Nat):Int))):=by
  intro k hk z;have hlt:(k:Int)<10:=by omega
  have h1:oL ([1000000000,150,1,19,7,319,3,3,12,100]:List Int) (k:Int)=some k:=by
   unfold oL;rw[if_pos ⟨by omega,by simp;omega⟩];simp
  have h2:([1000000000,150,1,19,7,319,3,3,12,100]:List Int)[k]?=some (([1000000000,150,1,19,7,319,3,3,12,100]:List Int)[k]):=qD _;have h3:(([1000000000,150,1,19,7,319,3,3,12,100]:List Int).length:Int)=10:=rfl;simp only[P8,bV,dF,h3,hlt,decide_true,cond_true,h1,h2,wS hk,qC,iD,gI (k:=k) (by omega)]
 have fin:∀ z:aF Range,P8 [1000000000,150,1,19,7,319,3,3,12,100] (z,((10:Nat):Int))=some (.inr z):=fun z=>by
  simp[P8,bV,dF]
 have h0:(0:Int)=((0:Nat):Int):=rfl;rw[h0,xM,step 0 (by omega)];simp only[];rw[xM,step 1 (by omega)];simp only[];rw[xM,step 2 (by omega)];simp only[];rw[xM,step 3 (by omega)];simp only[];rw[xM,step 4 (by omega)];simp only[];rw[xM,step 5 (by omega)];simp only[];rw[xM,step 6 (by omega)];simp only[];rw[xM,step 7 (by omega)];simp only[];rw[xM,step 8 (by omega)];simp only[];rw[xM,step 9 (by omega)];simp only[];rw[xM,fin];rfl
def LH (r:Ratio)(most:Int):Bool :=
 decide (1<=r.Den)&&(decide (r.Den<=1000000)&&(decide (0<=r.Num)&&(decide (r.Num<=IntKind.i64.wrap (most * r.Den))&&decide (r.Num<=1000000))))
def Kt (r:Rule):Bool :=
 if r.Kind=1 then decide (0<=r.N)&&decide (r.N<=100)
 else if r.Kind=3 then decide (0<=r.N)&&(decide (r.N<=10000000)&&(LH r.R 1&&LH r.S 1))
 else if r.Kind=4 then LH r.R 10&&LH r.S 1
 else if r.Kind=5 then LH r.R 1
 else decide (r.Kind=2)||(decide (r.Kind=6)||decide (r.Kind=7))
theorem Jt {b x:Bool}:(bif b then some x else some false)=some (b&&x):=by cases b<;>rfl
theorem au1 (r:Rule):TB r=some (Kt r):=by
 unfold TB Kt LH;simp only[mX,nY,yv2];by_cases h1:r.Kind=1
 ·simp only[h1,decide_true,cond_true,if_true,Jt]
 ·by_cases h3:r.Kind=3
  ·simp only[h3,show ¬ ((3:Int)=1) by omega,decide_false,cond_false,decide_true,cond_true,if_true,if_false,Jt,Bool.and_assoc]
  ·by_cases h4:r.Kind=4
   ·simp only[h4,show ¬ ((4:Int)=1) by omega,show ¬ ((4:Int)=3) by omega,decide_false,cond_false,decide_true,cond_true,if_true,if_false,Jt,Bool.and_assoc]
   ·by_cases h5:r.Kind=5
    ·simp only[h5,show ¬ ((5:Int)=1) by omega,show ¬ ((5:Int)=3) by omega,show ¬ ((5:Int)=4) by omega,decide_false,cond_false,decide_true,cond_true,if_true,if_false,Jt]
    ·simp only[h1,h3,h4,h5,decide_false,cond_false,if_false];by_cases h2:r.Kind=2
     ·simp[h2]
     ·by_cases h6:r.Kind=6
      ·simp[h6]
      ·by_cases h7:r.Kind=7
       ·simp[h7]
       ·simp[h2,h6,h7]
def vW (z:aF Range):Bool:=(List.range 10).all fun i=>decide ((z.get i).Lo<=(z.get i).Hi)&&(decide ((dW.get i).Lo<=(z.get i).Lo)&&decide ((z.get i).Hi<=(dW.get i).Hi))
theorem vz1 {z:aF Range}:vW z=true↔∀ i,i<10->(dW.get i).Lo<=(z.get i).Lo/\(z.get i).Lo<=(z.get i).Hi/\(z.get i).Hi<=(dW.get i).Hi:=by
 unfold vW;simp only[qP,List.mem_range,qK,qX];exact⟨fun h i hi=>⟨(h i hi).2.1,(h i hi).1,(h i hi).2.2⟩,fun h i hi=>⟨(h i hi).2.1,(h i hi).1,(h i hi).2.2⟩⟩
theorem bo0 (z:aF Range):((List.range 10).any fun i=>!(decide ((z.get i).Lo<=(z.get i).Hi)&&(decide ((dW.get i).Lo<=(z.get i).Lo)&&decide ((z.get i).Hi<=(dW.get i).Hi))))=!vW z:=by
 unfold vW;rw[List.not_all_eq_any_not]
theorem ln1 (z:aF Range):Tz z=some (vW z):=by
 unfold Tz;simp only[Q9,qC];rw[H8 (step:=TG z dW) 10 (fun i=>!(decide ((z.get i).Lo<=(z.get i).Hi)&&(decide ((dW.get i).Lo<=(z.get i).Lo)&&decide ((z.get i).Hi<=(dW.get i).Hi)))) (.inr false) (.inl ()) (fun k hk=>?_) (by simp[TG,bV])]
 ·rw[bo0];cases vW z<;>rfl
 ·have h10:(k:Int)<10:=by omega
  simp only[TG,bV,h10,decide_true,cond_true,wS hk,qC,iD,gI (k:=k) (by omega)];by_cases h1:(z.get k).Hi<(z.get k).Lo
  ·have h1':¬ (z.get k).Lo<=(z.get k).Hi:=by omega
   simp[h1,h1']
  ·have h1':(z.get k).Lo<=(z.get k).Hi:=by omega
   by_cases h2:(z.get k).Lo<(dW.get k).Lo
   ·have h2':¬ (dW.get k).Lo<=(z.get k).Lo:=by omega
    simp[h1,h1',h2,h2']
   ·have h2':(dW.get k).Lo<=(z.get k).Lo:=by omega
    by_cases h3:(dW.get k).Hi<(z.get k).Hi
    ·have h3':¬ (z.get k).Hi<=(dW.get k).Hi:=by omega
     simp[h1,h1',h2,h2',h3,h3']
    ·have h3':(z.get k).Hi<=(dW.get k).Hi:=by omega
     simp[h1,h1',h2,h2',h3,h3']
def BP (p:au)(k:Nat)(r:Rule):Bool:=Kt r&&(decide (r.ay.length<=200)&&(r.ay.all vW&&!((p.Rules.take k).any fun q=>decide (q.Name=r.Name))))
def mG (p:au):Bool:=decide (p.Rules.length<=200)&&p.Rules.zipIdx.all fun x=>BP p x.2 x.1
theorem Xe {p:au}(h:mG p=true){k:Nat}{r:Rule}(hr:p.Rules[k]?=some r):BP p k r=true:=by
 simp only[mG,qK,qP] at h;exact h.2 (r,k) (List.mem_zipIdx_iff_getElem?.2 hr)
theorem ut1 {p:au}(h1:p.Rules.length<=200)(h:∀ (k:Nat) r,p.Rules[k]?=some r->BP p k r=true):mG p=true:=by
 simp only[mG,qK,qP,qX];exact⟨h1,fun x hx=>h x.2 x.1 (List.mem_zipIdx_iff_getElem?.1 hx)⟩
theorem ba1 {p:au}{k:Nat}{r:Rule}(hr:p.Rules[k]?=some r)(h:BP p k r=false):mG p=false:=by
 cases hv:mG p with
 |false=>rfl
 |true=>rw[Xe hv hr] at h;cases h
theorem wy1 (x:Rule)(m:List (ByteArray×Bool))(hx:x.ay.length<=200):dw (Oi x m) 0=some (if x.ay.all vW then .inl () else .inr (m,true)):=by
 rw[Kq (step:=Oi x m) x.ay (fun z=>!vW z) (.inr (m,true)) (.inl ()) (fun k z hz=>?_) (by simp[Oi,bV,dF])]
 ·rw[<- List.not_all_eq_any_not];cases x.ay.all vW<;>rfl
 ·have hk:k<x.ay.length:=(qA.1 hz).1;have hlt:(k:Int)<x.ay.length:=by omega
  have hge:(0:Int)<=k:=by omega
  simp only[Oi,bV,dF,hlt,decide_true,cond_true,fB hz,qC,ln1,vX,iD,gI (k:=k) (by omega),nY,hge];cases vW z<;>simp
theorem YK (p:au):QD p=some (mG p):=by
 unfold QD;simp only[nY,dF,vX];by_cases hl:p.Rules.length<=200
 ·have hl':(p.Rules.length:Int)<=200:=by omega
  simp only[hl',decide_true,cond_true];obtain⟨t,h1,h2⟩:=sU (step:=Tm p) (fun (s:List (ByteArray×Bool)) i=>(s,i)) p.Rules.length
   (fun k own=>(∀ nm,nI own nm false=(p.Rules.take k).any fun q=>decide (q.Name=nm))/\∀ (j:Nat) r,j<k->p.Rules[j]?=some r->BP p j r=true)
   (fun t=>(t=.inr false/\mG p=false)\/(∃ own,t=.inl own)/\mG p=true)
   (fun k own hk hI=>by
    obtain⟨hI1,hI2⟩:=hI;have hx:p.Rules[k]?=some p.Rules[k]:=by simp[hk]
    have hlt:(k:Int)<p.Rules.length:=by omega
    have hge:(0:Int)<=k:=by omega
    generalize p.Rules[k]=x at hx;have hname:=hI1 x.Name;have hf:BP p k x=(Kt x&&(decide (x.ay.length<=200)&&(x.ay.all vW&&!nI own x.Name false))):=by unfold BP;rw[hname]
    have bad:BP p k x=false->∀ t,(some (.inr (.inr (!decide ((0:Int)<=k)))):Option ((List (ByteArray×Bool)×Int) ⊕ (List (ByteArray×Bool) ⊕ Bool)))=some t->∃ t',some t=some (.inr t')/\((t'=.inr false/\mG p=false)\/(∃ own,t'=.inl own)/\mG p=true):=fun hb t ht=>by
     cases ht;exact⟨_,rfl,.inl ⟨by simp[hge],ba1 hx hb⟩⟩
    simp only[Tm,bV,dF,hlt,decide_true,cond_true,fB hx,qC,au1,vX,iD,gI (k:=k) (by omega),nY]
    cases hm:nI own x.Name false with
    |true =>
     exact .inr (bad (by rw[hf,hm];simp) _ rfl)
    |false =>
     simp only[cond_false,qC]
     cases hn:Kt x with
     |false=>exact .inr (bad (by rw[hf,hn];rfl) _ rfl)
     |true =>
      by_cases hz:x.ay.length<=200
      ·have hz':¬ ((200:Int)<x.ay.length):=by omega
       simp only[Bool.not_true,cond_false,hz',decide_false,wy1 x _ hz]
       cases hw:x.ay.all vW with
       |false=>exact .inr (bad (by rw[hf,hw];simp) _ rfl)
       |true =>
        refine .inl ⟨sW own x.Name true,by simp[gu],fun nm=>?_,fun j r hj hr=>?_⟩
        ·rw[dd0,hI1,qW,hx];simp only[zD,List.any_append,List.any_cons,List.any_nil,Bool.or_false];by_cases e:nm=x.Name
         ·subst e;simp
         ·simp[e,Ne.symm e]
        ·rcases Nat.lt_or_eq_of_le (Nat.le_of_lt_succ hj) with h|h
         ·exact hI2 j r h hr
         ·subst h;rw[hx] at hr;cases hr;rw[hf,hn,hw,hm];simp[hz]
      ·have hz':(200:Int)<x.ay.length:=by omega
       simp only[Bool.not_true,cond_false,hz',decide_true,cond_true];exact .inr (bad (by rw[hf];simp[hz]) _ rfl))
   (fun own hI=>⟨_,by simp[Tm,bV,dF],.inr ⟨⟨own,rfl⟩,ut1 hl fun k r hr=>hI.2 k r (qA.1 hr).1 hr⟩⟩)
   [] ⟨fun nm=>by simp[nI,xR],fun j r hj=>by omega⟩
  rw[h1];rcases h2 with ⟨rfl,hv⟩|⟨⟨own,rfl⟩,hv⟩
  ·rw[hv];rfl
  ·rw[hv];simp[gu]
 ·have hl':¬ ((p.Rules.length:Int)<=200):=by omega
  simp only[hl',decide_false,cond_false];simp[mG,hl]
theorem ja1 (u:Nat):∀ c∈Lib.decDigits u,48<=c.toNat/\c.toNat<=57:=by
 induction u using Nat.strongRecOn with
 |_ u ih =>
  intro c hc;rw[Lib.decDigits] at hc;have one:∀ v,v<10->48<=(UInt8.ofNat (48+v)).toNat/\(UInt8.ofNat (48+v)).toNat<=57:=fun v hv=>by
   simp only[UInt8.toNat_ofNat'];omega
  split at hc
  ·rename_i h;simp only[zE] at hc;subst hc;exact one u h
  ·rename_i h;rcases qO.1 hc with hc|hc
   ·exact ih (u / 10) (by omega) c hc
   ·simp only[zE] at hc;subst hc;exact one _ (by omega)
def TJ (l:List UInt8):Nat:=l.foldl (fun a c=>a * 10+(c.toNat - 48)) 0
theorem Yz (u:Nat):TJ (Lib.decDigits u)=u:=by
 induction u using Nat.strongRecOn with
 |_ u ih =>
  have one:∀ v,v<10->(UInt8.ofNat (48+v)).toNat - 48=v:=fun v hv=>by
   simp only[UInt8.toNat_ofNat'];omega
  rw[Lib.decDigits];split
  ·rename_i h;simp only[TJ,qV,List.foldl_nil];rw[one u h];omega
  ·rename_i h;have:=ih (u / 10) (by omega);unfold TJ at this ⊢;rw[List.foldl_append,this];simp only[qV,List.foldl_nil];rw[one _ (by omega)];omega
theorem gd2 (u:Nat):Lib.decDigits u≠[]:=by
 rw[Lib.decDigits];split<;>simp
theorem Nv (n:Int):∀ c∈Lib.itoa n,c≠32/\c≠59/\c≠46:=by
 intro c hc;have dig:∀ u,c∈Lib.decDigits u->c≠32/\c≠59/\c≠46:=fun u h=>by
  have:=ja1 u c h;refine⟨?_,?_,?_⟩<;>(intro e;subst e;revert this;decide)
 unfold Lib.itoa at hc;split at hc
 ·rcases List.mem_cons.1 hc with rfl|hc
  ·decide
  ·exact dig _ hc
 ·exact dig _ hc
theorem YJ {n m:Int}(h:Lib.itoa n=Lib.itoa m):n=m:=by
 have cross:∀ u v,(45:UInt8)::Lib.decDigits u≠Lib.decDigits v:=fun u v e=>by
  have:(45:UInt8)∈Lib.decDigits v:=by rw[<- e];simp
  have:=ja1 v _ this
  revert this;decide
 unfold Lib.itoa at h;split at h<;>split at h
 ·injection h with _ h;have:=congrArg TJ h;rw[Yz,Yz] at this;omega
 ·exact(cross _ _ h).elim
 ·exact(cross _ _ h.symm).elim
 ·have:=congrArg TJ h;rw[Yz,Yz] at this;omega
theorem kh2 (n:Int):Lib.itoa n≠[]:=by
 unfold Lib.itoa;split
 ·simp
 ·exact gd2 _
theorem Xq {s:UInt8}:∀ {a b x y:List UInt8},s ∉ a->s ∉ b->a++s::x=b++s::y->a=b/\x=y
 |[],[],_,_,_,_,h=>by simpa using h
 |[],b::bs,_,_,_,hb,h=>by
  simp only[zN,List.cons_append,List.cons.injEq] at h;exact(hb (by simp[h.1])).elim
 |a::as_,[],_,_,ha,_,h=>by
  simp only[zN,List.cons_append,List.cons.injEq] at h;exact(ha (by simp[h.1])).elim
 |a::as_,b::bs,x,y,ha,hb,h=>by
  simp only[List.cons_append,List.cons.injEq] at h;obtain⟨rfl,h⟩:=h;obtain⟨rfl,rfl⟩:=Xq (fun e=>ha (zB _ e)) (fun e=>hb (zB _ e)) h;exact⟨rfl,rfl⟩
theorem Zb (n:Int)(l:List UInt8):BG n++l=Lib.itoa n++32::l:=by simp[BG]
theorem Xc (n:Int)(l:List Int):sZ (n::l)=BG n++sZ l:=by simp[sZ]
theorem ik1 : ∀ {l m:List Int}{x y:List UInt8},wM l++x=wM m++y->l=m/\x=y:=by
 have first:∀ (n:Int)(z x:List UInt8),Lib.itoa n++z≠59::x:=fun n z x e=>by
  cases hi:Lib.itoa n with
  |nil=>exact kh2 n hi
  |cons c t =>
   rw[hi] at e;simp only[List.cons_append,List.cons.injEq] at e;exact(Nv n c (by rw[hi];simp)).2.1 e.1
 intro l
 induction l with
 |nil =>
  intro m x y h
  cases m with
  |nil=>simpa [wM,sZ] using h
  |cons n m =>
   simp only[wM,Xc,List.append_assoc,Zb] at h;exact(first n _ _ (by simpa [sZ] using h.symm)).elim
 |cons n l ih =>
  intro m x y h
  cases m with
  |nil =>
   simp only[wM,Xc,List.append_assoc,Zb] at h;exact(first n _ _ (by simpa [sZ] using h)).elim
  |cons k m =>
   simp only[wM,Xc,List.append_assoc,Zb] at h;obtain⟨h1,h2⟩:=Xq (fun e=>(Nv n _ e).1 rfl) (fun e=>(Nv k _ e).1 rfl) h;obtain⟨rfl,rfl⟩:=ih (m:=m) (x:=x) (y:=y) (by simpa [wM] using h2);exact⟨by rw[YJ h1],rfl⟩
theorem ua1 : ∀ {a b:List (List Int)},kU a=kU b->a=b
 |[],[],_=>rfl
 |[],l::b,h=>by have:=congrArg List.length h;simp[kU,wM] at this
 |l::a,[],h=>by have:=congrArg List.length h;simp[kU,wM] at this
 |l::a,m::b,h=>by
  have e:∀ (l:List Int)(a:List (List Int)),kU (l::a)=wM l++kU a:=fun l a=>by simp[kU]
  rw[e,e] at h;obtain⟨rfl,h2⟩:=ik1 h;rw[ua1 h2]
def textOf (l:List (List Int)):ByteArray:=⟨(kU l).toArray⟩
theorem sw1 {a b:List (List Int)}(h:textOf a=textOf b):a=b:=by
 have:=congrArg (fun s:ByteArray=>s.data.toList) h;simp only[textOf] at this;exact ua1 (by simpa using this)
theorem text_eq {l:List (List Int)}(h:Tv l):LZ l=some (textOf l):=by
 unfold LZ;rw[if_pos h];rfl
theorem mg1 {l:List (List Int)}(h1:∀ x∈l,x.length<=100000)(h2:l.length<=1000)(h3:∀ x∈l,∀ n∈x,qg n):Tv l:=by
 refine⟨h3,?_⟩;have hI:∀ (x:List Int),(∀ n∈x,qg n)->(sZ x).length<=22 * x.length:=by
  intro x
  induction x with
  |nil=>intro _;simp[sZ]
  |cons n x ih =>
   intro h;have h1:=ih fun n hn=>h n (zB _ hn)
   have h2:=Lib.itoa_length_le n (h n (by simp)).1 (h n (by simp)).2;rw[Xc,qN,BG,qN,zF,qZ];omega
 have hL:∀ (l:List (List Int)),(∀ x∈l,x.length<=100000)->(∀ x∈l,∀ n∈x,qg n)->(kU l).length<=2200001 * l.length:=by
  intro l
  induction l with
  |nil=>intro _ _;simp[kU]
  |cons x l ih =>
   intro h k;have h1:=ih (fun x hx=>h x (zB _ hx)) (fun x hx=>k x (zB _ hx));have h2:=hI x (k x (by simp));have h3:=h x (by simp);have e:kU (x::l)=wM x++kU l:=by simp[kU]
   rw[e,qN,wM,qN,zF,qZ];omega
 have:=hL l h1 h3;omega
theorem uy2 {l:List (List Int)}(h1:∀ x∈l,x.length<=100000)(h2:l.length<=1000)(h3:∀ x∈l,∀ n∈x,-1000000000000<=n/\n<=1000000000000):Tv l :=
 mg1 h1 h2 fun x hx n hn=>by have:=h3 x hx n hn;exact⟨by omega,by omega⟩
theorem yt1 (r:Rule)(f:aF Int)(k:Nat)(z:aF Range)(hz:r.ay[k]?=some z):dw (P7 r k f) (true,0)=some (zY z f):=by
 obtain⟨t,h1,h2⟩:=sU (step:=P7 r k f) (fun (b:Bool) i=>(b,i)) 10
  (fun j b=>b=(List.range j).all fun i=>decide ((z.get i).Lo<=f.get i)&&decide (f.get i<=(z.get i).Hi)) (fun t=>t=zY z f) (fun j b hj hI=>by
   have hlt:(j:Int)<10:=by omega
   refine .inl ⟨b&&(decide ((z.get j).Lo<=f.get j)&&decide (f.get j<=(z.get j).Hi)),?_,?_⟩
   ·simp only[P7,bV,hlt,decide_true,cond_true,fB hz,wS hj,qC,nY,iD,gI (k:=j) (by omega)]
    cases b with
    |false=>simp
    |true =>
     by_cases h1:(z.get j).Lo<=f.get j
     ·simp[h1]
     ·simp[h1]
   ·rw[List.range_succ,List.all_append,<- hI];simp) (fun b hI=>⟨b,by simp[P7,bV],by rw[hI];rfl⟩) true (by simp)
 rw[h1,h2]
theorem yn1 (r:Rule)(f:aF Int)(hz:r.ay.length<=1000000):OD r f=some (holds r f):=by
 unfold OD;rw[Kq (step:=Ti r f) r.ay (fun z=>zY z f) (.inr true) (.inl ()) (fun k x hx=>by
  have hk:k<r.ay.length:=(qA.1 hx).1;have hlt:(k:Int)<r.ay.length:=by omega
  simp only[Ti,bV,dF,hlt,decide_true,cond_true,yt1 r f k x hx,qC,iD,gI (k:=k) (by omega)];cases zY x f<;>simp[gu]) (by simp[Ti,bV,dF])]
 show gu (some (if holds r f then .inr true else .inl ())) _=_;cases holds r f<;>rfl
def fi (q:Rule->Bool)(s:Option (Nat×Rule)×Nat)(x:Rule):Option (Nat×Rule)×Nat :=
 (match s.1 with|some a=>some a|none=>if q x then some (s.2,x) else none,s.2+1)
def sJ : Option (Nat×Rule)->Int
 |some a=>a.1
 |none=>-1
theorem ro1 (q:Rule->Bool)(a:Nat×Rule):∀ (l:List Rule)(n:Nat),(l.foldl (fi q) (some a,n)).1=some a
 |[],_=>rfl
 |x::l,n=>by rw[qV];exact ro1 q a l (n+1)
theorem fp1 (q:Rule->Bool):∀ (l:List Rule)(n k:Nat)(x:Rule),l[k]?=some x->q x=true->(∀ (j:Nat) y,j<k->l[j]?=some y->q y=false)->(l.foldl (fi q) (none,n)).1=some (n+k,x)
 |[],_,_,_,h,_,_=>by simp at h
 |y::l,n,0,x,h,hq,_=>by
  simp only[List.getElem?_cons_zero,zI] at h;subst h;rw[qV];simp only[fi,hq,if_true,Nat.add_zero];exact ro1 q _ l _
 |y::l,n,k+1,x,h,hq,hl=>by
  simp only[List.getElem?_cons_succ] at h;have h0:=hl 0 y (by omega) rfl;rw[qV];simp only[fi,h0,Bool.false_eq_true,if_false];have:=fp1 q l (n+1) k x h hq (fun j z hj hz=>hl (j+1) z (by omega) (by simpa using hz));rw[show fi q=fi q from rfl] at this;rw[this];congr 2;omega
theorem ru1 (q:Rule->Bool):∀ (l:List Rule)(n:Nat),(∀ x∈l,q x=false)->(l.foldl (fi q) (none,n)).1=none
 |[],_,_=>rfl
 |y::l,n,h=>by
  rw[qV];simp only[fi,h y (by simp),Bool.false_eq_true,if_false];exact ru1 q l (n+1) fun x hx=>h x (by simp[hx])
def BQ (p:au)(kind:Int)(f:aF Int):Option (Nat×Rule):=(p.Rules.foldl (fi fun r=>decide (r.Kind=kind)&&holds r f) (none,0)).1
theorem ze2 (p:au)(f:aF Int)(kind:Int)(hp:p.Rules.length<=1000000)(hz:∀ r∈p.Rules,r.ay.length<=1000000) :
  Eb p f kind=some (sJ (BQ p kind f))/\∀ a,BQ p kind f=some a->p.Rules[a.1]?=some a.2:=by
 unfold Eb;rcases Vp (step:=QF p kind f) p.Rules (fun r=>decide (r.Kind=kind)&&holds r f) (fun k _=>.inr (k:Int)) (.inl ()) (fun k x hx=>by
  have hk:k<p.Rules.length:=(qA.1 hx).1;have hlt:(k:Int)<p.Rules.length:=by omega
  have hh:=yn1 x f (hz x (qL hx));simp only[QF,bV,dF,hlt,decide_true,cond_true,fB hx,qC,mX,hh,iD,gI (k:=k) (by omega)];by_cases h1:x.Kind=kind
  ·cases hb:holds x f<;>simp[h1]
  ·simp[h1]) (by simp[QF,bV,dF]) with ⟨k,x,h1,h2,h3,h4⟩|⟨h1,h2⟩
 ·have:=fp1 _ p.Rules 0 k x h1 h2 h3;rw[Nat.zero_add] at this;refine⟨?_,fun a ha=>?_⟩
  ·rw[h4];unfold BQ;rw[this];rfl
  ·unfold BQ at ha;rw[this] at ha;cases ha;exact h1
 ·have:=ru1 _ p.Rules 0 h1;refine⟨?_,fun a ha=>?_⟩
  ·rw[h2];unfold BQ;rw[this];rfl
  ·unfold BQ at ha;rw[this] at ha;cases ha
def CB (f:aF Int)(s:Int)(r:Rule):Int:=if r.Kind=1/\holds r f=true/\0<r.N/\(s=0\/r.N<s) then r.N else s
def Qv {α:Type}(g:Rule->α)(d:α):Option (Nat×Rule)->α
 |some a=>g a.2
 |none=>d
structure YG (s:JS)(s1 s2 s3 s4 s5 s6 s7:Option (Nat×Rule))(l:Int):Prop where
 allowed:s.allowed=sJ s1
 denied:s.denied=sJ s2
 OI:s.OI=s6.isSome
 CS:s.CS=s7.isSome
 limit:s.limit=l
 kP:s.kP=s3.isSome
 price:s.price=Qv (·.N) 0 s3
 Ku:s.Ku=Qv (·.R) one s3
 Jr:s.Jr=Qv (·.S) one s3
 sold:s.sold=s4.isSome
 cap:s.cap=Qv (·.R) one s4
 share:s.share=Qv (·.S) one s4
 back:s.back=s5.isSome
 kZ:s.kZ=Qv (·.R) one s5
abbrev qk (f:aF Int)(k:Int)(r:Rule):Bool:=decide (r.Kind=k)&&holds r f
theorem pO {f:aF Int}{k:Int}{r:Rule}(h:r.Kind≠k)(t:Option (Nat×Rule))(n:Nat):fi (qk f k) (t,n) r=(t,n+1):=by
 cases t<;>simp[fi,h]
theorem KP {f:aF Int}{k:Int}{r:Rule}(h:holds r f=false)(t:Option (Nat×Rule))(n:Nat):fi (qk f k) (t,n) r=(t,n+1):=by
 cases t<;>simp[fi,h]
theorem NR {f:aF Int}{k:Int}{r:Rule}(h:r.Kind=k)(hh:holds r f=true)(t:Option (Nat×Rule))(n:Nat):fi (qk f k) (t,n) r=(t.or (some (n,r)),n+1):=by
 cases t<;>simp[fi,h,hh]
theorem ym2 (t:Option (Nat×Rule))(n:Nat)(r:Rule):sJ (t.or (some (n,r)))=if sJ t<0 then (n:Int) else sJ t:=by
 cases t with
 |none=>simp[sJ]
 |some a =>
  have:¬ sJ (some a)<0:=by simp only[sJ];omega
  rw[if_neg this];rfl
theorem yu1 (t:Option (Nat×Rule))(n:Nat)(r:Rule):(t.or (some (n,r))).isSome=true:=by cases t<;>rfl
theorem gv2 {f:aF Int}{m:Int}{r:Rule}(h:r.Kind≠1):CB f m r=m:=by unfold CB;rw[if_neg fun x=>h x.1]
theorem gk2 {f:aF Int}{m:Int}{r:Rule}(h:holds r f=false):CB f m r=m:=by unfold CB;rw[if_neg fun x=>by rw[h] at x;exact absurd x.2.1 (by simp)]
theorem kv2 {f:aF Int}{m:Int}{r:Rule}(h:r.Kind=1)(hh:holds r f=true):CB f m r=if 0<r.N/\(m=0\/r.N<m) then r.N else m:=by unfold CB;simp only[h,hh,true_and]
theorem oh1 (f:aF Int)(r:Rule)(s:JS)(n:Nat)(s1 s2 s3 s4 s5 s6 s7:Option (Nat×Rule))(m:Int)(h:YG s s1 s2 s3 s4 s5 s6 s7 m) :
  stepJ f (s,n) r=((stepJ f (s,n) r).1,n+1) /\
  YG (stepJ f (s,n) r).1 (fi (qk f 1) (s1,n) r).1 (fi (qk f 2) (s2,n) r).1 (fi (qk f 3) (s3,n) r).1 (fi (qk f 4) (s4,n) r).1 (fi (qk f 5) (s5,n) r).1 (fi (qk f 6) (s6,n) r).1 (fi (qk f 7) (s7,n) r).1 (CB f m r):=by
 refine⟨rfl,?_⟩;obtain⟨a1,a2,a3,a4,a5,a6,a7,a8,a9,a10,a11,a12,Aa,AZ⟩:=h
 cases hh:holds r f with
 |false =>
  have hs:(stepJ f (s,n) r).1=s:=by simp[stepJ,hh]
  rw[hs,KP hh,KP hh,KP hh,KP hh,KP hh,KP hh,KP hh,gk2 hh];exact⟨a1,a2,a3,a4,a5,a6,a7,a8,a9,a10,a11,a12,Aa,AZ⟩
 |true =>
  have hs:(stepJ f (s,n) r).1=note s n r:=by simp[stepJ,hh]
  rw[hs];unfold note;by_cases k1:r.Kind=1
  ·rw[if_pos k1,NR k1 hh,pO (by omega),pO (by omega),pO (by omega),pO (by omega),pO (by omega),pO (by omega),kv2 k1 hh];exact⟨by show (if s.allowed<0 then (n:Int) else s.allowed)=_;rw[ym2,a1],a2,a3,a4,by show (if 0<r.N/\(s.limit=0\/r.N<s.limit) then r.N else s.limit)=_;rw[a5],a6,a7,a8,a9,a10,a11,a12,Aa,AZ⟩
  ·rw[if_neg k1,pO k1,gv2 k1];by_cases k2:r.Kind=2
   ·rw[if_pos k2,NR k2 hh,pO (by omega),pO (by omega),pO (by omega),pO (by omega),pO (by omega)];exact⟨a1,by show (if s.denied<0 then (n:Int) else s.denied)=_;rw[ym2,a2],a3,a4,a5,a6,a7,a8,a9,a10,a11,a12,Aa,AZ⟩
   ·rw[if_neg k2,pO k2];by_cases k3:r.Kind=3
    ·rw[if_pos k3,NR k3 hh,pO (by omega),pO (by omega),pO (by omega),pO (by omega)]
     cases s3 with
     |none =>
      rw[if_neg (by rw[a6];simp)];exact⟨a1,a2,a3,a4,a5,rfl,rfl,rfl,rfl,a10,a11,a12,Aa,AZ⟩
     |some a =>
      rw[if_pos (by rw[a6];rfl)];exact⟨a1,a2,a3,a4,a5,a6,a7,a8,a9,a10,a11,a12,Aa,AZ⟩
    ·rw[if_neg k3,pO k3];by_cases k4:r.Kind=4
     ·rw[if_pos k4,NR k4 hh,pO (by omega),pO (by omega),pO (by omega)]
      cases s4 with
      |none =>
       rw[if_neg (by rw[a10];simp)];exact⟨a1,a2,a3,a4,a5,a6,a7,a8,a9,rfl,rfl,rfl,Aa,AZ⟩
      |some a =>
       rw[if_pos (by rw[a10];rfl)];exact⟨a1,a2,a3,a4,a5,a6,a7,a8,a9,a10,a11,a12,Aa,AZ⟩
     ·rw[if_neg k4,pO k4];by_cases k5:r.Kind=5
      ·rw[if_pos k5,NR k5 hh,pO (by omega),pO (by omega)]
       cases s5 with
       |none =>
        rw[if_neg (by rw[Aa];simp)];exact⟨a1,a2,a3,a4,a5,a6,a7,a8,a9,a10,a11,a12,rfl,rfl⟩
       |some a =>
        rw[if_pos (by rw[Aa];rfl)];exact⟨a1,a2,a3,a4,a5,a6,a7,a8,a9,a10,a11,a12,Aa,AZ⟩
      ·rw[if_neg k5,pO k5];by_cases k6:r.Kind=6
       ·rw[if_pos k6,NR k6 hh,pO (by omega)];exact⟨a1,a2,(yu1 _ _ _).symm,a4,a5,a6,a7,a8,a9,a10,a11,a12,Aa,AZ⟩
       ·rw[if_neg k6,pO k6];by_cases k7:r.Kind=7
        ·rw[if_pos k7,NR k7 hh];exact⟨a1,a2,a3,(yu1 _ _ _).symm,a5,a6,a7,a8,a9,a10,a11,a12,Aa,AZ⟩
        ·rw[if_neg k7,pO k7];exact⟨a1,a2,a3,a4,a5,a6,a7,a8,a9,a10,a11,a12,Aa,AZ⟩
theorem gr1 (f:aF Int):∀ (l:List Rule)(s:JS)(n:Nat)(s1 s2 s3 s4 s5 s6 s7:Option (Nat×Rule))(m:Int),YG s s1 s2 s3 s4 s5 s6 s7 m ->
  YG (l.foldl (stepJ f) (s,n)).1 (l.foldl (fi (qk f 1)) (s1,n)).1 (l.foldl (fi (qk f 2)) (s2,n)).1 (l.foldl (fi (qk f 3)) (s3,n)).1 (l.foldl (fi (qk f 4)) (s4,n)).1 (l.foldl (fi (qk f 5)) (s5,n)).1 (l.foldl (fi (qk f 6)) (s6,n)).1 (l.foldl (fi (qk f 7)) (s7,n)).1 (l.foldl (CB f) m)
 |[],_,_,_,_,_,_,_,_,_,_,h=>h
 |r::l,s,n,s1,s2,s3,s4,s5,s6,s7,m,h=>by
  have h':=(oh1 f r s n s1 s2 s3 s4 s5 s6 s7 m h).2;simp only[qV];exact gr1 f l _ (n+1) _ _ _ _ _ _ _ _ h'
theorem nt1 (p:au)(f:aF Int)(hp:p.Rules.length<=1000000)(hz:∀ r∈p.Rules,r.ay.length<=1000000) :
  dw (PW p f) (0,0)=some (p.Rules.foldl (CB f) 0):=by
 exact Df (step:=PW p f) (fun (s:Int) i=>(s,i)) p.Rules (CB f) 0 _ (fun k x hx=>by
  have hk:k<p.Rules.length:=(qA.1 hx).1;have hlt:(k:Int)<p.Rules.length:=by omega
  have hh:=yn1 x f (hz x (qL hx));generalize (p.Rules.take k).foldl (CB f) 0=s;simp only[PW,bV,dF,hlt,decide_true,cond_true,fB hx,qC,mX,hh,iD,gI (k:=k) (by omega),CB];by_cases h1:x.Kind=1<;>cases hb:holds x f<;>by_cases h2:0<x.N<;>by_cases h3:s=0<;>by_cases h4:x.N<s<;>simp[h1,h2,h3,h4]
  all_goals (first|omega|simp_all)) (by simp[PW,bV,dF])
theorem NQ (s:Option (Nat×Rule)):decide (0<=sJ s)=s.isSome:=by
 cases s with
 |none=>rfl
 |some a=>simp[sJ]
set_option maxHeartbeats 1000000 in
theorem as1 (p:au)(f:aF Int)(hp:p.Rules.length<=1000000)(hz:∀ r∈p.Rules,r.ay.length<=1000000):PE p f=some (kX p f):=by
 have F:=fun k=>ze2 p f k hp hz
 have P:=gr1 f p.Rules J0 0 none none none none none none none 0 ⟨rfl,rfl,rfl,rfl,rfl,rfl,rfl,rfl,rfl,rfl,rfl,rfl,rfl,rfl⟩;unfold PE;simp only[(F _).1,qC,nt1 p f hp hz];have h3:=(F 3).2;have h4:=(F 4).2;have h5:=(F 5).2;unfold kX XG;have E:∀ k,(p.Rules.foldl (fi (qk f k)) (none,0)).1=BQ p k f:=fun k=>rfl
 simp only[E] at P;generalize (p.Rules.foldl (stepJ f) (J0,0)).1=s at P;generalize BQ p 1 f=s1 at P;generalize BQ p 2 f=s2 at P;generalize BQ p 3 f=s3 at P h3;generalize BQ p 4 f=s4 at P h4;generalize BQ p 5 f=s5 at P h5;generalize BQ p 6 f=s6 at P;generalize BQ p 7 f=s7 at P;generalize p.Rules.foldl (CB f) 0=m at P;obtain⟨a1,a2,a3,a4,a5,a6,a7,a8,a9,a10,a11,a12,Aa,AZ⟩:=P;rw[a1,a2,a3,a4,a5,a6,a7,a8,a9,a11,a12,AZ];have i1:=NQ s1;have i2:=NQ s2;have i3:=NQ s3;have i4:=NQ s4;have i5:=NQ s5;have i6:=NQ s6;have i7:=NQ s7;have n2:decide (sJ s2<0)=s2.isNone:=by
  cases s2 with
  |none=>rfl
  |some a =>
   have:¬ sJ (some a)<0:=by simp only[sJ];omega
   simp[this]
 simp only[nY,bV,i1,i2,i3,i4,i5,i6,i7,n2];have e2:(if 0<=sJ s2 then sJ s2 else sJ s1)=(if s2.isSome then sJ s2 else sJ s1):=by rw[<- i2];simp
 rw[e2]
 cases s3 with
 |none =>
  cases s4 with
  |none=>cases s5 with
   |none=>cases s1<;>cases s2<;>rfl
   |some c =>
    have:=fB (h5 c rfl);simp only[sJ,this,Option.isSome_some,cond_true,qC];cases s1<;>cases s2<;>rfl
  |some b =>
   have hb:=fB (h4 b rfl)
   cases s5 with
   |none =>
    simp only[sJ,hb,Option.isSome_some,cond_true,qC];cases s1<;>cases s2<;>rfl
   |some c =>
    have:=fB (h5 c rfl);simp only[sJ,hb,this,Option.isSome_some,cond_true,qC];cases s1<;>cases s2<;>rfl
 |some a =>
  have ha:=fB (h3 a rfl)
  cases s4 with
  |none=>cases s5 with
   |none =>
    simp only[sJ,ha,Option.isSome_some,cond_true,qC];cases s1<;>cases s2<;>rfl
   |some c =>
    have:=fB (h5 c rfl);simp only[sJ,ha,this,Option.isSome_some,cond_true,qC];cases s1<;>cases s2<;>rfl
  |some b =>
   have hb:=fB (h4 b rfl)
   cases s5 with
   |none =>
    simp only[sJ,ha,hb,Option.isSome_some,cond_true,qC];cases s1<;>cases s2<;>rfl
   |some c =>
    have:=fB (h5 c rfl);simp only[sJ,ha,hb,this,Option.isSome_some,cond_true,qC];cases s1<;>cases s2<;>rfl
theorem ve1 (r:Rule):Tf r=some (Kt r):=by
 unfold Tf Kt LH;simp only[mX,nY,yv2];by_cases h1:r.Kind=1
 ·simp only[h1,decide_true,cond_true,if_true,Jt]
 ·by_cases h3:r.Kind=3
  ·simp only[h3,show ¬ ((3:Int)=1) by omega,decide_false,cond_false,decide_true,cond_true,if_true,if_false,Jt,Bool.and_assoc]
  ·by_cases h4:r.Kind=4
   ·simp only[h4,show ¬ ((4:Int)=1) by omega,show ¬ ((4:Int)=3) by omega,decide_false,cond_false,decide_true,cond_true,if_true,if_false,Jt,Bool.and_assoc]
   ·by_cases h5:r.Kind=5
    ·simp only[h5,show ¬ ((5:Int)=1) by omega,show ¬ ((5:Int)=3) by omega,show ¬ ((5:Int)=4) by omega,decide_false,cond_false,decide_true,cond_true,if_true,if_false,Jt]
    ·simp only[h1,h3,h4,h5,decide_false,cond_false,if_false];by_cases h2:r.Kind=2
     ·simp[h2]
     ·by_cases h6:r.Kind=6
      ·simp[h6]
      ·by_cases h7:r.Kind=7
       ·simp[h7]
       ·simp[h2,h6,h7]
theorem ii1 (x:Rule)(k:Nat)(z:aF Range)(hz:x.ay[k]?=some z):dw (Om x k dW) 0=some (if vW z then .inl () else .inr (.inr (.inr (.inr (.inr (.inr false)))))):=by
 rw[H8 (step:=Om x k dW) 10 (fun i=>!(decide ((z.get i).Lo<=(z.get i).Hi)&&(decide ((dW.get i).Lo<=(z.get i).Lo)&&decide ((z.get i).Hi<=(dW.get i).Hi)))) (.inr (.inr (.inr (.inr (.inr (.inr false)))))) (.inl ()) (fun i hi=>?_) (by simp[Om,bV])]
 ·rw[bo0];cases vW z<;>rfl
 ·have h10:(i:Int)<10:=by omega
  simp only[Om,bV,h10,decide_true,cond_true,fB hz,wS hi,qC,iD,gI (k:=i) (by omega)];by_cases h1:(z.get i).Hi<(z.get i).Lo
  ·have h1':¬ (z.get i).Lo<=(z.get i).Hi:=by omega
   simp[h1,h1']
  ·have h1':(z.get i).Lo<=(z.get i).Hi:=by omega
   by_cases h2:(z.get i).Lo<(dW.get i).Lo
   ·have h2':¬ (dW.get i).Lo<=(z.get i).Lo:=by omega
    simp[h1,h1',h2,h2']
   ·have h2':(dW.get i).Lo<=(z.get i).Lo:=by omega
    by_cases h3:(dW.get i).Hi<(z.get i).Hi
    ·have h3':¬ (z.get i).Hi<=(dW.get i).Hi:=by omega
     simp[h1,h1',h2,h2',h3,h3']
    ·have h3':(z.get i).Hi<=(dW.get i).Hi:=by omega
     simp[h1,h1',h2,h2',h3,h3']
theorem ng1 (x:Rule)(hx:x.ay.length<=200):dw (Oh x dW) 0=some (if x.ay.all vW then .inl () else .inr (.inr (.inr (.inr false)))):=by
 rw[Kq (step:=Oh x dW) x.ay (fun z=>!vW z) (.inr (.inr (.inr (.inr false)))) (.inl ()) (fun k z hz=>?_) (by simp[Oh,bV,dF])]
 ·rw[<- List.not_all_eq_any_not];cases x.ay.all vW<;>rfl
 ·have hk:k<x.ay.length:=(qA.1 hz).1;have hlt:(k:Int)<x.ay.length:=by omega
  simp only[Oh,bV,dF,hlt,decide_true,cond_true,ii1 x k z hz,iD,gI (k:=k) (by omega)];cases vW z<;>rfl
theorem jc2 (a b:ByteArray):io.seq a b=decide (a=b):=by
 rw[gb2];by_cases h:a=b
 ·simp[h]
 ·have hne:¬ a.toList=b.toList:=by
   intro e;rw[ByteArray.toList_eq,ByteArray.toList_eq] at e;exact h (ByteArray.ext (Array.toList_inj.mp e))
  rw[qJ h];exact beq_eq_false_iff_ne.2 hne
theorem nl1 (p:au)(x:Rule)(i:Nat)(hi:i<=p.Rules.length)(hl:i<=1000000):dw (Jo i p x) 0=some (if (p.Rules.take i).any (fun q=>decide (q.Name=x.Name)) then .inr (.inr (.inr false)) else .inl ()):=by
 have hlen:(p.Rules.take i).length=i:=by simp;omega
 rw[Kq (step:=Jo i p x) (p.Rules.take i) (fun q=>decide (q.Name=x.Name)) (.inr (.inr (.inr false))) (.inl ()) (fun k q hq=>?_) (by rw[hlen];simp[Jo,bV])];have hk:k<i:=by have:=(qA.1 hq).1;omega
 have hlt:(k:Int)<(i:Int):=by omega
 have hq':p.Rules[k]?=some q:=by rw[List.getElem?_take] at hq;rw[if_pos hk] at hq;exact hq
 simp only[Jo,bV,hlt,decide_true,cond_true,fB hq',qC,jc2,iD,gI (k:=k) (by omega)];by_cases h:q.Name=x.Name<;>simp[h]
theorem Zx (p:au):Gq p=some (mG p):=by
 unfold Gq;simp only[bV,dF];by_cases hl:p.Rules.length<=200
 ·have hl':¬ ((200:Int)<p.Rules.length):=by omega
  simp only[hl',decide_false,cond_false,LY,qC]
  rw[H8 (step:=TK p dW) p.Rules.length (fun k=>match p.Rules[k]? with|some r=>!BP p k r|none=>false) (.inr false) (.inl ()) (fun k hk=>?_) (by simp[TK,bV,dF])]
  ·have hv:(List.range p.Rules.length).any (fun k=>match p.Rules[k]? with|some r=>!BP p k r|none=>false)=!mG p:=by
    cases hv:mG p with
    |true =>
     rw[Bool.not_true,List.any_eq_false];intro k _
     cases hr:p.Rules[k]? with
     |none=>simp
     |some r=>simp[Xe hv hr]
    |false =>
     rw[Bool.not_false]
     cases hany:(List.range p.Rules.length).any (fun k=>match p.Rules[k]? with|some r=>!BP p k r|none=>false) with
     |true=>rfl
     |false =>
      rw[List.any_eq_false] at hany;rw[ut1 hl fun k r hr=>by
       have:=hany k (List.mem_range.2 (qA.1 hr).1);rw[hr] at this
       simpa using this] at hv
      cases hv
   rw[hv];cases mG p<;>rfl
  ·have hlt:(k:Int)<p.Rules.length:=by omega
   have hx:p.Rules[k]?=some p.Rules[k]:=by simp[hk]
   generalize p.Rules[k]=x at hx;simp only[TK,bV,dF,hlt,decide_true,cond_true,hx,fB hx,qC,ve1,vX,iD,gI (k:=k) (by omega),BP]
   cases hn:Kt x with
   |false=>rfl
   |true =>
    by_cases hz:x.ay.length<=200
    ·have hz':¬ ((200:Int)<x.ay.length):=by omega
     simp only[Bool.not_true,cond_false,hz',decide_false,qC,ng1 x hz,hz,decide_true,Bool.true_and]
     cases hw:x.ay.all vW with
     |false=>rfl
     |true =>
      simp only[if_true,Bool.true_and,Bool.not_not];rw[show gu (some (Sum.inl ():Unit ⊕ (Unit ⊕ (Int ⊕ (Unit ⊕ Bool))))) (fun _=>dw (Jo (k:Int) p x) 0)=dw (Jo (k:Int) p x) 0 from rfl,nl1 p x k (by omega) (by omega)];cases (p.Rules.take k).any (fun q=>decide (q.Name=x.Name))<;>rfl
    ·have hz':(200:Int)<x.ay.length:=by omega
     simp[hz',hz,gu]
 ·have hl':(200:Int)<p.Rules.length:=by omega
  simp only[hl',decide_true,cond_true];simp[mG,hl]
end Go.SX.Td
