/- Parts of the proof. -/
import Derived.Test.YtllbabjgpdmblaaGreatDoorZSyP
import Derived.Test.YtllbabjgpdmblaaGreatDoorZTd26d
import Derived.Test.YtllbabjgpdmblaaGreatDoorZTd49
import Derived.Test.YtllbabjgpdmblaaGreatDoorZTryzShelf
import Derived.Lib.ItoaLen
import Derived.Test.YtllbabjgpdmblaaGreatDoorZTzwnode
import Derived.Laws.Strings
set_option linter.unusedSimpArgs false
set_option linter.unusedVariables false
set_option linter.unusedSectionVars false
namespace Go.SX.Td
open Go Go.SX
def wo0 : A10 Range:=⟨⟨0,1000000000⟩,⟨0,150⟩,⟨0,1⟩,⟨0,19⟩,⟨0,7⟩,⟨0,319⟩,⟨0,3⟩,⟨0,3⟩,⟨1,12⟩,⟨0,100⟩⟩
theorem uu0 : zo0=some wo0:=rfl
def inZ (z:A10 Range)(f:A10 Int):Bool:=(List.range 10).all fun i=>decide ((z.get i).Lo≤f.get i)&&decide (f.get i≤(z.get i).Hi)
def holds (r:Rule)(f:A10 Int):Bool:=r.Zones.any fun z=>inZ z f
theorem jo1 {z:A10 Range}{f:A10 Int}:inZ z f=true↔∀ i,i<10→(z.get i).Lo≤f.get i∧f.get i≤(z.get i).Hi:=by
 unfold inZ;simp only[qP,List.mem_range,qJ,qZ]
theorem fn1 {n:Nat}{p:Nat→Bool}:(!(List.range n).any p)=(List.range n).all fun i=>!p i:=by
 rw[List.not_any_eq_all_not]
theorem ks1 (z:A10 Range)(f:A10 Int):qw0 (yy0 f z) 0=some (if inZ z f then .inl () else .inr false):=by
 rw[xq0 (step:=yy0 f z) 10 (fun i=>!(decide ((z.get i).Lo≤f.get i)&&decide (f.get i≤(z.get i).Hi))) (.inr false) (.inl ()) (fun k hk=>?_) (by simp[yy0,qm0])]
 ·congr 1;have:inZ z f=!((List.range 10).any fun i=>!(decide ((z.get i).Lo≤f.get i)&&decide (f.get i≤(z.get i).Hi))):=by
   rw[fn1];simp[inZ]
  rw[this];cases ((List.range 10).any fun i=>!(decide ((z.get i).Lo≤f.get i)&&decide (f.get i≤(z.get i).Hi)))<;>rfl
 ·have h10:(k:Int)<10:=by omega
  simp only[yy0,qm0,h10,decide_true,cond_true,zm0 hk,qC,qr0,zc0 (k:=k) (by omega)];by_cases h1:f.get k<(z.get k).Lo
  ·have h1':¬ (z.get k).Lo≤f.get k:=by omega
   simp[h1,h1']
  ·have h1':(z.get k).Lo≤f.get k:=by omega
   by_cases h2:(z.get k).Hi<f.get k
   ·have h2':¬ f.get k≤(z.get k).Hi:=by omega
    simp[h1,h1',h2,h2']
   ·have h2':f.get k≤(z.get k).Hi:=by omega
    simp[h1,h1',h2,h2']
theorem te1 (r:Rule)(f:A10 Int)(hz:r.Zones.length≤1000000):za0 r f=some (holds r f):=by
 unfold za0;have key:=dd0 (step:=ji0 r f) r.Zones (fun z=>inZ z f) (fun _ _=>.inr true) (.inl ()) (fun k x hx=>by
  have hk:k<r.Zones.length:=(qA.1 hx).1;have hlt:(k:Int)<r.Zones.length:=by omega
  have hge:(0:Int)≤k:=by omega
  simp only[ji0,qm0,qv0,hlt,decide_true,cond_true,qx0 hx,qC,ks1,qr0,zc0 (k:=k) (by omega),xx0,hge];cases inZ x f<;>simp[orR]) (by simp[ji0,qm0,qv0])
 rcases key with ⟨k,x,h1,h2,h3,h4⟩ | ⟨h1,h2⟩
 ·have:holds r f=true:=zK.2 ⟨x,qK h1,h2⟩;simp[h4,orR,this]
 ·have:holds r f=false:=by
   unfold holds;rw[List.any_eq_false];intro x hx;simp[h1 x hx]
  simp[h2,orR,this,xx0]
end Go.SX.Td
namespace Go.SX.Td
open Go Go.SX
structure JS where
 tog:Bool
 sing:Bool
 limit:Int
 price:Int
 fee:Ratio
 tax:Ratio
 cap:Ratio
 share:Ratio
 refund:Ratio
 priced:Bool
 sold:Bool
 back:Bool
 allowed:Int
 denied:Int
deriving DecidableEq
def one : Ratio:=⟨0,1⟩
def J0 : JS:=⟨false,false,0,0,one,one,one,one,one,false,false,false,-1,-1⟩
def note (s:JS)(i:Int)(r:Rule):JS :=
 if r.Kind=1 then { s with allowed:=if s.allowed<0 then i else s.allowed,limit:=if 0<r.N∧(s.limit=0∨r.N<s.limit) then r.N else s.limit }
 else if r.Kind=2 then { s with denied:=if s.denied<0 then i else s.denied }
 else if r.Kind=3 then (if s.priced then s else { s with priced:=true,price:=r.N,fee:=r.R,tax:=r.S })
 else if r.Kind=4 then (if s.sold then s else { s with sold:=true,cap:=r.R,share:=r.S })
 else if r.Kind=5 then (if s.back then s else { s with back:=true,refund:=r.R })
 else if r.Kind=6 then { s with tog:=true }
 else if r.Kind=7 then { s with sing:=true }
 else s
def stepJ (f:A10 Int)(s:JS×Nat)(r:Rule):JS×Nat:=(if holds r f then note s.1 s.2 r else s.1,s.2+1)
def rk2 (s:JS):Decision :=
 ⟨decide (0≤s.allowed)&&(s.priced&&decide (s.denied<0)),s.tog,s.sing,s.limit,s.price,s.fee,s.tax,s.cap,s.share,s.refund,if 0≤s.denied then s.denied else s.allowed⟩
def ma0 (p:Policy)(f:A10 Int):Decision:=rk2 (p.Rules.foldl (stepJ f) (J0,0)).1
theorem qp1 (f:A10 Int):∀ (l:List Rule)(s:JS×Nat),(l.foldl (stepJ f) s).2=s.2+l.length
 | [],_=>rfl
 | r::l,s=>by
  rw[qT,qp1 f l];simp[stepJ];omega
abbrev tupJ (s:JS):Bool×Bool×Int×Int×Int×Int×Int×Int×Int×Int×Int×Int×Int×Int×Bool×Bool×Bool×Int×Int :=
 (s.tog,s.sing,s.limit,s.price,s.fee.Num,s.fee.Den,s.tax.Num,s.tax.Den,s.cap.Num,s.cap.Den,s.share.Num,s.share.Den,s.refund.Num,s.refund.Den,s.priced,s.sold,s.back,s.allowed,s.denied)
def mkJ (s:JS×Nat)(i:Int):Bool×Bool×Int×Int×Int×Int×Int×Int×Int×Int×Int×Int×Int×Int×Bool×Bool×Bool×Int×Int×Int :=
 (s.1.tog,s.1.sing,s.1.limit,s.1.price,s.1.fee.Num,s.1.fee.Den,s.1.tax.Num,s.1.tax.Den,s.1.cap.Num,s.1.cap.Den,s.1.share.Num,s.1.share.Den,s.1.refund.Num,s.1.refund.Den,s.1.priced,s.1.sold,s.1.back,s.1.allowed,s.1.denied,i)
set_option maxHeartbeats 4000000 in
theorem nh1 (p:Policy)(f:A10 Int)(hp:p.Rules.length≤1000000)(hz:∀ r∈p.Rules,r.Zones.length≤1000000):jp0 p f=some (ma0 p f):=by
 unfold jp0;have key:=wt0 (step:=jo0 p f) mkJ p.Rules (stepJ f) (J0,0) (tupJ (p.Rules.foldl (stepJ f) (J0,0)).1) (fun k x hx=>by
  have hk:k<p.Rules.length:=(qA.1 hx).1;have hlt:(k:Int)<p.Rules.length:=by omega
  have hidx:((p.Rules.take k).foldl (stepJ f) (J0,0)).2=k:=by rw[qp1];simp;omega
  generalize hs:(p.Rules.take k).foldl (stepJ f) (J0,0)=s at hidx;obtain⟨s,i⟩:=s;simp only at hidx;subst hidx;have hh:=te1 x f (hz x (qK hx));simp only[jo0,mkJ,qm0,xx0,qv0,hlt,decide_true,cond_true,qx0 hx,qC,qr0,zc0 (k:=i) (by omega),wv0,hh,wu0,stepJ,note];cases hx':holds x f
  ·by_cases k1:x.Kind=1
   ·simp[k1]
   ·by_cases k2:x.Kind=2
    ·simp[k2]
    ·by_cases k3:x.Kind=3
     ·simp[k3]
     ·by_cases k4:x.Kind=4
      ·simp[k4]
      ·by_cases k5:x.Kind=5
       ·simp[k5]
       ·by_cases k6:x.Kind=6
        ·simp[k6]
        ·by_cases k7:x.Kind=7
         ·simp[k7]
         ·simp[k1,k2,k3,k4,k5,k6,k7]
  ·by_cases k1:x.Kind=1
   ·by_cases a1:s.allowed<0<;>by_cases a2:0<x.N<;>by_cases a3:s.limit=0<;>by_cases a4:x.N<s.limit<;>simp[k1,a1,a2,a3,a4]
    all_goals (first | omega | (simp_all) )
   ·by_cases k2:x.Kind=2
    ·by_cases a1:s.denied<0<;>simp[k2,a1]
    ·by_cases k3:x.Kind=3
     ·cases hs':s.priced<;>simp[k3,hs']
     ·by_cases k4:x.Kind=4
      ·cases hs':s.sold<;>simp[k4,hs']
      ·by_cases k5:x.Kind=5
       ·cases hs':s.back<;>simp[k5,hs']
       ·by_cases k6:x.Kind=6
        ·simp[k6]
        ·by_cases k7:x.Kind=7
         ·simp[k7]
         ·simp[k1,k2,k3,k4,k5,k6,k7]) (by simp[jo0,mkJ,qm0,qv0])
 have h0:mkJ (J0,0) 0=(false,false,0,0,0,1,0,1,0,1,0,1,0,1,false,false,false,-1,-1,0):=rfl;rw[h0] at key;rw[key];unfold ma0 rk2;generalize (p.Rules.foldl (stepJ f) (J0,0)).1=s;simp only[tupJ,qC,xx0,qm0];by_cases h1:0≤s.allowed<;>cases h2:s.priced<;>by_cases h3:0≤s.denied<;>simp[h1,h2,h3]<;>first | omega | rfl
end Go.SX.Td
namespace Go.SX.Td
open Go Go.SX
theorem dm0 {κ α:Type}[DecidableEq κ](k k':κ)(v z:α):∀ m:List (κ×α),wc0 (ku0 m k v) k' z=if k'=k then v else wc0 m k' z
 | []=>by
  simp only[ku0,wc0,vl0];split<;>rfl
 | (q,w)::m=>by
  have ih:=dm0 k k' v z m;simp only[wc0] at ih;simp only[ku0];by_cases h1:k=q
  ·subst h1;simp only[if_true,wc0,vl0];split<;>rfl
  ·simp only[if_neg h1,wc0,vl0];by_cases h2:k'=q
   ·subst h2;simp[Ne.symm h1]
   ·simp only[if_neg h2];exact ih
theorem gy0 : zr0=some wo0:=by
 unfold zr0;simp only[qC];have step:∀ (k:Nat)(hk:k<10)(z:A10 Range),jy0 [1000000000,150,1,19,7,319,3,3,12,100] (z,(k:Int))=some (.inl (z.put k ⟨(z.get k).Lo,([1000000000,150,1,19,7,319,3,3,12,100]:List Int)[k]⟩,((k+1:Nat):Int))):=by
  intro k hk z;have hlt:(k:Int)<10:=by omega
  have h1:gq0 ([1000000000,150,1,19,7,319,3,3,12,100]:List Int) (k:Int)=some k:=by
   unfold gq0;rw[if_pos ⟨by omega,by simp;omega⟩];simp
  have h2:([1000000000,150,1,19,7,319,3,3,12,100]:List Int)[k]?=some (([1000000000,150,1,19,7,319,3,3,12,100]:List Int)[k]):=qD _;have h3:(([1000000000,150,1,19,7,319,3,3,12,100]:List Int).length:Int)=10:=rfl;simp only[jy0,qm0,qv0,h3,hlt,decide_true,cond_true,h1,h2,zm0 hk,qC,qr0,zc0 (k:=k) (by omega)]
 have fin:∀ z:A10 Range,jy0 [1000000000,150,1,19,7,319,3,3,12,100] (z,((10:Nat):Int))=some (.inr z):=fun z=>by
  simp[jy0,qm0,qv0]
 have h0:(0:Int)=((0:Nat):Int):=rfl;rw[h0,zg0,step 0 (by omega)];simp only[];rw[zg0,step 1 (by omega)];simp only[];rw[zg0,step 2 (by omega)];simp only[];rw[zg0,step 3 (by omega)];simp only[];rw[zg0,step 4 (by omega)];simp only[];rw[zg0,step 5 (by omega)];simp only[];rw[zg0,step 6 (by omega)];simp only[];rw[zg0,step 7 (by omega)];simp only[];rw[zg0,step 8 (by omega)];simp only[];rw[zg0,step 9 (by omega)];simp only[];rw[zg0,fin];rfl
def bs0 (r:Ratio)(most:Int):Bool :=
 decide (1≤r.Den)&&(decide (r.Den≤1000000)&&(decide (0≤r.Num)&&(decide (r.Num≤IntKind.i64.wrap (most * r.Den))&&decide (r.Num≤1000000))))
def gp0 (r:Rule):Bool :=
 if r.Kind=1 then decide (0≤r.N)&&decide (r.N≤100)
 else if r.Kind=3 then decide (0≤r.N)&&(decide (r.N≤10000000)&&(bs0 r.R 1&&bs0 r.S 1))
 else if r.Kind=4 then bs0 r.R 10&&bs0 r.S 1
 else if r.Kind=5 then bs0 r.R 1
 else decide (r.Kind=2)||(decide (r.Kind=6)||decide (r.Kind=7))
theorem sz0 {b x:Bool}:(bif b then some x else some false)=some (b&&x):=by cases b<;>rfl
theorem fl1 (r:Rule):ja0 r=some (gp0 r):=by
 unfold ja0 gp0 bs0;simp only[wv0,xx0,ej1];by_cases h1:r.Kind=1
 ·simp only[h1,decide_true,cond_true,if_true,sz0]
 ·by_cases h3:r.Kind=3
  ·simp only[h3,show ¬ ((3:Int)=1) by omega,decide_false,cond_false,decide_true,cond_true,if_true,if_false,sz0,Bool.and_assoc]
  ·by_cases h4:r.Kind=4
   ·simp only[h4,show ¬ ((4:Int)=1) by omega,show ¬ ((4:Int)=3) by omega,decide_false,cond_false,decide_true,cond_true,if_true,if_false,sz0,Bool.and_assoc]
   ·by_cases h5:r.Kind=5
    ·simp only[h5,show ¬ ((5:Int)=1) by omega,show ¬ ((5:Int)=3) by omega,show ¬ ((5:Int)=4) by omega,decide_false,cond_false,decide_true,cond_true,if_true,if_false,sz0]
    ·simp only[h1,h3,h4,h5,decide_false,cond_false,if_false];by_cases h2:r.Kind=2
     ·simp[h2]
     ·by_cases h6:r.Kind=6
      ·simp[h6]
      ·by_cases h7:r.Kind=7
       ·simp[h7]
       ·simp[h2,h6,h7]
def yb0 (z:A10 Range):Bool:=(List.range 10).all fun i=>decide ((z.get i).Lo≤(z.get i).Hi)&&(decide ((wo0.get i).Lo≤(z.get i).Lo)&&decide ((z.get i).Hi≤(wo0.get i).Hi))
theorem yg1 {z:A10 Range}:yb0 z=true↔∀ i,i<10→(wo0.get i).Lo≤(z.get i).Lo∧(z.get i).Lo≤(z.get i).Hi∧(z.get i).Hi≤(wo0.get i).Hi:=by
 unfold yb0;simp only[qP,List.mem_range,qJ,qZ];exact⟨fun h i hi=>⟨(h i hi).2.1,(h i hi).1,(h i hi).2.2⟩,fun h i hi=>⟨(h i hi).2.1,(h i hi).1,(h i hi).2.2⟩⟩
theorem nr0 (z:A10 Range):((List.range 10).any fun i=>!(decide ((z.get i).Lo≤(z.get i).Hi)&&(decide ((wo0.get i).Lo≤(z.get i).Lo)&&decide ((z.get i).Hi≤(wo0.get i).Hi))))=!yb0 z:=by
 unfold yb0;rw[List.not_all_eq_any_not]
theorem du1 (z:A10 Range):ks0 z=some (yb0 z):=by
 unfold ks0;simp only[uu0,qC];rw[xq0 (step:=jr0 z wo0) 10 (fun i=>!(decide ((z.get i).Lo≤(z.get i).Hi)&&(decide ((wo0.get i).Lo≤(z.get i).Lo)&&decide ((z.get i).Hi≤(wo0.get i).Hi)))) (.inr false) (.inl ()) (fun k hk=>?_) (by simp[jr0,qm0])]
 ·rw[nr0];cases yb0 z<;>rfl
 ·have h10:(k:Int)<10:=by omega
  simp only[jr0,qm0,h10,decide_true,cond_true,zm0 hk,qC,qr0,zc0 (k:=k) (by omega)];by_cases h1:(z.get k).Hi<(z.get k).Lo
  ·have h1':¬ (z.get k).Lo≤(z.get k).Hi:=by omega
   simp[h1,h1']
  ·have h1':(z.get k).Lo≤(z.get k).Hi:=by omega
   by_cases h2:(z.get k).Lo<(wo0.get k).Lo
   ·have h2':¬ (wo0.get k).Lo≤(z.get k).Lo:=by omega
    simp[h1,h1',h2,h2']
   ·have h2':(wo0.get k).Lo≤(z.get k).Lo:=by omega
    by_cases h3:(wo0.get k).Hi<(z.get k).Hi
    ·have h3':¬ (z.get k).Hi≤(wo0.get k).Hi:=by omega
     simp[h1,h1',h2,h2',h3,h3']
    ·have h3':(z.get k).Hi≤(wo0.get k).Hi:=by omega
     simp[h1,h1',h2,h2',h3,h3']
def gc0 (p:Policy)(k:Nat)(r:Rule):Bool:=gp0 r&&(decide (r.Zones.length≤200)&&(r.Zones.all yb0&&!((p.Rules.take k).any fun q=>decide (q.Name=r.Name))))
def wl0 (p:Policy):Bool:=decide (p.Rules.length≤200)&&p.Rules.zipIdx.all fun x=>gc0 p x.2 x.1
theorem px0 {p:Policy}(h:wl0 p=true){k:Nat}{r:Rule}(hr:p.Rules[k]?=some r):gc0 p k r=true:=by
 simp only[wl0,qJ,qP] at h;exact h.2 (r,k) (List.mem_zipIdx_iff_getElem?.2 hr)
theorem vj1 {p:Policy}(h1:p.Rules.length≤200)(h:∀ (k:Nat) r,p.Rules[k]?=some r→gc0 p k r=true):wl0 p=true:=by
 simp only[wl0,qJ,qP,qZ];exact⟨h1,fun x hx=>h x.2 x.1 (List.mem_zipIdx_iff_getElem?.1 hx)⟩
theorem pw1 {p:Policy}{k:Nat}{r:Rule}(hr:p.Rules[k]?=some r)(h:gc0 p k r=false):wl0 p=false:=by
 cases hv:wl0 p with
 | false=>rfl
 | true=>rw[px0 hv hr] at h;cases h
theorem oo0 (x:Rule)(m:List (ByteArray×Bool))(hx:x.Zones.length≤200):qw0 (yw0 x m) 0=some (if x.Zones.all yb0 then .inl () else .inr (m,true)):=by
 rw[gh0 (step:=yw0 x m) x.Zones (fun z=>!yb0 z) (.inr (m,true)) (.inl ()) (fun k z hz=>?_) (by simp[yw0,qm0,qv0])]
 ·rw[← List.not_all_eq_any_not];cases x.Zones.all yb0<;>rfl
 ·have hk:k<x.Zones.length:=(qA.1 hz).1;have hlt:(k:Int)<x.Zones.length:=by omega
  have hge:(0:Int)≤k:=by omega
  simp only[yw0,qm0,qv0,hlt,decide_true,cond_true,qx0 hz,qC,du1,wu0,qr0,zc0 (k:=k) (by omega),xx0,hge];cases yb0 z<;>simp
theorem xo1 (p:Policy):vg0 p=some (wl0 p):=by
 unfold vg0;simp only[xx0,qv0,wu0];by_cases hl:p.Rules.length≤200
 ·have hl':(p.Rules.length:Int)≤200:=by omega
  simp only[hl',decide_true,cond_true];obtain⟨t,h1,h2⟩:=yq0 (step:=je0 p) (fun (s:List (ByteArray×Bool)) i=>(s,i)) p.Rules.length
   (fun k own=>(∀ nm,wc0 own nm false=(p.Rules.take k).any fun q=>decide (q.Name=nm))∧∀ (j:Nat) r,j<k→p.Rules[j]?=some r→gc0 p j r=true)
   (fun t=>(t=.inr false∧wl0 p=false)∨(∃ own,t=.inl own)∧wl0 p=true)
   (fun k own hk hI=>by
    obtain⟨hI1,hI2⟩:=hI;have hx:p.Rules[k]?=some p.Rules[k]:=by simp[hk]
    have hlt:(k:Int)<p.Rules.length:=by omega
    have hge:(0:Int)≤k:=by omega
    generalize p.Rules[k]=x at hx;have hname:=hI1 x.Name;have hf:gc0 p k x=(gp0 x&&(decide (x.Zones.length≤200)&&(x.Zones.all yb0&&!wc0 own x.Name false))):=by unfold gc0;rw[hname]
    have bad:gc0 p k x=false→∀ t,(some (.inr (.inr (!decide ((0:Int)≤k)))):Option ((List (ByteArray×Bool)×Int) ⊕ (List (ByteArray×Bool) ⊕ Bool)))=some t→∃ t',some t=some (.inr t')∧((t'=.inr false∧wl0 p=false)∨(∃ own,t'=.inl own)∧wl0 p=true):=fun hb t ht=>by
     cases ht;exact⟨_,rfl,.inl ⟨by simp[hge],pw1 hx hb⟩⟩
    simp only[je0,qm0,qv0,hlt,decide_true,cond_true,qx0 hx,qC,fl1,wu0,qr0,zc0 (k:=k) (by omega),xx0]
    cases hm:wc0 own x.Name false with
    | true =>
     exact .inr (bad (by rw[hf,hm];simp) _ rfl)
    | false =>
     simp only[cond_false,qC]
     cases hn:gp0 x with
     | false=>exact .inr (bad (by rw[hf,hn];rfl) _ rfl)
     | true =>
      by_cases hz:x.Zones.length≤200
      ·have hz':¬ ((200:Int)<x.Zones.length):=by omega
       simp only[Bool.not_true,cond_false,hz',decide_false,oo0 x _ hz]
       cases hw:x.Zones.all yb0 with
       | false=>exact .inr (bad (by rw[hf,hw];simp) _ rfl)
       | true =>
        refine .inl ⟨ku0 own x.Name true,by simp[orR],fun nm=>?_,fun j r hj hr=>?_⟩
        ·rw[dm0,hI1,qS,hx];simp only[zB,List.any_append,List.any_cons,List.any_nil,Bool.or_false];by_cases e:nm=x.Name
         ·subst e;simp
         ·simp[e,Ne.symm e]
        ·rcases Nat.lt_or_eq_of_le (Nat.le_of_lt_succ hj) with h | h
         ·exact hI2 j r h hr
         ·subst h;rw[hx] at hr;cases hr;rw[hf,hn,hw,hm];simp[hz]
      ·have hz':(200:Int)<x.Zones.length:=by omega
       simp only[Bool.not_true,cond_false,hz',decide_true,cond_true];exact .inr (bad (by rw[hf];simp[hz]) _ rfl))
   (fun own hI=>⟨_,by simp[je0,qm0,qv0],.inr ⟨⟨own,rfl⟩,vj1 hl fun k r hr=>hI.2 k r (qA.1 hr).1 hr⟩⟩)
   [] ⟨fun nm=>by simp[wc0,vl0],fun j r hj=>by omega⟩
  rw[h1];rcases h2 with ⟨rfl,hv⟩ | ⟨⟨own,rfl⟩,hv⟩
  ·rw[hv];rfl
  ·rw[hv];simp[orR]
 ·have hl':¬ ((p.Rules.length:Int)≤200):=by omega
  simp only[hl',decide_false,cond_false];simp[wl0,hl]
end Go.SX.Td
namespace Go.SX.Td
open Go Go.SX
theorem wk1 (u:Nat):∀ c∈Lib.decDigits u,48≤c.toNat∧c.toNat≤57:=by
 induction u using Nat.strongRecOn with
 | _ u ih =>
  intro c hc;rw[Lib.decDigits] at hc;have one:∀ v,v<10→48≤(UInt8.ofNat (48+v)).toNat∧(UInt8.ofNat (48+v)).toNat≤57:=fun v hv=>by
   simp only[UInt8.toNat_ofNat'];omega
  split at hc
  ·rename_i h;simp only[zH] at hc;subst hc;exact one u h
  ·rename_i h;rcases qO.1 hc with hc | hc
   ·exact ih (u / 10) (by omega) c hc
   ·simp only[zH] at hc;subst hc;exact one _ (by omega)
def ww1 (l:List UInt8):Nat:=l.foldl (fun a c=>a * 10+(c.toNat - 48)) 0
theorem se0 (u:Nat):ww1 (Lib.decDigits u)=u:=by
 induction u using Nat.strongRecOn with
 | _ u ih =>
  have one:∀ v,v<10→(UInt8.ofNat (48+v)).toNat - 48=v:=fun v hv=>by
   simp only[UInt8.toNat_ofNat'];omega
  rw[Lib.decDigits];split
  ·rename_i h;simp only[ww1,qT,List.foldl_nil];rw[one u h];omega
  ·rename_i h;have:=ih (u / 10) (by omega);unfold ww1 at this ⊢;rw[List.foldl_append,this];simp only[qT,List.foldl_nil];rw[one _ (by omega)];omega
theorem yy2 (u:Nat):Lib.decDigits u≠[]:=by
 rw[Lib.decDigits];split<;>simp
theorem rf0 (n:Int):∀ c∈Lib.itoa n,c≠32∧c≠59∧c≠46:=by
 intro c hc;have dig:∀ u,c∈Lib.decDigits u→c≠32∧c≠59∧c≠46:=fun u h=>by
  have:=wk1 u c h;refine⟨?_,?_,?_⟩<;>(intro e;subst e;revert this;decide)
 unfold Lib.itoa at hc;split at hc
 ·rcases List.mem_cons.1 hc with rfl | hc
  ·decide
  ·exact dig _ hc
 ·exact dig _ hc
theorem rw1 {n m:Int}(h:Lib.itoa n=Lib.itoa m):n=m:=by
 have cross:∀ u v,(45:UInt8)::Lib.decDigits u≠Lib.decDigits v:=fun u v e=>by
  have:(45:UInt8)∈Lib.decDigits v:=by rw[← e];simp
  have:=wk1 v _ this
  revert this;decide
 unfold Lib.itoa at h;split at h<;>split at h
 ·injection h with _ h;have:=congrArg ww1 h;rw[se0,se0] at this;omega
 ·exact(cross _ _ h).elim
 ·exact(cross _ _ h.symm).elim
 ·have:=congrArg ww1 h;rw[se0,se0] at this;omega
theorem oh1 (n:Int):Lib.itoa n≠[]:=by
 unfold Lib.itoa;split
 ·simp
 ·exact yy2 _
theorem aj1 {s:UInt8}:∀ {a b x y:List UInt8},s ∉ a→s ∉ b→a++s::x=b++s::y→a=b∧x=y
 | [],[],_,_,_,_,h=>by simpa using h
 | [],b::bs,_,_,_,hb,h=>by
  simp only[zE,List.cons_append,List.cons.injEq] at h;exact(hb (by simp[h.1])).elim
 | a::as_,[],_,_,ha,_,h=>by
  simp only[zE,List.cons_append,List.cons.injEq] at h;exact(ha (by simp[h.1])).elim
 | a::as_,b::bs,x,y,ha,hb,h=>by
  simp only[List.cons_append,List.cons.injEq] at h;obtain⟨rfl,h⟩:=h;obtain⟨rfl,rfl⟩:=aj1 (fun e=>ha (zF _ e)) (fun e=>hb (zF _ e)) h;exact⟨rfl,rfl⟩
theorem ym1 (n:Int)(l:List UInt8):vx1 n++l=Lib.itoa n++32::l:=by simp[vx1]
theorem pw0 (n:Int)(l:List Int):md0 (n::l)=vx1 n++md0 l:=by simp[md0]
theorem bj1 : ∀ {l m:List Int}{x y:List UInt8},cm0 l++x=cm0 m++y→l=m∧x=y:=by
 have first:∀ (n:Int)(z x:List UInt8),Lib.itoa n++z≠59::x:=fun n z x e=>by
  cases hi:Lib.itoa n with
  | nil=>exact oh1 n hi
  | cons c t =>
   rw[hi] at e;simp only[List.cons_append,List.cons.injEq] at e;exact(rf0 n c (by rw[hi];simp)).2.1 e.1
 intro l
 induction l with
 | nil =>
  intro m x y h
  cases m with
  | nil=>simpa [cm0,md0] using h
  | cons n m =>
   simp only[cm0,pw0,List.append_assoc,ym1] at h;exact(first n _ _ (by simpa [md0] using h.symm)).elim
 | cons n l ih =>
  intro m x y h
  cases m with
  | nil =>
   simp only[cm0,pw0,List.append_assoc,ym1] at h;exact(first n _ _ (by simpa [md0] using h)).elim
  | cons k m =>
   simp only[cm0,pw0,List.append_assoc,ym1] at h;obtain⟨h1,h2⟩:=aj1 (fun e=>(rf0 n _ e).1 rfl) (fun e=>(rf0 k _ e).1 rfl) h;obtain⟨rfl,rfl⟩:=ih (m:=m) (x:=x) (y:=y) (by simpa [cm0] using h2);exact⟨by rw[rw1 h1],rfl⟩
theorem vk1 : ∀ {a b:List (List Int)},dj0 a=dj0 b→a=b
 | [],[],_=>rfl
 | [],l::b,h=>by have:=congrArg List.length h;simp[dj0,cm0] at this
 | l::a,[],h=>by have:=congrArg List.length h;simp[dj0,cm0] at this
 | l::a,m::b,h=>by
  have e:∀ (l:List Int)(a:List (List Int)),dj0 (l::a)=cm0 l++dj0 a:=fun l a=>by simp[dj0]
  rw[e,e] at h;obtain⟨rfl,h2⟩:=bj1 h;rw[vk1 h2]
def textOf (l:List (List Int)):ByteArray:=⟨(dj0 l).toArray⟩
theorem cc0 {a b:List (List Int)}(h:textOf a=textOf b):a=b:=by
 have:=congrArg (fun s:ByteArray=>s.data.toList) h;simp only[textOf] at this;exact vk1 (by simpa using this)
theorem text_eq {l:List (List Int)}(h:wn1 l):wq0 l=some (textOf l):=by
 unfold wq0;rw[if_pos h];rfl
theorem sw1 {l:List (List Int)}(h1:∀ x∈l,x.length≤100000)(h2:l.length≤1000)(h3:∀ x∈l,∀ n∈x,mb0 n):wn1 l:=by
 refine⟨h3,?_⟩;have hI:∀ (x:List Int),(∀ n∈x,mb0 n)→(md0 x).length≤22 * x.length:=by
  intro x
  induction x with
  | nil=>intro _;simp[md0]
  | cons n x ih =>
   intro h;have h1:=ih fun n hn=>h n (zF _ hn)
   have h2:=Lib.itoa_length_le n (h n (by simp)).1 (h n (by simp)).2;rw[pw0,qN,vx1,qN,zL,zD];omega
 have hL:∀ (l:List (List Int)),(∀ x∈l,x.length≤100000)→(∀ x∈l,∀ n∈x,mb0 n)→(dj0 l).length≤2200001 * l.length:=by
  intro l
  induction l with
  | nil=>intro _ _;simp[dj0]
  | cons x l ih =>
   intro h k;have h1:=ih (fun x hx=>h x (zF _ hx)) (fun x hx=>k x (zF _ hx));have h2:=hI x (k x (by simp));have h3:=h x (by simp);have e:dj0 (x::l)=cm0 x++dj0 l:=by simp[dj0]
   rw[e,qN,cm0,qN,zL,zD];omega
 have:=hL l h1 h3;omega
theorem vv1 {l:List (List Int)}(h1:∀ x∈l,x.length≤100000)(h2:l.length≤1000)(h3:∀ x∈l,∀ n∈x,-1000000000000≤n∧n≤1000000000000):wn1 l :=
 sw1 h1 h2 fun x hx n hn=>by have:=h3 x hx n hn;exact⟨by omega,by omega⟩
end Go.SX.Td
namespace Go.SX.Td
open Go Go.SX
theorem zv1 (r:Rule)(f:A10 Int)(k:Nat)(z:A10 Range)(hz:r.Zones[k]?=some z):qw0 (jv0 r k f) (true,0)=some (inZ z f):=by
 obtain⟨t,h1,h2⟩:=yq0 (step:=jv0 r k f) (fun (b:Bool) i=>(b,i)) 10
  (fun j b=>b=(List.range j).all fun i=>decide ((z.get i).Lo≤f.get i)&&decide (f.get i≤(z.get i).Hi)) (fun t=>t=inZ z f) (fun j b hj hI=>by
   have hlt:(j:Int)<10:=by omega
   refine .inl ⟨b&&(decide ((z.get j).Lo≤f.get j)&&decide (f.get j≤(z.get j).Hi)),?_,?_⟩
   ·simp only[jv0,qm0,hlt,decide_true,cond_true,qx0 hz,zm0 hj,qC,xx0,qr0,zc0 (k:=j) (by omega)]
    cases b with
    | false=>simp
    | true =>
     by_cases h1:(z.get j).Lo≤f.get j
     ·simp[h1]
     ·simp[h1]
   ·rw[List.range_succ,List.all_append,← hI];simp) (fun b hI=>⟨b,by simp[jv0,qm0],by rw[hI];rfl⟩) true (by simp)
 rw[h1,h2]
theorem zw1 (r:Rule)(f:A10 Int)(hz:r.Zones.length≤1000000):ki0 r f=some (holds r f):=by
 unfold ki0;rw[gh0 (step:=kf0 r f) r.Zones (fun z=>inZ z f) (.inr true) (.inl ()) (fun k x hx=>by
  have hk:k<r.Zones.length:=(qA.1 hx).1;have hlt:(k:Int)<r.Zones.length:=by omega
  simp only[kf0,qm0,qv0,hlt,decide_true,cond_true,zv1 r f k x hx,qC,qr0,zc0 (k:=k) (by omega)];cases inZ x f<;>simp[orR]) (by simp[kf0,qm0,qv0])]
 show orR (some (if holds r f then .inr true else .inl ())) _=_;cases holds r f<;>rfl
def fi (q:Rule→Bool)(s:Option (Nat×Rule)×Nat)(x:Rule):Option (Nat×Rule)×Nat :=
 (match s.1 with | some a=>some a | none=>if q x then some (s.2,x) else none,s.2+1)
def fiI : Option (Nat×Rule)→Int
 | some a=>a.1
 | none=>-1
theorem lc1 (q:Rule→Bool)(a:Nat×Rule):∀ (l:List Rule)(n:Nat),(l.foldl (fi q) (some a,n)).1=some a
 | [],_=>rfl
 | x::l,n=>by rw[qT];exact lc1 q a l (n+1)
theorem xc1 (q:Rule→Bool):∀ (l:List Rule)(n k:Nat)(x:Rule),l[k]?=some x→q x=true→(∀ (j:Nat) y,j<k→l[j]?=some y→q y=false)→(l.foldl (fi q) (none,n)).1=some (n+k,x)
 | [],_,_,_,h,_,_=>by simp at h
 | y::l,n,0,x,h,hq,_=>by
  simp only[List.getElem?_cons_zero,zG] at h;subst h;rw[qT];simp only[fi,hq,if_true,Nat.add_zero];exact lc1 q _ l _
 | y::l,n,k+1,x,h,hq,hl=>by
  simp only[List.getElem?_cons_succ] at h;have h0:=hl 0 y (by omega) rfl;rw[qT];simp only[fi,h0,Bool.false_eq_true,if_false];have:=xc1 q l (n+1) k x h hq (fun j z hj hz=>hl (j+1) z (by omega) (by simpa using hz));rw[show fi q=fi q from rfl] at this;rw[this];congr 2;omega
theorem ll1 (q:Rule→Bool):∀ (l:List Rule)(n:Nat),(∀ x∈l,q x=false)→(l.foldl (fi q) (none,n)).1=none
 | [],_,_=>rfl
 | y::l,n,h=>by
  rw[qT];simp only[fi,h y (by simp),Bool.false_eq_true,if_false];exact ll1 q l (n+1) fun x hx=>h x (by simp[hx])
def gm0 (p:Policy)(kind:Int)(f:A10 Int):Option (Nat×Rule):=(p.Rules.foldl (fi fun r=>decide (r.Kind=kind)&&holds r f) (none,0)).1
theorem to1 (p:Policy)(f:A10 Int)(kind:Int)(hp:p.Rules.length≤1000000)(hz:∀ r∈p.Rules,r.Zones.length≤1000000) :
  wk0 p f kind=some (fiI (gm0 p kind f))∧∀ a,gm0 p kind f=some a→p.Rules[a.1]?=some a.2:=by
 unfold wk0;rcases dd0 (step:=vw0 p kind f) p.Rules (fun r=>decide (r.Kind=kind)&&holds r f) (fun k _=>.inr (k:Int)) (.inl ()) (fun k x hx=>by
  have hk:k<p.Rules.length:=(qA.1 hx).1;have hlt:(k:Int)<p.Rules.length:=by omega
  have hh:=zw1 x f (hz x (qK hx));simp only[vw0,qm0,qv0,hlt,decide_true,cond_true,qx0 hx,qC,wv0,hh,qr0,zc0 (k:=k) (by omega)];by_cases h1:x.Kind=kind
  ·cases hb:holds x f<;>simp[h1]
  ·simp[h1]) (by simp[vw0,qm0,qv0]) with ⟨k,x,h1,h2,h3,h4⟩ | ⟨h1,h2⟩
 ·have:=xc1 _ p.Rules 0 k x h1 h2 h3;rw[Nat.zero_add] at this;refine⟨?_,fun a ha=>?_⟩
  ·rw[h4];unfold gm0;rw[this];rfl
  ·unfold gm0 at ha;rw[this] at ha;cases ha;exact h1
 ·have:=ll1 _ p.Rules 0 h1;refine⟨?_,fun a ha=>?_⟩
  ·rw[h2];unfold gm0;rw[this];rfl
  ·unfold gm0 at ha;rw[this] at ha;cases ha
def xm0 (f:A10 Int)(s:Int)(r:Rule):Int:=if r.Kind=1∧holds r f=true∧0<r.N∧(s=0∨r.N<s) then r.N else s
def fh1 {α:Type}(g:Rule→α)(d:α):Option (Nat×Rule)→α
 | some a=>g a.2
 | none=>d
structure Par (s:JS)(s1 s2 s3 s4 s5 s6 s7:Option (Nat×Rule))(l:Int):Prop where
 allowed:s.allowed=fiI s1
 denied:s.denied=fiI s2
 tog:s.tog=s6.isSome
 sing:s.sing=s7.isSome
 limit:s.limit=l
 priced:s.priced=s3.isSome
 price:s.price=fh1 (·.N) 0 s3
 fee:s.fee=fh1 (·.R) one s3
 tax:s.tax=fh1 (·.S) one s3
 sold:s.sold=s4.isSome
 cap:s.cap=fh1 (·.R) one s4
 share:s.share=fh1 (·.S) one s4
 back:s.back=s5.isSome
 refund:s.refund=fh1 (·.R) one s5
abbrev qk (f:A10 Int)(k:Int)(r:Rule):Bool:=decide (r.Kind=k)&&holds r f
theorem xy0 {f:A10 Int}{k:Int}{r:Rule}(h:r.Kind≠k)(t:Option (Nat×Rule))(n:Nat):fi (qk f k) (t,n) r=(t,n+1):=by
 cases t<;>simp[fi,h]
theorem kk1 {f:A10 Int}{k:Int}{r:Rule}(h:holds r f=false)(t:Option (Nat×Rule))(n:Nat):fi (qk f k) (t,n) r=(t,n+1):=by
 cases t<;>simp[fi,h]
theorem rn0 {f:A10 Int}{k:Int}{r:Rule}(h:r.Kind=k)(hh:holds r f=true)(t:Option (Nat×Rule))(n:Nat):fi (qk f k) (t,n) r=(t.or (some (n,r)),n+1):=by
 cases t<;>simp[fi,h,hh]
theorem eh1 (t:Option (Nat×Rule))(n:Nat)(r:Rule):fiI (t.or (some (n,r)))=if fiI t<0 then (n:Int) else fiI t:=by
 cases t with
 | none=>simp[fiI]
 | some a =>
  have:¬ fiI (some a)<0:=by simp only[fiI];omega
  rw[if_neg this];rfl
theorem zp1 (t:Option (Nat×Rule))(n:Nat)(r:Rule):(t.or (some (n,r))).isSome=true:=by cases t<;>rfl
theorem wo2 {f:A10 Int}{m:Int}{r:Rule}(h:r.Kind≠1):xm0 f m r=m:=by unfold xm0;rw[if_neg fun x=>h x.1]
theorem wi2 {f:A10 Int}{m:Int}{r:Rule}(h:holds r f=false):xm0 f m r=m:=by unfold xm0;rw[if_neg fun x=>by rw[h] at x;exact absurd x.2.1 (by simp)]
theorem oy1 {f:A10 Int}{m:Int}{r:Rule}(h:r.Kind=1)(hh:holds r f=true):xm0 f m r=if 0<r.N∧(m=0∨r.N<m) then r.N else m:=by unfold xm0;simp only[h,hh,true_and]
theorem rq1 (f:A10 Int)(r:Rule)(s:JS)(n:Nat)(s1 s2 s3 s4 s5 s6 s7:Option (Nat×Rule))(m:Int)(h:Par s s1 s2 s3 s4 s5 s6 s7 m) :
  stepJ f (s,n) r=((stepJ f (s,n) r).1,n+1) ∧
  Par (stepJ f (s,n) r).1 (fi (qk f 1) (s1,n) r).1 (fi (qk f 2) (s2,n) r).1 (fi (qk f 3) (s3,n) r).1 (fi (qk f 4) (s4,n) r).1 (fi (qk f 5) (s5,n) r).1 (fi (qk f 6) (s6,n) r).1 (fi (qk f 7) (s7,n) r).1 (xm0 f m r):=by
 refine⟨rfl,?_⟩;obtain⟨a1,a2,a3,a4,a5,a6,a7,a8,a9,a10,a11,a12,a13,a14⟩:=h
 cases hh:holds r f with
 | false =>
  have hs:(stepJ f (s,n) r).1=s:=by simp[stepJ,hh]
  rw[hs,kk1 hh,kk1 hh,kk1 hh,kk1 hh,kk1 hh,kk1 hh,kk1 hh,wi2 hh];exact⟨a1,a2,a3,a4,a5,a6,a7,a8,a9,a10,a11,a12,a13,a14⟩
 | true =>
  have hs:(stepJ f (s,n) r).1=note s n r:=by simp[stepJ,hh]
  rw[hs];unfold note;by_cases k1:r.Kind=1
  ·rw[if_pos k1,rn0 k1 hh,xy0 (by omega),xy0 (by omega),xy0 (by omega),xy0 (by omega),xy0 (by omega),xy0 (by omega),oy1 k1 hh];exact⟨by show (if s.allowed<0 then (n:Int) else s.allowed)=_;rw[eh1,a1],a2,a3,a4,by show (if 0<r.N∧(s.limit=0∨r.N<s.limit) then r.N else s.limit)=_;rw[a5],a6,a7,a8,a9,a10,a11,a12,a13,a14⟩
  ·rw[if_neg k1,xy0 k1,wo2 k1];by_cases k2:r.Kind=2
   ·rw[if_pos k2,rn0 k2 hh,xy0 (by omega),xy0 (by omega),xy0 (by omega),xy0 (by omega),xy0 (by omega)];exact⟨a1,by show (if s.denied<0 then (n:Int) else s.denied)=_;rw[eh1,a2],a3,a4,a5,a6,a7,a8,a9,a10,a11,a12,a13,a14⟩
   ·rw[if_neg k2,xy0 k2];by_cases k3:r.Kind=3
    ·rw[if_pos k3,rn0 k3 hh,xy0 (by omega),xy0 (by omega),xy0 (by omega),xy0 (by omega)]
     cases s3 with
     | none =>
      rw[if_neg (by rw[a6];simp)];exact⟨a1,a2,a3,a4,a5,rfl,rfl,rfl,rfl,a10,a11,a12,a13,a14⟩
     | some a =>
      rw[if_pos (by rw[a6];rfl)];exact⟨a1,a2,a3,a4,a5,a6,a7,a8,a9,a10,a11,a12,a13,a14⟩
    ·rw[if_neg k3,xy0 k3];by_cases k4:r.Kind=4
     ·rw[if_pos k4,rn0 k4 hh,xy0 (by omega),xy0 (by omega),xy0 (by omega)]
      cases s4 with
      | none =>
       rw[if_neg (by rw[a10];simp)];exact⟨a1,a2,a3,a4,a5,a6,a7,a8,a9,rfl,rfl,rfl,a13,a14⟩
      | some a =>
       rw[if_pos (by rw[a10];rfl)];exact⟨a1,a2,a3,a4,a5,a6,a7,a8,a9,a10,a11,a12,a13,a14⟩
     ·rw[if_neg k4,xy0 k4];by_cases k5:r.Kind=5
      ·rw[if_pos k5,rn0 k5 hh,xy0 (by omega),xy0 (by omega)]
       cases s5 with
       | none =>
        rw[if_neg (by rw[a13];simp)];exact⟨a1,a2,a3,a4,a5,a6,a7,a8,a9,a10,a11,a12,rfl,rfl⟩
       | some a =>
        rw[if_pos (by rw[a13];rfl)];exact⟨a1,a2,a3,a4,a5,a6,a7,a8,a9,a10,a11,a12,a13,a14⟩
      ·rw[if_neg k5,xy0 k5];by_cases k6:r.Kind=6
       ·rw[if_pos k6,rn0 k6 hh,xy0 (by omega)];exact⟨a1,a2,(zp1 _ _ _).symm,a4,a5,a6,a7,a8,a9,a10,a11,a12,a13,a14⟩
       ·rw[if_neg k6,xy0 k6];by_cases k7:r.Kind=7
        ·rw[if_pos k7,rn0 k7 hh];exact⟨a1,a2,a3,(zp1 _ _ _).symm,a5,a6,a7,a8,a9,a10,a11,a12,a13,a14⟩
        ·rw[if_neg k7,xy0 k7];exact⟨a1,a2,a3,a4,a5,a6,a7,a8,a9,a10,a11,a12,a13,a14⟩
theorem xq1 (f:A10 Int):∀ (l:List Rule)(s:JS)(n:Nat)(s1 s2 s3 s4 s5 s6 s7:Option (Nat×Rule))(m:Int),Par s s1 s2 s3 s4 s5 s6 s7 m →
  Par (l.foldl (stepJ f) (s,n)).1 (l.foldl (fi (qk f 1)) (s1,n)).1 (l.foldl (fi (qk f 2)) (s2,n)).1 (l.foldl (fi (qk f 3)) (s3,n)).1 (l.foldl (fi (qk f 4)) (s4,n)).1 (l.foldl (fi (qk f 5)) (s5,n)).1 (l.foldl (fi (qk f 6)) (s6,n)).1 (l.foldl (fi (qk f 7)) (s7,n)).1 (l.foldl (xm0 f) m)
 | [],_,_,_,_,_,_,_,_,_,_,h=>h
 | r::l,s,n,s1,s2,s3,s4,s5,s6,s7,m,h=>by
  have h':=(rq1 f r s n s1 s2 s3 s4 s5 s6 s7 m h).2;simp only[qT];exact xq1 f l _ (n+1) _ _ _ _ _ _ _ _ h'
theorem am1 (p:Policy)(f:A10 Int)(hp:p.Rules.length≤1000000)(hz:∀ r∈p.Rules,r.Zones.length≤1000000) :
  qw0 (jw0 p f) (0,0)=some (p.Rules.foldl (xm0 f) 0):=by
 exact wt0 (step:=jw0 p f) (fun (s:Int) i=>(s,i)) p.Rules (xm0 f) 0 _ (fun k x hx=>by
  have hk:k<p.Rules.length:=(qA.1 hx).1;have hlt:(k:Int)<p.Rules.length:=by omega
  have hh:=zw1 x f (hz x (qK hx));generalize (p.Rules.take k).foldl (xm0 f) 0=s;simp only[jw0,qm0,qv0,hlt,decide_true,cond_true,qx0 hx,qC,wv0,hh,qr0,zc0 (k:=k) (by omega),xm0];by_cases h1:x.Kind=1<;>cases hb:holds x f<;>by_cases h2:0<x.N<;>by_cases h3:s=0<;>by_cases h4:x.N<s<;>simp[h1,h2,h3,h4]
  all_goals (first | omega | simp_all)) (by simp[jw0,qm0,qv0])
theorem rr0 (s:Option (Nat×Rule)):decide (0≤fiI s)=s.isSome:=by
 cases s with
 | none=>rfl
 | some a=>simp[fiI]
set_option maxHeartbeats 1000000 in
theorem fy1 (p:Policy)(f:A10 Int)(hp:p.Rules.length≤1000000)(hz:∀ r∈p.Rules,r.Zones.length≤1000000):kx0 p f=some (ma0 p f):=by
 have F:=fun k=>to1 p f k hp hz
 have P:=xq1 f p.Rules J0 0 none none none none none none none 0 ⟨rfl,rfl,rfl,rfl,rfl,rfl,rfl,rfl,rfl,rfl,rfl,rfl,rfl,rfl⟩;unfold kx0;simp only[(F _).1,qC,am1 p f hp hz];have h3:=(F 3).2;have h4:=(F 4).2;have h5:=(F 5).2;unfold ma0 rk2;have E:∀ k,(p.Rules.foldl (fi (qk f k)) (none,0)).1=gm0 p k f:=fun k=>rfl
 simp only[E] at P;generalize (p.Rules.foldl (stepJ f) (J0,0)).1=s at P;generalize gm0 p 1 f=s1 at P;generalize gm0 p 2 f=s2 at P;generalize gm0 p 3 f=s3 at P h3;generalize gm0 p 4 f=s4 at P h4;generalize gm0 p 5 f=s5 at P h5;generalize gm0 p 6 f=s6 at P;generalize gm0 p 7 f=s7 at P;generalize p.Rules.foldl (xm0 f) 0=m at P;obtain⟨a1,a2,a3,a4,a5,a6,a7,a8,a9,a10,a11,a12,a13,a14⟩:=P;rw[a1,a2,a3,a4,a5,a6,a7,a8,a9,a11,a12,a14];have i1:=rr0 s1;have i2:=rr0 s2;have i3:=rr0 s3;have i4:=rr0 s4;have i5:=rr0 s5;have i6:=rr0 s6;have i7:=rr0 s7;have n2:decide (fiI s2<0)=s2.isNone:=by
  cases s2 with
  | none=>rfl
  | some a =>
   have:¬ fiI (some a)<0:=by simp only[fiI];omega
   simp[this]
 simp only[xx0,qm0,i1,i2,i3,i4,i5,i6,i7,n2];have e2:(if 0≤fiI s2 then fiI s2 else fiI s1)=(if s2.isSome then fiI s2 else fiI s1):=by rw[← i2];simp
 rw[e2]
 cases s3 with
 | none =>
  cases s4 with
  | none=>cases s5 with
   | none=>cases s1<;>cases s2<;>rfl
   | some c =>
    have:=qx0 (h5 c rfl);simp only[fiI,this,Option.isSome_some,cond_true,qC];cases s1<;>cases s2<;>rfl
  | some b =>
   have hb:=qx0 (h4 b rfl)
   cases s5 with
   | none =>
    simp only[fiI,hb,Option.isSome_some,cond_true,qC];cases s1<;>cases s2<;>rfl
   | some c =>
    have:=qx0 (h5 c rfl);simp only[fiI,hb,this,Option.isSome_some,cond_true,qC];cases s1<;>cases s2<;>rfl
 | some a =>
  have ha:=qx0 (h3 a rfl)
  cases s4 with
  | none=>cases s5 with
   | none =>
    simp only[fiI,ha,Option.isSome_some,cond_true,qC];cases s1<;>cases s2<;>rfl
   | some c =>
    have:=qx0 (h5 c rfl);simp only[fiI,ha,this,Option.isSome_some,cond_true,qC];cases s1<;>cases s2<;>rfl
  | some b =>
   have hb:=qx0 (h4 b rfl)
   cases s5 with
   | none =>
    simp only[fiI,ha,hb,Option.isSome_some,cond_true,qC];cases s1<;>cases s2<;>rfl
   | some c =>
    have:=qx0 (h5 c rfl);simp only[fiI,ha,hb,this,Option.isSome_some,cond_true,qC];cases s1<;>cases s2<;>rfl
end Go.SX.Td
namespace Go.SX.Td
open Go Go.SX
theorem jx1 (r:Rule):kh0 r=some (gp0 r):=by
 unfold kh0 gp0 bs0;simp only[wv0,xx0,ej1];by_cases h1:r.Kind=1
 ·simp only[h1,decide_true,cond_true,if_true,sz0]
 ·by_cases h3:r.Kind=3
  ·simp only[h3,show ¬ ((3:Int)=1) by omega,decide_false,cond_false,decide_true,cond_true,if_true,if_false,sz0,Bool.and_assoc]
  ·by_cases h4:r.Kind=4
   ·simp only[h4,show ¬ ((4:Int)=1) by omega,show ¬ ((4:Int)=3) by omega,decide_false,cond_false,decide_true,cond_true,if_true,if_false,sz0,Bool.and_assoc]
   ·by_cases h5:r.Kind=5
    ·simp only[h5,show ¬ ((5:Int)=1) by omega,show ¬ ((5:Int)=3) by omega,show ¬ ((5:Int)=4) by omega,decide_false,cond_false,decide_true,cond_true,if_true,if_false,sz0]
    ·simp only[h1,h3,h4,h5,decide_false,cond_false,if_false];by_cases h2:r.Kind=2
     ·simp[h2]
     ·by_cases h6:r.Kind=6
      ·simp[h6]
      ·by_cases h7:r.Kind=7
       ·simp[h7]
       ·simp[h2,h6,h7]
theorem br1 (x:Rule)(k:Nat)(z:A10 Range)(hz:x.Zones[k]?=some z):qw0 (yk0 x k wo0) 0=some (if yb0 z then .inl () else .inr (.inr (.inr (.inr (.inr (.inr false)))))):=by
 rw[xq0 (step:=yk0 x k wo0) 10 (fun i=>!(decide ((z.get i).Lo≤(z.get i).Hi)&&(decide ((wo0.get i).Lo≤(z.get i).Lo)&&decide ((z.get i).Hi≤(wo0.get i).Hi)))) (.inr (.inr (.inr (.inr (.inr (.inr false)))))) (.inl ()) (fun i hi=>?_) (by simp[yk0,qm0])]
 ·rw[nr0];cases yb0 z<;>rfl
 ·have h10:(i:Int)<10:=by omega
  simp only[yk0,qm0,h10,decide_true,cond_true,qx0 hz,zm0 hi,qC,qr0,zc0 (k:=i) (by omega)];by_cases h1:(z.get i).Hi<(z.get i).Lo
  ·have h1':¬ (z.get i).Lo≤(z.get i).Hi:=by omega
   simp[h1,h1']
  ·have h1':(z.get i).Lo≤(z.get i).Hi:=by omega
   by_cases h2:(z.get i).Lo<(wo0.get i).Lo
   ·have h2':¬ (wo0.get i).Lo≤(z.get i).Lo:=by omega
    simp[h1,h1',h2,h2']
   ·have h2':(wo0.get i).Lo≤(z.get i).Lo:=by omega
    by_cases h3:(wo0.get i).Hi<(z.get i).Hi
    ·have h3':¬ (z.get i).Hi≤(wo0.get i).Hi:=by omega
     simp[h1,h1',h2,h2',h3,h3']
    ·have h3':(z.get i).Hi≤(wo0.get i).Hi:=by omega
     simp[h1,h1',h2,h2',h3,h3']
theorem ax1 (x:Rule)(hx:x.Zones.length≤200):qw0 (yv0 x wo0) 0=some (if x.Zones.all yb0 then .inl () else .inr (.inr (.inr (.inr false)))):=by
 rw[gh0 (step:=yv0 x wo0) x.Zones (fun z=>!yb0 z) (.inr (.inr (.inr (.inr false)))) (.inl ()) (fun k z hz=>?_) (by simp[yv0,qm0,qv0])]
 ·rw[← List.not_all_eq_any_not];cases x.Zones.all yb0<;>rfl
 ·have hk:k<x.Zones.length:=(qA.1 hz).1;have hlt:(k:Int)<x.Zones.length:=by omega
  simp only[yv0,qm0,qv0,hlt,decide_true,cond_true,br1 x k z hz,qr0,zc0 (k:=k) (by omega)];cases yb0 z<;>rfl
theorem ig1 (a b:ByteArray):io.seq a b=decide (a=b):=by
 rw[yj2];by_cases h:a=b
 ·simp[h]
 ·have hne:¬ a.toList=b.toList:=by
   intro e;rw[ByteArray.toList_eq,ByteArray.toList_eq] at e;exact h (ByteArray.ext (Array.toList_inj.mp e))
  rw[qI h];exact beq_eq_false_iff_ne.2 hne
theorem ah1 (p:Policy)(x:Rule)(i:Nat)(hi:i≤p.Rules.length)(hl:i≤1000000):qw0 (ww0 i p x) 0=some (if (p.Rules.take i).any (fun q=>decide (q.Name=x.Name)) then .inr (.inr (.inr false)) else .inl ()):=by
 have hlen:(p.Rules.take i).length=i:=by simp;omega
 rw[gh0 (step:=ww0 i p x) (p.Rules.take i) (fun q=>decide (q.Name=x.Name)) (.inr (.inr (.inr false))) (.inl ()) (fun k q hq=>?_) (by rw[hlen];simp[ww0,qm0])];have hk:k<i:=by have:=(qA.1 hq).1;omega
 have hlt:(k:Int)<(i:Int):=by omega
 have hq':p.Rules[k]?=some q:=by rw[List.getElem?_take] at hq;rw[if_pos hk] at hq;exact hq
 simp only[ww0,qm0,hlt,decide_true,cond_true,qx0 hq',qC,ig1,qr0,zc0 (k:=k) (by omega)];by_cases h:q.Name=x.Name<;>simp[h]
theorem zk1 (p:Policy):vo0 p=some (wl0 p):=by
 unfold vo0;simp only[qm0,qv0];by_cases hl:p.Rules.length≤200
 ·have hl':¬ ((200:Int)<p.Rules.length):=by omega
  simp only[hl',decide_false,cond_false,gy0,qC]
  rw[xq0 (step:=jn0 p wo0) p.Rules.length (fun k=>match p.Rules[k]? with | some r=>!gc0 p k r | none=>false) (.inr false) (.inl ()) (fun k hk=>?_) (by simp[jn0,qm0,qv0])]
  ·have hv:(List.range p.Rules.length).any (fun k=>match p.Rules[k]? with | some r=>!gc0 p k r | none=>false)=!wl0 p:=by
    cases hv:wl0 p with
    | true =>
     rw[Bool.not_true,List.any_eq_false];intro k _
     cases hr:p.Rules[k]? with
     | none=>simp
     | some r=>simp[px0 hv hr]
    | false =>
     rw[Bool.not_false]
     cases hany:(List.range p.Rules.length).any (fun k=>match p.Rules[k]? with | some r=>!gc0 p k r | none=>false) with
     | true=>rfl
     | false =>
      rw[List.any_eq_false] at hany;rw[vj1 hl fun k r hr=>by
       have:=hany k (List.mem_range.2 (qA.1 hr).1);rw[hr] at this
       simpa using this] at hv
      cases hv
   rw[hv];cases wl0 p<;>rfl
  ·have hlt:(k:Int)<p.Rules.length:=by omega
   have hx:p.Rules[k]?=some p.Rules[k]:=by simp[hk]
   generalize p.Rules[k]=x at hx;simp only[jn0,qm0,qv0,hlt,decide_true,cond_true,hx,qx0 hx,qC,jx1,wu0,qr0,zc0 (k:=k) (by omega),gc0]
   cases hn:gp0 x with
   | false=>rfl
   | true =>
    by_cases hz:x.Zones.length≤200
    ·have hz':¬ ((200:Int)<x.Zones.length):=by omega
     simp only[Bool.not_true,cond_false,hz',decide_false,qC,ax1 x hz,hz,decide_true,Bool.true_and]
     cases hw:x.Zones.all yb0 with
     | false=>rfl
     | true =>
      simp only[if_true,Bool.true_and,Bool.not_not];rw[show orR (some (Sum.inl ():Unit ⊕ (Unit ⊕ (Int ⊕ (Unit ⊕ Bool))))) (fun _=>qw0 (ww0 (k:Int) p x) 0)=qw0 (ww0 (k:Int) p x) 0 from rfl,ah1 p x k (by omega) (by omega)];cases (p.Rules.take k).any (fun q=>decide (q.Name=x.Name))<;>rfl
    ·have hz':(200:Int)<x.Zones.length:=by omega
     simp[hz',hz,orR]
 ·have hl':(200:Int)<p.Rules.length:=by omega
  simp only[hl',decide_true,cond_true];simp[wl0,hl]
end Go.SX.Td
