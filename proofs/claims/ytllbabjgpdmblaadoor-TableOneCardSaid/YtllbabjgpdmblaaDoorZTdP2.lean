/- Parts of the proof. -/
import Derived.Test.YtllbabjgpdmblaaDoorZSyP
import Derived.Test.YtllbabjgpdmblaaDoorZTd32d
import Derived.Test.YtllbabjgpdmblaaDoorZTdBuilder
import Derived.Test.YtllbabjgpdmblaaDoorZTdCompact
import Derived.Lib.ItoaLen
set_option linter.unusedSimpArgs false
set_option linter.unusedVariables false
set_option linter.unusedSectionVars false
namespace Go.SX.Td
open Go Go.SX
def zj0 : A10 Range:=⟨⟨0,1000000000⟩,⟨0,150⟩,⟨0,1⟩,⟨0,19⟩,⟨0,7⟩,⟨0,319⟩,⟨0,3⟩,⟨0,3⟩,⟨1,12⟩,⟨0,100⟩⟩
theorem jl0 : resolve_Limits_g=some zj0:=rfl
def inZ (z:A10 Range)(f:A10 Int):Bool:=(List.range 10).all fun i=>decide ((z.get i).Lo≤f.get i)&&decide (f.get i≤(z.get i).Hi)
def holds (r:Rule)(f:A10 Int):Bool:=r.Zones.any fun z=>inZ z f
theorem fm0 {z:A10 Range}{f:A10 Int}:inZ z f=true↔∀ i,i<10→(z.get i).Lo≤f.get i∧f.get i≤(z.get i).Hi:=by
 unfold inZ
 simp only[List.all_eq_true,List.mem_range,Bool.and_eq_true,decide_eq_true_eq]
theorem not_any_eq {n:Nat}{p:Nat→Bool}:(!(List.range n).any p)=(List.range n).all fun i=>!p i:=by
 rw[List.not_any_eq_all_not]
theorem Holds_inner (z:A10 Range)(f:A10 Int):whileG (decide_Holds_l26 f z) 0=some (if inZ z f then .inl () else .inr false):=by
 rw[ki0 (step:=decide_Holds_l26 f z) 10 (fun i=>!(decide ((z.get i).Lo≤f.get i)&&decide (f.get i≤(z.get i).Hi))) (.inr false) (.inl ()) (fun k hk=>?_) (by simp[decide_Holds_l26,qy0])]
 ·congr 1
  have:inZ z f=!((List.range 10).any fun i=>!(decide ((z.get i).Lo≤f.get i)&&decide (f.get i≤(z.get i).Hi))):=by
   rw[not_any_eq];simp[inZ]
  rw[this]
  cases ((List.range 10).any fun i=>!(decide ((z.get i).Lo≤f.get i)&&decide (f.get i≤(z.get i).Hi)))<;>rfl
 ·have h10:(k:Int)<10:=by omega
  simp only[decide_Holds_l26,qy0,h10,decide_true,cond_true,qn0 hk,Option.bind_some,qe0,za0 (k:=k) (by omega)]
  by_cases h1:f.get k<(z.get k).Lo
  ·have h1':¬ (z.get k).Lo≤f.get k:=by omega
   simp[h1,h1']
  ·have h1':(z.get k).Lo≤f.get k:=by omega
   by_cases h2:(z.get k).Hi<f.get k
   ·have h2':¬ f.get k≤(z.get k).Hi:=by omega
    simp[h1,h1',h2,h2']
   ·have h2':f.get k≤(z.get k).Hi:=by omega
    simp[h1,h1',h2,h2']
theorem Holds_eq (r:Rule)(f:A10 Int)(hz:r.Zones.length≤1000000):decide_Holds_g r f=some (holds r f):=by
 unfold decide_Holds_g
 have key:=loop_find (step:=decide_Holds_l22 r f) r.Zones (fun z=>inZ z f) (fun _ _=>.inr true) (.inl ()) (fun k x hx=>by
  have hk:k<r.Zones.length:=(List.getElem?_eq_some_iff.1 hx).1
  have hlt:(k:Int)<r.Zones.length:=by omega
  have hge:(0:Int)≤k:=by omega
  simp only[decide_Holds_l22,qy0,qj0,hlt,decide_true,cond_true,qz0 hx,Option.bind_some,Holds_inner,qe0,za0 (k:=k) (by omega),jk0,hge]
  cases inZ x f<;>simp[orR]) (by simp[decide_Holds_l22,qy0,qj0])
 rcases key with ⟨k,x,h1,h2,h3,h4⟩ | ⟨h1,h2⟩
 ·have:holds r f=true:=List.any_eq_true.2 ⟨x,List.mem_of_getElem? h1,h2⟩
  simp[h4,orR,this]
 ·have:holds r f=false:=by
   unfold holds;rw[List.any_eq_false];intro x hx;simp[h1 x hx]
  simp[h2,orR,this,jk0]
end Go.SX.Td
namespace Go.SX.Td
open Go Go.SX
structure JS where
 tog:Bool
 sing:Bool
 limit:Int
 price:Int
 fee:Ratio
 tax:Ratio
 cap:Ratio
 share:Ratio
 refund:Ratio
 priced:Bool
 sold:Bool
 back:Bool
 allowed:Int
 denied:Int
deriving DecidableEq
def one : Ratio:=⟨0,1⟩
def J0 : JS:=⟨false,false,0,0,one,one,one,one,one,false,false,false,-1,-1⟩
def note (s:JS)(i:Int)(r:Rule):JS :=
 if r.Kind=1 then { s with allowed:=if s.allowed<0 then i else s.allowed,limit:=if 0<r.N∧(s.limit=0∨r.N<s.limit) then r.N else s.limit }
 else if r.Kind=2 then { s with denied:=if s.denied<0 then i else s.denied }
 else if r.Kind=3 then (if s.priced then s else { s with priced:=true,price:=r.N,fee:=r.R,tax:=r.S })
 else if r.Kind=4 then (if s.sold then s else { s with sold:=true,cap:=r.R,share:=r.S })
 else if r.Kind=5 then (if s.back then s else { s with back:=true,refund:=r.R })
 else if r.Kind=6 then { s with tog:=true }
 else if r.Kind=7 then { s with sing:=true }
 else s
def stepJ (f:A10 Int)(s:JS×Nat)(r:Rule):JS×Nat:=(if holds r f then note s.1 s.2 r else s.1,s.2+1)
def finJ (s:JS):Decision :=
 ⟨decide (0≤s.allowed)&&(s.priced&&decide (s.denied<0)),s.tog,s.sing,s.limit,s.price,s.fee,s.tax,s.cap,s.share,s.refund,if 0≤s.denied then s.denied else s.allowed⟩
def kv0 (p:Policy)(f:A10 Int):Decision:=finJ (p.Rules.foldl (stepJ f) (J0,0)).1
theorem stepJ_idx (f:A10 Int):∀ (l:List Rule)(s:JS×Nat),(l.foldl (stepJ f) s).2=s.2+l.length
 | [],_=>rfl
 | r::l,s=>by
  rw[List.foldl_cons,stepJ_idx f l]
  simp[stepJ];omega
abbrev tupJ (s:JS):Bool×Bool×Int×Int×Int×Int×Int×Int×Int×Int×Int×Int×Int×Int×Bool×Bool×Bool×Int×Int :=
 (s.tog,s.sing,s.limit,s.price,s.fee.Num,s.fee.Den,s.tax.Num,s.tax.Den,s.cap.Num,s.cap.Den,s.share.Num,s.share.Den,s.refund.Num,s.refund.Den,s.priced,s.sold,s.back,s.allowed,s.denied)
def mkJ (s:JS×Nat)(i:Int):Bool×Bool×Int×Int×Int×Int×Int×Int×Int×Int×Int×Int×Int×Int×Bool×Bool×Bool×Int×Int×Int :=
 (s.1.tog,s.1.sing,s.1.limit,s.1.price,s.1.fee.Num,s.1.fee.Den,s.1.tax.Num,s.1.tax.Den,s.1.cap.Num,s.1.cap.Den,s.1.share.Num,s.1.share.Den,s.1.refund.Num,s.1.refund.Den,s.1.priced,s.1.sold,s.1.back,s.1.allowed,s.1.denied,i)
set_option maxHeartbeats 4000000 in
theorem Decide_eq (p:Policy)(f:A10 Int)(hp:p.Rules.length≤1000000)(hz:∀ r∈p.Rules,r.Zones.length≤1000000):decide_Decide_g p f=some (kv0 p f):=by
 unfold decide_Decide_g
 have key:=ws0 (step:=decide_Decide_l2 p f) mkJ p.Rules (stepJ f) (J0,0) (tupJ (p.Rules.foldl (stepJ f) (J0,0)).1) (fun k x hx=>by
  have hk:k<p.Rules.length:=(List.getElem?_eq_some_iff.1 hx).1
  have hlt:(k:Int)<p.Rules.length:=by omega
  have hidx:((p.Rules.take k).foldl (stepJ f) (J0,0)).2=k:=by rw[stepJ_idx];simp;omega
  generalize hs:(p.Rules.take k).foldl (stepJ f) (J0,0)=s at hidx
  obtain⟨s,i⟩:=s
  simp only at hidx
  subst hidx
  have hh:=Holds_eq x f (hz x (List.mem_of_getElem? hx))
  simp only[decide_Decide_l2,mkJ,qy0,jk0,qj0,hlt,decide_true,cond_true,qz0 hx,Option.bind_some,qe0,za0 (k:=i) (by omega),zl0,hh,zd0,stepJ,note]
  cases hx':holds x f
  ·by_cases k1:x.Kind=1
   ·simp[k1]
   ·by_cases k2:x.Kind=2
    ·simp[k2]
    ·by_cases k3:x.Kind=3
     ·simp[k3]
     ·by_cases k4:x.Kind=4
      ·simp[k4]
      ·by_cases k5:x.Kind=5
       ·simp[k5]
       ·by_cases k6:x.Kind=6
        ·simp[k6]
        ·by_cases k7:x.Kind=7
         ·simp[k7]
         ·simp[k1,k2,k3,k4,k5,k6,k7]
  ·by_cases k1:x.Kind=1
   ·by_cases a1:s.allowed<0<;>by_cases a2:0<x.N<;>by_cases a3:s.limit=0<;>by_cases a4:x.N<s.limit<;>simp[k1,a1,a2,a3,a4]
    all_goals (first | omega | (simp_all) )
   ·by_cases k2:x.Kind=2
    ·by_cases a1:s.denied<0<;>simp[k2,a1]
    ·by_cases k3:x.Kind=3
     ·cases hs':s.priced<;>simp[k3,hs']
     ·by_cases k4:x.Kind=4
      ·cases hs':s.sold<;>simp[k4,hs']
      ·by_cases k5:x.Kind=5
       ·cases hs':s.back<;>simp[k5,hs']
       ·by_cases k6:x.Kind=6
        ·simp[k6]
        ·by_cases k7:x.Kind=7
         ·simp[k7]
         ·simp[k1,k2,k3,k4,k5,k6,k7]) (by simp[decide_Decide_l2,mkJ,qy0,qj0])
 have h0:mkJ (J0,0) 0=(false,false,0,0,0,1,0,1,0,1,0,1,0,1,false,false,false,-1,-1,0):=rfl
 rw[h0] at key
 rw[key]
 unfold kv0 finJ
 generalize (p.Rules.foldl (stepJ f) (J0,0)).1=s
 simp only[tupJ,Option.bind_some,jk0,qy0]
 by_cases h1:0≤s.allowed<;>cases h2:s.priced<;>by_cases h3:0≤s.denied<;>simp[h1,h2,h3]<;>first | omega | rfl
end Go.SX.Td
namespace Go.SX.Td
open Go Go.SX
theorem ji0 {κ α:Type}[DecidableEq κ](k k':κ)(v z:α):∀ m:List (κ×α),mlookD (mputG m k v) k' z=if k'=k then v else mlookD m k' z
 | []=>by
  simp only[mputG,mlookD,mlook]
  split<;>rfl
 | (q,w)::m=>by
  have ih:=ji0 k k' v z m
  simp only[mlookD] at ih
  simp only[mputG]
  by_cases h1:k=q
  ·subst h1
   simp only[if_true,mlookD,mlook]
   split<;>rfl
  ·simp only[if_neg h1,mlookD,mlook]
   by_cases h2:k'=q
   ·subst h2
    simp[Ne.symm h1]
   ·simp only[if_neg h2];exact ih
theorem vm0 : ref12_Limits_g=some zj0:=by
 unfold ref12_Limits_g
 simp only[Option.bind_some]
 have step:∀ (k:Nat)(hk:k<10)(z:A10 Range),ref12_Limits_l2 [1000000000,150,1,19,7,319,3,3,12,100] (z,(k:Int))=some (.inl (z.put k ⟨(z.get k).Lo,([1000000000,150,1,19,7,319,3,3,12,100]:List Int)[k]⟩,((k+1:Nat):Int))):=by
  intro k hk z
  have hlt:(k:Int)<10:=by omega
  have h1:rixG ([1000000000,150,1,19,7,319,3,3,12,100]:List Int) (k:Int)=some k:=by
   unfold rixG;rw[if_pos ⟨by omega,by simp;omega⟩];simp
  have h2:([1000000000,150,1,19,7,319,3,3,12,100]:List Int)[k]?=some (([1000000000,150,1,19,7,319,3,3,12,100]:List Int)[k]):=List.getElem?_eq_getElem _
  have h3:(([1000000000,150,1,19,7,319,3,3,12,100]:List Int).length:Int)=10:=rfl
  simp only[ref12_Limits_l2,qy0,qj0,h3,hlt,decide_true,cond_true,h1,h2,qn0 hk,Option.bind_some,qe0,za0 (k:=k) (by omega)]
 have fin:∀ z:A10 Range,ref12_Limits_l2 [1000000000,150,1,19,7,319,3,3,12,100] (z,((10:Nat):Int))=some (.inr z):=fun z=>by
  simp[ref12_Limits_l2,qy0,qj0]
 have h0:(0:Int)=((0:Nat):Int):=rfl
 rw[h0,qs0,step 0 (by omega)];simp only[]
 rw[qs0,step 1 (by omega)];simp only[]
 rw[qs0,step 2 (by omega)];simp only[]
 rw[qs0,step 3 (by omega)];simp only[]
 rw[qs0,step 4 (by omega)];simp only[]
 rw[qs0,step 5 (by omega)];simp only[]
 rw[qs0,step 6 (by omega)];simp only[]
 rw[qs0,step 7 (by omega)];simp only[]
 rw[qs0,step 8 (by omega)];simp only[]
 rw[qs0,step 9 (by omega)];simp only[]
 rw[qs0,fin]
 rfl
def mx0 (r:Ratio)(most:Int):Bool :=
 decide (1≤r.Den)&&(decide (r.Den≤1000000)&&(decide (0≤r.Num)&&(decide (r.Num≤IntKind.i64.wrap (most * r.Den))&&decide (r.Num≤1000000))))
def ka0 (r:Rule):Bool :=
 if r.Kind=1 then decide (0≤r.N)&&decide (r.N≤100)
 else if r.Kind=3 then decide (0≤r.N)&&(decide (r.N≤10000000)&&(mx0 r.R 1&&mx0 r.S 1))
 else if r.Kind=4 then mx0 r.R 10&&mx0 r.S 1
 else if r.Kind=5 then mx0 r.R 1
 else decide (r.Kind=2)||(decide (r.Kind=6)||decide (r.Kind=7))
theorem bl0 {b x:Bool}:(bif b then some x else some false)=some (b&&x):=by cases b<;>rfl
theorem numbers_eq (r:Rule):decide_numbers_g r=some (ka0 r):=by
 unfold decide_numbers_g ka0 mx0
 simp only[zl0,jk0,io_mul]
 by_cases h1:r.Kind=1
 ·simp only[h1,decide_true,cond_true,if_true,bl0]
 ·by_cases h3:r.Kind=3
  ·simp only[h3,show ¬ ((3:Int)=1) by omega,decide_false,cond_false,decide_true,cond_true,if_true,if_false,bl0,Bool.and_assoc]
  ·by_cases h4:r.Kind=4
   ·simp only[h4,show ¬ ((4:Int)=1) by omega,show ¬ ((4:Int)=3) by omega,decide_false,cond_false,decide_true,cond_true,if_true,if_false,bl0,Bool.and_assoc]
   ·by_cases h5:r.Kind=5
    ·simp only[h5,show ¬ ((5:Int)=1) by omega,show ¬ ((5:Int)=3) by omega,show ¬ ((5:Int)=4) by omega,decide_false,cond_false,decide_true,cond_true,if_true,if_false,bl0]
    ·simp only[h1,h3,h4,h5,decide_false,cond_false,if_false]
     by_cases h2:r.Kind=2
     ·simp[h2]
     ·by_cases h6:r.Kind=6
      ·simp[h6]
      ·by_cases h7:r.Kind=7
       ·simp[h7]
       ·simp[h2,h6,h7]
def zm0 (z:A10 Range):Bool:=(List.range 10).all fun i=>decide ((z.get i).Lo≤(z.get i).Hi)&&(decide ((zj0.get i).Lo≤(z.get i).Lo)&&decide ((z.get i).Hi≤(zj0.get i).Hi))
theorem ym0 {z:A10 Range}:zm0 z=true↔∀ i,i<10→(zj0.get i).Lo≤(z.get i).Lo∧(z.get i).Lo≤(z.get i).Hi∧(z.get i).Hi≤(zj0.get i).Hi:=by
 unfold zm0
 simp only[List.all_eq_true,List.mem_range,Bool.and_eq_true,decide_eq_true_eq]
 exact⟨fun h i hi=>⟨(h i hi).2.1,(h i hi).1,(h i hi).2.2⟩,fun h i hi=>⟨(h i hi).2.1,(h i hi).1,(h i hi).2.2⟩⟩
theorem withinZ_any (z:A10 Range):((List.range 10).any fun i=>!(decide ((z.get i).Lo≤(z.get i).Hi)&&(decide ((zj0.get i).Lo≤(z.get i).Lo)&&decide ((z.get i).Hi≤(zj0.get i).Hi))))=!zm0 z:=by
 unfold zm0
 rw[List.not_all_eq_any_not]
theorem within_eq (z:A10 Range):decide_within_g z=some (zm0 z):=by
 unfold decide_within_g
 simp only[jl0,Option.bind_some]
 rw[ki0 (step:=decide_within_l2 z zj0) 10 (fun i=>!(decide ((z.get i).Lo≤(z.get i).Hi)&&(decide ((zj0.get i).Lo≤(z.get i).Lo)&&decide ((z.get i).Hi≤(zj0.get i).Hi)))) (.inr false) (.inl ()) (fun k hk=>?_) (by simp[decide_within_l2,qy0])]
 ·rw[withinZ_any]
  cases zm0 z<;>rfl
 ·have h10:(k:Int)<10:=by omega
  simp only[decide_within_l2,qy0,h10,decide_true,cond_true,qn0 hk,Option.bind_some,qe0,za0 (k:=k) (by omega)]
  by_cases h1:(z.get k).Hi<(z.get k).Lo
  ·have h1':¬ (z.get k).Lo≤(z.get k).Hi:=by omega
   simp[h1,h1']
  ·have h1':(z.get k).Lo≤(z.get k).Hi:=by omega
   by_cases h2:(z.get k).Lo<(zj0.get k).Lo
   ·have h2':¬ (zj0.get k).Lo≤(z.get k).Lo:=by omega
    simp[h1,h1',h2,h2']
   ·have h2':(zj0.get k).Lo≤(z.get k).Lo:=by omega
    by_cases h3:(zj0.get k).Hi<(z.get k).Hi
    ·have h3':¬ (z.get k).Hi≤(zj0.get k).Hi:=by omega
     simp[h1,h1',h2,h2',h3,h3']
    ·have h3':(z.get k).Hi≤(zj0.get k).Hi:=by omega
     simp[h1,h1',h2,h2',h3,h3']
def jo0 (p:Policy)(k:Nat)(r:Rule):Bool:=ka0 r&&(decide (r.Zones.length≤200)&&(r.Zones.all zm0&&!((p.Rules.take k).any fun q=>decide (q.Name=r.Name))))
def zv0 (p:Policy):Bool:=decide (p.Rules.length≤200)&&p.Rules.zipIdx.all fun x=>jo0 p x.2 x.1
theorem jb0 {p:Policy}(h:zv0 p=true){k:Nat}{r:Rule}(hr:p.Rules[k]?=some r):jo0 p k r=true:=by
 simp only[zv0,Bool.and_eq_true,List.all_eq_true] at h
 exact h.2 (r,k) (List.mem_zipIdx_iff_getElem?.2 hr)
theorem valid_of {p:Policy}(h1:p.Rules.length≤200)(h:∀ (k:Nat) r,p.Rules[k]?=some r→jo0 p k r=true):zv0 p=true:=by
 simp only[zv0,Bool.and_eq_true,List.all_eq_true,decide_eq_true_eq]
 exact⟨h1,fun x hx=>h x.2 x.1 (List.mem_zipIdx_iff_getElem?.1 hx)⟩
theorem not_valid {p:Policy}{k:Nat}{r:Rule}(hr:p.Rules[k]?=some r)(h:jo0 p k r=false):zv0 p=false:=by
 cases hv:zv0 p with
 | false=>rfl
 | true=>rw[jb0 hv hr] at h;cases h
theorem zones_within (x:Rule)(m:List (ByteArray×Bool))(hx:x.Zones.length≤200):whileG (decide_Valid_l26 x m) 0=some (if x.Zones.all zm0 then .inl () else .inr (m,true)):=by
 rw[ni0 (step:=decide_Valid_l26 x m) x.Zones (fun z=>!zm0 z) (.inr (m,true)) (.inl ()) (fun k z hz=>?_) (by simp[decide_Valid_l26,qy0,qj0])]
 ·rw[← List.not_all_eq_any_not]
  cases x.Zones.all zm0<;>rfl
 ·have hk:k<x.Zones.length:=(List.getElem?_eq_some_iff.1 hz).1
  have hlt:(k:Int)<x.Zones.length:=by omega
  have hge:(0:Int)≤k:=by omega
  simp only[decide_Valid_l26,qy0,qj0,hlt,decide_true,cond_true,qz0 hz,Option.bind_some,within_eq,zd0,qe0,za0 (k:=k) (by omega),jk0,hge]
  cases zm0 z<;>simp
theorem xm0 (p:Policy):decide_Valid_g p=some (zv0 p):=by
 unfold decide_Valid_g
 simp only[jk0,qj0,zd0]
 by_cases hl:p.Rules.length≤200
 ·have hl':(p.Rules.length:Int)≤200:=by omega
  simp only[hl',decide_true,cond_true]
  obtain⟨t,h1,h2⟩:=wk0 (step:=decide_Valid_l22 p) (fun (s:List (ByteArray×Bool)) i=>(s,i)) p.Rules.length
   (fun k own=>(∀ nm,mlookD own nm false=(p.Rules.take k).any fun q=>decide (q.Name=nm))∧∀ (j:Nat) r,j<k→p.Rules[j]?=some r→jo0 p j r=true)
   (fun t=>(t=.inr false∧zv0 p=false)∨(∃ own,t=.inl own)∧zv0 p=true)
   (fun k own hk hI=>by
    obtain⟨hI1,hI2⟩:=hI
    have hx:p.Rules[k]?=some p.Rules[k]:=by simp[hk]
    have hlt:(k:Int)<p.Rules.length:=by omega
    have hge:(0:Int)≤k:=by omega
    generalize p.Rules[k]=x at hx
    have hname:=hI1 x.Name
    have hf:jo0 p k x=(ka0 x&&(decide (x.Zones.length≤200)&&(x.Zones.all zm0&&!mlookD own x.Name false))):=by unfold jo0;rw[hname]
    have bad:jo0 p k x=false→∀ t,(some (.inr (.inr (!decide ((0:Int)≤k)))):Option ((List (ByteArray×Bool)×Int) ⊕ (List (ByteArray×Bool) ⊕ Bool)))=some t→∃ t',some t=some (.inr t')∧((t'=.inr false∧zv0 p=false)∨(∃ own,t'=.inl own)∧zv0 p=true):=fun hb t ht=>by
     cases ht
     exact⟨_,rfl,.inl ⟨by simp[hge],not_valid hx hb⟩⟩
    simp only[decide_Valid_l22,qy0,qj0,hlt,decide_true,cond_true,qz0 hx,Option.bind_some,numbers_eq,zd0,qe0,za0 (k:=k) (by omega),jk0]
    cases hm:mlookD own x.Name false with
    | true =>
     exact .inr (bad (by rw[hf,hm];simp) _ rfl)
    | false =>
     simp only[cond_false,Option.bind_some]
     cases hn:ka0 x with
     | false=>exact .inr (bad (by rw[hf,hn];rfl) _ rfl)
     | true =>
      by_cases hz:x.Zones.length≤200
      ·have hz':¬ ((200:Int)<x.Zones.length):=by omega
       simp only[Bool.not_true,cond_false,hz',decide_false,zones_within x _ hz]
       cases hw:x.Zones.all zm0 with
       | false=>exact .inr (bad (by rw[hf,hw];simp) _ rfl)
       | true =>
        refine .inl ⟨mputG own x.Name true,by simp[orR],fun nm=>?_,fun j r hj hr=>?_⟩
        ·rw[ji0,hI1,List.take_add_one,hx]
         simp only[Option.toList_some,List.any_append,List.any_cons,List.any_nil,Bool.or_false]
         by_cases e:nm=x.Name
         ·subst e;simp
         ·simp[e,Ne.symm e]
        ·rcases Nat.lt_or_eq_of_le (Nat.le_of_lt_succ hj) with h | h
         ·exact hI2 j r h hr
         ·subst h;rw[hx] at hr;cases hr
          rw[hf,hn,hw,hm];simp[hz]
      ·have hz':(200:Int)<x.Zones.length:=by omega
       simp only[Bool.not_true,cond_false,hz',decide_true,cond_true]
       exact .inr (bad (by rw[hf];simp[hz]) _ rfl))
   (fun own hI=>⟨_,by simp[decide_Valid_l22,qy0,qj0],.inr ⟨⟨own,rfl⟩,valid_of hl fun k r hr=>hI.2 k r (List.getElem?_eq_some_iff.1 hr).1 hr⟩⟩)
   [] ⟨fun nm=>by simp[mlookD,mlook],fun j r hj=>by omega⟩
  rw[h1]
  rcases h2 with ⟨rfl,hv⟩ | ⟨⟨own,rfl⟩,hv⟩
  ·rw[hv];rfl
  ·rw[hv];simp[orR]
 ·have hl':¬ ((p.Rules.length:Int)≤200):=by omega
  simp only[hl',decide_false,cond_false]
  simp[zv0,hl]
end Go.SX.Td
namespace Go.SX.Td
open Go Go.SX
theorem dec_digit (u:Nat):∀ c∈Lib.decDigits u,48≤c.toNat∧c.toNat≤57:=by
 induction u using Nat.strongRecOn with
 | _ u ih =>
  intro c hc
  rw[Lib.decDigits] at hc
  have one:∀ v,v<10→48≤(UInt8.ofNat (48+v)).toNat∧(UInt8.ofNat (48+v)).toNat≤57:=fun v hv=>by
   simp only[UInt8.toNat_ofNat'];omega
  split at hc
  ·rename_i h
   simp only[List.mem_singleton] at hc
   subst hc;exact one u h
  ·rename_i h
   rcases List.mem_append.1 hc with hc | hc
   ·exact ih (u / 10) (by omega) c hc
   ·simp only[List.mem_singleton] at hc
    subst hc;exact one _ (by omega)
def decVal (l:List UInt8):Nat:=l.foldl (fun a c=>a * 10+(c.toNat - 48)) 0
theorem xp0 (u:Nat):decVal (Lib.decDigits u)=u:=by
 induction u using Nat.strongRecOn with
 | _ u ih =>
  have one:∀ v,v<10→(UInt8.ofNat (48+v)).toNat - 48=v:=fun v hv=>by
   simp only[UInt8.toNat_ofNat'];omega
  rw[Lib.decDigits]
  split
  ·rename_i h
   simp only[decVal,List.foldl_cons,List.foldl_nil]
   rw[one u h];omega
  ·rename_i h
   have:=ih (u / 10) (by omega)
   unfold decVal at this ⊢
   rw[List.foldl_append,this]
   simp only[List.foldl_cons,List.foldl_nil]
   rw[one _ (by omega)];omega
theorem dec_ne (u:Nat):Lib.decDigits u≠[]:=by
 rw[Lib.decDigits];split<;>simp
theorem jm0 (n:Int):∀ c∈Lib.itoa n,c≠32∧c≠59∧c≠46:=by
 intro c hc
 have dig:∀ u,c∈Lib.decDigits u→c≠32∧c≠59∧c≠46:=fun u h=>by
  have:=dec_digit u c h
  refine⟨?_,?_,?_⟩<;>(intro e;subst e;revert this;decide)
 unfold Lib.itoa at hc
 split at hc
 ·rcases List.mem_cons.1 hc with rfl | hc
  ·decide
  ·exact dig _ hc
 ·exact dig _ hc
theorem bk0 {n m:Int}(h:Lib.itoa n=Lib.itoa m):n=m:=by
 have cross:∀ u v,(45:UInt8)::Lib.decDigits u≠Lib.decDigits v:=fun u v e=>by
  have:(45:UInt8)∈Lib.decDigits v:=by rw[← e];simp
  have:=dec_digit v _ this
  revert this;decide
 unfold Lib.itoa at h
 split at h<;>split at h
 ·injection h with _ h
  have:=congrArg decVal h
  rw[xp0,xp0] at this;omega
 ·exact(cross _ _ h).elim
 ·exact(cross _ _ h.symm).elim
 ·have:=congrArg decVal h
  rw[xp0,xp0] at this;omega
theorem itoa_ne (n:Int):Lib.itoa n≠[]:=by
 unfold Lib.itoa;split
 ·simp
 ·exact dec_ne _
theorem nj0 {s:UInt8}:∀ {a b x y:List UInt8},s ∉ a→s ∉ b→a++s::x=b++s::y→a=b∧x=y
 | [],[],_,_,_,_,h=>by simpa using h
 | [],b::bs,_,_,_,hb,h=>by
  simp only[List.nil_append,List.cons_append,List.cons.injEq] at h
  exact(hb (by simp[h.1])).elim
 | a::as_,[],_,_,ha,_,h=>by
  simp only[List.nil_append,List.cons_append,List.cons.injEq] at h
  exact(ha (by simp[h.1])).elim
 | a::as_,b::bs,x,y,ha,hb,h=>by
  simp only[List.cons_append,List.cons.injEq] at h
  obtain⟨rfl,h⟩:=h
  obtain⟨rfl,rfl⟩:=nj0 (fun e=>ha (List.mem_cons_of_mem _ e)) (fun e=>hb (List.mem_cons_of_mem _ e)) h
  exact⟨rfl,rfl⟩
theorem txtN_eq (n:Int)(l:List UInt8):txtN n++l=Lib.itoa n++32::l:=by simp[txtN]
theorem ue0 (n:Int)(l:List Int):dn0 (n::l)=txtN n++dn0 l:=by simp[dn0]
theorem txt1_inj : ∀ {l m:List Int}{x y:List UInt8},lt0 l++x=lt0 m++y→l=m∧x=y:=by
 have first:∀ (n:Int)(z x:List UInt8),Lib.itoa n++z≠59::x:=fun n z x e=>by
  cases hi:Lib.itoa n with
  | nil=>exact itoa_ne n hi
  | cons c t =>
   rw[hi] at e
   simp only[List.cons_append,List.cons.injEq] at e
   exact(jm0 n c (by rw[hi];simp)).2.1 e.1
 intro l
 induction l with
 | nil =>
  intro m x y h
  cases m with
  | nil=>simpa [lt0,dn0] using h
  | cons n m =>
   simp only[lt0,ue0,List.append_assoc,txtN_eq] at h
   exact(first n _ _ (by simpa [dn0] using h.symm)).elim
 | cons n l ih =>
  intro m x y h
  cases m with
  | nil =>
   simp only[lt0,ue0,List.append_assoc,txtN_eq] at h
   exact(first n _ _ (by simpa [dn0] using h)).elim
  | cons k m =>
   simp only[lt0,ue0,List.append_assoc,txtN_eq] at h
   obtain⟨h1,h2⟩:=nj0 (fun e=>(jm0 n _ e).1 rfl) (fun e=>(jm0 k _ e).1 rfl) h
   obtain⟨rfl,rfl⟩:=ih (m:=m) (x:=x) (y:=y) (by simpa [lt0] using h2)
   exact⟨by rw[bk0 h1],rfl⟩
theorem txtL_inj : ∀ {a b:List (List Int)},vj0 a=vj0 b→a=b
 | [],[],_=>rfl
 | [],l::b,h=>by have:=congrArg List.length h;simp[vj0,lt0] at this
 | l::a,[],h=>by have:=congrArg List.length h;simp[vj0,lt0] at this
 | l::a,m::b,h=>by
  have e:∀ (l:List Int)(a:List (List Int)),vj0 (l::a)=lt0 l++vj0 a:=fun l a=>by simp[vj0]
  rw[e,e] at h
  obtain⟨rfl,h2⟩:=txt1_inj h
  rw[txtL_inj h2]
def textOf (l:List (List Int)):ByteArray:=⟨(vj0 l).toArray⟩
theorem ls0 {a b:List (List Int)}(h:textOf a=textOf b):a=b:=by
 have:=congrArg (fun s:ByteArray=>s.data.toList) h
 simp only[textOf] at this
 exact txtL_inj (by simpa using this)
theorem text_eq {l:List (List Int)}(h:TextOk l):table_text_g l=some (textOf l):=by
 unfold table_text_g;rw[if_pos h];rfl
theorem textOkI {l:List (List Int)}(h1:∀ x∈l,x.length≤100000)(h2:l.length≤1000)(h3:∀ x∈l,∀ n∈x,IntOk n):TextOk l:=by
 refine⟨h3,?_⟩
 have hI:∀ (x:List Int),(∀ n∈x,IntOk n)→(dn0 x).length≤22 * x.length:=by
  intro x
  induction x with
  | nil=>intro _;simp[dn0]
  | cons n x ih =>
   intro h
   have h1:=ih fun n hn=>h n (List.mem_cons_of_mem _ hn)
   have h2:=Lib.itoa_length_le n (h n (by simp)).1 (h n (by simp)).2
   rw[ue0,List.length_append,txtN,List.length_append,List.length_singleton,List.length_cons]
   omega
 have hL:∀ (l:List (List Int)),(∀ x∈l,x.length≤100000)→(∀ x∈l,∀ n∈x,IntOk n)→(vj0 l).length≤2200001 * l.length:=by
  intro l
  induction l with
  | nil=>intro _ _;simp[vj0]
  | cons x l ih =>
   intro h k
   have h1:=ih (fun x hx=>h x (List.mem_cons_of_mem _ hx)) (fun x hx=>k x (List.mem_cons_of_mem _ hx))
   have h2:=hI x (k x (by simp))
   have h3:=h x (by simp)
   have e:vj0 (x::l)=lt0 x++vj0 l:=by simp[vj0]
   rw[e,List.length_append,lt0,List.length_append,List.length_singleton,List.length_cons]
   omega
 have:=hL l h1 h3
 omega
theorem textOk {l:List (List Int)}(h1:∀ x∈l,x.length≤100000)(h2:l.length≤1000)(h3:∀ x∈l,∀ n∈x,-1000000000000≤n∧n≤1000000000000):TextOk l :=
 textOkI h1 h2 fun x hx n hn=>by have:=h3 x hx n hn;exact⟨by omega,by omega⟩
end Go.SX.Td
