/- Parts of the proof. -/
import Derived.Test.YtllbabjgpdmblaaGreatDoorZTdP4
import Derived.Test.YtllbabjgpdmblaaGreatDoorZTdV1
import Derived.Test.YtllbabjgpdmblaaGreatDoorZTd49
import Derived.Test.YtllbabjgpdmblaaGreatDoorZTd32d
import Derived.Test.YtllbabjgpdmblaaGreatDoorZTdP2
set_option linter.unusedSimpArgs false
set_option linter.unusedVariables false
set_option linter.unusedSectionVars false
namespace Go.SX.Td
open Go Go.SX Tb
theorem Gu {α:Type}{xs:List α}{k:Nat}(h:k<xs.length):oL xs (k:Int)=some k:=by
 unfold oL;rw[if_pos (by omega)];simp
theorem jl1 {α:Type}[DecidableEq α]:∀ {l:List α}{x:α}{k:Nat},l[k]?=some x->(∀ (j:Nat) y,j<k->l[j]?=some y->y≠x)->idx l x=some k
 |[],x,k,h,_=>by simp at h
 |a::l,x,0,h,_=>by simp at h;subst h;simp[idx]
 |a::l,x,k+1,h,hn=>by
  have h0:=hn 0 a (by omega) rfl;simp only[List.getElem?_cons_succ] at h;simp only[idx,if_neg h0];rw[jl1 h fun j y hj hy=>hn (j+1) y (by omega) (by simpa using hy)];rfl
theorem fb1 {α:Type}[DecidableEq α](x d:α):∀ l:List α,idx (l++[x]) d=match idx l d with|some i=>some i|none=>if x=d then some l.length else none
 |[]=>by simp only[zN,idx];split<;>rfl
 |a::l=>by
  simp only[List.cons_append,idx,qZ];by_cases h:a=d
  ·simp only[if_pos h]
  ·simp only[if_neg h];rw[fb1 x d l]
   cases idx l d with
   |some i=>rfl
   |none=>by_cases h2:x=d<;>simp[h2]
section
variable (b:Bs Decision)
def kE : List Int:=b.made.map fun x=>(x.1.1:Int)
def jT : List (List Int):=b.made.map fun x=>ints x.1.2
def kD : List Int:=b.made.map fun x=>(x.2:Int)
abbrev VO := Int×List Node×List Decision×List Int×List (List Int)×List Int×Bool
def Dq (r:Bs Decision×Nat):VO:=((r.2:Int),kM r.1,r.1.tab.ls,kE r.1,jT r.1,kD r.1,false)
end
variable {b:Bs Decision}
theorem oc0 (rules:List Rule)(zs:Zs)(n:Nd)(hk:∀ M∈b.tab.ns,M.cuts.length<=2000000000/\M.kids.length<=2000000000)(hN:b.tab.ns.length<=20000)(hn:(addN b n).1.tab.ns.length<=20000) :
  NU rules zs (bD n) (kM b) b.tab.ls (kE b) (jT b) (kD b) false=some (Dq (addN b n)):=by
 have hlen:=Va (b:=b);have hs:∀ (k:Nat) M,(kM b)[k]?=some M->Ny (kM b) (bD n) b.tab.ls (kE b) (jT b) (kD b) false k=some (if decide (M=bD n) then .inr (.inr ((k:Int),kM b,b.tab.ls,kE b,jT b,kD b,false)) else .inl ((k+1:Nat):Int)):=fun k M hx=>by
  have hkl:=(qA.1 hx).1;have hlt:(k:Int)<(kM b).length:=by omega
  obtain⟨m,hm,rfl⟩:=zJ.1 (qL hx);have hq:=kn1 (bD m) (bD n) (hk m hm).1 (by show (ints m.kids).length<=_;rw[jg];exact(hk m hm).2);simp only[Ny,bV,dF,hlt,decide_true,cond_true,Gu hkl,hx,qC,hq,iD,gI (k:=k) (by omega)];by_cases h:bD m=bD n<;>simp[h]
 have he:Ny (kM b) (bD n) b.tab.ls (kE b) (jT b) (kD b) false ((kM b).length:Int)=some (.inr (.inl ())):=by
  have hlt:¬ (((kM b).length:Int)<(kM b).length):=by omega
  simp only[Ny,bV,dF,hlt,decide_false,cond_false]
 unfold NU;rcases Vp (step:=Ny (kM b) (bD n) b.tab.ls (kE b) (jT b) (kD b) false) (kM b) (fun M=>decide (M=bD n)) (fun k _=>.inr ((k:Int),kM b,b.tab.ls,kE b,jT b,kD b,false)) (.inl ()) hs he with ⟨k,M,h1,h2,h3,h4⟩|⟨h1,h2⟩
 ·have hM:=of_decide_eq_true h2;subst hM;have hi:idx b.tab.ns n=some k:=by
   have e:b.tab.ns[k]?=some n:=by
    unfold kM at h1;rw[qF] at h1;obtain⟨m,hm,e⟩:=Option.map_eq_some_iff.1 h1;rw[Yl e] at hm;exact hm
   refine jl1 e fun j y hj hy e2=>?_
   have:=h3 j (bD y) hj (by unfold kM;rw[qF,hy];rfl);rw[e2] at this;simp at this
  have ha:addN b n=(b,k):=by unfold addN;rw[hi]
  rw[h4,ha];rfl
 ·have hi:idx b.tab.ns n=none:=Y2 fun hm=>by
   have:=h1 (bD n) (zJ.2 ⟨n,hm,rfl⟩);simp at this
  have ha:addN b n=({ b with tab:={ b.tab with ns:=b.tab.ns++[n] } },b.tab.ns.length):=by unfold addN;rw[hi]
  rw[ha] at hn ⊢;simp only[qN,zF] at hn;have hap:appG (kM b) [bD n]=some (kM b++[bD n]):=rU (by rw[Va];simp;omega);have hw:io.ar .sub .i64 (((kM b++[bD n]).length:Nat):Int) 1=(b.tab.ns.length:Int):=by
   rw[Kw,qN,Va,zF,wE (by omega) (by omega)];omega
  have h20:¬ ((20000:Int)<((kM b++[bD n]).length:Nat)):=by
   rw[qN,Va,zF];omega
  rw[h2];simp only[gu,qC,hap,cond_false,bV,dF,qJ h20,hw];simp only[Dq,kM,List.map_append,zC,List.map_nil,kE,jT,kD]
def JW : Option Nat->Int
 |some i=>i
 |none=>-1
theorem sz1 (ls:List Decision)(d:Decision)(hd:ls.Nodup)(hl:ls.length<=1000000):dw (O4 ls d) (-1,0)=some (JW (idx ls d)):=by
 obtain⟨r,h1,rfl⟩:=sU (step:=O4 ls d) (fun (s:Int) i=>(s,i)) ls.length (fun k s=>s=JW (idx (ls.take k) d)) (fun r=>r=JW (idx ls d)) (fun k s hk hI=>by
  subst hI;have hx:ls[k]?=some ls[k]:=by simp[hk]
  have hlt:(k:Int)<ls.length:=by omega
  refine .inl ⟨JW (idx (ls.take (k+1)) d),?_,rfl⟩;rw[qW,hx,zD,fb1];generalize hxx:ls[k]=x at hx;simp only[O4,bV,dF,hlt,decide_true,cond_true,Gu hk,hx,qC,dm0,iD,gI (k:=k) (by omega)];by_cases h:x=d
  ·have hno:idx (ls.take k) d=none:=Y2 fun hm=>by
    obtain⟨j,hj,e⟩:=List.mem_take_iff_getElem.1 hm;have:=Vw hd (by omega) hk (e.trans (h.symm.trans hxx.symm));omega
   have hlk:(ls.take k).length=k:=by rw[qU];omega
   simp only[hno,h,decide_true,cond_true,if_true,hlk,JW];rfl
  ·cases hi:idx (ls.take k) d with
   |some i=>simp[h]
   |none=>simp[h]) (fun s hI=>by
  rw[zG] at hI;subst hI;have hlt:¬ ((ls.length:Int)<ls.length):=by omega
  exact⟨_,by simp only[O4,bV,dF,hlt,decide_false,cond_false],rfl⟩) (-1) (by simp[idx,JW])
 exact h1
theorem eu1 (rules:List Rule)(zs:Zs)(d:Decision)(hd:b.tab.ls.Nodup)(hl:b.tab.ls.length<=20000)(hk:∀ M∈b.tab.ns,M.cuts.length<=2000000000/\M.kids.length<=2000000000)(hN:b.tab.ns.length<=20000)(hn:(xK b d).1.tab.ns.length<=20000) :
  VI rules zs d (kM b) b.tab.ls (kE b) (jT b) (kD b) false=some (Dq (xK b d)):=by
 unfold VI;rw[sz1 _ d hd (by omega)]
 cases hi:idx b.tab.ls d with
 |some i =>
  have e:xK b d=addN b ⟨0,[],[],i⟩:=by simp only[xK,hi]
  rw[e] at hn ⊢;have h0:¬ ((i:Int)<0):=by omega
  have hw:=oc0 rules zs (b:=b) ⟨0,[],[],i⟩ hk hN hn;have he:(Node.mk 0 [] [] (i:Int))=bD ⟨0,[],[],i⟩:=rfl;simp only[JW,qC,bV,qJ h0,cond_false,he,hw]
 |none =>
  have e:xK b d=addN { b with tab:={ b.tab with ls:=b.tab.ls++[d] } } ⟨0,[],[],b.tab.ls.length⟩:=by simp only[xK,hi]
  rw[e] at hn ⊢;have h0:((-1:Int)<0):=by omega
  have hap:appG b.tab.ls [d]=some (b.tab.ls++[d]):=rU (by simp;omega);have hw:=oc0 rules zs (b:={ b with tab:={ b.tab with ls:=b.tab.ls++[d] } }) ⟨0,[],[],b.tab.ls.length⟩ hk hN hn;have he:(Node.mk 0 [] [] (b.tab.ls.length:Int))=bD ⟨0,[],[],b.tab.ls.length⟩:=rfl;have hw':NU rules zs (bD ⟨0,[],[],b.tab.ls.length⟩) (kM b) (b.tab.ls++[d]) (kE b) (jT b) (kD b) false=_:=hw;simp only[JW,qC,bV,qM h0,cond_true,hap,dF,he,hw']
theorem rp0 : ∀ {l m:List Int},l.Pairwise (·<·)->m.Pairwise (·<·)->(∀ x,x∈l↔x∈m)->l=m
 |[],[],_,_,_=>rfl
 |[],y::m,_,_,h=>absurd ((h y).2 (by simp)) (by simp)
 |x::l,[],_,_,h=>absurd ((h x).1 (by simp)) (by simp)
 |x::l,y::m,hl,hm,h=>by
  rw[List.pairwise_cons] at hl hm;have hxy:x=y:=by
   rcases List.mem_cons.1 ((h x).1 (by simp)) with e|e
   ·exact e
   ·rcases List.mem_cons.1 ((h y).2 (by simp)) with e'|e'
    ·exact e'.symm
    ·have:=hm.1 x e;have:=hl.1 y e';omega
  subst hxy;rw[rp0 hl.2 hm.2 fun z=>⟨fun hz=>?_,fun hz=>?_⟩]
  ·rcases List.mem_cons.1 ((h z).1 (zB _ hz)) with e|e
   ·have:=hl.1 z hz;omega
   ·exact e
  ·rcases List.mem_cons.1 ((h z).2 (zB _ hz)) with e|e
   ·have:=hm.1 z hz;omega
   ·exact e
theorem oy1 (l:List Int)(n:Int)(hl:l.length<=1000000):∃ k:Nat,dw (OE l n) 0=some (k:Int)/\k<=l.length/\(∀ y∈l.take k,y<n)/\∀ y,l[k]?=some y->n<=y:=by
 obtain⟨r,h1,k,rfl,h2⟩:=sU (step:=OE l n) (fun (_:Unit) i=>i) l.length (fun k _=>∀ y∈l.take k,y<n)
  (fun r=>∃ k:Nat,r=(k:Int)/\k<=l.length/\(∀ y∈l.take k,y<n)/\∀ y,l[k]?=some y->n<=y) (fun k _ hk hI=>by
   have hx:l[k]?=some l[k]:=by simp[hk]
   generalize l[k]=x at hx;have hlt:(k:Int)<l.length:=by omega
   simp only[OE,bV,dF,hlt,decide_true,cond_true,fB hx,qC,iD,gI (k:=k) (by omega)];by_cases h:x<n
   ·refine .inl ⟨(),by rw[qM h];rfl,fun y hy=>?_⟩;rw[qW,hx,zD] at hy;rcases qO.1 hy with hy|hy
    ·exact hI y hy
    ·rw[zE.1 hy];exact h
   ·exact .inr ⟨(k:Int),by rw[qJ h];rfl,k,rfl,by omega,hI,fun y hy=>by rw[hx] at hy;cases hy;omega⟩) (fun _ hI=>by
   have hlt:¬ ((l.length:Int)<l.length):=by omega
   exact⟨(l.length:Int),by simp only[OE,bV,dF,hlt,decide_false,qC,cond_false],l.length,rfl,qR _,hI,fun y hy=>by rw[qT (qR _)] at hy;cases hy⟩) () (by simp)
 exact⟨k,h1,h2⟩
theorem put_eq (l:List Int)(n:Int)(lim:Range)(hl:l.length<=1000000)(hs:l.Pairwise (·<·)) :
  ∃ l',Ov l n lim=some l'/\l'.Pairwise (·<·)/\l'.length<=l.length+1/\∀ x,x∈l'↔x∈l\/(x=n/\lim.Lo<n/\n<=lim.Hi):=by
 unfold Ov;simp only[Ws l n (by omega),nY,bV,qC];by_cases h1:n<=lim.Lo
 ·refine⟨l,by simp[h1],hs,by omega,fun x=>⟨.inl,fun h=>h.elim id fun e=>by omega⟩⟩
 ·by_cases h2:lim.Hi<n
  ·refine⟨l,by simp[h1,h2],hs,by omega,fun x=>⟨.inl,fun h=>h.elim id fun e=>by omega⟩⟩
  ·by_cases h3:n∈l
   ·refine⟨l,by simp[h1,h2,h3],hs,by omega,fun x=>⟨.inl,fun h=>h.elim id fun e=>by rw[e.1];exact h3⟩⟩
   ·obtain⟨k,k1,k2,k3,k4⟩:=oy1 l n hl;have Uh:BF l 0 (k:Int)=some (l.take k):=by unfold BF;rw[if_pos (by omega)];simp
    have hsub2:BF l (k:Int) (l.length:Int)=some (l.drop k):=by unfold BF;rw[if_pos (by omega)];simp
    have ha1:appG ([]:List Int) (l.take k)=some (l.take k):=by rw[rU (by simp;omega)];rfl
    have ha2:appG (l.take k) [n]=some (l.take k++[n]):=rU (by simp;omega);have ha3:appG (l.take k++[n]) (l.drop k)=some (l.take k++[n]++l.drop k):=rU (by simp;omega);refine⟨l.take k++[n]++l.drop k,?_,?_,?_,fun x=>?_⟩
    ·simp only[h1,h2,h3,decide_false,cond_false,qC,k1,Uh,ha1,ha2,dF,hsub2,ha3]
    ·have hd:∀ y∈l.drop k,n<y:=fun y hy=>by
      have hle:n<=y:=by
       obtain⟨j,hj⟩:=List.getElem?_of_mem hy;rw[List.getElem?_drop] at hj;have hjl:=(qA.1 hj).1;obtain⟨z,hz⟩:∃ z,l[k]?=some z:=⟨_,qD (by omega)⟩;have:=k4 z hz;by_cases h0:j=0
       ·subst h0;rw[Nat.add_zero,hz] at hj;cases hj;exact this
       ·have h5:=List.pairwise_iff_getElem.1 hs k (k+j) (by omega) hjl (by omega);rw[(qA.1 hj).2,(qA.1 hz).2] at h5;omega
      rcases Int.lt_or_eq_of_le hle with h|h
      ·exact h
      ·exact absurd (h▸List.mem_of_mem_drop hy) h3
     rw[List.append_assoc,List.pairwise_append];refine⟨hs.sublist (List.take_sublist _ _),?_,fun a ha b hb=>?_⟩
     ·rw[List.singleton_append,List.pairwise_cons];exact⟨hd,hs.sublist (List.drop_sublist _ _)⟩
     ·have:=k3 a ha;rw[List.singleton_append] at hb;rcases List.mem_cons.1 hb with rfl|hb
      ·exact this
      ·have:=hd b hb;omega
    ·simp;omega
    ·rw[List.append_assoc,List.singleton_append,qO,List.mem_cons]
     constructor
     ·rintro (h|rfl|h)
      ·exact .inl (List.mem_of_mem_take h)
      ·exact .inr ⟨rfl,by omega,by omega⟩
      ·exact .inl (List.mem_of_mem_drop h)
     ·rintro (h|h)
      ·rw[<- List.take_append_drop k l] at h;rcases qO.1 h with h|h
       ·exact .inl h
       ·exact .inr (.inr h)
      ·exact .inr (.inl h.1)
theorem iq1 (rules:List Rule){zs:Zs}(hz:YC zs){a:Nat}(ha:a<10){live:List Nat}(hl:∀ z∈live,z<zs.length)(hn:live.length<=1000)(ns:List Node)(ls:List Decision)(x1:List Int)(x2:List (List Int))(x3:List Int)(x4:Bool) :
  ∃ l,VG rules zs (a:Int) (ints live) ns ls x1 x2 x3 x4=some l/\starts zs a live=bn.lo a::l:=by
 have e3:bn.lo a=(dW.get a).Lo:=rfl;have e4:bn.hi a=(dW.get a).Hi:=rfl;obtain⟨l,h1,s1,s2,s3⟩:=sU (step:=RI (ints live) zs (a:Int) (dW.get a).Lo (dW.get a).Hi) (fun (s:List Int) i=>(s,i)) live.length
  (fun k s=>s.Pairwise (·<·)/\s.length<=2 * k/\∀ x,x∈s↔∃ z∈live.take k,(x=kL zs z a\/x=jQ zs z a+1)/\bn.lo a<x/\x<=bn.hi a)
  (fun s=>s.Pairwise (·<·)/\s.length<=2 * live.length/\∀ x,x∈s↔∃ z∈live,(x=kL zs z a\/x=jQ zs z a+1)/\bn.lo a<x/\x<=bn.hi a) (fun k s hk hI=>by
   obtain⟨i1,i2,i3⟩:=hI;have hx:live[k]?=some live[k]:=by simp[hk]
   generalize live[k]=i at hx;have hil:=hl i (qL hx);have hlt:(k:Int)<(ints live).length:=by rw[jg];omega
   have hz1:zs[i]?=some zs[i]:=by simp[hil]
   have hv:=hz.get hil ha;have e1:(zs[i].get a).Lo=kL zs i a:=by simp[kL,hil]
   have e2:(zs[i].get a).Hi=jQ zs i a:=by simp[jQ,hil]
   have hw:IntKind.i64.wrap (jQ zs i a+1)=jQ zs i a+1:=wE (by omega) (by omega);obtain⟨s',p1,p2,p3,p4⟩:=put_eq s (kL zs i a) (Range.mk (dW.get a).Lo (dW.get a).Hi) (by omega) i1;obtain⟨s2,q1,q2,q3,q4⟩:=put_eq s' (jQ zs i a+1) (Range.mk (dW.get a).Lo (dW.get a).Hi) (by omega) p2;refine .inl ⟨s2,?_,q2,by omega,fun x=>?_⟩
   ·simp only[RI,bV,dF,hlt,decide_true,cond_true,fB (Ar hx),fB hz1,wS ha,qC,e1,e2,p1,iD,hw,q1,gI (k:=k) (by omega)]
   ·rw[q4,p4,i3,qW,hx,zD];simp only[e3,e4]
    constructor
    ·rintro ((⟨z,hz,h⟩|⟨rfl,h⟩)|⟨rfl,h⟩)
     ·exact⟨z,List.mem_append_left _ hz,h⟩
     ·exact⟨i,by simp,.inl rfl,h⟩
     ·exact⟨i,by simp,.inr rfl,h⟩
    ·rintro ⟨z,hz,h1,h2⟩;rcases qO.1 hz with hz|hz
     ·exact .inl (.inl ⟨z,hz,h1,h2⟩)
     ·rw[zE] at hz;subst hz;rcases h1 with h1|h1
      ·exact .inl (.inr ⟨h1,h1▸h2⟩)
      ·exact .inr ⟨h1,h1▸h2⟩) (fun s hI=>by
   rw[zG] at hI;have hlt:¬ ((live.length:Int)<(ints live).length):=by rw[jg];omega
   exact⟨s,by simp only[RI,bV,dF,hlt,decide_false,cond_false],hI⟩) [] (by simp)
 refine⟨l,?_,?_⟩
 ·unfold VG;have hlz:(Bo:Option (aF Range))=some dW:=LY;simp only[hlz,qC,wS ha,h1]
 ·refine rp0 (pe0 zs a live) ?_ fun x=>?_
  ·rw[List.pairwise_cons];exact⟨fun y hy=>by obtain⟨_,_,_,h,_⟩:=(s3 y).1 hy;exact h,s1⟩
  ·rw[mm0,List.mem_cons,s3]
end Go.SX.Td
namespace Go.SX.Td
open Go Go.SX Tb
theorem te1 (s l:List Int)(i:Nat)(v:Int)(hv:l[i]?=some v)(hs:s.length<=1000000) :
  ∃ k:Nat,dw (Ol s l (i:Int)) (s.length:Int)=some (k:Int)/\k<=s.length/\(∀ j y,k<=j->s[j]?=some y->v<y)/\∀ y,0<k->s[k - 1]?=some y->y<=v:=by
 have key:∀ d:Nat,d<=s.length->(∀ j y,d<=j->s[j]?=some y->v<y)->∃ k:Nat,dw (Ol s l (i:Int)) (d:Int)=some (k:Int)/\k<=s.length/\(∀ j y,k<=j->s[j]?=some y->v<y)/\∀ y,0<k->s[k - 1]?=some y->y<=v:=by
  intro d
  induction d with
  |zero =>
   intro _ h;refine⟨0,?_,Nat.zero_le _,h,fun y h0=>absurd h0 (Nat.lt_irrefl 0)⟩;rw[xM];have h0:¬ ((0:Int)<((0:Nat):Int)):=by omega
   simp only[Ol,bV,qJ h0,cond_false,qC]
  |succ d ih =>
   intro hd h;have hx:s[d]?=some s[d]:=by simp
   generalize s[d]=y at hx;have h0:(0:Int)<((d+1:Nat):Int):=by omega
   have hsub:io.ar .sub .i64 ((d+1:Nat):Int) 1=(d:Int):=by rw[Kw,wE (by omega) (by omega)];omega
   rw[xM];simp only[Ol,bV,qM h0,cond_true,hsub,fB hx,qC,fB hv];by_cases hlt:v<y
   ·rw[qM hlt];refine ih (by omega) fun j z hj hz=>?_
    rcases Nat.lt_or_eq_of_le hj with h1|h1
    ·exact h j z h1 hz
    ·subst h1;rw[hx] at hz;cases hz;exact hlt
   ·rw[qJ hlt];exact⟨d+1,rfl,hd,h,fun z _ hz=>by rw[Nat.add_sub_cancel,hx] at hz;cases hz;omega⟩
 exact key s.length (qR _) fun j y hj hy=>by
  have:=(qA.1 hy).1;omega
theorem mi1 (l:List Int)(hl:l.length<=1000000):∃ l',KJ l=some l'/\l'.Pairwise (·<=·)/\l'.length=l.length/\∀ x,x∈l'↔x∈l:=by
 obtain⟨l',h1,h2,h3,h4⟩:=sU (step:=TM l) (fun (s:List Int) i=>(s,i)) l.length (fun k s=>s.Pairwise (·<=·)/\s.length=k/\∀ x,x∈s↔x∈l.take k)
  (fun s=>s.Pairwise (·<=·)/\s.length=l.length/\∀ x,x∈s↔x∈l) (fun k s hk hI=>by
   obtain⟨i1,i2,i3⟩:=hI;have hx:l[k]?=some l[k]:=by simp[hk]
   generalize l[k]=v at hx;have hlt:(k:Int)<l.length:=by omega
   obtain⟨q,q1,q2,q3,q4⟩:=te1 s l k v hx (by omega);have s1:BF s (q:Int) (s.length:Int)=some (s.drop q):=by unfold BF;rw[if_pos (by omega)];simp
   have s2:BF s 0 (q:Int)=some (s.take q):=by unfold BF;rw[if_pos (by omega)];simp
   have a1:appG [v] (s.drop q)=some (v::s.drop q):=rU (by simp;omega);have a2:appG ([]:List Int) (s.take q)=some (s.take q):=by rw[rU (by simp;omega)];rfl
   have a3:appG (s.take q) (v::s.drop q)=some (s.take q++v::s.drop q):=rU (by simp;omega);refine .inl ⟨s.take q++v::s.drop q,?_,?_,by simp;omega,fun x=>?_⟩
   ·simp only[TM,bV,dF,hlt,decide_true,cond_true,q1,qC,fB hx,s1,a1,s2,a2,a3,iD,gI (k:=k) (by omega)]
   ·rw[List.pairwise_append];refine⟨i1.sublist (List.take_sublist _ _),?_,fun a ha b hb=>?_⟩
    ·rw[List.pairwise_cons];refine⟨fun y hy=>?_,i1.sublist (List.drop_sublist _ _)⟩;obtain⟨j,hj⟩:=List.getElem?_of_mem hy;rw[List.getElem?_drop] at hj;have:=q3 (q+j) y (by omega) hj;omega
    ·have hav:a<=v:=by
      obtain⟨j,hj,rfl⟩:=List.mem_take_iff_getElem.1 ha;have h1:s[q - 1]?=some (s[q - 1]'(by omega)):=qD _;have h2:=q4 _ (by omega) h1;rcases Nat.lt_or_eq_of_le (show j<=q - 1 by omega) with h|h
      ·have:=List.pairwise_iff_getElem.1 i1 j (q - 1) (by omega) (by omega) h;omega
      ·subst h;exact h2
     rcases List.mem_cons.1 hb with rfl|hb
     ·exact hav
     ·obtain⟨j,hj⟩:=List.getElem?_of_mem hb;rw[List.getElem?_drop] at hj;have:=q3 (q+j) b (by omega) hj;omega
   ·rw[qW,hx,zD,qO,qO,<- i3,List.mem_cons,zE];have e:x∈s↔x∈s.take q\/x∈s.drop q:=by rw[<- qO,List.take_append_drop]
    rw[e]
    constructor
    ·rintro (h|rfl|h)
     ·exact .inl (.inl h)
     ·exact .inr rfl
     ·exact .inl (.inr h)
    ·rintro ((h|h)|rfl)
     ·exact .inl h
     ·exact .inr (.inr h)
     ·exact .inr (.inl rfl)) (fun s hI=>by
   rw[zG] at hI;have hlt:¬ ((l.length:Int)<l.length):=by omega
   exact⟨s,by simp only[TM,bV,dF,hlt,decide_false,cond_false],hI⟩) [] (by simp)
 exact⟨l',by unfold KJ;rw[h1];rfl,h2,h3,h4⟩
noncomputable def mo1 (l:List Int):List Int:=(KJ l).getD []
abbrev Gr := List (List Bool)
def grd (g:Gr)(x y:Nat):Bool:=((g[x]?.getD [])[y]?).getD false
def DY (g:Gr)(x y:Nat)(b:Bool):Gr:=g.set x ((g[x]?.getD []).set y b)
structure Qz (N M:Nat)(g:Gr):Prop where
 len:g.length=N
 row:∀ r∈g,r.length=M
theorem Qz.set {N M:Nat}{g:Gr}(h:Qz N M g){x y:Nat}(hx:x<N)(b:Bool):Qz N M (DY g x y b):=by
 refine⟨by rw[DY,List.length_set,h.len],fun r hr=>?_⟩;rcases List.mem_or_eq_of_mem_set hr with hr|rfl
 ·exact h.row r hr
 ·rw[List.length_set];have hg:g[x]?=some (g[x]'(by rw[h.len];exact hx)):=qD _;rw[hg,Option.getD_some];exact h.row _ (zA _)
theorem VZ {N M:Nat}{g:Gr}(h:Qz N M g){x y:Nat}(hx:x<N)(hy:y<M)(b:Bool)(u v:Nat):grd (DY g x y b) u v=if u=x/\v=y then b else grd g u v:=by
 have hg:g[x]?=some (g[x]'(by rw[h.len];exact hx)):=qD _;have hr:=h.row (g[x]'(by rw[h.len];exact hx)) (zA _);unfold grd DY;rw[hg,Option.getD_some];by_cases hu:u=x
 ·subst hu;rw[List.getElem?_set_self (by rw[h.len];exact hx),hg,Option.getD_some,Option.getD_some];by_cases hv:v=y
  ·subst hv;rw[List.getElem?_set_self (by rw[hr];exact hy)];simp
  ·rw[List.getElem?_set_ne (fun e=>hv e.symm)];simp[hv]
 ·rw[List.getElem?_set_ne (fun e=>hu e.symm)];simp[hu]
def Ai (rec:Nat->Nat->aF Int->Gr->aF Int×Bool×Gr)(A B:Tab Decision)(k x y:Nat)(f:aF Int):List Int->Gr->aF Int×Bool×Gr
 |[],g=>(f,false,g)
 |v::l,g=>if (rec (fG A k x v) (fG B k y v) (f.put k v) g).2.1=true then rec (fG A k x v) (fG B k y v) (f.put k v) g else Ai rec A B k x y f l (rec (fG A k x v) (fG B k y v) (f.put k v) g).2.2
noncomputable def lvals (A B:Tab Decision)(x y:Nat):List Int :=
 mo1 ((bn.lo (min (aT (A.nd x)) (aT (B.nd y)))::if aT (A.nd x)=min (aT (A.nd x)) (aT (B.nd y)) then (A.nd x).cuts else [])++if aT (B.nd y)=min (aT (A.nd x)) (aT (B.nd y)) then (B.nd y).cuts else [])
open Classical in
noncomputable def oM (A B:Tab Decision):Nat->Nat->Nat->aF Int->Gr->aF Int×Bool×Gr
 |0,_,_,f,g=>(f,false,g)
 |n+1,x,y,f,g =>
  if grd g x y=true then (f,false,g)
  else if min (aT (A.nd x)) (aT (B.nd y))=10 then
   (f,!decide (A.ls.getD (A.nd x).leaf default=B.ls.getD (B.nd y).leaf default),DY g x y (decide (A.ls.getD (A.nd x).leaf default=B.ls.getD (B.nd y).leaf default)))
  else if (Ai (oM A B n) A B (min (aT (A.nd x)) (aT (B.nd y))) x y f (lvals A B x y) g).2.1=true then Ai (oM A B n) A B (min (aT (A.nd x)) (aT (B.nd y))) x y f (lvals A B x y) g
  else (f,false,DY (Ai (oM A B n) A B (min (aT (A.nd x)) (aT (B.nd y))) x y f (lvals A B x y) g).2.2 x y true)
section
variable {A B:Tab Decision}
def FM (A B:Tab Decision)(x y:Nat)(g:Fa):Prop:=A.val g x≠B.val g y
def KL (A B:Tab Decision)(x y:Nat):Prop:=∀ f:Fa,KD bn 0 f->¬ FM A B x y f
structure Dv (A B:Tab Decision)(a x y:Nat)(facts g:Fa):Prop where
 pre:∀ j,j<a->g j=facts j
 win:KD bn a g
 dif:FM A B x y g
 least:∀ f,KD bn 0 f->Lx a f g->¬ FM A B x y f
theorem Dv.lift {a k x y:Nat}{facts g:Fa}(h:Dv A B k x y facts g)(hak:a<=k)(hlo:∀ j,a<=j->j<10->facts j=bn.lo j):Dv A B a x y facts g where
 pre j hj:=h.pre j (by omega)
 win j h1 h2:=by
  by_cases hj:j<k
  ·rw[h.pre j hj,hlo j h1 h2];exact⟨Int.le_refl _,FK j⟩
  ·exact h.win j (by omega) h2
 dif:=h.dif
 least f hw hl:=by
  obtain⟨n,h1,h2,h3,h4⟩:=hl;by_cases hn:n<k
  ·rw[h.pre n hn,hlo n h1 h2] at h4;have:=(hw n (Nat.zero_le _) h2).1;omega
  ·exact h.least f hw ⟨n,by omega,h2,fun j j1 j2=>h3 j (by omega) j2,h4⟩
theorem bl1 (hA:A.Ok bn){k x:Nat}(hx:x<A.ns.length)(g:Fa):A.val g x=A.val g (fG A k x (g k)):=mz1 hA hx g
theorem ge1 (hA:A.Ok bn){k x:Nat}(hx:x<A.ns.length){c v:Int}(hcv:c<=v)(hg:aT (A.nd x)=k->∀ d∈(A.nd x).cuts,d<=v->d<=c):fG A k x c=fG A k x v:=by
 unfold fG;split
 ·rename_i hk;rw[Zt hcv (hg (by unfold aT;rw[if_neg hk.1,hk.2]))]
 ·rfl
theorem la1 (hA:A.Ok bn)(hB:B.Ok bn){x y:Nat}(hx:x<A.ns.length)(hy:y<B.ns.length)(cA:(A.nd x).cuts.length<=100000)(cB:(B.nd y).cuts.length<=100000) :
  KJ ((bn.lo (min (aT (A.nd x)) (aT (B.nd y)))::if aT (A.nd x)=min (aT (A.nd x)) (aT (B.nd y)) then (A.nd x).cuts else [])++if aT (B.nd y)=min (aT (A.nd x)) (aT (B.nd y)) then (B.nd y).cuts else [])=some (lvals A B x y) /\
  (lvals A B x y).length<=1000000/\(lvals A B x y).Pairwise (·<=·)/\∀ c,c∈lvals A B x y↔c=bn.lo (min (aT (A.nd x)) (aT (B.nd y)))\/(aT (A.nd x)=min (aT (A.nd x)) (aT (B.nd y))/\c∈(A.nd x).cuts)\/(aT (B.nd y)=min (aT (A.nd x)) (aT (B.nd y))/\c∈(B.nd y).cuts):=by
 unfold lvals mo1;generalize min (aT (A.nd x)) (aT (B.nd y))=k;obtain⟨l',h1,h2,h3,h4⟩:=mi1 ((bn.lo k::if aT (A.nd x)=k then (A.nd x).cuts else [])++if aT (B.nd y)=k then (B.nd y).cuts else []) (by
  rw[qN,qZ];split<;>split<;>(try simp only[List.length_nil])<;>omega)
 rw[h1];refine⟨rfl,?_,h2,fun c=>?_⟩
 ·rw[Option.getD_some,h3,qN,qZ];split<;>split<;>(try simp only[List.length_nil])<;>omega
 ·rw[Option.getD_some,h4,qO,List.mem_cons];by_cases e1:aT (A.nd x)=k<;>by_cases e2:aT (B.nd y)=k<;>simp[e1,e2,or_assoc]
def GInv (A B:Tab Decision)(g:Gr):Prop:=Qz A.ns.length B.ns.length g/\∀ x y,x<A.ns.length->y<B.ns.length->grd g x y=true->KL A B x y
structure LRes (A B:Tab Decision)(k x y:Nat)(f:aF Int)(r:aF Int×Bool×Gr):Prop where
 inv:GInv A B r.2.2
 no:r.2.1=false->r.1=f/\KL A B x y
 yes:r.2.1=true->Dv A B k x y (fF f) (fF r.1)
theorem kg1 {l:List Int}{v lo:Int}(hlo:lo∈l)(h1:lo<=v):∃ c∈l,c<=v/\∀ c'∈l,c'<=v->c'<=c:=by
 obtain⟨m,k1,k2⟩:=le_max (l.filter fun c=>decide (c<=v)) (by
  intro h;have:lo∈l.filter fun c=>decide (c<=v):=List.mem_filter.2 ⟨hlo,by simpa using h1⟩
  rw[h] at this;simp at this)
 obtain⟨k3,k4⟩:=List.mem_filter.1 k1;exact⟨m,k3,by simpa using k4,fun c' h2 h3=>k2 c' (List.mem_filter.2 ⟨h2,by simpa using h3⟩)⟩
theorem yj2 (hA:A.Ok bn)(hB:B.Ok bn)(bA:∀ n∈A.ns,Bd n)(bB:∀ n∈B.ns,Bd n):∀ (n a x y:Nat)(f:aF Int)(g:Gr),x<A.ns.length->y<B.ns.length->a<=min (aT (A.nd x)) (aT (B.nd y))->10<n+min (aT (A.nd x)) (aT (B.nd y)) ->
  (∀ j,a<=j->j<10->fF f j=bn.lo j)->GInv A B g->LRes A B a x y f (oM A B n x y f g)
 |0,a,x,y,f,g,hx,hy,hak,hn,_,_=>by have:=xG hA hx;omega
 |n+1,a,x,y,f,g,hx,hy,hak,hn,hlo,hg=>by
  have hax:A.nd x∈A.ns:=by unfold Tab.nd;rw[qI,qD hx];exact zA _
  have hby:B.nd y∈B.ns:=by unfold Tab.nd;rw[qI,qD hy];exact zA _
  simp only[oM];by_cases hd:grd g x y=true
  ·rw[if_pos hd];exact⟨hg,fun _=>⟨rfl,hg.2 x y hx hy hd⟩,fun h=>by cases h⟩
  ·rw[if_neg hd];have Ah:∀ {g':Gr}(b:Bool),GInv A B g'->(b=true->KL A B x y)->GInv A B (DY g' x y b):=fun {g'} b h hb=>by
    refine⟨h.1.set hx b,fun u v hu hv huv=>?_⟩;rw[VZ h.1 hx hy b] at huv;split at huv
    ·rename_i e;obtain⟨rfl,rfl⟩:=e;exact hb huv
    ·exact h.2 u v hu hv huv
   by_cases h10:min (aT (A.nd x)) (aT (B.nd y))=10
   ·rw[if_pos h10];have kx:=OQ hA hx (by omega);have ky:=OQ hB hy (by omega);have UJ:∀ f:Fa,FM A B x y f↔A.ls.getD (A.nd x).leaf default≠B.ls.getD (B.nd y).leaf default:=fun f=>by unfold FM;rw[Ko kx,Ko ky]
    by_cases he:A.ls.getD (A.nd x).leaf default=B.ls.getD (B.nd y).leaf default
    ·have hq:KL A B x y:=fun f _ h=>(UJ f).1 h he
     rw[qM he];exact⟨Ah true hg fun _=>hq,fun _=>⟨rfl,hq⟩,fun h=>by cases h⟩
    ·rw[qJ he];refine⟨Ah false hg (fun h=>by cases h),fun h=>(by cases h),fun _=>?_⟩;refine Dv.lift (k:=10) ⟨fun _ _=>rfl,fun j h1 h2=>by omega,(UJ _).2 he,fun f _ hl=>?_⟩ (by omega) hlo;obtain⟨m,h1,h2,_⟩:=hl;omega
   ·rw[if_neg h10];have hk10:min (aT (A.nd x)) (aT (B.nd y))<10:=by have:=xG hA hx;omega
    obtain⟨-,-,v2,v3⟩:=la1 hA hB hx hy (bA _ hax).cuts (bB _ hby).cuts;have hkA:min (aT (A.nd x)) (aT (B.nd y))<=aT (A.nd x):=Nat.min_le_left _ _;have hkB:min (aT (A.nd x)) (aT (B.nd y))<=aT (B.nd y):=Nat.min_le_right _ _;have Zd:∀ c∈lvals A B x y,bn.lo (min (aT (A.nd x)) (aT (B.nd y)))<=c/\c<=bn.hi (min (aT (A.nd x)) (aT (B.nd y))):=fun c hc=>by
     have lh:=FK (min (aT (A.nd x)) (aT (B.nd y)));rcases (v3 c).1 hc with h|⟨e,h⟩|⟨e,h⟩
     ·omega
     ·have hkn:(A.nd x).kids≠[]:=fun h0=>by rw[((hA.fine x hx).leaf h0).1] at h;cases h
      have h5:=((hA.fine x hx).inner hkn).2.2.2.2;have e2:aT (A.nd x)=(A.nd x).attr:=by unfold aT;rw[if_neg hkn]
      rw[<- e2,e] at h5;have:=Wh h5 h;omega
     ·have hkn:(B.nd y).kids≠[]:=fun h0=>by rw[((hB.fine y hy).leaf h0).1] at h;cases h
      have h5:=((hB.fine y hy).inner hkn).2.2.2.2;have e2:aT (B.nd y)=(B.nd y).attr:=by unfold aT;rw[if_neg hkn]
      rw[<- e2,e] at h5;have:=Wh h5 h;omega
    have IQ:∀ c v,c<=v->(∀ c'∈lvals A B x y,c'<=v->c'<=c)->fG A (min (aT (A.nd x)) (aT (B.nd y))) x c=fG A (min (aT (A.nd x)) (aT (B.nd y))) x v:=fun c v hcv h=>ge1 hA hx hcv fun e d hd hdv=>h d ((v3 d).2 (.inr (.inl ⟨e,hd⟩))) hdv
    have IL:∀ c v,c<=v->(∀ c'∈lvals A B x y,c'<=v->c'<=c)->fG B (min (aT (A.nd x)) (aT (B.nd y))) y c=fG B (min (aT (A.nd x)) (aT (B.nd y))) y v:=fun c v hcv h=>ge1 hB hy hcv fun e d hd hdv=>h d ((v3 d).2 (.inr (.inr ⟨e,hd⟩))) hdv
    have WG:=(v3 _).2 (.inl rfl);generalize lvals A B x y=V at v2 v3 Zd IQ IL WG ⊢;generalize min (aT (A.nd x)) (aT (B.nd y))=k at hak hn hk10 hkA hkB Zd IQ IL WG v3 ⊢;clear h10;have succ:∀ g:Fa,FM A B x y g↔FM A B (fG A k x (g k)) (fG B k y (g k)) g:=fun g=>by unfold FM;rw[bl1 hA hx g (k:=k),bl1 hB hy g (k:=k)]
    have dep:∀ v,(fG A k x v<A.ns.length/\k+1<=aT (A.nd (fG A k x v)))/\fG B k y v<B.ns.length/\k+1<=aT (B.nd (fG B k y v)):=fun v=>⟨TA hA hx hkA hk10 v,TA hB hy hkB hk10 v⟩
    have loop:∀ (l pre:List Int)(g:Gr),V=pre++l->GInv A B g->(∀ c∈pre,KL A B (fG A k x c) (fG B k y c)) ->
      GInv A B (Ai (oM A B n) A B k x y f l g).2.2/\((Ai (oM A B n) A B k x y f l g).2.1=false->∀ c∈V,KL A B (fG A k x c) (fG B k y c)) /\
      ((Ai (oM A B n) A B k x y f l g).2.1=true->Dv A B k x y (fF f) (fF (Ai (oM A B n) A B k x y f l g).1)):=by
     intro l
     induction l with
     |nil=>exact fun pre g hV hg hpre=>⟨hg,fun _=>by rw[hV,List.append_nil];exact hpre,fun h=>by cases h⟩
     |cons v l ih =>
      intro pre g hV hg hpre;obtain⟨⟨d1,d2⟩,d3,d4⟩:=dep v;have hvV:v∈V:=by rw[hV];simp
      have hfl:∀ j,k+1<=j->j<10->fF (f.put k v) j=bn.lo j:=fun j h1 h2=>by
       rw[Pm f hk10 v,upd,if_neg (by omega)];exact hlo j (by omega) h2
      have R:=yj2 hA hB bA bB n (k+1) (fG A k x v) (fG B k y v) (f.put k v) g d1 d3 (by omega) (by omega) hfl hg;simp only[Ai];generalize oM A B n (fG A k x v) (fG B k y v) (f.put k v) g=r at R;by_cases hr:r.2.1=true
      ·rw[if_pos hr];refine⟨R.inv,fun h=>(by rw[hr] at h;cases h),fun _=>?_⟩;have hf:=R.yes hr;have hga:fF r.1 k=v:=by rw[hf.pre k (Nat.lt_succ_self _),Pm f hk10 v,upd,if_pos rfl]
       refine⟨fun j hj=>by rw[hf.pre j (by omega),Pm f hk10 v,upd,if_neg (by omega)],fun j h1 h2=>?_,?_,fun q hw hl hq=>?_⟩
       ·by_cases hj:j=k
        ·subst hj;rw[hga];exact Zd v hvV
        ·exact hf.win j (by omega) h2
       ·rw[succ,hga];exact hf.dif
       ·rw[succ] at hq;obtain⟨m,m1,m2,m3,m4⟩:=hl;by_cases hmk:m=k
        ·subst hmk;rw[hga] at m4;obtain⟨c,h1,h2,h3⟩:=kg1 WG (hw m (Nat.zero_le _) hk10).1;have hcp:c∈pre:=by
          rw[hV] at h1;rcases qO.1 h1 with h|h
          ·exact h
          ·exfalso
           rw[hV] at v2;have h5:=(List.pairwise_append.1 v2).2.1;rw[List.pairwise_cons] at h5;rcases List.mem_cons.1 h with rfl|h
           ·omega
           ·have:=h5.1 c h;omega
         rw[<- IQ c (q m) h2 h3,<- IL c (q m) h2 h3] at hq;exact hpre c hcp q hw hq
        ·have hqk:q k=v:=by rw[m3 k (qR _) (by omega),hga]
         rw[hqk] at hq;exact hf.least q hw ⟨m,by omega,m2,fun j j1 j2=>m3 j (by omega) j2,m4⟩ hq
      ·rw[if_neg hr];have hr':r.2.1=false:=by simpa using hr
       exact ih (pre++[v]) r.2.2 (by rw[hV];simp) R.inv fun c hc=>by
        rcases qO.1 hc with hc|hc
        ·exact hpre c hc
        ·rw[zE.1 hc];exact(R.no hr').2
    obtain⟨l1,l2,l3⟩:=loop V [] g rfl hg (fun c hc=>by cases hc);generalize Ai (oM A B n) A B k x y f V g=r at l1 l2 l3;by_cases hr:r.2.1=true
    ·rw[if_pos hr];exact⟨l1,fun h=>(by rw[hr] at h;cases h),fun _=>(l3 hr).lift hak hlo⟩
    ·rw[if_neg hr];have hr':r.2.1=false:=by simpa using hr
     have hq:KL A B x y:=fun q hw hq=>by
      rw[succ] at hq;obtain⟨c,h1,h2,h3⟩:=kg1 WG (hw k (Nat.zero_le _) hk10).1;rw[<- IQ c (q k) h2 h3,<- IL c (q k) h2 h3] at hq;exact l2 hr' c h1 q hw hq
     exact⟨Ah true l1 fun _=>hq,fun _=>⟨rfl,hq⟩,fun h=>by cases h⟩
end
end Go.SX.Td
namespace Go.SX.Td
open Go Go.SX Tb
def Ik (l:List Rule):Int:=l.foldl (fun s r=>IntKind.i64.wrap (s+r.ay.length)) 0
def Xi (p:au):Prop:=p.Rules.length<=9223372036854775807
theorem it2 {p:au}(hp:Xi p):∃ b,QS p=some b/\(b=true->p.Rules.length<=8/\Ik p.Rules<=10):=by
 unfold Xi at hp;obtain⟨r,h1,h2⟩:=sU (step:=QK p) (fun (s:Int) i=>(s,i)) p.Rules.length
  (fun k s=>s=Ik (p.Rules.take k)) (fun r=>r=.inr false\/r=.inl (Ik p.Rules)) (fun k s hk hI=>by
  subst hI;have hx:p.Rules[k]?=some p.Rules[k]:=by simp[hk]
  rw[qW,hx,zD];generalize p.Rules[k]=x at hx;have hlt:(k:Int)<p.Rules.length:=by omega
  simp only[QK,bV,dF,hlt,decide_true,cond_true,fB hx,qC,gy2,iD,gI (k:=k) (by omega)];by_cases h:(60:Int)<(x.Name.size:Int)
  ·exact .inr ⟨.inr false,by rw[qM h];rfl,.inl rfl⟩
  ·exact .inl ⟨_,by rw[qJ h];rfl,by unfold Ik;rw[List.foldl_append];rfl⟩) (fun s hI=>by
  subst hI;have hlt:¬ ((p.Rules.length:Int)<p.Rules.length):=by omega
  exact⟨_,by simp only[QK,bV,dF,hlt,decide_false,cond_false];rfl,.inr (by rw[zG])⟩) 0 (by simp[Ik])
 unfold QS;rw[h1];rcases h2 with rfl|rfl
 ·exact⟨false,rfl,fun h=>by cases h⟩
 ·simp only[gu,qC,nY,dF];by_cases h:(p.Rules.length:Int)<=8
  ·exact⟨decide (Ik p.Rules<=10),by rw[qM h];rfl,fun hb=>⟨by omega,by simpa using hb⟩⟩
  ·exact⟨false,by rw[qJ h];rfl,fun h=>by cases h⟩
theorem rz0 {p:au}(hv:mG p=true):∀ r∈p.Rules,r.ay.length<=200:=fun r hr=>by
 obtain⟨k,hk⟩:=List.getElem?_of_mem hr;have:=Xe hv hk;simp only[BP,qK,qX] at this;exact this.2.1
theorem mr1 : ∀ {l:List Rule},l.length<=8->(∀ r∈l,r.ay.length<=200)->∀ s:Int,0<=s->s+l.length * 200<=10000->l.foldl (fun s r=>IntKind.i64.wrap (s+r.ay.length)) s=s+((l.flatMap (·.ay)).length:Nat)
 |[],_,_,s,_,_=>by simp
 |r::l,hl,hz,s,h0,hs=>by
  have h1:=hz r (by simp);rw[qZ] at hs hl;rw[qV,wE (by omega) (by omega),mr1 (by omega) (fun r hr=>hz r (by simp[hr])) _ (by omega) (by omega),List.flatMap_cons,qN];omega
theorem tq1 {p:au}(hv:mG p=true)(h:p.Rules.length<=8/\Ik p.Rules<=10):(dM p).length<=10:=by
 have:=mr1 h.1 (rz0 hv) 0 (by omega) (by omega);have h2:=h.2;unfold Ik at h2;rw[this] at h2;show (p.Rules.flatMap (·.ay)).length<=10;omega
theorem WY (x y:aF Int):Ea x y=decide (x=y):=by
 obtain⟨a0,a1,a2,a3,a4,a5,a6,a7,a8,a9⟩:=x;obtain⟨b0,b1,b2,b3,b4,b5,b6,b7,b8,b9⟩:=y;rw[Bool.eq_iff_iff];simp only[Ea,yy2,mX,qK,qX,aF.mk.injEq]
abbrev Xn : Decision:=Decision.mk false false false 0 0 (Ratio.mk 0 1) (Ratio.mk 0 1) (Ratio.mk 0 1) (Ratio.mk 0 1) (Ratio.mk 0 1) (-1)
abbrev ka2 : Decision:=Decision.mk false false false 0 5 (Ratio.mk 0 1) (Ratio.mk 0 1) (Ratio.mk 0 1) (Ratio.mk 0 1) (Ratio.mk 0 1) (-1)
abbrev Oz : Decision:=Decision.mk true false false 0 100 (Ratio.mk 0 1) (Ratio.mk 0 1) (Ratio.mk 0 1) (Ratio.mk 0 1) (Ratio.mk 0 1) 0
abbrev RU : Decision:=Decision.mk false false false 0 100 (Ratio.mk 0 1) (Ratio.mk 0 1) (Ratio.mk 0 1) (Ratio.mk 0 1) (Ratio.mk 0 1) 0
def startA : aF Int:=toA fun j=>(dW.get j).Lo
theorem start_eq : QJ=some startA:=by
 unfold QJ;simp only[LY,qC];obtain⟨q,h1,rfl⟩:=sU (step:=PI dW) (fun (s:aF Int) i=>(s,i)) 10 (fun k s=>∀ j,j<10->s.get j=if j<k then (dW.get j).Lo else 0) (fun q=>q=startA)
  (fun k s hk hI=>by
   have hlt:(k:Int)<10:=by omega
   refine .inl ⟨s.put k (dW.get k).Lo,by simp only[PI,bV,hlt,decide_true,cond_true,wS hk,qC,iD,gI (k:=k) (by omega)],fun j hj=>?_⟩;rw[aF.get_put _ _ _ _ hk hj,hI j hj];by_cases h:j=k
   ·subst h;simp
   ·rw[if_neg h];by_cases h2:j<k
    ·rw[if_pos h2,if_pos (by omega)]
    ·rw[if_neg h2,if_neg (by omega)]) (fun s hI=>by
   refine⟨s,by simp[PI,bV],aF.ext_get fun j hj=>?_⟩;rw[hI j hj,if_pos hj,startA,Pj _ j hj]) (aF.mk 0 0 0 0 0 0 0 0 0 0) (fun j hj=>by
   match j,hj with
   |0,_|1,_|2,_|3,_|4,_|5,_|6,_|7,_|8,_|9,_=>rfl)
 have h1':dw (PI dW) (aF.mk 0 0 0 0 0 0 0 0 0 0,0)=some startA:=h1;rw[h1'];rfl
theorem Qn {j:Nat}(hj:j<10):fF startA j=bn.lo j:=by rw[Ef _ hj,startA,Pj _ j hj];rfl
theorem or0 : bn.In (fF startA):=fun j hj=>by rw[Qn hj];exact⟨Int.le_refl _,FK j⟩
def RG : aF Int:=startA.put 1 18
theorem qo1 {j:Nat}(hj:j<10):fF RG j=if j=1 then 18 else bn.lo j:=by
 rw[Ef _ hj,RG,aF.get_put _ _ _ _ (by omega) hj];split
 ·rfl
 ·rw[<- Ef _ hj,Qn hj]
theorem ry1 : bn.In (fF RG):=fun j hj=>by
 rw[qo1 hj];split
 ·rename_i h;subst h;decide
 ·exact⟨Int.le_refl _,FK j⟩
def t2 (d0 d1:Decision):Tab Decision:=⟨[⟨1,[18],[1,2],0⟩,⟨0,[],[],0⟩,⟨0,[],[],1⟩],[d0,d1]⟩
theorem ui1 {d0 d1:Decision}(h:d0≠d1):(t2 d0 d1).Canon bn where
 ok:=⟨fun x hx=>by
  match x,hx with
  |0,_=>exact qw2 (by decide) (by decide) (by decide) ⟨by show 1<3;decide,by show 1<10;decide⟩ ⟨by show 2<3;decide,by show 1<10;decide⟩
  |1,_=>exact cf0 (show 0<2 by decide)
  |2,_=>exact cf0 (show 1<2 by decide),by simp[t2],by simp[t2,h]⟩
 pos:=by show 0<3;decide
 walk:=by rfl
 leaf x hx hk:=by
  match x,hx with
  |0,_=>cases hk
  |1,_=>rfl
  |2,_=>rfl
 all:=by rfl
theorem md1 (d0 d1:Decision)(g:Fa):(t2 d0 d1).val g 0=if 18<=g 1 then d1 else d0:=by
 by_cases h:18<=g 1
 ·rw[if_pos h];simp[Tab.val,Tab.Ae,Tab.nd,t2,iK,h]
 ·rw[if_neg h];simp[Tab.val,Tab.Ae,Tab.nd,t2,iK,h]
theorem ub2 (d0 d1:Decision):∀ n∈(t2 d0 d1).ns,Bd n:=fun n hn=>by
 simp only[t2,List.mem_cons,List.not_mem_nil,or_false] at hn;rcases hn with rfl|rfl|rfl
 ·exact Yw (by simp) (by simp) (by simp) (by simp) (by simp) (by simp)
 ·exact Yw (by simp) (by simp) (by simp) (by simp) (by simp) (by simp)
 ·exact Yw (by simp) (by simp) (by simp) (by simp) (by simp) (by simp)
theorem up2 (d:Decision):∀ n∈(t1 d).ns,Bd n:=fun n hn=>by
 simp only[t1,List.mem_cons,List.not_mem_nil,or_false] at hn;subst hn;exact Yw (by simp) (by simp) (by simp) (by simp) (by simp) (by simp)
abbrev hA : Rule:=⟨1,⟨#[97]⟩,[dW],0,⟨0,0⟩,⟨0,0⟩⟩
abbrev hB : Rule:=⟨3,⟨#[112]⟩,[dW],100,⟨0,1⟩,⟨0,1⟩⟩
theorem hv2 : mG ⟨[hA,hB]⟩=true:=by decide +kernel
theorem hg2 : PG ⟨[hA,hB]⟩:=PG0 hv2 (by show 2<=10;decide)
theorem hz2 : ∀ r∈[hA,hB],r.ay.length<=1000:=fun r hr=>by
 simp only[List.mem_cons,List.not_mem_nil,or_false] at hr;rcases hr with rfl|rfl
 ·show 1<=1000;decide
 ·show 1<=1000;decide
theorem Vu (f:aF Int):kX ⟨[]⟩ f=Xn:=by rw[tp1];rfl
theorem qf3 {f:aF Int}(hf:bn.In (fF f)):kX ⟨[hA,hB]⟩ f=Oz:=by
 have h:=km2 hf;rw[Ru] at h;have h1:holds hA f=true:=by simp[holds,h]
 have h2:holds hB f=true:=by simp[holds,h]
 rw[tp1];simp only[zC,List.map_nil,h1,h2];rfl
theorem lt0 : QL=some true:=by
 have e1:uj (au.mk []) (Table.mk [Node.mk 0 [] [] 0] [Xn])=some (A0,false):=by
  obtain⟨g,b,e,H⟩:=Rn g0 (by simp) (by simp) v0 (uo1 Xn) (up2 _) (by simp[t1]) (by simp[t1]);have e':uj (au.mk []) (Table.mk [Node.mk 0 [] [] 0] [Xn])=some (g,b):=e;rw[e']
  cases b with
  |false=>rw[(H.no rfl).1]
  |true=>exact absurd (Vu g) (H.yes rfl).2.1
 have e2:uj (au.mk []) (Table.mk [Node.mk 0 [] [] 0] [ka2])=some (startA,true):=by
  obtain⟨g,b,e,H⟩:=Rn g0 (by simp) (by simp) v0 (uo1 ka2) (up2 _) (by simp[t1]) (by simp[t1]);have e':uj (au.mk []) (Table.mk [Node.mk 0 [] [] 0] [ka2])=some (g,b):=e;obtain⟨rfl,rfl⟩:=H.least or0 (by rw[Vu,ug2];decide) (fun f hf _ j hj=>by rw[Qn hj];exact(hf j hj).1);exact e'
 have hne:RU≠Oz:=by decide
 have e3:uj (au.mk [hA,hB]) (Table.mk [Node.mk 1 [18] [1,2] 0,Node.mk 0 [] [] 0,Node.mk 0 [] [] 1] [RU,Oz])=some (startA,true):=by
  obtain⟨g,b,e,H⟩:=Rn hg2 (by simp) hz2 hv2 (ui1 hne) (ub2 _ _) (by simp[t2]) (by simp[t2]);have e':uj (au.mk [hA,hB]) (Table.mk [Node.mk 1 [18] [1,2] 0,Node.mk 0 [] [] 0,Node.mk 0 [] [] 1] [RU,Oz])=some (g,b):=e;obtain⟨rfl,rfl⟩:=H.least or0 (by rw[qf3 or0,md1,Qn (by omega)];decide) (fun f hf _ j hj=>by rw[Qn hj];exact(hf j hj).1);exact e'
 have e4:uj (au.mk [hA,hB]) (Table.mk [Node.mk 1 [18] [1,2] 0,Node.mk 0 [] [] 0,Node.mk 0 [] [] 1] [Oz,RU])=some (RG,true):=by
  obtain⟨g,b,e,H⟩:=Rn hg2 (by simp) hz2 hv2 (ui1 (Ne.symm hne)) (ub2 _ _) (by simp[t2]) (by simp[t2]);have e':uj (au.mk [hA,hB]) (Table.mk [Node.mk 1 [18] [1,2] 0,Node.mk 0 [] [] 0,Node.mk 0 [] [] 1] [Oz,RU])=some (g,b):=e;obtain⟨rfl,rfl⟩:=H.least ry1 (by rw[qf3 ry1,md1,qo1 (by omega)];decide) (fun f hf hd j hj=>by
   rw[qo1 hj];split
   ·rename_i h1;subst h1;rw[qf3 hf,md1] at hd;refine Classical.byContradiction fun h2=>hd ?_
    rw[if_neg h2]
   ·exact(hf j hj).1)
  exact e'
 have e5:uj (au.mk [hA,hB]) (Table.mk [] [])=some (A0,true):=nk0 (.inr cl0) ⟨_,cl0⟩;have q1:Ea A0 (aF.mk 0 0 0 0 0 0 0 0 0 0)=true:=by rw[WY];rfl
 have q2:Ea startA startA=true:=by rw[WY];simp
 have q3:Ea RG (aF.mk startA.a0 18 startA.a2 startA.a3 startA.a4 startA.a5 startA.a6 startA.a7 startA.a8 startA.a9)=true:=by rw[WY];rfl
 unfold QL;simp only[QV,qC,LY,start_eq,e1,e2,e3,e4,e5,q1,q2,q3,vX,Bool.not_false,cond_true]
theorem tz1 {p:au}(hp:Xi p){T:Table}(hT:Zc T):Ot p T=some false\/Ot p T=some true/\(p.Rules.length<=8/\Ik p.Rules<=10)/\jm T:=by
 obtain⟨b,hb,h1⟩:=it2 hp;obtain⟨b2,hb2,h2⟩:=qu2 hT.1;unfold Ot;simp only[hb,hb2,qC]
 cases b with
 |false=>exact .inl rfl
 |true =>
  cases b2 with
  |false=>exact .inl rfl
  |true =>
   obtain⟨s1,s2,s3⟩:=h2 rfl;exact .inr ⟨rfl,h1 rfl,s1,s2,fun N hN=>⟨(s3 N hN).1,(s3 N hN).2,(hT.2 N hN).1,(hT.2 N hN).2.1,(hT.2 N hN).2.2.1,(hT.2 N hN).2.2.2⟩⟩
theorem vh1 {T:Table}(S:jm T):zQ T=some false\/∃ t:Tab Decision,T=dZ t/\(∀ n∈t.ns,Bd n)/\t.Canon bn/\zQ (dZ t)=some true/\t.ns.length<=60/\t.ls.length<=60:=by
 rcases kh1 S with h|⟨t,rfl,hb,c,e⟩
 ·exact .inl h
 ·refine .inr ⟨t,rfl,hb,c,e,?_,S.leaves⟩;have:=S.nodes
  rwa [show (dZ t).Nodes.length=t.ns.length by simp[dZ]] at this
theorem vq1 {p:au}(hv:mG p=true):∀ r∈p.Rules,r.ay.length<=1000:=fun r hr=>by have:=rz0 hv r hr;omega
theorem aq1 {zs:Zs}{a:Nat}(ha:a<10){live:List Nat}(hl:∀ z∈live,z<zs.length)(hn:live.length<=1000000)(f:aF Int)(x:Int)(hf:f.get a=x)(j:Int) :
  dw (Qk (ints live) zs (a:Int) f) (j,[],0)=some (j,ints (live.filter fun z=>decide (kL zs z a<=x/\x<=jQ zs z a))):=by
 have hfold:∀ (l:List Nat)(s:List Int),(ints l).foldl (fun s z=>if kL zs z.toNat a<=x/\x<=jQ zs z.toNat a then s++[z] else s) s=s++ints (l.filter fun z=>decide (kL zs z a<=x/\x<=jQ zs z a)):=by
  intro l
  induction l with
  |nil=>intro s;simp[ints]
  |cons z l ih =>
   intro s;simp only[ints,zC,qV] at ih ⊢;rw[ih];by_cases h:kL zs z a<=x/\x<=jQ zs z a
   ·rw[if_pos (by simpa using h),List.filter_cons_of_pos (by simpa using h)];simp
   ·rw[if_neg (by simpa using h),List.filter_cons_of_neg (by simpa using h)]
 have h0:=hfold live [];rw[zN] at h0;rw[<- h0];refine Df (step:=Qk (ints live) zs a f) (fun s i=>(j,s,i)) (ints live) (fun s z=>if kL zs z.toNat a<=x/\x<=jQ zs z.toNat a then s++[z] else s) [] _ (fun k x' hx=>?_) (by simp[Qk,bV,dF]);have hk:k<(ints live).length:=(qA.1 hx).1;have hlt:(k:Int)<(ints live).length:=by omega
 have hka:k<live.length:=by rwa [jg] at hk
 obtain⟨i,hi,rfl⟩:∃ i,live[k]?=some i/\x'=(i:Int):=⟨live[k],by simp[hka],by
  rw[Ar (i:=live[k]) (by simp[hka])] at hx;exact(Option.some.inj hx).symm⟩
 have hil:=hl i (qL hi);have hz1:zs[i]?=some zs[i]:=by simp[hil]
 have hsl:(((ints live).take k).foldl (fun s z=>if kL zs z.toNat a<=x/\x<=jQ zs z.toNat a then s++[z] else s) []).length<=1000000:=by
  have e:(ints live).take k=ints (live.take k):=by simp[ints]
  rw[e,hfold,zN,jg];have:=List.length_filter_le (fun z=>decide (kL zs z a<=x/\x<=jQ zs z a)) (live.take k);rw[qU] at this;omega
 generalize ((ints live).take k).foldl (fun s z=>if kL zs z.toNat a<=x/\x<=jQ zs z.toNat a then s++[z] else s) []=s at hsl;have e1:(zs[i].get a).Lo=kL zs i a:=by simp[kL,hil]
 have e2:(zs[i].get a).Hi=jQ zs i a:=by simp[jQ,hil]
 have hap:appG s [(i:Int)]=some (s++[(i:Int)]):=rU (by simp;omega);simp only[Qk,bV,nY,dF,hlt,decide_true,cond_true,fB hx,fB hz1,wS ha,qC,iD,gI (k:=k) (by omega),e1,e2,hf,Int.toNat_natCast];by_cases h1:kL zs i a<=x
 ·by_cases h2:x<=jQ zs i a
  ·simp only[h1,h2,decide_true,cond_true,qC,hap,and_self,if_true]
  ·simp only[h1,h2,decide_true,decide_false,cond_true,cond_false,qC,and_false,if_false]
 ·simp only[h1,decide_false,cond_false,qC,false_and,if_false]
abbrev nv3 := Int->List Int->aF Int->List Node->List Decision->List Int->List (List Int)->List Int->Bool->Option VO
def iy (s:KSt)(i:Int):List Node×List Decision×List Int×List (List Int)×List Int×Bool×aF Int×List Int×List Int×Int :=
 (kM s.1,s.1.tab.ls,kE s.1,jT s.1,kD s.1,false,s.2.1,s.2.2.1,ints s.2.2.2,i)
theorem ax1 {p:au}{a:Nat}(ha:a<10){live:List Nat}(hl:∀ z∈live,z<(dM p).length)(hn:live.length<=1000000){f:aF Int}{rec:nv3}{F:Int->Bs Decision->Bs Decision×Nat}
  {Sm:Int->Fa->Decision} (hF:Ve bn (fC p) (Ad p) a Sm F) {cs:List Int} (hll:cs.length<=1000000) (hlb:∀ c∈bn.lo a::cs,bn.lo a<=c/\c<=bn.hi a)
  (hrec:∀ c b,bn.lo a<=c->c<=bn.hi a->G6 p b->rec ((a+1:Nat):Int) (ints (live.filter fun z=>(fC p).at z a c)) (f.put a c) (kM b) b.tab.ls (kE b) (jT b) (kD b) false=some (Dq (F c b)))
  {b0:Bs Decision} (h0:G6 p b0) :
  ∃ s,dw (Jq cs (a:Int) (ints live) (dM p) rec) (kM b0,b0.tab.ls,kE b0,jT b0,kD b0,false,f,[],[],0)=some (kM s.1,s.1.tab.ls,kE s.1,jT s.1,kD s.1,false,s.2.2.1,ints s.2.2.2)/\KI p a F f (bn.lo a::cs) b0 (cs.length+1) s:=by
 have main:=sU (step:=Jq cs (a:Int) (ints live) (dM p) rec) iy (cs.length+1) (KI p a F f (bn.lo a::cs) b0)
  (fun t=>∃ s,t=(kM s.1,s.1.tab.ls,kE s.1,jT s.1,kD s.1,false,s.2.2.1,ints s.2.2.2)/\KI p a F f (bn.lo a::cs) b0 (cs.length+1) s) (fun k s hk hI=>?_) (fun s hI=>?_) (b0,f,[],[])
  ⟨rfl,h0,fun _=>rfl,qR _,qR _,fun _=>rfl,fun h=>absurd h (Nat.lt_irrefl 0),fun x hx=>by simp at hx,fun x hx=>by simp at hx,fun k hk=>.inl hk,.refl _⟩
 ·obtain⟨t,h1,s,h2,h3⟩:=main;exact⟨s,by rw[<- h2];exact h1,h3⟩
 ·left
  obtain⟨b,f1,C,K⟩:=s;obtain⟨heq,hinv,hf,hcl,hkl,hz,hnz,hlt,hcm,hkeys,hext⟩:=hI;simp only at heq hinv hf hcl hkl hz hnz hlt hcm hkeys hext;have hx:(bn.lo a::cs)[k]?=some ((bn.lo a::cs)[k]'(by simp;omega)):=qD _;generalize (bn.lo a::cs)[k]'(by simp;omega)=x at hx;have hxm:=qL hx;obtain⟨hx1,hx2⟩:=hlb x hxm;have hle:(k:Int)<=(cs.length:Int):=by omega
  obtain⟨g1,g2,g3,g4,g5,g6⟩:=hF x b hx1 hx2 hinv;have hr:=hrec x b hx1 hx2 hinv;have hfx:(f.put a x).get a=x:=by rw[QZ f ha x a ha,if_pos rfl]
  have hnx:=aq1 ha hl hn (f.put a x) x hfx (k:Int);have hat:(fun z=>decide (kL (dM p) z a<=x/\x<=jQ (dM p) z a))=fun z=>(fC p).at z a x:=rfl
  rw[hat] at hnx;have htake:(bn.lo a::cs).take (k+1)=(bn.lo a::cs).take k++[x]:=by rw[qW,hx];rfl
  have hw1:io.ar .add .i64 (a:Int) 1=((a+1:Nat):Int):=by rw[iD,gI (by omega)]
  have hw2:io.ar .add .i64 (k:Int) 1=((k+1:Nat):Int):=by rw[iD,gI (by omega)]
  have hlim:(Bo:Option (aF Range))=some dW:=LY;have e3:(dW.get a).Lo=bn.lo a:=rfl;have hmono:∀ q∈K,q<(F x b).1.tab.ns.length:=fun q hq=>zL (hlt q hq) g2.len
  have hstep:∀ (C':List Int)(K':List Nat),kids F [x] b C K=((F x b).1,C',K')->C'.length<=k+1->K'.length<=k+1->K'≠[]->(∀ q∈K',q<(F x b).1.tab.ns.length)->(∀ c∈C',c∈bn.lo a::cs)->KI p a F f (bn.lo a::cs) b0 (k+1) ((F x b).1,f.put a x,C',K'):=fun C' K' hkk m1 m2 m3 m4 m5 =>
   ⟨by rw[htake,pv0,heq];exact hkk,g1,fun c=>bq1 f ha x c,m1,m2,fun h=>absurd h (Nat.succ_ne_zero _),fun _=>m3,m4,m5,
     fun q hq=>(g6 q hq).elim (fun h=>hkeys q h) .inr,hext.trans g2⟩
  have hapC:appG C [x]=some (C++[x]):=rU (by simp;omega);have UO:appG (ints K) [((F x b).2:Int)]=some (ints (K++[(F x b).2])):=by
   rw[rU (by rw[jg];simp;omega)];simp[ints]
  by_cases hk0:k=0
  ·have hK:=hz hk0;subst hK;have hx0:x=bn.lo a:=by subst hk0;simpa using hx.symm
   have hkk:kids F [x] b C []=((F x b).1,C,[(F x b).2]):=by simp[kids]
   have hz0:¬ ((0:Int)<(k:Int)):=by omega
   have hz1:¬ ((0:Int)<((0:Nat):Int)):=by omega
   have IE:f1.put a (bn.lo a)=f.put a x:=by rw[hf,hx0]
   refine⟨((F x b).1,f.put a x,C,[(F x b).2]),?_,hstep _ _ hkk (by omega) (by simp) (by simp) (fun q hq=>by simp at hq;subst hq;exact g3) hcm⟩;simp only[iy,Jq,nY,bV,dF,hle,decide_true,cond_true,hlim,wS ha,qC,hz0,decide_false,cond_false,e3,IE,hnx,hw1,hw2,hr,Dq,jg,List.length_nil,hz1,UO,zN]
  ·have FC:=hnz (by omega);have hz0:(0:Int)<(k:Int):=by omega
   have hlen:0<K.length:=List.length_pos_iff.2 FC;have hlen':(0:Int)<((K.length:Nat):Int):=by omega
   have JY:io.ar .sub .i64 (k:Int) 1=((k - 1:Nat):Int):=by rw[Kw,wE (by omega) (by omega)];omega
   have hxc:cs[k - 1]?=some x:=by
    obtain⟨j,rfl⟩:∃ j,k=j+1:=⟨k - 1,by omega⟩
    simpa using hx
   have IE:(f1.put a (bn.lo a)).put a x=f.put a x:=by rw[bq1 f1 ha,hf]
   have Ul:oL (ints K) (io.ar .sub .i64 ((K.length:Nat):Int) 1)=some (K.length - 1):=by
    rw[Kw,wE (by omega) (by omega)];unfold oL;rw[jg,if_pos (by omega)];congr 1;omega
   have hlast:K[K.length - 1]?=K.getLast?:=by rw[List.getLast?_eq_getElem?]
   obtain⟨q,hq⟩:∃ q,K.getLast?=some q:=⟨K.getLast FC,List.getLast?_eq_some_getLast FC⟩;have hget:(ints K)[K.length - 1]?=some (q:Int):=Ar (by rw[hlast,hq]);by_cases hqe:q=(F x b).2
   ·have hkk:kids F [x] b C K=((F x b).1,C,K):=by simp[kids,hq,hqe]
    refine⟨((F x b).1,f.put a x,C,K),?_,hstep _ _ hkk (by omega) (by omega) FC hmono hcm⟩;have:((q:Int)=((F x b).2:Int)):=by rw[hqe]
    simp only[iy,Jq,nY,bV,mX,dF,hle,decide_true,cond_true,hlim,wS ha,qC,hz0,JY,fB hxc,e3,IE,hnx,hw1,hw2,hr,Dq,jg,hlen',Ul,hget,this]
   ·have hkk:kids F [x] b C K=((F x b).1,C++[x],K++[(F x b).2]):=by
     simp only[kids,hq];rw[if_neg (fun e=>hqe (Option.some.inj e)),if_neg FC]
    refine⟨((F x b).1,f.put a x,C++[x],K++[(F x b).2]),?_,hstep _ _ hkk (by simp;omega) (by simp;omega) (by simp) (fun y hy=>?_) (fun c hc=>?_)⟩
    ·have:¬ ((q:Int)=((F x b).2:Int)):=by omega
     simp only[iy,Jq,nY,bV,mX,dF,hle,decide_true,cond_true,hlim,wS ha,qC,hz0,JY,fB hxc,e3,IE,hnx,hw1,hw2,hr,Dq,jg,hlen',Ul,hget,this,decide_false,cond_false,hfx,hapC,UO]
    ·rcases qO.1 hy with hy|hy
     ·exact hmono y hy
     ·simp at hy;subst hy;exact g3
    ·rcases qO.1 hc with hc|hc
     ·exact hcm c hc
     ·simp at hc;subst hc;exact hxm
 ·refine⟨_,?_,s,rfl,hI⟩;have hle:¬ (((cs.length+1:Nat):Int)<=(cs.length:Int)):=by omega
  simp only[iy,Jq,nY,dF,hle,decide_false,cond_false]
theorem oz0 {κ:Type}[DecidableEq κ]:∀ {l:List (κ×Nat)}{x:κ}{v:Nat}{k:Nat},l[k]?=some (x,v)->(∀ (j:Nat) y,j<k->l[j]?=some y->y.1≠x)->Tb.look l x=some v
 |[],x,v,k,h,_=>by simp at h
 |(a,w)::l,x,v,0,h,_=>by simp at h;obtain⟨rfl,rfl⟩:=h;simp[Tb.look]
 |(a,w)::l,x,v,k+1,h,hn=>by
  have h0:x≠a:=fun e=>hn 0 (a,w) (by omega) rfl e.symm
  simp only[List.getElem?_cons_succ] at h;simp only[Tb.look,if_neg h0];exact oz0 h fun j y hj hy=>hn (j+1) y (by omega) (by simpa using hy)
theorem az1 {b:Bs Decision}(a:Nat)(live:List Nat)(hm:b.made.length<=1000000)(hl:∀ x∈b.made,x.1.2.length<=1000000000)(ns:List Node)(ls:List Decision) :
  dw (Kr (jT b) (kE b) (a:Int) (ints live) (kD b) ns ls false) 0=some (match Tb.look b.made (a,live) with|some n=>.inr ((n:Int),ns,ls,kE b,jT b,kD b,false)|none=>.inl ()):=by
 have hs:∀ (k:Nat) x,b.made[k]?=some x->Kr (jT b) (kE b) (a:Int) (ints live) (kD b) ns ls false k=some (if decide (x.1=(a,live)) then .inr (.inr ((x.2:Int),ns,ls,kE b,jT b,kD b,false)) else .inl ((k+1:Nat):Int)):=fun k x hx=>by
  have hkl:=(qA.1 hx).1;have l1:(kE b).length=b.made.length:=by simp[kE]
  have l2:(jT b).length=b.made.length:=by simp[jT]
  have l3:(kD b).length=b.made.length:=by simp[kD]
  have hlt:(k:Int)<(jT b).length:=by omega
  have g1:(kE b)[k]?=some (x.1.1:Int):=by simp[kE,hx]
  have g2:(jT b)[k]?=some (ints x.1.2):=by simp[jT,hx]
  have g3:(kD b)[k]?=some (x.2:Int):=by simp[kD,hx]
  have hq:=xz2 (ints x.1.2) (ints live) (by rw[jg];exact hl x (qL hx));simp only[Kr,bV,dF,hlt,decide_true,cond_true,Gu (show k<(kE b).length by omega),Gu (show k<(jT b).length by omega),Gu (show k<(kD b).length by omega),g1,g2,g3,qC,mX,hq,iD,gI (k:=k) (by omega)];by_cases h1:x.1.1=a
  ·have h1':((x.1.1:Nat):Int)=(a:Int):=by omega
   by_cases h2:x.1.2=live
   ·have h3:x.1=(a,live):=Prod.ext h1 h2;simp only[h1',h2,h3,decide_true,cond_true,qC,if_true]
   ·have h2':¬ ints x.1.2=ints live:=fun e=>h2 (YO e)
    have h3:¬ x.1=(a,live):=fun e=>h2 (by rw[e])
    simp only[h1',h2',h3,decide_true,decide_false,cond_true,cond_false,qC,Bool.false_eq_true,if_false]
  ·have h1':¬ ((x.1.1:Nat):Int)=(a:Int):=by omega
   have h3:¬ x.1=(a,live):=fun e=>h1 (by rw[e])
   simp only[h1',h3,decide_false,cond_false,qC,Bool.false_eq_true,if_false]
 have he:Kr (jT b) (kE b) (a:Int) (ints live) (kD b) ns ls false (b.made.length:Int)=some (.inr (.inl ())):=by
  have hlt:¬ ((b.made.length:Int)<(jT b).length):=by simp[jT]
  simp only[Kr,bV,dF,hlt,decide_false,cond_false]
 rcases Vp (step:=Kr (jT b) (kE b) (a:Int) (ints live) (kD b) ns ls false) b.made (fun x=>decide (x.1=(a,live))) (fun _ x=>.inr ((x.2:Int),ns,ls,kE b,jT b,kD b,false)) (.inl ()) hs he with ⟨k,x,h1,h2,h3,h4⟩|⟨h1,h2⟩
 ·obtain⟨y,v⟩:=x;have hy:y=(a,live):=of_decide_eq_true h2;subst hy;rw[h4,oz0 h1 fun j z hj hz e=>by
   have:=h3 j z hj hz;rw[e] at this;simp at this]
 ·rw[h2,fx1 fun hm=>by
   obtain⟨x,hx,e⟩:=zJ.1 hm;have:=h1 x hx;rw[e] at this;simp at this]
theorem Inv.RZ {p:au}{b:Bs Decision}{s:Nat}(h:Inv bn (fC p) (Ad p) b s):b.made.length<=10 * 2 ^ (dM p).length:=by
 have:=LC (l:=b.made.map (·.1)) (m:=(List.range 10).flatMap fun a=>(subs (List.range (fC p).nz)).map fun l=>(a,l)) h.keys fun k hk=>by
  obtain⟨⟨⟨a,live⟩,n⟩,hm,rfl⟩:=zJ.1 hk;obtain⟨k1,k2,k3,⟨f,k4⟩,k5⟩:=h.made a live n hm;exact List.mem_flatMap.2 ⟨a,List.mem_range.2 k3,zJ.2 ⟨live,fq1 (k4▸List.filter_sublist),rfl⟩⟩
 rw[qY,List.length_flatMap] at this;simp only[qY,on0,List.length_range] at this;have e:(fC p).nz=(dM p).length:=rfl;rw[e] at this;have e2:∀ c:Nat,((List.range 10).map fun _=>c).sum=10 * c:=fun c=>by simp[List.range,List.range.loop];omega
 rw[e2] at this;exact this
theorem gd1 {p:au}(G:PG p)(Uc:(dM p).length<=10):∀ (r a:Nat)(live:List Nat)(f:aF Int)(b:Bs Decision),a+r=10->G6 p b->live=(List.range (fC p).nz).filter ((fC p).Pre a (fF f)) ->
  Ic p.Rules (dM p) (r+1) (a:Int) (ints live) f (kM b) b.tab.ls (kE b) (jT b) (kD b) false=some (Dq (make (fC p) r a live (fF f) b))
 |0,a,live,f,b,har,hb,hlive=>by
  obtain rfl:a=10:=by omega
  have e:(fC p).dec (fF f)=kX p f:=by show kX p (toA (fF f))=_;rw[Ru]
  have hdec:PE (au.mk p.Rules) f=some (kX p f):=as1 p f G.rules G.zones;obtain⟨hns,hls⟩:=G.bnd b hb;obtain⟨m1,-,-,-,-,-⟩:=Vs FK (NS p) 0 10 live (fF f) b rfl hb hlive;obtain⟨n1,-⟩:=G.bnd _ m1;simp only[make,e] at n1 ⊢;have hkn:∀ M∈b.tab.ns,M.cuts.length<=2000000000/\M.kids.length<=2000000000:=fun M hM=>by
   obtain⟨x,hx⟩:=List.getElem?_of_mem hM;have hxl:=(qA.1 hx).1;have en:b.tab.nd x=M:=by unfold Tab.nd;rw[qI,hx];rfl
   have:=fk1 hb.ok hxl;rw[en] at this;have F:=hb.ok.fine x hxl;rw[en] at F;by_cases hk:M.kids=[]
   ·rw[(F.leaf hk).1,hk];simp
   ·have:=(F.inner hk).2.2.1;omega
  have hw:=eu1 p.Rules (dM p) (b:=b) (kX p f) hb.ok.uD hls hkn hns n1;show NT p.Rules (dM p) (Ic p.Rules (dM p) 0) ((10:Nat):Int) (ints live) f (kM b) b.tab.ls (kE b) (jT b) (kD b) false=_;have e10:((10:Nat):Int)=10:=rfl;simp only[NT,cond_false,mX,e10,decide_true,cond_true,hdec,qC,hw]
 |r+1,a,live,f,b,har,hb,hlive=>by
  have ha:a<10:=by omega
  have hsub:live.Sublist (List.range (fC p).nz):=hlive▸List.filter_sublist;have hnz:(fC p).nz=(dM p).length:=rfl;have hl:∀ z∈live,z<(dM p).length:=fun z hz=>by simpa [hnz] using hsub.subset hz
  have hn:live.length<=1000:=by have:=hsub.length_le;rw[List.length_range,hnz] at this;omega
  obtain⟨hns,hls⟩:=G.bnd b hb;have p10:2 ^ (dM p).length<=1024:=by
   have:=Nat.pow_le_pow_right (show 0<2 by omega) Uc;omega
  have hml:=Inv.RZ hb;have hmd:∀ {b':Bs Decision},G6 p b'->∀ x∈b'.made,x.1.2.length<=1000000000:=fun {b'} h' x hx=>by
   obtain⟨⟨a',l'⟩,n'⟩:=x;obtain⟨-,-,-,⟨g,k4⟩,-⟩:=h'.made a' l' n' hx;have h1:l'.length<=(List.range (fC p).nz).length:=k4▸List.length_filter_le _ _;rw[List.length_range,hnz] at h1;show l'.length<=_;omega
  have qy:¬ ((a:Int)=10):=by omega
  obtain⟨ms1,-,-,-,-,-⟩:=Vs FK (NS p) (r+1) a live (fF f) b har hb hlive;obtain⟨LV,-⟩:=G.bnd _ ms1;show NT p.Rules (dM p) (Ic p.Rules (dM p) (r+1)) (a:Int) (ints live) f (kM b) b.tab.ls (kE b) (jT b) (kD b) false=_;simp only[make] at LV ⊢;simp only[NT,cond_false,mX,qy,decide_false,az1 a live (by omega) (hmd hb) (kM b) b.tab.ls]
  cases hm:Tb.look b.made (a,live) with
  |some n=>rfl
  |none =>
   rw[hm] at LV;dsimp only at LV ⊢;have hno:=Zw hm;obtain⟨cs,hcs,hst⟩:=iq1 p.Rules G.YN ha hl hn (kM b) b.tab.ls (kE b) (jT b) (kD b) false;have hlen:=ih0 (dM p) a live;obtain⟨l',hl',hasc,-⟩:=yq1 (dM p) a live;have hlb:∀ c∈bn.lo a::cs,bn.lo a<=c/\c<=bn.hi a:=fun c hc=>by
    have:=(KA a).2.1;rw[<- hst,hl'] at hc;rcases List.mem_cons.1 hc with rfl|hc
    ·omega
    ·have:=JJ hasc c hc;omega
   have hcl:cs.length<=1000000:=by rw[hst,qZ] at hlen;omega
   simp only[gu,qC,hcs];have hstp:(fC p).starts a live=bn.lo a::cs:=hst;rw[hstp] at LV ⊢;generalize X0:(fun c b=>make (fC p) r (a+1) (live.filter fun z=>(fC p).at z a c) (upd (fF f) a c) b)=F at LV ⊢;have hpre:∀ c,(live.filter fun z=>(fC p).at z a c)=(List.range (fC p).nz).filter ((fC p).Pre (a+1) (upd (fF f) a c)):=fun c=>by
    rw[hlive,List.filter_filter];exact List.filter_congr fun z _=>(qt1 ha (fF f) c z).symm
   have hF:Ve bn (fC p) (Ad p) a (fun c g=>sem (fC p) (Ad p) (a+1) (live.filter fun z=>(fC p).at z a c) g) F:=fun c b _ _ hb=>by
    subst X0;exact Vs FK (NS p) r (a+1) _ (upd (fF f) a c) b (by omega) hb (hpre c)
   have hrec:∀ c b,bn.lo a<=c->c<=bn.hi a->G6 p b->Ic p.Rules (dM p) (r+1) ((a+1:Nat):Int) (ints (live.filter fun z=>(fC p).at z a c)) (f.put a c) (kM b) b.tab.ls (kE b) (jT b) (kD b) false=some (Dq (F c b)):=fun c b _ _ hb=>by
    subst X0;have:=gd1 G Uc r (a+1) (live.filter fun z=>(fC p).at z a c) (f.put a c) b (by omega) hb (by rw[Pm f ha c];exact hpre c);rw[this,Pm f ha c]
   obtain⟨⟨b2,f2,C,K⟩,hloop,hKI⟩:=ax1 (rec:=Ic p.Rules (dM p) (r+1)) ha hl (by omega) hF hcl hlb hrec hb;obtain⟨keq,EC,-,kcl,kkl,-,knz,klt,kcm,Tq,kext⟩:=hKI;simp only at hloop keq EC kcl kkl knz klt kcm Tq kext;rw[List.take_of_length_le (by simp)] at keq;rw[hloop,keq];rw[keq] at LV;have hK:=knz (by omega);obtain⟨hns2,Uz⟩:=G.bnd b2 EC;have hml2:=Inv.RZ EC;have l1:(kE b2).length=b2.made.length:=by simp[kE]
   have l2:(jT b2).length=b2.made.length:=by simp[jT]
   have l3:(kD b2).length=b2.made.length:=by simp[kD]
   have ap1:∀ x:Int,appG (kE b2) [x]=some (kE b2++[x]):=fun x=>rU (by simp;omega)
   have ap2:∀ x:List Int,appG (jT b2) [x]=some (jT b2++[x]):=fun x=>rU (by simp;omega)
   have ap3:∀ x:Int,appG (kD b2) [x]=some (kD b2++[x]):=fun x=>rU (by simp;omega)
   cases K with
   |nil=>exact absurd rfl hK
   |cons n0 K' =>
    have hr0:oL (ints (n0::K')) 0=some 0:=Gu (k:=0) (by rw[jg];simp);have hg0:(ints (n0::K'))[0]?=some (n0:Int):=rfl;simp only[qC,hr0,hg0,bV,dF,jg]
    cases K' with
    |nil =>
     have h1:¬ ((1:Int)<(([n0]:List Nat).length:Int)):=by simp
     simp only[h1,decide_false,cond_false,qC,ap1,ap2,ap3,Dq];simp[kE,kM,jT,kD]
    |cons n1 K'' =>
     have h1:(1:Int)<((n0::n1::K'':List Nat).length:Int):=by simp;omega
     have hkn:∀ M∈b2.tab.ns,M.cuts.length<=2000000000/\M.kids.length<=2000000000:=fun M hM=>by
      obtain⟨x,hx⟩:=List.getElem?_of_mem hM;have hxl:=(qA.1 hx).1;have en:b2.tab.nd x=M:=by unfold Tab.nd;rw[qI,hx];rfl
      have:=fk1 EC.ok hxl;rw[en] at this;have F:=EC.ok.fine x hxl;rw[en] at F;by_cases hk:M.kids=[]
      ·rw[(F.leaf hk).1,hk];simp
      ·have:=(F.inner hk).2.2.1;omega
     have hw:=oc0 p.Rules (dM p) (b:=b2) ⟨a,C,n0::n1::K'',0⟩ hkn hns2 LV;obtain⟨k1,k2⟩:=cv1 (b:=b2) ⟨a,C,n0::n1::K'',0⟩;have e:(Node.mk (a:Int) C (ints (n0::n1::K'')) 0)=bD ⟨a,C,n0::n1::K'',0⟩:=rfl;have q1:kE (addN b2 ⟨a,C,n0::n1::K'',0⟩).1=kE b2:=by simp only[kE,k1]
     have q2:jT (addN b2 ⟨a,C,n0::n1::K'',0⟩).1=jT b2:=by simp only[jT,k1]
     have q3:kD (addN b2 ⟨a,C,n0::n1::K'',0⟩).1=kD b2:=by simp only[kD,k1]
     simp only[h1,decide_true,cond_true,e,hw,qC,Dq,q1,q2,q3,ap1,ap2,ap3];simp[kE,jT,kD,kM,k1]
end Go.SX.Td
