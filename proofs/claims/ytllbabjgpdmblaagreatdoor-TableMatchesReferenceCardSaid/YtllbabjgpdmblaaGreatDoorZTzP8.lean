/- Parts of the proof. -/
import Derived.Test.YtllbabjgpdmblaaGreatDoorZTdP4
import Derived.Test.YtllbabjgpdmblaaGreatDoorZTdR1
import Derived.Test.YtllbabjgpdmblaaGreatDoorZTd49
import Derived.Test.YtllbabjgpdmblaaGreatDoorZTdP2
import Derived.Test.YtllbabjgpdmblaaGreatDoorZTzwnode
set_option linter.unusedSimpArgs false
set_option linter.unusedVariables false
set_option linter.unusedSectionVars false
namespace Go.SX.Td
open Go Go.SX Tb
theorem rix {α:Type}{xs:List α}{k:Nat}(h:k<xs.length):gq0 xs (k:Int)=some k:=by
 unfold gq0;rw[if_pos (by omega)];simp
theorem zo1 {α:Type}[DecidableEq α]:∀ {l:List α}{x:α}{k:Nat},l[k]?=some x→(∀ (j:Nat) y,j<k→l[j]?=some y→y≠x)→idx l x=some k
 | [],x,k,h,_=>by simp at h
 | a::l,x,0,h,_=>by simp at h;subst h;simp[idx]
 | a::l,x,k+1,h,hn=>by
  have h0:=hn 0 a (by omega) rfl;simp only[List.getElem?_cons_succ] at h;simp only[idx,if_neg h0];rw[zo1 h fun j y hj hy=>hn (j+1) y (by omega) (by simpa using hy)];rfl
theorem xh1 {α:Type}[DecidableEq α](x d:α):∀ l:List α,idx (l++[x]) d=match idx l d with | some i=>some i | none=>if x=d then some l.length else none
 | []=>by simp only[zE,idx];split<;>rfl
 | a::l=>by
  simp only[List.cons_append,idx,zD];by_cases h:a=d
  ·simp only[if_pos h]
  ·simp only[if_neg h];rw[xh1 x d l]
   cases idx l d with
   | some i=>rfl
   | none=>by_cases h2:x=d<;>simp[h2]
section
variable (b:Bs Decision)
def atE : List Int:=b.made.map fun x=>(x.1.1:Int)
def lvE : List (List Int):=b.made.map fun x=>ints x.1.2
def mdE : List Int:=b.made.map fun x=>(x.2:Int)
abbrev ROut := Int×List Node×List Decision×List Int×List (List Int)×List Int×Bool
def fw1 (r:Bs Decision×Nat):ROut:=((r.2:Int),qs0 r.1,r.1.tab.ls,atE r.1,lvE r.1,mdE r.1,false)
end
variable {b:Bs Decision}
theorem ei0 (rules:List Rule)(zs:Zs)(n:Nd)(hk:∀ M∈b.tab.ns,M.cuts.length≤2000000000∧M.kids.length≤2000000000)(hN:b.tab.ns.length≤20000)(hn:(addN b n).1.tab.ns.length≤20000) :
  ak0 rules zs (zq0 n) (qs0 b) b.tab.ls (atE b) (lvE b) (mdE b) false=some (fw1 (addN b n)):=by
 have hlen:=ko0 (b:=b);have hs:∀ (k:Nat) M,(qs0 b)[k]?=some M→ft0 (qs0 b) (zq0 n) b.tab.ls (atE b) (lvE b) (mdE b) false k=some (if decide (M=zq0 n) then .inr (.inr ((k:Int),qs0 b,b.tab.ls,atE b,lvE b,mdE b,false)) else .inl ((k+1:Nat):Int)):=fun k M hx=>by
  have hkl:=(qA.1 hx).1;have hlt:(k:Int)<(qs0 b).length:=by omega
  obtain⟨m,hm,rfl⟩:=List.mem_map.1 (qK hx);have hq:=yq1 (zq0 m) (zq0 n) (hk m hm).1 (by show (ints m.kids).length≤_;rw[qg0];exact(hk m hm).2);simp only[ft0,qm0,qv0,hlt,decide_true,cond_true,rix hkl,hx,qC,hq,qr0,zc0 (k:=k) (by omega)];by_cases h:zq0 m=zq0 n<;>simp[h]
 have he:ft0 (qs0 b) (zq0 n) b.tab.ls (atE b) (lvE b) (mdE b) false ((qs0 b).length:Int)=some (.inr (.inl ())):=by
  have hlt:¬ (((qs0 b).length:Int)<(qs0 b).length):=by omega
  simp only[ft0,qm0,qv0,hlt,decide_false,cond_false]
 unfold ak0;rcases dd0 (step:=ft0 (qs0 b) (zq0 n) b.tab.ls (atE b) (lvE b) (mdE b) false) (qs0 b) (fun M=>decide (M=zq0 n)) (fun k _=>.inr ((k:Int),qs0 b,b.tab.ls,atE b,lvE b,mdE b,false)) (.inl ()) hs he with ⟨k,M,h1,h2,h3,h4⟩ | ⟨h1,h2⟩
 ·have hM:=of_decide_eq_true h2;subst hM;have hi:idx b.tab.ns n=some k:=by
   have e:b.tab.ns[k]?=some n:=by
    unfold qs0 at h1;rw[qH] at h1;obtain⟨m,hm,e⟩:=Option.map_eq_some_iff.1 h1;rw[np0 e] at hm;exact hm
   refine zo1 e fun j y hj hy e2=>?_
   have:=h3 j (zq0 y) hj (by unfold qs0;rw[qH,hy];rfl);rw[e2] at this;simp at this
  have ha:addN b n=(b,k):=by unfold addN;rw[hi]
  rw[h4,ha];rfl
 ·have hi:idx b.tab.ns n=none:=ox0 fun hm=>by
   have:=h1 (zq0 n) (List.mem_map.2 ⟨n,hm,rfl⟩);simp at this
  have ha:addN b n=({ b with tab:={ b.tab with ns:=b.tab.ns++[n] } },b.tab.ns.length):=by unfold addN;rw[hi]
  rw[ha] at hn ⊢;simp only[qN,zL] at hn;have hap:appG (qs0 b) [zq0 n]=some (qs0 b++[zq0 n]):=qo0 (by rw[ko0];simp;omega);have hw:io.ar .sub .i64 (((qs0 b++[zq0 n]).length:Nat):Int) 1=(b.tab.ns.length:Int):=by
   rw[ge0,qN,ko0,zL,nt0 (by omega) (by omega)];omega
  have h20:¬ ((20000:Int)<((qs0 b++[zq0 n]).length:Nat)):=by
   rw[qN,ko0,zL];omega
  rw[h2];simp only[orR,qC,hap,cond_false,qm0,qv0,qI h20,hw];simp only[fw1,qs0,List.map_append,qX,zI,atE,lvE,mdE]
def za1 : Option Nat→Int
 | some i=>i
 | none=>-1
theorem gj1 (ls:List Decision)(d:Decision)(hd:ls.Nodup)(hl:ls.length≤1000000):qw0 (sk0 ls d) (-1,0)=some (za1 (idx ls d)):=by
 obtain⟨r,h1,rfl⟩:=yq0 (step:=sk0 ls d) (fun (s:Int) i=>(s,i)) ls.length (fun k s=>s=za1 (idx (ls.take k) d)) (fun r=>r=za1 (idx ls d)) (fun k s hk hI=>by
  subst hI;have hx:ls[k]?=some ls[k]:=by simp[hk]
  have hlt:(k:Int)<ls.length:=by omega
  refine .inl ⟨za1 (idx (ls.take (k+1)) d),?_,rfl⟩;rw[qS,hx,zB,xh1];generalize hxx:ls[k]=x at hx;simp only[sk0,qm0,qv0,hlt,decide_true,cond_true,rix hk,hx,qC,gg0,qr0,zc0 (k:=k) (by omega)];by_cases h:x=d
  ·have hno:idx (ls.take k) d=none:=ox0 fun hm=>by
    obtain⟨j,hj,e⟩:=List.mem_take_iff_getElem.1 hm;have:=pi0 hd (by omega) hk (e.trans (h.symm.trans hxx.symm));omega
   have hlk:(ls.take k).length=k:=by rw[qR];omega
   simp only[hno,h,decide_true,cond_true,if_true,hlk,za1];rfl
  ·cases hi:idx (ls.take k) d with
   | some i=>simp[h]
   | none=>simp[h]) (fun s hI=>by
  rw[zC] at hI;subst hI;have hlt:¬ ((ls.length:Int)<ls.length):=by omega
  exact⟨_,by simp only[sk0,qm0,qv0,hlt,decide_false,cond_false],rfl⟩) (-1) (by simp[idx,za1])
 exact h1
theorem nu1 (rules:List Rule)(zs:Zs)(d:Decision)(hd:b.tab.ls.Nodup)(hl:b.tab.ls.length≤20000)(hk:∀ M∈b.tab.ns,M.cuts.length≤2000000000∧M.kids.length≤2000000000)(hN:b.tab.ns.length≤20000)(hn:(tv0 b d).1.tab.ns.length≤20000) :
  nn0 rules zs d (qs0 b) b.tab.ls (atE b) (lvE b) (mdE b) false=some (fw1 (tv0 b d)):=by
 unfold nn0;rw[gj1 _ d hd (by omega)]
 cases hi:idx b.tab.ls d with
 | some i =>
  have e:tv0 b d=addN b ⟨0,[],[],i⟩:=by simp only[tv0,hi]
  rw[e] at hn ⊢;have h0:¬ ((i:Int)<0):=by omega
  have hw:=ei0 rules zs (b:=b) ⟨0,[],[],i⟩ hk hN hn;have he:(Node.mk 0 [] [] (i:Int))=zq0 ⟨0,[],[],i⟩:=rfl;simp only[za1,qC,qm0,qI h0,cond_false,he,hw]
 | none =>
  have e:tv0 b d=addN { b with tab:={ b.tab with ls:=b.tab.ls++[d] } } ⟨0,[],[],b.tab.ls.length⟩:=by simp only[tv0,hi]
  rw[e] at hn ⊢;have h0:((-1:Int)<0):=by omega
  have hap:appG b.tab.ls [d]=some (b.tab.ls++[d]):=qo0 (by simp;omega);have hw:=ei0 rules zs (b:={ b with tab:={ b.tab with ls:=b.tab.ls++[d] } }) ⟨0,[],[],b.tab.ls.length⟩ hk hN hn;have he:(Node.mk 0 [] [] (b.tab.ls.length:Int))=zq0 ⟨0,[],[],b.tab.ls.length⟩:=rfl;have hw':ak0 rules zs (zq0 ⟨0,[],[],b.tab.ls.length⟩) (qs0 b) (b.tab.ls++[d]) (atE b) (lvE b) (mdE b) false=_:=hw;simp only[za1,qC,qm0,qL h0,cond_true,hap,qv0,he,hw']
theorem bz0 : ∀ {l m:List Int},l.Pairwise (·<·)→m.Pairwise (·<·)→(∀ x,x∈l↔x∈m)→l=m
 | [],[],_,_,_=>rfl
 | [],y::m,_,_,h=>absurd ((h y).2 (by simp)) (by simp)
 | x::l,[],_,_,h=>absurd ((h x).1 (by simp)) (by simp)
 | x::l,y::m,hl,hm,h=>by
  rw[List.pairwise_cons] at hl hm;have hxy:x=y:=by
   rcases List.mem_cons.1 ((h x).1 (by simp)) with e | e
   ·exact e
   ·rcases List.mem_cons.1 ((h y).2 (by simp)) with e' | e'
    ·exact e'.symm
    ·have:=hm.1 x e;have:=hl.1 y e';omega
  subst hxy;rw[bz0 hl.2 hm.2 fun z=>⟨fun hz=>?_,fun hz=>?_⟩]
  ·rcases List.mem_cons.1 ((h z).1 (zF _ hz)) with e | e
   ·have:=hl.1 z hz;omega
   ·exact e
  ·rcases List.mem_cons.1 ((h z).2 (zF _ hz)) with e | e
   ·have:=hm.1 z hz;omega
   ·exact e
theorem bu1 (l:List Int)(n:Int)(hl:l.length≤1000000):∃ k:Nat,qw0 (vd0 l n) 0=some (k:Int)∧k≤l.length∧(∀ y∈l.take k,y<n)∧∀ y,l[k]?=some y→n≤y:=by
 obtain⟨r,h1,k,rfl,h2⟩:=yq0 (step:=vd0 l n) (fun (_:Unit) i=>i) l.length (fun k _=>∀ y∈l.take k,y<n)
  (fun r=>∃ k:Nat,r=(k:Int)∧k≤l.length∧(∀ y∈l.take k,y<n)∧∀ y,l[k]?=some y→n≤y) (fun k _ hk hI=>by
   have hx:l[k]?=some l[k]:=by simp[hk]
   generalize l[k]=x at hx;have hlt:(k:Int)<l.length:=by omega
   simp only[vd0,qm0,qv0,hlt,decide_true,cond_true,qx0 hx,qC,qr0,zc0 (k:=k) (by omega)];by_cases h:x<n
   ·refine .inl ⟨(),by rw[qL h];rfl,fun y hy=>?_⟩;rw[qS,hx,zB] at hy;rcases qO.1 hy with hy | hy
    ·exact hI y hy
    ·rw[zH.1 hy];exact h
   ·exact .inr ⟨(k:Int),by rw[qI h];rfl,k,rfl,by omega,hI,fun y hy=>by rw[hx] at hy;cases hy;omega⟩) (fun _ hI=>by
   have hlt:¬ ((l.length:Int)<l.length):=by omega
   exact⟨(l.length:Int),by simp only[vd0,qm0,qv0,hlt,decide_false,qC,cond_false],l.length,rfl,qV _,hI,fun y hy=>by rw[qY (qV _)] at hy;cases hy⟩) () (by simp)
 exact⟨k,h1,h2⟩
theorem put_eq (l:List Int)(n:Int)(lim:Range)(hl:l.length≤1000000)(hs:l.Pairwise (·<·)) :
  ∃ l',xh0 l n lim=some l'∧l'.Pairwise (·<·)∧l'.length≤l.length+1∧∀ x,x∈l'↔x∈l∨(x=n∧lim.Lo<n∧n≤lim.Hi):=by
 unfold xh0;simp only[tt1 l n (by omega),xx0,qm0,qC];by_cases h1:n≤lim.Lo
 ·refine⟨l,by simp[h1],hs,by omega,fun x=>⟨.inl,fun h=>h.elim id fun e=>by omega⟩⟩
 ·by_cases h2:lim.Hi<n
  ·refine⟨l,by simp[h1,h2],hs,by omega,fun x=>⟨.inl,fun h=>h.elim id fun e=>by omega⟩⟩
  ·by_cases h3:n∈l
   ·refine⟨l,by simp[h1,h2,h3],hs,by omega,fun x=>⟨.inl,fun h=>h.elim id fun e=>by rw[e.1];exact h3⟩⟩
   ·obtain⟨k,k1,k2,k3,k4⟩:=bu1 l n hl;have hsub1:cn1 l 0 (k:Int)=some (l.take k):=by unfold cn1;rw[if_pos (by omega)];simp
    have hsub2:cn1 l (k:Int) (l.length:Int)=some (l.drop k):=by unfold cn1;rw[if_pos (by omega)];simp
    have ha1:appG ([]:List Int) (l.take k)=some (l.take k):=by rw[qo0 (by simp;omega)];rfl
    have ha2:appG (l.take k) [n]=some (l.take k++[n]):=qo0 (by simp;omega);have ha3:appG (l.take k++[n]) (l.drop k)=some (l.take k++[n]++l.drop k):=qo0 (by simp;omega);refine⟨l.take k++[n]++l.drop k,?_,?_,?_,fun x=>?_⟩
    ·simp only[h1,h2,h3,decide_false,cond_false,qC,k1,hsub1,ha1,ha2,qv0,hsub2,ha3]
    ·have hd:∀ y∈l.drop k,n<y:=fun y hy=>by
      have hle:n≤y:=by
       obtain⟨j,hj⟩:=List.getElem?_of_mem hy;rw[List.getElem?_drop] at hj;have hjl:=(qA.1 hj).1;obtain⟨z,hz⟩:∃ z,l[k]?=some z:=⟨_,qD (by omega)⟩;have:=k4 z hz;by_cases h0:j=0
       ·subst h0;rw[Nat.add_zero,hz] at hj;cases hj;exact this
       ·have h5:=List.pairwise_iff_getElem.1 hs k (k+j) (by omega) hjl (by omega);rw[(qA.1 hj).2,(qA.1 hz).2] at h5;omega
      rcases Int.lt_or_eq_of_le hle with h | h
      ·exact h
      ·exact absurd (h▸List.mem_of_mem_drop hy) h3
     rw[List.append_assoc,List.pairwise_append];refine⟨hs.sublist (List.take_sublist _ _),?_,fun a ha b hb=>?_⟩
     ·rw[List.singleton_append,List.pairwise_cons];exact⟨hd,hs.sublist (List.drop_sublist _ _)⟩
     ·have:=k3 a ha;rw[List.singleton_append] at hb;rcases List.mem_cons.1 hb with rfl | hb
      ·exact this
      ·have:=hd b hb;omega
    ·simp;omega
    ·rw[List.append_assoc,List.singleton_append,qO,List.mem_cons]
     constructor
     ·rintro (h | rfl | h)
      ·exact .inl (List.mem_of_mem_take h)
      ·exact .inr ⟨rfl,by omega,by omega⟩
      ·exact .inl (List.mem_of_mem_drop h)
     ·rintro (h | h)
      ·rw[← List.take_append_drop k l] at h;rcases qO.1 h with h | h
       ·exact .inl h
       ·exact .inr (.inr h)
      ·exact .inr (.inl h.1)
theorem bq1 (rules:List Rule){zs:Zs}(hz:ZOk zs){a:Nat}(ha:a<10){live:List Nat}(hl:∀ z∈live,z<zs.length)(hn:live.length≤1000)(ns:List Node)(ls:List Decision)(x1:List Int)(x2:List (List Int))(x3:List Int)(x4:Bool) :
  ∃ l,na0 rules zs (a:Int) (ints live) ns ls x1 x2 x3 x4=some l∧starts zs a live=wy0.lo a::l:=by
 have e3:wy0.lo a=(wo0.get a).Lo:=rfl;have e4:wy0.hi a=(wo0.get a).Hi:=rfl;obtain⟨l,h1,s1,s2,s3⟩:=yq0 (step:=pq0 (ints live) zs (a:Int) (wo0.get a).Lo (wo0.get a).Hi) (fun (s:List Int) i=>(s,i)) live.length
  (fun k s=>s.Pairwise (·<·)∧s.length≤2 * k∧∀ x,x∈s↔∃ z∈live.take k,(x=zlo zs z a∨x=zhi zs z a+1)∧wy0.lo a<x∧x≤wy0.hi a)
  (fun s=>s.Pairwise (·<·)∧s.length≤2 * live.length∧∀ x,x∈s↔∃ z∈live,(x=zlo zs z a∨x=zhi zs z a+1)∧wy0.lo a<x∧x≤wy0.hi a) (fun k s hk hI=>by
   obtain⟨i1,i2,i3⟩:=hI;have hx:live[k]?=some live[k]:=by simp[hk]
   generalize live[k]=i at hx;have hil:=hl i (qK hx);have hlt:(k:Int)<(ints live).length:=by rw[qg0];omega
   have hz1:zs[i]?=some zs[i]:=by simp[hil]
   have hv:=hz.get hil ha;have e1:(zs[i].get a).Lo=zlo zs i a:=by simp[zlo,hil]
   have e2:(zs[i].get a).Hi=zhi zs i a:=by simp[zhi,hil]
   have hw:IntKind.i64.wrap (zhi zs i a+1)=zhi zs i a+1:=nt0 (by omega) (by omega);obtain⟨s',p1,p2,p3,p4⟩:=put_eq s (zlo zs i a) (Range.mk (wo0.get a).Lo (wo0.get a).Hi) (by omega) i1;obtain⟨s2,q1,q2,q3,q4⟩:=put_eq s' (zhi zs i a+1) (Range.mk (wo0.get a).Lo (wo0.get a).Hi) (by omega) p2;refine .inl ⟨s2,?_,q2,by omega,fun x=>?_⟩
   ·simp only[pq0,qm0,qv0,hlt,decide_true,cond_true,qx0 (wm0 hx),qx0 hz1,zm0 ha,qC,e1,e2,p1,qr0,hw,q1,zc0 (k:=k) (by omega)]
   ·rw[q4,p4,i3,qS,hx,zB];simp only[e3,e4]
    constructor
    ·rintro ((⟨z,hz,h⟩ | ⟨rfl,h⟩) | ⟨rfl,h⟩)
     ·exact⟨z,List.mem_append_left _ hz,h⟩
     ·exact⟨i,by simp,.inl rfl,h⟩
     ·exact⟨i,by simp,.inr rfl,h⟩
    ·rintro ⟨z,hz,h1,h2⟩;rcases qO.1 hz with hz | hz
     ·exact .inl (.inl ⟨z,hz,h1,h2⟩)
     ·rw[zH] at hz;subst hz;rcases h1 with h1 | h1
      ·exact .inl (.inr ⟨h1,h1▸h2⟩)
      ·exact .inr ⟨h1,h1▸h2⟩) (fun s hI=>by
   rw[zC] at hI;have hlt:¬ ((live.length:Int)<(ints live).length):=by rw[qg0];omega
   exact⟨s,by simp only[pq0,qm0,qv0,hlt,decide_false,cond_false],hI⟩) [] (by simp)
 refine⟨l,?_,?_⟩
 ·unfold na0;have hlz:(zr0:Option (A10 Range))=some wo0:=gy0;simp only[hlz,qC,zm0 ha,h1]
 ·refine bz0 (pb0 zs a live) ?_ fun x=>?_
  ·rw[List.pairwise_cons];exact⟨fun y hy=>by obtain⟨_,_,_,h,_⟩:=(s3 y).1 hy;exact h,s1⟩
  ·rw[eb0,List.mem_cons,s3]
end Go.SX.Td
namespace Go.SX.Td
open Go Go.SX Tb
theorem gl1 {zs:Zs}{a:Nat}(ha:a<10){live:List Nat}(hl:∀ z∈live,z<zs.length)(hn:live.length≤1000000)(f:A10 Int)(x:Int)(hf:f.get a=x)(j:Int) :
  qw0 (fk0 (ints live) zs (a:Int) f) (j,[],0)=some (j,ints (live.filter fun z=>decide (zlo zs z a≤x∧x≤zhi zs z a))):=by
 have hfold:∀ (l:List Nat)(s:List Int),(ints l).foldl (fun s z=>if zlo zs z.toNat a≤x∧x≤zhi zs z.toNat a then s++[z] else s) s=s++ints (l.filter fun z=>decide (zlo zs z a≤x∧x≤zhi zs z a)):=by
  intro l
  induction l with
  | nil=>intro s;simp[ints]
  | cons z l ih =>
   intro s;simp only[ints,qX,qT] at ih ⊢;rw[ih];by_cases h:zlo zs z a≤x∧x≤zhi zs z a
   ·rw[if_pos (by simpa using h),List.filter_cons_of_pos (by simpa using h)];simp
   ·rw[if_neg (by simpa using h),List.filter_cons_of_neg (by simpa using h)]
 have h0:=hfold live [];rw[zE] at h0;rw[← h0];refine wt0 (step:=fk0 (ints live) zs a f) (fun s i=>(j,s,i)) (ints live) (fun s z=>if zlo zs z.toNat a≤x∧x≤zhi zs z.toNat a then s++[z] else s) [] _ (fun k x' hx=>?_) (by simp[fk0,qm0,qv0]);have hk:k<(ints live).length:=(qA.1 hx).1;have hlt:(k:Int)<(ints live).length:=by omega
 have hka:k<live.length:=by rwa [qg0] at hk
 obtain⟨i,hi,rfl⟩:∃ i,live[k]?=some i∧x'=(i:Int):=⟨live[k],by simp[hka],by
  rw[wm0 (i:=live[k]) (by simp[hka])] at hx;exact(Option.some.inj hx).symm⟩
 have hil:=hl i (qK hi);have hz1:zs[i]?=some zs[i]:=by simp[hil]
 have hsl:(((ints live).take k).foldl (fun s z=>if zlo zs z.toNat a≤x∧x≤zhi zs z.toNat a then s++[z] else s) []).length≤1000000:=by
  have e:(ints live).take k=ints (live.take k):=by simp[ints]
  rw[e,hfold,zE,qg0];have:=List.length_filter_le (fun z=>decide (zlo zs z a≤x∧x≤zhi zs z a)) (live.take k);rw[qR] at this;omega
 generalize ((ints live).take k).foldl (fun s z=>if zlo zs z.toNat a≤x∧x≤zhi zs z.toNat a then s++[z] else s) []=s at hsl;have e1:(zs[i].get a).Lo=zlo zs i a:=by simp[zlo,hil]
 have e2:(zs[i].get a).Hi=zhi zs i a:=by simp[zhi,hil]
 have hap:appG s [(i:Int)]=some (s++[(i:Int)]):=qo0 (by simp;omega);simp only[fk0,qm0,xx0,qv0,hlt,decide_true,cond_true,qx0 hx,qx0 hz1,zm0 ha,qC,qr0,zc0 (k:=k) (by omega),e1,e2,hf,Int.toNat_natCast];by_cases h1:zlo zs i a≤x
 ·by_cases h2:x≤zhi zs i a
  ·simp only[h1,h2,decide_true,cond_true,qC,hap,and_self,if_true]
  ·simp only[h1,h2,decide_true,decide_false,cond_true,cond_false,qC,and_false,if_false]
 ·simp only[h1,decide_false,cond_false,qC,false_and,if_false]
abbrev sg3 := Int→List Int→A10 Int→List Node→List Decision→List Int→List (List Int)→List Int→Bool→Option ROut
def mkR (s:KSt)(i:Int):List Node×List Decision×List Int×List (List Int)×List Int×Bool×A10 Int×List Int×List Int×Int :=
 (qs0 s.1,s.1.tab.ls,atE s.1,lvE s.1,mdE s.1,false,s.2.1,s.2.2.1,ints s.2.2.2,i)
theorem ga1 {p:Policy}{a:Nat}(ha:a<10){live:List Nat}(hl:∀ z∈live,z<(qh0 p).length)(hn:live.length≤1000000){f:A10 Int}{rec:sg3}{F:Int→Bs Decision→Bs Decision×Nat}
  {Sm:Int→Fa→Decision} (hF:kn1 wy0 (ql0 p) (nr1 p) a Sm F) {cs:List Int} (hll:cs.length≤1000000) (hlb:∀ c∈wy0.lo a::cs,wy0.lo a≤c∧c≤wy0.hi a)
  (hrec:∀ c b,wy0.lo a≤c→c≤wy0.hi a→kt1 p b→rec ((a+1:Nat):Int) (ints (live.filter fun z=>(ql0 p).at z a c)) (f.put a c) (qs0 b) b.tab.ls (atE b) (lvE b) (mdE b) false=some (fw1 (F c b)))
  {b0:Bs Decision} (h0:kt1 p b0) :
  ∃ s,qw0 (xu0 cs (a:Int) (ints live) (qh0 p) rec) (qs0 b0,b0.tab.ls,atE b0,lvE b0,mdE b0,false,f,[],[],0)=some (qs0 s.1,s.1.tab.ls,atE s.1,lvE s.1,mdE s.1,false,s.2.2.1,ints s.2.2.2)∧KI p a F f (wy0.lo a::cs) b0 (cs.length+1) s:=by
 have main:=yq0 (step:=xu0 cs (a:Int) (ints live) (qh0 p) rec) mkR (cs.length+1) (KI p a F f (wy0.lo a::cs) b0)
  (fun t=>∃ s,t=(qs0 s.1,s.1.tab.ls,atE s.1,lvE s.1,mdE s.1,false,s.2.2.1,ints s.2.2.2)∧KI p a F f (wy0.lo a::cs) b0 (cs.length+1) s) (fun k s hk hI=>?_) (fun s hI=>?_) (b0,f,[],[])
  ⟨rfl,h0,fun _=>rfl,qV _,qV _,fun _=>rfl,fun h=>absurd h (Nat.lt_irrefl 0),fun x hx=>by simp at hx,fun x hx=>by simp at hx,fun k hk=>.inl hk,.refl _⟩
 ·obtain⟨t,h1,s,h2,h3⟩:=main;exact⟨s,by rw[← h2];exact h1,h3⟩
 ·left
  obtain⟨b,f1,C,K⟩:=s;obtain⟨heq,hinv,hf,hcl,hkl,hz,hnz,hlt,hcm,hkeys,hext⟩:=hI;simp only at heq hinv hf hcl hkl hz hnz hlt hcm hkeys hext;have hx:(wy0.lo a::cs)[k]?=some ((wy0.lo a::cs)[k]'(by simp;omega)):=qD _;generalize (wy0.lo a::cs)[k]'(by simp;omega)=x at hx;have hxm:=qK hx;obtain⟨hx1,hx2⟩:=hlb x hxm;have hle:(k:Int)≤(cs.length:Int):=by omega
  obtain⟨g1,g2,g3,g4,g5,g6⟩:=hF x b hx1 hx2 hinv;have hr:=hrec x b hx1 hx2 hinv;have hfx:(f.put a x).get a=x:=by rw[bn0 f ha x a ha,if_pos rfl]
  have hnx:=gl1 ha hl hn (f.put a x) x hfx (k:Int);have hat:(fun z=>decide (zlo (qh0 p) z a≤x∧x≤zhi (qh0 p) z a))=fun z=>(ql0 p).at z a x:=rfl
  rw[hat] at hnx;have htake:(wy0.lo a::cs).take (k+1)=(wy0.lo a::cs).take k++[x]:=by rw[qS,hx];rfl
  have hw1:io.ar .add .i64 (a:Int) 1=((a+1:Nat):Int):=by rw[qr0,zc0 (by omega)]
  have hw2:io.ar .add .i64 (k:Int) 1=((k+1:Nat):Int):=by rw[qr0,zc0 (by omega)]
  have hlim:(zr0:Option (A10 Range))=some wo0:=gy0;have e3:(wo0.get a).Lo=wy0.lo a:=rfl;have hmono:∀ q∈K,q<(F x b).1.tab.ns.length:=fun q hq=>Nat.lt_of_lt_of_le (hlt q hq) g2.len
  have hstep:∀ (C':List Int)(K':List Nat),kids F [x] b C K=((F x b).1,C',K')→C'.length≤k+1→K'.length≤k+1→K'≠[]→(∀ q∈K',q<(F x b).1.tab.ns.length)→(∀ c∈C',c∈wy0.lo a::cs)→KI p a F f (wy0.lo a::cs) b0 (k+1) ((F x b).1,f.put a x,C',K'):=fun C' K' hkk m1 m2 m3 m4 m5 =>
   ⟨by rw[htake,dq0,heq];exact hkk,g1,fun c=>jb1 f ha x c,m1,m2,fun h=>absurd h (Nat.succ_ne_zero _),fun _=>m3,m4,m5,
     fun q hq=>(g6 q hq).elim (fun h=>hkeys q h) .inr,hext.trans g2⟩
  have hapC:appG C [x]=some (C++[x]):=qo0 (by simp;omega);have hapK:appG (ints K) [((F x b).2:Int)]=some (ints (K++[(F x b).2])):=by
   rw[qo0 (by rw[qg0];simp;omega)];simp[ints]
  by_cases hk0:k=0
  ·have hK:=hz hk0;subst hK;have hx0:x=wy0.lo a:=by subst hk0;simpa using hx.symm
   have hkk:kids F [x] b C []=((F x b).1,C,[(F x b).2]):=by simp[kids]
   have hz0:¬ ((0:Int)<(k:Int)):=by omega
   have hz1:¬ ((0:Int)<((0:Nat):Int)):=by omega
   have hff:f1.put a (wy0.lo a)=f.put a x:=by rw[hf,hx0]
   refine⟨((F x b).1,f.put a x,C,[(F x b).2]),?_,hstep _ _ hkk (by omega) (by simp) (by simp) (fun q hq=>by simp at hq;subst hq;exact g3) hcm⟩;simp only[mkR,xu0,xx0,qm0,qv0,hle,decide_true,cond_true,hlim,zm0 ha,qC,hz0,decide_false,cond_false,e3,hff,hnx,hw1,hw2,hr,fw1,qg0,List.length_nil,hz1,hapK,zE]
  ·have hKne:=hnz (by omega);have hz0:(0:Int)<(k:Int):=by omega
   have hlen:0<K.length:=List.length_pos_iff.2 hKne;have hlen':(0:Int)<((K.length:Nat):Int):=by omega
   have hsubk:io.ar .sub .i64 (k:Int) 1=((k - 1:Nat):Int):=by rw[ge0,nt0 (by omega) (by omega)];omega
   have hxc:cs[k - 1]?=some x:=by
    obtain⟨j,rfl⟩:∃ j,k=j+1:=⟨k - 1,by omega⟩
    simpa using hx
   have hff:(f1.put a (wy0.lo a)).put a x=f.put a x:=by rw[jb1 f1 ha,hf]
   have hrix:gq0 (ints K) (io.ar .sub .i64 ((K.length:Nat):Int) 1)=some (K.length - 1):=by
    rw[ge0,nt0 (by omega) (by omega)];unfold gq0;rw[qg0,if_pos (by omega)];congr 1;omega
   have hlast:K[K.length - 1]?=K.getLast?:=by rw[List.getLast?_eq_getElem?]
   obtain⟨q,hq⟩:∃ q,K.getLast?=some q:=⟨K.getLast hKne,List.getLast?_eq_some_getLast hKne⟩;have hget:(ints K)[K.length - 1]?=some (q:Int):=wm0 (by rw[hlast,hq]);by_cases hqe:q=(F x b).2
   ·have hkk:kids F [x] b C K=((F x b).1,C,K):=by simp[kids,hq,hqe]
    refine⟨((F x b).1,f.put a x,C,K),?_,hstep _ _ hkk (by omega) (by omega) hKne hmono hcm⟩;have:((q:Int)=((F x b).2:Int)):=by rw[hqe]
    simp only[mkR,xu0,xx0,qm0,wv0,qv0,hle,decide_true,cond_true,hlim,zm0 ha,qC,hz0,hsubk,qx0 hxc,e3,hff,hnx,hw1,hw2,hr,fw1,qg0,hlen',hrix,hget,this]
   ·have hkk:kids F [x] b C K=((F x b).1,C++[x],K++[(F x b).2]):=by
     simp only[kids,hq];rw[if_neg (fun e=>hqe (Option.some.inj e)),if_neg hKne]
    refine⟨((F x b).1,f.put a x,C++[x],K++[(F x b).2]),?_,hstep _ _ hkk (by simp;omega) (by simp;omega) (by simp) (fun y hy=>?_) (fun c hc=>?_)⟩
    ·have:¬ ((q:Int)=((F x b).2:Int)):=by omega
     simp only[mkR,xu0,xx0,qm0,wv0,qv0,hle,decide_true,cond_true,hlim,zm0 ha,qC,hz0,hsubk,qx0 hxc,e3,hff,hnx,hw1,hw2,hr,fw1,qg0,hlen',hrix,hget,this,decide_false,cond_false,hfx,hapC,hapK]
    ·rcases qO.1 hy with hy | hy
     ·exact hmono y hy
     ·simp at hy;subst hy;exact g3
    ·rcases qO.1 hc with hc | hc
     ·exact hcm c hc
     ·simp at hc;subst hc;exact hxm
 ·refine⟨_,?_,s,rfl,hI⟩;have hle:¬ (((cs.length+1:Nat):Int)≤(cs.length:Int)):=by omega
  simp only[mkR,xu0,xx0,qv0,hle,decide_false,cond_false]
theorem ep0 {κ:Type}[DecidableEq κ]:∀ {l:List (κ×Nat)}{x:κ}{v:Nat}{k:Nat},l[k]?=some (x,v)→(∀ (j:Nat) y,j<k→l[j]?=some y→y.1≠x)→Tb.look l x=some v
 | [],x,v,k,h,_=>by simp at h
 | (a,w)::l,x,v,0,h,_=>by simp at h;obtain⟨rfl,rfl⟩:=h;simp[Tb.look]
 | (a,w)::l,x,v,k+1,h,hn=>by
  have h0:x≠a:=fun e=>hn 0 (a,w) (by omega) rfl e.symm
  simp only[List.getElem?_cons_succ] at h;simp only[Tb.look,if_neg h0];exact ep0 h fun j y hj hy=>hn (j+1) y (by omega) (by simpa using hy)
theorem gt1 {b:Bs Decision}(a:Nat)(live:List Nat)(hm:b.made.length≤1000000)(hl:∀ x∈b.made,x.1.2.length≤1000000000)(ns:List Node)(ls:List Decision) :
  qw0 (gw0 (lvE b) (atE b) (a:Int) (ints live) (mdE b) ns ls false) 0=some (match Tb.look b.made (a,live) with | some n=>.inr ((n:Int),ns,ls,atE b,lvE b,mdE b,false) | none=>.inl ()):=by
 have hs:∀ (k:Nat) x,b.made[k]?=some x→gw0 (lvE b) (atE b) (a:Int) (ints live) (mdE b) ns ls false k=some (if decide (x.1=(a,live)) then .inr (.inr ((x.2:Int),ns,ls,atE b,lvE b,mdE b,false)) else .inl ((k+1:Nat):Int)):=fun k x hx=>by
  have hkl:=(qA.1 hx).1;have l1:(atE b).length=b.made.length:=by simp[atE]
  have l2:(lvE b).length=b.made.length:=by simp[lvE]
  have l3:(mdE b).length=b.made.length:=by simp[mdE]
  have hlt:(k:Int)<(lvE b).length:=by omega
  have g1:(atE b)[k]?=some (x.1.1:Int):=by simp[atE,hx]
  have g2:(lvE b)[k]?=some (ints x.1.2):=by simp[lvE,hx]
  have g3:(mdE b)[k]?=some (x.2:Int):=by simp[mdE,hx]
  have hq:=qi2 (ints x.1.2) (ints live) (by rw[qg0];exact hl x (qK hx));simp only[gw0,qm0,qv0,hlt,decide_true,cond_true,rix (show k<(atE b).length by omega),rix (show k<(lvE b).length by omega),rix (show k<(mdE b).length by omega),g1,g2,g3,qC,wv0,hq,qr0,zc0 (k:=k) (by omega)];by_cases h1:x.1.1=a
  ·have h1':((x.1.1:Nat):Int)=(a:Int):=by omega
   by_cases h2:x.1.2=live
   ·have h3:x.1=(a,live):=Prod.ext h1 h2;simp only[h1',h2,h3,decide_true,cond_true,qC,if_true]
   ·have h2':¬ ints x.1.2=ints live:=fun e=>h2 (nw0 e)
    have h3:¬ x.1=(a,live):=fun e=>h2 (by rw[e])
    simp only[h1',h2',h3,decide_true,decide_false,cond_true,cond_false,qC,Bool.false_eq_true,if_false]
  ·have h1':¬ ((x.1.1:Nat):Int)=(a:Int):=by omega
   have h3:¬ x.1=(a,live):=fun e=>h1 (by rw[e])
   simp only[h1',h3,decide_false,cond_false,qC,Bool.false_eq_true,if_false]
 have he:gw0 (lvE b) (atE b) (a:Int) (ints live) (mdE b) ns ls false (b.made.length:Int)=some (.inr (.inl ())):=by
  have hlt:¬ ((b.made.length:Int)<(lvE b).length):=by simp[lvE]
  simp only[gw0,qm0,qv0,hlt,decide_false,cond_false]
 rcases dd0 (step:=gw0 (lvE b) (atE b) (a:Int) (ints live) (mdE b) ns ls false) b.made (fun x=>decide (x.1=(a,live))) (fun _ x=>.inr ((x.2:Int),ns,ls,atE b,lvE b,mdE b,false)) (.inl ()) hs he with ⟨k,x,h1,h2,h3,h4⟩ | ⟨h1,h2⟩
 ·obtain⟨y,v⟩:=x;have hy:y=(a,live):=of_decide_eq_true h2;subst hy;rw[h4,ep0 h1 fun j z hj hz e=>by
   have:=h3 j z hj hz;rw[e] at this;simp at this]
 ·rw[h2,ie0 fun hm=>by
   obtain⟨x,hx,e⟩:=List.mem_map.1 hm;have:=h1 x hx;rw[e] at this;simp at this]
theorem Inv.mlen {p:Policy}{b:Bs Decision}{s:Nat}(h:Inv wy0 (ql0 p) (nr1 p) b s):b.made.length≤10 * 2 ^ (qh0 p).length:=by
 have:=rw0 (l:=b.made.map (·.1)) (m:=(List.range 10).flatMap fun a=>(subs (List.range (ql0 p).nz)).map fun l=>(a,l)) h.keys fun k hk=>by
  obtain⟨⟨⟨a,live⟩,n⟩,hm,rfl⟩:=List.mem_map.1 hk;obtain⟨k1,k2,k3,⟨f,k4⟩,k5⟩:=h.made a live n hm;exact List.mem_flatMap.2 ⟨a,List.mem_range.2 k3,List.mem_map.2 ⟨live,xv1 (k4▸List.filter_sublist),rfl⟩⟩
 rw[qW,List.length_flatMap] at this;simp only[qW,iz0,List.length_range] at this;have e:(ql0 p).nz=(qh0 p).length:=rfl;rw[e] at this;have e2:∀ c:Nat,((List.range 10).map fun _=>c).sum=10 * c:=fun c=>by simp[List.range,List.range.loop];omega
 rw[e2] at this;exact this
theorem ve1 {p:Policy}(G:PG p)(hz10:(qh0 p).length≤10):∀ (r a:Nat)(live:List Nat)(f:A10 Int)(b:Bs Decision),a+r=10→kt1 p b→live=(List.range (ql0 p).nz).filter ((ql0 p).Pre a (toF f)) →
  iw0 p.Rules (qh0 p) (r+1) (a:Int) (ints live) f (qs0 b) b.tab.ls (atE b) (lvE b) (mdE b) false=some (fw1 (make (ql0 p) r a live (toF f) b))
 | 0,a,live,f,b,har,hb,hlive=>by
  obtain rfl:a=10:=by omega
  have e:(ql0 p).dec (toF f)=ma0 p f:=by show ma0 p (toA (toF f))=_;rw[sk1]
  have hdec:kx0 (Policy.mk p.Rules) f=some (ma0 p f):=fy1 p f G.rules G.zones;obtain⟨hns,hls⟩:=G.bnd b hb;obtain⟨m1,-,-,-,-,-⟩:=fb0 an0 (li0 p) 0 10 live (toF f) b rfl hb hlive;obtain⟨n1,-⟩:=G.bnd _ m1;simp only[make,e] at n1 ⊢;have hkn:∀ M∈b.tab.ns,M.cuts.length≤2000000000∧M.kids.length≤2000000000:=fun M hM=>by
   obtain⟨x,hx⟩:=List.getElem?_of_mem hM;have hxl:=(qA.1 hx).1;have en:b.tab.nd x=M:=by unfold Tab.nd;rw[qM,hx];rfl
   have:=oz0 hb.ok hxl;rw[en] at this;have F:=hb.ok.fine x hxl;rw[en] at F;by_cases hk:M.kids=[]
   ·rw[(F.leaf hk).1,hk];simp
   ·have:=(F.inner hk).2.2.1;omega
  have hw:=nu1 p.Rules (qh0 p) (b:=b) (ma0 p f) hb.ok.ldup hls hkn hns n1;show af0 p.Rules (qh0 p) (iw0 p.Rules (qh0 p) 0) ((10:Nat):Int) (ints live) f (qs0 b) b.tab.ls (atE b) (lvE b) (mdE b) false=_;have e10:((10:Nat):Int)=10:=rfl;simp only[af0,cond_false,wv0,e10,decide_true,cond_true,hdec,qC,hw]
 | r+1,a,live,f,b,har,hb,hlive=>by
  have ha:a<10:=by omega
  have hsub:live.Sublist (List.range (ql0 p).nz):=hlive▸List.filter_sublist;have hnz:(ql0 p).nz=(qh0 p).length:=rfl;have hl:∀ z∈live,z<(qh0 p).length:=fun z hz=>by simpa [hnz] using hsub.subset hz
  have hn:live.length≤1000:=by have:=hsub.length_le;rw[List.length_range,hnz] at this;omega
  obtain⟨hns,hls⟩:=G.bnd b hb;have p10:2 ^ (qh0 p).length≤1024:=by
   have:=Nat.pow_le_pow_right (show 0<2 by omega) hz10;omega
  have hml:=Inv.mlen hb;have hmd:∀ {b':Bs Decision},kt1 p b'→∀ x∈b'.made,x.1.2.length≤1000000000:=fun {b'} h' x hx=>by
   obtain⟨⟨a',l'⟩,n'⟩:=x;obtain⟨-,-,-,⟨g,k4⟩,-⟩:=h'.made a' l' n' hx;have h1:l'.length≤(List.range (ql0 p).nz).length:=k4▸List.length_filter_le _ _;rw[List.length_range,hnz] at h1;show l'.length≤_;omega
  have ha10:¬ ((a:Int)=10):=by omega
  obtain⟨ms1,-,-,-,-,-⟩:=fb0 an0 (li0 p) (r+1) a live (toF f) b har hb hlive;obtain⟨mn1,-⟩:=G.bnd _ ms1;show af0 p.Rules (qh0 p) (iw0 p.Rules (qh0 p) (r+1)) (a:Int) (ints live) f (qs0 b) b.tab.ls (atE b) (lvE b) (mdE b) false=_;simp only[make] at mn1 ⊢;simp only[af0,cond_false,wv0,ha10,decide_false,gt1 a live (by omega) (hmd hb) (qs0 b) b.tab.ls]
  cases hm:Tb.look b.made (a,live) with
  | some n=>rfl
  | none =>
   rw[hm] at mn1;dsimp only at mn1 ⊢;have hno:=pu0 hm;obtain⟨cs,hcs,hst⟩:=bq1 p.Rules G.zok ha hl hn (qs0 b) b.tab.ls (atE b) (lvE b) (mdE b) false;have hlen:=ls0 (qh0 p) a live;obtain⟨l',hl',hasc,-⟩:=bq0 (qh0 p) a live;have hlb:∀ c∈wy0.lo a::cs,wy0.lo a≤c∧c≤wy0.hi a:=fun c hc=>by
    have:=(gr0 a).2.1;rw[← hst,hl'] at hc;rcases List.mem_cons.1 hc with rfl | hc
    ·omega
    ·have:=lw0 hasc c hc;omega
   have hcl:cs.length≤1000000:=by rw[hst,zD] at hlen;omega
   simp only[orR,qC,hcs];have hstp:(ql0 p).starts a live=wy0.lo a::cs:=hst;rw[hstp] at mn1 ⊢;generalize hFd:(fun c b=>make (ql0 p) r (a+1) (live.filter fun z=>(ql0 p).at z a c) (upd (toF f) a c) b)=F at mn1 ⊢;have hpre:∀ c,(live.filter fun z=>(ql0 p).at z a c)=(List.range (ql0 p).nz).filter ((ql0 p).Pre (a+1) (upd (toF f) a c)):=fun c=>by
    rw[hlive,List.filter_filter];exact List.filter_congr fun z _=>(ic0 ha (toF f) c z).symm
   have hF:kn1 wy0 (ql0 p) (nr1 p) a (fun c g=>sem (ql0 p) (nr1 p) (a+1) (live.filter fun z=>(ql0 p).at z a c) g) F:=fun c b _ _ hb=>by
    subst hFd;exact fb0 an0 (li0 p) r (a+1) _ (upd (toF f) a c) b (by omega) hb (hpre c)
   have hrec:∀ c b,wy0.lo a≤c→c≤wy0.hi a→kt1 p b→iw0 p.Rules (qh0 p) (r+1) ((a+1:Nat):Int) (ints (live.filter fun z=>(ql0 p).at z a c)) (f.put a c) (qs0 b) b.tab.ls (atE b) (lvE b) (mdE b) false=some (fw1 (F c b)):=fun c b _ _ hb=>by
    subst hFd;have:=ve1 G hz10 r (a+1) (live.filter fun z=>(ql0 p).at z a c) (f.put a c) b (by omega) hb (by rw[iq0 f ha c];exact hpre c);rw[this,iq0 f ha c]
   obtain⟨⟨b2,f2,C,K⟩,hloop,hKI⟩:=ga1 (rec:=iw0 p.Rules (qh0 p) (r+1)) ha hl (by omega) hF hcl hlb hrec hb;obtain⟨keq,kinv,-,kcl,kkl,-,knz,klt,kcm,kkeys,kext⟩:=hKI;simp only at hloop keq kinv kcl kkl knz klt kcm kkeys kext;rw[List.take_of_length_le (by simp)] at keq;rw[hloop,keq];rw[keq] at mn1;have hK:=knz (by omega);obtain⟨hns2,hls2⟩:=G.bnd b2 kinv;have hml2:=Inv.mlen kinv;have l1:(atE b2).length=b2.made.length:=by simp[atE]
   have l2:(lvE b2).length=b2.made.length:=by simp[lvE]
   have l3:(mdE b2).length=b2.made.length:=by simp[mdE]
   have ap1:∀ x:Int,appG (atE b2) [x]=some (atE b2++[x]):=fun x=>qo0 (by simp;omega)
   have ap2:∀ x:List Int,appG (lvE b2) [x]=some (lvE b2++[x]):=fun x=>qo0 (by simp;omega)
   have ap3:∀ x:Int,appG (mdE b2) [x]=some (mdE b2++[x]):=fun x=>qo0 (by simp;omega)
   cases K with
   | nil=>exact absurd rfl hK
   | cons n0 K' =>
    have hr0:gq0 (ints (n0::K')) 0=some 0:=rix (k:=0) (by rw[qg0];simp);have hg0:(ints (n0::K'))[0]?=some (n0:Int):=rfl;simp only[qC,hr0,hg0,qm0,qv0,qg0]
    cases K' with
    | nil =>
     have h1:¬ ((1:Int)<(([n0]:List Nat).length:Int)):=by simp
     simp only[h1,decide_false,cond_false,qC,ap1,ap2,ap3,fw1];simp[atE,qs0,lvE,mdE]
    | cons n1 K'' =>
     have h1:(1:Int)<((n0::n1::K'':List Nat).length:Int):=by simp;omega
     have hkn:∀ M∈b2.tab.ns,M.cuts.length≤2000000000∧M.kids.length≤2000000000:=fun M hM=>by
      obtain⟨x,hx⟩:=List.getElem?_of_mem hM;have hxl:=(qA.1 hx).1;have en:b2.tab.nd x=M:=by unfold Tab.nd;rw[qM,hx];rfl
      have:=oz0 kinv.ok hxl;rw[en] at this;have F:=kinv.ok.fine x hxl;rw[en] at F;by_cases hk:M.kids=[]
      ·rw[(F.leaf hk).1,hk];simp
      ·have:=(F.inner hk).2.2.1;omega
     have hw:=ei0 p.Rules (qh0 p) (b:=b2) ⟨a,C,n0::n1::K'',0⟩ hkn hns2 mn1;obtain⟨k1,k2⟩:=ly0 (b:=b2) ⟨a,C,n0::n1::K'',0⟩;have e:(Node.mk (a:Int) C (ints (n0::n1::K'')) 0)=zq0 ⟨a,C,n0::n1::K'',0⟩:=rfl;have q1:atE (addN b2 ⟨a,C,n0::n1::K'',0⟩).1=atE b2:=by simp only[atE,k1]
     have q2:lvE (addN b2 ⟨a,C,n0::n1::K'',0⟩).1=lvE b2:=by simp only[lvE,k1]
     have q3:mdE (addN b2 ⟨a,C,n0::n1::K'',0⟩).1=mdE b2:=by simp only[mdE,k1]
     simp only[h1,decide_true,cond_true,e,hw,qC,fw1,q1,q2,q3,ap1,ap2,ap3];simp[atE,lvE,mdE,qs0,k1]
end Go.SX.Td
namespace Go.SX.Td
open Go Go.SX Tb
theorem my1 : ∀ (l:List Int)(lo hi:Int),Asc lo hi l↔∀ (k:Nat)(c:Int),l[k]?=some c→lo<c∧c≤hi∧∀ d,0<k→l[k - 1]?=some d→d<c
 | [],lo,hi=>⟨fun _ k c h=>(by cases h),fun _=>trivial⟩
 | x::l,lo,hi=>by
  rw[Asc,my1 l x hi]
  constructor
  ·rintro ⟨h1,h2,h3⟩ k c hk
   match k,hk with
   | 0,hk=>cases hk;exact⟨h1,h2,fun d h0=>absurd h0 (Nat.lt_irrefl 0)⟩
   | k+1,hk =>
    obtain⟨a,b,e⟩:=h3 k c hk;refine⟨by omega,b,fun d _ hd=>?_⟩
    match k,hd with
    | 0,hd=>cases hd;exact a
    | k+1,hd=>exact e d (Nat.succ_pos k) hd
  ·intro h;obtain⟨a,b,_⟩:=h 0 x rfl;refine⟨a,b,fun k c hk=>?_⟩;obtain⟨_,b',e'⟩:=h (k+1) c hk;refine⟨?_,b',fun d hk0 hd=>e' d (Nat.succ_pos k) ?_⟩
   ·have up:∀ (j:Nat)(y:Int),l[j]?=some y→x<y:=by
     intro j
     induction j with
     | zero=>intro y hy;exact(h 1 y hy).2.2 x (Nat.succ_pos 0) rfl
     | succ j ih =>
      intro y hy;have hj:=(qA.1 hy).1;obtain⟨z,hz⟩:∃ z,l[j]?=some z:=⟨_,qD (by omega)⟩;have:=ih z hz;have:=(h (j+2) y hy).2.2 z (by omega) hz;omega
    exact up k c hk
   ·obtain⟨k,rfl⟩:∃ j,k=j+1:=⟨k - 1,by omega⟩;exact hd
theorem fx1 (N:Node)(lo hi:Int)(hn:N.Cuts.length≤100000):∃ b,qw0 (wi0 N lo hi) 0=some (if b=true then .inl () else .inr false)∧(b=true↔Asc lo hi N.Cuts):=by
 let bad:Nat→Bool:=fun k=>match N.Cuts[k]? with
  | some c=>decide (c≤lo)||(decide (hi<c)||(decide (0<k)&&(match N.Cuts[k - 1]? with | some d=>decide (c≤d) | none=>false)))
  | none=>false
 have h:=xq0 (step:=wi0 N lo hi) N.Cuts.length bad (.inr false) (.inl ()) (fun k hk=>by
  have hx:N.Cuts[k]?=some N.Cuts[k]:=by simp[hk]
  generalize N.Cuts[k]=c at hx;have hlt:(k:Int)<N.Cuts.length:=by omega
  simp only[wi0,qm0,qv0,hlt,decide_true,cond_true,qx0 hx,qC,xx0,qr0,zc0 (k:=k) (by omega),bad,hx];by_cases h1:c≤lo
  ·simp[h1]
  ·by_cases h2:hi<c
   ·simp[h1,h2]
   ·by_cases h3:0<k
    ·obtain⟨d,hd⟩:∃ d,N.Cuts[k - 1]?=some d:=⟨_,qD (by omega)⟩;have hk1:io.ar .sub .i64 (k:Int) 1=((k - 1:Nat):Int):=by
      rw[ge0,nt0 (by omega) (by omega)];omega
     have h3':(0:Int)<(k:Int):=by omega
     simp only[h1,h2,h3,h3',decide_false,decide_true,cond_false,cond_true,Bool.false_or,Bool.true_and,hk1,qx0 hd,qC,hd];by_cases h4:c≤d<;>simp[h4]
    ·have h3':¬ (0:Int)<(k:Int):=by omega
     simp[h1,h2,h3,h3']) (by simp[wi0,qm0,qv0])
 refine⟨!(List.range N.Cuts.length).any bad,?_,?_⟩
 ·rw[h];cases (List.range N.Cuts.length).any bad<;>rfl
 ·rw[my1,Bool.not_eq_true',List.any_eq_false]
  constructor
  ·intro hb k c hk;have hl:=(qA.1 hk).1;have:=hb k (List.mem_range.2 hl);simp only[bad,hk,Bool.or_eq_true,qJ,qZ,not_or,not_and] at this;refine⟨by omega,by omega,fun d h0 hd=>?_⟩;have h3:=this.2.2 h0;rw[hd] at h3
   simpa using h3
  ·intro hb k hk;have hl:=List.mem_range.1 hk;obtain⟨c,hc⟩:∃ c,N.Cuts[k]?=some c:=⟨_,qD hl⟩;obtain⟨a,b,e⟩:=hb k c hc;simp only[bad,hc,Bool.or_eq_true,qJ,qZ,not_or,not_and];refine⟨by omega,by omega,fun h0=>?_⟩;split
   ·rename_i d hd;have:=e d h0 hd
    simpa using this
   ·simp
theorem ge1 (T:Table)(N:Node)(hn:N.Cuts.length≤100000):vk0 T N=wx0 T N:=by
 have hloop:∀ lo hi:Int,qw0 (wi0 N lo hi) 0=qw0 (zx0 N hi) (lo,0):=fun lo hi=>by
  obtain⟨b,h1,h2⟩:=fx1 N lo hi hn;obtain⟨b',h3,h4⟩:=wy1 ⟨0,N.Cuts,[],0⟩ lo hi hn;have e:b=b':=by rw[Bool.eq_iff_iff,h2,h4]
  have h3':qw0 (zx0 N hi) (lo,0)=some (if b'=true then .inl () else .inr false):=h3;rw[h1,h3',e]
 unfold vk0 wx0;have hl:(zr0:Option (A10 Range))=zo0:=gy0.trans uu0.symm;rw[hl];simp only[hloop];have hk:ut0 N T=zp0 N T:=rfl;rw[hk]
 cases io.eq (io.len (W qq0 N.Kids)) 0 with
 | true=>rfl
 | false =>
  simp only[cond_false];congr 1
  cases io.lt N.Attr 0 with
  | true=>rfl
  | false =>
   cases io.le 10 N.Attr with
   | true=>rfl
   | false =>
    cases io.not (io.eq N.Leaf 0) with
    | true=>rfl
    | false =>
     simp only[cond_false];cases io.eq (io.len (W qq0 N.Cuts)) 0<;>cases io.not (io.eq (io.len (W qq0 N.Kids)) (io.ar .add .i64 (io.len (W qq0 N.Cuts)) 1))<;>rfl
end Go.SX.Td
namespace Go.SX.Td
open Go Go.SX Tb
def rlv (T:Table)(k:Nat):Nat:=((T.Nodes.take k).filter fun n=>n.Kids.isEmpty).length
theorem vi1 {T:Table}{k:Nat}{N:Node}(h:T.Nodes[k]?=some N):rlv T (k+1)=if N.Kids=[] then rlv T k+1 else rlv T k:=by
 rw[rlv,rlv,qS,h,zB,List.filter_append,qN]
 cases hk:N.Kids with
 | nil=>simp[hk]
 | cons a l=>simp[hk]
theorem al1 {T:Table}(S:SmallT T){i:Nat}{N:Node}(hi:T.Nodes[i]?=some N) :
  qw0 (yi0 (i:Int) T) 0=some (if (T.Nodes.take i).any (fun M=>decide (N=M)) then .inr (.inr (.inr (.inr false))) else .inl ()):=by
 have hil:=(qA.1 hi).1;have hN:=S.nodes;have hs:=S.node N (qK hi);have hlen:(T.Nodes.take i).length=i:=by rw[qR];omega
 refine gh0 (step:=yi0 (i:Int) T) (T.Nodes.take i) (fun M=>decide (N=M)) _ _ (fun k M hk=>?_) ?_
 ·have hkl:=(qA.1 hk).1;rw[List.getElem?_take_of_lt (by omega)] at hk;have hlt:(k:Int)<(i:Int):=by omega
  simp only[yi0,qm0,hlt,decide_true,cond_true,qx0 hi,qx0 hk,qC,nl0 N M (by have:=hs.cuts;omega) (by have:=hs.kids;omega),qr0,zc0 (k:=k) (by omega)];by_cases h:N=M<;>simp[h]
 ·rw[hlen];have hlt:¬ (i:Int)<(i:Int):=by omega
  simp only[yi0,qm0,hlt,decide_false,cond_false]
def ROk (T:Table)(k:Nat):Prop:=∀ j N,j<k→T.Nodes[j]?=some N→wx0 T N=some true∧(∀ i M,i<j→T.Nodes[i]?=some M→M≠N)∧(N.Kids=[]→N.Leaf=(rlv T j:Nat))
theorem bp0 {T:Table}(S:SmallT T):∃ r,qw0 (yo0 T) (0,0)=some r∧((r=.inl ((rlv T T.Nodes.length:Nat):Int)∧ROk T T.Nodes.length)∨(r=.inr false∧¬ ROk T T.Nodes.length)):=by
 refine yq0 (step:=yo0 T) (fun (s:Int) i=>(s,i)) T.Nodes.length (fun k s=>s=(rlv T k:Nat)∧ROk T k)
  (fun r=>(r=.inl ((rlv T T.Nodes.length:Nat):Int)∧ROk T T.Nodes.length)∨(r=.inr false∧¬ ROk T T.Nodes.length)) (fun k s hk hI=>?_) (fun s hI=>?_) 0 ⟨rfl,fun j N hj=>absurd hj (Nat.not_lt_zero j)⟩
 ·obtain⟨rfl,hok⟩:=hI;have hn:=S.nodes;obtain⟨N,hN⟩:∃ N,T.Nodes[k]?=some N:=⟨_,qD hk⟩;have hs:=S.node N (qK hN);obtain⟨b,hb,_⟩:=mj0 S hs;have hlt:(k:Int)<T.Nodes.length:=by omega
  have hrl:rlv T k≤60:=by
   have:=List.length_filter_le (fun n:Node=>n.Kids.isEmpty) (T.Nodes.take k);rw[qR] at this;rw[rlv];omega
  have hkids:(io.eq (io.len (W qq0 N.Kids)) 0)=decide (N.Kids=[]):=by
   rw[wv0,qv0]
   cases N.Kids with
   | nil=>rfl
   | cons a l=>simp;omega
  simp only[yo0,qm0,qv0,hlt,decide_true,cond_true,qx0 hN,qC,ge1 T N (by have:=hs.cuts;omega),hb,wu0,al1 S hN,hkids,wv0,qr0,zc0 (k:=k) (by omega),zc0 (k:=rlv T k) (by omega)]
  cases b with
  | false =>
   refine .inr ⟨.inr false,by simp[orR],.inr ⟨rfl,fun h=>?_⟩⟩;have:=(h k N hk hN).1;rw[hb] at this;cases this
  | true =>
   by_cases hd:(T.Nodes.take k).any (fun M=>decide (N=M))=true
   ·refine .inr ⟨.inr false,by simp[orR,hd],.inr ⟨rfl,fun h=>?_⟩⟩;obtain⟨M,hM,he⟩:=zK.1 hd;obtain⟨i,hi⟩:=List.getElem?_of_mem hM;have hil:=(qA.1 hi).1;rw[qR] at hil;rw[List.getElem?_take_of_lt (by omega)] at hi;exact(h k N hk hN).2.1 i M (by omega) hi (of_decide_eq_true he).symm
   ·have hnd:∀ i M,i<k→T.Nodes[i]?=some M→M≠N:=fun i M hi hM e=>hd (zK.2 ⟨M,qK (i:=i) (by rw[List.getElem?_take_of_lt hi];exact hM),by simp[e]⟩)
    have hd:(T.Nodes.take k).any (fun M=>decide (N=M))=false:=Bool.eq_false_iff.2 hd;rw[hd];have next:(N.Kids=[]→N.Leaf=(rlv T k:Nat))→ROk T (k+1):=fun hl j M hj hM=>by
     rcases Nat.lt_or_ge j k with h | h
     ·exact hok j M h hM
     ·have:j=k:=by omega
      subst this;rw[hN] at hM;cases hM;exact⟨hb,hnd,hl⟩
    by_cases hk0:N.Kids=[]
    ·by_cases hl:N.Leaf=(rlv T k:Nat)
     ·refine .inl ⟨((rlv T k+1:Nat):Int),by simp[orR,hk0,hl],?_,next fun _=>hl⟩;rw[vi1 hN,if_pos hk0]
     ·refine .inr ⟨.inr false,by simp[orR,hk0,hl],.inr ⟨rfl,fun h=>hl ((h k N hk hN).2.2 hk0)⟩⟩
    ·refine .inl ⟨((rlv T k:Nat):Int),by simp[orR,hk0],?_,next fun h=>absurd h hk0⟩;rw[vi1 hN,if_neg hk0]
 ·obtain⟨rfl,hok⟩:=hI;have hlt:¬ ((T.Nodes.length:Int)<T.Nodes.length):=by omega
  exact⟨_,by simp only[yo0,qm0,qv0,hlt,decide_false,cond_false],.inl ⟨rfl,hok⟩⟩
end Go.SX.Td
namespace Go.SX.Td
open Go Go.SX Tb
theorem gn1 {T:Table}(S:SmallT T){i:Nat}{d:Decision}(hi:T.Leaves[i]?=some d) :
  qw0 (ya0 (i:Int) T) 0=some (if (T.Leaves.take i).any (fun e=>jb0 d e) then .inr (.inr (.inr false)) else .inl ()):=by
 have hil:=(qA.1 hi).1;have hN:=S.leaves;have hlen:(T.Leaves.take i).length=i:=by rw[qR];omega
 refine gh0 (step:=ya0 (i:Int) T) (T.Leaves.take i) (fun e=>jb0 d e) _ _ (fun k e hk=>?_) ?_
 ·have hkl:=(qA.1 hk).1;rw[List.getElem?_take_of_lt (by omega)] at hk;have hlt:(k:Int)<(i:Int):=by omega
  simp only[ya0,qm0,hlt,decide_true,cond_true,qx0 hi,qx0 hk,qC,qr0,zc0 (k:=k) (by omega)];cases jb0 d e<;>simp
 ·rw[hlen];have hlt:¬ (i:Int)<(i:Int):=by omega
  simp only[ya0,qm0,hlt,decide_false,cond_false]
theorem zq1 {T:Table}(S:SmallT T)(hq:∀ a b:Decision,jb0 a b=decide (a=b)):∃ r,qw0 (ye0 T) 0=some r∧((r=.inl ()∧T.Leaves.Nodup)∨(r=.inr false∧¬ T.Leaves.Nodup)):=by
 have hN:=S.leaves
 let p:Nat→Bool:=fun i=>match T.Leaves[i]? with | some d=>(T.Leaves.take i).any fun e=>jb0 d e | none=>false
 have h:=xq0 (step:=ye0 T) T.Leaves.length p (.inr false) (.inl ()) (fun k hk=>by
  obtain⟨d,hd⟩:∃ d,T.Leaves[k]?=some d:=⟨_,qD hk⟩;have hlt:(k:Int)<T.Leaves.length:=by omega
  simp only[ye0,qm0,qv0,hlt,decide_true,cond_true,gn1 S hd,qr0,zc0 (k:=k) (by omega),p,hd];cases (T.Leaves.take k).any (fun e=>jb0 d e)<;>simp[orR]) (by simp[ye0,qm0,qv0])
 have iff:(List.range T.Leaves.length).any p=false↔T.Leaves.Nodup:=by
  rw[List.any_eq_false,List.Nodup,List.pairwise_iff_getElem]
  constructor
  ·intro hb i j hi hj hij e;have:=hb j (List.mem_range.2 hj);simp only[p,qD hj,Bool.not_eq_true,List.any_eq_false] at this;have h9:=this T.Leaves[i] (qK (i:=i) (by rw[List.getElem?_take_of_lt hij,qD hi]));rw[hq,e,qL rfl] at h9;cases h9
  ·intro hb j hj;have hj:=List.mem_range.1 hj;simp only[p,qD hj,Bool.not_eq_true,List.any_eq_false];intro e he;rw[hq];refine qI fun hqe=>?_
   obtain⟨i,hi⟩:=List.getElem?_of_mem he;have hil:=(qA.1 hi).1;rw[qR] at hil;rw[List.getElem?_take_of_lt (by omega)] at hi;obtain⟨h1,h2⟩:=qA.1 hi;exact hb i j h1 hj (by omega) (h2.trans hqe.symm)
 cases hany:(List.range T.Leaves.length).any p with
 | false=>exact⟨_,h,.inl ⟨by rw[hany];rfl,iff.1 hany⟩⟩
 | true=>exact⟨_,h,.inr ⟨by rw[hany];rfl,fun hn=>by rw[iff.2 hn] at hany;cases hany⟩⟩
end Go.SX.Td
namespace Go.SX.Td
open Go Go.SX Tb
theorem ne0 {kids:Nat→List Nat}{lv:Nat→Nat}{N:Nat}(hk:∀ x,x<N→∀ k∈kids x,k<N∧lv x<lv k)(hl:∀ x,x<N→lv x≤10):∀ (n m x:Nat)(o:List Nat),x<N→10<n+lv x→10<m+lv x→walk kids n x o=walk kids m x o
 | 0,m,x,o,hx,h1,_=>by have:=hl x hx;omega
 | n+1,0,x,o,hx,_,h2=>by have:=hl x hx;omega
 | n+1,m+1,x,o,hx,h1,h2=>by
  have hf:∀ (l:List Nat),(∀ k∈l,k<N∧lv x<lv k)→∀ o,l.foldl (fun o k=>walk kids n k o) o=l.foldl (fun o k=>walk kids m k o) o:=by
   intro l
   induction l with
   | nil=>intro _ o;rfl
   | cons k l ih =>
    intro hl' o;obtain⟨a,b⟩:=hl' k List.mem_cons_self;rw[qT,qT,ne0 hk hl n m k o a (by omega) (by omega)];exact ih (fun k hk=>hl' k (zF _ hk)) _
  rw[walk,walk,hf (kids x) (hk x hx)]
theorem ay1 {t:Tab Decision}(hkl:∀ x,x<t.ns.length→∀ k∈(t.nd x).kids,k<t.ns.length∧lev (t.nd x)<lev (t.nd k))(hlv:∀ x,x<t.ns.length→lev (t.nd x)≤10)(hb:∀ n∈t.ns,Bd n)(hN:t.ns.length≤20000)(hp:0<t.ns.length) :
  qw0 (yr0 (kb0 t)) ([0],0)=some (ints (walk (qi0 t) 11 0 [])):=by
 have hgx:zf0 (kb0 t).Nodes 0=some (zq0 (t.nd 0)):=qx0 (k:=0) (kw0 hp);have hmem:t.nd 0∈t.ns:=by unfold Tab.nd;rw[qM,qD hp];exact zJ _
 have h62:walk (qi0 t) 11 0 []=(t.nd 0).kids.foldl (fun o k=>walk (qi0 t) 61 k o) [0]:=by
  rw[ne0 (kids:=qi0 t) (lv:=fun x=>lev (t.nd x)) (N:=t.ns.length) hkl hlv 11 62 0 [] hp (by omega) (by omega)];rw[walk,if_neg (by simp)];rfl
 have hgood:∀ k,k≤(t.nd 0).kids.length→(((t.nd 0).kids.take k).foldl (fun o k=>walk (qi0 t) 61 k o) [0]).Nodup∧∀ y∈((t.nd 0).kids.take k).foldl (fun o k=>walk (qi0 t) 61 k o) [0],y<t.ns.length:=by
  intro k
  induction k with
  | zero=>intro _;simp only[List.take_zero,List.foldl_nil];exact⟨by simp,fun y hy=>by rw[zH.1 hy];exact hp⟩
  | succ k ih =>
   intro hk;obtain⟨i1,i2⟩:=ih (by omega);have hg:(t.nd 0).kids[k]?=some (t.nd 0).kids[k]:=by simp
   rw[qS,hg,zB,List.foldl_append];simp only[qT,List.foldl_nil];obtain⟨k1,k2⟩:=hkl 0 hp _ (qK hg);obtain⟨w1,-⟩:=xg0 (kids:=qi0 t) (lv:=fun x=>lev (t.nd x)) (N:=t.ns.length) hkl 61 _ (((t.nd 0).kids.take k).foldl (fun o k=>walk (qi0 t) 61 k o) [0]) k1 (by omega) (hlv _ k1) hlv;exact⟨w1.nod i1,fun y hy=>(w1.lt y hy).elim (i2 y) id⟩
 rw[h62];refine wt0 (step:=yr0 (kb0 t)) (fun (s:List Nat) i=>(ints s,i)) (t.nd 0).kids (fun o k=>walk (qi0 t) 61 k o) [0] _ (fun k y hy=>?_) ?_
 ·have hk:k<(t.nd 0).kids.length:=(qA.1 hy).1;obtain⟨g1,g2⟩:=hgood k (by omega);obtain⟨k1,k2⟩:=hkl 0 hp y (qK hy);have hlt:(k:Int)<(ints (t.nd 0).kids).length:=by rw[qg0];omega
  have e:iv0 (kb0 t).Nodes (kb0 t).Leaves 61 (y:Int) (ints (((t.nd 0).kids.take k).foldl (fun o k=>walk (qi0 t) 61 k o) [0]))=_:=ik0 t.ls hkl hlv hb hN 61 y _ k1 (by omega) g1 g2;simp only[yr0,hgx,qC,qm0,qv0,zq0,hlt,decide_true,cond_true,qx0 (wm0 hy),e,qr0,zc0 (show k<9223372036854775807 by have:=(hb _ hmem).kids;omega)]
 ·have hlt:¬ (((t.nd 0).kids.length:Int)<(ints (t.nd 0).kids).length):=by rw[qg0];omega
  simp only[yr0,hgx,qC,qm0,qv0,zq0,hlt,decide_false,cond_false]
end Go.SX.Td
namespace Go.SX.Td
open Go Go.SX Tb
theorem qn1 {p:Policy}{i:Nat}{r:Rule}(hr:p.Rules[i]?=some r)(z0:Zs)(hz:z0.length+r.Zones.length≤1000000) :
  qw0 (jx0 p (i:Int)) (z0,ints (List.range z0.length),0)=some (z0++r.Zones,ints (List.range (z0++r.Zones).length)):=by
 have hf:∀ (l s:Zs),l.foldl (fun (s:Zs) z=>s++[z]) s=s++l:=by
  intro l
  induction l with
  | nil=>intro s;simp
  | cons z l ih=>intro s;rw[qT,ih];simp
 have hgr:zf0 p.Rules (i:Int)=some r:=qx0 hr;have h:=wt0 (step:=jx0 p (i:Int)) (fun (s:Zs) j=>(s,ints (List.range s.length),j)) r.Zones (fun s z=>s++[z]) z0 (z0++r.Zones,ints (List.range (z0++r.Zones).length)) (fun k z hk=>?_) ?_
 ·exact h
 ·have hkl:=(qA.1 hk).1;rw[hf];have hlt:(k:Int)<r.Zones.length:=by omega
  have hl:(z0++r.Zones.take k).length≤1000000:=by rw[qN,qR];omega
  generalize z0++r.Zones.take k=s at hl;have a1:appG (ints (List.range s.length)) [(s.length:Int)]=some (ints (List.range (s++[z]).length)):=by
   rw[qo0 (by rw[qg0,List.length_range];simp;omega),qN,zL,List.range_succ];simp[ints]
  have a2:appG s [z]=some (s++[z]):=qo0 (by simp;omega);simp only[jx0,hgr,qC,qm0,qv0,hlt,decide_true,cond_true,a1,qx0 hk,a2,qr0,zc0 (k:=k) (by omega)]
 ·rw[hf];have hlt:¬ ((r.Zones.length:Int)<r.Zones.length):=by omega
  simp only[jx0,hgr,qC,qm0,qv0,hlt,decide_false,cond_false]
theorem yo1 {p:Policy}(G:PG p):qw0 (jk0 p) ([],[],0)=some (qh0 p,ints (List.range (qh0 p).length)):=by
 have hf:∀ (l:List Rule)(s:Zs),l.foldl (fun (s:Zs)(r:Rule)=>s++r.Zones) s=s++l.flatMap (·.Zones):=by
  intro l
  induction l with
  | nil=>intro s;simp
  | cons z l ih=>intro s;rw[qT,ih];simp
 have hz:qh0 p=p.Rules.foldl (fun (s:Zs)(r:Rule)=>s++r.Zones) []:=by rw[hf];rfl
 rw[hz];refine wt0 (step:=jk0 p) (fun (s:Zs) j=>(s,ints (List.range s.length),j)) p.Rules (fun (s:Zs)(r:Rule)=>s++r.Zones) [] _ (fun k r hk=>?_) ?_
 ·have hkl:=(qA.1 hk).1;have hlt:(k:Int)<p.Rules.length:=by omega
  rw[hf,zE];have hlen:((p.Rules.take k).flatMap (·.Zones)).length+r.Zones.length≤1000000:=by
   have e2:qh0 p=(p.Rules.take (k+1)).flatMap (·.Zones)++(p.Rules.drop (k+1)).flatMap (·.Zones):=by
    rw[← List.flatMap_append,List.take_append_drop];rfl
   have e3:(p.Rules.take (k+1)).flatMap (·.Zones)=(p.Rules.take k).flatMap (·.Zones)++r.Zones:=by
    rw[qS,hk,zB,List.flatMap_append];simp
   have:=congrArg List.length e2;rw[e3,qN,qN] at this;have:=G.nz;omega
  have hr:=G.rules;simp only[jk0,qm0,qv0,hlt,decide_true,cond_true,qn1 hk _ hlen,qC,qr0,zc0 (k:=k) (by omega)]
 ·have hlt:¬ ((p.Rules.length:Int)<p.Rules.length):=by omega
  simp only[jk0,qm0,qv0,hlt,decide_false,cond_false]
theorem bi1 {t:Tab Decision}(hkl:∀ x,x<t.ns.length→∀ k∈(t.nd x).kids,k<t.ns.length∧lev (t.nd x)<lev (t.nd k))(hlv:∀ x,x<t.ns.length→lev (t.nd x)≤10)(hb:∀ n∈t.ns,Bd n)(hN:t.ns.length≤20000){x:Nat}(hx:x<t.ns.length) :
  qw0 (jj0 (t.ns.map zq0) (x:Int) t.ls) ([(x:Int)],0)=some (ints (walk (qi0 t) 11 x [])):=by
 have hgx:zf0 (t.ns.map zq0) (x:Int)=some (zq0 (t.nd x)):=qx0 (kw0 hx);have hmem:t.nd x∈t.ns:=by unfold Tab.nd;rw[qM,qD hx];exact zJ _
 have h62:walk (qi0 t) 11 x []=(t.nd x).kids.foldl (fun o k=>walk (qi0 t) 61 k o) [x]:=by
  rw[ne0 (kids:=qi0 t) (lv:=fun x=>lev (t.nd x)) (N:=t.ns.length) hkl hlv 11 62 x [] hx (by omega) (by omega)];rw[walk,if_neg (by simp)];rfl
 have hgood:∀ k,k≤(t.nd x).kids.length→(((t.nd x).kids.take k).foldl (fun o k=>walk (qi0 t) 61 k o) [x]).Nodup∧∀ y∈((t.nd x).kids.take k).foldl (fun o k=>walk (qi0 t) 61 k o) [x],y<t.ns.length:=by
  intro k
  induction k with
  | zero=>intro _;simp only[List.take_zero,List.foldl_nil];exact⟨by simp,fun y hy=>by rw[zH.1 hy];exact hx⟩
  | succ k ih =>
   intro hk;obtain⟨i1,i2⟩:=ih (by omega);have hg:(t.nd x).kids[k]?=some (t.nd x).kids[k]:=by simp
   rw[qS,hg,zB,List.foldl_append];simp only[qT,List.foldl_nil];obtain⟨k1,k2⟩:=hkl x hx _ (qK hg);obtain⟨w1,-⟩:=xg0 (kids:=qi0 t) (lv:=fun x=>lev (t.nd x)) (N:=t.ns.length) hkl 61 _ (((t.nd x).kids.take k).foldl (fun o k=>walk (qi0 t) 61 k o) [x]) k1 (by omega) (hlv _ k1) hlv;exact⟨w1.nod i1,fun y hy=>(w1.lt y hy).elim (i2 y) id⟩
 rw[h62];refine wt0 (step:=jj0 (t.ns.map zq0) (x:Int) t.ls) (fun (s:List Nat) i=>(ints s,i)) (t.nd x).kids (fun o k=>walk (qi0 t) 61 k o) [x] _ (fun k y hy=>?_) ?_
 ·have hk:k<(t.nd x).kids.length:=(qA.1 hy).1;obtain⟨g1,g2⟩:=hgood k (by omega);obtain⟨k1,k2⟩:=hkl x hx y (qK hy);have hlt:(k:Int)<(ints (t.nd x).kids).length:=by rw[qg0];omega
  have e:=ik0 t.ls hkl hlv hb hN 61 y _ k1 (by omega) g1 g2;simp only[jj0,hgx,qC,qm0,qv0,zq0,hlt,decide_true,cond_true,qx0 (wm0 hy),e,qr0,zc0 (show k<9223372036854775807 by have:=(hb _ hmem).kids;omega)]
 ·have hlt:¬ (((t.nd x).kids.length:Int)<(ints (t.nd x).kids).length):=by rw[qg0];omega
  simp only[jj0,hgx,qC,qm0,qv0,zq0,hlt,decide_false,cond_false]
theorem ag1 {O:List Nat}{N:Nat}(hO:O.Nodup)(hlt:∀ x∈O,x<N)(hN:N≤20000) :
  ∃ l,qw0 (jz0 (ints O)) (List.replicate N 0,0)=some l∧l.length=N∧∀ x∈O,l[x]?=some ((pos O x:Nat):Int):=by
 have hOl:=rv0 hO hlt;obtain⟨l,h1,h2,h3⟩:=yq0 (step:=jz0 (ints O)) (fun (s:List Int) i=>(s,i)) O.length
  (fun k s=>s.length=N∧∀ (j:Nat) x,j<k→O[j]?=some x→s[x]?=some (j:Int)) (fun s=>s.length=N∧∀ (j:Nat) x,j<O.length→O[j]?=some x→s[x]?=some (j:Int)) (fun k s hk hI=>by
   obtain⟨i1,i2⟩:=hI;have hx:O[k]?=some O[k]:=by simp[hk]
   generalize O[k]=x at hx;have hxl:=hlt x (qK hx);have hlk:(k:Int)<(ints O).length:=by rw[qg0];omega
   have hro:gq0 (ints O) (k:Int)=some k:=rix (by rw[qg0];omega);have hrn:gq0 s (x:Int)=some x:=rix (by omega);have hu:cp1 s x (fun _=>(k:Int))=some (s.set x (k:Int)):=by unfold cp1;rw[qD (by omega)]
   refine .inl ⟨s.set x (k:Int),?_,by rw[List.length_set];exact i1,fun j y hj hy=>?_⟩
   ·simp only[jz0,qm0,qv0,hlk,decide_true,cond_true,hro,wm0 hx,qC,hrn,hu,qr0,zc0 (k:=k) (by omega)]
   ·by_cases hjk:j=k
    ·subst hjk;rw[hx] at hy;cases hy;rw[List.getElem?_set_self (by omega)]
    ·have:x≠y:=fun e=>by subst e;exact hjk (fy0 hO hy hx)
     rw[List.getElem?_set_ne this];exact i2 j y (by omega) hy) (fun s hI=>by
   have hlk:¬ ((O.length:Int)<(ints O).length):=by rw[qg0];omega
   exact⟨s,by simp only[jz0,qm0,qv0,hlk,decide_false,cond_false],hI⟩) (List.replicate N 0) ⟨by simp,fun j x hj=>by omega⟩
 refine⟨l,h1,h2,fun x hx=>?_⟩;have hp:=br0 hx;exact h3 _ x (qA.1 hp).1 hp
theorem zz1 (n:Nd){O:List Nat}{l:List Int}(hl:∀ x∈O,l[x]?=some ((pos O x:Nat):Int))(hkO:∀ k∈n.kids,k∈O)(hk:n.kids.length≤100000):qw0 (yu0 (zq0 n) l) ([],0)=some (ints (n.kids.map (pos O))):=by
 have hf:∀ (l:List Nat)(s:List Int),l.foldl (fun (s:List Int)(k:Nat)=>s++[((pos O k:Nat):Int)]) s=s++ints (l.map (pos O)):=by
  intro l
  induction l with
  | nil=>intro s;simp[ints]
  | cons r l ih=>intro s;rw[qT,ih];simp[ints]
 have h0:=hf n.kids [];rw[zE] at h0;rw[← h0];refine wt0 (step:=yu0 (zq0 n) l) (fun (s:List Int) i=>(s,i)) n.kids (fun s k=>s++[((pos O k:Nat):Int)]) [] _ (fun k x hx=>?_) (by simp[yu0,qm0,qv0,zq0,qg0]);have hkl:k<n.kids.length:=(qA.1 hx).1;have hlt:(k:Int)<(ints n.kids).length:=by rw[qg0];omega
 rw[hf,zE];have hg:=hl x (hkO x (qK hx));have hr:gq0 l (x:Int)=some x:=rix (qA.1 hg).1;have hap:∀ y:Int,appG (ints ((n.kids.take k).map (pos O))) [y]=some (ints ((n.kids.take k).map (pos O))++[y]):=fun y=>qo0 (by rw[qg0,qW,qR];simp;omega)
 simp only[yu0,qm0,qv0,zq0,hlt,decide_true,cond_true,qx0 (wm0 hx),qC,hr,hg,hap,qr0,zc0 (k:=k) (by omega)]
theorem jj1 {t:Tab Decision}(h:t.Ok wy0){O:List Nat}{l:List Int}(hl:∀ x∈O,l[x]?=some ((pos O x:Nat):Int))(hclo:∀ x∈O,∀ k∈(t.nd x).kids,k∈O)(hO:∀ x∈O,x<t.ns.length)(hn:O.length≤20000)(hk:∀ x∈O,(t.nd x).kids.length≤100000) :
  qw0 (jq0 (ints O) (t.ns.map zq0) l t.ls) ([],[],0)=some ((ren t (pos O) O 0).map zq0,lvs t O):=by
 obtain⟨r,h1,rfl⟩:=yq0 (step:=jq0 (ints O) (t.ns.map zq0) l t.ls) (fun (s:List Node×List Decision) i=>(s.1,s.2,i)) O.length
  (fun k s=>s=((ren t (pos O) (O.take k) 0).map zq0,lvs t (O.take k))) (fun r=>r=((ren t (pos O) O 0).map zq0,lvs t O)) (fun k s hk' hI=>by
  subst hI;refine .inl ⟨_,?_,rfl⟩;have hx:O[k]?=some O[k]:=by simp[hk']
  have hm:O[k]∈O:=zJ _;have hxl:=hO _ hm;have hxk:=hk _ hm;have hxc:=hclo _ hm;have hro:gq0 (ints O) (k:Int)=some k:=rix (by rw[qg0];omega);rw[qS,hx,zB];generalize O[k]=x at hx hm hxl hxk hxc;have hrn:zf0 (t.ns.map zq0) (x:Int)=some (zq0 (t.nd x)):=qx0 (kw0 hxl);have hlt:(k:Int)<(ints O).length:=by rw[qg0];omega
  have hlt2:(k:Int)<(O.length:Int):=by omega
  have hlo:lno t (O.take k)≤20000:=by
   unfold lno;have h1:=List.length_filter_le (fun x=>(t.nd x).kids.isEmpty) (O.take k);rw[qR] at h1;omega
  have hrl:(ren t (pos O) (O.take k) 0).length≤20000:=by rw[bm0,qR];omega
  have hkn:=zz1 (t.nd x) hl hxc hxk;have hf:=h.fine x hxl;rw[nz0,xg1,Nat.zero_add];simp only[jq0,qm0,qv0,hlt2,decide_true,cond_true,hro,wm0 hx,qC,hrn,wv0,hkn,qr0,zc0 (k:=k) (by omega),ren,qg0,qW];have hap2:∀ d,appG ((ren t (pos O) (O.take k) 0).map zq0) [d]=some ((ren t (pos O) (O.take k) 0).map zq0++[d]):=fun d=>qo0 (by rw[qW];simp;omega)
  by_cases hkk:(t.nd x).kids=[]
  ·obtain⟨f1,f2,f3⟩:=hf.leaf hkk;have hz:(((t.nd x).kids.length:Int)=0):=by simp[hkk]
   have hgl:t.ls[(t.nd x).leaf]?=some (t.ls.getD (t.nd x).leaf default):=by rw[qM,qD f3];rfl
   have hrl2:zf0 t.ls (zq0 (t.nd x)).Leaf=some (t.ls.getD (t.nd x).leaf default):=qx0 hgl;have hap:∀ d,appG (lvs t (O.take k)) [d]=some (lvs t (O.take k)++[d]):=fun d=>qo0 (by rw[rx0];simp;omega)
   have hwr:io.ar .sub .i64 (((lvs t (O.take k)++[t.ls.getD (t.nd x).leaf default]).length:Nat):Int) 1=((lno t (O.take k):Nat):Int):=by
    rw[ge0,qN,rx0,zL,nt0 (by omega) (by omega)];omega
   simp only[hz,decide_true,cond_true,hrl2,hap,hap2,qC,qv0,hwr,if_pos hkk,List.map_append,qX,zI];simp only[zq0,hkk,zI]
  ·have hz:¬ (((t.nd x).kids.length:Int)=0):=by
    have:(t.nd x).kids.length≠0:=by simpa using hkk
    omega
   simp only[hz,decide_false,cond_false,hap2,qC,if_neg hkk,List.map_append,qX,zI,List.append_nil];simp only[zq0]) (fun s hI=>by
  subst hI;refine⟨_,?_,rfl⟩;have hlt:¬ ((O.length:Int)<(ints O).length):=by rw[qg0];omega
  simp only[jq0,qm0,qv0,hlt,decide_false,cond_false,zC]) ([],[]) (by simp[ren,lvs])
 exact h1
theorem fb1 {p:Policy}(hv:wl0 p=false):jd0 p=some (⟨[],[]⟩,1):=by
 unfold jd0;simp only[zk1,hv,qC,wu0,Bool.not_false,cond_true]
theorem ra2 {t:Tab Decision}(c:t.Ok wy0)(hN:t.ns.length≤20000)(hL:t.ls.length≤20000)(hk:∀ n∈t.ns,n.kids.length≤2001):∀ n∈t.ns,Bd n:=by
 intro n hn;obtain⟨x,hx⟩:=List.getElem?_of_mem hn;have hxl:=(qA.1 hx).1;have e:t.nd x=n:=by unfold Tab.nd;rw[qM,hx];rfl
 have F:=c.fine x hxl;rw[e] at F;have:=hk n hn;by_cases h:n.kids=[]
 ·obtain⟨f1,f2,f3⟩:=F.leaf h;exact⟨by rw[f1];simp,by omega,by rw[f1];simp,by rw[h];simp,by omega,by omega⟩
 ·obtain⟨f1,f2,f3,f4,f5⟩:=F.inner h;refine⟨by omega,by omega,fun c hc=>?_,fun k hk=>?_,by omega,by omega⟩
  ·have:=lw0 f5 c hc;have:=gr0 n.attr;omega
  ·have:=(F.kid k hk).1;omega
theorem as1 {p:Policy}(hv:wl0 p=true)(hz:(qh0 p).length≤10):jd0 p=some (kb0 (vq0 p),0):=by
 have G:=mt1 hv hz;obtain⟨b1,b2,-⟩:=du0 p;have hsm:=do0 G.nz;obtain⟨n1,n2⟩:=G.bnd _ b1;have hb:=ve1 G hz 10 0 (List.range (ql0 p).nz) A0 B0 rfl (nd1 p) (oh0 p _);have hb':iw0 p.Rules (qh0 p) 11 0 (ints (List.range (qh0 p).length)) (A10.mk 0 0 0 0 0 0 0 0 0 0) [] [] [] [] [] false=some (fw1 (qc0 p)):=hb;have hkl:∀ x,x<(qc0 p).1.tab.ns.length→∀ k∈((qc0 p).1.tab.nd x).kids,k<(qc0 p).1.tab.ns.length∧lev ((qc0 p).1.tab.nd x)<lev ((qc0 p).1.tab.nd k):=fun x hx k hk=>kt0 b1.ok hx k hk
 have hlv:∀ x,x<(qc0 p).1.tab.ns.length→lev ((qc0 p).1.tab.nd x)≤10:=fun x hx=>xz0 b1.ok hx
 have hBd:=ra2 b1.ok n1 n2 hsm;have hw:=bi1 hkl hlv hBd n1 b2;obtain⟨w1,-⟩:=xg0 (kids:=qi0 (qc0 p).1.tab) (lv:=fun x=>lev ((qc0 p).1.tab.nd x)) (N:=(qc0 p).1.tab.ns.length) hkl 11 (qc0 p).2 [] b2 (by omega) (xz0 b1.ok b2) hlv;have hO:∀ x∈walk (qi0 (qc0 p).1.tab) 11 (qc0 p).2 [],x<(qc0 p).1.tab.ns.length:=fun x hx=>(w1.lt x hx).elim (by simp) id
 have hOn:=w1.nod (by simp);have hclo:∀ x∈walk (qi0 (qc0 p).1.tab) 11 (qc0 p).2 [],∀ k∈((qc0 p).1.tab.nd x).kids,k∈walk (qi0 (qc0 p).1.tab) 11 (qc0 p).2 []:=fun x hx=>(w1.clo x hx).resolve_left (by simp)
 obtain⟨l,hl1,hl2,hl3⟩:=ag1 hOn hO n1;have hr:=jj1 b1.ok hl3 hclo hO (Nat.le_trans (rv0 hOn hO) n1) (fun x hx=>by
  have:=hsm _ (show (qc0 p).1.tab.nd x∈(qc0 p).1.tab.ns from by
   unfold Tab.nd;rw[qM,qD (hO x hx)];exact zJ _)
  omega)
 have hmk:cu1 ((qs0 (qc0 p).1).length:Int) (0:Int)=some (List.replicate (qc0 p).1.tab.ns.length 0):=by unfold cu1;rw[ko0,if_pos (by omega)];simp
 have hIn:kk0 [] ((qc0 p).2:Int)=some false:=by rw[tt1 _ _ (by simp)];simp
 have hap:appG ([]:List Int) [((qc0 p).2:Int)]=some [((qc0 p).2:Int)]:=qo0 (by simp);unfold jd0;simp only[zk1,hv,qC,wu0,Bool.not_true,cond_false,yo1 G,hb',fw1,hIn,hap,qv0,hmk];rw[show qs0 (qc0 p).1=(qc0 p).1.tab.ns.map zq0 from rfl,hw];simp only[qC,hl1,hr];rfl
end Go.SX.Td
