/- Parts of the proof. -/
import Derived.Test.YtllbabjgpdmblaaDoorZTdR2
import Derived.Test.YtllbabjgpdmblaaDoorZTbV
import Derived.Test.YtllbabjgpdmblaaDoorZTdKey
import Derived.Test.YtllbabjgpdmblaaDoorZTdCompact
import Derived.Test.YtllbabjgpdmblaaDoorZTdP2
set_option linter.unusedSimpArgs false
set_option linter.unusedVariables false
set_option linter.unusedSectionVars false
namespace Go.SX.Td
open Go Go.SX Tb
def qp0 : Nat→List Rule→List Live
 | _,[]=>[]
 | i,r::l=>(List.range r.Zones.length).map (fun k:Nat=>Live.mk (i:Int) (k:Int))++qp0 (i+1) l
theorem gx0 : ∀ (i:Nat)(l:List Rule),(qp0 i l).length=(l.flatMap (·.Zones)).length
 | _,[]=>rfl
 | i,r::l=>by
  have:=gx0 (i+1) l
  simp only[qp0,List.flatMap_cons,List.length_append,List.length_map,List.length_range,this]
theorem pairs_get : ∀ (l:List Rule)(i z:Nat)(zn:A10 Range),(l.flatMap (·.Zones))[z]?=some zn →
  ∃ (a k:Nat)(r:Rule),(qp0 i l)[z]?=some ⟨((i+a:Nat):Int),(k:Int)⟩∧l[a]?=some r∧r.Zones[k]?=some zn
 | [],_,_,_,h=>by simp at h
 | r::l,i,z,zn,h=>by
  rw[List.flatMap_cons] at h
  by_cases hz:z<r.Zones.length
  ·rw[List.getElem?_append_left hz] at h
   refine⟨0,z,r,?_,rfl,h⟩
   simp only[qp0]
   rw[List.getElem?_append_left (by simpa using hz)]
   simp[hz]
  ·rw[List.getElem?_append_right (by omega)] at h
   obtain⟨a,k,r',h1,h2,h3⟩:=pairs_get l (i+1) (z - r.Zones.length) zn h
   refine⟨a+1,k,r',?_,by simpa using h2,h3⟩
   simp only[qp0]
   rw[List.getElem?_append_right (by simp;omega)]
   rw[show i+(a+1)=i+1+a by omega]
   simpa using h1
theorem pairs_ge : ∀ (l:List Rule)(i:Nat),∀ x∈qp0 i l,(i:Int)≤x.rule
 | [],_,x,h=>by simp[qp0] at h
 | r::l,i,x,h=>by
  simp only[qp0,List.mem_append,List.mem_map,List.mem_range] at h
  rcases h with ⟨k,_,rfl⟩ | h
  ·exact Int.le_refl _
  ·have:=pairs_ge l (i+1) x h;omega
theorem ag0 : ∀ (l:List Rule)(i:Nat),(qp0 i l).Nodup
 | [],_=>by simp[qp0]
 | r::l,i=>by
  simp only[qp0]
  rw[List.nodup_append]
  refine⟨?_,ag0 l (i+1),fun a ha b hb e=>?_⟩
  ·rw[List.nodup_iff_pairwise_ne,List.pairwise_map]
   exact List.Pairwise.imp (fun {a b} h e=>by simp only[Live.mk.injEq,true_and] at e;omega) (List.nodup_iff_pairwise_ne.1 List.nodup_range)
  ·subst e
   simp only[List.mem_map,List.mem_range] at ha
   obtain⟨k,_,rfl⟩:=ha
   have:=pairs_ge l (i+1) _ hb
   simp only at this;omega
def lv (p:Policy)(z:Nat):Live:=(qp0 0 p.Rules).getD z default
def pz (p:Policy)(l:List Nat):List Live:=l.map (lv p)
theorem lv_get {p:Policy}{z:Nat}(hz:z<(qq0 p).length):∃ (a k:Nat)(r:Rule)(zn:A10 Range),lv p z=⟨(a:Int),(k:Int)⟩∧p.Rules[a]?=some r∧r.Zones[k]?=some zn∧(qq0 p)[z]?=some zn:=by
 have h:(qq0 p)[z]?=some (qq0 p)[z]:=by simp[hz]
 obtain⟨a,k,r,h1,h2,h3⟩:=pairs_get p.Rules 0 z _ h
 refine⟨a,k,r,_,?_,h2,h3,h⟩
 unfold lv
 rw[List.getD_eq_getElem?_getD,h1]
 simp
theorem lv_inj {p:Policy}{z z':Nat}(hz:z<(qq0 p).length)(hz':z'<(qq0 p).length)(h:lv p z=lv p z'):z=z':=by
 have hl:(qp0 0 p.Rules).length=(qq0 p).length:=gx0 0 _
 unfold lv at h
 rw[List.getD_eq_getElem?_getD,List.getD_eq_getElem?_getD,List.getElem?_eq_getElem (by omega),List.getElem?_eq_getElem (by omega)] at h
 exact gw0 (ag0 _ _) (by omega) (by omega) h
theorem pz_inj {p:Policy}:∀ {l m:List Nat},(∀ z∈l,z<(qq0 p).length)→(∀ z∈m,z<(qq0 p).length)→pz p l=pz p m→l=m
 | [],[],_,_,_=>rfl
 | [],_::_,_,_,h=>by simp[pz] at h
 | _::_,[],_,_,h=>by simp[pz] at h
 | a::l,b::m,h1,h2,h=>by
  simp only[pz,List.map_cons,List.cons.injEq] at h
  rw[lv_inj (h1 a (by simp)) (h2 b (by simp)) h.1,pz_inj (l:=l) (m:=m) (fun z hz=>h1 z (List.mem_cons_of_mem _ hz)) (fun z hz=>h2 z (List.mem_cons_of_mem _ hz)) h.2]
theorem pz_get {p:Policy}{l:List Nat}{k z:Nat}(h:l[k]?=some z):(pz p l)[k]?=some (lv p z):=by simp[pz,h]
theorem db0 (p:Policy)(l:List Nat):(pz p l).length=l.length:=by simp[pz]
theorem txtP_inj {x y:Live}{r s:List UInt8}(h:txtP x++r=txtP y++s):x=y∧r=s:=by
 simp only[txtP,List.append_assoc,List.singleton_append,List.cons_append,List.nil_append] at h
 obtain⟨h1,h2⟩:=nj0 (fun e=>(jm0 x.rule _ e).2.2 rfl) (fun e=>(jm0 y.rule _ e).2.2 rfl) h
 obtain⟨h3,h4⟩:=nj0 (fun e=>(jm0 x.zone _ e).1 rfl) (fun e=>(jm0 y.zone _ e).1 rfl) h2
 obtain⟨a,b⟩:=x
 obtain⟨c,d⟩:=y
 exact⟨by rw[show a=c from bk0 h1,show b=d from bk0 h3],h4⟩
theorem txtZ_inj : ∀ {l m:List Live},txtZ l=txtZ m→l=m
 | [],[],_=>rfl
 | [],y::m,h=>by have:=congrArg List.length h;simp[txtZ,txtP] at this
 | x::l,[],h=>by have:=congrArg List.length h;simp[txtZ,txtP] at this
 | x::l,y::m,h=>by
  simp only[txtZ,List.flatMap_cons] at h
  obtain⟨rfl,h2⟩:=txtP_inj h
  rw[txtZ_inj (l:=l) (m:=m) h2]
def keyS (a x:Nat)(l:List Live):ByteArray:=⟨(txtZ (Live.mk (a:Int) (x:Int)::l)).toArray⟩
theorem keyS_inj {a a' x x':Nat}{l l':List Live}(h:keyS a x l=keyS a' x' l'):a=a'∧x=x'∧l=l':=by
 have:=congrArg (fun s:ByteArray=>s.data.toList) h
 simp only[keyS] at this
 have h2:=txtZ_inj (by simpa using this)
 simp only[List.cons.injEq,Live.mk.injEq] at h2
 exact⟨by omega,by omega,h2.2⟩
theorem txtZ_le : ∀ (l:List Live),(∀ x∈l,IntOk x.rule∧IntOk x.zone)→(txtZ l).length≤50 * l.length
 | [],_=>by simp[txtZ]
 | x::l,h=>by
  have h1:=txtZ_le l fun y hy=>h y (List.mem_cons_of_mem _ hy)
  have h2:=Lib.itoa_length_le x.rule (h x (by simp)).1.1 (h x (by simp)).1.2
  have h3:=Lib.itoa_length_le x.zone (h x (by simp)).2.1 (h x (by simp)).2.2
  have e:txtZ (x::l)=txtP x++txtZ l:=by simp[txtZ]
  rw[e,List.length_append,List.length_cons]
  simp only[txtP,List.length_append,List.length_singleton]
  omega
section
variable {p:Policy}(G:PG p)(hR:p.Rules.length≤1000)(hZ:∀ r∈p.Rules,r.Zones.length≤1000)
include G hR hZ
theorem lv_ok {z:Nat}(hz:z<(qq0 p).length):IntOk (lv p z).rule∧IntOk (lv p z).zone:=by
 obtain⟨a,k,r,zn,h1,h2,h3,-⟩:=lv_get hz
 rw[h1]
 have ha:=(List.getElem?_eq_some_iff.1 h2).1
 have hk:=(List.getElem?_eq_some_iff.1 h3).1
 have:=hZ r (List.mem_of_getElem? h2)
 exact⟨⟨by show -9223372036854775808≤(a:Int);omega,by show (a:Int)≤_;omega⟩,⟨by show -9223372036854775808≤(k:Int);omega,by show (k:Int)≤_;omega⟩⟩
theorem key_eq {a x:Nat}{l:List Nat}(ha:a≤10)(hx:x≤20000)(hl:∀ z∈l,z<(qq0 p).length)(hn:l.length≤1000):verify_key_g (a:Int) (x:Int) (pz p l)=some (keyS a x (pz p l)):=by
 have h1:∀ y∈pz p l,IntOk y.rule∧IntOk y.zone:=fun y hy=>by
  simp only[pz,List.mem_map] at hy
  obtain⟨z,hz,rfl⟩:=hy
  exact lv_ok G hR hZ (hl z hz)
 have i1:IntOk (a:Int):=⟨by omega,by omega⟩
 have i2:IntOk (x:Int):=⟨by omega,by omega⟩
 have h2:=txtZ_le (Live.mk (a:Int) (x:Int)::pz p l) fun y hy=>by
  rcases List.mem_cons.1 hy with rfl | hy
  ·exact⟨i1,i2⟩
  ·exact h1 y hy
 rw[List.length_cons,db0] at h2
 unfold verify_key_g
 rw[if_pos ⟨i1,i2,h1,by omega,by rw[db0];omega⟩]
 rfl
omit hR hZ in
theorem zone_of {z a:Nat}(hz:z<(qq0 p).length)(ha:a<10):∃ (i k:Nat)(r:Rule)(zn:A10 Range),(lv p z).rule=(i:Int)∧(lv p z).zone=(k:Int)∧p.Rules[i]?=some r∧r.Zones[k]?=some zn ∧
  (zn.get a).Lo=zlo (qq0 p) z a∧(zn.get a).Hi=zhi (qq0 p) z a∧0≤zlo (qq0 p) z a∧zhi (qq0 p) z a≤1000000000:=by
 obtain⟨i,k,r,zn,h1,h2,h3,h4⟩:=lv_get hz
 have:=G.zok.get hz ha
 exact⟨i,k,r,zn,by rw[h1],by rw[h1],h2,h3,by simp[zlo,h4],by simp[zhi,h4],this.1,this.2.2⟩
omit hR hZ in
theorem vals_loop {a:Nat}(ha:a<10){live:List Nat}(hl:∀ z∈live,z<(qq0 p).length)(hn:live.length≤1000000) :
  whileG (tvals_l2 (pz p live) p.Rules (a:Int) zj0) ([(zj0.get a).Lo],0)=some (zc0 (qq0 p) a live):=by
 have e3:zq0.lo a=(zj0.get a).Lo:=rfl
 have e4:zq0.hi a=(zj0.get a).Hi:=rfl
 refine ws0 (step:=tvals_l2 (pz p live) p.Rules (a:Int) zj0) (fun s i=>(s,i)) (ints live) (vx0 (qq0 p) a) [(zj0.get a).Lo] _ (fun k x hx=>?_) (by simp[tvals_l2,qy0,qj0,qk0,db0];rfl)
 have hk:k<(ints live).length:=(List.getElem?_eq_some_iff.1 hx).1
 have hka:k<live.length:=by rwa [qk0] at hk
 obtain⟨i,hi,rfl⟩:∃ i,live[k]?=some i∧x=(i:Int):=⟨live[k],by simp[hka],by
  rw[yq0 (i:=live[k]) (by simp[hka])] at hx;exact(Option.some.inj hx).symm⟩
 have hlt:(k:Int)<(pz p live).length:=by rw[db0];omega
 obtain⟨q,j,r,zn,g1,g2,g3,g4,g5,g6,g7,g8⟩:=zone_of G (hl i (List.mem_of_getElem? hi)) ha
 have hsl:=yd0 (qq0 p) a ((ints live).take k) [(zj0.get a).Lo]
 have hkl:((ints live).take k).length≤1000000:=by rw[List.length_take,qk0];omega
 generalize ((ints live).take k).foldl (vx0 (qq0 p) a) [(zj0.get a).Lo]=s at hsl
 simp only[List.length_singleton] at hsl
 have hlk:=pz_get (p:=p) hi
 generalize lv p i=x at hlk g1 g2
 have i1:idxG p.Rules x.rule=some r:=by rw[g1];exact qz0 g3
 have i2:idxG r.Zones x.zone=some zn:=by rw[g2];exact qz0 g4
 have hw:IntKind.i64.wrap (zhi (qq0 p) i a+1)=zhi (qq0 p) i a+1:=sn0 (by have:=G.zok.get (hl i (List.mem_of_getElem? hi)) ha;omega) (by omega)
 have hap:∀ (s:List Int) c,s.length≤100000000→appG s [c]=some (s++[c]):=fun s c h=>qu0 (by simp;omega)
 have h1:=xv0 a s (zlo (qq0 p) i a)
 simp only[tvals_l2,qy0,jk0,qj0,hlt,decide_true,cond_true,qz0 hlk,i1,i2,qn0 ha,Option.bind_some,qe0,za0 (k:=k) (by omega),g5,g6,hw,vx0,Int.toNat_natCast]
 unfold aw0
 rw[e3,e4]
 by_cases h1:(zj0.get a).Lo<zlo (qq0 p) i a
 ·by_cases h2:zlo (qq0 p) i a≤(zj0.get a).Hi
  ·by_cases h3:(zj0.get a).Lo<zhi (qq0 p) i a+1
   ·by_cases h4:zhi (qq0 p) i a+1≤(zj0.get a).Hi
    ·simp[h1,h2,h3,h4,hap s _ (by omega),hap (s++[_]) _ (by simp;omega)]
    ·simp[h1,h2,h3,h4,hap s _ (by omega)]
   ·simp[h1,h2,h3,hap s _ (by omega)]
  ·by_cases h3:(zj0.get a).Lo<zhi (qq0 p) i a+1
   ·by_cases h4:zhi (qq0 p) i a+1≤(zj0.get a).Hi
    ·simp[h1,h2,h3,h4,hap s _ (by omega)]
    ·simp[h1,h2,h3,h4]
   ·simp[h1,h2,h3]
 ·by_cases h3:(zj0.get a).Lo<zhi (qq0 p) i a+1
  ·by_cases h4:zhi (qq0 p) i a+1≤(zj0.get a).Hi
   ·simp[h1,h3,h4,hap s _ (by omega)]
   ·simp[h1,h3,h4]
  ·simp[h1,h3]
end
theorem je0 (a:Nat):∀ (l:List Int)(s:List Int),(l.foldl (aw0 a) s).length≤s.length+l.length
 | [],s=>by simp
 | c::l,s=>by
  have:=je0 a l (aw0 a s c)
  have h1:=xv0 a s c
  rw[List.foldl_cons,List.length_cons];omega
theorem dp0 (a:Nat)(x:Int):∀ (l:List Int)(s:List Int),x∈l.foldl (aw0 a) s↔x∈s∨x∈l∧zq0.lo a<x∧x≤zq0.hi a
 | [],s=>by simp
 | c::l,s=>by
  rw[List.foldl_cons,dp0 a x l,ne0]
  simp only[List.mem_cons]
  constructor
  ·rintro ((h | ⟨rfl,h⟩) | ⟨h1,h2⟩)
   ·exact .inl h
   ·exact .inr ⟨.inl rfl,h⟩
   ·exact .inr ⟨.inr h1,h2⟩
  ·rintro (h | ⟨rfl | h1,h2⟩)
   ·exact .inl (.inl h)
   ·exact .inl (.inr ⟨rfl,h2⟩)
   ·exact .inr ⟨h1,h2⟩
theorem cutv_loop (N:Node){a:Nat}(ha:a<10)(s:List Int)(hC:N.Cuts.length≤1000000)(hs:s.length≤10000000):whileG (tvals_l4 N (a:Int) zj0) (s,0)=some (N.Cuts.foldl (aw0 a) s):=by
 have e3:zq0.lo a=(zj0.get a).Lo:=rfl
 have e4:zq0.hi a=(zj0.get a).Hi:=rfl
 refine ws0 (step:=tvals_l4 N (a:Int) zj0) (fun s i=>(s,i)) N.Cuts (aw0 a) s _ (fun k x hx=>?_) (by simp[tvals_l4,qy0,qj0])
 have hk:k<N.Cuts.length:=(List.getElem?_eq_some_iff.1 hx).1
 have hlt:(k:Int)<N.Cuts.length:=by omega
 have hsl:=je0 a (N.Cuts.take k) s
 have hkl:(N.Cuts.take k).length≤1000000:=by rw[List.length_take];omega
 generalize (N.Cuts.take k).foldl (aw0 a) s=s' at hsl
 have hap:appG s' [x]=some (s'++[x]):=qu0 (by simp;omega)
 simp only[tvals_l4,qy0,jk0,qj0,hlt,decide_true,cond_true,qz0 hx,qn0 ha,Option.bind_some,qe0,za0 (k:=k) (by omega),aw0,e3,e4]
 by_cases h1:(zj0.get a).Lo<x
 ·by_cases h2:x≤(zj0.get a).Hi
  ·simp[h1,h2,hap]
  ·simp[h1,h2]
 ·simp[h1]
theorem tn_mem {t:Tab Decision}{i:Nat}(hi:i<t.ns.length):t.nd i∈t.ns:=by
 unfold Tab.nd;rw[List.getD_eq_getElem?_getD,List.getElem?_eq_getElem hi];exact List.getElem_mem _
noncomputable def valsL (p:Policy)(t:Tab Decision)(a:Nat)(live:List Nat)(x:Nat):List Int :=
 fr0 (sortL (if (t.nd x).kids≠[]∧(t.nd x).attr=a then (t.nd x).cuts.foldl (aw0 a) (zc0 (qq0 p) a live) else zc0 (qq0 p) a live))
theorem inner_eq {t:Tab Decision}{x a:Nat}(hx:x<t.ns.length) :
  (Option.bind (idxG (ze0 t).Nodes (x:Int)) fun x25=>bif decide ((0:Int)<(x25.Kids.length:Int)) then (Option.bind (idxG (ze0 t).Nodes (x:Int)) fun x26=>some (decide (x26.Attr=(a:Int)))) else some false)=some (decide ((t.nd x).kids≠[]∧(t.nd x).attr=a)):=by
 have hg:idxG (ze0 t).Nodes (x:Int)=some (zz0 (t.nd x)):=qz0 (yb0 hx)
 have hkl:((zz0 (t.nd x)).Kids.length:Int)=((t.nd x).kids.length:Nat):=by simp[zz0,qk0]
 have ha:(zz0 (t.nd x)).Attr=((t.nd x).attr:Int):=rfl
 rw[hg]
 simp only[Option.bind_some,hkl,ha]
 by_cases h:(t.nd x).kids=[]
 ·have h0:¬ (0:Int)<((t.nd x).kids.length:Nat):=by rw[h];simp
  rw[decide_eq_false h0,cond_false];simp[h]
 ·have h0:(0:Int)<((t.nd x).kids.length:Nat):=by
   have:(t.nd x).kids.length≠0:=by simpa using h
   omega
  rw[decide_eq_true h0,cond_true]
  congr 1
  rw[decide_eq_decide]
  exact⟨fun e=>⟨h,by omega⟩,fun e=>by omega⟩
theorem vals_eq {p:Policy}(G:PG p){t:Tab Decision}(hb:∀ n∈t.ns,Bd n){a x:Nat}(ha:a<10)(hx:x<t.ns.length){live:List Nat}(hl:∀ z∈live,z<(qq0 p).length)(hn:live.length≤1000)(f:A10 Int)(eq:List (ByteArray×Bool)) :
  tvals_b p.Rules (ze0 t).Nodes (ze0 t).Leaves zj0 (a:Int) (pz p live) (x:Int) f eq=some (valsL p t a live x):=by
 have hg:idxG (ze0 t).Nodes (x:Int)=some (zz0 (t.nd x)):=qz0 (yb0 hx)
 have hbx:=hb _ (tn_mem hx)
 have h1:=vals_loop G ha hl (by omega)
 have hsl:=yd0 (qq0 p) a (ints live) [zq0.lo a]
 rw[qk0,List.length_singleton] at hsl
 have hsl':(zc0 (qq0 p) a live).length≤3000:=by unfold zc0;omega
 have hC:(zz0 (t.nd x)).Cuts=(t.nd x).cuts:=rfl
 have h2:=cutv_loop (zz0 (t.nd x)) ha (zc0 (qq0 p) a live) (by rw[hC];have:=hbx.cuts;omega) (by omega)
 rw[hC] at h2
 have h3:=je0 a (t.nd x).cuts (zc0 (qq0 p) a live)
 have hcc:=hbx.cuts
 have hin:=inner_eq (t:=t) (x:=x) (a:=a) hx
 simp only[tvals_b,qn0 ha,Option.bind_some,h1,qy0,qj0,zl0]
 rw[hin]
 simp only[Option.bind_some]
 unfold valsL
 by_cases h:(t.nd x).kids≠[]∧(t.nd x).attr=a
 ·rw[decide_eq_true h,cond_true,if_pos h,hg]
  simp only[Option.bind_some,h2]
  generalize (t.nd x).cuts.foldl (aw0 a) (zc0 (qq0 p) a live)=s at h3
  have hs2:sortG s=some (sortL s):=by unfold sortG;rw[if_pos (by omega)]
  have hs3:compG (sortL s)=some (fr0 (sortL s)):=by unfold compG;rw[if_pos (by rw[ky0];omega)]
  simp only[hs2,hs3,Option.bind_some]
 ·rw[decide_eq_false h,cond_false,if_neg h]
  generalize zc0 (qq0 p) a live=s at hsl'
  have hs2:sortG s=some (sortL s):=by unfold sortG;rw[if_pos (by omega)]
  have hs3:compG (sortL s)=some (fr0 (sortL s)):=by unfold compG;rw[if_pos (by rw[ky0];omega)]
  simp only[hs2,hs3,Option.bind_some]
theorem valsL_sorted (p:Policy)(t:Tab Decision)(a:Nat)(live:List Nat)(x:Nat):(valsL p t a live x).Pairwise (·<·):=dm0 (dv0 _)
theorem mem_valsL {p:Policy}{t:Tab Decision}{a:Nat}{live:List Nat}{x:Nat}(c:Int):c∈valsL p t a live x↔IsV zq0 (qx0 p) t a live x c:=by
 have hst:∀ c,c∈zc0 (qq0 p) a live↔c=zq0.lo a∨∃ z∈live,(c=zlo (qq0 p) z a∨c=zhi (qq0 p) z a+1)∧zq0.lo a<c∧c≤zq0.hi a:=fun c=>by
  have:=@mh0 (qq0 p) a live c
  unfold starts at this
  rwa [ar0,an0] at this
 unfold valsL IsV
 rw[ar0,an0]
 have hlo:(qx0 p).lo=zlo (qq0 p):=rfl
 have hhi:(qx0 p).hi=zhi (qq0 p):=rfl
 rw[hlo,hhi]
 by_cases h:(t.nd x).kids≠[]∧(t.nd x).attr=a
 ·rw[if_pos h,dp0,hst]
  constructor
  ·rintro ((h1 | ⟨z,h1,h2,h3⟩) | ⟨h1,h2⟩)
   ·exact .inl h1
   ·exact .inr ⟨.inl ⟨z,h1,h2⟩,h3⟩
   ·exact .inr ⟨.inr ⟨h.1,h.2,h1⟩,h2⟩
  ·rintro (h1 | ⟨⟨z,h1,h2⟩ | ⟨_,_,h1⟩,h3⟩)
   ·exact .inl (.inl h1)
   ·exact .inl (.inr ⟨z,h1,h2,h3⟩)
   ·exact .inr ⟨h1,h3⟩
 ·rw[if_neg h,hst]
  constructor
  ·rintro (h1 | ⟨z,h1,h2,h3⟩)
   ·exact .inl h1
   ·exact .inr ⟨.inl ⟨z,h1,h2⟩,h3⟩
  ·rintro (h1 | ⟨⟨z,h1,h2⟩ | ⟨h4,h5,_⟩,h3⟩)
   ·exact .inl h1
   ·exact .inr ⟨z,h1,h2,h3⟩
   ·exact absurd ⟨h4,h5⟩ h
theorem valsL_len {p:Policy}{t:Tab Decision}(hb:∀ n∈t.ns,Bd n){a:Nat}{live:List Nat}{x:Nat}(hx:x<t.ns.length)(hn:live.length≤1000):(valsL p t a live x).length≤200000:=by
 have hbx:=(hb _ (tn_mem hx)).cuts
 have hsl:=yd0 (qq0 p) a (ints live) [zq0.lo a]
 rw[qk0,List.length_singleton] at hsl
 have hsl':(zc0 (qq0 p) a live).length≤3000:=by unfold zc0;omega
 have h3:=je0 a (t.nd x).cuts (zc0 (qq0 p) a live)
 unfold valsL
 refine Nat.le_trans (compL_len _) ?_
 rw[ky0]
 split<;>omega
theorem kidv_loop (N:Node)(v:Int)(hC:N.Cuts.length≤100000):whileG (tkid_l4 N v) 0=some (if wo0 N.Cuts v<N.Cuts.length then .inr ((wo0 N.Cuts v:Nat):Int) else .inl ()):=by
 obtain⟨r,h1,rfl⟩:=wk0 (step:=tkid_l4 N v) (fun (_:Unit) i=>i) N.Cuts.length
  (fun k _=>wo0 N.Cuts v=k+wo0 (N.Cuts.drop k) v) (fun r=>r=if wo0 N.Cuts v<N.Cuts.length then .inr ((wo0 N.Cuts v:Nat):Int) else .inl ()) (fun k s hk hI=>by
  have hx:N.Cuts[k]?=some N.Cuts[k]:=by simp[hk]
  rw[List.drop_eq_getElem_cons hk] at hI
  generalize N.Cuts[k]=x at hx hI
  have hlt:(k:Int)<N.Cuts.length:=by omega
  simp only[tkid_l4,qy0,qj0,hlt,decide_true,cond_true,qz0 hx,Option.bind_some,qe0,za0 (k:=k) (by omega)]
  by_cases h:v<x
  ·simp only[wo0] at hI
   rw[if_neg (by omega)] at hI
   refine .inr ⟨.inr (k:Int),by rw[decide_eq_true h];rfl,?_⟩
   rw[hI,Nat.add_zero,if_pos hk]
  ·simp only[wo0] at hI
   rw[if_pos (by omega)] at hI
   exact .inl ⟨(),by rw[decide_eq_false h];rfl,by omega⟩) (fun s hI=>by
  have hlt:¬ ((N.Cuts.length:Int)<N.Cuts.length):=by omega
  refine⟨.inl (),by simp only[tkid_l4,qy0,qj0,hlt,decide_false,cond_false],?_⟩
  rw[if_neg]
  rw[List.drop_length] at hI
  simp only[wo0] at hI
  omega) () (by simp)
 exact h1
theorem kidv_eq {t:Tab Decision}(h:t.Ok zq0)(hb:∀ n∈t.ns,Bd n)(R:List Rule){x:Nat}(hx:x<t.ns.length)(hk:(t.nd x).kids≠[])(v:Int)(f:A10 Int)(eq:List (ByteArray×Bool)) :
  tkid_b R (ze0 t).Nodes (ze0 t).Leaves zj0 (x:Int) v f eq=some (((t.nd x).kids.getD (wo0 (t.nd x).cuts v) 0:Nat):Int):=by
 have hg:idxG (ze0 t).Nodes (x:Int)=some (zz0 (t.nd x)):=qz0 (yb0 hx)
 have hbx:=hb _ (tn_mem hx)
 obtain⟨k1,-⟩:=jj0 h hx hk v
 have hC:(zz0 (t.nd x)).Cuts=(t.nd x).cuts:=rfl
 have hloop:=kidv_loop (zz0 (t.nd x)) v (by rw[hC];exact hbx.cuts)
 rw[hC] at hloop
 have hkx:=kidx_le (t.nd x).cuts v
 generalize (t.nd x).kids.getD (wo0 (t.nd x).cuts v) 0=z at k1
 generalize hi:wo0 (t.nd x).cuts v=i at k1 hkx hloop
 have hgk:idxG (zz0 (t.nd x)).Kids (i:Int)=some (z:Int):=qz0 (yq0 k1)
 simp only[tkid_b,hg,Option.bind_some,hloop,qy0,qj0,hC]
 by_cases hlt:i<(t.nd x).cuts.length
 ·have h1:¬ ((i:Int)<0):=by omega
  simp only[if_pos hlt,orR,Option.bind_some,decide_eq_false h1,cond_false,hgk]
 ·have he:((t.nd x).cuts.length:Int)=(i:Int):=by omega
  have h1:((-1:Int)<0):=by omega
  simp only[if_neg hlt,orR,Option.bind_some,decide_eq_true h1,cond_true,he,hgk]
end Go.SX.Td
namespace Go.SX.Td
open Go Go.SX Tb
section
variable (p:Policy)(t:Tab Decision)
noncomputable def wp0 (f:A10 Int)(a:Nat):List Nat:=(List.range (qx0 p).nz).filter ((qx0 p).Pre a (toF f))
abbrev EqvP (a:Nat)(l:List Nat)(x:Nat):Prop:=Eqv zq0 (qx0 p) (decL p) t a l x
def MemoV (m:List (ByteArray×Bool)):Prop :=
 ∀ (a x:Nat)(l:List Nat),a<10→x<t.ns.length→(∀ z∈l,z<(qq0 p).length)→mlookD m (keyS a x (pz p l)) false=true→EqvP p t a l x
end
theorem liveOf_lt {p:Policy}{f:A10 Int}{a:Nat}:∀ z∈wp0 p f a,z<(qq0 p).length:=fun z hz=>by
 have:=(List.mem_filter.1 hz).1
 simpa [qx0] using this
theorem liveOf_len (p:Policy)(f:A10 Int)(a:Nat):(wp0 p f a).length≤(qq0 p).length:=by
 have:=List.length_filter_le ((qx0 p).Pre a (toF f)) (List.range (qx0 p).nz)
 rw[List.length_range] at this
 exact this
theorem liveOf_zero (p:Policy)(f:A10 Int):wp0 p f 0=List.range (qq0 p).length:=by
 unfold wp0
 exact(bs0 p (toF f)).symm
theorem pre_congr {p:Policy}{f g:A10 Int}{a:Nat}(h:∀ j,j<a→f.get j=g.get j):wp0 p f a=wp0 p g a:=by
 unfold wp0
 refine List.filter_congr fun z _=>?_
 unfold Prob.Pre
 rw[Bool.eq_iff_iff,List.all_eq_true,List.all_eq_true]
 refine forall_congr' fun b=>forall_congr' fun hb=>?_
 by_cases hab:a≤b
 ·simp[hab]
 ·rw[zk0 f (List.mem_range.1 hb),zk0 g (List.mem_range.1 hb),h b (by omega)]
theorem liveOf_put {p:Policy}{f f':A10 Int}{a:Nat}(ha:a<10)(h:∀ j,j<a→f'.get j=f.get j)(c:Int):wp0 p (f'.put a c) (a+1)=(wp0 p f a).filter fun z=>(qx0 p).at z a c:=by
 rw[← pre_congr h]
 unfold wp0
 rw[toF_put f' ha,List.filter_filter]
 exact List.filter_congr fun z _=>nf0 ha (toF f') c z
theorem dec_live (p:Policy)(f:A10 Int):kv0 p f=decL p (wp0 p f 10):=by
 have h:=(ay0 p).dec (toF f)
 have e:(qx0 p).dec (toF f)=kv0 p f:=by show kv0 p (toA (toF f))=_;rw[fx0]
 rw[← e,h]
 rfl
theorem rest_loop {p:Policy}(G:PG p){a:Nat}(ha:a<10){live:List Nat}(hl:∀ z∈live,z<(qq0 p).length)(hn:live.length≤1000000)(x:Int) :
  whileG (tdiff_l26 (pz p live) p.Rules (a:Int) x) ([],0)=some (pz p (live.filter fun z=>(qx0 p).at z a x)):=by
 have hf:∀ (l s:List Nat),l.foldl (fun s i=>if (qx0 p).at i a x then s++[i] else s) s=s++l.filter (fun i=>(qx0 p).at i a x):=fun l=>by
  induction l with
  | nil=>intro s;simp
  | cons i l ih =>
   intro s
   rw[List.foldl_cons,ih,List.filter_cons]
   split<;>simp
 have:=ws0 (step:=tdiff_l26 (pz p live) p.Rules (a:Int) x) (fun s i=>(pz p s,i)) live (fun s i=>if (qx0 p).at i a x then s++[i] else s) [] (pz p (live.filter fun i=>(qx0 p).at i a x)) (fun k i hi=>by
  have hk:k<live.length:=(List.getElem?_eq_some_iff.1 hi).1
  have hlt:(k:Int)<(pz p live).length:=by rw[db0];omega
  obtain⟨q,j,r,zn,g1,g2,g3,g4,g5,g6,-,-⟩:=zone_of G (hl i (List.mem_of_getElem? hi)) ha
  rw[hf,List.nil_append]
  have hsl:((live.take k).filter fun i=>(qx0 p).at i a x).length≤1000000:=Nat.le_trans (List.length_filter_le _ _) (by rw[List.length_take];omega)
  generalize ((live.take k).filter fun i=>(qx0 p).at i a x)=s at hsl
  have i1:idxG p.Rules (lv p i).rule=some r:=by rw[g1];exact qz0 g3
  have i2:idxG r.Zones (lv p i).zone=some zn:=by rw[g2];exact qz0 g4
  have h3:appG (pz p s) [lv p i]=some (pz p (s++[i])):=by
   rw[qu0 (by rw[db0];simp;omega)];simp[pz]
  have hat:(qx0 p).at i a x=decide (zlo (qq0 p) i a≤x∧x≤zhi (qq0 p) i a):=rfl
  simp only[tdiff_l26,qy0,qj0,hlt,decide_true,cond_true,qz0 (pz_get hi),i1,i2,qn0 ha,Option.bind_some,g5,g6,jk0,qe0,za0 (k:=k) (by omega),hat]
  by_cases h1:zlo (qq0 p) i a≤x
  ·by_cases h2:x≤zhi (qq0 p) i a
   ·simp[h1,h2,h3]
   ·simp[h1,h2]
  ·simp[h1]) (by
  rw[hf,List.nil_append]
  simp[tdiff_l26,qy0,qj0,db0])
 exact this
variable {p:Policy}{t:Tab Decision}
theorem tdiff_ok (G:PG p)(hR:p.Rules.length≤1000)(hZ:∀ r∈p.Rules,r.Zones.length≤1000)(c:t.Ok zq0)(hb:∀ n∈t.ns,Bd n)(hN:t.ns.length≤20000) :
  ∀ (n a x:Nat)(facts:A10 Int)(m:List (ByteArray×Bool)),n+a=11→a≤10→x<t.ns.length→a≤lev (t.nd x)→MemoV p t m →
  ∃ b g m',tdiff p.Rules (ze0 t).Nodes (ze0 t).Leaves zj0 n (a:Int) (pz p (wp0 p facts a)) (x:Int) facts m=some (b,g,m')∧MemoV p t m'∧(∀ j,j<a→g.get j=facts.get j) ∧
   (b=true→Fnd zq0 (qx0 p) (decL p) t a (wp0 p facts a) x (toF facts) (toF g))∧(b=false→EqvP p t a (wp0 p facts a) x):=by
 intro n
 induction n with
 | zero=>intro a x facts m h1 h2;omega
 | succ n ih =>
  intro a x facts m hna ha hx hlx hM
  have hal:=liveOf_lt (p:=p) (f:=facts) (a:=a)
  have hll:=liveOf_len p facts a
  have hnz:=G.nz
  simp only[tdiff,tdiff_b,zl0]
  by_cases ha10:a=10
  ·subst ha10
   have h10:((10:Nat):Int)=10:=rfl
   have hkl:=ten_leaf c hx hlx
   have hlf:=((c.fine x hx).leaf hkl).2.2
   have hg:idxG (ze0 t).Nodes (x:Int)=some (zz0 (t.nd x)):=qz0 (yb0 hx)
   have hgl:idxG (ze0 t).Leaves (zz0 (t.nd x)).Leaf=some (t.ls.getD (t.nd x).leaf default):=by
    refine qz0 (k:=(t.nd x).leaf) ?_
    show t.ls[_]?=_
    rw[List.getD_eq_getElem?_getD,List.getElem?_eq_getElem hlf];rfl
   have hdec:decide_Decide_g (Policy.mk p.Rules) facts=some (kv0 p facts):=Decide_eq p facts G.rules G.zones
   have hde:=dif_end (p:=qx0 p) (D:=decL p) c hx hlx (live:=wp0 p facts 10) (g:=toF facts)
   rw[← dec_live] at hde
   simp only[h10,decide_true,cond_true,hg,Option.bind_some,hgl,hdec,vc0,zd0]
   refine⟨_,facts,m,rfl,hM,fun _ _=>rfl,fun h=>fnd_end (hde.2 ?_),fun h f _ hf=>?_⟩
   ·intro e
    rw[e] at h;simp at h
   ·have e:t.ls.getD (t.nd x).leaf default=kv0 p facts:=by simpa using h
    have hff:Dif (qx0 p) (decL p) t 10 (wp0 p facts 10) x f↔decL p (wp0 p facts 10)≠t.ls.getD (t.nd x).leaf default:=dif_end c hx hlx
    rw[← dec_live] at hff
    exact hff.1 hf e.symm
  ·have halt:a<10:=by omega
   have hne:¬ ((a:Int)=10):=by omega
   have hkey:=key_eq G hR hZ (a:=a) (x:=x) ha (by omega) hal (by omega)
   simp only[decide_eq_false hne,cond_false,hkey,Option.bind_some]
   cases hmem:mlookD m (keyS a x (pz p (wp0 p facts a))) false with
   | true=>exact⟨false,facts,m,rfl,hM,fun _ _=>rfl,(fun h=>by cases h),fun _=>hM a x _ halt hx hal hmem⟩
   | false =>
    simp only[cond_false,vals_eq G hb halt hx hal (by omega),Option.bind_some,qj0]
    have hv1:=valsL_sorted p t a (wp0 p facts a) x
    have hv2:=valsL_len hb (a:=a) (live:=wp0 p facts a) hx (by omega) (p:=p)
    have hv3:=fun c=>@mem_valsL p t a (wp0 p facts a) x c
    have hzo:=fun (c:Int)(f':A10 Int)(h:∀ j,j<a→f'.get j=facts.get j)=>liveOf_put (p:=p) halt h c
    have hrl:=fun c=>rest_loop G halt hal (by omega) c
    generalize valsL p t a (wp0 p facts a) x=L at hv1 hv2 hv3
    generalize wp0 p facts a=live at hal hll hkey hmem hv3 hzo hrl
    obtain⟨r,hr,hQ⟩:=wk0 (step:=tdiff_l22 (L.length:Int) L (a:Int) (pz p live) p.Rules (ze0 t).Nodes (x:Int) (ze0 t).Leaves zj0 (tdiff p.Rules (ze0 t).Nodes (ze0 t).Leaves zj0 n)) (fun (s:A10 Int×List (ByteArray×Bool)) i=>(s.1,s.2,i)) L.length
     (fun k s=>MemoV p t s.2∧(∀ j,j<a→s.1.get j=facts.get j)∧∀ c∈L.take k,EqvP p t (a+1) (live.filter fun z=>(qx0 p).at z a c) (nxt t a x c))
     (fun r=>(∃ f m',r=.inl (f,m')∧MemoV p t m'∧(∀ j,j<a→f.get j=facts.get j)∧EqvP p t a live x) ∨
      (∃ g m',r=.inr (true,g,m')∧MemoV p t m'∧(∀ j,j<a→g.get j=facts.get j)∧Fnd zq0 (qx0 p) (decL p) t a live x (toF facts) (toF g)))
     (fun k s hk hI=>by
      obtain⟨f',m'⟩:=s
      obtain⟨hI1,hI2,hI3⟩:=hI
      simp only at hI1 hI2
      have hck:L[k]?=some L[k]:=by simp[hk]
      have hmk:L[k]∈L:=List.getElem_mem hk
      have hlt:(k:Int)<L.length:=by omega
      generalize hck':L[k]=v at hck hmk
      have hput:∀ j,j<a→(f'.put a v).get j=facts.get j:=fun j hj=>by rw[A10.get_put _ _ _ _ halt (by omega),if_neg (by omega)];exact hI2 j hj
      have hputa:(f'.put a v).get a=v:=by rw[A10.get_put _ _ _ _ halt halt,if_pos rfl]
      obtain⟨nx1,nx2⟩:=nxt_ok c hx hlx halt v
      have hnext:(Option.bind (Option.bind (idxG (ze0 t).Nodes (x:Int)) fun x34=>bif decide ((0:Int)<(x34.Kids.length:Int)) then (Option.bind (idxG (ze0 t).Nodes (x:Int)) fun x35=>some (decide (x35.Attr=(a:Int)))) else some false) fun v33 =>
        bif v33 then (Option.bind (tkid_b p.Rules (ze0 t).Nodes (ze0 t).Leaves zj0 (x:Int) v (f'.put a v) m') fun r36=>some r36) else some (x:Int))=some ((nxt t a x v:Nat):Int):=by
       rw[inner_eq hx,Option.bind_some]
       unfold nxt
       by_cases h:(t.nd x).kids≠[]∧(t.nd x).attr=a
       ·rw[decide_eq_true h,cond_true,if_pos h,kidv_eq c hb _ hx h.1];rfl
       ·rw[decide_eq_false h,cond_false,if_neg h]
      obtain⟨b,g,m2,h1,h2,h3,h4,h5⟩:=ih (a+1) (nxt t a x v) (f'.put a v) m' (by omega) (by omega) nx1 nx2 hI1
      rw[hzo v f' hI2] at h1 h4 h5
      have hg:∀ j,j<a→g.get j=facts.get j:=fun j hj=>(h3 j (by omega)).trans (hput j hj)
      have hwa:IntKind.i64.wrap ((a:Int)+1)=((a+1:Nat):Int):=za0 (by omega)
      simp only[tdiff_l22,qy0,qj0,zl0,hlt,decide_true,cond_true,qz0 hck,qn0 halt,Option.bind_some,hrl,qe0,hwa,za0 (k:=k) (by omega)]
      rw[hnext]
      simp only[Option.bind_some,h1]
      cases b with
      | true =>
       refine .inr ⟨_,by simp[orR],.inr ⟨g,m2,rfl,h2,hg,?_⟩⟩
       refine fnd_of kj0 c halt hx hv3 (facts':=toF (f'.put a v)) hmk (fun c' hc' hlt'=>?_) (fun j hj=>?_) ?_ (h4 rfl)
       ·obtain⟨i,hi,rfl⟩:=List.getElem_of_mem hc'
        refine hI3 _ (List.mem_take_iff_getElem.2 ⟨i,?_,rfl⟩)
        have:i<k:=by
         refine Classical.byContradiction fun hge=>?_
         rcases Nat.lt_or_eq_of_le (Nat.le_of_not_lt hge) with h | h
         ·have:=List.pairwise_iff_getElem.1 hv1 k i hk hi h;omega
         ·subst h;omega
        omega
       ·rw[zk0 _ (by omega),zk0 _ (by omega)];exact hput j hj
       ·rw[zk0 _ halt];exact hputa
      | false =>
       refine .inl ⟨(g,m2),by simp[orR],h2,hg,fun c' hc'=>?_⟩
       rw[List.take_add_one,hck] at hc'
       rcases List.mem_append.1 hc' with h | h
       ·exact hI3 c' h
       ·have:c'=v:=by simpa using h
        subst this;exact h5 rfl)
     (fun s hI=>by
      obtain⟨f',m'⟩:=s
      obtain⟨hI1,hI2,hI3⟩:=hI
      rw[List.take_length] at hI3
      exact⟨_,by simp[tdiff_l22,qy0],.inl ⟨f',m',rfl,hI1,hI2,eqv_of kj0 c halt hx hv3 hI3⟩⟩)
     (facts,m) ⟨hM,fun _ _=>rfl,fun c hc=>by simp at hc⟩
    have hr':whileG (tdiff_l22 (L.length:Int) L (a:Int) (pz p live) p.Rules (ze0 t).Nodes (x:Int) (ze0 t).Leaves zj0 (tdiff p.Rules (ze0 t).Nodes (ze0 t).Leaves zj0 n)) (facts,m,0)=some r:=hr
    rw[hr']
    rcases hQ with ⟨f,m',rfl,hm,hcj,he⟩ | ⟨g,m',rfl,hm,hg,hf⟩
    ·refine⟨false,f,_,rfl,fun a' x' l' ha' hx' hal' hl'=>?_,hcj,(fun h=>by cases h),fun _=>he⟩
     rw[ji0] at hl'
     split at hl'
     ·rename_i e
      obtain⟨rfl,rfl,e3⟩:=keyS_inj e
      rw[pz_inj hal' hal e3];exact he
     ·exact hm a' x' l' ha' hx' hal' hl'
    ·exact⟨true,g,m',rfl,hm,hg,fun _=>hf,(fun h=>by cases h)⟩
end Go.SX.Td
namespace Go.SX.Td
open Go Go.SX Tb
theorem Tab.eq_of {t s:Tab Decision}(h:t.ns=s.ns∧t.ls=s.ls):t=s:=by
 obtain⟨a,b⟩:=t;obtain⟨c,d⟩:=s;obtain⟨rfl,rfl⟩:=h;rfl
theorem kc0 {p:Policy}{t:Tab Decision}(c:t.Canon zq0)(h:∀ g,zq0.In g→t.val g 0=kv0 p (toA g)):zy0 p=t :=
 Tab.eq_of (Canon.unique kj0 (ww0 p).1 c (funext fun ⟨g,hg⟩=>by
  show (zy0 p).val g 0=t.val g 0
  rw[(ww0 p).2 g hg,h g hg]))
def t1 (d:Decision):Tab Decision:=⟨[⟨0,[],[],0⟩],[d]⟩
def t3 (d0 d1:Decision):Tab Decision:=⟨[⟨2,[1],[1,2],0⟩,⟨0,[],[],0⟩,⟨0,[],[],1⟩],[d0,d1]⟩
def t5 (d0 d1 d2:Decision):Tab Decision:=⟨[⟨1,[18],[1,2],0⟩,⟨0,[],[],0⟩,⟨2,[1],[3,4],0⟩,⟨0,[],[],1⟩,⟨0,[],[],2⟩],[d0,d1,d2]⟩
theorem yo0 {nn nl:Nat}{nd:Nat→Nd}{k:Nat}(h:k<nl):Fine zq0 nn nl nd ⟨0,[],[],k⟩ :=
 ⟨fun _=>⟨rfl,rfl,h⟩,fun h=>absurd rfl h,fun k hk=>(by cases hk),trivial⟩
theorem sg0 {nn nl:Nat}{nd:Nat→Nd}{a:Nat}{c:Int}{i j:Nat}(ha:a<10)(hc:zq0.lo a<c∧c≤zq0.hi a)(hij:i≠j)(hi:i<nn∧a<lev (nd i))(hj:j<nn∧a<lev (nd j)):Fine zq0 nn nl nd ⟨a,[c],[i,j],0⟩ :=
 ⟨fun h=>(by cases h),fun _=>⟨ha,rfl,rfl,by simp,hc.1,hc.2,trivial⟩,fun k hk=>by
  simp only[List.mem_cons,List.not_mem_nil,or_false] at hk
  rcases hk with rfl | rfl
  ·exact hi
  ·exact hj,⟨hij,trivial⟩⟩
theorem sq0 (d:Decision):(t1 d).Canon zq0 where
 ok:=⟨fun x hx=>by
  match x,hx with
  | 0,_=>exact yo0 (show 0<1 by decide),by simp[t1],by simp[t1]⟩
 pos:=by show 0<1;decide
 walk:=by rfl
 leaf x hx _:=by
  match x,hx with
  | 0,_=>rfl
 all:=by rfl
theorem t3_canon {d0 d1:Decision}(h:d0≠d1):(t3 d0 d1).Canon zq0 where
 ok:=⟨fun x hx=>by
  match x,hx with
  | 0,_=>exact sg0 (by decide) (by decide) (by decide) ⟨by show 1<3;decide,by show 2<10;decide⟩ ⟨by show 2<3;decide,by show 2<10;decide⟩
  | 1,_=>exact yo0 (show 0<2 by decide)
  | 2,_=>exact yo0 (show 1<2 by decide),by simp[t3],by simp[t3,h]⟩
 pos:=by show 0<3;decide
 walk:=by rfl
 leaf x hx hk:=by
  match x,hx with
  | 0,_=>cases hk
  | 1,_=>rfl
  | 2,_=>rfl
 all:=by rfl
theorem t5_canon {d0 d1 d2:Decision}(h1:d0≠d1)(h2:d0≠d2)(h3:d1≠d2):(t5 d0 d1 d2).Canon zq0 where
 ok:=⟨fun x hx=>by
  match x,hx with
  | 0,_=>exact sg0 (by decide) (by decide) (by decide) ⟨by show 1<5;decide,by show 1<10;decide⟩ ⟨by show 2<5;decide,by show 1<2;decide⟩
  | 1,_=>exact yo0 (show 0<3 by decide)
  | 2,_=>exact sg0 (by decide) (by decide) (by decide) ⟨by show 3<5;decide,by show 2<10;decide⟩ ⟨by show 4<5;decide,by show 2<10;decide⟩
  | 3,_=>exact yo0 (show 1<3 by decide)
  | 4,_=>exact yo0 (show 2<3 by decide),by simp[t5],by simp[t5,h1,h2,h3]⟩
 pos:=by show 0<5;decide
 walk:=by rfl
 leaf x hx hk:=by
  match x,hx with
  | 0,_=>cases hk
  | 1,_=>rfl
  | 2,_=>cases hk
  | 3,_=>rfl
  | 4,_=>rfl
 all:=by rfl
theorem t1_val (d:Decision)(g:Fa):(t1 d).val g 0=d:=rfl
theorem t3_val (d0 d1:Decision)(g:Fa):(t3 d0 d1).val g 0=if 1≤g 2 then d1 else d0:=by
 by_cases h:1≤g 2
 ·rw[if_pos h];simp[Tab.val,Tab.ua0,Tab.nd,t3,wo0,h]
 ·rw[if_neg h];simp[Tab.val,Tab.ua0,Tab.nd,t3,wo0,h]
theorem t5_val (d0 d1 d2:Decision)(g:Fa):(t5 d0 d1 d2).val g 0=if 18≤g 1 then (if 1≤g 2 then d2 else d1) else d0:=by
 by_cases h:18≤g 1
 ·by_cases h':1≤g 2
  ·rw[if_pos h,if_pos h'];simp[Tab.val,Tab.ua0,Tab.nd,t5,wo0,h,h']
  ·rw[if_pos h,if_neg h'];simp[Tab.val,Tab.ua0,Tab.nd,t5,wo0,h,h']
 ·rw[if_neg h];simp[Tab.val,Tab.ua0,Tab.nd,t5,wo0,h]
def jd (l:List (Bool×Rule)):Decision:=finJ (l.foldl (fun (s:JS×Nat) x=>(if x.1 then note s.1 s.2 x.2 else s.1,s.2+1)) (J0,0)).1
theorem fs0 (p:Policy)(f:A10 Int):kv0 p f=jd (p.Rules.map fun r=>(holds r f,r)):=by
 unfold kv0 jd
 rw[List.foldl_map]
 rfl
theorem inZ_put {g:Fa}(hg:zq0.In g){a:Nat}(ha:a<10)(r:Range):inZ (zj0.put a r) (toA g)=decide (r.Lo≤g a∧g a≤r.Hi):=by
 rw[Bool.eq_iff_iff,fm0,decide_eq_true_eq]
 constructor
 ·intro h
  have:=h a ha
  rwa [A10.get_put _ _ _ _ ha ha,if_pos rfl,jq0 g a ha] at this
 ·intro h i hi
  rw[A10.get_put _ _ _ _ ha hi,jq0 g i hi]
  split
  ·rename_i e;subst e;exact h
  ·exact hg i hi
theorem bw0 {g:Fa}(hg:zq0.In g):inZ zj0 (toA g)=true:=by
 rw[fm0];intro i hi;rw[jq0 g i hi];exact hg i hi
def rl (kind:Int)(name:ByteArray)(n:Int)(z:A10 Range):Rule:=⟨kind,name,[z],n,⟨0,1⟩,⟨0,1⟩⟩
theorem by0 (kind:Int)(name:ByteArray)(n:Int)(z:A10 Range)(f:A10 Int):holds (rl kind name n z) f=inZ z f:=by simp[holds,rl]
def nA : ByteArray:=⟨#[97]⟩
def nP : ByteArray:=⟨#[112]⟩
def nD : ByteArray:=⟨#[100]⟩
theorem v0 : zv0 ⟨[]⟩=true:=by decide +kernel
theorem ss0 {n:Nd}(h1:n.cuts.length≤1)(h2:n.kids.length≤2)(h3:∀ c∈n.cuts,0≤c∧c≤18)(h4:∀ k∈n.kids,k≤10)(h5:n.attr≤10)(h6:n.leaf≤10):Bd n :=
 ⟨by omega,by omega,fun c hc=>by have:=h3 c hc;omega,fun k hk=>by have:=h4 k hk;omega,by omega,by omega⟩
theorem PG0 {l:List Rule}(hv:zv0 ⟨l⟩=true)(h:(qq0 ⟨l⟩).length≤10):PG ⟨l⟩:=PG_few hv h
theorem g0 : PG ⟨[]⟩:=PG0 v0 (by decide)
theorem ud0 : table_Valid_g ⟨[],[]⟩=some false:=by
 unfold table_Valid_g
 simp only[qy0,qj0,List.length_nil,Int.natCast_zero]
 rfl
end Go.SX.Td
