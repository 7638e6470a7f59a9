/- Parts of the proof. -/
import Derived.Test.YtllbabjgpdmblaaDoorZTdP4
import Derived.Test.YtllbabjgpdmblaaDoorZTdCompact
import Derived.Test.YtllbabjgpdmblaaDoorZTd32d
set_option linter.unusedSimpArgs false
set_option linter.unusedVariables false
set_option linter.unusedSectionVars false
namespace Go.SX.Td
open Go Go.SX Tb
theorem tbuild_eq {p:Policy}(G:PG p):∀ (r a:Nat)(live:List Nat)(f:A10 Int)(b:Bs Decision),a+r=10→InvP p b→live=(List.range (qx0 p).nz).filter ((qx0 p).Pre a (toF f)) →
  tbuild p.Rules zj0 (qq0 p) (r+1) (a:Int) (ints live) f (zf0 b) b.tab.ls (knE b) (yg0 b) (yp0 b)=some (outE (make (qx0 p) r a live (toF f) b))
 | 0,a,live,f,b,har,hb,hlive=>by
  obtain rfl:a=10:=by omega
  obtain⟨h1,h2⟩:=leaf_case G f b hb (tbuild p.Rules zj0 (qq0 p) 0)
  have e:(qx0 p).dec (toF f)=kv0 p f:=by show kv0 p (toA (toF f))=_;rw[fx0]
  have e10:((10:Nat):Int)=10:=rfl
  simp only[make,e]
  rw[← h1,← h2 (ints live)]
  rfl
 | r+1,a,live,f,b,har,hb,hlive=>by
  have ha:a<10:=by omega
  have hsub:live.Sublist (List.range (qx0 p).nz):=hlive▸List.filter_sublist
  have hnz:(qx0 p).nz=(qq0 p).length:=rfl
  have hl:∀ z∈live,z<(qq0 p).length:=fun z hz=>by simpa [hnz] using hsub.subset hz
  have hn:live.length≤1000:=by have:=hsub.length_le;rw[List.length_range,hnz] at this;have:=G.nz;omega
  obtain⟨hns,hls⟩:=G.bnd b hb
  have hkey:table_text_g [ints live,[(a:Int)]]=some (mkey a live):=by
   rw[text_eq (textOk (fun x hx=>by simp at hx;rcases hx with rfl | rfl<;>simp[qk0];omega) (by simp) (fun x hx n hn=>by
    simp at hx
    rcases hx with rfl | rfl
    ·obtain⟨k,hk,rfl⟩:=sk0.1 hn
     have:=hl k hk;have:=G.nz;omega
    ·simp at hn;subst hn;omega))]
   rfl
  have ha10:¬ ((a:Int)=10):=by omega
  have hlk:=look_made (b:=b) a live
  show tbuild_b p.Rules zj0 (qq0 p) (tbuild p.Rules zj0 (qq0 p) (r+1)) (a:Int) (ints live) f (zf0 b) b.tab.ls (knE b) (yg0 b) (yp0 b)=_
  simp only[tbuild_b,zl0,ha10,decide_false,cond_false,Option.bind_some,hkey,make]
  cases hm:Tb.look b.made (a,live) with
  | some n =>
   rw[hm] at hlk
   rw[hlk]
   simp only[Option.map_some,optG,Option.bind_some]
   rfl
  | none =>
   rw[hm] at hlk
   rw[hlk]
   have hno:=ao0 hm
   have h20:¬ (20000<(b.tab.ns.length:Int)):=by omega
   have hst:=starts_loop G.zok ha hl (by omega)
   have hsl:=yd0 (qq0 p) a (ints live) [zq0.lo a]
   rw[qk0] at hsl
   have hs1:(zc0 (qq0 p) a live).length≤1000000:=by unfold zc0;simp at hsl;omega
   have hs2:sortG (zc0 (qq0 p) a live)=some (sortL (zc0 (qq0 p) a live)):=by unfold sortG;rw[if_pos (by omega)]
   have hs3:compG (sortL (zc0 (qq0 p) a live))=some (starts (qq0 p) a live):=by unfold compG;rw[if_pos (by rw[ky0];omega)];rfl
   have hlen:=ln0 (qq0 p) a live
   obtain⟨l',hl',hasc,-⟩:=starts_ok (qq0 p) a live
   have hlb:∀ c∈starts (qq0 p) a live,zq0.lo a≤c∧c≤zq0.hi a:=fun c hc=>by
    have:=(ko0 a).2.1
    rw[hl'] at hc
    rcases List.mem_cons.1 hc with rfl | hc
    ·omega
    ·have:=pt0 hasc c hc;omega
   have hne:starts (qq0 p) a live≠[]:=by rw[hl'];simp
   simp only[Option.map_none,optG,qy0,qj0,xw0,h20,decide_false,cond_false,qn0 ha,Option.bind_some,hst,hs2,hs3]
   generalize hFd:(fun c b=>make (qx0 p) r (a+1) (live.filter fun z=>(qx0 p).at z a c) (upd (toF f) a c) b)=F
   have hpre:∀ c,(live.filter fun z=>(qx0 p).at z a c)=(List.range (qx0 p).nz).filter ((qx0 p).Pre (a+1) (upd (toF f) a c)):=fun c=>by
    rw[hlive,List.filter_filter]
    exact List.filter_congr fun z _=>(nf0 ha (toF f) c z).symm
   have hF:FSpec zq0 (qx0 p) (decL p) a (fun c g=>sem (qx0 p) (decL p) (a+1) (live.filter fun z=>(qx0 p).at z a c) g) F:=fun c b _ _ hb=>by
    subst hFd
    exact ae0 kj0 (ay0 p) r (a+1) _ (upd (toF f) a c) b (by omega) hb (hpre c)
   have hrec:∀ c b,zq0.lo a≤c→c≤zq0.hi a→InvP p b→tbuild p.Rules zj0 (qq0 p) (r+1) ((a+1:Nat):Int) (ints (live.filter fun z=>(qx0 p).at z a c)) (f.put a c) (zf0 b) b.tab.ls (knE b) (yg0 b) (yp0 b)=some (outE (F c b)):=fun c b _ _ hb=>by
    subst hFd
    have:=tbuild_eq G r (a+1) (live.filter fun z=>(qx0 p).at z a c) (f.put a c) b (by omega) hb (by rw[toF_put f ha c];exact hpre c)
    rw[this,toF_put f ha c]
   have hstp:(qx0 p).starts a live=starts (qq0 p) a live:=rfl
   rw[hstp]
   generalize starts (qq0 p) a live=l at hs3 hlen hlb hne
   obtain⟨⟨b2,f2,C,K⟩,hloop,hKI⟩:=kids_loop (rec:=tbuild p.Rules zj0 (qq0 p) (r+1)) ha hl (by omega) hF (by omega) hlb hrec hb
   obtain⟨keq,kinv,-,kcl,kkl,-,knz,klt,kcm,kkeys,kext⟩:=hKI
   simp only at hloop keq kinv kcl kkl knz klt kcm kkeys kext
   rw[List.take_length] at keq
   rw[hloop,keq]
   have hK:=knz (List.length_pos_iff.2 hne)
   obtain⟨hns2,hls2⟩:=G.bnd b2 kinv
   have hno2:(a,live) ∉ b2.made.map (·.1):=fun e=>by
    rcases kkeys _ e with e | e
    ·exact hno e
    ·simp at e;omega
   have hlk2:=look_made (b:=b2) a live
   rw[look_not hno2] at hlk2
   have hput:∀ n:Nat,mputG (yg0 b2) (mkey a live) (n:Int)=yg0 b2++[(mkey a live,(n:Int))]:=fun n=>jf0 _ _ _ hlk2
   cases K with
   | nil=>exact absurd rfl hK
   | cons n0 K' =>
    have hr0:rixG (ints (n0::K')) 0=some 0:=by unfold rixG;rw[if_pos (by rw[qk0];simp)];rfl
    have hg0:(ints (n0::K'))[0]?=some (n0:Int):=rfl
    simp only[Option.bind_some,hr0,hg0,qk0]
    cases K' with
    | nil =>
     have h1:¬ ((1:Int)<(([n0]:List Nat).length:Int)):=by simp
     simp only[h1,decide_false,cond_false,Option.bind_some,hput,outE]
     simp[yg0,zf0,knE,yp0]
    | cons n1 K'' =>
     have h1:(1:Int)<((n0::n1::K'':List Nat).length:Int):=by simp;omega
     have hcm:∀ c∈C,0≤c∧c≤1000000000:=fun c hc=>by
      have:=hlb c (kcm c hc);have:=ko0 a;omega
     have htxt:table_text_g [C,ints (n0::n1::K''),[(a:Int),0]]=some (nt0 (zz0 ⟨a,C,n0::n1::K'',0⟩)):=by
      rw[text_eq (textOk (fun x hx=>by
       simp only[List.mem_cons,List.not_mem_nil,or_false] at hx
       rcases hx with rfl | rfl | rfl
       ·omega
       ·rw[qk0];omega
       ·simp) (by simp) (fun x hx n hn=>by
       simp only[List.mem_cons,List.not_mem_nil,or_false] at hx
       rcases hx with rfl | rfl | rfl
       ·have:=hcm n hn;omega
       ·obtain⟨k,hk,rfl⟩:=sk0.1 hn
        have:=klt k hk;omega
       ·simp at hn;rcases hn with rfl | rfl<;>omega))]
      rfl
     simp only[h1,decide_true,cond_true,Option.bind_some,htxt]
     have hs:=pr0 (b:=b2) (ρ:=List Node×List (ByteArray×Int)×Int) ⟨a,C,n0::n1::K'',0⟩ (by omega) (fun y=>some (zf0 b2,knE b2,y)) (fun ns kn k=>some (ns,kn,k)) (fun k _=>rfl)
     obtain⟨k1,k2⟩:=pi0 (b:=b2) ⟨a,C,n0::n1::K'',0⟩
     simp only[qj0] at hs
     have e:(Node.mk (a:Int) C (ints (n0::n1::K'')) 0)=zz0 ⟨a,C,n0::n1::K'',0⟩:=rfl
     rw[e]
     simp only[Option.bind_some,optG] at hs
     rw[hs]
     simp only[Option.bind_some,hput]
     simp only[outE,yg0,yp0,k1,k2,List.map_append,List.map_cons,List.map_nil,zf0,knE]
end Go.SX.Td
namespace Go.SX.Td
open Go Go.SX Tb
def fy0 (o:List Nat):List (Int×Bool):=o.map fun k:Nat=>((k:Int),true)
def numE (o:List Nat):List (Int×Int):=places (fun k:Nat=>(k:Int)) o
theorem ai0 : ∀ (o:List Nat)(x:Nat),mlook (fy0 o) (x:Int)=if x∈o then some true else none
 | [],_=>rfl
 | a::o,x=>by
  have ih:=ai0 o x
  simp only[fy0,List.map_cons,mlook,List.mem_cons] at ih ⊢
  by_cases h:x=a
  ·subst h;simp
  ·rw[if_neg (by omega),ih]
   simp[h]
theorem xy0 (o:List Nat)(x:Nat):mlookD (fy0 o) (x:Int) false=decide (x∈o):=by
 unfold mlookD;rw[ai0];split<;>simp[*]
theorem put_seen {o:List Nat}{x:Nat}(h:x ∉ o):mputG (fy0 o) (x:Int) true=fy0 (o++[x]):=by
 rw[jf0 _ _ _ (by rw[ai0,if_neg h])];simp[fy0]
theorem idx_not {α:Type}[DecidableEq α]:∀ {l:List α}{x:α},x ∉ l→idx l x=none
 | [],_,_=>rfl
 | a::l,x,h=>by
  simp only[List.mem_cons,not_or] at h
  simp only[idx,if_neg (fun e=>h.1 (Eq.symm e)),idx_not h.2,Option.map_none]
theorem look_num (o:List Nat)(x:Nat):mlook (numE o) (x:Int)=(idx o x).map fun i:Nat=>(i:Int):=vd0 (key:=fun k:Nat=>(k:Int)) (fun _ _ h=>Int.ofNat.inj h) _ x
theorem put_num {o:List Nat}{x:Nat}(h:x ∉ o):mputG (numE o) (x:Int) (o.length:Int)=numE (o++[x]):=by
 rw[jf0 _ _ _ (by rw[look_num,idx_not h];rfl)];unfold numE;rw[ub0]
theorem look_numD (o:List Nat)(x:Nat):mlookD (numE o) (x:Int) 0=((pos o x:Nat):Int):=by
 unfold mlookD;rw[look_num];unfold pos;cases idx o x<;>rfl
theorem len_lt {o:List Nat}{N:Nat}(h1:o.Nodup)(h2:∀ y∈o,y<N):o.length≤N:=by
 have:=len_le (l:=o) (m:=List.range N) h1 fun x hx=>List.mem_range.2 (h2 x hx)
 rwa [List.length_range] at this
theorem yb0 {t:Tab Decision}{x:Nat}(hx:x<t.ns.length):(t.ns.map zz0)[x]?=some (zz0 (t.nd x)):=by
 rw[List.getElem?_map]
 unfold Tab.nd
 rw[List.getD_eq_getElem?_getD,List.getElem?_eq_getElem hx];rfl
theorem asc_len : ∀ {l:List Int}{lo hi:Int},Asc lo hi l→lo≤hi→(l.length:Int)≤hi - lo
 | [],_,_,_,h=>by simp;omega
 | c::l,lo,hi,h,_=>by have:=asc_len h.2.2 h.2.1;have:=h.1;simp only[List.length_cons];omega
theorem kids_few {t:Tab Decision}(h:t.Ok zq0){x:Nat}(hx:x<t.ns.length):(t.nd x).kids.length≤1000000001:=by
 by_cases hk:(t.nd x).kids=[]
 ·rw[hk];simp
 ·obtain⟨-,-,h3,-,h5⟩:=(h.fine x hx).inner hk
  have:=ko0 (t.nd x).attr
  have:=asc_len h5 this.2.1
  omega
abbrev zu0 (t:Tab Decision):Nat→List Nat:=fun x=>(t.nd x).kids
theorem walkT_eq {t:Tab Decision}(h:t.Ok zq0)(hN:t.ns.length≤20000):∀ (n x:Nat)(o:List Nat),x<t.ns.length→10<n+lev (t.nd x)→o.Nodup→(∀ y∈o,y<t.ns.length) →
  walkT (t.ns.map zz0) n (x:Int) (fy0 o) (ints o) (numE o)=some (fy0 (walk (zu0 t) n x o),ints (walk (zu0 t) n x o),numE (walk (zu0 t) n x o))
 | 0,x,o,hx,hl,_,_=>by have:=ye0 h hx;omega
 | n+1,x,o,hx,hl,ho,hb=>by
  show walkT_b _ (walkT (t.ns.map zz0) n) _ _ _ _=_
  by_cases hm:x∈o
  ·simp only[walkT_b,Option.bind_some,xy0,hm,decide_true,cond_true,walk,if_true]
  ·have hlen:o.length<t.ns.length:=by
    have:=len_lt (o:=o++[x]) (N:=t.ns.length) (by
     rw[List.nodup_append]
     exact⟨ho,by simp,fun a ha b hb e=>hm (by simp at hb;rw[← hb,← e];exact ha)⟩) (fun y hy=>by
     rcases List.mem_append.1 hy with hy | hy
     ·exact hb y hy
     ·simp at hy;omega)
    simp at this;omega
   have hap:appG (ints o) [(x:Int)]=some (ints (o++[x])):=by
    rw[qu0 (by rw[qk0];simp;omega)];simp[ints]
   have hr:rixG (t.ns.map zz0) (x:Int)=some x:=by unfold rixG;rw[if_pos (by rw[List.length_map];omega)];simp
   simp only[walkT_b,Option.bind_some,xy0,hm,decide_false,cond_false,put_seen hm,qj0,qk0,put_num hm,hap,hr,yb0 hx,walk,if_false]
   have hkid:=wn0 h hx
   have hgood:∀ k,k≤(t.nd x).kids.length→(((t.nd x).kids.take k).foldl (fun o k=>walk (zu0 t) n k o) (o++[x])).Nodup∧∀ y∈((t.nd x).kids.take k).foldl (fun o k=>walk (zu0 t) n k o) (o++[x]),y<t.ns.length:=by
    intro k
    induction k with
    | zero=>intro _;simp only[List.take_zero,List.foldl_nil];exact⟨by
      rw[List.nodup_append]
      exact⟨ho,by simp,fun a ha b hb e=>hm (by simp at hb;rw[← hb,← e];exact ha)⟩,fun y hy=>by
      rcases List.mem_append.1 hy with hy | hy
      ·exact hb y hy
      ·simp at hy;omega⟩
    | succ k ih =>
     intro hk
     obtain⟨i1,i2⟩:=ih (by omega)
     have hg:(t.nd x).kids[k]?=some (t.nd x).kids[k]:=by simp
     rw[List.take_add_one,hg,Option.toList_some,List.foldl_append]
     simp only[List.foldl_cons,List.foldl_nil]
     obtain⟨k1,k2⟩:=hkid _ (List.mem_of_getElem? hg)
     obtain⟨w1,-⟩:=vy0 (kids:=zu0 t) (lv:=fun x=>lev (t.nd x)) (N:=t.ns.length) (fun x hx k hk=>wn0 h hx k hk) n _ (((t.nd x).kids.take k).foldl (fun o k=>walk (zu0 t) n k o) (o++[x])) k1 (by omega) (ye0 h k1) (fun x hx=>ye0 h hx)
     exact⟨w1.nod i1,fun y hy=>(w1.lt y hy).elim (i2 y) id⟩
   refine ws0 (step:=walkT_l1 (zz0 (t.nd x)) (walkT (t.ns.map zz0) n)) (fun (s:List Nat) i=>(fy0 s,ints s,numE s,i)) (t.nd x).kids (fun o k=>walk (zu0 t) n k o) (o++[x]) _ (fun k y hy=>?_) ?_
   ·have hk:k<(t.nd x).kids.length:=(List.getElem?_eq_some_iff.1 hy).1
    obtain⟨g1,g2⟩:=hgood k (by omega)
    obtain⟨k1,k2⟩:=hkid y (List.mem_of_getElem? hy)
    have hlt:(k:Int)<(ints (t.nd x).kids).length:=by rw[qk0];omega
    have hkl:k<9223372036854775807:=by have:=kids_few h hx;omega
    have e:=walkT_eq h hN n y _ k1 (by omega) g1 g2
    simp only[walkT_l1,qy0,qj0,zz0,hlt,decide_true,cond_true,qz0 (yq0 hy),Option.bind_some,e,qe0,za0 hkl]
   ·have hlt:¬ (((t.nd x).kids.length:Int)<(ints (t.nd x).kids).length):=by rw[qk0];omega
    simp only[walkT_l1,qy0,qj0,zz0,hlt,decide_false,cond_false]
end Go.SX.Td
namespace Go.SX.Td
open Go Go.SX Tb
theorem zones_loop {p:Policy}(G:PG p):whileG (table_Build_l2 p) ([],0)=some (qq0 p):=by
 have hf:∀ (l:List Rule)(s:Zs),l.foldl (fun (s:Zs)(r:Rule)=>s++r.Zones) s=s++l.flatMap (·.Zones):=by
  intro l
  induction l with
  | nil=>intro s;simp
  | cons r l ih=>intro s;rw[List.foldl_cons,ih];simp
 have h0:=hf p.Rules []
 rw[List.nil_append] at h0
 rw[show qq0 p=p.Rules.flatMap (·.Zones) from rfl,← h0]
 refine ws0 (step:=table_Build_l2 p) (fun (s:Zs) i=>(s,i)) p.Rules (fun s r=>s++r.Zones) [] _ (fun k r hr=>?_) (by simp[table_Build_l2,qy0,qj0])
 have hk:k<p.Rules.length:=(List.getElem?_eq_some_iff.1 hr).1
 have hlt:(k:Int)<p.Rules.length:=by omega
 have hle:(((p.Rules.take k).foldl (fun (s:Zs)(r:Rule)=>s++r.Zones) []).length:Nat)+r.Zones.length≤(qq0 p).length:=by
  rw[hf,List.nil_append,← List.length_append]
  have e:(p.Rules.take (k+1)).flatMap (·.Zones)=(p.Rules.take k).flatMap (·.Zones)++r.Zones:=by rw[List.take_add_one,hr];simp
  rw[← e]
  have e2:qq0 p=(p.Rules.take (k+1)).flatMap (·.Zones)++(p.Rules.drop (k+1)).flatMap (·.Zones):=by
   rw[← List.flatMap_append,List.take_append_drop];rfl
  rw[e2,List.length_append]
  omega
 have:=G.nz
 have:=G.rules
 simp only[table_Build_l2,qy0,qj0,hlt,decide_true,cond_true,qz0 hr,Option.bind_some,qe0,za0 (k:=k) (by omega)]
 rw[qu0 (by omega)]
 rfl
theorem yw0 : ∀ (m n:Nat),m≤n→(List.range m).foldl (fun (s:List Int)(k:Nat)=>s.set k (k:Int)) (List.replicate n 0)=ints (List.range m)++List.replicate (n - m) 0
 | 0,n,_=>by simp[ints]
 | m+1,n,h=>by
  rw[List.range_succ,List.foldl_append,yw0 m n (by omega)]
  simp only[List.foldl_cons,List.foldl_nil]
  rw[List.set_append_right _ _ (by rw[qk0,List.length_range];omega),qk0,List.length_range,Nat.sub_self]
  obtain⟨k,hk⟩:∃ k,n - m=k+1:=⟨n - m - 1,by omega⟩
  rw[hk,List.replicate_succ,List.set_cons_zero]
  have:n - (m+1)=k:=by omega
  rw[this]
  simp[ints]
theorem all_loop (n:Nat)(hn:n≤1000000):whileG (table_Build_l4 (List.replicate n 0)) (List.replicate n 0,0)=some (ints (List.range n)):=by
 have h0:=yw0 n n (Nat.le_refl _)
 rw[Nat.sub_self,List.replicate_zero,List.append_nil] at h0
 rw[← h0]
 have hl:∀ k,k≤n→((List.range k).foldl (fun (s:List Int)(k:Nat)=>s.set k (k:Int)) (List.replicate n 0)).length=n:=fun k hk=>by
  rw[yw0 k n hk,List.length_append,qk0,List.length_range,List.length_replicate];omega
 refine ws0 (step:=table_Build_l4 (List.replicate n 0)) (fun (s:List Int) i=>(s,i)) (List.range n) (fun s k=>s.set k (k:Int)) _ _ (fun k x hx=>?_) (by simp[table_Build_l4,qy0,qj0])
 obtain⟨hk,hx⟩:=List.getElem?_eq_some_iff.1 hx
 rw[List.getElem_range] at hx
 subst hx
 rw[List.length_range] at hk
 have e:(List.range n).take k=List.range k:=by rw[List.take_range];congr 1;omega
 rw[e]
 have hlk:=hl k (by omega)
 generalize (List.range k).foldl (fun (s:List Int)(k:Nat)=>s.set k (k:Int)) (List.replicate n 0)=s at hlk
 have hlt:(k:Int)<(List.replicate n (0:Int)).length:=by rw[List.length_replicate];omega
 have hr:rixG s (k:Int)=some k:=by unfold rixG;rw[if_pos (by omega)];simp
 have hu:updG s k (fun _=>(k:Int))=some (s.set k (k:Int)):=by unfold updG;rw[List.getElem?_eq_getElem (by omega)]
 simp only[table_Build_l4,qy0,qj0,hlt,decide_true,cond_true,hr,hu,Option.bind_some,qe0,za0 (k:=k) (by omega)]
theorem kidnum_loop (n:Nd)(O:List Nat)(hn:n.kids.length≤1000000001)(hk:n.kids.length≤1000000000):whileG (table_Build_l30 (zz0 n) (numE O)) ([],0)=some (ints (n.kids.map (pos O))):=by
 have hf:∀ (l:List Nat)(s:List Int),l.foldl (fun (s:List Int)(k:Nat)=>s++[((pos O k:Nat):Int)]) s=s++ints (l.map (pos O)):=by
  intro l
  induction l with
  | nil=>intro s;simp[ints]
  | cons r l ih=>intro s;rw[List.foldl_cons,ih];simp[ints]
 have h0:=hf n.kids []
 rw[List.nil_append] at h0
 rw[← h0]
 refine ws0 (step:=table_Build_l30 (zz0 n) (numE O)) (fun (s:List Int) i=>(s,i)) n.kids (fun s k=>s++[((pos O k:Nat):Int)]) [] _ (fun k x hx=>?_) (by simp[table_Build_l30,qy0,qj0,zz0,qk0])
 have hkl:k<n.kids.length:=(List.getElem?_eq_some_iff.1 hx).1
 have hlt:(k:Int)<(ints n.kids).length:=by rw[qk0];omega
 rw[hf,List.nil_append]
 have hap:∀ y:Int,appG (ints ((n.kids.take k).map (pos O))) [y]=some (ints ((n.kids.take k).map (pos O))++[y]):=fun y=>qu0 (by rw[qk0,List.length_map,List.length_take];simp;omega)
 simp only[table_Build_l30,qy0,qj0,zz0,hlt,decide_true,cond_true,qz0 (yq0 hx),Option.bind_some,look_numD,hap,qe0,za0 (k:=k) (by omega)]
variable {t:Tab Decision}
theorem nv0 (ps:Nat→Nat)(x:Nat):∀ (l:List Nat)(k:Nat),ren t ps (l++[x]) k=ren t ps l k++ren t ps [x] (k+lno t l)
 | [],k=>by simp[ren,lno]
 | a::l,k=>by
  simp only[List.cons_append]
  conv=>lhs;unfold ren
  conv=>rhs;rw[show ren t ps (a::l) k=_ from by unfold ren;rfl]
  by_cases h:(t.nd a).kids=[]
  ·rw[if_pos h,if_pos h,List.cons_append,nv0 ps x l (k+1)]
   have:lno t (a::l)=lno t l+1:=by unfold lno;rw[List.filter_cons_of_pos (by simp[h])];rfl
   rw[this,show k+(lno t l+1)=k+1+lno t l by omega]
  ·rw[if_neg h,if_neg h,List.cons_append,nv0 ps x l k]
   have:lno t (a::l)=lno t l:=by unfold lno;rw[List.filter_cons_of_neg (by simp[h])]
   rw[this]
theorem lvs_snoc (x:Nat)(l:List Nat):lvs t (l++[x])=lvs t l++if (t.nd x).kids=[] then [t.ls.getD (t.nd x).leaf default] else []:=by
 unfold lvs
 rw[List.filter_append,List.map_append]
 congr 1
 by_cases h:(t.nd x).kids=[]
 ·rw[if_pos h,List.filter_cons_of_pos (by simp[h])];rfl
 ·rw[if_neg h,List.filter_cons_of_neg (by simp[h])];rfl
theorem lvs_len (l:List Nat):(lvs t l).length=lno t l:=by unfold lvs lno;rw[List.length_map]
theorem renum_loop (h:t.Ok zq0){O:List Nat}(hO:∀ x∈O,x<t.ns.length)(hn:O.length≤20000)(hk:∀ x∈O,(t.nd x).kids.length≤1000000000) :
  whileG (table_Build_l26 (ints O) (t.ns.map zz0) t.ls (numE O)) ([],[],0)=some ((ren t (pos O) O 0).map zz0,lvs t O):=by
 obtain⟨r,h1,rfl⟩:=wk0 (step:=table_Build_l26 (ints O) (t.ns.map zz0) t.ls (numE O)) (fun (s:List Node×List Decision) i=>(s.1,s.2,i)) O.length
  (fun k s=>s=((ren t (pos O) (O.take k) 0).map zz0,lvs t (O.take k))) (fun r=>r=((ren t (pos O) O 0).map zz0,lvs t O)) (fun k s hk' hI=>by
  subst hI
  refine .inl ⟨_,?_,rfl⟩
  have hx:O[k]?=some O[k]:=by simp[hk']
  have hm:O[k]∈O:=List.getElem_mem _
  have hxl:=hO _ hm
  have hxk:=hk _ hm
  have hro:rixG (ints O) (k:Int)=some k:=by unfold rixG;rw[if_pos (by rw[qk0];omega)];simp
  rw[List.take_add_one,hx,Option.toList_some]
  generalize O[k]=x at hx hm hxl hxk
  have hrn:rixG (t.ns.map zz0) (x:Int)=some x:=by unfold rixG;rw[if_pos (by rw[List.length_map];omega)];simp
  have hlt:(k:Int)<(ints O).length:=by rw[qk0];omega
  have hlo:lno t (O.take k)≤20000:=by
   unfold lno
   have h1:=List.length_filter_le (fun x=>(t.nd x).kids.isEmpty) (O.take k)
   rw[List.length_take] at h1;omega
  have hrl:(ren t (pos O) (O.take k) 0).length≤20000:=by rw[ng0,List.length_take];omega
  have hkn:=kidnum_loop (t.nd x) O (by omega) hxk
  have hf:=h.fine x hxl
  rw[nv0,lvs_snoc,Nat.zero_add]
  simp only[table_Build_l26,qy0,qj0,hlt,decide_true,cond_true,hro,yq0 hx,Option.bind_some,hrn,yb0 hxl,zl0,hkn,qe0,za0 (k:=k) (by omega),ren]
  by_cases hkk:(t.nd x).kids=[]
  ·obtain⟨f1,f2,f3⟩:=hf.leaf hkk
   have hz:(((zz0 (t.nd x)).Kids.length:Int)=0):=by simp[zz0,ints,hkk]
   have hgl:t.ls[(t.nd x).leaf]?=some (t.ls.getD (t.nd x).leaf default):=by rw[List.getD_eq_getElem?_getD,List.getElem?_eq_getElem f3];rfl
   have hrl2:idxG t.ls (zz0 (t.nd x)).Leaf=some (t.ls.getD (t.nd x).leaf default):=qz0 hgl
   have hap:∀ d,appG (lvs t (O.take k)) [d]=some (lvs t (O.take k)++[d]):=fun d=>qu0 (by rw[lvs_len];simp;omega)
   have hwr:io.ar .sub .i64 (((lvs t (O.take k)++[t.ls.getD (t.nd x).leaf default]).length:Nat):Int) 1=((lno t (O.take k):Nat):Int):=by
    rw[um0,List.length_append,lvs_len,List.length_singleton,sn0 (by omega) (by omega)];omega
   have hap2:∀ d,appG ((ren t (pos O) (O.take k) 0).map zz0) [d]=some ((ren t (pos O) (O.take k) 0).map zz0++[d]):=fun d=>qu0 (by rw[List.length_map];simp;omega)
   simp only[hz,decide_true,cond_true,hrl2,hap,hap2,Option.bind_some,qj0,hwr,if_pos hkk,List.map_append,List.map_cons,List.map_nil]
   simp only[zz0,hkk,List.map_nil]
  ·have hz:¬ (((zz0 (t.nd x)).Kids.length:Int)=0):=by
    have:(t.nd x).kids.length≠0:=by simpa using hkk
    simp[zz0,ints,hkk]
   have hap2:∀ d,appG ((ren t (pos O) (O.take k) 0).map zz0) [d]=some ((ren t (pos O) (O.take k) 0).map zz0++[d]):=fun d=>qu0 (by rw[List.length_map];simp;omega)
   simp only[hz,decide_false,cond_false,hap2,Option.bind_some,if_neg hkk,List.map_append,List.map_cons,List.map_nil,List.append_nil]
   simp only[zz0]) (fun s hI=>by
  subst hI
  refine⟨_,?_,rfl⟩
  have hlt:¬ ((O.length:Int)<(ints O).length):=by rw[qk0];omega
  simp only[table_Build_l26,qy0,qj0,hlt,decide_false,cond_false,List.take_length]) ([],[]) (by simp[ren,lvs])
 exact h1
end Go.SX.Td
namespace Go.SX.Td
open Go Go.SX Tb
def ze0 (t:Tab Decision):Table:=⟨t.ns.map zz0,t.ls⟩
def A0 : A10 Int:=⟨0,0,0,0,0,0,0,0,0,0⟩
def B0 : Bs Decision:=⟨⟨[],[]⟩,[]⟩
noncomputable def qd0 (p:Policy):Bs Decision×Nat:=make (qx0 p) 10 0 (List.range (qx0 p).nz) (toF A0) B0
noncomputable def zy0 (p:Policy):Tab Decision:=renum (qd0 p).1.tab (qd0 p).2
theorem B0_inv (p:Policy):InvP p B0 where
 ok:=⟨fun x hx=>absurd hx (by simp[B0]),by simp[B0],by simp[B0]⟩
 made a live n h:=by cases h
 keys:=by simp[B0]
 size:=by simp[B0]
 lnode i hi:=absurd hi (by simp[B0])
 dec d hd:=by cases hd
theorem bs0 (p:Policy)(f:Fa):List.range (qx0 p).nz=(List.range (qx0 p).nz).filter ((qx0 p).Pre 0 f):=by
 symm
 rw[List.filter_eq_self]
 intro z _
 simp[Prob.Pre]
theorem gd0 (p:Policy):InvP p (qd0 p).1∧(qd0 p).2<(qd0 p).1.tab.ns.length∧∀ g,zq0.In g→(qd0 p).1.tab.val g (qd0 p).2=kv0 p (toA g):=by
 obtain⟨h1,-,h3,-,h5,-⟩:=ae0 kj0 (ay0 p) 10 0 (List.range (qx0 p).nz) (toF A0) B0 rfl (B0_inv p) (bs0 p _)
 refine⟨h1,h3,fun g hg=>?_⟩
 have e1:=h5 g hg
 have e2:=(ay0 p).dec g
 unfold sem at e1
 rw[← e2] at e1
 exact e1
theorem dd0 {p:Policy}(hn:(qq0 p).length≤1000):Sm 2001 (qd0 p).1 :=
 mf0 (N:=1000) (fun a live hl=>by
  have:=ln0 (qq0 p) a live
  show (starts (qq0 p) a live).length≤_
  omega) 10 0 _ _ B0 (by rw[List.length_range];exact hn) (fun n hn=>by cases hn)
theorem kq0 {p:Policy}(G:PG p)(hv:zv0 p=true):table_Build_g p=some (ze0 (zy0 p),0):=by
 obtain⟨b1,b2,-⟩:=gd0 p
 have hsm:=dd0 G.nz
 obtain⟨n1,n2⟩:=G.bnd _ b1
 have hnz:=G.nz
 have hmk:mksG ((qq0 p).length:Int) (0:Int)=some (List.replicate (qq0 p).length 0):=by unfold mksG;rw[if_pos (by omega)];simp
 have hb:=tbuild_eq G 10 0 (List.range (qx0 p).nz) A0 B0 rfl (B0_inv p) (bs0 p _)
 have hb':tbuild p.Rules zj0 (qq0 p) 11 0 (ints (List.range (qq0 p).length)) (A10.mk 0 0 0 0 0 0 0 0 0 0) [] [] [] [] []=some (outE (qd0 p)):=hb
 have hall:=all_loop (qq0 p).length (by omega)
 have hN:¬ ((20000:Int)<((zf0 (qd0 p).1).length:Int)):=by rw[xw0];omega
 have hw:=walkT_eq b1.ok n1 11 (qd0 p).2 [] b2 (by omega) (by simp) (by simp)
 obtain⟨w1,-⟩:=vy0 (kids:=zu0 (qd0 p).1.tab) (lv:=fun x=>lev ((qd0 p).1.tab.nd x)) (N:=(qd0 p).1.tab.ns.length) (fun x hx k hk=>wn0 b1.ok hx k hk) 11 (qd0 p).2 [] b2 (by omega) (ye0 b1.ok b2) (fun x hx=>ye0 b1.ok hx)
 have hO:∀ x∈walk (zu0 (qd0 p).1.tab) 11 (qd0 p).2 [],x<(qd0 p).1.tab.ns.length:=fun x hx=>(w1.lt x hx).elim (by simp) id
 have hr:=renum_loop b1.ok hO (Nat.le_trans (len_lt (w1.nod (by simp)) hO) n1) (fun x hx=>by
  have:=hsm _ (show (qd0 p).1.tab.nd x∈(qd0 p).1.tab.ns from by
   unfold Tab.nd;rw[List.getD_eq_getElem?_getD,List.getElem?_eq_getElem (hO x hx)];exact List.getElem_mem _)
  omega)
 have e0:([]:List (Int×Bool))=fy0 []:=rfl
 have e1:([]:List (Int×Int))=numE []:=rfl
 have e2:([]:List Int)=ints []:=rfl
 unfold table_Build_g
 simp only[xm0,hv,Option.bind_some,zd0,Bool.not_true,cond_false,jl0,zones_loop G,qj0,hmk,hall,hb']
 simp only[outE,Option.bind_some,qy0,hN,decide_false,cond_false]
 rw[show zf0 (qd0 p).1=(qd0 p).1.tab.ns.map zz0 from rfl]
 have hw':walkT ((qd0 p).1.tab.ns.map zz0) 11 ((qd0 p).2:Int) [] [] []=_:=hw
 rw[hw']
 simp only[Option.bind_some,hr]
 rfl
theorem ge0 {p:Policy}(hv:zv0 p=false):table_Build_g p=some (⟨[],[]⟩,1):=by
 unfold table_Build_g
 simp only[xm0,hv,Option.bind_some,zd0,Bool.not_false,cond_true]
theorem ww0 (p:Policy):(zy0 p).Canon zq0∧∀ g,zq0.In g→(zy0 p).val g 0=kv0 p (toA g):=by
 obtain⟨b1,b2,b3⟩:=gd0 p
 obtain⟨c1,c2⟩:=renum_canon kj0 b1.ok b2
 refine⟨c1,fun g hg=>?_⟩
 rw[← b3 g hg]
 exact congrFun c2 ⟨g,hg⟩
theorem PG_of {p:Policy}(hv:zv0 p=true)(hnz:(qq0 p).length≤1000)(hbnd:∀ b,InvP p b→b.tab.ns.length≤20000∧b.tab.ls.length≤20000):PG p:=by
 have h1:p.Rules.length≤200:=by
  simp only[zv0,Bool.and_eq_true,decide_eq_true_eq] at hv;exact hv.1
 have h2:∀ r∈p.Rules,r.Zones.length≤200∧r.Zones.all zm0=true:=fun r hr=>by
  obtain⟨k,hk⟩:=List.getElem?_of_mem hr
  have:=jb0 hv hk
  simp only[jo0,Bool.and_eq_true,decide_eq_true_eq] at this
  exact⟨this.2.1,this.2.2.1⟩
 refine⟨by omega,fun r hr=>by have:=(h2 r hr).1;omega,fun z hz j hj=>?_,hnz,hbnd⟩
 obtain⟨r,hr,hzr⟩:=List.mem_flatMap.1 hz
 have:=List.all_eq_true.1 (h2 r hr).2 z hzr
 exact ym0.1 this j hj
theorem PG_few {p:Policy}(hv:zv0 p=true)(hnz:(qq0 p).length≤10):PG p:=by
 refine PG_of hv (by omega) fun b hb=>?_
 obtain⟨h1,h2⟩:=hb.few
 have e:(qx0 p).nz=(qq0 p).length:=rfl
 rw[e] at h1 h2
 have:2 ^ (qq0 p).length≤2 ^ 10:=Nat.pow_le_pow_right (by omega) hnz
 omega
end Go.SX.Td
namespace Go.SX.Td
open Go Go.SX Tb
structure Bd (n:Nd):Prop where
 cuts:n.cuts.length≤100000
 kids:n.kids.length≤100000
 cv:∀ c∈n.cuts,-1000000000000≤c∧c≤1000000000000
 kv:∀ k∈n.kids,k≤1000000000000
 av:n.attr≤1000000000000
 lv:n.leaf≤1000000000000
theorem cuts_loop (n:Nd)(lo hi:Int)(hn:n.cuts.length≤100000):∃ b,whileG (table_formed_l2 (zz0 n) hi) (lo,0)=some (if b=true then .inl () else .inr false)∧(b=true↔Asc lo hi n.cuts):=by
 obtain⟨r,h1,b,rfl,h2⟩:=wk0 (step:=table_formed_l2 (zz0 n) hi) (fun (s:Int) i=>(s,i)) n.cuts.length
  (fun k s=>(Asc lo hi n.cuts↔Asc s hi (n.cuts.drop k))) (fun r=>∃ b:Bool,r=(if b=true then .inl () else .inr false)∧(b=true↔Asc lo hi n.cuts)) (fun k s hk hI=>by
  have hx:n.cuts[k]?=some n.cuts[k]:=by simp[hk]
  rw[List.drop_eq_getElem_cons hk] at hI
  generalize n.cuts[k]=x at hx hI
  have hlt:(k:Int)<(zz0 n).Cuts.length:=by simp[zz0];omega
  have hx':(zz0 n).Cuts[k]?=some x:=hx
  simp only[table_formed_l2,qy0,qj0,hlt,decide_true,cond_true,qz0 hx',Option.bind_some,jk0,qe0,za0 (k:=k) (by omega)]
  by_cases ha:x≤s
  ·refine .inr ⟨.inr false,by simp[ha],false,rfl,?_⟩
   rw[hI]
   simp only[Asc]
   constructor
   ·intro h;cases h
   ·rintro ⟨h,_⟩;omega
  ·by_cases hb:hi<x
   ·refine .inr ⟨.inr false,by simp[ha,hb],false,rfl,?_⟩
    rw[hI]
    simp only[Asc]
    constructor
    ·intro h;cases h
    ·rintro ⟨_,h,_⟩;omega
   ·refine .inl ⟨x,by simp[ha,hb],?_⟩
    rw[hI]
    simp only[Asc]
    exact⟨fun h=>h.2.2,fun h=>⟨by omega,by omega,h⟩⟩) (fun s hI=>by
  have hlt:¬ ((n.cuts.length:Int)<(zz0 n).Cuts.length):=by simp[zz0]
  refine⟨.inl (),by simp only[table_formed_l2,qy0,qj0,hlt,decide_false,cond_false],true,rfl,?_⟩
  rw[hI];simp[Asc]) lo (by simp)
 exact⟨b,h1,h2⟩
theorem adj_iff {S:Type}:∀ {l:List S},Adj l↔∀ j a b,l[j]?=some a→l[j+1]?=some b→a≠b
 | []=>by simp[Adj]
 | [x]=>by
  simp only[Adj,true_iff]
  intro j a b _ h
  cases j<;>simp at h
 | x::y::l=>by
  simp only[Adj,adj_iff (l:=y::l)]
  constructor
  ·rintro ⟨h1,h2⟩ j a b ha hb
   cases j with
   | zero=>simp at ha hb;subst ha;subst hb;exact h1
   | succ j=>exact h2 j a b (by simpa using ha) (by simpa using hb)
  ·intro h
   exact⟨h 0 x y rfl rfl,fun j a b ha hb=>h (j+1) a b (by simpa using ha) (by simpa using hb)⟩
open Classical in
noncomputable def kidOk (t:Tab Decision)(n:Nd)(j:Nat):Bool:=match n.kids[j]? with
 | none=>false
 | some x=>decide (x<t.ns.length∧(0<j→n.kids[j - 1]?≠some x)∧((t.nd x).kids≠[]→n.attr<(t.nd x).attr))
theorem kids_loop' (t:Tab Decision)(n:Nd)(hn:n.kids.length≤100000)(hN:t.ns.length≤1000000):whileG (table_formed_l4 (zz0 n) (ze0 t)) 0=some (if (List.range n.kids.length).any (fun j=>!kidOk t n j) then .inr false else .inl ()):=by
 refine ki0 (step:=table_formed_l4 (zz0 n) (ze0 t)) n.kids.length (fun j=>!kidOk t n j) (.inr false) (.inl ()) (fun k hk=>?_) ?_
 ·have hx:n.kids[k]?=some n.kids[k]:=by simp[hk]
  generalize n.kids[k]=x at hx
  have hx':(zz0 n).Kids[k]?=some (x:Int):=yq0 hx
  have hlt:(k:Int)<(zz0 n).Kids.length:=by simp[zz0,qk0];omega
  have hx0:¬ ((x:Int)<0):=by omega
  have hnl:(ze0 t).Nodes.length=t.ns.length:=by simp[ze0]
  have hna:(zz0 n).Attr=(n.attr:Int):=rfl
  simp only[table_formed_l4,qy0,qj0,hlt,decide_true,cond_true,qz0 hx',Option.bind_some,jk0,qe0,za0 (k:=k) (by omega),hx0,decide_false,cond_false,hnl,kidOk,hx]
  by_cases h1:t.ns.length≤x
  ·have:((t.ns.length:Nat):Int)≤(x:Int):=by omega
   simp[this,Nat.not_lt.2 h1]
  ·have h1':¬ ((t.ns.length:Nat):Int)≤(x:Int):=by omega
   have hxn:x<t.ns.length:=by omega
   have hg:idxG (ze0 t).Nodes (x:Int)=some (zz0 (t.nd x)):=qz0 (yb0 hxn)
   have hkl:((zz0 (t.nd x)).Kids.length:Int)=((t.nd x).kids.length:Nat):=by simp[zz0,qk0]
   have htail:(bif decide (0<(((zz0 (t.nd x)).Kids.length:Nat):Int)) then some (decide ((zz0 (t.nd x)).Attr≤(zz0 n).Attr)) else some false)=some (!decide ((t.nd x).kids≠[]→n.attr<(t.nd x).attr)):=by
    rw[hkl]
    by_cases h3:(t.nd x).kids=[]
    ·simp[h3]
    ·have h4:(0:Int)<((t.nd x).kids.length:Nat):=by
      have:(t.nd x).kids.length≠0:=by simpa using h3
      omega
     rw[decide_eq_true h4,cond_true]
     congr 1
     rw[Bool.eq_iff_iff]
     have e:(zz0 (t.nd x)).Attr=((t.nd x).attr:Int):=rfl
     simp only[Bool.not_eq_true',decide_eq_true_eq,decide_eq_false_iff_not,hna,e]
     constructor
     ·intro h h5;have:=h5 h3;omega
     ·intro h
      by_cases h6:(t.nd x).attr≤n.attr
      ·omega
      ·exact absurd (fun _=>by omega) h
   by_cases h2:k=0
   ·subst h2
    simp only[h1',decide_false,cond_false,hg,Int.natCast_zero,Int.lt_irrefl,htail,Option.bind_some,hxn]
    by_cases h5:(t.nd x).kids≠[]→n.attr<(t.nd x).attr
    ·by_cases h6:(t.nd x).kids=[]
     ·simp[h6]
     ·have h7:=h5 h6
      have h8:¬ (t.nd x).attr≤n.attr:=by omega
      simp[h6,h7,h8]
    ·simp[h5]
   ·have h2':(0:Int)<(k:Int):=by omega
    have hy:∃ y,n.kids[k - 1]?=some y:=⟨n.kids[k - 1]'(by omega),by rw[List.getElem?_eq_getElem]⟩
    obtain⟨y,hy⟩:=hy
    have hp:io.ar .sub .i64 (k:Int) 1=((k - 1:Nat):Int):=by rw[um0,sn0 (by omega) (by omega)];omega
    have hy':(zz0 n).Kids[k - 1]?=some (y:Int):=yq0 hy
    simp only[h1',decide_false,cond_false,h2',decide_true,cond_true,hp,qz0 hy',Option.bind_some,zl0,hy]
    by_cases h3:y=x
    ·subst h3
     simp[Nat.pos_of_ne_zero h2]
    ·have h3':¬ ((y:Int)=(x:Int)):=by omega
     simp only[h3',decide_false,cond_false,hg,htail,Option.bind_some,hxn,Option.some.injEq,h3,true_and,not_false_eq_true,ne_eq,implies_true]
     by_cases h5:¬ ((t.nd x).kids=[])→n.attr<(t.nd x).attr
     ·by_cases h6:(t.nd x).kids=[]
      ·simp[h6]
      ·have h7:=h5 h6
       have h8:¬ (t.nd x).attr≤n.attr:=by omega
       simp[h6,h7,h8]
     ·simp[h5]
 ·have hlt:¬ ((n.kids.length:Int)<(zz0 n).Kids.length):=by simp[zz0,qk0]
  simp only[table_formed_l4,qy0,qj0,hlt,decide_false,cond_false]
theorem kids_iff {t:Tab Decision}{n:Nd}(ha:n.attr<10):((List.range n.kids.length).any fun j=>!kidOk t n j)=false↔(∀ k∈n.kids,k<t.ns.length∧n.attr<lev (t.nd k))∧Adj n.kids:=by
 rw[List.any_eq_false]
 simp only[List.mem_range,Bool.not_eq_true',Bool.not_eq_false]
 have hl:∀ x,((t.nd x).kids≠[]→n.attr<(t.nd x).attr)↔n.attr<lev (t.nd x):=fun x=>by
  unfold lev
  split
  ·rename_i h;simp[h];omega
  ·rename_i h;simp[h]
 constructor
 ·intro h
  have h':∀ j x,n.kids[j]?=some x→x<t.ns.length∧(0<j→n.kids[j - 1]?≠some x)∧n.attr<lev (t.nd x):=fun j x hx=>by
   have:=h j (List.getElem?_eq_some_iff.1 hx).1
   simp only[kidOk,hx,decide_eq_true_eq] at this
   exact⟨this.1,this.2.1,(hl x).1 this.2.2⟩
  refine⟨fun k hk=>?_,adj_iff.2 fun j a b ha hb e=>?_⟩
  ·obtain⟨j,hj⟩:=List.getElem?_of_mem hk
   exact⟨(h' j k hj).1,(h' j k hj).2.2⟩
  ·subst e;exact(h' (j+1) a hb).2.1 (by omega) ha
 ·rintro ⟨h1,h2⟩ j hj
  have hx:n.kids[j]?=some n.kids[j]:=by simp[hj]
  have:=h1 n.kids[j] (List.getElem_mem _)
  generalize n.kids[j]=x at hx this
  simp only[kidOk,hx,decide_eq_true_eq]
  refine⟨this.1,fun h0 e=>?_,(hl x).2 this.2⟩
  exact adj_iff.1 h2 (j - 1) x x e (by rw[show j - 1+1=j by omega];exact hx) rfl
theorem formed_eq (t:Tab Decision){n:Nd}(hb:Bd n)(hN:t.ns.length≤1000000):∃ b,table_formed_g (ze0 t) (zz0 n)=some b∧(b=true↔Fine zq0 t.ns.length t.ls.length t.nd n):=by
 have hkl:((zz0 n).Kids.length:Int)=(n.kids.length:Nat):=by simp[zz0,qk0]
 have hcl:((zz0 n).Cuts.length:Int)=(n.cuts.length:Nat):=by simp[zz0]
 have hal:(zz0 n).Attr=(n.attr:Int):=rfl
 have hll:(zz0 n).Leaf=(n.leaf:Int):=rfl
 have hls:(ze0 t).Leaves.length=t.ls.length:=rfl
 unfold table_formed_g
 simp only[zl0,qj0,hkl,hcl,hal,hll,jk0,qy0,hls,zd0]
 by_cases hk:n.kids=[]
 ·have h0:((n.kids.length:Nat):Int)=0:=by rw[hk];rfl
  rw[decide_eq_true h0,cond_true]
  refine⟨decide (n.cuts=[]∧n.attr=0∧n.leaf<t.ls.length),?_,?_⟩
  ·by_cases h1:n.cuts=[]
   ·have h1':((n.cuts.length:Nat):Int)=0:=by rw[h1];rfl
    rw[decide_eq_true h1',cond_true]
    by_cases h2:n.attr=0
    ·have h2':(n.attr:Int)=0:=by omega
     have h3:(0:Int)≤(n.leaf:Int):=by omega
     rw[decide_eq_true h2',cond_true,decide_eq_true h3,cond_true]
     simp[h1,h2]
    ·have h2':¬ (n.attr:Int)=0:=by omega
     rw[decide_eq_false h2',cond_false]
     simp[h2]
   ·have h1':¬ ((n.cuts.length:Nat):Int)=0:=by
     have:n.cuts.length≠0:=by simpa using h1
     omega
    rw[decide_eq_false h1',cond_false]
    simp[h1]
  ·rw[decide_eq_true_eq]
   exact⟨fun h=>⟨fun _=>h,fun h'=>absurd hk h',by rw[hk];simp,by rw[hk];trivial⟩,fun h=>h.leaf hk⟩
 ·have h0:¬ ((n.kids.length:Nat):Int)=0:=by
   have:n.kids.length≠0:=by simpa using hk
   omega
  have hA:io.ar .add .i64 ((n.cuts.length:Nat):Int) 1=((n.cuts.length+1:Nat):Int):=by
   rw[qe0,za0];have:=hb.cuts;omega
  rw[decide_eq_false h0,cond_false,hA]
  have hneg:¬ ((n.attr:Int)<0):=by omega
  rw[decide_eq_false hneg,cond_false]
  have first:(bif decide ((10:Int)≤(n.attr:Int)) then some true else bif !decide ((n.leaf:Int)=0) then some true else bif decide (((n.cuts.length:Nat):Int)=0) then some true else some (!decide (((n.kids.length:Nat):Int)=((n.cuts.length+1:Nat):Int))))=some (!decide (n.attr<10∧n.leaf=0∧n.kids.length=n.cuts.length+1∧n.cuts≠[])):=by
   by_cases h1:n.attr<10
   ·have h1':¬ (10:Int)≤(n.attr:Int):=by omega
    rw[decide_eq_false h1',cond_false]
    by_cases h2:n.leaf=0
    ·have h2':(n.leaf:Int)=0:=by omega
     rw[decide_eq_true h2',Bool.not_true,cond_false]
     by_cases h3:n.cuts=[]
     ·have h3':((n.cuts.length:Nat):Int)=0:=by rw[h3];rfl
      rw[decide_eq_true h3',cond_true];simp[h3]
     ·have h3':¬ ((n.cuts.length:Nat):Int)=0:=by
       have:n.cuts.length≠0:=by simpa using h3
       omega
      rw[decide_eq_false h3',cond_false]
      by_cases h4:n.kids.length=n.cuts.length+1
      ·simp[h1,h2,h3,h4]
      ·have h4':¬ ((n.kids.length:Nat):Int)=((n.cuts.length+1:Nat):Int):=by omega
       rw[decide_eq_false h4'];simp[h4]
    ·have h2':¬ (n.leaf:Int)=0:=by omega
     rw[decide_eq_false h2',Bool.not_false,cond_true];simp[h2]
   ·have h1':(10:Int)≤(n.attr:Int):=by omega
    rw[decide_eq_true h1',cond_true];simp[h1]
  rw[first,Option.bind_some]
  by_cases hf:n.attr<10∧n.leaf=0∧n.kids.length=n.cuts.length+1∧n.cuts≠[]
  ·rw[decide_eq_true hf,Bool.not_true,cond_false]
   obtain⟨f1,f2,f3,f4⟩:=hf
   obtain⟨b,l1,l2⟩:=cuts_loop n (zq0.lo n.attr) (zq0.hi n.attr) hb.cuts
   simp only[jl0,Option.bind_some,qn0 f1]
   have l1':whileG (table_formed_l2 (zz0 n) ((zj0.get n.attr).Hi)) ((zj0.get n.attr).Lo,0)=_:=l1
   rw[l1',kids_loop' t n hb.kids hN]
   cases b with
   | false =>
    refine⟨false,rfl,⟨fun h=>(by cases h),fun h=>?_⟩⟩
    exact l2.2 (h.inner hk).2.2.2.2
   | true =>
    have hki:=kids_iff (t:=t) f1
    cases hany:(List.range n.kids.length).any fun j=>!kidOk t n j with
    | true =>
     refine⟨false,rfl,⟨fun h=>(by cases h),fun h=>?_⟩⟩
     have:=hki.2 ⟨h.kid,h.adj⟩
     rw[this] at hany;cases hany
    | false =>
     refine⟨true,rfl,⟨fun _=>?_,fun _=>rfl⟩⟩
     obtain⟨k1,k2⟩:=hki.1 hany
     exact⟨fun h=>absurd h hk,fun _=>⟨f1,f2,f3,f4,l2.1 rfl⟩,k1,k2⟩
  ·rw[decide_eq_false hf,Bool.not_false,cond_true]
   refine⟨false,rfl,⟨fun h=>(by cases h),fun h=>?_⟩⟩
   obtain⟨g1,g2,g3,g4,-⟩:=h.inner hk
   exact absurd ⟨g1,g2,g3,g4⟩ hf
end Go.SX.Td
