/- Parts of the proof. -/
import Derived.Test.YtllbabjgpdmblaaGreatDoorZSxMf
set_option linter.unusedSimpArgs false
set_option linter.unusedVariables false
set_option linter.unusedSectionVars false
namespace Go.SX
open Go
variable [Tabs]
def iy1 (ops:Array Oper)(k:Nat):Bool :=
 match ops[k]? with
 | some o=>(List.range k).all fun i=>(mp0 ops o (List.range k).reverse []).contains i
 | none=>false
def bf1 (ops:Array Oper):Nat→Nat
 | 0=>0
 | m+1=>if iy1 ops m then bf1 ops m else m+1
def iw1 (ops:Array Oper):Nat:=bf1 ops ops.size
theorem vp1 (ops:Array Oper):∀ (n k:Nat),bf1 ops n≤k→k<n→iy1 ops k=true
 | 0,k,_,h=>by omega
 | m+1,k,h,hk=>by
  unfold bf1 at h;split at h
  ·rename_i hm;by_cases hkm:k=m
   ·subst hkm;exact hm
   ·exact vp1 ops m k h (by omega)
  ·omega
section
variable {P:Program}{own:List Res}
theorem fq1 {n0 id:Nat}{ops:Array Oper}{gs gl:List GOp}{c0:Cx}{env:List SV}{a0:Act}{w0:World}{K:List SV→List Res→Prop}{Q:Exit→Act→World→Prop}(hm:P.follows .mixedOrders=true)
  (hcomp:xn0 P ops ops.toList=some (gs++gl)) (hchk:ez0 ops (gs++gl)=true) (hsfx:iw1 ops=gs.length) (hE0:EnvOk c0 env a0) (hS0:Sat c0 own w0) (hn:n0≤c0.N) (hd0:a0.defers=[]) (h:yk1 P gs env own (fun env'=>run P gl env' own K))
  (hQ:∀ a' w',Nx n0 c0 own w0 K a' w'→Q .normal a' w'):(Code.region id ops true).wp P Q a0 w0:=by
 obtain⟨svs,fin,htr,hK⟩:=sh0 gs h;obtain⟨hlen,hfinl,hfin,hat⟩:=Trace.at gs htr;obtain⟨hgl0,hget0⟩:=xs0 ops ops.toList hcomp;have hgl:gs.length+gl.length=ops.size:=by simpa using hgl0
 have hgs:∀ (i:Nat) g,gs[i]?=some g→(gs++gl)[i]?=some g:=fun i g hi=>by
  rw[qQ (qA.1 hi).1];exact hi
 have hget:∀ (i:Nat) o,i<gs.length→ops.toList[i]?=some o→∃ g,gs[i]?=some g∧de0 P ops o=some g:=fun i o hi ho=>by
  obtain⟨g,h1,h2⟩:=hget0 i o ho;rw[qQ hi] at h1;exact⟨g,h1,h2⟩
 have hc0:∀ (k:Nat) o g,ops[k]?=some o→(gs++gl)[k]?=some g→(∀ e∈o.after,Region.binds .any e=true→e.on<k) ∧
   ∀ (i:Nat) oi gi t,i≠k→ops[i]?=some oi→(gs++gl)[i]?=some gi→gi.dst=some t→(t∈g.looks∨g.dst=some t)→(i<k→edge o i=true)∧(k<i→edge oi k=true):=by
  intro k o g ho hg;have hk:k<ops.size:=(qB.1 ho).1;have h1:=qP.1 hchk k (by simpa using hk);simp only[ho,hg,qJ] at h1;obtain⟨h1,h2⟩:=h1;refine⟨fun e he hb=>?_,fun i oi gi t hne hoi hgi hdi ht=>?_⟩
  ·have:=(Array.all_eq_true'.1 h1) e he;simp[hb] at this;exact this
  ·have hi:i<ops.size:=(qB.1 hoi).1;have h3:=qP.1 h2 i (by simpa using hi);have hne':(i == k)=false:=by simpa using hne
   have hcond:(g.looks.contains t||g.dst == some t)=true:=by
    rcases ht with ht | ht
    ·simp[ht]
    ·simp[ht]
   simp only[hne',Bool.false_or,hoi,hgi,hdi,hcond,if_true] at h3;refine⟨fun hik=>by simpa [hik] using h3,fun hki=>?_⟩;rw[if_neg (by omega)] at h3;exact h3
 have hc:∀ (k:Nat) o g,ops[k]?=some o→gs[k]?=some g→(∀ e∈o.after,Region.binds .any e=true→e.on<k) ∧
   ∀ (i:Nat) oi gi t,i≠k→ops[i]?=some oi→gs[i]?=some gi→gi.dst=some t→(t∈g.looks∨g.dst=some t)→(i<k→edge o i=true)∧(k<i→edge oi k=true):=fun k o g ho hg =>
  ⟨(hc0 k o g ho (hgs k g hg)).1,fun i oi gi t hne hoi hgi=>(hc0 k o g ho (hgs k g hg)).2 i oi gi t hne hoi (hgs i gi hgi)⟩
 have hbnd:∀ (k:Nat) o,ops[k]?=some o→∀ e∈o.after,Region.binds .any e=true→e.on<k:=by
  intro k o ho;have hk:k<ops.size:=(qB.1 ho).1;have hg:(gs++gl)[k]?=some ((gs++gl)[k]'(by simp;omega)):=qD _;exact(hc0 k o _ ho hg).1
 have hlast:∀ (k:Nat) o,gs.length≤k→ops[k]?=some o→∀ (L:Nat→Bool),(∀ e∈o.after,Region.binds .any e=true→L e.on=true)→(∀ (j:Nat) oj,L j=true→ops[j]?=some oj→∀ e∈oj.after,Region.binds .any e=true→L e.on=true)→∀ i,i<k→L i=true:=by
  intro k o hk ho L hp hd i hi;have hks:k<ops.size:=(qB.1 ho).1;have h1:=vp1 ops ops.size k (by show iw1 ops≤k;omega) hks;simp only[iy1,ho] at h1;have h2:i∈mp0 ops o (List.range k).reverse []:=by simpa using qP.1 h1 i (by simpa using hi)
  exact pt0 (L:=L) (fun q hq=>by
   obtain⟨e,he,hb,heq⟩:=wj0 hq;rw[← heq];exact hp e he hb) (fun j oj hj hoj q hq=>by
   obtain⟨e,he,hb,heq⟩:=wj0 hq;rw[← heq];exact hd j oj hj hoj e he hb) _ [] (fun _ h=>by cases h) i h2
 have hsplit:∀ (k:Nat),gs.length≤k→∀ o,ops[k]?=some o→∃ g,gl[k - gs.length]?=some g∧de0 P ops o=some g:=fun k hk o ho=>by
  obtain⟨g,h1,h2⟩:=hget0 k o (by rw[Array.getElem?_toList];exact ho);rw[qU hk] at h1;exact⟨g,h1,h2⟩
 have tail:∀ (n:Nat)(fuel k:Nat)(listed:Array Bool)(a:Act)(w:World)(c:Cx)(env':List SV)(own':List Res),ops.size - k≤n→ops.size - k≤fuel→gs.length≤k→listed.size=ops.size→(∀ i,i<ops.size→listed.getD i false=decide (i<k)) →
   EnvOk c env' a→Sat c own' w→(∀ r,r<n0→c.θ r=c0.θ r)→n0≤c.N→Goes c0 own w0 c own' w→a.defers=[]→run P (gl.drop (k - gs.length)) env' own' K→wpAny P .any ops Q fuel listed a w:=by
  intro n
  induction n with
  | zero =>
   intro fuel k listed a w c env' own' hn1 hf hk hsz hL hE hS ht hN hg hd hr;have hall:∀ i,i<ops.size→listed.getD i false=true:=fun i hi=>by rw[hL i hi];simp;omega
   have hready:Region.ready .any ops listed=[]:=by
    cases hr:Region.ready .any ops listed with
    | nil=>rfl
    | cons i r =>
     have:i∈Region.ready .any ops listed:=by rw[hr];simp
     obtain⟨h1,o,ho,_⟩:=mem_ready.1 this;have hi:i<ops.size:=(qB.1 ho).1;have h2:=hall i hi;have hil:i<listed.size:=by omega
     simp[hil] at h1 h2;rw[h1] at h2;cases h2
   have hdr:gl.drop (k - gs.length)=[]:=List.drop_eq_nil_of_le (by omega);rw[hdr] at hr;have hfin:Q .normal a w:=hQ a w ⟨hd,c,env',own',hE,hS,ht,hN,hg,hr⟩
   cases fuel with
   | zero=>exact⟨hready,hfin⟩
   | succ fuel=>exact⟨fun _=>hfin,fun i hi=>by rw[hready] at hi;cases hi⟩
  | succ n ihn =>
   intro fuel k listed a w c env' own' hn1 hf hk hsz hL hE hS ht hN hg hd hr;by_cases hkn:ops.size≤k
   ·exact ihn fuel k listed a w c env' own' (by omega) hf hk hsz hL hE hS ht hN hg hd hr
   ·obtain⟨fuel,rfl⟩:∃ f,fuel=f+1:=⟨fuel - 1,by omega⟩;have hks:k<ops.size:=by omega
    have hkl:k<listed.size:=by omega
    have hok:ops[k]?=some ops[k]:=by simp[hks]
    obtain⟨g,hgk,hcg⟩:=hsplit k hk _ hok;have hrk:k∈Region.ready .any ops listed:=by
     refine mem_ready.2 ⟨?_,ops[k],hok,fun e he hb=>?_⟩
     ·have:=hL k hks;simp[hkl] at this ⊢;exact this
     ·have h1:=hbnd k _ hok e he hb;rw[hL _ (by omega)];simp[h1]
    refine⟨fun h=>(by rw[h] at hrk;cases hrk),fun i hi=>?_⟩;have hik:i=k:=by
     obtain⟨hun,o,ho,hpre⟩:=mem_ready.1 hi;have hi':i<ops.size:=(qB.1 ho).1;have hil:i<listed.size:=by omega
     have hunf:listed.getD i false=false:=by simp[hil] at hun;simp[hil,hun]
     rw[hL i hi'] at hunf;have h1:k≤i:=by simpa using hunf
     rcases Nat.lt_or_eq_of_le h1 with h2 | h2
     ·exfalso
      have h3:=hlast i o (by omega) ho (fun j=>listed.getD j false) hpre (fun j oj hj hoj e he hb=>by
       have hjs:j<ops.size:=(qB.1 hoj).1;have h4:j<k:=by have h5:listed.getD j false=true:=hj;rw[hL j hjs] at h5;simpa using h5
       have h6:=hbnd j oj hoj e he hb;show listed.getD e.on false=true;rw[hL _ (by omega)];simp;omega) k h2
      have h4:listed.getD k false=true:=h3;rw[hL k hks] at h4;simp at h4
     ·exact h2.symm
    subst hik;have hdr:gl.drop (i - gs.length)=g::gl.drop (i+1 - gs.length):=by
     have h1:i - gs.length<gl.length:=by omega
     rw[List.drop_eq_getElem_cons h1,show i+1 - gs.length=i - gs.length+1 by omega];congr 1;rw[qD h1] at hgk;exact Option.some.inj hgk
    rw[hdr] at hr;simp only[run] at hr;obtain⟨h1,h2,h3⟩:=wb0 hcg hE hr;have hL':∀ j,j<ops.size→(listed.setIfInBounds i true).getD j false=decide (j<i+1):=fun j hj=>by
     have hjl:j<listed.size:=by omega
     have h4:=hL j hj;simp[hjl] at h4;by_cases hji:j=i
     ·subst hji;simp[hjl]
     ·simp[hjl,Ne.symm hji,h4];omega
    have go:∀ (a':Act)(w':World)(c':Cx)(sv:SV)(u:Value)(own'':List Res)(env'':List SV),a'=a.put g.dst u→EnvOk c env'' a→Rel c' sv u→Sat c' own'' w'→c.le c'→Goes c own' w c' own'' w'→run P (gl.drop (i+1 - gs.length)) (fi0 env'' g.dst sv) own'' K→wpAny P .any ops Q fuel (listed.setIfInBounds i true) a' w':=by
     intro a' w' c' sv u own'' env'' ha hE'' hr' hS' hle' hg' hrun;subst ha;exact ihn fuel (i+1) _ _ w' c' _ own'' (by omega) (by omega) (by omega) (by simp[hsz]) hL' ((hE''.mono hle').fi0 hr') hS' (fun r hr=>(hle'.t r (by omega)).trans (ht r hr)) (Nat.le_trans hN hle'.n) (hg.trans hg') (by rw[put_defers];exact hd) hrun
    unfold wpOp;rw[hok];show if Region.wanted ops[i] (yielded ops a.tmps)=true then _ else _
    rcases h3 with ⟨hw,env1,hE',hA⟩ | ⟨hw,env1,hE',hB⟩
    ·rw[if_pos hw];refine .inl (Oper.wp_mono (fun a' w' hfin=>?_) (fv0 h1 hE' hS hA));obtain⟨c',sv,own'',u,ha,k1,k2,k3,k4,k5⟩:=hfin;exact go a' w' c' sv u own'' env1 (by rw[ha,h2]) hE' k1 k2 k3 k4 k5
    ·rw[if_neg (by rw[hw];simp)];exact go _ w c (.tup []) undef own' env1 (by rw[h2]) hE' (.tup rfl (fun i s u hs=>by simp at hs)) hS (.refl c) (.refl c own' w) hB
 refine wp_region_any hm ?_;have main:∀ (fuel:Nat)(listed:Array Bool)(a:Act)(w:World)(c:Cx),listed.size=ops.size→(listed.toList.take gs.length).countP (! ·)+gl.length≤fuel→(∀ i,gs.length≤i→listed.getD i false=false) →
   (∀ (i:Nat) o,listed.getD i false=true→ops[i]?=some o→∀ e∈o.after,Region.binds .any e=true→listed.getD e.on false=true) →
   Sat c own w→c0.le c→Goes c0 own w0 c own w→a.defers=[]→a.tmps.size=env.length→(∀ (t:Nat) u,a.tmps[t]?=some u→Rel c (gj0 gs svs 0 (fun i=>listed.getD i false) t (jh0 env t)) u) →
   wpAny P .any ops Q fuel listed a w:=by
  have fst:∀ (fuel:Nat)(listed:Array Bool)(a:Act)(w:World)(c:Cx),listed.size=ops.size→gl.length≤fuel→(∀ i,gs.length≤i→listed.getD i false=false)→(∀ i,i<gs.length→listed.getD i false=true)→Sat c own w→c0.le c→Goes c0 own w0 c own w→a.defers=[]→a.tmps.size=env.length →
    (∀ (t:Nat) u,a.tmps[t]?=some u→Rel c (gj0 gs svs 0 (fun i=>listed.getD i false) t (jh0 env t)) u)→wpAny P .any ops Q fuel listed a w:=by
   intro fuel listed a w c hsz hfu hno hall hS hle hg hd hts hrel;refine tail (ops.size - gs.length) fuel gs.length listed a w c fin own (qV _) (by omega) (qV _) hsz (fun i hi=>?_) ⟨by rw[hts,hfinl],fun t s u hs hu=>?_⟩ hS (fun r hr=>hle.t r (by omega)) (Nat.le_trans hn hle.n) hg hd (by rw[Nat.sub_self];exact hK)
   ·by_cases h:i<gs.length
    ·rw[hall i h];simp[h]
    ·rw[hno i (by omega)];simp[h]
   ·have ht:t<env.length:=by rw[← hts];exact(qB.1 hu).1
    have e1:jh0 fin t=s:=by rw[zy0,hs];rfl
    rw[← e1,hfin t ht];have:=hrel t u hu
    rwa [zh0 (L':=fun _=>true) gs svs 0 _ (fun i g hi _=>by
     rw[Nat.zero_add];exact hall _ (qA.1 hi).1)] at this
  intro fuel
  induction fuel with
  | zero =>
   intro listed a w c hsz hcnt hno hdown hS hle hg hd hts hrel;refine fst 0 listed a w c hsz (by omega) hno (fun i hi=>?_) hS hle hg hd hts hrel;have hil:i<listed.size:=by omega
   by_cases hl:listed[i]=true
   ·simp[hil,hl]
   ·exfalso
    have hf:listed[i]=false:=by simpa using hl
    have:=count_set (listed.toList.take gs.length) i (by rw[List.getElem?_take,if_pos hi];simp[hil,hf]);omega
  | succ fuel ih =>
   intro listed a w c hsz hcnt hno hdown hS hle hg hd hts hrel;by_cases hall:∀ i,i<gs.length→listed.getD i false=true
   ·exact fst (fuel+1) listed a w c hsz (by omega) hno hall hS hle hg hd hts hrel
   have hpfx:∀ i,i∈Region.ready .any ops listed→i<gs.length:=fun i hi=>by
    obtain⟨hun,o,ho,hpre⟩:=mem_ready.1 hi;refine Classical.byContradiction fun hge=>hall fun j hj=>?_
    exact hlast i o (by omega) ho (fun j=>listed.getD j false) hpre (fun j oj hj hoj=>hdown j oj hj hoj) j (by omega)
   refine⟨fun hr=>?_,fun i hi=>?_⟩
   ·exfalso
    refine hall fun i=>?_
    induction i using Nat.strongRecOn with
    | _ i ih =>
     intro hi;have his:i<ops.size:=by omega
     have ho:ops[i]?=some ops[i]:=by simp[his]
     by_cases hl:listed.getD i false=true
     ·exact hl
     ·exfalso
      have hm2:i∈Region.ready .any ops listed:=by
       refine mem_ready.2 ⟨?_,ops[i],ho,fun e he hb=>?_⟩
       ·have hil:i<listed.size:=by omega
        simp[hil] at hl ⊢;exact hl
       ·have h1:=hbnd i _ ho e he hb;exact ih e.on h1 (by omega)
      rw[hr] at hm2;cases hm2
   have hig:=hpfx i hi;obtain⟨hun,o,ho,hpre⟩:=mem_ready.1 hi;have hi':i<ops.size:=(qB.1 ho).1;have hil:i<listed.size:=by omega
   have hunl:listed[i]?=some false:=by simp[hil] at hun;simp[hil,hun]
   have hunf:listed.getD i false=false:=by simp[hil] at hun;simp[hil,hun]
   obtain⟨g,hgi,hcg⟩:=hget i o hig (by simpa using ho);obtain⟨envk,sv,hsv,hkl,hstep,hek⟩:=hat i g hgi;obtain⟨_,hord⟩:=hc i o g ho hgi;have hlook:∀ t,t∈g.looks∨g.dst=some t→∀ j gj,gs[j]?=some gj→gj.dst=some t→listed.getD j false=decide (j<i):=by
    intro t ht j gj hj hdj;by_cases hji:j=i
    ·subst hji;rw[hunf];simp
    ·have hjs:j<ops.size:=by have:=(qA.1 hj).1;omega
     have hoj:ops[j]?=some ops[j]:=by simp[hjs]
     obtain⟨h1,h2⟩:=hord j ops[j] gj t hji hoj hj hdj ht;rcases Nat.lt_or_gt_of_ne hji with hlt | hgt
     ·obtain⟨e,he,hb,heq⟩:=wj0 (h1 hlt);have:=hpre e he hb;rw[heq] at this;rw[this];simp[hlt]
     ·by_cases hl:listed.getD j false=true
      ·exfalso
       obtain⟨e,he,hb,heq⟩:=wj0 (h2 hgt);have:=hdown j ops[j] hl hoj e he hb;rw[heq,hunf] at this;cases this
      ·have:listed.getD j false=false:=by simpa using hl
       rw[this];simp;omega
   have hslot:∀ t u,t∈g.looks→a.tmps[t]?=some u→Rel c (jh0 envk t) u:=by
    intro t u ht hu;have htl:t<env.length:=by rw[← hts];exact(qB.1 hu).1
    rw[hek t htl];have:=hrel t u hu
    rwa [zh0 (L':=fun j=>decide (j<i)) gs svs 0 _ (fun j gj hj hdj=>by rw[Nat.zero_add];exact hlook t (.inl ht) j gj hj hdj)] at this
   let envR:=(List.range env.length).map fun t=>if t∈g.looks then jh0 envk t else .top
   have hRlen:envR.length=env.length:=by simp[envR]
   have hRget:∀ t,t∈g.looks→jh0 envR t=jh0 envk t:=fun t ht=>by
    rw[zy0,zy0];by_cases htl:t<env.length
    ·have:envR[t]?=some (jh0 envk t):=by simp[envR,htl,ht]
     rw[this,zy0];rfl
    ·have h1:envR[t]?=none:=by rw[List.getElem?_eq_none_iff];omega
     have h2:envk[t]?=none:=by rw[List.getElem?_eq_none_iff];omega
     rw[h1,h2]
   have hER:EnvOk c envR a:=⟨by rw[hts,hRlen],fun t s u hs hu=>by
    have htl:t<env.length:=by rw[← hts];exact(qB.1 hu).1
    simp only[envR,qH,List.getElem?_range htl,zA,zG] at hs;subst hs;split
    ·rename_i ht;exact hslot t u ht hu
    ·exact .top u⟩
   have hagree:∀ x∈g.op.ops,evn own envk x=evn own envR x:=fun x hx=>by
    cases x with
    | tmp t =>
     have:t∈g.looks:=by simp only[GOp.looks,qO];exact .inl (jg0.2 hx)
     simp only[evn,ev,hRget t this]
    | _=>rfl
   have hgd:jc0 g.guard envR (fun _=>fnN P g.op envR own (·=sv)) (fun _=>sv=.tup []):=by
    unfold th0 at hstep;unfold jc0 at hstep ⊢;split
    ·rename_i hgn;simp only[hgn] at hstep;exact(vy0 hagree).1 hstep
    ·rename_i s want hgs;simp only[hgs] at hstep;have hs:s∈g.looks:=by simp only[GOp.looks,qO,hgs];exact .inr (by simp)
     rw[hRget s hs];split at hstep
     ·rename_i b hb;simp only[];exact⟨fun e=>(vy0 hagree).1 (hstep.1 e),hstep.2⟩
     ·rename_i hb;simp only[];exact hstep
     ·exact hstep.elim
   obtain⟨hco,hdst,hcase⟩:=wb0 hcg hER hgd;have hcount:((listed.setIfInBounds i true).toList.take gs.length).countP (! ·)+gl.length≤fuel:=by
    have:=count_set (listed.toList.take gs.length) i (by rw[List.getElem?_take,if_pos hig];simpa using hunl);rw[Array.toList_setIfInBounds,List.take_set];omega
   have hLset:∀ j,(listed.setIfInBounds i true).getD j false=if j=i then true else listed.getD j false:=fun j=>by
    by_cases hji:j=i
    ·subst hji;simp[hil]
    ·by_cases hjl:j<listed.size
     ·simp[hjl,hji,Ne.symm hji]
     ·simp[hjl,hji]
   have hdown':∀ (j:Nat) o',(listed.setIfInBounds i true).getD j false=true→ops[j]?=some o'→∀ e∈o'.after,Region.binds .any e=true→(listed.setIfInBounds i true).getD e.on false=true:=by
    intro j o' hj hoj e he hb;rw[hLset] at hj ⊢;split
    ·rfl
    ·split at hj
     ·rename_i hji;subst hji;rw[ho] at hoj;cases hoj;exact hpre e he hb
     ·exact hdown j o' hj hoj e he hb
   have hnext:∀ (a':Act)(w':World)(c':Cx)(u:Value),a'=a.put g.dst u→Rel c' sv u→Sat c' own w'→c.le c'→Goes c own w c' own w'→wpAny P .any ops Q fuel (listed.setIfInBounds i true) a' w':=by
    intro a' w' c' u ha hr hS' hle' hg';subst ha;refine ih _ _ w' c' (by simp[hsz]) hcount (fun j hj=>by rw[hLset,if_neg (by omega)];exact hno j hj) hdown' hS' (hle.trans hle') (hg.trans hg') (by rw[put_defers];exact hd) (by cases g.dst<;>simp[Act.put,hts]) ?_;intro t v hv;have hfun:(fun j=>(listed.setIfInBounds i true).getD j false)=fun j=>if j=i then true else listed.getD j false:=funext hLset
    rw[hfun];by_cases hdt:g.dst=some t
    ·
     have hvu:v=u:=by
      rw[hdt] at hv;simp only[Act.put,Array.getElem?_setIfInBounds,if_true] at hv;split at hv
      ·cases hv;rfl
      ·cases hv
     subst hvu;rw[fm0 gs svs 0 _ i g sv hgi hsv hdt (by simp) (fun j gj hij hj hdj=>by
      rw[Nat.zero_add,if_neg (by omega),hlook t (.inr hdt) j gj hj hdj];simp;omega)]
     exact hr
    ·have hv':a.tmps[t]?=some v:=by
      cases hgd':g.dst with
      | none=>rw[hgd'] at hv;exact hv
      | some d =>
       rw[hgd'] at hv hdt;simp only[Act.put,Array.getElem?_setIfInBounds] at hv
       rwa [if_neg (fun e=>hdt (by rw[e]))] at hv
     rw[zh0 (L':=fun j=>listed.getD j false) gs svs 0 _ (fun j gj hj hdj=>by
      rw[Nat.zero_add,if_neg (fun e=>by subst e;rw[hgi] at hj;cases hj;exact hdt hdj)])]
     exact(hrel t v hv').mono hle'
   unfold wpOp;rw[ho];show if Region.wanted o (yielded ops a.tmps)=true then _ else _
   rcases hcase with ⟨hw,_,_,hA⟩ | ⟨hw,_,_,hB⟩
   ·rw[if_pos hw];refine .inl (Oper.wp_mono (fun a' w' hfin=>?_) (lp1 hco hER hS hA));obtain⟨c',sv',own',u,ha,k1,k2,k3,k4,rfl,rfl⟩:=hfin;exact hnext a' w' c' u (by rw[← hdst];exact ha) k1 k2 k3 k4
   ·rw[if_neg (by rw[hw];simp)];subst hB;exact hnext _ w c undef (by rw[hdst]) (.tup rfl (fun i s u hs=>by simp at hs)) hS (.refl c) (.refl c own w)
 have hrep:∀ j,(Array.replicate ops.size false).getD j false=false:=fun j=>by
  rw[Array.getD_eq_getD_getElem?,Array.getElem?_replicate];split<;>rfl
 refine main ops.size (Array.replicate ops.size false) a0 { w0 with drawn:=w0.drawn+1 } c0 (by simp) ?_ (fun i _=>hrep i) ?_ (hS0.drew rfl) (.refl c0) (.drew rfl rfl rfl rfl) hd0 hE0.size ?_
 ·simp[Array.toList_replicate,List.take_replicate,List.countP_replicate];omega
 ·intro i o hl _;rw[hrep] at hl;cases hl
 ·intro t u hu;have htl:t<env.length:=by rw[← hE0.size];exact(qB.1 hu).1
  rw[vp0 _ _ _ _ (fun i g _ _=>hrep _)];exact hE0.rel t _ u (by rw[zy0];simp[htl]) hu
end
end Go.SX
