/- Parts of the proof. -/
import Derived.Test.YtlpempbeenpilaaGreatDoorZSxMf
set_option linter.unusedSimpArgs false
set_option linter.unusedVariables false
set_option linter.unusedSectionVars false
namespace Go.SX
open Go
variable [Tabs]
def sfxAt (ops:Array Oper)(k:Nat):Bool :=
 match ops[k]? with
 | some o=>(List.range k).all fun i=>(reachs ops o (List.range k).reverse []).contains i
 | none=>false
def sfxGo (ops:Array Oper):Nat→Nat
 | 0=>0
 | m+1=>if sfxAt ops m then sfxGo ops m else m+1
def sfxOf (ops:Array Oper):Nat:=sfxGo ops ops.size
theorem sfxGo_ok (ops:Array Oper):∀ (n k:Nat),sfxGo ops n≤k→k<n→sfxAt ops k=true
 | 0,k,_,h=>by omega
 | m+1,k,h,hk=>by
  unfold sfxGo at h;split at h
  ·rename_i hm;by_cases hkm:k=m
   ·subst hkm;exact hm
   ·exact sfxGo_ok ops m k h (by omega)
  ·omega
def mkAt (gs:List GOp)(m:Nat):Option (Nat×MK×Bool):=match gs[m]? with | some ⟨some d,.mkm mk agg,none⟩=>some (d,mk,agg) | _=>none
def blankAt (gs:List GOp)(m:Nat):List GOp:=match mkAt gs m with | some (d,_,_)=>gs.set m ⟨some d,.mv (.global 0),none⟩ | none=>gs
def mkOk (gs:List GOp)(m:Nat):Bool:=match mkAt gs m with | none=>true | some (d,_,_)=>(List.range gs.length).all fun i=>i == m||(match gs[i]? with | some g=>!(g.looks.contains d)&&!(g.dst == some d) | none=>true)
def runM (P:Program)(gl:List GOp)(env:List SV)(own:List Res)(K:List SV→List Res→Prop):Option (Nat×MK×Bool)→Prop
 | none=>run P gl env own K
 | some (d,mk,agg)=>run P gl (putE env (some d) (.hd own.length)) (own++[.mp mk agg []]) K
theorem mkAt_get {gs:List GOp}{m d:Nat}{mk:MK}{agg:Bool}(h:mkAt gs m=some (d,mk,agg)):gs[m]?=some ⟨some d,.mkm mk agg,none⟩:=by
 unfold mkAt at h;split at h
 ·rename_i d' mk' agg' hg;simp only[qZ,Prod.mk.injEq] at h;obtain⟨rfl,rfl,rfl⟩:=h;exact hg
 ·cases h
theorem blank_len (gs:List GOp)(m:Nat):(blankAt gs m).length=gs.length:=by unfold blankAt;split<;>simp
theorem blank_ne {gs:List GOp}{m i:Nat}(h:∀ x,mkAt gs m=some x→i≠m):(blankAt gs m)[i]?=gs[i]?:=by
 unfold blankAt;split
 ·rename_i d mk agg e;rw[List.getElem?_set_ne (fun e'=>h _ e e'.symm)]
 ·rfl
theorem blank_at {gs:List GOp}{m d:Nat}{mk:MK}{agg:Bool}(h:mkAt gs m=some (d,mk,agg)):(blankAt gs m)[m]?=some ⟨some d,.mv (.global 0),none⟩:=by
 have hm:=(qC.1 (mkAt_get h)).1;unfold blankAt;rw[h];simp[hm]
theorem blank_rel {gs:List GOp}{m k:Nat}{g':GOp}(h:(blankAt gs m)[k]?=some g'):∃ g,gs[k]?=some g∧g'.dst=g.dst∧∀ t,t∈g'.looks→t∈g.looks:=by
 by_cases hk:∃ x,mkAt gs m=some x∧k=m
 ·obtain⟨⟨d,mk,agg⟩,e,rfl⟩:=hk;rw[blank_at e] at h;cases h;exact⟨_,mkAt_get e,rfl,fun t ht=>by simp[GOp.looks,DOp.ops,tmpsOf] at ht⟩
 ·rw[blank_ne (fun x e e'=>hk ⟨x,e,e'⟩)] at h;exact⟨g',h,rfl,fun _ h=>h⟩
def MapIn (c:Cx)(own:List Res)(w0 w:World)(a:Act)(d:Nat)(mk:MK)(agg:Bool):Prop :=
 ∃ b:Nat,(∀ u,a.tmps[d]?=some u→u=.map (some b))∧w0.heap.size≤b∧b<w.heap.size∧ResOk c w (.map (some b)) (.mp mk agg [])∧¬ Own c own b∧c.F b=none
theorem MapIn.on {c c':Cx}{own:List Res}{w0 w w':World}{a a':Act}{d:Nat}{mk:MK}{agg:Bool}(h:MapIn c own w0 w a d mk agg)(hle:c.le c')(hg:Goes c own w c' own w')(ha:a'.tmps[d]?=a.tmps[d]?):MapIn c' own w0 w' a' d mk agg:=by
 obtain⟨b,h1,h2,h3,h4,h5,h6⟩:=h;refine⟨b,fun u hu=>h1 u (by rw[← ha];exact hu),h2,zC h3 hg.size,h4.keep hle fun _ b' hb'=>?_,fun ho=>?_,?_⟩
 ·obtain rfl:b=b':=by simpa [blkOf] using hb'
  exact hg.keep _ h3 h5
 ·rcases hg.newO _ ho with h | h
  ·exact h5 h
  ·omega
 ·cases hc:c'.F b with
  | none=>rfl
  | some o =>
   rcases hg.newF b (by simp[hc]) with h | h | h
   ·exact absurd h6 h
   ·omega
   ·exact absurd h h5
theorem MapIn.push {c0 c:Cx}{own:List Res}{w0 w:World}{a:Act}{d:Nat}{mk:MK}{agg:Bool}(h:MapIn c own w0 w a d mk agg)(hS:Sat c own w)(hg:Goes c0 own w0 c own w) :
  ∃ v,(∀ u,a.tmps[d]?=some u→u=v)∧Sat (c.push v) (own++[.mp mk agg []]) w∧Goes c0 own w0 (c.push v) (own++[.mp mk agg []]) w:=by
 obtain⟨b,h1,h2,h3,h4,h5,h6⟩:=h;have hN:own.length=c.N:=hS.n;have hle:=c.push_le (.map (some b));have hθ:∀ s,s<c.N→(c.push (.map (some b))).θ s=c.θ s:=hle.t;have hθN:(c.push (.map (some b))).θ c.N=.map (some b):=by simp[Cx.push]
 have hget:∀ (s:Nat) y,(own++[Res.mp mk agg []])[s]?=some y→(s<c.N∧own[s]?=some y)∨(s=c.N∧y=.mp mk agg []):=fun s y hy=>by
  rw[List.getElem?_append] at hy;split at hy
  ·exact .inl ⟨by omega,hy⟩
  ·have:s=c.N:=by have:=(qC.1 hy).1;simp at this;omega
   subst this;simp[hN] at hy;exact .inr ⟨rfl,hy.symm⟩
 have hbk:∀ b',blkOf (.map (some b))=some b'→b'=b:=fun b' h=>by simpa [blkOf,eq_comm] using h
 refine⟨.map (some b),h1,⟨by simp[Cx.push,hN],fun r x hx=>?_,fun r s x y b' hx hy hl hl' hb hb'=>?_,fun r x b' hx hl hb=>?_,hS.le,fun r=>?_,hS.tab⟩,⟨hg.os,hg.tape,hg.output,hg.size,hg.keep,hg.newF,fun b' ho=>?_,hg.f⟩⟩
 ·rcases hget r x hx with ⟨hr,hx⟩ | ⟨rfl,rfl⟩
  ·rw[hθ r hr];exact(hS.res r x hx).keep hle fun _ _ _=>rfl
  ·rw[hθN];exact h4.keep hle fun _ _ _=>rfl
 ·rcases hget r x hx with ⟨hr,hx⟩ | ⟨rfl,rfl⟩
  ·rw[hθ r hr] at hb;rcases hget s y hy with ⟨hs,hy⟩ | ⟨rfl,rfl⟩
   ·rw[hθ s hs] at hb';exact hS.apart r s x y b' hx hy hl hl' hb hb'
   ·rw[hθN] at hb';rw[hbk _ hb'] at hb;exact absurd ⟨r,x,hx,hl,hb⟩ h5
  ·rw[hθN] at hb;rcases hget s y hy with ⟨hs,hy⟩ | ⟨rfl,rfl⟩
   ·rw[hθ s hs] at hb';rw[hbk _ hb] at hb';exact absurd ⟨s,y,hy,hl',hb'⟩ h5
   ·rfl
 ·rcases hget r x hx with ⟨hr,hx⟩ | ⟨rfl,rfl⟩
  ·rw[hθ r hr] at hb;exact hS.notF r x b' hx hl hb
  ·rw[hθN] at hb;rw[hbk _ hb];exact h6
 ·by_cases hr:r=c.N
  ·subst hr;rw[hθN];rfl
  ·have:(c.push (.map (some b))).θ r=c.θ r:=by simp[Cx.push,hr]
   rw[this];exact hS.one r
 ·obtain⟨r,x,hx,hl,hb⟩:=ho;rcases hget r x hx with ⟨hr,hx⟩ | ⟨rfl,rfl⟩
  ·rw[hθ r hr] at hb;exact hg.newO b' ⟨r,x,hx,hl,hb⟩
  ·rw[hθN] at hb;rw[hbk _ hb];exact .inr h2
section
variable {P:Program}{own:List Res}
theorem compOp_mkm {op:Op}{mk:MK}{agg:Bool}(h:compOp P op=some (.mkm mk agg)):∃ t,op=.makeMap t none:=by
 cases op with
 | makeMap t r =>
  cases r with
  | none=>exact⟨t,rfl⟩
  | some r=>simp only[compOp] at h;cases h
 | _=>exfalso;revert h;simp only[compOp];intro h;(try unfold aggEq at h);(try unfold shOp at h);(try unfold pnOp at h);(repeat' split at h)<;>first | cases h | contradiction | (simp[qH] at h<;>(first | (obtain⟨_,_,_,_,h⟩:=h;split at h<;>first | cases h | (unfold appzOp at h;(repeat' split at h)<;>cases h)) | simp_all))
theorem sfm_wp {n0:Nat}{ops:Array Oper}{gs gl:List GOp}{c0:Cx}{env:List SV}{a0:Act}{w0:World}{K:List SV→List Res→Prop}{Q:Exit→Act→World→Prop}(m:Nat)(hcomp:compOps P ops ops.toList=some (gs++gl))(hchk:regChk ops (gs++gl)=true)(hsfx:sfxOf ops=gs.length)(hmk:mkOk gs m=true)(hE0:EnvOk c0 env a0)(hS0:Sat c0 own w0)(hn:n0≤c0.N)(hd0:a0.defers=[])
  (h:runF P (blankAt gs m) env own (fun env'=>runM P gl env' own K (mkAt gs m)))
  (hQ:∀ a' w',Nx n0 c0 own w0 K a' w'→Q .normal a' w'):wpAny P .any ops Q ops.size (Array.replicate ops.size false) a0 { w0 with drawn:=w0.drawn+1 }:=by
 obtain⟨svs,fin,htr,hK⟩:=runF_trace (blankAt gs m) h;obtain⟨hlen,hfinl,hfin,hat⟩:=Trace.at (blankAt gs m) htr;have hbl:=blank_len gs m;have hother:∀ {d:Nat}{mk:MK}{agg:Bool},mkAt gs m=some (d,mk,agg)→∀ (i:Nat) g,i≠m→gs[i]?=some g→d ∉ g.looks∧g.dst≠some d:=fun e i g hi hg=>by
  unfold mkOk at hmk;rw[e] at hmk;have:=qL.1 hmk i (List.mem_range.2 (qC.1 hg).1);simp only[hg,Bool.or_eq_true,beq_iff_eq,hi,false_or,qJ,Bool.not_eq_true',List.contains_eq_mem,decide_eq_false_iff_not] at this;exact⟨this.1,fun e2=>by rw[e2] at this;simp at this⟩
 obtain⟨hgl0,hget0⟩:=compOps_get ops ops.toList hcomp;have hgl:gs.length+gl.length=ops.size:=by simpa using hgl0
 have hgs:∀ (i:Nat) g,gs[i]?=some g→(gs++gl)[i]?=some g:=fun i g hi=>by
  rw[qM (qC.1 hi).1];exact hi
 have hget:∀ (i:Nat) o,i<gs.length→ops.toList[i]?=some o→∃ g,gs[i]?=some g∧compGOp P ops o=some g:=fun i o hi ho=>by
  obtain⟨g,h1,h2⟩:=hget0 i o ho;rw[qM hi] at h1;exact⟨g,h1,h2⟩
 have hc0:∀ (k:Nat) o g,ops[k]?=some o→(gs++gl)[k]?=some g→(∀ e∈o.after,Region.binds .any e=true→e.on<k) ∧
   ∀ (i:Nat) oi gi t,i≠k→ops[i]?=some oi→(gs++gl)[i]?=some gi→gi.dst=some t→(t∈g.looks∨g.dst=some t)→(i<k→edge o i=true)∧(k<i→edge oi k=true):=by
  intro k o g ho hg;have hk:k<ops.size:=(qB.1 ho).1;have h1:=qL.1 hchk k (by simpa using hk);simp only[ho,hg,qJ] at h1;obtain⟨h1,h2⟩:=h1;refine⟨fun e he hb=>?_,fun i oi gi t hne hoi hgi hdi ht=>?_⟩
  ·have:=(Array.all_eq_true'.1 h1) e he;simp[hb] at this;exact this
  ·have hi:i<ops.size:=(qB.1 hoi).1;have h3:=qL.1 h2 i (by simpa using hi);have hne':(i == k)=false:=by simpa using hne
   have hcond:(g.looks.contains t||g.dst == some t)=true:=by
    rcases ht with ht | ht
    ·simp[ht]
    ·simp[ht]
   simp only[hne',Bool.false_or,hoi,hgi,hdi,hcond,if_true] at h3;refine⟨fun hik=>by simpa [hik] using h3,fun hki=>?_⟩;rw[if_neg (by omega)] at h3;exact h3
 have hc:∀ (k:Nat) o g,ops[k]?=some o→gs[k]?=some g→(∀ e∈o.after,Region.binds .any e=true→e.on<k) ∧
   ∀ (i:Nat) oi gi t,i≠k→ops[i]?=some oi→gs[i]?=some gi→gi.dst=some t→(t∈g.looks∨g.dst=some t)→(i<k→edge o i=true)∧(k<i→edge oi k=true):=fun k o g ho hg =>
  ⟨(hc0 k o g ho (hgs k g hg)).1,fun i oi gi t hne hoi hgi=>(hc0 k o g ho (hgs k g hg)).2 i oi gi t hne hoi (hgs i gi hgi)⟩
 have hc':∀ (k:Nat) o g,ops[k]?=some o→(blankAt gs m)[k]?=some g →
   ∀ (i:Nat) oi gi t,i≠k→ops[i]?=some oi→(blankAt gs m)[i]?=some gi→gi.dst=some t→(t∈g.looks∨g.dst=some t)→(i<k→edge o i=true)∧(k<i→edge oi k=true):=fun k o g ho hg i oi gi t hne hoi hgi hdi ht=>by
  obtain⟨g1,k1,k2,k3⟩:=blank_rel hg;obtain⟨g2,l1,l2,-⟩:=blank_rel hgi;exact(hc k o g1 ho k1).2 i oi g2 t hne hoi l1 (l2▸hdi) (ht.elim (fun h=>.inl (k3 t h)) fun h=>.inr (k2▸h))
 have hbnd:∀ (k:Nat) o,ops[k]?=some o→∀ e∈o.after,Region.binds .any e=true→e.on<k:=by
  intro k o ho;have hk:k<ops.size:=(qB.1 ho).1;have hg:(gs++gl)[k]?=some ((gs++gl)[k]'(by simp;omega)):=qK _;exact(hc0 k o _ ho hg).1
 have hlast:∀ (k:Nat) o,gs.length≤k→ops[k]?=some o→∀ (L:Nat→Bool),(∀ e∈o.after,Region.binds .any e=true→L e.on=true)→(∀ (j:Nat) oj,L j=true→ops[j]?=some oj→∀ e∈oj.after,Region.binds .any e=true→L e.on=true)→∀ i,i<k→L i=true:=by
  intro k o hk ho L hp hd i hi;have hks:k<ops.size:=(qB.1 ho).1;have h1:=sfxGo_ok ops ops.size k (by show sfxOf ops≤k;omega) hks;simp only[sfxAt,ho] at h1;have h2:i∈reachs ops o (List.range k).reverse []:=by simpa using qL.1 h1 i (by simpa using hi)
  exact reachs_ok (L:=L) (fun q hq=>by
   obtain⟨e,he,hb,heq⟩:=edge_mem hq;rw[← heq];exact hp e he hb) (fun j oj hj hoj q hq=>by
   obtain⟨e,he,hb,heq⟩:=edge_mem hq;rw[← heq];exact hd j oj hj hoj e he hb) _ [] (fun _ h=>by cases h) i h2
 have hsplit:∀ (k:Nat),gs.length≤k→∀ o,ops[k]?=some o→∃ g,gl[k - gs.length]?=some g∧compGOp P ops o=some g:=fun k hk o ho=>by
  obtain⟨g,h1,h2⟩:=hget0 k o (by rw[Array.getElem?_toList];exact ho);rw[qN hk] at h1;exact⟨g,h1,h2⟩
 have tail:∀ (n:Nat)(fuel k:Nat)(listed:Array Bool)(a:Act)(w:World)(c:Cx)(env':List SV)(own':List Res),ops.size - k≤n→ops.size - k≤fuel→gs.length≤k→listed.size=ops.size→(∀ i,i<ops.size→listed.getD i false=decide (i<k)) →
   EnvOk c env' a→Sat c own' w→(∀ r,r<n0→c.θ r=c0.θ r)→n0≤c.N→Goes c0 own w0 c own' w→a.defers=[]→run P (gl.drop (k - gs.length)) env' own' K→wpAny P .any ops Q fuel listed a w:=by
  intro n
  induction n with
  | zero =>
   intro fuel k listed a w c env' own' hn1 hf hk hsz hL hE hS ht hN hg hd hr;have hall:∀ i,i<ops.size→listed.getD i false=true:=fun i hi=>by rw[hL i hi];simp;omega
   have hready:Region.ready .any ops listed=[]:=by
    cases hr:Region.ready .any ops listed with
    | nil=>rfl
    | cons i r =>
     have:i∈Region.ready .any ops listed:=by rw[hr];simp
     obtain⟨h1,o,ho,_⟩:=mem_ready.1 this;have hi:i<ops.size:=(qB.1 ho).1;have h2:=hall i hi;have hil:i<listed.size:=by omega
     simp[hil] at h1 h2;rw[h1] at h2;cases h2
   have hdr:gl.drop (k - gs.length)=[]:=List.drop_eq_nil_of_le (by omega);rw[hdr] at hr;have hfin:Q .normal a w:=hQ a w ⟨hd,c,env',own',hE,hS,ht,hN,hg,hr⟩
   cases fuel with
   | zero=>exact⟨hready,hfin⟩
   | succ fuel=>exact⟨fun _=>hfin,fun i hi=>by rw[hready] at hi;cases hi⟩
  | succ n ihn =>
   intro fuel k listed a w c env' own' hn1 hf hk hsz hL hE hS ht hN hg hd hr;by_cases hkn:ops.size≤k
   ·exact ihn fuel k listed a w c env' own' (by omega) hf hk hsz hL hE hS ht hN hg hd hr
   ·obtain⟨fuel,rfl⟩:∃ f,fuel=f+1:=⟨fuel - 1,by omega⟩;have hks:k<ops.size:=by omega
    have hkl:k<listed.size:=by omega
    have hok:ops[k]?=some ops[k]:=by simp[hks]
    obtain⟨g,hgk,hcg⟩:=hsplit k hk _ hok;have hrk:k∈Region.ready .any ops listed:=by
     refine mem_ready.2 ⟨?_,ops[k],hok,fun e he hb=>?_⟩
     ·have:=hL k hks;simp[hkl] at this ⊢;exact this
     ·have h1:=hbnd k _ hok e he hb;rw[hL _ (by omega)];simp[h1]
    refine⟨fun h=>(by rw[h] at hrk;cases hrk),fun i hi=>?_⟩;have hik:i=k:=by
     obtain⟨hun,o,ho,hpre⟩:=mem_ready.1 hi;have hi':i<ops.size:=(qB.1 ho).1;have hil:i<listed.size:=by omega
     have hunf:listed.getD i false=false:=by simp[hil] at hun;simp[hil,hun]
     rw[hL i hi'] at hunf;have h1:k≤i:=by simpa using hunf
     rcases Nat.lt_or_eq_of_le h1 with h2 | h2
     ·exfalso
      have h3:=hlast i o (by omega) ho (fun j=>listed.getD j false) hpre (fun j oj hj hoj e he hb=>by
       have hjs:j<ops.size:=(qB.1 hoj).1;have h4:j<k:=by have h5:listed.getD j false=true:=hj;rw[hL j hjs] at h5;simpa using h5
       have h6:=hbnd j oj hoj e he hb;show listed.getD e.on false=true;rw[hL _ (by omega)];simp;omega) k h2
      have h4:listed.getD k false=true:=h3;rw[hL k hks] at h4;simp at h4
     ·exact h2.symm
    subst hik;have hdr:gl.drop (i - gs.length)=g::gl.drop (i+1 - gs.length):=by
     have h1:i - gs.length<gl.length:=by omega
     rw[List.drop_eq_getElem_cons h1,show i+1 - gs.length=i - gs.length+1 by omega];congr 1;rw[qK h1] at hgk;exact Option.some.inj hgk
    rw[hdr] at hr;simp only[run] at hr;obtain⟨h1,h2,h3⟩:=guard_sound hcg hE hr;have hL':∀ j,j<ops.size→(listed.setIfInBounds i true).getD j false=decide (j<i+1):=fun j hj=>by
     have hjl:j<listed.size:=by omega
     have h4:=hL j hj;simp[hjl] at h4;by_cases hji:j=i
     ·subst hji;simp[hjl]
     ·simp[hjl,Ne.symm hji,h4];omega
    have go:∀ (a':Act)(w':World)(c':Cx)(sv:SV)(u:Value)(own'':List Res)(env'':List SV),a'=a.put g.dst u→EnvOk c env'' a→Rel c' sv u→Sat c' own'' w'→c.le c'→Goes c own' w c' own'' w'→run P (gl.drop (i+1 - gs.length)) (putE env'' g.dst sv) own'' K→wpAny P .any ops Q fuel (listed.setIfInBounds i true) a' w':=by
     intro a' w' c' sv u own'' env'' ha hE'' hr' hS' hle' hg' hrun;subst ha;exact ihn fuel (i+1) _ _ w' c' _ own'' (by omega) (by omega) (by omega) (by simp[hsz]) hL' ((hE''.mono hle').putE hr') hS' (fun r hr=>(hle'.t r (by omega)).trans (ht r hr)) (Nat.le_trans hN hle'.n) (hg.trans hg') (by rw[put_defers];exact hd) hrun
    unfold wpOp;rw[hok];show if Region.wanted ops[i] (yielded ops a.tmps)=true then _ else _
    rcases h3 with ⟨hw,env1,hE',hA⟩ | ⟨hw,env1,hE',hB⟩
    ·rw[if_pos hw];refine .inl (Oper.wp_mono (fun a' w' hfin=>?_) (opN_sound h1 hE' hS hA));obtain⟨c',sv,own'',u,ha,k1,k2,k3,k4,k5⟩:=hfin;exact go a' w' c' sv u own'' env1 (by rw[ha,h2]) hE' k1 k2 k3 k4 k5
    ·rw[if_neg (by rw[hw];simp)];exact go _ w c (.tup []) undef own' env1 (by rw[h2]) hE' (.tup rfl (fun i s u hs=>by simp at hs)) hS (.refl c) (.refl c own' w) hB
 have main:∀ (fuel:Nat)(listed:Array Bool)(a:Act)(w:World)(c:Cx),listed.size=ops.size→(listed.toList.take gs.length).countP (! ·)+gl.length≤fuel→(∀ i,gs.length≤i→listed.getD i false=false) →
   (∀ (i:Nat) o,listed.getD i false=true→ops[i]?=some o→∀ e∈o.after,Region.binds .any e=true→listed.getD e.on false=true) →
   Sat c own w→c0.le c→Goes c0 own w0 c own w→a.defers=[]→a.tmps.size=env.length→(∀ (t:Nat) u,a.tmps[t]?=some u→Rel c (curF (blankAt gs m) svs 0 (fun i=>listed.getD i false) t (geti env t)) u) →
   (∀ d mk agg,mkAt gs m=some (d,mk,agg)→listed.getD m false=true→MapIn c own w0 w a d mk agg)→wpAny P .any ops Q fuel listed a w:=by
  have fst:∀ (fuel:Nat)(listed:Array Bool)(a:Act)(w:World)(c:Cx),listed.size=ops.size→gl.length≤fuel→(∀ i,gs.length≤i→listed.getD i false=false)→(∀ i,i<gs.length→listed.getD i false=true)→Sat c own w→c0.le c→Goes c0 own w0 c own w→a.defers=[]→a.tmps.size=env.length →
    (∀ (t:Nat) u,a.tmps[t]?=some u→Rel c (curF (blankAt gs m) svs 0 (fun i=>listed.getD i false) t (geti env t)) u) →
    (∀ d mk agg,mkAt gs m=some (d,mk,agg)→listed.getD m false=true→MapIn c own w0 w a d mk agg)→wpAny P .any ops Q fuel listed a w:=by
   intro fuel listed a w c hsz hfu hno hall hS hle hg hd hts hrel hMI;have hLi:∀ i,i<ops.size→listed.getD i false=decide (i<gs.length):=fun i hi=>by
    by_cases h:i<gs.length
    ·rw[hall i h];simp[h]
    ·rw[hno i (by omega)];simp[h]
   have hEf:EnvOk c fin a:=⟨by rw[hts,hfinl],fun t s u hs hu=>by
    have ht:t<env.length:=by rw[← hts];exact(qB.1 hu).1
    have e1:geti fin t=s:=by rw[geti_eq,hs];rfl
    rw[← e1,hfin t ht];have:=hrel t u hu
    rwa [curF_congr (L':=fun _=>true) (blankAt gs m) svs 0 _ (fun i g hi _=>by
     rw[Nat.zero_add];exact hall _ (by rw[← hbl];exact(qC.1 hi).1))] at this⟩
   cases hma:mkAt gs m with
   | none =>
    rw[hma] at hK;exact tail (ops.size - gs.length) fuel gs.length listed a w c fin own (qQ _) (by omega) (qQ _) hsz hLi hEf hS (fun r hr=>hle.t r (by omega)) (Nat.le_trans hn hle.n) hg hd (by rw[Nat.sub_self];exact hK)
   | some x =>
    obtain⟨d,mk,agg⟩:=x;rw[hma] at hK;obtain⟨v,v1,v2,v3⟩:=(hMI d mk agg hma (hall m (qC.1 (mkAt_get hma)).1)).push hS hg;have hpl:=c.push_le v;refine tail (ops.size - gs.length) fuel gs.length listed a w (c.push v) (putE fin (some d) (.hd own.length)) (own++[.mp mk agg []]) (qQ _) (by omega) (qQ _) hsz hLi ?_ v2 (fun r hr=>(hpl.t r (by have:=hle.n;omega)).trans (hle.t r (by omega))) (Nat.le_trans hn (Nat.le_trans hle.n hpl.n)) v3 hd (by rw[Nat.sub_self];exact hK);refine⟨by rw[hEf.size];simp[putE,seti_eq],fun t s u hs hu=>?_⟩;simp only[putE,seti_eq] at hs;rw[List.getElem?_set] at hs;split at hs
    ·rename_i e;subst e;split at hs
     ·cases hs;rw[v1 u hu];exact .hd (by simp[Cx.push,hS.n]) (by simp[Cx.push,hS.n])
     ·cases hs
    ·exact(hEf.rel t s u hs hu).mono hpl
  intro fuel
  induction fuel with
  | zero =>
   intro listed a w c hsz hcnt hno hdown hS hle hg hd hts hrel hMI;refine fst 0 listed a w c hsz (by omega) hno (fun i hi=>?_) hS hle hg hd hts hrel hMI;have hil:i<listed.size:=by omega
   by_cases hl:listed[i]=true
   ·simp[hil,hl]
   ·exfalso
    have hf:listed[i]=false:=by simpa using hl
    have:=count_set (listed.toList.take gs.length) i (by rw[List.getElem?_take,if_pos hi];simp[hil,hf]);omega
  | succ fuel ih =>
   intro listed a w c hsz hcnt hno hdown hS hle hg hd hts hrel hMI;by_cases hall:∀ i,i<gs.length→listed.getD i false=true
   ·exact fst (fuel+1) listed a w c hsz (by omega) hno hall hS hle hg hd hts hrel hMI
   have hpfx:∀ i,i∈Region.ready .any ops listed→i<gs.length:=fun i hi=>by
    obtain⟨hun,o,ho,hpre⟩:=mem_ready.1 hi;refine Classical.byContradiction fun hge=>hall fun j hj=>?_
    exact hlast i o (by omega) ho (fun j=>listed.getD j false) hpre (fun j oj hj hoj=>hdown j oj hj hoj) j (by omega)
   refine⟨fun hr=>?_,fun i hi=>?_⟩
   ·exfalso
    refine hall fun i=>?_
    induction i using Nat.strongRecOn with
    | _ i ih =>
     intro hi;have his:i<ops.size:=by omega
     have ho:ops[i]?=some ops[i]:=by simp[his]
     by_cases hl:listed.getD i false=true
     ·exact hl
     ·exfalso
      have hm2:i∈Region.ready .any ops listed:=by
       refine mem_ready.2 ⟨?_,ops[i],ho,fun e he hb=>?_⟩
       ·have hil:i<listed.size:=by omega
        simp[hil] at hl ⊢;exact hl
       ·have h1:=hbnd i _ ho e he hb;exact ih e.on h1 (by omega)
      rw[hr] at hm2;cases hm2
   have hig:=hpfx i hi;obtain⟨hun,o,ho,hpre⟩:=mem_ready.1 hi;have hi':i<ops.size:=(qB.1 ho).1;have hil:i<listed.size:=by omega
   have hunl:listed[i]?=some false:=by simp[hil] at hun;simp[hil,hun]
   have hunf:listed.getD i false=false:=by simp[hil] at hun;simp[hil,hun]
   obtain⟨g0,hg0,hcg0⟩:=hget i o hig (by simpa using ho);obtain⟨g,hgi⟩:∃ g,(blankAt gs m)[i]?=some g:=⟨(blankAt gs m)[i]'(by rw[hbl];exact hig),qK _⟩;have hgd0:g.dst=g0.dst:=by
    obtain⟨g1,k1,k2,-⟩:=blank_rel hgi;rw[hg0] at k1;cases k1;exact k2
   obtain⟨envk,sv,hsv,hkl,hstep,hek⟩:=hat i g hgi;have hord:=hc' i o g ho hgi;have hlook:∀ t,t∈g.looks∨g.dst=some t→∀ j gj,(blankAt gs m)[j]?=some gj→gj.dst=some t→listed.getD j false=decide (j<i):=by
    intro t ht j gj hj hdj;by_cases hji:j=i
    ·subst hji;rw[hunf];simp
    ·have hjs:j<ops.size:=by have:=(qC.1 hj).1;rw[hbl] at this;omega
     have hoj:ops[j]?=some ops[j]:=by simp[hjs]
     obtain⟨h1,h2⟩:=hord j ops[j] gj t hji hoj hj hdj ht;rcases Nat.lt_or_gt_of_ne hji with hlt | hgt
     ·obtain⟨e,he,hb,heq⟩:=edge_mem (h1 hlt);have:=hpre e he hb;rw[heq] at this;rw[this];simp[hlt]
     ·by_cases hl:listed.getD j false=true
      ·exfalso
       obtain⟨e,he,hb,heq⟩:=edge_mem (h2 hgt);have:=hdown j ops[j] hl hoj e he hb;rw[heq,hunf] at this;cases this
      ·have:listed.getD j false=false:=by simpa using hl
       rw[this];simp;omega
   have hslot:∀ t u,t∈g.looks→a.tmps[t]?=some u→Rel c (geti envk t) u:=by
    intro t u ht hu;have htl:t<env.length:=by rw[← hts];exact(qB.1 hu).1
    rw[hek t htl];have:=hrel t u hu
    rwa [curF_congr (L':=fun j=>decide (j<i)) (blankAt gs m) svs 0 _ (fun j gj hj hdj=>by rw[Nat.zero_add];exact hlook t (.inl ht) j gj hj hdj)] at this
   let envR:=(List.range env.length).map fun t=>if t∈g.looks then geti envk t else .top
   have hRlen:envR.length=env.length:=by simp[envR]
   have hRget:∀ t,t∈g.looks→geti envR t=geti envk t:=fun t ht=>by
    rw[geti_eq,geti_eq];by_cases htl:t<env.length
    ·have:envR[t]?=some (geti envk t):=by simp[envR,htl,ht]
     rw[this,geti_eq];rfl
    ·have h1:envR[t]?=none:=by rw[List.getElem?_eq_none_iff];omega
     have h2:envk[t]?=none:=by rw[List.getElem?_eq_none_iff];omega
     rw[h1,h2]
   have hER:EnvOk c envR a:=⟨by rw[hts,hRlen],fun t s u hs hu=>by
    have htl:t<env.length:=by rw[← hts];exact(qB.1 hu).1
    simp only[envR,qI,List.getElem?_range htl,qS,qZ] at hs;subst hs;split
    ·rename_i ht;exact hslot t u ht hu
    ·exact .top u⟩
   have hagree:∀ x∈g.op.ops,evn own envk x=evn own envR x:=fun x hx=>by
    cases x with
    | tmp t =>
     have:t∈g.looks:=by simp only[GOp.looks,qT];exact .inl (mem_tmpsOf.2 hx)
     simp only[evn,ev,hRget t this]
    | _=>rfl
   have hcount:((listed.setIfInBounds i true).toList.take gs.length).countP (! ·)+gl.length≤fuel:=by
    have:=count_set (listed.toList.take gs.length) i (by rw[List.getElem?_take,if_pos hig];simpa using hunl);rw[Array.toList_setIfInBounds,List.take_set];omega
   have hLset:∀ j,(listed.setIfInBounds i true).getD j false=if j=i then true else listed.getD j false:=fun j=>by
    by_cases hji:j=i
    ·subst hji;simp[hil]
    ·by_cases hjl:j<listed.size
     ·simp[hjl,hji,Ne.symm hji]
     ·simp[hjl,hji]
   have hdown':∀ (j:Nat) o',(listed.setIfInBounds i true).getD j false=true→ops[j]?=some o'→∀ e∈o'.after,Region.binds .any e=true→(listed.setIfInBounds i true).getD e.on false=true:=by
    intro j o' hj hoj e he hb;rw[hLset] at hj ⊢;split
    ·rfl
    ·split at hj
     ·rename_i hji;subst hji;rw[ho] at hoj;cases hoj;exact hpre e he hb
     ·exact hdown j o' hj hoj e he hb
   have hnext:∀ (a':Act)(w':World)(c':Cx)(u:Value),a'=a.put g.dst u→Rel c' sv u→Sat c' own w'→c.le c'→Goes c own w c' own w'→(∀ d mk agg,mkAt gs m=some (d,mk,agg)→i=m→MapIn c' own w0 w' (a.put g.dst u) d mk agg)→wpAny P .any ops Q fuel (listed.setIfInBounds i true) a' w':=by
    intro a' w' c' u ha hr hS' hle' hg' hM';subst ha;refine ih _ _ w' c' (by simp[hsz]) hcount (fun j hj=>by rw[hLset,if_neg (by omega)];exact hno j hj) hdown' hS' (hle.trans hle') (hg.trans hg') (by rw[put_defers];exact hd) (by cases g.dst<;>simp[Act.put,hts]) ?_ ?_
    rotate_left 1
    ·intro d mk agg e hl;by_cases him:i=m
     ·exact hM' d mk agg e him
     ·rw[hLset,if_neg (Ne.symm him)] at hl;refine(hMI d mk agg e hl).on hle' hg' ?_;have hnd:=(hother e i g0 him hg0).2;rw[← hgd0] at hnd
      cases hgd':g.dst with
      | none=>rfl
      | some d' =>
       rw[hgd'] at hnd;simp only[Act.put,Array.getElem?_setIfInBounds];rw[if_neg (fun e=>hnd (by rw[e]))]
    intro t v hv;have hfun:(fun j=>(listed.setIfInBounds i true).getD j false)=fun j=>if j=i then true else listed.getD j false:=funext hLset
    rw[hfun];by_cases hdt:g.dst=some t
    ·
     have hvu:v=u:=by
      rw[hdt] at hv;simp only[Act.put,Array.getElem?_setIfInBounds,if_true] at hv;split at hv
      ·cases hv;rfl
      ·cases hv
     subst hvu;rw[curF_last (blankAt gs m) svs 0 _ i g sv hgi hsv hdt (by simp) (fun j gj hij hj hdj=>by
      rw[Nat.zero_add,if_neg (by omega),hlook t (.inr hdt) j gj hj hdj];simp;omega)]
     exact hr
    ·have hv':a.tmps[t]?=some v:=by
      cases hgd':g.dst with
      | none=>rw[hgd'] at hv;exact hv
      | some d =>
       rw[hgd'] at hv hdt;simp only[Act.put,Array.getElem?_setIfInBounds] at hv
       rwa [if_neg (fun e=>hdt (by rw[e]))] at hv
     rw[curF_congr (L':=fun j=>listed.getD j false) (blankAt gs m) svs 0 _ (fun j gj hj hdj=>by
      rw[Nat.zero_add,if_neg (fun e=>by subst e;rw[hgi] at hj;cases hj;exact hdt hdj)])]
     exact(hrel t v hv').mono hle'
   unfold wpOp;rw[ho];show if Region.wanted o (yielded ops a.tmps)=true then _ else _
   by_cases hsp:∃ x,mkAt gs m=some x∧i=m
   ·
    obtain⟨⟨d,mk,agg⟩,e,rfl⟩:=hsp;have hgb:=blank_at e;rw[hgi] at hgb;cases hgb;have hg00:=mkAt_get e;rw[hg0] at hg00;cases hg00;obtain⟨hco,hdst,hcase⟩:=guard_sound hcg0 hER (A:=fun _=>True) (B:=fun _=>False) (by unfold GuardN;trivial);have hw:Region.wanted o (yielded ops a.tmps)=true:=by
     rcases hcase with ⟨hw,_⟩ | ⟨_,_,_,hB⟩
     ·exact hw
     ·exact hB.elim
    rw[if_pos hw];obtain⟨ty,hoo⟩:=compOp_mkm hco;refine .inl (wp_sem (s:=Instr.makeMap ty none) (u:=.map (some w.heap.size)) (w':=w.alloc (.map #[] 0)) (by simp only[execOp,hoo];rfl) ?_ ?_)
    ·simp only[Instr.makeMap,qG,Sem.run_pure,run_newObj,qF,World.alloc_eq]
    ·have hsvt:sv=.top:=by
      unfold StepY at hstep;exact(show evn _ envk (.global 0)=sv from hstep).symm
     refine hnext _ _ c (.map (some w.heap.size)) (by rw[hdst]) (by rw[hsvt];exact .top _) ?_ (.refl c) ⟨rfl,rfl,rfl,by simp,fun b hb _=>RowKit.Below.heap_alloc w _ b hb,fun _ hb=>.inl hb,fun _ hb=>.inl hb,fun _ _ hb=>hb⟩ ?_
     ·exact hS.on (.refl c) rfl hS.one (fun b hb=>RowKit.Below.heap_alloc w _ b hb) (fun b x hb=>by rw[RowKit.Below.heap_alloc w _ b (hS.F_lt hb)];exact hS.le b x hb) (fun b hb=>.inl hb)
     ·intro d' mk' agg' e' _;rw[e] at e';cases e';refine⟨w.heap.size,fun u hu=>?_,hg.size,by simp,⟨w.heap.size,#[],0,rfl,⟨heap_alloc_new w _,MapKept.stamped_empty _⟩,rfl,fun i k ds hi=>by simp at hi⟩,fun ⟨r,x,hx,hl,hb⟩=>?_,?_⟩
      ·simp only[Act.put,Array.getElem?_setIfInBounds,if_true] at hu;split at hu
       ·cases hu;rfl
       ·cases hu
      ·have:=hS.blk_lt ⟨r,x,hx,hl,hb⟩;omega
      ·cases hc:c.F w.heap.size with
       | none=>rfl
       | some o=>have:=hS.F_lt hc;omega
   have hne:∀ x,mkAt gs m=some x→i≠m:=fun x e e'=>hsp ⟨x,e,e'⟩
   have hgg:g=g0:=by
    rw[blank_ne hne,hg0] at hgi;cases hgi;rfl
   subst hgg;have hcg:=hcg0;have hgd:GuardN g.guard envR (fun _=>fnN P g.op envR own (·=sv)) (fun _=>sv=.tup []):=by
    unfold StepY at hstep;unfold GuardN at hstep ⊢;split
    ·rename_i hgn;simp only[hgn] at hstep;exact(fnN_agree hagree).1 hstep
    ·rename_i s want hgs;simp only[hgs] at hstep;have hs:s∈g.looks:=by simp only[GOp.looks,qT,hgs];exact .inr (by simp)
     rw[hRget s hs];split at hstep
     ·rename_i b hb;simp only[];exact⟨fun e=>(fnN_agree hagree).1 (hstep.1 e),hstep.2⟩
     ·rename_i hb;simp only[];exact hstep
     ·exact hstep.elim
   obtain⟨hco,hdst,hcase⟩:=guard_sound hcg hER hgd;rcases hcase with ⟨hw,_,_,hA⟩ | ⟨hw,_,_,hB⟩
   ·rw[if_pos hw];refine .inl (Oper.wp_mono (fun a' w' hfin=>?_) (fn_wp hco hER hS hA));obtain⟨c',sv',own',u,ha,k1,k2,k3,k4,rfl,rfl⟩:=hfin;exact hnext a' w' c' u (by rw[← hdst];exact ha) k1 k2 k3 k4 (fun d mk agg e him=>absurd him (hne _ e))
   ·rw[if_neg (by rw[hw];simp)];subst hB;exact hnext _ w c undef (by rw[hdst]) (.tup rfl (fun i s u hs=>by simp at hs)) hS (.refl c) (.refl c own w) (fun d mk agg e him=>absurd him (hne _ e))
 have hrep:∀ j,(Array.replicate ops.size false).getD j false=false:=fun j=>by
  rw[Array.getD_eq_getD_getElem?,Array.getElem?_replicate];split<;>rfl
 refine main ops.size (Array.replicate ops.size false) a0 { w0 with drawn:=w0.drawn+1 } c0 (by simp) ?_ (fun i _=>hrep i) ?_ (hS0.drew rfl) (.refl c0) (.drew rfl rfl rfl rfl) hd0 hE0.size ?_ (fun d mk agg _ h=>by rw[hrep] at h;cases h)
 ·simp[Array.toList_replicate,List.take_replicate,List.countP_replicate];omega
 ·intro i o hl _;rw[hrep] at hl;cases hl
 ·intro t u hu;have htl:t<env.length:=by rw[← hE0.size];exact(qB.1 hu).1
  rw[curF_none _ _ _ _ (fun i g _ _=>hrep _)];exact hE0.rel t _ u (by rw[geti_eq];simp[htl]) hu
theorem region_sfm {n0 id:Nat}{ops:Array Oper}{gs gl:List GOp}{c0:Cx}{env:List SV}{a0:Act}{w0:World}{K:List SV→List Res→Prop}{Q:Exit→Act→World→Prop}(m:Nat)(hm:P.follows .mixedOrders=true)
  (hcomp:compOps P ops ops.toList=some (gs++gl)) (hchk:regChk ops (gs++gl)=true) (hsfx:sfxOf ops=gs.length) (hmk:mkOk gs m=true) (hE0:EnvOk c0 env a0) (hS0:Sat c0 own w0) (hn:n0≤c0.N) (hd0:a0.defers=[])
  (h:runF P (blankAt gs m) env own (fun env'=>runM P gl env' own K (mkAt gs m)))
  (hQ:∀ a' w',Nx n0 c0 own w0 K a' w'→Q .normal a' w'):(Code.region id ops true).wp P Q a0 w0 :=
 wp_region_any hm (sfm_wp m hcomp hchk hsfx hmk hE0 hS0 hn hd0 h hQ)
theorem region_sfx {n0 id:Nat}{ops:Array Oper}{gs gl:List GOp}{c0:Cx}{env:List SV}{a0:Act}{w0:World}{K:List SV→List Res→Prop}{Q:Exit→Act→World→Prop}(hm:P.follows .mixedOrders=true)
  (hcomp:compOps P ops ops.toList=some (gs++gl)) (hchk:regChk ops (gs++gl)=true) (hsfx:sfxOf ops=gs.length) (hE0:EnvOk c0 env a0) (hS0:Sat c0 own w0) (hn:n0≤c0.N) (hd0:a0.defers=[]) (h:runF P gs env own (fun env'=>run P gl env' own K))
  (hQ:∀ a' w',Nx n0 c0 own w0 K a' w'→Q .normal a' w'):(Code.region id ops true).wp P Q a0 w0:=by
 have e:mkAt gs gs.length=none:=by unfold mkAt;rw[qX (qQ _)]
 have e2:blankAt gs gs.length=gs:=by unfold blankAt;rw[e]
 exact region_sfm gs.length hm hcomp hchk hsfx (by unfold mkOk;rw[e]) hE0 hS0 hn hd0 (by rw[e,e2];exact h) hQ
end
end Go.SX
