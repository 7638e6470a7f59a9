/- Parts of the proof. -/
import Derived.Test.YtlpempbeenpilaaGreatDoorZSxS
set_option linter.unusedSimpArgs false
set_option linter.unusedVariables false
set_option linter.unusedSectionVars false
namespace Go.SX
open Go Go.RowKit
variable [Tabs]
def mkX (M:Nat→Bool)(r:Nat)(x:Res):Res:=match M r with | true=>.gone | false=>x
def maskX (M:Nat→Bool)(own:List Res):List Res:=own.mapIdx fun r x=>mkX M r x
theorem get_maskX (M:Nat→Bool)(own:List Res)(r:Nat):(maskX M own)[r]?=own[r]?.map (mkX M r):=by
 rw[maskX,List.getElem?_mapIdx]
theorem getr_maskX (M:Nat→Bool)(own:List Res)(r:Nat):getr (maskX M own) r=mkX M r (getr own r):=by
 rw[getr_eq,getr_eq,get_maskX]
 cases own[r]? with
 | none=>show Res.gone=mkX M r .gone;unfold mkX;split<;>rfl
 | some x=>rfl
def EqX (M:Nat→Bool)(own o:List Res):Prop:=∀ r,mkX M r (getr o r)=mkX M r (getr own r)
def goneL (M:Nat→Bool):Nat→List Res→Prop
 | _,[]=>True
 | k,y::m=>mkX M k y=.gone∧goneL M (k+1) m
def eqXL (M:Nat→Bool):Nat→List Res→List Res→Prop
 | k,[],o=>goneL M k o
 | k,x::l,[]=>mkX M k x=.gone∧eqXL M (k+1) l []
 | k,x::l,y::m=>mkX M k y=mkX M k x∧eqXL M (k+1) l m
theorem getr_nil (r:Nat):getr [] r=.gone:=by rw[getr_eq];rfl
theorem mkX_gone (M:Nat→Bool)(r:Nat):mkX M r .gone=.gone:=by unfold mkX;split<;>rfl
theorem goneL_to (M:Nat→Bool):∀ (o:List Res)(k:Nat),goneL M k o→∀ r,mkX M (k+r) (getr o r)=.gone
 | [],k,_,r=>by rw[getr_nil,mkX_gone]
 | y::m,k,h,0=>h.1
 | y::m,k,h,r+1=>by have:=goneL_to M m (k+1) h.2 r;rwa [Nat.add_right_comm] at this
theorem eqXL_to (M:Nat→Bool):∀ (own o:List Res)(k:Nat),eqXL M k own o→∀ r,mkX M (k+r) (getr o r)=mkX M (k+r) (getr own r)
 | [],o,k,h,r=>by rw[getr_nil,mkX_gone];exact goneL_to M o k h r
 | x::l,[],k,h,0=>by rw[getr_nil,mkX_gone];exact h.1.symm
 | x::l,[],k,h,r+1=>by have:=eqXL_to M l [] (k+1) h.2 r;rw[Nat.add_right_comm,getr_nil] at this;rw[getr_nil];exact this
 | x::l,y::m,k,h,0=>h.1
 | x::l,y::m,k,h,r+1=>by have:=eqXL_to M l m (k+1) h.2 r;rwa [Nat.add_right_comm] at this
theorem EqX.of {M:Nat→Bool}{own o:List Res}(h:eqXL M 0 own o):EqX M own o:=fun r=>by have:=eqXL_to M own o 0 h r;rwa [Nat.zero_add] at this
theorem EqX.refl (M:Nat→Bool)(own:List Res):EqX M own own:=fun _=>rfl
theorem EqX.trans {M:Nat→Bool}{a b c:List Res}(h:EqX M a b)(k:EqX M b c):EqX M a c:=fun r=>(k r).trans (h r)
theorem Sat.maskX {c:Cx}{own:List Res}{w:World}(M:Nat→Bool)(h:Sat c own w):Sat c (maskX M own) w:=by
 have hget:∀ (r:Nat) x,(Go.SX.maskX M own)[r]?=some x→∃ y,own[r]?=some y∧x=mkX M r y:=fun r x hx=>by
  rw[get_maskX,Option.map_eq_some_iff] at hx;obtain⟨y,h1,h2⟩:=hx;exact⟨y,h1,h2.symm⟩
 have hlive:∀ r y,(mkX M r y).live=true→y.live=true:=fun r y hy=>by
  unfold mkX at hy;split at hy
  ·cases hy
  ·exact hy
 refine⟨by rw[Go.SX.maskX,List.length_mapIdx];exact h.n,fun r x hx=>?_,fun r s x y b hx hy hl hl' hb hb'=>?_,fun r x b hx hl hb=>?_,h.le,h.one,h.tab⟩
 ·obtain⟨y,h1,rfl⟩:=hget r x hx;have:=h.res r y h1;unfold mkX;split
  ·trivial
  ·exact this
 ·obtain⟨x',h1,rfl⟩:=hget r x hx;obtain⟨y',h2,rfl⟩:=hget s y hy;exact h.apart r s x' y' b h1 h2 (hlive _ _ hl) (hlive _ _ hl') hb hb'
 ·obtain⟨x',h1,rfl⟩:=hget r x hx;exact h.notF r x' b h1 (hlive _ _ hl) hb
theorem Sat.unmaskX {M:Nat→Bool}{c c':Cx}{own:List Res}{w w':World}(h:Sat c own w)(hs:Sat c' (Go.SX.maskX M own) w')(hle:c.le c')(hg:Goes c (Go.SX.maskX M own) w c' (Go.SX.maskX M own) w'):Sat c' own w'∧Goes c own w c' own w':=by
 have hlen:(Go.SX.maskX M own).length=own.length:=by rw[Go.SX.maskX,List.length_mapIdx]
 have hN:c'.N=c.N:=by rw[← hs.n,← h.n,hlen]
 have hθ:∀ (r:Nat) x,own[r]?=some x→c'.θ r=c.θ r:=fun r x hx=>hle.t r (by rw[← h.n];exact(qC.1 hx).1)
 have hback:∀ (s:Nat) y,(Go.SX.maskX M own)[s]?=some y→y.live=true→own[s]?=some y∧M s=false:=fun s y hy hl=>by
  rw[get_maskX,Option.map_eq_some_iff] at hy;obtain⟨y',h1,rfl⟩:=hy;unfold mkX at hl ⊢;split at hl
  ·cases hl
  ·rename_i hM;exact⟨h1,hM⟩
 have hnot:∀ (r:Nat) x b,own[r]?=some x→x.live=true→M r=true→blkOf (c.θ r)=some b→¬ Own c (Go.SX.maskX M own) b:=fun r x b hx hl hM hb ⟨s,y,hy,hly,hyb⟩=>by
  obtain⟨h1,h2⟩:=hback s y hy hly;have:=h.apart r s x y b hx h1 hl hly hb hyb;subst this;rw[hM] at h2;cases h2
 have hOwn:∀ b,Own c (Go.SX.maskX M own) b→Own c own b:=fun b ⟨s,y,hy,hly,hyb⟩=>⟨s,y,(hback s y hy hly).1,hly,hyb⟩
 have hmk:∀ (r:Nat) x,own[r]?=some x→M r=false→(Go.SX.maskX M own)[r]?=some x:=fun r x hx hM=>by
  rw[get_maskX,hx];simp[mkX,hM]
 refine⟨⟨by rw[hN];exact h.n,fun r x hx=>?_,fun r s x y b hx hy hl hl' hb hb'=>?_,fun r x b hx hl hb=>?_,hs.le,hs.one,hs.tab⟩,⟨hg.os,hg.tape,hg.output,hg.size,fun b hb hno=>hg.keep b hb fun ho=>hno (hOwn b ho),fun b hb=>?_,fun b hb=>?_,hg.f⟩⟩
 ·cases hM:M r with
  | false=>exact hs.res r x (hmk r x hx hM)
  | true =>
   rw[hθ r _ hx];exact(h.res r _ hx).keep hle fun hl b hb=>hg.keep b (h.blk_lt ⟨r,_,hx,hl,hb⟩) (hnot r x b hx hl hM hb)
 ·rw[hθ r _ hx] at hb;rw[hθ s _ hy] at hb';exact h.apart r s x y b hx hy hl hl' hb hb'
 ·rw[hθ r _ hx] at hb;have h0:=h.notF r x b hx hl hb;have hlt:=h.blk_lt ⟨r,x,hx,hl,hb⟩
  cases hM:M r with
  | true =>
   cases hc:c'.F b with
   | none=>rfl
   | some o =>
    rcases hg.newF b (by simp[hc]) with k | k | k
    ·exact absurd h0 k
    ·omega
    ·exact absurd k (hnot r x b hx hl hM hb)
  | false=>exact hs.notF r x b (hmk r x hx hM) hl (by rw[hθ r _ hx];exact hb)
 ·rcases hg.newF b hb with k | k | k
  ·exact .inl k
  ·exact .inr (.inl k)
  ·exact .inr (.inr (hOwn b k))
 ·obtain⟨r,x,hx,hl,hbk⟩:=hb;rw[hθ r _ hx] at hbk;exact .inl ⟨r,x,hx,hl,hbk⟩
def XCallN (P:Program)(f:FuncId)(args:List SV)(R:SV→Prop):Prop :=
 ∃ args1 s,(∀ (c:Cx) us,RelL c args us→RelL c args1 us)∧Fn1 P f args1 s∧closedL args1=true∧s.closed=true∧R s
def fnX (P:Program)(d:DOp)(env:List SV)(own:List Res)(R:SV→Prop):Prop :=
 match d with
 | .call f args=>XCallN P f (args.map (evn own env)) R
 | .callv ..=>False
 | d=>fnN P d env own R
def EffN (P:Program)(op:DOp)(env:List SV)(own:List Res)(sv:SV)(o:List Res):Prop :=
 match op with
 | .app .. | .call ..=>opN P op env own (fun s o'=>s=sv∧o'=o)
 | .bslice ty sz 0 _ []=>sv=.hd own.length∧o=own++[.row ty sz []]
 | _=>False
theorem EffN.op {P:Program}{op:DOp}{env:List SV}{own:List Res}{sv:SV}{o:List Res}(h:EffN P op env own sv o):opN P op env own (fun s o'=>s=sv∧o'=o):=by
 unfold EffN at h;split at h
 ·exact h
 ·exact h
 ·exact⟨rfl,by omega,h.1.symm,h.2.symm⟩
 ·exact h.elim
def runX (P:Program)(E M:Nat→Bool):Nat→List GOp→List SV→List Res→(List SV→List Res→Prop)→Prop
 | _,[],env,own,K=>K env own
 | k,g::l,env,own,K =>
  match E k with
  | true=>g.isEf=true∧GuardN g.guard env (fun env=>∃ sv o,EffN P g.op env own sv o∧EqX M own o∧runX P E M (k+1) l (putE env g.dst sv) o K) (fun env=>runX P E M (k+1) l (putE env g.dst (.tup [])) own K)
  | false=>GuardN g.guard env (fun env=>fnX P g.op env (maskX M own) (fun sv=>runX P E M (k+1) l (putE env g.dst sv) own K)) (fun env=>runX P E M (k+1) l (putE env g.dst (.tup [])) own K)
section
variable {P:Program}{E M:Nat→Bool}
theorem fnX_one {d:DOp}{env:List SV}{own:List Res}{R:SV→Prop}(h:fnX P d env own R):∃ sv,fnX P d env own (·=sv)∧R sv:=by
 unfold fnX at h ⊢;split at h
 ·obtain⟨args1,s,h1,h2,h3,h4,h5⟩:=h;exact⟨s,⟨args1,s,h1,h2,h3,h4,rfl⟩,h5⟩
 ·exact h.elim
 ·exact fnN_one h
theorem fnX_to {g:GOp}{env:List SV}{own own':List Res}{R:SV→Prop}(hg:∀ r,getr own r=getr own' r)(h:fnX P g.op env own R):fnN P g.op env own' R:=by
 cases hop:g.op with
 | call f args =>
  rw[hop] at h;obtain⟨args1,s,h1,h2,h3,h4,h5⟩:=h;have he:args.map (evn own env)=args.map (evn own' env):=List.map_congr_left fun x _=>evn_g hg env x
  exact⟨s,(SCall.fn h2 h3 h4).arg fun c w us _ hr=>h1 c us (by rw[he];exact hr),h5⟩
 | callv x args=>rw[hop] at h;exact h.elim
 | _ =>
  rw[← hop];refine fnN_g (g:=g) hg (by simp[GOp.isCall,hop]) ?_;rw[hop] at h ⊢;exact h
theorem fnX_agree {d:DOp}{env env':List SV}{own:List Res}{R:SV→Prop}(h:∀ x∈d.ops,evn own env x=evn own env' x)(hf:fnX P d env own R):fnX P d env' own R:=by
 unfold fnX at hf ⊢;split at hf
 ·rename_i f args
  rwa [map_agree (l:=args) (fun x hx=>h x hx)] at hf
 ·exact hf.elim
 ·exact(fnN_agree h).1 hf
theorem effN_agree {d:DOp}{env env':List SV}{own:List Res}{sv:SV}{o:List Res}(h:∀ x∈d.ops,evn own env x=evn own env' x)(hf:EffN P d env own sv o):EffN P d env' own sv o:=by
 unfold EffN at hf ⊢;split at hf
 ·rename_i ty sz bytes z x y;simp only[opN] at hf ⊢
  rwa [h x (by simp[DOp.ops]),h y (by simp[DOp.ops])] at hf
 ·rename_i f args;simp only[opN] at hf ⊢
  rwa [map_agree (l:=args) (fun x hx=>h x hx)] at hf
 ·exact hf
 ·exact hf.elim
def StepX (P:Program)(E M:Nat→Bool)(k:Nat)(own:List Res)(g:GOp)(env:List SV)(sv:SV)(o:List Res):Prop :=
 (E k=true∧g.isEf=true∧GuardN g.guard env (fun _=>EffN P g.op env own sv o) (fun _=>sv=.tup []∧o=own)) ∨
 (E k=false∧GuardN g.guard env (fun _=>fnX P g.op env (maskX M own) (·=sv)) (fun _=>sv=.tup [])∧o=own)
def TraceX (P:Program)(E M:Nat→Bool):Nat→List GOp→List SV→List (List Res)→List SV→List Res→List SV→List Res→Prop
 | _,[],[],[],env,own,fin,fo=>fin=env∧fo=own
 | k,g::gs,sv::svs,o::os,env,own,fin,fo=>StepX P E M k own g env sv o∧EqX M own o∧TraceX P E M (k+1) gs svs os (putE env g.dst sv) o fin fo
 | _,_,_,_,_,_,_,_=>False
theorem guard_one {α:Type}{gd:Option (Nat×Bool)}{env:List SV}{A B:List SV→Prop}{A':α→Prop}{B':α→Prop}{R:α→Prop}(hA:∀ e,(e=env)→A e→∃ x,A' x∧R x)(hB:∀ e,(e=env)→B e→∃ x,B' x∧R x)(h:GuardN gd env A B) :
  ∃ x,GuardN gd env (fun _=>A' x) (fun _=>B' x)∧R x:=by
 unfold GuardN at h ⊢;split at h
 ·obtain⟨x,h1,h2⟩:=hA _ rfl h;exact⟨x,h1,h2⟩
 ·rename_i s want;split at h
  ·rename_i b hb;by_cases hbw:b=want
   ·subst hbw;have:=h.1 rfl;rw[seti_same hb (by simp)] at this;obtain⟨x,h1,h2⟩:=hA _ rfl this;refine⟨x,?_,h2⟩;simp only[];exact⟨fun _=>h1,fun h=>by cases b<;>simp at h⟩
   ·have hbn:b=!want:=by cases b<;>cases want<;>simp_all
    subst hbn;have:=h.2 rfl;rw[seti_same hb (by simp)] at this;obtain⟨x,h1,h2⟩:=hB _ rfl this;refine⟨x,?_,h2⟩;simp only[];exact⟨fun h=>by cases want<;>simp at h,fun _=>h1⟩
  ·obtain⟨x,h1,h2⟩:=hB _ rfl h;refine⟨x,?_,h2⟩;simp only[];exact h1
  ·exact h.elim
theorem runX_trace : ∀ (gs:List GOp)(k:Nat){env:List SV}{own:List Res}{K:List SV→List Res→Prop},runX P E M k gs env own K→∃ svs os fin fo,TraceX P E M k gs svs os env own fin fo∧K fin fo
 | [],k,env,own,K,h=>⟨[],[],env,own,⟨rfl,rfl⟩,h⟩
 | g::gs,k,env,own,K,h=>by
  unfold runX at h
  cases hk:E k with
  | true =>
   rw[hk] at h;obtain⟨he,h⟩:=h;obtain⟨⟨sv,o⟩,h1,h2,h3⟩:=guard_one (α:=SV×List Res) (A':=fun x=>EffN P g.op env own x.1 x.2) (B':=fun x=>x.1=.tup []∧x.2=own) (R:=fun x=>EqX M own x.2∧runX P E M (k+1) gs (putE env g.dst x.1) x.2 K)
    (fun e he hh=>by rw[he] at hh;obtain⟨sv,o,h1,h2,h3⟩:=hh;exact⟨(sv,o),h1,h2,h3⟩) (fun e he hh=>by rw[he] at hh;exact⟨(.tup [],own),⟨rfl,rfl⟩,.refl M own,hh⟩) h
   obtain⟨svs,os,fin,fo,h4,h5⟩:=runX_trace gs (k+1) h3;exact⟨sv::svs,o::os,fin,fo,⟨.inl ⟨hk,he,h1⟩,h2,h4⟩,h5⟩
  | false =>
   rw[hk] at h;simp only at h;obtain⟨sv,h1,h3⟩:=guard_one (α:=SV) (A':=fun x=>fnX P g.op env (maskX M own) (·=x)) (B':=fun x=>x=.tup []) (R:=fun x=>runX P E M (k+1) gs (putE env g.dst x) own K)
    (fun e he hh=>by rw[he] at hh;exact fnX_one hh) (fun e he hh=>by rw[he] at hh;exact⟨_,rfl,hh⟩) h
   obtain⟨svs,os,fin,fo,h4,h5⟩:=runX_trace gs (k+1) h3;exact⟨sv::svs,own::os,fin,fo,⟨.inr ⟨hk,h1,rfl⟩,.refl M own,h4⟩,h5⟩
def curX : List (List Res)→Nat→(Nat→Bool)→List Res→List Res
 | o::os,k,L,acc=>curX os (k+1) L (if L k then o else acc)
 | [],_,_,acc=>acc
theorem curX_congr {L L':Nat→Bool}:∀ (os:List (List Res))(k:Nat)(acc:List Res),(∀ i,i<os.length→L (k+i)=L' (k+i))→curX os k L acc=curX os k L' acc
 | [],k,acc,_=>rfl
 | o::os,k,acc,h=>by
  simp only[curX];rw[show L k=L' k from h 0 (by simp)];exact curX_congr os (k+1) _ fun i hi=>by have:=h (i+1) (by simpa using hi);rwa [← Nat.add_assoc,Nat.add_right_comm] at this
theorem curX_none {L:Nat→Bool}:∀ (os:List (List Res))(k:Nat)(acc:List Res),(∀ i,i<os.length→L (k+i)=false)→curX os k L acc=acc
 | [],k,acc,_=>rfl
 | o::os,k,acc,h=>by
  simp only[curX];rw[show L k=false from h 0 (by simp)];exact curX_none os (k+1) _ fun i hi=>by have:=h (i+1) (by simpa using hi);rwa [← Nat.add_assoc,Nat.add_right_comm] at this
theorem curX_last {L:Nat→Bool}:∀ (os:List (List Res))(k:Nat)(acc:List Res)(j:Nat)(o:List Res),os[j]?=some o→L (k+j)=true→(∀ i,j<i→i<os.length→L (k+i)=false)→curX os k L acc=o
 | [],_,_,j,o,h,_,_=>by simp at h
 | o0::os,k,acc,j,o,h,hL,hno=>by
  simp only[curX]
  cases j with
  | zero =>
   simp at h;subst h;simp only[Nat.add_zero] at hL;rw[curX_none os (k+1) _ fun i hi=>by have:=hno (i+1) (by omega) (by simpa using hi);rwa [← Nat.add_assoc,Nat.add_right_comm] at this];simp[hL]
  | succ j =>
   simp at h;exact curX_last os (k+1) _ j o h (by rwa [← Nat.add_assoc,Nat.add_right_comm] at hL) fun i hji hi=>by
    have:=hno (i+1) (by omega) (by simpa using hi);rwa [← Nat.add_assoc,Nat.add_right_comm] at this
theorem curX_shift (os:List (List Res))(L:Nat→Bool)(acc:List Res):∀ k,curX os (k+1) L acc=curX os k (fun i=>L (i+1)) acc:=by
 induction os generalizing acc with
 | nil=>intro k;rfl
 | cons o os ih=>intro k;simp only[curX];exact ih _ (k+1)
theorem curX_eq {own:List Res}(L:Nat→Bool):∀ (os:List (List Res))(k:Nat)(acc:List Res),EqX M own acc→(∀ (i:Nat) o,os[i]?=some o→EqX M own o)→EqX M own (curX os k L acc)
 | [],k,acc,h,_=>h
 | o::os,k,acc,h,ho=>by
  simp only[curX];refine curX_eq L os (k+1) _ ?_ fun i o' hi=>ho (i+1) o' (by simpa using hi)
  split
  ·exact ho 0 o rfl
  ·exact h
theorem curF_shift (gs:List GOp)(L:Nat→Bool)(t:Nat):∀ (ss:List SV)(k:Nat) acc,curF gs ss (k+1) L t acc=curF gs ss k (fun i=>L (i+1)) t acc:=by
 induction gs with
 | nil=>intro ss k acc;cases ss<;>rfl
 | cons g gs ih=>intro ss k acc;cases ss with
  | nil=>rfl
  | cons s ss=>simp only[curF];exact ih ss (k+1) _
theorem TraceX.at : ∀ (gs:List GOp)(n:Nat){svs env fin:List SV}{os:List (List Res)}{own fo:List Res},TraceX P E M n gs svs os env own fin fo→svs.length=gs.length∧os.length=gs.length∧fin.length=env.length ∧
  (∀ t,t<env.length→geti fin t=curF gs svs 0 (fun _=>true) t (geti env t))∧fo=curX os 0 (fun i=>E (n+i)) own ∧
  ∀ (k:Nat) g,gs[k]?=some g→∃ envk sv o,svs[k]?=some sv∧os[k]?=some o∧envk.length=env.length∧StepX P E M (n+k) (curX os 0 (fun i=>decide (i<k)&&E (n+i)) own) g envk sv o∧EqX M own o ∧
   ∀ t,t<env.length→geti envk t=curF gs svs 0 (fun i=>decide (i<k)) t (geti env t)
 | [],n,svs,env,fin,os,own,fo,h=>by
  cases svs with
  | nil=>cases os with
   | nil=>obtain⟨rfl,rfl⟩:=h;exact⟨rfl,rfl,rfl,fun t _=>rfl,rfl,fun k g hk=>by simp at hk⟩
   | cons o os=>exact h.elim
  | cons s ss=>exact h.elim
 | g0::gs,n,svs,env,fin,os,own,fo,h=>by
  cases svs with
  | nil=>exact h.elim
  | cons s ss =>
   cases os with
   | nil=>exact h.elim
   | cons o0 os =>
   obtain⟨h1,hm,h2⟩:=h;obtain⟨i1,i0,i2,i3,i5,i4⟩:=TraceX.at gs (n+1) h2;rw[length_putE] at i2 i3 i4;have ho0:(if E n=true then o0 else own)=o0:=by
    split
    ·rfl
    ·rename_i hn;rcases h1 with ⟨h,_⟩ | ⟨_,_,h⟩
     ·exact absurd h hn
     ·exact h.symm
   have hE:∀ i,E (n+1+i)=E (n+(i+1)):=fun i=>by rw[Nat.add_assoc,Nat.add_comm 1 i]
   refine⟨by simp[i1],by simp[i0],i2,fun t ht=>?_,?_,fun k g hk=>?_⟩
   ·rw[i3 t ht,geti_putE ht];simp only[curF,Bool.true_and,beq_iff_eq];rw[curF_shift]
   ·simp only[curX];rw[curX_shift];simp only[Nat.add_zero,ho0];rw[i5];exact curX_congr os 0 _ fun i _=>by simp only[Nat.zero_add];exact hE i
   ·cases k with
    | zero =>
     simp at hk;subst hk;have e1:curX (o0::os) 0 (fun i=>decide (i<0)&&E (n+i)) own=own:=curX_none _ _ _ fun i _=>by simp
     refine⟨env,s,o0,rfl,rfl,rfl,by rw[e1];exact h1,hm,fun t ht=>?_⟩;rw[curF_none _ _ _ _ fun i g' _ _=>by simp]
    | succ k =>
     simp at hk;obtain⟨envk,sv,o,k1,k0,k2,k3,k5,k4⟩:=i4 k g hk;have e1:curX (o0::os) 0 (fun i=>decide (i<k+1)&&E (n+i)) own=curX os 0 (fun i=>decide (i<k)&&E (n+1+i)) o0:=by
      simp only[curX,Nat.add_zero,Nat.zero_lt_succ,decide_true,Bool.true_and,ho0];rw[curX_shift];exact curX_congr os 0 _ fun i _=>by simp only[Nat.zero_add,Nat.add_lt_add_iff_right];rw[hE]
     refine⟨envk,sv,o,by simpa using k1,by simpa using k0,k2,by rw[e1,← Nat.add_assoc,Nat.add_right_comm];exact k3,hm.trans k5,fun t ht=>?_⟩;rw[k4 t ht,geti_putE ht];simp only[curF];rw[curF_shift];simp
theorem chn_ok {ops:Array Oper}{gs:List GOp}{L:Nat→Bool}(hchn:chnChk ops gs=true)(hsz:gs.length=ops.size)(hd:∀ (j:Nat) oj,L j=true→ops[j]?=some oj→∀ i,edge oj i=true→L i=true) :
  ∀ (k:Nat)(g:GOp)(o:Oper),gs[k]?=some g→ops[k]?=some o→g.isEf=true→(∀ i,edge o i=true→L i=true)→∀ (i:Nat) gi,i<k→gs[i]?=some gi→gi.isEf=true→L i=true:=by
 intro k g o hg ho he hp i gi hik hgi hei;have hk:=(qC.1 hg).1;have h1:=qL.1 hchn k (by simpa using hk);simp only[hg,ho,he,Bool.not_true,Bool.false_or] at h1;have h2:=qL.1 h1 i (by simpa using hik);simp only[hgi,hei,Bool.not_true,Bool.false_or] at h2;exact reachs_ok hp hd _ [] (fun j hj=>by cases hj) i (by simpa using h2)
theorem region_eff {n0 id:Nat}{ops:Array Oper}{gs gl:List GOp}{own:List Res}{c0:Cx}{env:List SV}{a0:Act}{w0:World}{K:List SV→List Res→Prop}{Q:Exit→Act→World→Prop}(hm:P.follows .mixedOrders=true)
  (hcomp:compOps P ops ops.toList=some (gs++gl)) (hchk:regChk ops (gs++gl)=true) (hsfx:sfxOf ops=gs.length) (hchn:chnChk ops (gs++gl)=true) (hE0:EnvOk c0 env a0) (hS0:Sat c0 own w0) (hn:n0≤c0.N) (hd0:a0.defers=[])
  (h:runX P E M 0 gs env own (fun env' own'=>run P gl env' own' K))
  (hQ:∀ a' w',Nx n0 c0 own w0 K a' w'→Q .normal a' w'):(Code.region id ops true).wp P Q a0 w0:=by
 obtain⟨svs,os,fin,fo,htr,hK⟩:=runX_trace gs 0 h;obtain⟨hlen,hol,hfinl,hfin,hfo,hat⟩:=TraceX.at gs 0 htr;simp only[Nat.zero_add] at hfo hat;obtain⟨hgl0,hget0⟩:=compOps_get ops ops.toList hcomp;have hgl:gs.length+gl.length=ops.size:=by simpa using hgl0
 have hgs:∀ (i:Nat) g,gs[i]?=some g→(gs++gl)[i]?=some g:=fun i g hi=>by
  rw[qM (qC.1 hi).1];exact hi
 have hget:∀ (i:Nat) o,i<gs.length→ops.toList[i]?=some o→∃ g,gs[i]?=some g∧compGOp P ops o=some g:=fun i o hi ho=>by
  obtain⟨g,h1,h2⟩:=hget0 i o ho;rw[qM hi] at h1;exact⟨g,h1,h2⟩
 have hc0:∀ (k:Nat) o g,ops[k]?=some o→(gs++gl)[k]?=some g→(∀ e∈o.after,Region.binds .any e=true→e.on<k) ∧
   ∀ (i:Nat) oi gi t,i≠k→ops[i]?=some oi→(gs++gl)[i]?=some gi→gi.dst=some t→(t∈g.looks∨g.dst=some t)→(i<k→edge o i=true)∧(k<i→edge oi k=true):=by
  intro k o g ho hg;have hk:k<ops.size:=(qB.1 ho).1;have h1:=qL.1 hchk k (by simpa using hk);simp only[ho,hg,qJ] at h1;obtain⟨h1,h2⟩:=h1;refine⟨fun e he hb=>?_,fun i oi gi t hne hoi hgi hdi ht=>?_⟩
  ·have:=(Array.all_eq_true'.1 h1) e he;simp[hb] at this;exact this
  ·have hi:i<ops.size:=(qB.1 hoi).1;have h3:=qL.1 h2 i (by simpa using hi);have hne':(i == k)=false:=by simpa using hne
   have hcond:(g.looks.contains t||g.dst == some t)=true:=by
    rcases ht with ht | ht
    ·simp[ht]
    ·simp[ht]
   simp only[hne',Bool.false_or,hoi,hgi,hdi,hcond,if_true] at h3;refine⟨fun hik=>by simpa [hik] using h3,fun hki=>?_⟩;rw[if_neg (by omega)] at h3;exact h3
 have hc:∀ (k:Nat) o g,ops[k]?=some o→gs[k]?=some g→(∀ e∈o.after,Region.binds .any e=true→e.on<k) ∧
   ∀ (i:Nat) oi gi t,i≠k→ops[i]?=some oi→gs[i]?=some gi→gi.dst=some t→(t∈g.looks∨g.dst=some t)→(i<k→edge o i=true)∧(k<i→edge oi k=true):=fun k o g ho hg =>
  ⟨(hc0 k o g ho (hgs k g hg)).1,fun i oi gi t hne hoi hgi=>(hc0 k o g ho (hgs k g hg)).2 i oi gi t hne hoi (hgs i gi hgi)⟩
 have hbnd:∀ (k:Nat) o,ops[k]?=some o→∀ e∈o.after,Region.binds .any e=true→e.on<k:=by
  intro k o ho;have hk:k<ops.size:=(qB.1 ho).1;have hg:(gs++gl)[k]?=some ((gs++gl)[k]'(by simp;omega)):=qK _;exact(hc0 k o _ ho hg).1
 have hlast:∀ (k:Nat) o,gs.length≤k→ops[k]?=some o→∀ (L:Nat→Bool),(∀ e∈o.after,Region.binds .any e=true→L e.on=true)→(∀ (j:Nat) oj,L j=true→ops[j]?=some oj→∀ e∈oj.after,Region.binds .any e=true→L e.on=true)→∀ i,i<k→L i=true:=by
  intro k o hk ho L hp hd i hi;have hks:k<ops.size:=(qB.1 ho).1;have h1:=sfxGo_ok ops ops.size k (by show sfxOf ops≤k;omega) hks;simp only[sfxAt,ho] at h1;have h2:i∈reachs ops o (List.range k).reverse []:=by simpa using qL.1 h1 i (by simpa using hi)
  exact reachs_ok (L:=L) (fun q hq=>by
   obtain⟨e,he,hb,heq⟩:=edge_mem hq;rw[← heq];exact hp e he hb) (fun j oj hj hoj q hq=>by
   obtain⟨e,he,hb,heq⟩:=edge_mem hq;rw[← heq];exact hd j oj hj hoj e he hb) _ [] (fun _ h=>by cases h) i h2
 have hsplit:∀ (k:Nat),gs.length≤k→∀ o,ops[k]?=some o→∃ g,gl[k - gs.length]?=some g∧compGOp P ops o=some g:=fun k hk o ho=>by
  obtain⟨g,h1,h2⟩:=hget0 k o (by rw[Array.getElem?_toList];exact ho);rw[qN hk] at h1;exact⟨g,h1,h2⟩
 have tail:∀ (n:Nat)(fuel k:Nat)(listed:Array Bool)(a:Act)(w:World)(c:Cx)(env':List SV)(own':List Res),ops.size - k≤n→ops.size - k≤fuel→gs.length≤k→listed.size=ops.size→(∀ i,i<ops.size→listed.getD i false=decide (i<k)) →
   EnvOk c env' a→Sat c own' w→(∀ r,r<n0→c.θ r=c0.θ r)→n0≤c.N→Goes c0 own w0 c own' w→a.defers=[]→run P (gl.drop (k - gs.length)) env' own' K→wpAny P .any ops Q fuel listed a w:=by
  intro n
  induction n with
  | zero =>
   intro fuel k listed a w c env' own' hn1 hf hk hsz hL hE hS ht hN hg hd hr;have hall:∀ i,i<ops.size→listed.getD i false=true:=fun i hi=>by rw[hL i hi];simp;omega
   have hready:Region.ready .any ops listed=[]:=by
    cases hr:Region.ready .any ops listed with
    | nil=>rfl
    | cons i r =>
     have:i∈Region.ready .any ops listed:=by rw[hr];simp
     obtain⟨h1,o,ho,_⟩:=mem_ready.1 this;have hi:i<ops.size:=(qB.1 ho).1;have h2:=hall i hi;have hil:i<listed.size:=by omega
     simp[hil] at h1 h2;rw[h1] at h2;cases h2
   have hdr:gl.drop (k - gs.length)=[]:=List.drop_eq_nil_of_le (by omega);rw[hdr] at hr;have hfin:Q .normal a w:=hQ a w ⟨hd,c,env',own',hE,hS,ht,hN,hg,hr⟩
   cases fuel with
   | zero=>exact⟨hready,hfin⟩
   | succ fuel=>exact⟨fun _=>hfin,fun i hi=>by rw[hready] at hi;cases hi⟩
  | succ n ihn =>
   intro fuel k listed a w c env' own' hn1 hf hk hsz hL hE hS ht hN hg hd hr;by_cases hkn:ops.size≤k
   ·exact ihn fuel k listed a w c env' own' (by omega) hf hk hsz hL hE hS ht hN hg hd hr
   ·obtain⟨fuel,rfl⟩:∃ f,fuel=f+1:=⟨fuel - 1,by omega⟩;have hks:k<ops.size:=by omega
    have hkl:k<listed.size:=by omega
    have hok:ops[k]?=some ops[k]:=by simp[hks]
    obtain⟨g,hgk,hcg⟩:=hsplit k hk _ hok;have hrk:k∈Region.ready .any ops listed:=by
     refine mem_ready.2 ⟨?_,ops[k],hok,fun e he hb=>?_⟩
     ·have:=hL k hks;simp[hkl] at this ⊢;exact this
     ·have h1:=hbnd k _ hok e he hb;rw[hL _ (by omega)];simp[h1]
    refine⟨fun h=>(by rw[h] at hrk;cases hrk),fun i hi=>?_⟩;have hik:i=k:=by
     obtain⟨hun,o,ho,hpre⟩:=mem_ready.1 hi;have hi':i<ops.size:=(qB.1 ho).1;have hil:i<listed.size:=by omega
     have hunf:listed.getD i false=false:=by simp[hil] at hun;simp[hil,hun]
     rw[hL i hi'] at hunf;have h1:k≤i:=by simpa using hunf
     rcases Nat.lt_or_eq_of_le h1 with h2 | h2
     ·exfalso
      have h3:=hlast i o (by omega) ho (fun j=>listed.getD j false) hpre (fun j oj hj hoj e he hb=>by
       have hjs:j<ops.size:=(qB.1 hoj).1;have h4:j<k:=by have h5:listed.getD j false=true:=hj;rw[hL j hjs] at h5;simpa using h5
       have h6:=hbnd j oj hoj e he hb;show listed.getD e.on false=true;rw[hL _ (by omega)];simp;omega) k h2
      have h4:listed.getD k false=true:=h3;rw[hL k hks] at h4;simp at h4
     ·exact h2.symm
    subst hik;have hdr:gl.drop (i - gs.length)=g::gl.drop (i+1 - gs.length):=by
     have h1:i - gs.length<gl.length:=by omega
     rw[List.drop_eq_getElem_cons h1,show i+1 - gs.length=i - gs.length+1 by omega];congr 1;rw[qK h1] at hgk;exact Option.some.inj hgk
    rw[hdr] at hr;simp only[run] at hr;obtain⟨h1,h2,h3⟩:=guard_sound hcg hE hr;have hL':∀ j,j<ops.size→(listed.setIfInBounds i true).getD j false=decide (j<i+1):=fun j hj=>by
     have hjl:j<listed.size:=by omega
     have h4:=hL j hj;simp[hjl] at h4;by_cases hji:j=i
     ·subst hji;simp[hjl]
     ·simp[hjl,Ne.symm hji,h4];omega
    have go:∀ (a':Act)(w':World)(c':Cx)(sv:SV)(u:Value)(own'':List Res)(env'':List SV),a'=a.put g.dst u→EnvOk c env'' a→Rel c' sv u→Sat c' own'' w'→c.le c'→Goes c own' w c' own'' w'→run P (gl.drop (i+1 - gs.length)) (putE env'' g.dst sv) own'' K→wpAny P .any ops Q fuel (listed.setIfInBounds i true) a' w':=by
     intro a' w' c' sv u own'' env'' ha hE'' hr' hS' hle' hg' hrun;subst ha;exact ihn fuel (i+1) _ _ w' c' _ own'' (by omega) (by omega) (by omega) (by simp[hsz]) hL' ((hE''.mono hle').putE hr') hS' (fun r hr=>(hle'.t r (by omega)).trans (ht r hr)) (Nat.le_trans hN hle'.n) (hg.trans hg') (by rw[put_defers];exact hd) hrun
    unfold wpOp;rw[hok];show if Region.wanted ops[i] (yielded ops a.tmps)=true then _ else _
    rcases h3 with ⟨hw,env1,hE',hA⟩ | ⟨hw,env1,hE',hB⟩
    ·rw[if_pos hw];refine .inl (Oper.wp_mono (fun a' w' hfin=>?_) (opN_sound h1 hE' hS hA));obtain⟨c',sv,own'',u,ha,k1,k2,k3,k4,k5⟩:=hfin;exact go a' w' c' sv u own'' env1 (by rw[ha,h2]) hE' k1 k2 k3 k4 k5
    ·rw[if_neg (by rw[hw];simp)];exact go _ w c (.tup []) undef own' env1 (by rw[h2]) hE' (.tup rfl (fun i s u hs=>by simp at hs)) hS (.refl c) (.refl c own' w) hB
 have hgsz:(gs++gl).length=ops.size:=by simp;omega
 have hEf:∀ (i:Nat) g,gs[i]?=some g→E i=true→g.isEf=true:=fun i g hg he=>by
  obtain⟨_,_,_,_,_,_,hst,_⟩:=hat i g hg;rcases hst with ⟨_,h,_⟩ | ⟨h,_⟩
  ·exact h
  ·rw[he] at h;cases h
 have hEqL:∀ L:Nat→Bool,EqX M own (curX os 0 L own):=fun L=>curX_eq L os 0 own (.refl M own) fun i o hi=>by
  have hig:i<gs.length:=by rw[← hol];exact(qC.1 hi).1
  obtain⟨_,_,o',_,h2,_,_,h3,_⟩:=hat i gs[i] (by simp[hig]);rw[hi] at h2;cases h2;exact h3
 refine wp_region_any hm ?_;have main:∀ (fuel:Nat)(listed:Array Bool)(a:Act)(w:World)(c:Cx),listed.size=ops.size→(listed.toList.take gs.length).countP (! ·)+gl.length≤fuel→(∀ i,gs.length≤i→listed.getD i false=false) →
   (∀ (i:Nat) o,listed.getD i false=true→ops[i]?=some o→∀ e∈o.after,Region.binds .any e=true→listed.getD e.on false=true) →
   Sat c (curX os 0 (fun i=>listed.getD i false&&E i) own) w→c0.le c→Goes c0 own w0 c (curX os 0 (fun i=>listed.getD i false&&E i) own) w→a.defers=[]→a.tmps.size=env.length→(∀ (t:Nat) u,a.tmps[t]?=some u→Rel c (curF gs svs 0 (fun i=>listed.getD i false) t (geti env t)) u) →
   wpAny P .any ops Q fuel listed a w:=by
  have fst:∀ (fuel:Nat)(listed:Array Bool)(a:Act)(w:World)(c:Cx),listed.size=ops.size→gl.length≤fuel→(∀ i,gs.length≤i→listed.getD i false=false)→(∀ i,i<gs.length→listed.getD i false=true)→Sat c (curX os 0 (fun i=>listed.getD i false&&E i) own) w→c0.le c→Goes c0 own w0 c (curX os 0 (fun i=>listed.getD i false&&E i) own) w→a.defers=[]→a.tmps.size=env.length →
    (∀ (t:Nat) u,a.tmps[t]?=some u→Rel c (curF gs svs 0 (fun i=>listed.getD i false) t (geti env t)) u)→wpAny P .any ops Q fuel listed a w:=by
   intro fuel listed a w c hsz hfu hno hall hS hle hg hd hts hrel;have hLi:∀ i,i<ops.size→listed.getD i false=decide (i<gs.length):=fun i hi=>by
    by_cases h:i<gs.length
    ·rw[hall i h];simp[h]
    ·rw[hno i (by omega)];simp[h]
   have hown:curX os 0 (fun i=>listed.getD i false&&E i) own=fo:=by
    rw[hfo];exact curX_congr os 0 own fun i hi=>by rw[Nat.zero_add];simp only[hall i (by omega),Bool.true_and]
   rw[hown] at hS hg;have hEf:EnvOk c fin a:=⟨by rw[hts,hfinl],fun t s u hs hu=>by
    have ht:t<env.length:=by rw[← hts];exact(qB.1 hu).1
    have e1:geti fin t=s:=by rw[geti_eq,hs];rfl
    rw[← e1,hfin t ht];have:=hrel t u hu
    rwa [curF_congr (L':=fun _=>true) gs svs 0 _ (fun i g hi _=>by
     rw[Nat.zero_add];exact hall _ (qC.1 hi).1)] at this⟩
   exact tail (ops.size - gs.length) fuel gs.length listed a w c fin fo (qQ _) (by omega) (qQ _) hsz hLi hEf hS (fun r hr=>hle.t r (by omega)) (Nat.le_trans hn hle.n) hg hd (by rw[Nat.sub_self];exact hK)
  intro fuel
  induction fuel with
  | zero =>
   intro listed a w c hsz hcnt hno hdown hS hle hg hd hts hrel;refine fst 0 listed a w c hsz (by omega) hno (fun i hi=>?_) hS hle hg hd hts hrel;have hil:i<listed.size:=by omega
   by_cases hl:listed[i]=true
   ·simp[hil,hl]
   ·exfalso
    have hf:listed[i]=false:=by simpa using hl
    have:=count_set (listed.toList.take gs.length) i (by rw[List.getElem?_take,if_pos hi];simp[hil,hf]);omega
  | succ fuel ih =>
   intro listed a w c hsz hcnt hno hdown hS hle hg hd hts hrel;by_cases hall:∀ i,i<gs.length→listed.getD i false=true
   ·exact fst (fuel+1) listed a w c hsz (by omega) hno hall hS hle hg hd hts hrel
   have hpfx:∀ i,i∈Region.ready .any ops listed→i<gs.length:=fun i hi=>by
    obtain⟨hun,o,ho,hpre⟩:=mem_ready.1 hi;refine Classical.byContradiction fun hge=>hall fun j hj=>?_
    exact hlast i o (by omega) ho (fun j=>listed.getD j false) hpre (fun j oj hj hoj=>hdown j oj hj hoj) j (by omega)
   refine⟨fun hr=>?_,fun i hi=>?_⟩
   ·exfalso
    refine hall fun i=>?_
    induction i using Nat.strongRecOn with
    | _ i ih =>
     intro hi;have his:i<ops.size:=by omega
     have ho:ops[i]?=some ops[i]:=by simp[his]
     by_cases hl:listed.getD i false=true
     ·exact hl
     ·exfalso
      have hm2:i∈Region.ready .any ops listed:=by
       refine mem_ready.2 ⟨?_,ops[i],ho,fun e he hb=>?_⟩
       ·have hil:i<listed.size:=by omega
        simp[hil] at hl ⊢;exact hl
       ·have h1:=hbnd i _ ho e he hb;exact ih e.on h1 (by omega)
      rw[hr] at hm2;cases hm2
   have hig:=hpfx i hi;obtain⟨hun,o,ho,hpre⟩:=mem_ready.1 hi;have hi':i<ops.size:=(qB.1 ho).1;have hil:i<listed.size:=by omega
   have hunl:listed[i]?=some false:=by simp[hil] at hun;simp[hil,hun]
   have hunf:listed.getD i false=false:=by simp[hil] at hun;simp[hil,hun]
   obtain⟨g,hgi,hcg⟩:=hget i o hig (by simpa using ho);obtain⟨envk,sv,o1,hsv,hos,hkl,hstep,heq,hek⟩:=hat i g hgi;obtain⟨_,hord⟩:=hc i o g ho hgi;have hlook:∀ t,t∈g.looks∨g.dst=some t→∀ j gj,gs[j]?=some gj→gj.dst=some t→listed.getD j false=decide (j<i):=by
    intro t ht j gj hj hdj;by_cases hji:j=i
    ·subst hji;rw[hunf];simp
    ·have hjs:j<ops.size:=by have:=(qC.1 hj).1;omega
     have hoj:ops[j]?=some ops[j]:=by simp[hjs]
     obtain⟨h1,h2⟩:=hord j ops[j] gj t hji hoj hj hdj ht;rcases Nat.lt_or_gt_of_ne hji with hlt | hgt
     ·obtain⟨e,he,hb,heq⟩:=edge_mem (h1 hlt);have:=hpre e he hb;rw[heq] at this;rw[this];simp[hlt]
     ·by_cases hl:listed.getD j false=true
      ·exfalso
       obtain⟨e,he,hb,heq⟩:=edge_mem (h2 hgt);have:=hdown j ops[j] hl hoj e he hb;rw[heq,hunf] at this;cases this
      ·have:listed.getD j false=false:=by simpa using hl
       rw[this];simp;omega
   have hslot:∀ t u,t∈g.looks→a.tmps[t]?=some u→Rel c (geti envk t) u:=by
    intro t u ht hu;have htl:t<env.length:=by rw[← hts];exact(qB.1 hu).1
    rw[hek t htl];have:=hrel t u hu
    rwa [curF_congr (L':=fun j=>decide (j<i)) gs svs 0 _ (fun j gj hj hdj=>by rw[Nat.zero_add];exact hlook t (.inl ht) j gj hj hdj)] at this
   let envR:=(List.range env.length).map fun t=>if t∈g.looks then geti envk t else .top
   have hRlen:envR.length=env.length:=by simp[envR]
   have hRget:∀ t,t∈g.looks→geti envR t=geti envk t:=fun t ht=>by
    rw[geti_eq,geti_eq];by_cases htl:t<env.length
    ·have:envR[t]?=some (geti envk t):=by simp[envR,htl,ht]
     rw[this,geti_eq];rfl
    ·have h1:envR[t]?=none:=by rw[List.getElem?_eq_none_iff];omega
     have h2:envk[t]?=none:=by rw[List.getElem?_eq_none_iff];omega
     rw[h1,h2]
   have hER:EnvOk c envR a:=⟨by rw[hts,hRlen],fun t s u hs hu=>by
    have htl:t<env.length:=by rw[← hts];exact(qB.1 hu).1
    simp only[envR,qI,List.getElem?_range htl,qS,qZ] at hs;subst hs;split
    ·rename_i ht;exact hslot t u ht hu
    ·exact .top u⟩
   have hagree:∀ (ow:List Res),∀ x∈g.op.ops,evn ow envk x=evn ow envR x:=fun ow x hx=>by
    cases x with
    | tmp t =>
     have:t∈g.looks:=by simp only[GOp.looks,qT];exact .inl (mem_tmpsOf.2 hx)
     simp only[evn,ev,hRget t this]
    | _=>rfl
   have hguard:∀ {A B:Prop},GuardN g.guard envk (fun _=>A) (fun _=>B)→GuardN g.guard envR (fun _=>A) (fun _=>B):=fun {A B} hst=>by
    unfold GuardN at hst ⊢;split
    ·rename_i hgn;simp only[hgn] at hst;exact hst
    ·rename_i s want hgs;simp only[hgs] at hst;have hs:s∈g.looks:=by simp only[GOp.looks,qT,hgs];exact .inr (by simp)
     rw[hRget s hs];exact hst
   have hcount:((listed.setIfInBounds i true).toList.take gs.length).countP (! ·)+gl.length≤fuel:=by
    have:=count_set (listed.toList.take gs.length) i (by rw[List.getElem?_take,if_pos hig];simpa using hunl);rw[Array.toList_setIfInBounds,List.take_set];omega
   have hLset:∀ j,(listed.setIfInBounds i true).getD j false=if j=i then true else listed.getD j false:=fun j=>by
    by_cases hji:j=i
    ·subst hji;simp[hil]
    ·by_cases hjl:j<listed.size
     ·simp[hjl,hji,Ne.symm hji]
     ·simp[hjl,hji]
   have hdown':∀ (j:Nat) o',(listed.setIfInBounds i true).getD j false=true→ops[j]?=some o'→∀ e∈o'.after,Region.binds .any e=true→(listed.setIfInBounds i true).getD e.on false=true:=by
    intro j o' hj hoj e he hb;rw[hLset] at hj ⊢;split
    ·rfl
    ·split at hj
     ·rename_i hji;subst hji;rw[ho] at hoj;cases hoj;exact hpre e he hb
     ·exact hdown j o' hj hoj e he hb
   have hnext:∀ (a':Act)(w':World)(c':Cx)(u:Value),a'=a.put g.dst u→Rel c' sv u→Sat c' (curX os 0 (fun j=>(listed.setIfInBounds i true).getD j false&&E j) own) w'→c.le c'→Goes c (curX os 0 (fun j=>listed.getD j false&&E j) own) w c' (curX os 0 (fun j=>(listed.setIfInBounds i true).getD j false&&E j) own) w'→wpAny P .any ops Q fuel (listed.setIfInBounds i true) a' w':=by
    intro a' w' c' u ha hr hS' hle' hg';subst ha;refine ih _ _ w' c' (by simp[hsz]) hcount (fun j hj=>by rw[hLset,if_neg (by omega)];exact hno j hj) hdown' hS' (hle.trans hle') (hg.trans hg') (by rw[put_defers];exact hd) (by cases g.dst<;>simp[Act.put,hts]) ?_;intro t v hv;have hfun:(fun j=>(listed.setIfInBounds i true).getD j false)=fun j=>if j=i then true else listed.getD j false:=funext hLset
    rw[hfun];by_cases hdt:g.dst=some t
    ·
     have hvu:v=u:=by
      rw[hdt] at hv;simp only[Act.put,Array.getElem?_setIfInBounds,if_true] at hv;split at hv
      ·cases hv;rfl
      ·cases hv
     subst hvu;rw[curF_last gs svs 0 _ i g sv hgi hsv hdt (by simp) (fun j gj hij hj hdj=>by
      rw[Nat.zero_add,if_neg (by omega),hlook t (.inr hdt) j gj hj hdj];simp;omega)]
     exact hr
    ·have hv':a.tmps[t]?=some v:=by
      cases hgd':g.dst with
      | none=>rw[hgd'] at hv;exact hv
      | some d =>
       rw[hgd'] at hv hdt;simp only[Act.put,Array.getElem?_setIfInBounds] at hv
       rwa [if_neg (fun e=>hdt (by rw[e]))] at hv
     rw[curF_congr (L':=fun j=>listed.getD j false) gs svs 0 _ (fun j gj hj hdj=>by
      rw[Nat.zero_add,if_neg (fun e=>by subst e;rw[hgi] at hj;cases hj;exact hdt hdj)])]
     exact(hrel t v hv').mono hle'
   unfold wpOp;rw[ho];show if Region.wanted o (yielded ops a.tmps)=true then _ else _
   rcases hstep with ⟨hEi,hef,hst⟩ | ⟨hEi,hst,ho1⟩
   ·
    have hdn:∀ (j:Nat) oj,listed.getD j false=true→ops[j]?=some oj→∀ q,edge oj q=true→listed.getD q false=true:=fun j oj hj hoj q hq=>by
     obtain⟨e,he,hb,heq⟩:=edge_mem hq;rw[← heq];exact hdown j oj hj hoj e he hb
    have hearly:∀ j,j<i→E j=true→listed.getD j false=true:=fun j hji hEj=>by
     have hjg:gs[j]?=some gs[j]:=by simp[show j<gs.length by omega]
     exact chn_ok (L:=fun j=>listed.getD j false) hchn hgsz hdn i g o (hgs i g hgi) ho hef (fun q hq=>by
      obtain⟨e,he,hb,heq⟩:=edge_mem hq;rw[← heq];exact hpre e he hb) j gs[j] hji (hgs j _ hjg) (hEf j _ hjg hEj)
    have hlate:∀ j,i<j→j<gs.length→E j=true→listed.getD j false=false:=fun j hij hjl hEj=>by
     cases hlj:listed.getD j false with
     | false=>rfl
     | true =>
      have hjg:gs[j]?=some gs[j]:=by simp[hjl]
      have hoj:ops[j]?=some ops[j]:=by simp[show j<ops.size by omega]
      have:=chn_ok (L:=fun j=>listed.getD j false) hchn hgsz hdn j gs[j] ops[j] (hgs j _ hjg) hoj (hEf j _ hjg hEj) (fun q hq=>hdn j _ hlj hoj q hq) i g hij (hgs i g hgi) hef;rw[hunf] at this;cases this
    have hcur:curX os 0 (fun j=>listed.getD j false&&E j) own=curX os 0 (fun j=>decide (j<i)&&E j) own:=curX_congr os 0 own fun j hj=>by
     rw[Nat.zero_add]
     cases hEj:E j with
     | false=>simp
     | true =>
      rcases Nat.lt_trichotomy j i with h1 | h1 | h1
      ·rw[hearly j h1 hEj];simp[h1]
      ·subst h1;rw[hunf];simp
      ·rw[hlate j h1 (by omega) hEj];simp;omega
    have hcur':curX os 0 (fun j=>(listed.setIfInBounds i true).getD j false&&E j) own=o1:=curX_last os 0 own i o1 hos (by rw[Nat.zero_add,hLset];simp[hEi]) fun j hij hj=>by
     rw[Nat.zero_add,hLset,if_neg (by omega)]
     cases hEj:E j with
     | false=>simp
     | true=>rw[hlate j hij (by omega) hEj];rfl
    rw[hcur'] at hnext;rw[hcur] at hnext hS;obtain⟨hco,hdst,hcase⟩:=guard_sound hcg hER (hguard hst);rcases hcase with ⟨hw,_,_,hA⟩ | ⟨hw,_,_,hB⟩
    ·rw[if_pos hw];have hA':opN P g.op envR (curX os 0 (fun j=>decide (j<i)&&E j) own) (fun s o'=>s=sv∧o'=o1):=by
      exact(effN_agree (hagree _) hA).op
     refine .inl (Oper.wp_mono (fun a' w' hfin=>?_) (opN_sound hco hER hS hA'));obtain⟨c',sv',own',u,ha,k1,k2,k3,k4,rfl,rfl⟩:=hfin;exact hnext a' w' c' u (by rw[← hdst];exact ha) k1 k2 k3 k4
    ·rw[if_neg (by rw[hw];simp)];obtain⟨h1,h2⟩:=hB;subst h1;rw[h2] at hnext;exact hnext _ w c undef (by rw[hdst]) (.tup rfl (fun i s u hs=>by simp at hs)) hS (.refl c) (.refl c _ w)
   ·
    have hcur:curX os 0 (fun j=>(listed.setIfInBounds i true).getD j false&&E j) own=curX os 0 (fun j=>listed.getD j false&&E j) own:=curX_congr os 0 own fun j hj=>by
     rw[Nat.zero_add,hLset];split
     ·rename_i e;subst e;rw[hEi];simp
     ·rfl
    rw[hcur] at hnext;obtain⟨hco,hdst,hcase⟩:=guard_sound hcg hER (hguard hst);rcases hcase with ⟨hw,_,_,hA⟩ | ⟨hw,_,_,hB⟩
    ·rw[if_pos hw];have hgr:∀ r,getr (maskX M (curX os 0 (fun j=>decide (j<i)&&E j) own)) r=getr (maskX M (curX os 0 (fun j=>listed.getD j false&&E j) own)) r:=fun r=>by
      rw[getr_maskX,getr_maskX,hEqL _ r,hEqL _ r]
     have hA':=fnX_to hgr (fnX_agree (hagree _) hA);refine .inl (Oper.wp_mono (fun a' w' hfin=>?_) (fn_wp hco hER (hS.maskX M) hA'));obtain⟨c',sv',own',u,ha,k1,k2,k3,k4,rfl,rfl⟩:=hfin;obtain⟨m1,m2⟩:=hS.unmaskX k2 k3 k4;exact hnext a' w' c' u (by rw[← hdst];exact ha) k1 m1 k3 m2
    ·rw[if_neg (by rw[hw];simp)];subst hB;exact hnext _ w c undef (by rw[hdst]) (.tup rfl (fun i s u hs=>by simp at hs)) hS (.refl c) (.refl c _ w)
 have hrep:∀ j,(Array.replicate ops.size false).getD j false=false:=fun j=>by
  rw[Array.getD_eq_getD_getElem?,Array.getElem?_replicate];split<;>rfl
 have hnone:curX os 0 (fun j=>(Array.replicate ops.size false).getD j false&&E j) own=own:=curX_none os 0 own fun j _=>by rw[hrep];rfl
 refine main ops.size (Array.replicate ops.size false) a0 { w0 with drawn:=w0.drawn+1 } c0 (by simp) ?_ (fun i _=>hrep i) ?_ (by rw[hnone];exact hS0.drew rfl) (.refl c0) (by rw[hnone];exact .drew rfl rfl rfl rfl) hd0 hE0.size ?_
 ·simp[Array.toList_replicate,List.take_replicate,List.countP_replicate];omega
 ·intro i o hl _;rw[hrep] at hl;cases hl
 ·intro t u hu;have htl:t<env.length:=by rw[← hE0.size];exact(qB.1 hu).1
  rw[curF_none _ _ _ _ (fun i g _ _=>hrep _)];exact hE0.rel t _ u (by rw[geti_eq];simp[htl]) hu
end
end Go.SX
