/- Parts of the proof. -/
import Derived.Test.YtlpempbeenpilaaGreatDoorZSxMe
set_option linter.unusedSimpArgs false
set_option linter.unusedVariables false
set_option linter.unusedSectionVars false
namespace Go.SX
open Go Go.RowKit
variable [Tabs]
def GOp.isSt (g:GOp):Bool:=match g.op with | .store ..=>true | _=>false
def mkM (M:Nat→Bool)(r:Nat)(x:Res):Res:=match M r,x with | true,.cells ..=>.gone | _,x=>x
def maskM (M:Nat→Bool)(own:List Res):List Res:=own.mapIdx fun r x=>mkM M r x
theorem get_maskM (M:Nat→Bool)(own:List Res)(r:Nat):(maskM M own)[r]?=own[r]?.map (mkM M r):=by
 rw[maskM,List.getElem?_mapIdx]
theorem getr_maskM (M:Nat→Bool)(own:List Res)(r:Nat):getr (maskM M own) r=mkM M r (getr own r):=by
 rw[getr_eq,getr_eq,get_maskM]
 cases own[r]? with
 | none=>show Res.gone=mkM M r .gone;unfold mkM;split<;>simp_all
 | some x=>rfl
def hysChk (ops:Array Oper)(gs:List GOp):Bool :=
 (List.range gs.length).all fun k =>
  match gs[k]?,ops[k]? with
  | some g,some o=>!g.isCall&&(!g.isSt||(g.guard.isNone&&((List.range k).all fun i=>match gs[i]? with | some gi=>!gi.isSt||(edge o i||(List.range k).any fun j=>Nat.blt i j&&(match gs[j]? with | some gj=>gj.isSt | none=>false)) | none=>false)))
  | _,_=>false
def runS (P:Program)(M:Nat→Bool):List GOp→List SV→List Res→(List SV→List Res→Prop)→Prop
 | [],env,own,K=>K env own
 | g::l,env,own,K =>
  match g.op with
  | .store sz x v=>g.guard=none∧(match evn own env x with
   | .ptr r k=>M r=true∧StoreN own sz (.ptr r k) (evn own env v) (fun own'=>runS P M l (putE env g.dst (.tup [])) own' K)
   | _=>False)
  | _=>GuardN g.guard env (fun env=>fnN P g.op env (maskM M own) (fun sv=>runS P M l (putE env g.dst sv) own K)) (fun env=>runS P M l (putE env g.dst (.tup [])) own K)
section
variable {P:Program}{M:Nat→Bool}
def StepS (P:Program)(M:Nat→Bool)(own:List Res)(g:GOp)(env:List SV)(sv:SV)(o:List Res):Prop :=
 (g.isSt=true∧opN P g.op env own (fun s o'=>s=sv∧o'=o))∨(g.isSt=false∧StepY P (maskM M own) g env sv∧o=own)
def TraceS (P:Program)(M:Nat→Bool):List GOp→List SV→List (List Res)→List SV→List Res→List SV→List Res→Prop
 | [],[],[],env,own,fin,fo=>fin=env∧fo=own
 | g::gs,sv::svs,o::os,env,own,fin,fo=>StepS P M own g env sv o∧(∀ r,mkM M r (getr o r)=mkM M r (getr own r))∧TraceS P M gs svs os (putE env g.dst sv) o fin fo
 | _,_,_,_,_,_,_=>False
theorem st_one {sz r k:Nat}{v:SV}{own:List Res}{K:List Res→Prop}(hM:M r=true)(h:StoreN own sz (.ptr r k) v K):∃ o,StoreN own sz (.ptr r k) v (fun o'=>o'=o)∧K o∧∀ q,mkM M q (getr o q)=mkM M q (getr own q):=by
 unfold StoreN at h ⊢;simp only at h ⊢;split at h
 ·rename_i cs ty hg;obtain⟨h1,h2,h3,h4,h5⟩:=h;refine⟨_,⟨h1,h2,h3,h4,rfl⟩,h5,fun q=>?_⟩;rw[setr_eq,getr_eq,getr_eq,List.getElem?_set];split
  ·rename_i e;subst e;rw[getr_eq] at hg;split
   ·rw[hg];simp[mkM,hM]
   ·rename_i hlt;rw[qX (by omega)]
  ·rfl
 ·exact h.elim
theorem runS_trace : ∀ (gs:List GOp){env:List SV}{own:List Res}{K:List SV→List Res→Prop},runS P M gs env own K→∃ svs os fin fo,TraceS P M gs svs os env own fin fo∧K fin fo
 | [],env,own,K,h=>⟨[],[],env,own,⟨rfl,rfl⟩,h⟩
 | g::gs,env,own,K,h=>by
  unfold runS at h;split at h
  ·rename_i sz x v hop;obtain⟨_,h⟩:=h;split at h
   ·rename_i r k hx;obtain⟨hM,h⟩:=h;obtain⟨o,h1,h2,h3⟩:=st_one hM h;obtain⟨svs,os,fin,fo,h4,h5⟩:=runS_trace gs h2;refine⟨.tup []::svs,o::os,fin,fo,⟨.inl ⟨by simp[GOp.isSt,hop],?_⟩,h3,h4⟩,h5⟩;rw[hop];simp only[opN,hx,frzT]
    simpa using h1
   ·exact h.elim
  ·rename_i hno;obtain⟨sv,h1,h2⟩:=runF_step (own:=maskM M own) (R:=fun env sv=>runS P M gs (putE env g.dst sv) own K) h;obtain⟨svs,os,fin,fo,h3,h4⟩:=runS_trace gs h2;refine⟨sv::svs,own::os,fin,fo,⟨.inr ⟨?_,h1,rfl⟩,fun _=>rfl,h3⟩,h4⟩;unfold GOp.isSt;split
   ·rename_i sz x v hop;exact absurd hop (hno sz x v)
   ·rfl
def curS : List GOp→List (List Res)→Nat→(Nat→Bool)→List Res→List Res
 | g::gs,o::os,k,L,acc=>curS gs os (k+1) L (if L k&&g.isSt then o else acc)
 | _,_,_,_,acc=>acc
theorem curS_congr {L L':Nat→Bool}:∀ (gs:List GOp)(os:List (List Res))(k:Nat)(acc:List Res),(∀ (i:Nat) g,gs[i]?=some g→g.isSt=true→L (k+i)=L' (k+i))→curS gs os k L acc=curS gs os k L' acc
 | [],os,k,acc,_=>by cases os<;>rfl
 | g::gs,[],k,acc,_=>rfl
 | g::gs,o::os,k,acc,h=>by
  simp only[curS];have h0:=h 0 g rfl;simp only[Nat.add_zero] at h0;have:(if L k&&g.isSt then o else acc)=(if L' k&&g.isSt then o else acc):=by
   by_cases hd:g.isSt=true
   ·rw[h0 hd]
   ·simp[hd]
  rw[this];exact curS_congr gs os (k+1) _ fun i g' hi hd=>by have:=h (i+1) g' (by simpa using hi) hd;rwa [← Nat.add_assoc,Nat.add_right_comm] at this
theorem curS_none {L:Nat→Bool}:∀ (gs:List GOp)(os:List (List Res))(k:Nat)(acc:List Res),(∀ (i:Nat) g,gs[i]?=some g→g.isSt=true→L (k+i)=false)→curS gs os k L acc=acc
 | [],os,k,acc,_=>by cases os<;>rfl
 | g::gs,[],k,acc,_=>rfl
 | g::gs,o::os,k,acc,h=>by
  simp only[curS];have h0:=h 0 g rfl;simp only[Nat.add_zero] at h0;have:(if L k&&g.isSt then o else acc)=acc:=by
   by_cases hd:g.isSt=true
   ·simp[h0 hd]
   ·simp[hd]
  rw[this];exact curS_none gs os (k+1) _ fun i g' hi hd=>by have:=h (i+1) g' (by simpa using hi) hd;rwa [← Nat.add_assoc,Nat.add_right_comm] at this
theorem curS_last {L:Nat→Bool}:∀ (gs:List GOp)(os:List (List Res))(k:Nat)(acc:List Res)(j:Nat)(g:GOp)(o:List Res),gs[j]?=some g→os[j]?=some o→g.isSt=true→L (k+j)=true →
  (∀ (i:Nat) g',j<i→gs[i]?=some g'→g'.isSt=true→L (k+i)=false)→curS gs os k L acc=o
 | [],_,_,_,j,g,o,h,_,_,_,_=>by simp at h
 | _::_,[],_,_,j,g,o,_,h,_,_,_=>by simp at h
 | g0::gs,o0::os,k,acc,j,g,o,h1,h2,hd,hL,hno=>by
  simp only[curS]
  cases j with
  | zero =>
   simp at h1 h2;subst h1;subst h2;simp only[Nat.add_zero] at hL;rw[curS_none gs os (k+1) _ fun i g' hi hd'=>by have:=hno (i+1) g' (by omega) (by simpa using hi) hd';rwa [← Nat.add_assoc,Nat.add_right_comm] at this];simp[hL,hd]
  | succ j =>
   simp at h1 h2;exact curS_last gs os (k+1) _ j g o h1 h2 hd (by rwa [← Nat.add_assoc,Nat.add_right_comm] at hL) fun i g' hji hi hd'=>by
    have:=hno (i+1) g' (by omega) (by simpa using hi) hd';rwa [← Nat.add_assoc,Nat.add_right_comm] at this
theorem TraceS.at : ∀ (gs:List GOp){svs env fin:List SV}{os:List (List Res)}{own fo:List Res},TraceS P M gs svs os env own fin fo→svs.length=gs.length∧os.length=gs.length∧fin.length=env.length ∧
  (∀ t,t<env.length→geti fin t=curF gs svs 0 (fun _=>true) t (geti env t))∧fo=curS gs os 0 (fun _=>true) own ∧
  ∀ (k:Nat) g,gs[k]?=some g→∃ envk sv o,svs[k]?=some sv∧os[k]?=some o∧envk.length=env.length∧StepS P M (curS gs os 0 (fun i=>decide (i<k)) own) g envk sv o∧(∀ r,mkM M r (getr (curS gs os 0 (fun i=>decide (i<k)) own) r)=mkM M r (getr own r))∧(∀ r,mkM M r (getr o r)=mkM M r (getr own r)) ∧
   ∀ t,t<env.length→geti envk t=curF gs svs 0 (fun i=>decide (i<k)) t (geti env t)
 | [],svs,env,fin,os,own,fo,h=>by
  cases svs with
  | nil=>cases os with
   | nil=>obtain⟨rfl,rfl⟩:=h;exact⟨rfl,rfl,rfl,fun t _=>rfl,rfl,fun k g hk=>by simp at hk⟩
   | cons o os=>exact h.elim
  | cons s ss=>exact h.elim
 | g0::gs,svs,env,fin,os,own,fo,h=>by
  cases svs with
  | nil=>exact h.elim
  | cons s ss =>
   cases os with
   | nil=>exact h.elim
   | cons o0 os =>
   obtain⟨h1,hm,h2⟩:=h;obtain⟨i1,i0,i2,i3,i5,i4⟩:=TraceS.at gs h2;rw[length_putE] at i2 i3 i4;have shift:∀ (L:Nat→Bool) t acc,curF gs ss 1 L t acc=curF gs ss 0 (fun i=>L (i+1)) t acc:=fun L t acc=>by
    have:∀ (gs:List GOp)(ss:List SV)(k:Nat) acc,curF gs ss (k+1) L t acc=curF gs ss k (fun i=>L (i+1)) t acc:=by
     intro gs;induction gs with
     | nil=>intro ss k acc;cases ss<;>rfl
     | cons g gs ih=>intro ss k acc;cases ss with
      | nil=>rfl
      | cons s ss=>simp only[curF];exact ih ss (k+1) _
    exact this gs ss 0 acc
   have shiftO:∀ (L:Nat→Bool) acc,curS gs os 1 L acc=curS gs os 0 (fun i=>L (i+1)) acc:=fun L acc=>by
    have:∀ (gs:List GOp)(os:List (List Res))(k:Nat) acc,curS gs os (k+1) L acc=curS gs os k (fun i=>L (i+1)) acc:=by
     intro gs;induction gs with
     | nil=>intro os k acc;cases os<;>rfl
     | cons g gs ih=>intro os k acc;cases os with
      | nil=>rfl
      | cons o os=>simp only[curS];exact ih os (k+1) _
    exact this gs os 0 acc
   have ho0:(if g0.isSt=true then o0 else own)=o0:=by
    split
    ·rfl
    ·rename_i hn;rcases h1 with ⟨h,_⟩ | ⟨_,_,h⟩
     ·exact absurd h hn
     ·exact h.symm
   refine⟨by simp[i1],by simp[i0],i2,fun t ht=>?_,?_,fun k g hk=>?_⟩
   ·rw[i3 t ht,geti_putE ht];simp only[curF,Bool.true_and,beq_iff_eq];rw[shift]
   ·simp only[curS,Bool.true_and];rw[shiftO,ho0];exact i5
   ·cases k with
    | zero =>
     simp at hk;subst hk;have e1:curS (g0::gs) (o0::os) 0 (fun i=>decide (i<0)) own=own:=curS_none _ _ _ _ fun i g _ _=>by simp
     refine⟨env,s,o0,rfl,rfl,rfl,by rw[e1];exact h1,fun r=>by rw[e1],hm,fun t ht=>?_⟩;rw[curF_none _ _ _ _ fun i g' _ _=>by simp]
    | succ k =>
     simp at hk;obtain⟨envk,sv,o,k1,k0,k2,k3,k5,k6,k4⟩:=i4 k g hk;have e1:curS (g0::gs) (o0::os) 0 (fun i=>decide (i<k+1)) own=curS gs os 0 (fun i=>decide (i<k)) o0:=by
      simp only[curS];rw[shiftO];simp only[Nat.zero_lt_succ,decide_true,Bool.true_and,ho0,Nat.add_lt_add_iff_right]
     refine⟨envk,sv,o,by simpa using k1,by simpa using k0,k2,by rw[e1];exact k3,fun r=>by rw[e1,k5 r,hm r],fun r=>(k6 r).trans (hm r),fun t ht=>?_⟩;rw[k4 t ht,geti_putE ht];simp only[curF];rw[shift];simp
theorem mkM_gone {r:Nat}{x:Res}:mkM M r x=x∨((∃ cs ty,x=.cells cs ty)∧M r=true∧mkM M r x=.gone):=by
 unfold mkM;split
 ·rename_i h;exact .inr ⟨⟨_,_,rfl⟩,h,rfl⟩
 ·exact .inl rfl
theorem mkM_live {r:Nat}{x:Res}(h:(mkM M r x).live=true):mkM M r x=x:=by
 rcases mkM_gone (M:=M) (r:=r) (x:=x) with h1 | ⟨_,_,h1⟩
 ·exact h1
 ·rw[h1] at h;cases h
theorem Sat.maskM {c:Cx}{own:List Res}{w:World}(h:Sat c own w):Sat c (maskM M own) w:=by
 have hget:∀ (r:Nat) x,(Go.SX.maskM M own)[r]?=some x→∃ y,own[r]?=some y∧x=mkM M r y:=fun r x hx=>by
  rw[get_maskM,Option.map_eq_some_iff] at hx;obtain⟨y,h1,h2⟩:=hx;exact⟨y,h1,h2.symm⟩
 refine⟨by rw[Go.SX.maskM,List.length_mapIdx];exact h.n,fun r x hx=>?_,fun r s x y b hx hy hl hl' hb hb'=>?_,fun r x b hx hl hb=>?_,h.le,h.one,h.tab⟩
 ·obtain⟨y,h1,rfl⟩:=hget r x hx;rcases mkM_gone (M:=M) (r:=r) (x:=y) with h2 | ⟨_,_,h2⟩
  ·rw[h2];exact h.res r y h1
  ·rw[h2];trivial
 ·obtain⟨x',h1,rfl⟩:=hget r x hx;obtain⟨y',h2,rfl⟩:=hget s y hy;rw[mkM_live hl] at hl;rw[mkM_live hl'] at hl';exact h.apart r s x' y' b h1 h2 hl hl' hb hb'
 ·obtain⟨x',h1,rfl⟩:=hget r x hx;rw[mkM_live hl] at hl;exact h.notF r x' b h1 hl hb
theorem Sat.unmaskM {c c':Cx}{own:List Res}{w w':World}(h:Sat c own w)(hs:Sat c' (Go.SX.maskM M own) w')(hle:c.le c')(hg:Goes c (Go.SX.maskM M own) w c' (Go.SX.maskM M own) w'):Sat c' own w'∧Goes c own w c' own w':=by
 have hlen:(Go.SX.maskM M own).length=own.length:=by rw[Go.SX.maskM,List.length_mapIdx]
 have hN:c'.N=c.N:=by rw[← hs.n,← h.n,hlen]
 have hθ:∀ (r:Nat) x,own[r]?=some x→c'.θ r=c.θ r:=fun r x hx=>hle.t r (by rw[← h.n];exact(qC.1 hx).1)
 have hm:∀ (r:Nat) x,own[r]?=some x→(Go.SX.maskM M own)[r]?=some (mkM M r x):=fun r x hx=>by rw[get_maskM,hx];rfl
 have hnot:∀ (r:Nat) x b,own[r]?=some x→x.live=true→mkM M r x=.gone→blkOf (c.θ r)=some b→¬ Own c (Go.SX.maskM M own) b:=fun r x b hx hl hgn hb ⟨s,y,hy,hly,hyb⟩=>by
  rw[get_maskM,Option.map_eq_some_iff] at hy;obtain⟨y',h1,rfl⟩:=hy;have e1:=mkM_live hly;rw[e1] at hly;have:=h.apart r s _ y' b hx h1 hl hly hb hyb;subst this;rw[hx] at h1;cases h1;rw[hgn] at e1;subst e1;cases hl
 have hOwn:∀ b,Own c (Go.SX.maskM M own) b→Own c own b:=fun b ⟨s,y,hy,hly,hyb⟩=>by
  rw[get_maskM,Option.map_eq_some_iff] at hy;obtain⟨y',h1,rfl⟩:=hy;rw[mkM_live hly] at hly;exact⟨s,y',h1,hly,hyb⟩
 have hcase:∀ (r:Nat) x,own[r]?=some x→x.live=true→mkM M r x=.gone∨(Go.SX.maskM M own)[r]?=some x:=fun r x hx hl=>by
  rcases mkM_gone (M:=M) (r:=r) (x:=x) with h2 | ⟨_,_,h2⟩
  ·exact .inr (by rw[hm r x hx,h2])
  ·exact .inl h2
 have hdead:∀ (r:Nat) x,own[r]?=some x→x.live=false→(Go.SX.maskM M own)[r]?=some x:=fun r x hx hl=>by
  rcases mkM_gone (M:=M) (r:=r) (x:=x) with h2 | ⟨⟨cs,ty,rfl⟩,_,h2⟩
  ·rw[hm r x hx,h2]
  ·cases hl
 refine⟨⟨by rw[hN];exact h.n,fun r x hx=>?_,fun r s x y b hx hy hl hl' hb hb'=>?_,fun r x b hx hl hb=>?_,hs.le,hs.one,hs.tab⟩,⟨hg.os,hg.tape,hg.output,hg.size,fun b hb hno=>hg.keep b hb fun ho=>hno (hOwn b ho),fun b hb=>?_,fun b hb=>?_,hg.f⟩⟩
 ·cases hl:x.live with
  | false=>exact hs.res r x (hdead r x hx hl)
  | true =>
   rcases hcase r x hx hl with h0 | h1
   ·rw[hθ r _ hx];exact(h.res r _ hx).keep hle fun _ b hb=>hg.keep b (h.blk_lt ⟨r,_,hx,hl,hb⟩) (hnot r x b hx hl h0 hb)
   ·exact hs.res r x h1
 ·rw[hθ r _ hx] at hb;rw[hθ s _ hy] at hb';exact h.apart r s x y b hx hy hl hl' hb hb'
 ·rw[hθ r _ hx] at hb;have h0:=h.notF r x b hx hl hb;have hlt:=h.blk_lt ⟨r,x,hx,hl,hb⟩;rcases hcase r x hx hl with hgn | h1
  ·cases hc:c'.F b with
   | none=>rfl
   | some o =>
    rcases hg.newF b (by simp[hc]) with k | k | k
    ·exact absurd h0 k
    ·omega
    ·exact absurd k (hnot r x b hx hl hgn hb)
  ·exact hs.notF r x b h1 hl (by rw[hθ r _ hx];exact hb)
 ·rcases hg.newF b hb with k | k | k
  ·exact .inl k
  ·exact .inr (.inl k)
  ·exact .inr (.inr (hOwn b k))
 ·obtain⟨r,x,hx,hl,hbk⟩:=hb;rw[hθ r _ hx] at hbk;exact .inl ⟨r,x,hx,hl,hbk⟩
set_option maxHeartbeats 1000000 in
theorem region_hys {n0 id:Nat}{ops:Array Oper}{gs:List GOp}{own:List Res}{c0:Cx}{env:List SV}{a0:Act}{w0:World}{K:List SV→List Res→Prop}{Q:Exit→Act→World→Prop}(hm:P.follows .mixedOrders=true)
  (hcomp:compOps P ops ops.toList=some gs) (hchk:regChk ops gs=true) (hhyb:hysChk ops gs=true) (hE0:EnvOk c0 env a0) (hS0:Sat c0 own w0) (hn:n0≤c0.N) (hd0:a0.defers=[]) (h:runS P M gs env own K)
  (hQ:∀ a' w',Nx n0 c0 own w0 K a' w'→Q .normal a' w'):(Code.region id ops true).wp P Q a0 w0:=by
 obtain⟨svs,os,fin,fo,htr,hK⟩:=runS_trace gs h;obtain⟨hlen,hol,hfinl,hfin,hfo,hat⟩:=TraceS.at gs htr
 let OO:(Nat→Bool)→List Res:=fun L=>curS gs os 0 L own
 have nrmk:∀ {o o':List Res},(∀ r,mkM M r (getr o r)=mkM M r (getr o' r))→∀ s,nrm o s=nrm o' s:=fun {o o'} h s=>by
  have key:∀ r,(∀ es,getr o r=.fz es↔getr o' r=.fz es)∧∀ ds,getr o r=.fzc ds↔getr o' r=.fzc ds:=fun r=>by
   have:=h r;rcases mkM_gone (M:=M) (r:=r) (x:=getr o r) with h1 | ⟨⟨cs,ty,h0⟩,_,h1⟩<;>rcases mkM_gone (M:=M) (r:=r) (x:=getr o' r) with h2 | ⟨⟨cs',ty',h0'⟩,_,h2⟩<;>rw[h1,h2] at this
   ·rw[this];exact⟨fun _=>.rfl,fun _=>.rfl⟩
   ·rw[this,h0'];simp
   ·rw[← this,h0];simp
   ·rw[h0,h0'];simp
  cases s with
  | hd r =>
   have:=(key r).1;simp only[nrm];cases h1:getr o r<;>cases h2:getr o' r<;>simp_all
  | ptr r k =>
   have:=(key r).2;simp only[nrm];cases h1:getr o r<;>cases h2:getr o' r<;>simp_all
  | _=>rfl
 have hmkM:∀ (o:List Res) r,mkM M r (getr (maskM M o) r)=mkM M r (getr o r):=fun o r=>by
  rw[getr_maskM];rcases mkM_gone (M:=M) (r:=r) (x:=getr o r) with h | ⟨_,_,h⟩
  ·rw[h];exact h
  ·rw[h];unfold mkM;split<;>simp_all
 obtain⟨hgl,hget⟩:=compOps_get ops ops.toList hcomp;have hgl:gs.length=ops.size:=by rw[hgl];simp
 have hc:∀ (k:Nat) o g,ops[k]?=some o→gs[k]?=some g→(∀ e∈o.after,Region.binds .any e=true→e.on<k) ∧
   ∀ (i:Nat) oi gi t,i≠k→ops[i]?=some oi→gs[i]?=some gi→gi.dst=some t→(t∈g.looks∨g.dst=some t)→(i<k→edge o i=true)∧(k<i→edge oi k=true):=by
  intro k o g ho hg;have hk:k<ops.size:=(qB.1 ho).1;have h1:=qL.1 hchk k (by simpa using hk);simp only[ho,hg,qJ] at h1;obtain⟨h1,h2⟩:=h1;refine⟨fun e he hb=>?_,fun i oi gi t hne hoi hgi hdi ht=>?_⟩
  ·have:=(Array.all_eq_true'.1 h1) e he;simp[hb] at this;exact this
  ·have hi:i<ops.size:=(qB.1 hoi).1;have h3:=qL.1 h2 i (by simpa using hi);have hne':(i == k)=false:=by simpa using hne
   have hcond:(g.looks.contains t||g.dst == some t)=true:=by
    rcases ht with ht | ht
    ·simp[ht]
    ·simp[ht]
   simp only[hne',Bool.false_or,hoi,hgi,hdi,hcond,if_true] at h3;refine⟨fun hik=>by simpa [hik] using h3,fun hki=>?_⟩;rw[if_neg (by omega)] at h3;exact h3
 have hOM:∀ (L:Nat→Bool) r,mkM M r (getr (OO L) r)=mkM M r (getr own r):=by
  have key:∀ (gs':List GOp)(os':List (List Res))(k:Nat)(L:Nat→Bool)(acc:List Res),(∀ (i:Nat) o,os'[i]?=some o→∀ r,mkM M r (getr o r)=mkM M r (getr own r))→(∀ r,mkM M r (getr acc r)=mkM M r (getr own r))→∀ r,mkM M r (getr (curS gs' os' k L acc) r)=mkM M r (getr own r):=by
   intro gs'
   induction gs' with
   | nil=>intro os' k L acc _ ha;cases os'<;>exact ha
   | cons g gs' ih =>
    intro os' k L acc ho ha
    cases os' with
    | nil=>exact ha
    | cons o os' =>
     simp only[curS];refine ih os' (k+1) L _ (fun i o' hi=>ho (i+1) o' (by simpa using hi)) ?_;split
     ·exact ho 0 o rfl
     ·exact ha
  intro L;refine key _ os 0 L own (fun i o hi r=>?_) (fun _=>rfl);have hlt:i<gs.length:=by rw[← hol];exact(qC.1 hi).1
  obtain⟨_,_,o',_,ho',_,_,_,h6,_⟩:=hat i _ (qK hlt);rw[hi] at ho';cases ho';exact h6 r
 have hfoM:∀ r,mkM M r (getr fo r)=mkM M r (getr own r):=fun r=>by rw[hfo];exact hOM _ r
 have hhy:∀ (k:Nat) o g,ops[k]?=some o→gs[k]?=some g→g.isCall=false∧(g.isSt=true→g.guard=none∧∀ (i:Nat) gi,i<k→gs[i]?=some gi→gi.isSt=true→edge o i=true∨∃ (j:Nat)(gj:GOp),i<j∧j<k∧gs[j]?=some gj∧gj.isSt=true):=by
  intro k o g ho hg;have hk:k<gs.length:=(qC.1 hg).1;have h1:=qL.1 hhyb k (by simpa using hk);simp only[ho,hg,qJ,Bool.not_eq_true',Bool.or_eq_true] at h1;refine⟨h1.1,fun ha=>?_⟩;rcases h1.2 with h2 | h2
  ·rw[ha] at h2;cases h2
  ·refine⟨by simpa using h2.1,fun i gi hik hgi hai=>?_⟩;have:=qL.1 h2.2 i (by simpa using hik);simp only[hgi,hai,Bool.not_true,Bool.false_or,Bool.or_eq_true] at this;rcases this with h | h
   ·exact .inl h
   ·obtain⟨j,hj,h⟩:=List.any_eq_true.1 h;rw[qJ] at h;obtain⟨h3,h4⟩:=h;have h3:=Nat.le_of_ble_eq_true h3
    cases hgj:gs[j]? with
    | none=>rw[hgj] at h4;cases h4
    | some gj=>rw[hgj] at h4;exact .inr ⟨j,gj,h3,by simpa using hj,hgj,h4⟩
 refine wp_region_any hm ?_;have main:∀ (fuel:Nat)(listed:Array Bool)(a:Act)(w:World)(c:Cx),listed.size=ops.size→listed.toList.countP (! ·)≤fuel →
   (∀ (i:Nat) o,listed.getD i false=true→ops[i]?=some o→∀ e∈o.after,Region.binds .any e=true→listed.getD e.on false=true) →
   Sat c (OO fun i=>listed.getD i false) w→c0.le c→Goes c0 own w0 c (OO fun i=>listed.getD i false) w→a.defers=[]→a.tmps.size=env.length→(∀ (t:Nat) u,a.tmps[t]?=some u→Rel c (curF gs svs 0 (fun i=>listed.getD i false) t (geti env t)) u) →
   wpAny P .any ops Q fuel listed a w:=by
  have done:∀ (listed:Array Bool)(a:Act)(w:World)(c:Cx),listed.size=ops.size→(∀ i,i<ops.size→listed.getD i false=true)→Sat c (OO fun i=>listed.getD i false) w→c0.le c→Goes c0 own w0 c (OO fun i=>listed.getD i false) w→a.defers=[]→a.tmps.size=env.length →
    (∀ (t:Nat) u,a.tmps[t]?=some u→Rel c (curF gs svs 0 (fun i=>listed.getD i false) t (geti env t)) u)→Q .normal a w:=by
   intro listed a w c hsz hall hS hle hg hd hts hrel;have hOfo:(OO fun i=>listed.getD i false)=fo:=by
    rw[hfo];refine curS_congr _ os 0 own fun i g hi _=>?_
    rw[Nat.zero_add];have hlt:=(qC.1 hi).1;exact hall i (by omega)
   rw[hOfo] at hS hg;have hallg:∀ (k:Nat) g,gs[k]?=some g→listed.getD k false=true:=fun k g hg=>hall k (by
    have:=(qC.1 hg).1;omega)
   have hE:EnvOk c fin a:=⟨by rw[hts,hfinl],fun t s u hs hu=>by
    have ht:t<env.length:=by rw[← hts];exact(qB.1 hu).1
    have e1:geti fin t=s:=by rw[geti_eq,hs];rfl
    rw[← e1,hfin t ht];have:=hrel t u hu
    rwa [curF_congr (L':=fun _=>true) gs svs 0 _ (fun i g hi _=>by
     exact hallg _ g (by rw[Nat.zero_add];exact hi))] at this⟩
   exact hQ a w ⟨hd,c,fin,fo,hE,hS,fun r hr=>hle.t r (by omega),Nat.le_trans hn hle.n,hg,hK⟩
  have lst:∀ (listed:Array Bool),listed.size=ops.size→Region.ready .any ops listed=[]→∀ i,i<ops.size→listed.getD i false=true:=by
   intro listed hsz hr i
   induction i using Nat.strongRecOn with
   | _ i ih =>
    intro hi;have ho:ops[i]?=some ops[i]:=by simp[hi]
    obtain⟨g,hg,_⟩:=hget i ops[i] (by simp[hi]);by_cases hl:listed.getD i false=true
    ·exact hl
    ·exfalso
     have hm2:i∈Region.ready .any ops listed:=by
      refine mem_ready.2 ⟨?_,ops[i],ho,fun e he hb=>?_⟩
      ·have hil:i<listed.size:=by omega
       simp[hil] at hl ⊢;exact hl
      ·have h1:=(hc i _ g ho hg).1 e he hb;exact ih e.on h1 (by omega)
     rw[hr] at hm2;cases hm2
  intro fuel
  induction fuel with
  | zero =>
   intro listed a w c hsz hcnt hdown hS hle hg hd hts hrel;have hall:∀ i,i<ops.size→listed.getD i false=true:=fun i hi=>by
    have hil:i<listed.size:=by omega
    by_cases hl:listed[i]=true
    ·simp[hil,hl]
    ·exfalso
     have hf:listed[i]=false:=by simpa using hl
     have:=count_set listed.toList i (by simp[hil,hf]);omega
   refine⟨?_,done listed a w c hsz hall hS hle hg hd hts hrel⟩
   cases hr:Region.ready .any ops listed with
   | nil=>rfl
   | cons i r =>
    have:i∈Region.ready .any ops listed:=by rw[hr];simp
    obtain⟨h1,o,ho,_⟩:=mem_ready.1 this;have hi:i<ops.size:=(qB.1 ho).1;have h2:=hall i hi;have hil:i<listed.size:=by omega
    simp[hil] at h1 h2;rw[h1] at h2;cases h2
  | succ fuel ih =>
   intro listed a w c hsz hcnt hdown hS hle hg hd hts hrel;refine⟨fun hr=>done listed a w c hsz (lst listed hsz hr) hS hle hg hd hts hrel,fun i hi=>?_⟩;obtain⟨hun,o,ho,hpre⟩:=mem_ready.1 hi;have hi':i<ops.size:=(qB.1 ho).1;have hil:i<listed.size:=by omega
   have hunl:listed[i]?=some false:=by simp[hil] at hun;simp[hil,hun]
   have hunf:listed.getD i false=false:=by simp[hil] at hun;simp[hil,hun]
   obtain⟨g,hgi,hcg⟩:=hget i o (by simpa using ho);obtain⟨envk,sv,oi,hsv,hoi,hkl,hstep,hckm,_,hek⟩:=hat i g hgi;obtain⟨_,hord⟩:=hc i o g ho hgi;have hlook:∀ t,t∈g.looks∨g.dst=some t→∀ j gj',gs[j]?=some gj'→gj'.dst=some t→listed.getD j false=decide (j<i):=by
    intro t ht j gj hj hdj;by_cases hji:j=i
    ·subst hji;rw[hunf];simp
    ·have hjs:j<ops.size:=by have:=(qC.1 hj).1;omega
     have hoj:ops[j]?=some ops[j]:=by simp[hjs]
     obtain⟨h1,h2⟩:=hord j ops[j] gj t hji hoj hj hdj ht;rcases Nat.lt_or_gt_of_ne hji with hlt | hgt
     ·obtain⟨e,he,hb,heq⟩:=edge_mem (h1 hlt);have:=hpre e he hb;rw[heq] at this;rw[this];simp[hlt]
     ·by_cases hl:listed.getD j false=true
      ·exfalso
       obtain⟨e,he,hb,heq⟩:=edge_mem (h2 hgt);have:=hdown j ops[j] hl hoj e he hb;rw[heq,hunf] at this;cases this
      ·have:listed.getD j false=false:=by simpa using hl
       rw[this];simp;omega
   have hslot:∀ t u,t∈g.looks→a.tmps[t]?=some u→Rel c (geti envk t) u:=by
    intro t u ht hu;have htl:t<env.length:=by rw[← hts];exact(qB.1 hu).1
    rw[hek t htl];have:=hrel t u hu
    rwa [curF_congr (L':=fun j=>decide (j<i)) gs svs 0 _ (fun j gj hj hdj=>by rw[Nat.zero_add];exact hlook t (.inl ht) j gj hj hdj)] at this
   let envR:=(List.range env.length).map fun t=>if t∈g.looks then geti envk t else .top
   have hRlen:envR.length=env.length:=by simp[envR]
   have hRget:∀ t,t∈g.looks→geti envR t=geti envk t:=fun t ht=>by
    rw[geti_eq,geti_eq];by_cases htl:t<env.length
    ·have:envR[t]?=some (geti envk t):=by simp[envR,htl,ht]
     rw[this,geti_eq];rfl
    ·have h1:envR[t]?=none:=by rw[List.getElem?_eq_none_iff];omega
     have h2:envk[t]?=none:=by rw[List.getElem?_eq_none_iff];omega
     rw[h1,h2]
   have hER:EnvOk c envR a:=⟨by rw[hts,hRlen],fun t s u hs hu=>by
    have htl:t<env.length:=by rw[← hts];exact(qB.1 hu).1
    simp only[envR,qI,List.getElem?_range htl,qS,qZ] at hs;subst hs;split
    ·rename_i ht;exact hslot t u ht hu
    ·exact .top u⟩
   have hagree:∀ (oo:List Res),∀ x∈g.op.ops,evn oo envk x=evn oo envR x:=fun oo x hx=>by
    cases x with
    | tmp t =>
     have:t∈g.looks:=by simp only[GOp.looks,qT];exact .inl (mem_tmpsOf.2 hx)
     simp only[evn,ev,hRget t this]
    | _=>rfl
   have hcount:(listed.setIfInBounds i true).toList.countP (! ·)≤fuel:=by
    have:=count_set listed.toList i (by simpa using hunl);rw[Array.toList_setIfInBounds];omega
   have hLset:∀ j,(listed.setIfInBounds i true).getD j false=if j=i then true else listed.getD j false:=fun j=>by
    by_cases hji:j=i
    ·subst hji;simp[hil]
    ·by_cases hjl:j<listed.size
     ·simp[hjl,hji,Ne.symm hji]
     ·simp[hjl,hji]
   have hdown':∀ (j:Nat) o',(listed.setIfInBounds i true).getD j false=true→ops[j]?=some o'→∀ e∈o'.after,Region.binds .any e=true→(listed.setIfInBounds i true).getD e.on false=true:=by
    intro j o' hj hoj e he hb;rw[hLset] at hj ⊢;split
    ·rfl
    ·split at hj
     ·rename_i hji;subst hji;rw[ho] at hoj;cases hoj;exact hpre e he hb
     ·exact hdown j o' hj hoj e he hb
   have hfun:(fun j=>(listed.setIfInBounds i true).getD j false)=fun j=>if j=i then true else listed.getD j false:=funext hLset
   have hnext:∀ (a':Act)(w':World)(c':Cx)(u:Value),a'=a.put g.dst u→Rel c' sv u∨g.dst=none→Sat c' (OO fun j=>if j=i then true else listed.getD j false) w'→c.le c'→Goes c0 own w0 c' (OO fun j=>if j=i then true else listed.getD j false) w'→wpAny P .any ops Q fuel (listed.setIfInBounds i true) a' w':=by
    intro a' w' c' u ha hr hS' hle' hg';subst ha;refine ih _ _ w' c' (by simp[hsz]) hcount hdown' (by rw[hfun];exact hS') (hle.trans hle') (by rw[hfun];exact hg') (by rw[put_defers];exact hd) (by cases g.dst<;>simp[Act.put,hts]) ?_;intro t v hv;rw[hfun];by_cases hdt:g.dst=some t
    ·
     have hvu:v=u:=by
      rw[hdt] at hv;simp only[Act.put,Array.getElem?_setIfInBounds,if_true] at hv;split at hv
      ·cases hv;rfl
      ·cases hv
     subst hvu;rw[curF_last gs svs 0 _ i g sv hgi hsv hdt (by simp) (fun j gj hij hj hdj=>by
      rw[Nat.zero_add,if_neg (by omega),hlook t (.inr hdt) j gj hj hdj];simp;omega)]
     rcases hr with hr | hr
     ·exact hr
     ·rw[hdt] at hr;cases hr
    ·have hv':a.tmps[t]?=some v:=by rwa [put_tmps hdt] at hv
     rw[curF_congr (L':=fun j=>listed.getD j false) gs svs 0 _ (fun j gj hj hdj=>by
      rw[Nat.zero_add,if_neg (fun e=>by subst e;rw[hgi] at hj;cases hj;exact hdt hdj)])]
     exact(hrel t v hv').mono hle'
   have hsame:g.isSt=false→(OO fun j=>if j=i then true else listed.getD j false)=OO fun j=>listed.getD j false:=fun hna=>by
    refine curS_congr _ os 0 own fun j gj hj ha=>?_
    rw[Nat.zero_add];by_cases hji:j=i
    ·exfalso
     subst hji;rw[hgi] at hj;cases hj;rw[hna] at ha;cases ha
    ·rw[if_neg hji]
   unfold wpOp;rw[ho];show if Region.wanted o (yielded ops a.tmps)=true then _ else _
   obtain⟨hnc,happ⟩:=hhy i o g ho hgi;rcases hstep with ⟨ha,hstep⟩ | ⟨ha,hstep,_⟩
   ·
    obtain⟨hgn,hedge⟩:=happ ha;have hbefore:∀ (j:Nat) gj,gs[j]?=some gj→gj.isSt=true→listed.getD j false=true→∀ (q:Nat) gq,q<j→gs[q]?=some gq→gq.isSt=true→listed.getD q false=true:=by
     intro j
     induction j using Nat.strongRecOn with
     | _ j ihj =>
      intro gj hgj haj hlj;have down:∀ (m q:Nat) gq,j - q≤m→q<j→gs[q]?=some gq→gq.isSt=true→listed.getD q false=true:=by
       intro m
       induction m with
       | zero=>intro q gq h1 h2;omega
       | succ m ihm =>
        intro q gq h1 h2 hgq haq;have hjs:j<ops.size:=by have:=(qC.1 hgj).1;omega
        have hoj:ops[j]?=some ops[j]:=by simp[hjs]
        obtain⟨_,happj⟩:=hhy j ops[j] gj hoj hgj;rcases (happj haj).2 q gq h2 hgq haq with h3 | ⟨p,gp,h3,h4,hgp,hap⟩
        ·obtain⟨e,he,hb,heq⟩:=edge_mem h3;have:=hdown j ops[j] hlj hoj e he hb
         rwa [heq] at this
        ·have hlp:=ihm p gp (by omega) h4 hgp hap;exact ihj p h4 gp hgp hap hlp q gq h3 hgq haq
      exact fun q gq hq=>down (j - q) q gq (qQ _) hq
    have hprel:∀ (q:Nat) gq,q<i→gs[q]?=some gq→gq.isSt=true→listed.getD q false=true:=by
     have down:∀ (m q:Nat) gq,i - q≤m→q<i→gs[q]?=some gq→gq.isSt=true→listed.getD q false=true:=by
      intro m
      induction m with
      | zero=>intro q gq h1 h2;omega
      | succ m ihm =>
       intro q gq h1 h2 hgq haq;rcases hedge q gq h2 hgq haq with h3 | ⟨p,gp,h3,h4,hgp,hap⟩
       ·obtain⟨e,he,hb,heq⟩:=edge_mem h3;have:=hpre e he hb
        rwa [heq] at this
       ·have hlp:=ihm p gp (by omega) h4 hgp hap;exact hbefore p gp hgp hap hlp q gq h3 hgq haq
     exact fun q gq hq=>down (i - q) q gq (qQ _) hq
    have hcur:(OO fun j=>listed.getD j false)=curS gs os 0 (fun j=>decide (j<i)) own:=by
     refine curS_congr _ os 0 own fun j gj hgj haj=>?_
     rw[Nat.zero_add];by_cases hji:j=i
     ·subst hji;rw[hunf];simp
     ·rcases Nat.lt_or_gt_of_ne hji with hlt | hgt
      ·have:=hprel j gj hlt hgj haj;rw[this];simp[hlt]
      ·by_cases hl:listed.getD j false=true
       ·exfalso
        have:=hbefore j gj hgj haj hl i g hgt hgi ha;rw[hunf] at this;cases this
       ·have:listed.getD j false=false:=by simpa using hl
        rw[this];simp;omega
    have hnew:(OO fun j=>if j=i then true else listed.getD j false)=oi:=by
     refine curS_last _ os 0 own i g oi hgi hoi ha (by simp) fun j gj hij hgj haj=>?_
     rw[Nat.zero_add,if_neg (by omega)];by_cases hl:listed.getD j false=true
     ·exfalso
      have:=hbefore j gj hgj haj hl i g hij hgi ha;rw[hunf] at this;cases this
     ·simpa using hl
    rw[← hcur] at hstep;have hopR:opN P g.op envR (OO fun j=>listed.getD j false) (fun s o'=>s=sv∧o'=oi):=by
     unfold GOp.isSt at ha;split at ha
     ·rename_i sz x v hop;rw[hop] at hstep ⊢;simp only[opN] at hstep ⊢;have ex:∀ oo,evn oo envk x=evn oo envR x:=fun oo=>hagree oo x (by rw[hop];simp[DOp.ops])
      have ev:∀ oo,evn oo envk v=evn oo envR v:=fun oo=>hagree oo v (by rw[hop];simp[DOp.ops])
      simp only[ex,ev] at hstep;exact hstep
     ·cases ha
    obtain⟨hco,hdst,hcase⟩:=guard_sound hcg hER (A:=fun _=>True) (B:=fun _=>False) (by unfold GuardN;rw[hgn];trivial);have hw:Region.wanted o (yielded ops a.tmps)=true:=by
     rcases hcase with ⟨hw,_⟩ | ⟨_,_,_,hB⟩
     ·exact hw
     ·exact hB.elim
    rw[if_pos hw];refine .inl (Oper.wp_mono (fun a' w' hfin=>?_) (opN_sound hco hER hS hopR));obtain⟨c',sv',own',u,ha',k1,k2,k3,k4,rfl,rfl⟩:=hfin;rw[hdst] at ha';subst ha';rw[← hnew] at k2 k4;exact hnext _ w' c' u rfl (.inl k1) k2 k3 (hg.trans k4)
   ·rw[hsame ha] at hnext;have hgd:GuardN g.guard envR (fun _=>fnN P g.op envR (maskM M (OO fun j=>listed.getD j false)) (·=sv)) (fun _=>sv=.tup []):=by
     have hmg:∀ r,getr (maskM M (curS gs os 0 (fun j=>decide (j<i)) own)) r=getr (maskM M (OO fun j=>listed.getD j false)) r:=fun r=>by rw[getr_maskM,getr_maskM,hckm r,hOM]
     unfold StepY at hstep;unfold GuardN at hstep ⊢;split
     ·rename_i hgn;simp only[hgn] at hstep;exact(fnN_agree (hagree _)).1 (fnN_g hmg hnc hstep)
     ·rename_i s want hgs;simp only[hgs] at hstep;have hs:s∈g.looks:=by simp only[GOp.looks,qT,hgs];exact .inr (by simp)
      rw[hRget s hs];split at hstep
      ·rename_i b hb;simp only[];exact⟨fun e=>(fnN_agree (hagree _)).1 (fnN_g hmg hnc (hstep.1 e)),hstep.2⟩
      ·rename_i hb;simp only[];exact hstep
      ·exact hstep.elim
    obtain⟨hco,hdst,hcase⟩:=guard_sound hcg hER hgd;rcases hcase with ⟨hw,_,_,hA⟩ | ⟨hw,_,_,hB⟩
    ·rw[if_pos hw];refine .inl (Oper.wp_mono (fun a' w' hfin=>?_) (fn_wp hco hER hS.maskM hA));obtain⟨c',sv',own',u,ha',k1,k2,k3,k4,rfl,rfl⟩:=hfin;rw[hdst] at ha';subst ha';obtain⟨m1,m2⟩:=hS.unmaskM k2 k3 k4;exact hnext _ w' c' u rfl (.inl k1) m1 k3 (hg.trans m2)
    ·rw[if_neg (by rw[hw];simp)];subst hB;rw[hdst];exact hnext _ w c undef rfl (.inl (.tup rfl (fun i s u hs=>by simp at hs))) hS (.refl c) hg
 have hrep:∀ j,(Array.replicate ops.size false).getD j false=false:=fun j=>by
  rw[Array.getD_eq_getD_getElem?,Array.getElem?_replicate];split<;>rfl
 have hO0:(OO fun j=>(Array.replicate ops.size false).getD j false)=own:=curS_none _ os 0 own fun i g _ _=>hrep _
 refine main ops.size (Array.replicate ops.size false) a0 { w0 with drawn:=w0.drawn+1 } c0 (by simp) ?_ ?_ (by rw[hO0];exact hS0.drew rfl) (.refl c0) (by rw[hO0];exact .drew rfl rfl rfl rfl) hd0 hE0.size ?_
 ·simp[Array.toList_replicate,List.countP_replicate]
 ·intro i o hl _;rw[hrep] at hl;cases hl
 ·intro t u hu;have htl:t<env.length:=by rw[← hE0.size];exact(qB.1 hu).1
  rw[curF_none _ _ _ _ (fun i g _ _=>hrep _)];exact hE0.rel t _ u (by rw[geti_eq];simp[htl]) hu
end
end Go.SX
