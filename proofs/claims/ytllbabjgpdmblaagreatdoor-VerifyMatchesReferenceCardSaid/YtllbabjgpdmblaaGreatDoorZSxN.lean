/- Parts of the proof. -/
import Derived.Test.YtllbabjgpdmblaaGreatDoorZSxMg
set_option linter.unusedSimpArgs false
set_option linter.unusedVariables false
set_option linter.unusedSectionVars false
namespace Go.SX
open Go
variable [Tabs]
inductive DC where
 |skip
 |reg (gs:List ah)
 |par (hy hl hs:Bool) (tl:Nat) (gs:List ah)
 |seq (a b:DC)
 |cond (c:Operand) (x y:DC)
 |block (id:Nat) (c:DC)
 |loop (c:DC)
 |exit (id:Nat)
 |ret
deriving Inhabited
inductive DX where
 |normal
 |exit (id:Nat)
 |ret
def vU (P:Program):Code->Option DC
 | .skip=>some .skip
 | .region _ ops draw =>
  match Af P ops ops.toList with
  |some gs=>if draw then (if P.follows .mixedOrders&&JI ops gs then some (.par (TD ops gs) (YL ops gs) (yp2 ops gs) (XF ops) gs) else none) else some (.reg gs)
  |none=>none
 | .seq a b=>(match vU P a,vU P b with|some x,some y=>some (.seq x y)|_,_=>none)
 | .cond c a b=>(match vU P a,vU P b with|some x,some y=>some (.cond c x y)|_,_=>none)
 | .block id a=>(match vU P a with|some x=>some (.block id x)|none=>none)
 | .loop a=>(match vU P a with|some x=>some (.loop x)|none=>none)
 | .exit id=>some (.exit id)
 | .ret=>some .ret
 |_=>none
def Px (c:SV)(A B:Prop):Prop :=
 match c with
 | .d (.val (.bool b))=>(b=true->A)/\(b=false->B)
 |_=>False
def jM (n0:Nat)(env:List SV)(own:List ak)(env':List SV)(own':List ak):Prop :=
 ∀ (c:Cx)(a:Act)(w:World),n0<=c.N->bI c env a->Sat c own w ->
  ∃ c',bI c' env' a/\Sat c' own' w/\(∀ r,r<n0->c'.θ r=c.θ r)/\n0<=c'.N/\Goes c own w c' own' w
def LoopN (n0:Nat)(body:List SV->List ak->(DX->List SV->List ak->Prop)->Prop)(env:List SV)(own:List ak)(K:DX->List SV->List ak->Prop):Prop :=
 ∃ (ι:Type)(S:ι->List SV)(O:ι->List ak)(φ:ι->Prop)(μ:ι->Nat),(∃ i,φ i/\jM n0 env own (S i) (O i)) /\
  ∀ i,φ i->body (S i) (O i) (fun e env' own'=>match e with
   | .normal=>∃ j,φ j/\μ j<μ i/\jM n0 env' own' (S j) (O j)
   |e=>K e env' own')
def xY (P:Program)(n0:Nat):DC->List SV->List ak->(DX->List SV->List ak->Prop)->Prop
 | .skip,env,own,K=>K .normal env own
 | .reg gs,env,own,K=>run P gs env own (fun env own=>K .normal env own)
 | .par _ _ _ _ gs,env,own,K=>(match gs.any ah.rW with
  |true=>(match uF env.length gs with
   |true=>xO P (gs.map ah.blank) env own (fun env'=>yG gs env' own gs env' own (fun env own=>K .normal env own))
   |false=>False)
  |false=>xO P gs env own (fun env=>K .normal env own))
 | .seq a b,env,own,K=>xY P n0 a env own (fun e env' own'=>match e with | .normal=>xY P n0 b env' own' K|e=>K e env' own')
 | .cond c x y,env,own,K=>Px (aA own env c) (xY P n0 x env own K) (xY P n0 y env own K)
 | .block id c,env,own,K=>xY P n0 c env own (fun e env' own'=>match e with | .exit id'=>if id'=id then K .normal env' own' else K (.exit id') env' own'|e=>K e env' own')
 | .loop c,env,own,K=>LoopN n0 (xY P n0 c) env own K
 | .exit id,env,own,K=>K (.exit id) env own
 | .ret,env,own,K=>K .ret env own
def toX : DX->Exit
 | .normal=>.normal
 | .exit id=>.exit id
 | .ret=>.ret
section
variable {P:Program}{n0:Nat}
theorem Nx.mono {c:Cx}{own:List ak}{w:World}{K K':List SV->List ak->Prop}{a':Act}{w':World}(h:Nx n0 c own w K a' w')(hK:∀ env own,K env own->K' env own):Nx n0 c own w K' a' w':=by
 obtain⟨h1,c',env',own',h2,h3,h4,h5,h6,h7⟩:=h;exact⟨h1,c',env',own',h2,h3,h4,h5,h6,hK _ _ h7⟩
theorem Nx.back {c c1:Cx}{own dK:List ak}{w w1:World}{K:List SV->List ak->Prop}{a':Act}{w':World}(ht:∀ r,r<n0->c1.θ r=c.θ r)(hg:Goes c own w c1 dK w1)(h:Nx n0 c1 dK w1 K a' w'):Nx n0 c own w K a' w':=by
 obtain⟨h1,c',env',own',h2,h3,h4,h5,h6,h7⟩:=h;exact⟨h1,c',env',own',h2,h3,fun r hr=>(h4 r hr).trans (ht r hr),h5,hg.trans h6,h7⟩
theorem exists_least (p:Nat->Prop)(h:∃ n,p n):∃ n,p n/\∀ m,p m->n<=m:=by
 obtain⟨n,hn⟩:=h
 induction n using Nat.strongRecOn with
 |_ n ih =>
  by_cases hx:∃ m,m<n/\p m
  ·obtain⟨m,h1,h2⟩:=hx;exact ih m h1 h2
  ·exact⟨n,hn,fun m hm=>by
    rcases Nat.lt_or_ge m n with h|h
    ·exact absurd ⟨m,h,hm⟩ hx
    ·exact h⟩
theorem lt1 (code:Code):∀ (dc:DC){c:Cx}{env:List SV}{own:List ak}{a:Act}{w:World}{K:DX->List SV->List ak->Prop}{Q:Exit->Act->World->Prop},vU P code=some dc->bI c env a->Sat c own w->n0<=c.N->a.defers=[] ->
  xY P n0 dc env own K->(∀ e a' w',Nx n0 c own w (K e) a' w'->Q (toX e) a' w')->code.wp P Q a w:=by
 induction code with
 |skip =>
  intro dc c env own a w K Q hc hE hS hn hd h hQ;cases hc;exact wp_skip (hQ .normal a w ⟨hd,c,env,own,hE,hS,fun _ _=>rfl,hn,.refl c own w,h⟩)
 |region id ops draw =>
  intro dc c env own a w K Q hc hE hS hn hd h hQ;unfold vU at hc;split at hc
  ·rename_i gs hgs;split at hc
   ·rename_i hdr;split at hc
    ·rename_i hcond;cases hc;simp only[qK] at hcond;subst hdr;simp only[xY] at h;split at h
     ·split at h
      ·rename_i hbc;exact is0 hcond.1 hgs hcond.2 hbc hE hS hn hd h fun a' w' hnx=>hQ .normal a' w' hnx
      ·exact h.elim
     ·exact in0 hcond.1 hgs hcond.2 hE hS hn hd h fun a' w' hnx=>hQ .normal a' w' (hnx.mono fun env' own' ⟨h1,h2⟩=>h1▸h2)
    ·cases hc
   ·rename_i hdr;cases hc;have hdr:draw=false:=by simpa using hdr
    subst hdr;refine wp_region_list (yb1 ops ops.toList gs hgs hE hS hn hd h fun a' w' hnx=>hQ .normal a' w' hnx)
  ·cases hc
 |seq x y wL ihy =>
  intro dc c env own a w K Q hc hE hS hn hd h hQ;unfold vU at hc;split at hc
  ·rename_i dx dy hx hy;cases hc;refine wp_seq (wL dx hx hE hS hn hd h fun e a' w' hnx=>?_)
   cases e with
   |normal =>
    obtain⟨h1,c',env',own',h2,h3,h4,h5,h6,h7⟩:=hnx;exact ihy dy hy h2 h3 h5 h1 h7 fun e a'' w'' EX=>hQ e a'' w'' (EX.back h4 h6)
   |exit id=>exact hQ (.exit id) a' w' hnx
   |ret=>exact hQ .ret a' w' hnx
  ·cases hc
 |cond k x y wL ihy =>
  intro dc c env own a w K Q hc hE hS hn hd h hQ;unfold vU at hc;split at hc
  ·rename_i dx dy hx hy;cases hc;simp only[xY,Px] at h;have hr:=yC hS (BU hE k);split at h
   ·rename_i b hb;unfold aA at hb;rw[hb] at hr;exact wp_cond_split hr.gB (fun hb=>wL dx hx hE hS hn hd (h.1 hb) hQ) (fun hb=>ihy dy hy hE hS hn hd (h.2 hb) hQ)
   ·exact h.elim
  ·cases hc
 |block id x wL =>
  intro dc c env own a w K Q hc hE hS hn hd h hQ;unfold vU at hc;split at hc
  ·rename_i dx hx;cases hc;refine wp_block (wL dx hx hE hS hn hd h fun e a' w' hnx=>?_)
   cases e with
   |normal=>exact hQ .normal a' w' hnx
   |exit id' =>
    show if id'=id then Q .normal a' w' else Q (.exit id') a' w'
    split
    ·rename_i e;exact hQ .normal a' w' (hnx.mono fun env own h=>by simpa [e] using h)
    ·rename_i e;exact hQ (.exit id') a' w' (hnx.mono fun env own h=>by simpa [e] using h)
   |ret=>exact hQ .ret a' w' hnx
  ·cases hc
 |loop x wL =>
  intro dc c env own a w K Q hc hE hS hn hd h hQ;unfold vU at hc;split at hc
  ·rename_i dx hx;cases hc;obtain⟨ι,S,O,φ,μ,⟨i0,MF,hle0⟩,hbody⟩:=h
   let I:Nat->Act->World->Prop:=fun m a' w'=>a'.defers=[]/\∃ i c',φ i/\μ i=m/\bI c' (S i) a'/\Sat c' (O i) w'/\(∀ r,r<n0->c'.θ r=c.θ r)/\n0<=c'.N/\Goes c own w c' (O i) w'
   obtain⟨c1,k1,k2,k3,k4,k5⟩:=hle0 c a w hn hE hS;have h0:∃ m,I m a w:=⟨μ i0,hd,i0,c1,MF,rfl,k1,k2,k3,k4,k5⟩
   classical
   refine wp_loop (fun a' w'=>∃ m,I m a' w') (fun a' w'=>if h:∃ m,I m a' w' then Classical.choose (exists_least _ h) else 0) h0 fun a' w' hI=>?_
   have hspec:=(Classical.choose_spec (exists_least _ hI)).1;obtain⟨hd',i,c',hφ,hμ,hE',hS',ht',hn',hg'⟩:=hspec;refine wL dx hx hE' hS' hn' hd' (hbody i hφ) fun e a'' w'' hnx=>?_
   cases e with
   |normal =>
    obtain⟨h1,c2,II,mY,h2,h3,h4,h5,h6,j,MC,hlt,hle⟩:=hnx;obtain⟨c3,m1,m2,m3,m4,m5⟩:=hle c2 a'' w'' h5 h2 h3;have hj:I (μ j) a'' w'':=⟨h1,j,c3,MC,rfl,m1,m2,fun r hr=>(m3 r hr).trans ((h4 r hr).trans (ht' r hr)),m4,(hg'.trans h6).trans m5⟩;show (∃ m,I m a'' w'')/\_;refine⟨⟨_,hj⟩,?_⟩;rw[dif_pos ⟨_,hj⟩,dif_pos hI];have:=(Classical.choose_spec (exists_least (fun m=>I m a'' w'') ⟨_,hj⟩)).2 _ hj;omega
   |exit id=>exact hQ (.exit id) a'' w'' (hnx.back ht' hg')
   |ret=>exact hQ .ret a'' w'' (hnx.back ht' hg')
  ·cases hc
 |exit id =>
  intro dc c env own a w K Q hc hE hS hn hd h hQ;cases hc;exact wp_exit (hQ (.exit id) a w ⟨hd,c,env,own,hE,hS,fun _ _=>rfl,hn,.refl c own w,h⟩)
 |ret =>
  intro dc c env own a w K Q hc hE hS hn hd h hQ;cases hc;exact wp_ret (hQ .ret a w ⟨hd,c,env,own,hE,hS,fun _ _=>rfl,hn,.refl c own w,h⟩)
 |rangeFunc f ps x y _ _=>intro dc c env own a w K Q hc;cases hc
 |scope x _=>intro dc c env own a w K Q hc;cases hc
 |label l=>intro dc c env own a w K Q hc;cases hc
 |goto l=>intro dc c env own a w K Q hc;cases hc
 |refuse s=>intro dc c env own a w K Q hc;cases hc
end
end Go.SX
namespace Go.SX
open Go
variable [Tabs]
inductive xw where
 |tmp (t:Nat)
 |cell (t sz:Nat) (agg:Bool)
def JU (P:Program):List ResultVar->Option (List xw)
 |[]=>some []
 | .tmp t::l=>(match JU P l with|some r=>some (.tmp t::r)|none=>none)
 | .cell t ty::l=>(match JU P l,lu P ty,P.underlying ty with|some r,some s,some d=>some (.cell t s (wQ d)::r)|_,_,_=>none)
def jr2 (own:List ak)(env:List SV):xw->Option SV
 | .tmp t=>some (nrm own (eu env t))
 | .cell t sz agg=>BH own sz agg (eu env t)
def LJ (own:List ak)(env:List SV):List xw->Option (List SV)
 |[]=>some []
 |r::l=>(match jr2 own env r,LJ own env l with|some s,some ss=>some (s::ss)|_,_=>none)
def Oo (own:List ak)(env:List SV)(rs:List xw)(K:SV->Prop):Prop :=
 match LJ own env rs with
 |some [s]=>K s
 |some ss=>K (.dO ss)
 |none=>False
def Dc (rs:List xw)(K:SV->List ak->Prop):DX->List SV->List ak->Prop
 | .normal,env,own=>Oo own env rs (fun s=>K s own)
 | .ret,env,own=>Oo own env rs (fun s=>K s own)
 | .exit _,_,_=>False
structure I9 where
 ntmps:Nat
 code:DC
 res:List xw
def fD (P:Program)(f:FuncId):Option I9 :=
 match P.funcs[f]? with
 |some fn =>
  if fn.name != "runtime.NumGoroutine" then
   match fn.body with
   |some code=>(match vU P code,JU P fn.results.toList with|some c,some r=>some ⟨fn.ntmps,c,r⟩|_,_=>none)
   |none=>none
  else none
 |none=>none
def pad (n:Nat)(args:List SV):List SV:=args++List.replicate (n - args.length) (.dO [])
section
variable {P:Program}
def RV (tmps:Array Value):ResultVar->Sem Value
 | .tmp t=>pure (tmps.getD t undef)
 | .cell x t=>do loadVar t (<- asAddr (tmps.getD x undef))
theorem av1 (fn:Func)(tmps:Array Value):results fn tmps=(do let vs <- fn.results.mapM (RV tmps);pure (if h:vs.size=1 then vs[0] else .tuple vs)):=by
 unfold results;congr 1
theorem dh0 {c:Cx}{own:List ak}{w:World}{env:List SV}{a:Act}(hE:bI c env a)(hS:Sat c own w):∀ (l:List ResultVar){rs:List xw}{ss:List SV},JU P l=some rs->LJ own env rs=some ss ->
  ∃ us,(l.mapM (RV a.tmps):Sem (List Value)).run P w=.ok us w/\dP c ss us
 |[],rs,ss,hc,h=>by
  simp[JU] at hc;subst hc;simp[LJ] at h;subst h;exact⟨[],by simp,.nil⟩
 | .tmp t::l,rs,ss,hc,h=>by
  simp only[JU] at hc;split at hc
  ·rename_i r hr;cases hc;simp only[LJ] at h;split at h
   ·rename_i s ss' h1 h2;cases h;obtain⟨us,k1,k2⟩:=dh0 hE hS l hr h2;refine⟨a.tmps.getD t undef::us,?_,.cons ?_ k2⟩
    ·rw[List.mapM_cons,RV,qG,Sem.run_pure,qE,qG,k1];rfl
    ·simp only[jr2] at h1;cases h1;exact yC hS (BU hE (.tmp t))
   ·cases h
  ·cases hc
 | .cell t ty::l,rs,ss,hc,h=>by
  simp only[JU] at hc;split at hc
  ·rename_i r sz d hr hs hd;cases hc;simp only[LJ] at h;split at h
   ·rename_i s ss' h1 h2;cases h;obtain⟨us,k1,k2⟩:=dh0 hE hS l hr h2;simp only[jr2] at h1;obtain⟨v,m1,m2⟩:=ae0 (P:=P) hS hs hd (BU hE (.tmp t)) h1;obtain⟨lx,yK,_⟩:=aa0 h1;obtain⟨b,off,hp,_⟩:=gv1 hS (BU hE (.tmp t)) yK;have hp':a.tmps.getD t undef=.pointer (some ⟨b,off,none⟩):=hp;refine⟨v::us,?_,.cons m2 k2⟩;have m1':(Instr.loadAt ty (a.tmps.getD t undef)).run P w=.ok v w:=m1;rw[hp'] at m1';simp only[Instr.loadAt,Instr.sureAddr,qG,Sem.run_pure,qE] at m1';have m3:(RV a.tmps (.cell t ty)).run P w=.ok v w:=by
     simp only[RV,qG,hp',asAddr,Sem.run_pure,qE,m1']
    rw[List.mapM_cons,qG,m3,qE,qG,k1];rfl
   ·cases h
  ·cases hc
theorem il0 {c:Cx}{own:List ak}{w:World}{env:List SV}{a:Act}{fn:Func}{rs:List xw}{K:SV->Prop}(hE:bI c env a)(hS:Sat c own w)(hc:JU P fn.results.toList=some rs)(h:Oo own env rs K) :
  ∃ v s,(results fn a.tmps).run P w=.ok v w/\Rel c s v/\K s:=by
 unfold Oo at h;have key:∀ ss,LJ own env rs=some ss->∃ us:List Value,(results fn a.tmps).run P w=.ok (if h:us.length=1 then us[0] else .tuple us.toArray) w/\dP c ss us:=fun ss hss=>by
  obtain⟨us,h1,h2⟩:=dh0 hE hS _ hc hss;refine⟨us,?_,h2⟩;rw[av1,Array.mapM_eq_mapM_toList,qG,Sem.run_map,h1];simp only[qE,Sem.run_pure,List.size_toArray,List.getElem_toArray]
 split at h
 ·rename_i s hs;obtain⟨us,h1,h2⟩:=key _ hs;obtain⟨u,us',rfl,h3,h4⟩:=dP.xE.1 h2;rw[dP.CG.1 h4] at h1;exact⟨u,s,by simpa using h1,h3,h⟩
 ·rename_i ss hne hs;obtain⟨us,h1,h2⟩:=key _ hs;have hl:us.length≠1:=fun e=>by
   rw[h2.1] at e;obtain⟨s,hs'⟩:=List.length_eq_one_iff.1 e;exact hne s hs'
  rw[dif_neg hl] at h1;exact⟨_,.dO ss,h1,Rel.yD.2 ⟨us,rfl,h2⟩,h⟩
 ·exact h.elim
theorem sd1 {f:FuncId}{df:I9}{own:List ak}{args:List SV}{K:SV->List ak->Prop}(hf:fD P f=some df)
  (h:xY P own.length df.code (pad df.ntmps args) own (Dc df.res K)):dX P f own args K:=by
 unfold fD at hf;split at hf
 ·rename_i fn hfn;split at hf
  ·rename_i hname;split at hf
   ·rename_i code hb;split at hf
    ·rename_i dc rs hdc hrs;cases hf;refine⟨by simpa [Jk,hfn,hb] using hname,fun c w us hS hr=>?_⟩;refine calls_of_wp hfn hb ?_;have hE:bI c (pad fn.ntmps args) { tmps:=us.toArray++Array.replicate (fn.ntmps - us.toArray.size) undef,defers:=[] }:=by
      have EU:dP c (pad fn.ntmps args) (us++List.replicate (fn.ntmps - us.length) undef):=by
       unfold pad;rw[<- hr.1];refine hr.append ⟨by simp,fun i s u h1 h2=>?_⟩;rw[List.getElem?_replicate] at h1 h2;split at h1
       ·rw[if_pos (by assumption)] at h2;cases h1;cases h2;exact .dO rfl (fun i s u hs=>by simp at hs)
       ·cases h1
      refine⟨?_,fun i s u h1 h2=>EU.2 i s u h1 ?_⟩
      ·have:=EU.1;simp at this ⊢;exact this
      ·rw[<- h2,<- Array.getElem?_toList];simp
     refine lt1 (P:=P) (n0:=own.length) code dc hdc hE hS (by rw[hS.n];exact qR _) rfl h fun e a' w' hnx=>?_
     obtain⟨h1,c',env',own',h2,h3,h4,h5,h6,h7⟩:=hnx;have hle:c.le c':=⟨by rw[<- hS.n];exact h5,fun r hr=>h4 r (by rw[hS.n];exact hr),h6.f⟩;have fin:Oo own' env' rs (fun s=>K s own')->a'.defers=[]/\∃ v,(results fn a'.tmps).run P w'=.ok v w'/\∃ c' own' sv u,Ending.returned v=.returned u/\Rel c' sv u/\Sat c' own' w'/\c.le c'/\Goes c own w c' own' w'/\K sv own':=fun hres=>by
      obtain⟨v,s,k1,k2,k3⟩:=il0 h2 h3 hrs hres;exact⟨h1,v,k1,c',own',s,v,rfl,k2,h3,hle,h6,k3⟩
     cases e with
     |normal=>exact fin h7
     |ret=>exact fin h7
     |exit id=>exact h7.elim
    ·cases hf
   ·cases hf
  ·cases hf
 ·cases hf
end
mutual
def xU (p:List Nat):SV->Option SV
 | .d d=>some (.d d)
 | .agg cs=>(match Eu p cs with|some l=>some (.agg l)|none=>none)
 | .dO cs=>(match Eu p cs with|some l=>some (.dO l)|none=>none)
 | .ptr r off=>(match p[r]? with|some r'=>some (.ptr r' off)|none=>none)
 | .hd r=>(match p[r]? with|some r'=>some (.hd r')|none=>none)
 | .fp ds=>some (.fp ds)
 | .rp r sz i j=>(match p[r]? with|some r'=>some (.rp r' sz i j)|none=>none)
 | .rs r sz i=>(match p[r]? with|some r'=>some (.rs r' sz i)|none=>none)
 | .clo fn fs cs=>(match Eu p fs,Eu p cs with|some l,some l'=>some (.clo fn l l')|_,_=>none)
 | .top=>some .top
def Eu (p:List Nat):List SV->Option (List SV)
 |[]=>some []
 |s::l=>(match xU p s,Eu p l with|some a,some b=>some (a::b)|_,_=>none)
end
def SA (own:List ak)(p:List Nat)(s' s:SV):Prop:=s'=.top\/xU p s'=some s\/xU p s'=some (nrm own s)\/(s=.d (.val (.slice none 0 0))/\s'=.d (.sl []))
def Gw (own:List ak)(p:List Nat):List SV->List SV->Prop
 |[],[]=>True
 |s'::l',s::l=>SA own p s' s/\Gw own p l' l
 |_,_=>False
def Am (own:List ak)(p:List Nat)(x' x:ak):Prop :=
 match x',x with
 | .gone,_=>True
 | .fz es',.fz es=>es'=es
 | .row ty' sz' es',.row ty sz es=>ty'=ty/\sz'=sz/\es'=es
 | .cells cs' ty',.cells cs ty=>ty'=ty/\Gw own p cs' cs
 | .wz ds',.wz ds=>ds'=ds
 | .mp mk' agg' es',.mp mk agg es=>mk'=mk/\agg'=agg/\es'=es
 | .kC mk' es',.kC mk es=>mk'=mk/\es'.map (·.1)=es.map (·.1)/\Gw own p (es'.map (·.2)) (es.map (·.2))
 |_,_=>False
def Gv (own:List ak)(p:List Nat):List Nat->List ak->Prop
 |[],[]=>True
 |r::q,x'::l'=>Am own p x' (bG own r)/\Gv own p q l'
 |_,_=>False
section
variable {c:Cx}
def Cx.ren (c:Cx)(p:List Nat):Cx:={ θ:=fun r=>match p[r]? with|some r'=>c.θ r'|none=>.bool false,F:=c.F,N:=p.length }
mutual
theorem Ry {p:List Nat}(hp:∀ r∈p,r<c.N):∀ {s' s:SV}{u:Value},xU p s'=some s->Rel c s u->Rel (c.ren p) s' u
 | .d d,s,u,h,hr=>by simp[xU] at h;subst h;cases hr with|d h=>exact .d h
 | .agg cs,s,u,h,hr=>by
  simp only[xU] at h;split at h
  ·rename_i l hl;cases h;obtain⟨us,rfl,h2⟩:=Rel.tH.1 hr;exact Rel.tH.2 ⟨us,rfl,Sr hp hl h2⟩
  ·cases h
 | .dO cs,s,u,h,hr=>by
  simp only[xU] at h;split at h
  ·rename_i l hl;cases h;obtain⟨us,rfl,h2⟩:=Rel.yD.1 hr;exact Rel.yD.2 ⟨us,rfl,Sr hp hl h2⟩
  ·cases h
 | .ptr r off,s,u,h,hr=>by
  simp only[xU] at h;split at h
  ·rename_i r' hr';cases h;cases hr with|ptr h1 h2=>exact .ptr (by simp only[Cx.ren];exact(qA.1 hr').1) (by simp only[Cx.ren,hr'];exact h2)
  ·cases h
 | .hd r,s,u,h,hr=>by
  simp only[xU] at h;split at h
  ·rename_i r' hr';cases h;cases hr with|hd h1 h2=>exact .hd (by simp only[Cx.ren];exact(qA.1 hr').1) (by simp only[Cx.ren,hr'];exact h2)
  ·cases h
 | .fp ds,s,u,h,hr=>by simp[xU] at h;subst h;cases hr with|fp h1 h2=>exact .fp h1 h2
 | .rp r sz i j,s,u,h,hr=>by
  simp only[xU] at h;split at h
  ·rename_i r' hr';cases h;cases hr with|rp h1 h2=>exact .rp (by simp only[Cx.ren];exact(qA.1 hr').1) (by simp only[Cx.ren,hr'];exact h2)
  ·cases h
 | .clo fn fs cs,s,u,h,hr=>by
  simp only[xU] at h;split at h
  ·rename_i l l' hl hl';cases h;obtain⟨us,vs,rfl,h2,h3⟩:=Rel.Ag.1 hr;exact Rel.Ag.2 ⟨us,vs,rfl,Sr hp hl h2,Sr hp hl' h3⟩
  ·cases h
 | .rs r sz i,s,u,h,hr=>by
  simp only[xU] at h;split at h
  ·rename_i r' hr';cases h;cases hr with|rs h1 h2=>exact .rs (by simp only[Cx.ren];exact(qA.1 hr').1) (by simp only[Cx.ren,hr'];exact h2)
  ·cases h
 | .top,s,u,h,hr=>.top u
theorem Sr {p:List Nat}(hp:∀ r∈p,r<c.N):∀ {l' l:List SV}{us:List Value},Eu p l'=some l->dP c l us->dP (c.ren p) l' us
 |[],l,us,h,hr=>by simp[Eu] at h;subst h;rw[dP.CG.1 hr];exact .nil
 |s'::l',l,us,h,hr=>by
  simp only[Eu] at h;split at h
  ·rename_i a b h1 h2;cases h;obtain⟨u,us',rfl,k1,k2⟩:=dP.xE.1 hr;exact .cons (Ry hp h1 k1) (Sr hp h2 k2)
  ·cases h
end
theorem Kz {own:List ak}{w:World}{p:List Nat}(hS:Sat c own w)(hp:∀ r∈p,r<c.N){s' s:SV}{u:Value}(h:SA own p s' s)(hr:Rel c s u):Rel (c.ren p) s' u:=by
 rcases h with rfl|h|h|⟨rfl,rfl⟩
 ·exact .top u
 ·exact Ry hp h hr
 ·exact Ry hp h (yC hS hr)
 ·rw[hr.gB];exact .d (.nil _ _ (fun _=>rfl))
theorem QY {own:List ak}{p:List Nat}:∀ {l' l:List SV},Gw own p l' l->l'.length=l.length
 |[],[],_=>rfl
 |_::l',_::l,h=>by simp[QY h.2]
 |[],_::_,h=>h.elim
 |_::_,[],h=>h.elim
theorem LP {own:List ak}{p:List Nat}:∀ {l' l:List SV},Gw own p l' l->∀ (i:Nat) s',l'[i]?=some s'->∃ s,l[i]?=some s/\SA own p s' s
 |[],[],_,i,s',h=>by simp at h
 |s0::l',t0::l,h,i,s',hi=>by
  cases i with
  |zero=>simp at hi;subst hi;exact⟨t0,rfl,h.1⟩
  |succ i=>simp at hi;obtain⟨s,h1,h2⟩:=LP h.2 i s' hi;exact⟨s,by simpa using h1,h2⟩
 |[],_::_,h,_,_,_=>h.elim
 |_::_,[],h,_,_,_=>h.elim
theorem Q5 {own:List ak}{p:List Nat}:∀ {q:List Nat}{l':List ak},Gv own p q l'->l'.length=q.length/\∀ (i:Nat) x',l'[i]?=some x'->∃ r,q[i]?=some r/\Am own p x' (bG own r)
 |[],[],_=>⟨rfl,fun i x' h=>by simp at h⟩
 |r::q,x0::l',h=>by
  obtain⟨h1,h2⟩:=Q5 h.2;refine⟨by simp[h1],fun i x' hi=>?_⟩
  cases i with
  |zero=>simp at hi;subst hi;exact⟨r,rfl,h.1⟩
  |succ i=>simp at hi;obtain⟨r',k1,k2⟩:=h2 i x' hi;exact⟨r',by simpa using k1,k2⟩
 |[],_::_,h=>h.elim
 |_::_,[],h=>h.elim
def N8 (p:List Nat)(own':List ak):Prop:=∀ (i j r:Nat)(x y:ak),p[i]?=some r->p[j]?=some r->own'[i]?=some x->own'[j]?=some y->x.live=true->y.live=true->i=j
theorem N8.of {p:List Nat}(hnd:p.Nodup)(own':List ak):N8 p own':=fun i j r x y h1 h2 _ _ _ _=>by
 have hi:=(qA.1 h1).1;exact(List.getElem?_inj hi hnd).1 (by rw[h1,h2])
theorem jM.mkL {n0:Nat}{env env':List SV}{own own':List ak}(p:List Nat)(hnd:N8 p own')(hlt:∀ r∈p,r<own.length)(h0:∀ r,r<n0->p[r]?=some r)(hE:Gw own p env' env)(hO:Gv own p p own') :
  jM n0 env own env' own':=by
 intro c a w hn UZ hS;have hp:∀ r∈p,r<c.N:=fun r hr=>by rw[<- hS.n];exact hlt r hr
 obtain⟨hol,hog⟩:=Q5 hO;have hres:∀ (i:Nat) x',own'[i]?=some x'->∃ r x,p[i]?=some r/\own[r]?=some x/\(c.ren p).θ i=c.θ r/\Am own p x' x:=fun i x' hi=>by
  obtain⟨r,h1,h2⟩:=hog i x' hi;have hr:r<own.length:=hlt r (qL h1);exact⟨r,own[r],h1,by simp[hr],by simp[Cx.ren,h1],by rw[nV,qD hr] at h2;exact h2⟩
 have hlive:∀ x' x,Am own p x' x->x'.live=true->x.live=true:=fun x' x h hl=>by
  unfold Am at h;split at h<;>first|(simp[ak.live] at hl;done)|rfl|exact h.elim
 refine⟨c.ren p,⟨by rw[UZ.size,QY hE],fun i s u hs hu=>?_⟩,⟨by simp[Cx.ren,hol],?_,?_,?_,hS.le,?_,hS.tab⟩,fun r hr=>by simp[Cx.ren,h0 r hr],?_,⟨rfl,rfl,rfl,qR _,fun _ _ _=>rfl,fun _ h=>.inl h,?_,fun _ _ h=>h⟩⟩
 ·obtain⟨s0,h1,h2⟩:=LP hE i s hs;exact Kz hS hp h2 (UZ.rel i s0 u h1 hu)
 ·intro i x' hi;obtain⟨r,x,h1,h2,h3,h4⟩:=hres i x' hi;rw[h3];have hx:=hS.res r x h2;unfold Am at h4;split at h4
  ·trivial
  ·subst h4;exact hx
  ·obtain⟨rfl,rfl,rfl⟩:=h4;exact hx
  ·rename_i cs' ty' cs ty;obtain⟨rfl,h4⟩:=h4;obtain⟨b,us,k1,k2,k3,k4⟩:=hx;refine⟨b,us,k1,k2,by rw[k3,QY h4],fun j s hj=>?_⟩;obtain⟨s0,m1,m2⟩:=LP h4 j s hj;obtain⟨u,n1,n2,n3⟩:=k4 j s0 m1;exact⟨u,n1,n2,Kz hS hp m2 n3⟩
  ·subst h4;exact Ry hp (s':=.fp _) rfl hx
  ·obtain⟨rfl,rfl,rfl⟩:=h4;exact hx
  ·rename_i mk' es' mk es;obtain⟨rfl,hk,h4⟩:=h4;obtain⟨b,ms,clock,k1,k2,k3,k4⟩:=hx;have hl:es'.length=es.length:=by have:=congrArg List.length hk;simpa using this
   refine⟨b,ms,clock,k1,k2,by rw[hl];exact k3,fun j k s hj=>?_⟩;obtain⟨s0,m1,m2⟩:=LP h4 j s (by rw[qF,hj];rfl);rw[qF,Option.map_eq_some_iff] at m1;obtain⟨⟨k',s0'⟩,q1,rfl⟩:=m1;have hkk:k'=k:=by
    have:=congrArg (fun l=>l[j]?) hk;simp only[qF,hj,q1,zH,zI] at this;exact this.symm
   subst hkk;obtain⟨n1,m,n2,n3,n4⟩:=k4 j k' s0' q1;exact⟨n1,m,n2,n3,Kz hS hp m2 n4⟩
  ·exact h4.elim
 ·intro i j x y b hi hj UA hlj hbi hbj;obtain⟨r,x0,h1,h2,h3,h4⟩:=hres i x hi;obtain⟨s,y0,k1,k2,k3,k4⟩:=hres j y hj;rw[h3] at hbi;rw[k3] at hbj;have:=hS.apart r s x0 y0 b h2 k2 (hlive _ _ h4 UA) (hlive _ _ k4 hlj) hbi hbj;subst this;exact hnd i j r x y h1 k1 hi hj UA hlj
 ·intro i x b hi hl hb;obtain⟨r,x0,h1,h2,h3,h4⟩:=hres i x hi;rw[h3] at hb;exact hS.iw r x0 b h2 (hlive _ _ h4 hl) hb
 ·intro r;simp only[Cx.ren];split
  ·exact hS.one _
  ·rfl
 ·rcases Nat.eq_zero_or_pos n0 with h|h
  ·omega
  ·have:=(qA.1 (h0 (n0 - 1) (by omega))).1;simp only[Cx.ren];omega
 ·rintro b ⟨i,x,hi,hl,hb⟩;obtain⟨r,x0,h1,h2,h3,h4⟩:=hres i x hi;rw[h3] at hb;exact .inl ⟨r,x0,h2,hlive _ _ h4 hl,hb⟩
theorem jM.mk {n0:Nat}{env env':List SV}{own own':List ak}(p:List Nat)(hnd:p.Nodup)(hlt:∀ r∈p,r<own.length)(h0:∀ r,r<n0->p[r]?=some r)(hE:Gw own p env' env)(hO:Gv own p p own') :
  jM n0 env own env' own':=jM.mkL p (N8.of hnd own') hlt h0 hE hO
theorem jM.trans {n0:Nat}{e1 e2 e3:List SV}{o1 o2 o3:List ak}(h:jM n0 e1 o1 e2 o2)(k:jM n0 e2 o2 e3 o3):jM n0 e1 o1 e3 o3:=by
 intro c a w hn hE hS;obtain⟨c1,h1,h2,h3,h4,h5⟩:=h c a w hn hE hS;obtain⟨c2,k1,k2,k3,k4,k5⟩:=k c1 a w h4 h1 h2;exact⟨c2,k1,k2,fun r hr=>(k3 r hr).trans (h3 r hr),k4,h5.trans k5⟩
theorem jM.row {n0:Nat}{env:List SV}{own:List ak}(i:Nat)(ty sz:Nat)(hi:eu env i=.d (.val (.slice none 0 0))):jM n0 env own (wX env i (.hd own.length)) (own++[.row ty sz []]):=by
 intro c a w hn hE hS;obtain⟨k1,k2,k3⟩:=hS.push (w':=w) none own rfl (fun s y hy=>.inr ⟨hy,fun _ b hb=>by cases hb⟩) (fun b hb=>by cases hb) rfl rfl rfl (qR _) (fun _ _ _=>rfl) (.slice none 0 0) (.row ty sz []) rfl (fun b hb=>by simp[jA] at hb)
  ⟨by simp,[],World.ownsRow_nil w 0 ty sz,by simp⟩
 refine⟨c.push (.slice none 0 0),⟨?_,fun j s u hs hu=>?_⟩,k1,fun r hr=>k2.t r (by omega),Nat.le_trans hn k2.n,k3⟩
 ·rw[Ee];simp[hE.size]
 ·rw[Ee,List.getElem?_set] at hs;split at hs
  ·rename_i e;subst e;split at hs
   ·rename_i hlt;cases hs;have he:env[i]?=some (.d (.val (.slice none 0 0))):=by
     rw[jZ,qD hlt] at hi;rw[qD hlt];simpa using hi
    have:=(hE.rel i _ u he hu).gB;subst this;exact .hd (by simp[Cx.push,hS.n]) (by simp[Cx.push,hS.n])
   ·cases hs
  ·exact(hE.rel j s u hs hu).mono k2
end
end Go.SX
namespace Go.SX
open Go
variable [Tabs]
def O9 (P:Program)(f:FuncId)(own:List ak)(args:List SV)(R:SV->Prop):Prop:=∃ sv,dX P f own args (fun sv' own'=>sv'=sv/\own'=own)/\R sv
def eb1 (P:Program)(x:SV)(own:List ak)(args:List SV)(R:SV->Prop):Prop :=
 match x with
 | .clo (.func f) first cap=>O9 P f own (first++args++cap) R
 |_=>False
theorem FP.map {dK:List ak}{args:List SV}(g:SV->SV)(hg:∀ (c:Cx)(w:World) s u,Sat c dK w->Rel c s u->Rel c (g s) u):FP dK args (args.map g):=fun c w us hS hr=>⟨by rw[hr.1,qY],fun i s u hs hu=>by
 rw[qF,Option.map_eq_some_iff] at hs;obtain⟨s0,hs0,rfl⟩:=hs;exact hg c w s0 u hS (hr.2 i s0 u hs0 hu)⟩
theorem FP.nrm (dK:List ak)(args:List SV):FP dK args (args.map (nrm dK)):=.map _ fun _ _ _ _ hS h=>yC hS h
theorem D6.ng {P:Program}{f:FuncId}{own:List ak}{args:List SV}{K:SV->List ak->Prop}(h:dX P f (mV own args) (args.map (nrm (mV own args))) K):D6 P f own args K:=⟨_,_,fun _ _ hS=>CJ args hS,.nrm _ _,h⟩
theorem O9.mk {P:Program}{f:FuncId}{own:List ak}{args:List SV}{R:SV->Prop}{sv:SV}(h:dX P f own args (fun sv' own'=>sv'=sv/\own'=own))(hR:R sv):O9 P f own args R:=⟨sv,h,hR⟩
theorem D6.fn {P:Program}{f:FuncId}{own:List ak}{args:List SV}{K:SV->List ak->Prop}{sv:SV}(h:dX P f own args (fun sv' own'=>sv'=sv/\own'=own))(hK:K sv own):D6 P f own args K :=
 .own (h.mono fun sv' own' ⟨h1,h2⟩=>by subst h1;subst h2;exact hK)
@[reducible] def SV.i (n:Int):SV:=.d (.val (.int .i64 n))
@[reducible] def SV.b (b:Bool):SV:=.d (.val (.bool b))
mutual
def SV.closed : SV->Bool
 | .d _ | .fp _ | .top=>true
 | .agg cs=>xP cs
 | .dO cs=>xP cs
 | .clo _ fs cs=>xP fs&&xP cs
 | .ptr .. | .hd _ | .rp .. | .rs ..=>false
def xP : List SV->Bool
 |[]=>true
 |s::l=>SV.closed s&&xP l
end
mutual
theorem mo0 {c c':Cx}(hF:∀ b o,c.F b=some o->c'.F b=some o):∀ {s:SV}{u:Value},s.closed=true->Rel c s u->Rel c' s u
 | .d d,u,_,h=>by cases h with|d h=>exact .d (h.mono hF)
 | .fp ds,u,_,h=>by cases h with|fp h1 h2=>exact .fp (hF _ _ h1) (fun j d hj=>let ⟨u,k1,k2⟩:=h2 j d hj;⟨u,k1,k2.mono hF⟩)
 | .top,u,_,h=>.top u
 | .agg cs,u,hc,h=>by
  obtain⟨us,rfl,h2⟩:=Rel.tH.1 h;exact Rel.tH.2 ⟨us,rfl,JQ hF hc h2⟩
 | .dO cs,u,hc,h=>by
  obtain⟨us,rfl,h2⟩:=Rel.yD.1 h;exact Rel.yD.2 ⟨us,rfl,JQ hF hc h2⟩
 | .clo fn fs cs,u,hc,h=>by
  obtain⟨us,vs,rfl,h2,h3⟩:=Rel.Ag.1 h;simp only[SV.closed,qK] at hc;exact Rel.Ag.2 ⟨us,vs,rfl,JQ hF hc.1 h2,JQ hF hc.2 h3⟩
 | .ptr r off,u,hc,h=>by simp[SV.closed] at hc
 | .hd r,u,hc,h=>by simp[SV.closed] at hc
 | .rp r sz i j,u,hc,h=>by simp[SV.closed] at hc
 | .rs r sz i,u,hc,h=>by simp[SV.closed] at hc
theorem JQ {c c':Cx}(hF:∀ b o,c.F b=some o->c'.F b=some o):∀ {l:List SV}{us:List Value},xP l=true->dP c l us->dP c' l us
 |[],us,_,h=>by rw[dP.CG.1 h];exact .nil
 |s::l,us,hc,h=>by
  obtain⟨u,us',rfl,h1,h2⟩:=dP.xE.1 h;simp only[xP,qK] at hc;exact .cons (mo0 hF hc.1 h1) (JQ hF hc.2 h2)
end
section
variable {P:Program}{f:FuncId}
theorem Sat.empty {c:Cx}{own:List ak}{w:World}(h:Sat c own w):Sat { c with N:=0 } [] w :=
 ⟨rfl,fun r x hx=>by simp at hx,fun r s x y b hx=>by simp at hx,fun r x b hx=>by simp at hx,h.le,h.one,h.tab⟩
theorem dX.fn {own:List ak}{args:List SV}{s:SV}(h:dX P f [] args (fun sv _=>sv=s))(ha:xP args=true)(hs:s.closed=true) :
  dX P f own args (fun sv own'=>sv=s/\own'=own):=by
 refine⟨h.1,fun c w us hS hr=>?_⟩;refine(h.2 { c with N:=0 } w us hS.empty (JQ (c:=c) (c':={ c with N:=0 }) (fun _ _ h=>h) ha hr)).mono ?_;rintro e w' ⟨c',own',sv,u,rfl,h2,h3,h4,h5,rfl⟩;have hno:∀ b,¬ Own { c with N:=0 } [] b:=fun b ⟨r,x,hx,_⟩=>by simp at hx
 have hkeep:∀ b,b<w.heap.size->w'.heap[b]?=w.heap[b]?:=fun b hb=>h5.keep b hb (hno b)
 have hnew:∀ b,c'.F b≠none->c.F b≠none\/w.heap.size<=b:=fun b hb=>by
  rcases h5.newF b hb with h|h|h
  ·exact .inl h
  ·exact .inr h
  ·exact(hno b h).elim
 have hle:c.le { θ:=c.θ,F:=c'.F,N:=c.N }:=⟨qR _,fun _ _=>rfl,h5.f⟩;refine⟨{ θ:=c.θ,F:=c'.F,N:=c.N },own,sv,u,rfl,mo0 (c:=c') (c':={ θ:=c.θ,F:=c'.F,N:=c.N }) (fun _ _ h=>h) hs h2,hS.on hle rfl hS.one hkeep h3.le hnew,hle,
  ⟨h5.os,h5.tape,h5.output,h5.size,fun b hb _=>hkeep b hb,fun b hb=>(hnew b hb).elim .inl (fun h=>.inr (.inl h)),fun b hb=>.inl hb,h5.f⟩,rfl,rfl⟩
end
mutual
def O1 (n:Nat):SV->SV
 | .d d=>.d d
 | .agg cs=>.agg (CU n cs)
 | .dO cs=>.dO (CU n cs)
 | .ptr r off=>.ptr (r+n) off
 | .hd r=>.hd (r+n)
 | .fp ds=>.fp ds
 | .rp r sz i j=>.rp (r+n) sz i j
 | .rs r sz i=>.rs (r+n) sz i
 | .clo fn fs cs=>.clo fn (CU n fs) (CU n cs)
 | .top=>.top
def CU (n:Nat):List SV->List SV
 |[]=>[]
 |s::l=>O1 n s::CU n l
end
def Rl (n:Nat):ak->ak
 | .cells cs ty=>.cells (CU n cs) ty
 | .kC mk es=>.kC mk (es.map fun p=>(p.1,O1 n p.2))
 |x=>x
theorem nk1 (n:Nat):∀ l:List SV,(CU n l).length=l.length
 |[]=>rfl
 |_::l=>by simp[CU,nk1 n l]
theorem nv1 (n:Nat):∀ (l:List SV)(i:Nat),(CU n l)[i]?=(l[i]?).map (O1 n)
 |[],i=>by simp[CU]
 |s::l,0=>by simp[CU]
 |s::l,i+1=>by simp[CU,nv1 n l i]
mutual
theorem QA {c c':Cx}{n:Nat}(hF:c'.F=c.F)(hN:c'.N=n+c.N)(hθ:∀ r,c'.θ (r+n)=c.θ r):∀ {s:SV}{u:Value},Rel c s u->Rel c' (O1 n s) u
 | .d d,u,h=>by cases h with|d h=>exact .d (by rw[hF];exact h)
 | .fp ds,u,h=>by cases h with|fp h1 h2=>exact .fp (by rw[hF];exact h1) (by rw[hF];exact h2)
 | .top,u,h=>.top u
 | .agg cs,u,h=>by
  obtain⟨us,rfl,h2⟩:=Rel.tH.1 h;exact Rel.tH.2 ⟨us,rfl,RD hF hN hθ h2⟩
 | .dO cs,u,h=>by
  obtain⟨us,rfl,h2⟩:=Rel.yD.1 h;exact Rel.yD.2 ⟨us,rfl,RD hF hN hθ h2⟩
 | .clo fn fs cs,u,h=>by
  obtain⟨us,vs,rfl,h2,h3⟩:=Rel.Ag.1 h;exact Rel.Ag.2 ⟨us,vs,rfl,RD hF hN hθ h2,RD hF hN hθ h3⟩
 | .ptr r off,u,h=>by cases h with|ptr h1 h2=>exact .ptr (by rw[hN];omega) (by rw[hθ];exact h2)
 | .hd r,u,h=>by cases h with|hd h1 h2=>exact .hd (by rw[hN];omega) (by rw[hθ];exact h2)
 | .rp r sz i j,u,h=>by cases h with|rp h1 h2=>exact .rp (by rw[hN];omega) (by rw[hθ];exact h2)
 | .rs r sz i,u,h=>by cases h with|rs h1 h2=>exact .rs (by rw[hN];omega) (by rw[hθ];exact h2)
theorem RD {c c':Cx}{n:Nat}(hF:c'.F=c.F)(hN:c'.N=n+c.N)(hθ:∀ r,c'.θ (r+n)=c.θ r):∀ {l:List SV}{us:List Value},dP c l us->dP c' (CU n l) us
 |[],us,h=>by rw[dP.CG.1 h];exact .nil
 |s::l,us,h=>by
  obtain⟨u,us',rfl,h1,h2⟩:=dP.xE.1 h;exact .cons (QA hF hN hθ h1) (RD hF hN hθ h2)
end
section
variable {P:Program}{f:FuncId}
theorem dX.frame {own:List ak}{args:List SV}{K:SV->List ak->Prop}(h:dX P f [] args K)(ha:xP args=true) :
  dX P f own args (fun sv own'=>∃ sv0 dG,K sv0 dG/\sv=O1 own.length sv0/\own'=own++dG.map (Rl own.length)):=by
 refine⟨h.1,fun c w us hS hr=>?_⟩;refine(h.2 { c with N:=0 } w us hS.empty (JQ (c:=c) (c':={ c with N:=0 }) (fun _ _ h=>h) ha hr)).mono ?_;rintro e w' ⟨c1,dK,sv,u,rfl,h2,h3,h4,h5,h6⟩;have hno:∀ b,¬ Own { c with N:=0 } [] b:=fun b ⟨r,x,hx,_⟩=>by simp at hx
 have hkeep:∀ b,b<w.heap.size->w'.heap[b]?=w.heap[b]?:=fun b hb=>h5.keep b hb (hno b)
 have hnew:∀ b,c1.F b≠none->c.F b≠none\/w.heap.size<=b:=fun b hb=>by
  rcases h5.newF b hb with h|h|h
  ·exact .inl h
  ·exact .inr h
  ·exact(hno b h).elim
 have EY:∀ b,Own c1 dK b->w.heap.size<=b:=fun b hb=>(h5.jR b hb).elim (fun h=>(hno b h).elim) id
 let n:=own.length
 have hn:c.N=n:=hS.n.symm
 let c2:Cx:={ θ:=fun r=>if r<n then c.θ r else c1.θ (r - n),F:=c1.F,N:=n+c1.N }
 have mZ:∀ r,r<n->c2.θ r=c.θ r:=fun r hr=>by simp[c2,hr]
 have vZ:∀ r,c2.θ (r+n)=c1.θ r:=fun r=>by simp only[c2];rw[if_neg (by omega),Nat.add_sub_cancel]
 have hle:c.le c2:=⟨by rw[hn];exact Nat.le_add_right _ _,fun r hr=>mZ r (by rw[<- hn];exact hr),h5.f⟩;have hget:∀ (r:Nat) x,(own++dK.map (Rl n))[r]?=some x->(r<n/\own[r]?=some x)\/∃ q y,r=q+n/\dK[q]?=some y/\x=Rl n y:=fun r x hx=>by
  rw[List.getElem?_append] at hx;split at hx
  ·exact .inl ⟨by assumption,hx⟩
  ·rename_i hge;rw[qF,Option.map_eq_some_iff] at hx;obtain⟨y,hy,rfl⟩:=hx;exact .inr ⟨r - n,y,by omega,hy,rfl⟩
 have hlive:∀ y,(Rl n y).live=y.live:=fun y=>by cases y<;>rfl
 refine⟨c2,own++dK.map (Rl n),O1 n sv,u,rfl,QA (c:=c1) (c':=c2) rfl rfl vZ h2,⟨by simp[c2,n,h3.n],?_,?_,?_,?_,?_,h3.tab⟩,hle,⟨h5.os,h5.tape,h5.output,h5.size,fun b hb _=>hkeep b hb,fun b hb=>(hnew b hb).elim .inl (fun h=>.inr (.inl h)),?_,h5.f⟩,sv,dK,h6,rfl,rfl⟩
 ·intro r x hx;rcases hget r x hx with ⟨hr,hx⟩|⟨q,y,rfl,hy,rfl⟩
  ·rw[mZ r hr];exact(hS.res r x hx).keep hle fun hl b hb=>hkeep b (hS.xI ⟨r,x,hx,hl,hb⟩)
  ·rw[vZ];have:=h3.res q y hy
   cases y with
   |gone=>trivial
   |fz es=>exact this
   |wz ds=>exact QA (c:=c1) (c':=c2) (n:=n) (s:=.fp ds) rfl rfl vZ this
   |row ty sz es=>exact this
   |mp mk agg es=>exact this
   |kC mk es =>
    obtain⟨b,ms,clock,k1,k2,k3,k4⟩:=this;refine⟨b,ms,clock,k1,k2,by rw[qY];exact k3,fun i k s hi=>?_⟩;rw[qF,Option.map_eq_some_iff] at hi;obtain⟨⟨k',s0⟩,hs0,e⟩:=hi;cases e;obtain⟨n1,m,n2,n3,n4⟩:=k4 i k' s0 hs0;exact⟨n1,m,n2,n3,QA (c:=c1) (c':=c2) (n:=n) rfl rfl vZ n4⟩
   |cells cs ty =>
    obtain⟨b,us,k1,k2,k3,k4⟩:=this;refine⟨b,us,k1,k2,by rw[nk1];exact k3,fun i s hi=>?_⟩;rw[nv1,Option.map_eq_some_iff] at hi;obtain⟨s0,hs0,rfl⟩:=hi;obtain⟨u,m1,m2,m3⟩:=k4 i s0 hs0;exact⟨u,m1,m2,QA (c:=c1) (c':=c2) rfl rfl vZ m3⟩
 ·intro r s x y b hx hy hlx eU hbx hby
  rcases hget r x hx with ⟨hr,hx⟩|⟨q,x',rfl,hx',rfl⟩
  ·rw[mZ r hr] at hbx;rcases hget s y hy with ⟨hs,hy⟩|⟨q',y',rfl,hy',rfl⟩
   ·rw[mZ s hs] at hby
    exact hS.apart r s x y b hx hy hlx eU hbx hby
   ·rw[vZ] at hby
    have h1:=hS.xI ⟨r,x,hx,hlx,hbx⟩;have h2:=EY b ⟨q',y',hy',by rw[<- hlive];exact eU,hby⟩;omega
  ·rw[vZ] at hbx;rcases hget s y hy with ⟨hs,hy⟩|⟨q',y',rfl,hy',rfl⟩
   ·rw[mZ s hs] at hby
    have h1:=hS.xI ⟨s,y,hy,eU,hby⟩;have h2:=EY b ⟨q,x',hx',by rw[<- hlive];exact hlx,hbx⟩;omega
   ·rw[vZ] at hby
    rw[h3.apart q q' x' y' b hx' hy' (by rw[<- hlive];exact hlx) (by rw[<- hlive];exact eU) hbx hby]
 ·intro r x b hx hl hb;rcases hget r x hx with ⟨hr,hx⟩|⟨q,y,rfl,hy,rfl⟩
  ·rw[mZ r hr] at hb;have h0:=hS.iw r x b hx hl hb;show c1.F b=none
   cases hc:c1.F b with
   |none=>rfl
   |some o =>
    rcases hnew b (by simp[hc]) with h|h
    ·exact absurd h0 h
    ·have:=hS.xI ⟨r,x,hx,hl,hb⟩;omega
  ·rw[vZ] at hb;exact h3.iw q y b hy (by rw[<- hlive];exact hl) hb
 ·exact h3.le
 ·intro r;simp only[c2];split
  ·exact hS.one r
  ·exact h3.one _
 ·rintro b ⟨r,x,hx,hl,hb⟩;rcases hget r x hx with ⟨hr,hx⟩|⟨q,y,rfl,hy,rfl⟩
  ·rw[mZ r hr] at hb;exact .inl ⟨r,x,hx,hl,hb⟩
  ·rw[vZ] at hb;exact .inr (EY b ⟨q,y,hy,by rw[<- hlive];exact hl,hb⟩)
end
def dI (n:Int):List D:=[.val (.int .i64 n)]
def dB (b:Bool):List D:=[.val (.bool b)]
def dL (l:List Int):List D:=[.sl (l.map dI)]
@[reducible] def SV.ints (l:List Int):SV:=.d (.sl (l.map dI))
@[reducible] def SV.bools (l:List Bool):SV:=.d (.sl (l.map dB))
@[reducible] def SV.lists (l:List (List Int)):SV:=.d (.sl (l.map dL))
end Go.SX
