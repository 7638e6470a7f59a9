/- Parts of the proof. -/
import Derived.Test.YtlpempbeenpilaaGreatDoorZSxMg
set_option linter.unusedSimpArgs false
set_option linter.unusedVariables false
set_option linter.unusedSectionVars false
namespace Go.SX
open Go
variable [Tabs]
def GOp.isEf (g:GOp):Bool:=match g.op with | .app .. | .call ..=>true | .bslice _ _ 0 _ []=>true | _=>false
def chnChk (ops:Array Oper)(gs:List GOp):Bool :=
 (List.range gs.length).all fun k =>
  match gs[k]?,ops[k]? with
  | some g,some o=>!g.isEf||(List.range k).all fun i=>match gs[i]? with | some gi=>!gi.isEf||(reachs ops o (List.range k).reverse []).contains i | none=>false
  | _,_=>false
inductive DC where
 | skip
 | reg (gs:List GOp)
 | par (hy hl hs hx:Bool) (tl:Nat) (gs:List GOp)
 | seq (a b:DC)
 | cond (c:Operand) (x y:DC)
 | block (id:Nat) (c:DC)
 | loop (c:DC)
 | exit (id:Nat)
 | ret
deriving Inhabited
inductive DX where
 | normal
 | exit (id:Nat)
 | ret
def compC (P:Program):Code→Option DC
 | .skip=>some .skip
 | .region _ ops draw =>
  match compOps P ops ops.toList with
  | some gs=>if draw then (if P.follows .mixedOrders&&regChk ops gs then some (.par (hybChk ops gs) (lastChk2 ops gs) (hysChk ops gs) (chnChk ops gs) (sfxOf ops) gs) else none) else some (.reg gs)
  | none=>none
 | .seq a b=>(match compC P a,compC P b with | some x,some y=>some (.seq x y) | _,_=>none)
 | .cond c a b=>(match compC P a,compC P b with | some x,some y=>some (.cond c x y) | _,_=>none)
 | .block id a=>(match compC P a with | some x=>some (.block id x) | none=>none)
 | .loop a=>(match compC P a with | some x=>some (.loop x) | none=>none)
 | .exit id=>some (.exit id)
 | .ret=>some .ret
 | _=>none
def CondN (c:SV)(A B:Prop):Prop :=
 match c with
 | .d (.val (.bool b))=>(b=true→A)∧(b=false→B)
 | _=>False
def StLe (n0:Nat)(env:List SV)(own:List Res)(env':List SV)(own':List Res):Prop :=
 ∀ (c:Cx)(a:Act)(w:World),n0≤c.N→EnvOk c env a→Sat c own w →
  ∃ c',EnvOk c' env' a∧Sat c' own' w∧(∀ r,r<n0→c'.θ r=c.θ r)∧n0≤c'.N∧Goes c own w c' own' w
def LoopN (n0:Nat)(body:List SV→List Res→(DX→List SV→List Res→Prop)→Prop)(env:List SV)(own:List Res)(K:DX→List SV→List Res→Prop):Prop :=
 ∃ (ι:Type)(S:ι→List SV)(O:ι→List Res)(φ:ι→Prop)(μ:ι→Nat),(∃ i,φ i∧StLe n0 env own (S i) (O i)) ∧
  ∀ i,φ i→body (S i) (O i) (fun e env' own'=>match e with
   | .normal=>∃ j,φ j∧μ j<μ i∧StLe n0 env' own' (S j) (O j)
   | e=>K e env' own')
def toX : DX→Exit
 | .normal=>.normal
 | .exit id=>.exit id
 | .ret=>.ret
section
variable {P:Program}{n0:Nat}
theorem Nx.mono {c:Cx}{own:List Res}{w:World}{K K':List SV→List Res→Prop}{a':Act}{w':World}(h:Nx n0 c own w K a' w')(hK:∀ env own,K env own→K' env own):Nx n0 c own w K' a' w':=by
 obtain⟨h1,c',env',own',h2,h3,h4,h5,h6,h7⟩:=h;exact⟨h1,c',env',own',h2,h3,h4,h5,h6,hK _ _ h7⟩
theorem Nx.back {c c1:Cx}{own own1:List Res}{w w1:World}{K:List SV→List Res→Prop}{a':Act}{w':World}(ht:∀ r,r<n0→c1.θ r=c.θ r)(hg:Goes c own w c1 own1 w1)(h:Nx n0 c1 own1 w1 K a' w'):Nx n0 c own w K a' w':=by
 obtain⟨h1,c',env',own',h2,h3,h4,h5,h6,h7⟩:=h;exact⟨h1,c',env',own',h2,h3,fun r hr=>(h4 r hr).trans (ht r hr),h5,hg.trans h6,h7⟩
theorem exists_least (p:Nat→Prop)(h:∃ n,p n):∃ n,p n∧∀ m,p m→n≤m:=by
 obtain⟨n,hn⟩:=h
 induction n using Nat.strongRecOn with
 | _ n ih =>
  by_cases hx:∃ m,m<n∧p m
  ·obtain⟨m,h1,h2⟩:=hx;exact ih m h1 h2
  ·exact⟨n,hn,fun m hm=>by
    rcases Nat.lt_or_ge m n with h | h
    ·exact absurd ⟨m,h,hm⟩ hx
    ·exact h⟩
end
end Go.SX
namespace Go.SX
open Go
variable [Tabs]
inductive DRes where
 | tmp (t:Nat)
 | cell (t sz:Nat) (agg:Bool)
def compR (P:Program):List ResultVar→Option (List DRes)
 | []=>some []
 | .tmp t::l=>(match compR P l with | some r=>some (.tmp t::r) | none=>none)
 | .cell t ty::l=>(match compR P l,sizeB P ty,P.underlying ty with | some r,some s,some d=>some (.cell t s (isAggB d)::r) | _,_,_=>none)
def resSV (own:List Res)(env:List SV):DRes→Option SV
 | .tmp t=>some (nrm own (geti env t))
 | .cell t sz agg=>sload own sz agg (geti env t)
def resSVs (own:List Res)(env:List SV):List DRes→Option (List SV)
 | []=>some []
 | r::l=>(match resSV own env r,resSVs own env l with | some s,some ss=>some (s::ss) | _,_=>none)
def ResN (own:List Res)(env:List SV)(rs:List DRes)(K:SV→Prop):Prop :=
 match resSVs own env rs with
 | some [s]=>K s
 | some ss=>K (.tup ss)
 | none=>False
def EndN (rs:List DRes)(K:SV→List Res→Prop):DX→List SV→List Res→Prop
 | .normal,env,own=>ResN own env rs (fun s=>K s own)
 | .ret,env,own=>ResN own env rs (fun s=>K s own)
 | .exit _,_,_=>False
structure DFn where
 ntmps:Nat
 code:DC
 res:List DRes
def compF (P:Program)(f:FuncId):Option DFn :=
 match P.funcs[f]? with
 | some fn =>
  if fn.name != "runtime.NumGoroutine" then
   match fn.body with
   | some code=>(match compC P code,compR P fn.results.toList with | some c,some r=>some ⟨fn.ntmps,c,r⟩ | _,_=>none)
   | none=>none
  else none
 | none=>none
def pad (n:Nat)(args:List SV):List SV:=args++List.replicate (n - args.length) (.tup [])
section
variable {P:Program}
def resOf (tmps:Array Value):ResultVar→Sem Value
 | .tmp t=>pure (tmps.getD t undef)
 | .cell x t=>do loadVar t (← asAddr (tmps.getD x undef))
theorem results_eq (fn:Func)(tmps:Array Value):results fn tmps=(do let vs ← fn.results.mapM (resOf tmps);pure (if h:vs.size=1 then vs[0] else .tuple vs)):=by
 unfold results;congr 1
theorem resSVs_sound {c:Cx}{own:List Res}{w:World}{env:List SV}{a:Act}(hE:EnvOk c env a)(hS:Sat c own w):∀ (l:List ResultVar){rs:List DRes}{ss:List SV},compR P l=some rs→resSVs own env rs=some ss →
  ∃ us,(l.mapM (resOf a.tmps):Sem (List Value)).run P w=.ok us w∧RelL c ss us
 | [],rs,ss,hc,h=>by
  simp[compR] at hc;subst hc;simp[resSVs] at h;subst h;exact⟨[],by simp,.nil⟩
 | .tmp t::l,rs,ss,hc,h=>by
  simp only[compR] at hc;split at hc
  ·rename_i r hr;cases hc;simp only[resSVs] at h;split at h
   ·rename_i s ss' h1 h2;cases h;obtain⟨us,k1,k2⟩:=resSVs_sound hE hS l hr h2;refine⟨a.tmps.getD t undef::us,?_,.cons ?_ k2⟩
    ·rw[List.mapM_cons,resOf,qG,Sem.run_pure,qF,qG,k1];rfl
    ·simp only[resSV] at h1;cases h1;exact nrm_rel hS (ev_rel hE (.tmp t))
   ·cases h
  ·cases hc
 | .cell t ty::l,rs,ss,hc,h=>by
  simp only[compR] at hc;split at hc
  ·rename_i r sz d hr hs hd;cases hc;simp only[resSVs] at h;split at h
   ·rename_i s ss' h1 h2;cases h;obtain⟨us,k1,k2⟩:=resSVs_sound hE hS l hr h2;simp only[resSV] at h1;obtain⟨v,m1,m2⟩:=sload_sound (P:=P) hS hs hd (ev_rel hE (.tmp t)) h1;obtain⟨lx,hsee,_⟩:=sload_takes h1;obtain⟨b,off,hp,_⟩:=sees_rel hS (ev_rel hE (.tmp t)) hsee;have hp':a.tmps.getD t undef=.pointer (some ⟨b,off,none⟩):=hp;refine⟨v::us,?_,.cons m2 k2⟩;have m1':(Instr.loadAt ty (a.tmps.getD t undef)).run P w=.ok v w:=m1;rw[hp'] at m1';simp only[Instr.loadAt,Instr.sureAddr,qG,Sem.run_pure,qF] at m1';have m3:(resOf a.tmps (.cell t ty)).run P w=.ok v w:=by
     simp only[resOf,qG,hp',asAddr,Sem.run_pure,qF,m1']
    rw[List.mapM_cons,qG,m3,qF,qG,k1];rfl
   ·cases h
  ·cases hc
theorem resN_sound {c:Cx}{own:List Res}{w:World}{env:List SV}{a:Act}{fn:Func}{rs:List DRes}{K:SV→Prop}(hE:EnvOk c env a)(hS:Sat c own w)(hc:compR P fn.results.toList=some rs)(h:ResN own env rs K) :
  ∃ v s,(results fn a.tmps).run P w=.ok v w∧Rel c s v∧K s:=by
 unfold ResN at h;have key:∀ ss,resSVs own env rs=some ss→∃ us:List Value,(results fn a.tmps).run P w=.ok (if h:us.length=1 then us[0] else .tuple us.toArray) w∧RelL c ss us:=fun ss hss=>by
  obtain⟨us,h1,h2⟩:=resSVs_sound hE hS _ hc hss;refine⟨us,?_,h2⟩;rw[results_eq,Array.mapM_eq_mapM_toList,qG,Sem.run_map,h1];simp only[qF,Sem.run_pure,List.size_toArray,List.getElem_toArray]
 split at h
 ·rename_i s hs;obtain⟨us,h1,h2⟩:=key _ hs;obtain⟨u,us',rfl,h3,h4⟩:=RelL.cons_iff.1 h2;rw[RelL.nil_iff.1 h4] at h1;exact⟨u,s,by simpa using h1,h3,h⟩
 ·rename_i ss hne hs;obtain⟨us,h1,h2⟩:=key _ hs;have hl:us.length≠1:=fun e=>by
   rw[h2.1] at e;obtain⟨s,hs'⟩:=List.length_eq_one_iff.1 e;exact hne s hs'
  rw[dif_neg hl] at h1;exact⟨_,.tup ss,h1,Rel.tup_iff.2 ⟨us,rfl,h2⟩,h⟩
 ·exact h.elim
end
mutual
def renSV (p:List Nat):SV→Option SV
 | .d d=>some (.d d)
 | .agg cs=>(match renL p cs with | some l=>some (.agg l) | none=>none)
 | .tup cs=>(match renL p cs with | some l=>some (.tup l) | none=>none)
 | .ptr r off=>(match p[r]? with | some r'=>some (.ptr r' off) | none=>none)
 | .hd r=>(match p[r]? with | some r'=>some (.hd r') | none=>none)
 | .fp ds=>some (.fp ds)
 | .rp r sz i j=>(match p[r]? with | some r'=>some (.rp r' sz i j) | none=>none)
 | .rs r sz i=>(match p[r]? with | some r'=>some (.rs r' sz i) | none=>none)
 | .clo fn fs cs=>(match renL p fs,renL p cs with | some l,some l'=>some (.clo fn l l') | _,_=>none)
 | .top=>some .top
def renL (p:List Nat):List SV→Option (List SV)
 | []=>some []
 | s::l=>(match renSV p s,renL p l with | some a,some b=>some (a::b) | _,_=>none)
end
def leS (own:List Res)(p:List Nat)(s' s:SV):Prop:=s'=.top∨renSV p s'=some s∨renSV p s'=some (nrm own s)∨(s=.d (.val (.slice none 0 0))∧s'=.d (.sl []))
def leL (own:List Res)(p:List Nat):List SV→List SV→Prop
 | [],[]=>True
 | s'::l',s::l=>leS own p s' s∧leL own p l' l
 | _,_=>False
def leR (own:List Res)(p:List Nat)(x' x:Res):Prop :=
 match x',x with
 | .gone,_=>True
 | .fz es',.fz es=>es'=es
 | .row ty' sz' es',.row ty sz es=>ty'=ty∧sz'=sz∧es'=es
 | .cells cs' ty',.cells cs ty=>ty'=ty∧leL own p cs' cs
 | .fzc ds',.fzc ds=>ds'=ds
 | .mp mk' agg' es',.mp mk agg es=>mk'=mk∧agg'=agg∧es'=es
 | .mpf mk' es',.mpf mk es=>mk'=mk∧es'.map (·.1)=es.map (·.1)∧leL own p (es'.map (·.2)) (es.map (·.2))
 | _,_=>False
def leO (own:List Res)(p:List Nat):List Nat→List Res→Prop
 | [],[]=>True
 | r::q,x'::l'=>leR own p x' (getr own r)∧leO own p q l'
 | _,_=>False
section
variable {c:Cx}
def Cx.ren (c:Cx)(p:List Nat):Cx:={ θ:=fun r=>match p[r]? with | some r'=>c.θ r' | none=>.bool false,F:=c.F,N:=p.length }
mutual
theorem ren_rel {p:List Nat}(hp:∀ r∈p,r<c.N):∀ {s' s:SV}{u:Value},renSV p s'=some s→Rel c s u→Rel (c.ren p) s' u
 | .d d,s,u,h,hr=>by simp[renSV] at h;subst h;cases hr with | d h=>exact .d h
 | .agg cs,s,u,h,hr=>by
  simp only[renSV] at h;split at h
  ·rename_i l hl;cases h;obtain⟨us,rfl,h2⟩:=Rel.agg_iff.1 hr;exact Rel.agg_iff.2 ⟨us,rfl,renL_rel hp hl h2⟩
  ·cases h
 | .tup cs,s,u,h,hr=>by
  simp only[renSV] at h;split at h
  ·rename_i l hl;cases h;obtain⟨us,rfl,h2⟩:=Rel.tup_iff.1 hr;exact Rel.tup_iff.2 ⟨us,rfl,renL_rel hp hl h2⟩
  ·cases h
 | .ptr r off,s,u,h,hr=>by
  simp only[renSV] at h;split at h
  ·rename_i r' hr';cases h;cases hr with | ptr h1 h2=>exact .ptr (by simp only[Cx.ren];exact(qC.1 hr').1) (by simp only[Cx.ren,hr'];exact h2)
  ·cases h
 | .hd r,s,u,h,hr=>by
  simp only[renSV] at h;split at h
  ·rename_i r' hr';cases h;cases hr with | hd h1 h2=>exact .hd (by simp only[Cx.ren];exact(qC.1 hr').1) (by simp only[Cx.ren,hr'];exact h2)
  ·cases h
 | .fp ds,s,u,h,hr=>by simp[renSV] at h;subst h;cases hr with | fp h1 h2=>exact .fp h1 h2
 | .rp r sz i j,s,u,h,hr=>by
  simp only[renSV] at h;split at h
  ·rename_i r' hr';cases h;cases hr with | rp h1 h2=>exact .rp (by simp only[Cx.ren];exact(qC.1 hr').1) (by simp only[Cx.ren,hr'];exact h2)
  ·cases h
 | .clo fn fs cs,s,u,h,hr=>by
  simp only[renSV] at h;split at h
  ·rename_i l l' hl hl';cases h;obtain⟨us,vs,rfl,h2,h3⟩:=Rel.clo_iff.1 hr;exact Rel.clo_iff.2 ⟨us,vs,rfl,renL_rel hp hl h2,renL_rel hp hl' h3⟩
  ·cases h
 | .rs r sz i,s,u,h,hr=>by
  simp only[renSV] at h;split at h
  ·rename_i r' hr';cases h;cases hr with | rs h1 h2=>exact .rs (by simp only[Cx.ren];exact(qC.1 hr').1) (by simp only[Cx.ren,hr'];exact h2)
  ·cases h
 | .top,s,u,h,hr=>.top u
theorem renL_rel {p:List Nat}(hp:∀ r∈p,r<c.N):∀ {l' l:List SV}{us:List Value},renL p l'=some l→RelL c l us→RelL (c.ren p) l' us
 | [],l,us,h,hr=>by simp[renL] at h;subst h;rw[RelL.nil_iff.1 hr];exact .nil
 | s'::l',l,us,h,hr=>by
  simp only[renL] at h;split at h
  ·rename_i a b h1 h2;cases h;obtain⟨u,us',rfl,k1,k2⟩:=RelL.cons_iff.1 hr;exact .cons (ren_rel hp h1 k1) (renL_rel hp h2 k2)
  ·cases h
end
theorem leS_rel {own:List Res}{w:World}{p:List Nat}(hS:Sat c own w)(hp:∀ r∈p,r<c.N){s' s:SV}{u:Value}(h:leS own p s' s)(hr:Rel c s u):Rel (c.ren p) s' u:=by
 rcases h with rfl | h | h | ⟨rfl,rfl⟩
 ·exact .top u
 ·exact ren_rel hp h hr
 ·exact ren_rel hp h (nrm_rel hS hr)
 ·rw[hr.of_val];exact .d (.nil _ _ (fun _=>rfl))
theorem leL_len {own:List Res}{p:List Nat}:∀ {l' l:List SV},leL own p l' l→l'.length=l.length
 | [],[],_=>rfl
 | _::l',_::l,h=>by simp[leL_len h.2]
 | [],_::_,h=>h.elim
 | _::_,[],h=>h.elim
theorem leL_get {own:List Res}{p:List Nat}:∀ {l' l:List SV},leL own p l' l→∀ (i:Nat) s',l'[i]?=some s'→∃ s,l[i]?=some s∧leS own p s' s
 | [],[],_,i,s',h=>by simp at h
 | s0::l',t0::l,h,i,s',hi=>by
  cases i with
  | zero=>simp at hi;subst hi;exact⟨t0,rfl,h.1⟩
  | succ i=>simp at hi;obtain⟨s,h1,h2⟩:=leL_get h.2 i s' hi;exact⟨s,by simpa using h1,h2⟩
 | [],_::_,h,_,_,_=>h.elim
 | _::_,[],h,_,_,_=>h.elim
theorem leO_get {own:List Res}{p:List Nat}:∀ {q:List Nat}{l':List Res},leO own p q l'→l'.length=q.length∧∀ (i:Nat) x',l'[i]?=some x'→∃ r,q[i]?=some r∧leR own p x' (getr own r)
 | [],[],_=>⟨rfl,fun i x' h=>by simp at h⟩
 | r::q,x0::l',h=>by
  obtain⟨h1,h2⟩:=leO_get h.2;refine⟨by simp[h1],fun i x' hi=>?_⟩
  cases i with
  | zero=>simp at hi;subst hi;exact⟨r,rfl,h.1⟩
  | succ i=>simp at hi;obtain⟨r',k1,k2⟩:=h2 i x' hi;exact⟨r',by simpa using k1,k2⟩
 | [],_::_,h=>h.elim
 | _::_,[],h=>h.elim
def LNd (p:List Nat)(own':List Res):Prop:=∀ (i j r:Nat)(x y:Res),p[i]?=some r→p[j]?=some r→own'[i]?=some x→own'[j]?=some y→x.live=true→y.live=true→i=j
theorem LNd.of {p:List Nat}(hnd:p.Nodup)(own':List Res):LNd p own':=fun i j r x y h1 h2 _ _ _ _=>by
 have hi:=(qC.1 h1).1;exact(List.getElem?_inj hi hnd).1 (by rw[h1,h2])
theorem StLe.mkL {n0:Nat}{env env':List SV}{own own':List Res}(p:List Nat)(hnd:LNd p own')(hlt:∀ r∈p,r<own.length)(h0:∀ r,r<n0→p[r]?=some r)(hE:leL own p env' env)(hO:leO own p p own') :
  StLe n0 env own env' own':=by
 intro c a w hn hEnv hS;have hp:∀ r∈p,r<c.N:=fun r hr=>by rw[← hS.n];exact hlt r hr
 obtain⟨hol,hog⟩:=leO_get hO;have hres:∀ (i:Nat) x',own'[i]?=some x'→∃ r x,p[i]?=some r∧own[r]?=some x∧(c.ren p).θ i=c.θ r∧leR own p x' x:=fun i x' hi=>by
  obtain⟨r,h1,h2⟩:=hog i x' hi;have hr:r<own.length:=hlt r (qU h1);exact⟨r,own[r],h1,by simp[hr],by simp[Cx.ren,h1],by rw[getr_eq,qK hr] at h2;exact h2⟩
 have hlive:∀ x' x,leR own p x' x→x'.live=true→x.live=true:=fun x' x h hl=>by
  unfold leR at h;split at h<;>first | (simp[Res.live] at hl;done) | rfl | exact h.elim
 refine⟨c.ren p,⟨by rw[hEnv.size,leL_len hE],fun i s u hs hu=>?_⟩,⟨by simp[Cx.ren,hol],?_,?_,?_,hS.le,?_,hS.tab⟩,fun r hr=>by simp[Cx.ren,h0 r hr],?_,⟨rfl,rfl,rfl,qQ _,fun _ _ _=>rfl,fun _ h=>.inl h,?_,fun _ _ h=>h⟩⟩
 ·obtain⟨s0,h1,h2⟩:=leL_get hE i s hs;exact leS_rel hS hp h2 (hEnv.rel i s0 u h1 hu)
 ·intro i x' hi;obtain⟨r,x,h1,h2,h3,h4⟩:=hres i x' hi;rw[h3];have hx:=hS.res r x h2;unfold leR at h4;split at h4
  ·trivial
  ·subst h4;exact hx
  ·obtain⟨rfl,rfl,rfl⟩:=h4;exact hx
  ·rename_i cs' ty' cs ty;obtain⟨rfl,h4⟩:=h4;obtain⟨b,us,k1,k2,k3,k4⟩:=hx;refine⟨b,us,k1,k2,by rw[k3,leL_len h4],fun j s hj=>?_⟩;obtain⟨s0,m1,m2⟩:=leL_get h4 j s hj;obtain⟨u,n1,n2,n3⟩:=k4 j s0 m1;exact⟨u,n1,n2,leS_rel hS hp m2 n3⟩
  ·subst h4;exact ren_rel hp (s':=.fp _) rfl hx
  ·obtain⟨rfl,rfl,rfl⟩:=h4;exact hx
  ·rename_i mk' es' mk es;obtain⟨rfl,hk,h4⟩:=h4;obtain⟨b,ms,clock,k1,k2,k3,k4⟩:=hx;have hl:es'.length=es.length:=by have:=congrArg List.length hk;simpa using this
   refine⟨b,ms,clock,k1,k2,by rw[hl];exact k3,fun j k s hj=>?_⟩;obtain⟨s0,m1,m2⟩:=leL_get h4 j s (by rw[qI,hj];rfl);rw[qI,Option.map_eq_some_iff] at m1;obtain⟨⟨k',s0'⟩,q1,rfl⟩:=m1;have hkk:k'=k:=by
    have:=congrArg (fun l=>l[j]?) hk;simp only[qI,hj,q1,qS,qZ] at this;exact this.symm
   subst hkk;obtain⟨n1,m,n2,n3,n4⟩:=k4 j k' s0' q1;exact⟨n1,m,n2,n3,leS_rel hS hp m2 n4⟩
  ·exact h4.elim
 ·intro i j x y b hi hj hli hlj hbi hbj;obtain⟨r,x0,h1,h2,h3,h4⟩:=hres i x hi;obtain⟨s,y0,k1,k2,k3,k4⟩:=hres j y hj;rw[h3] at hbi;rw[k3] at hbj;have:=hS.apart r s x0 y0 b h2 k2 (hlive _ _ h4 hli) (hlive _ _ k4 hlj) hbi hbj;subst this;exact hnd i j r x y h1 k1 hi hj hli hlj
 ·intro i x b hi hl hb;obtain⟨r,x0,h1,h2,h3,h4⟩:=hres i x hi;rw[h3] at hb;exact hS.notF r x0 b h2 (hlive _ _ h4 hl) hb
 ·intro r;simp only[Cx.ren];split
  ·exact hS.one _
  ·rfl
 ·rcases Nat.eq_zero_or_pos n0 with h | h
  ·omega
  ·have:=(qC.1 (h0 (n0 - 1) (by omega))).1;simp only[Cx.ren];omega
 ·rintro b ⟨i,x,hi,hl,hb⟩;obtain⟨r,x0,h1,h2,h3,h4⟩:=hres i x hi;rw[h3] at hb;exact .inl ⟨r,x0,h2,hlive _ _ h4 hl,hb⟩
theorem StLe.mk {n0:Nat}{env env':List SV}{own own':List Res}(p:List Nat)(hnd:p.Nodup)(hlt:∀ r∈p,r<own.length)(h0:∀ r,r<n0→p[r]?=some r)(hE:leL own p env' env)(hO:leO own p p own') :
  StLe n0 env own env' own':=StLe.mkL p (LNd.of hnd own') hlt h0 hE hO
theorem StLe.trans {n0:Nat}{e1 e2 e3:List SV}{o1 o2 o3:List Res}(h:StLe n0 e1 o1 e2 o2)(k:StLe n0 e2 o2 e3 o3):StLe n0 e1 o1 e3 o3:=by
 intro c a w hn hE hS;obtain⟨c1,h1,h2,h3,h4,h5⟩:=h c a w hn hE hS;obtain⟨c2,k1,k2,k3,k4,k5⟩:=k c1 a w h4 h1 h2;exact⟨c2,k1,k2,fun r hr=>(k3 r hr).trans (h3 r hr),k4,h5.trans k5⟩
theorem StLe.row {n0:Nat}{env:List SV}{own:List Res}(i:Nat)(ty sz:Nat)(hi:geti env i=.d (.val (.slice none 0 0))):StLe n0 env own (seti env i (.hd own.length)) (own++[.row ty sz []]):=by
 intro c a w hn hE hS;obtain⟨k1,k2,k3⟩:=hS.push (w':=w) none own rfl (fun s y hy=>.inr ⟨hy,fun _ b hb=>by cases hb⟩) (fun b hb=>by cases hb) rfl rfl rfl (qQ _) (fun _ _ _=>rfl) (.slice none 0 0) (.row ty sz []) rfl (fun b hb=>by simp[blkOf] at hb)
  ⟨by simp,[],World.ownsRow_nil w 0 ty sz,by simp⟩
 refine⟨c.push (.slice none 0 0),⟨?_,fun j s u hs hu=>?_⟩,k1,fun r hr=>k2.t r (by omega),Nat.le_trans hn k2.n,k3⟩
 ·rw[seti_eq];simp[hE.size]
 ·rw[seti_eq,List.getElem?_set] at hs;split at hs
  ·rename_i e;subst e;split at hs
   ·rename_i hlt;cases hs;have he:env[i]?=some (.d (.val (.slice none 0 0))):=by
     rw[geti_eq,qK hlt] at hi;rw[qK hlt];simpa using hi
    have:=(hE.rel i _ u he hu).of_val;subst this;exact .hd (by simp[Cx.push,hS.n]) (by simp[Cx.push,hS.n])
   ·cases hs
  ·exact(hE.rel j s u hs hu).mono k2
end
end Go.SX
namespace Go.SX
open Go
variable [Tabs]
def FCallN (P:Program)(f:FuncId)(own:List Res)(args:List SV)(R:SV→Prop):Prop:=∃ sv,SCall P f own args (fun sv' own'=>sv'=sv∧own'=own)∧R sv
def FCallVN (P:Program)(x:SV)(own:List Res)(args:List SV)(R:SV→Prop):Prop :=
 match x with
 | .clo (.func f) first cap=>FCallN P f own (first++args++cap) R
 | _=>False
theorem ArgLe.map {own1:List Res}{args:List SV}(g:SV→SV)(hg:∀ (c:Cx)(w:World) s u,Sat c own1 w→Rel c s u→Rel c (g s) u):ArgLe own1 args (args.map g):=fun c w us hS hr=>⟨by rw[hr.1,qO],fun i s u hs hu=>by
 rw[qI,Option.map_eq_some_iff] at hs;obtain⟨s0,hs0,rfl⟩:=hs;exact hg c w s0 u hS (hr.2 i s0 u hs0 hu)⟩
theorem ArgLe.nrm (own1:List Res)(args:List SV):ArgLe own1 args (args.map (nrm own1)):=.map _ fun _ _ _ _ hS h=>nrm_rel hS h
theorem CallN.frz {P:Program}{f:FuncId}{own:List Res}{args:List SV}{K:SV→List Res→Prop}(h:SCall P f (frzL own args) (args.map (nrm (frzL own args))) K):CallN P f own args K:=⟨_,_,fun _ _ hS=>frzL_ok args hS,.nrm _ _,h⟩
theorem FCallN.mk {P:Program}{f:FuncId}{own:List Res}{args:List SV}{R:SV→Prop}{sv:SV}(h:SCall P f own args (fun sv' own'=>sv'=sv∧own'=own))(hR:R sv):FCallN P f own args R:=⟨sv,h,hR⟩
theorem CallN.fn {P:Program}{f:FuncId}{own:List Res}{args:List SV}{K:SV→List Res→Prop}{sv:SV}(h:SCall P f own args (fun sv' own'=>sv'=sv∧own'=own))(hK:K sv own):CallN P f own args K :=
 .own (h.mono fun sv' own' ⟨h1,h2⟩=>by subst h1;subst h2;exact hK)
@[reducible] def SV.i (n:Int):SV:=.d (.val (.int .i64 n))
@[reducible] def SV.b (b:Bool):SV:=.d (.val (.bool b))
mutual
def SV.closed : SV→Bool
 | .d _ | .fp _ | .top=>true
 | .agg cs=>closedL cs
 | .tup cs=>closedL cs
 | .clo _ fs cs=>closedL fs&&closedL cs
 | .ptr .. | .hd _ | .rp .. | .rs ..=>false
def closedL : List SV→Bool
 | []=>true
 | s::l=>SV.closed s&&closedL l
end
mutual
theorem closed_rel {c c':Cx}(hF:∀ b o,c.F b=some o→c'.F b=some o):∀ {s:SV}{u:Value},s.closed=true→Rel c s u→Rel c' s u
 | .d d,u,_,h=>by cases h with | d h=>exact .d (h.mono hF)
 | .fp ds,u,_,h=>by cases h with | fp h1 h2=>exact .fp (hF _ _ h1) (fun j d hj=>let ⟨u,k1,k2⟩:=h2 j d hj;⟨u,k1,k2.mono hF⟩)
 | .top,u,_,h=>.top u
 | .agg cs,u,hc,h=>by
  obtain⟨us,rfl,h2⟩:=Rel.agg_iff.1 h;exact Rel.agg_iff.2 ⟨us,rfl,closedL_rel hF hc h2⟩
 | .tup cs,u,hc,h=>by
  obtain⟨us,rfl,h2⟩:=Rel.tup_iff.1 h;exact Rel.tup_iff.2 ⟨us,rfl,closedL_rel hF hc h2⟩
 | .clo fn fs cs,u,hc,h=>by
  obtain⟨us,vs,rfl,h2,h3⟩:=Rel.clo_iff.1 h;simp only[SV.closed,qJ] at hc;exact Rel.clo_iff.2 ⟨us,vs,rfl,closedL_rel hF hc.1 h2,closedL_rel hF hc.2 h3⟩
 | .ptr r off,u,hc,h=>by simp[SV.closed] at hc
 | .hd r,u,hc,h=>by simp[SV.closed] at hc
 | .rp r sz i j,u,hc,h=>by simp[SV.closed] at hc
 | .rs r sz i,u,hc,h=>by simp[SV.closed] at hc
theorem closedL_rel {c c':Cx}(hF:∀ b o,c.F b=some o→c'.F b=some o):∀ {l:List SV}{us:List Value},closedL l=true→RelL c l us→RelL c' l us
 | [],us,_,h=>by rw[RelL.nil_iff.1 h];exact .nil
 | s::l,us,hc,h=>by
  obtain⟨u,us',rfl,h1,h2⟩:=RelL.cons_iff.1 h;simp only[closedL,qJ] at hc;exact .cons (closed_rel hF hc.1 h1) (closedL_rel hF hc.2 h2)
end
section
variable {P:Program}{f:FuncId}
theorem Sat.empty {c:Cx}{own:List Res}{w:World}(h:Sat c own w):Sat { c with N:=0 } [] w :=
 ⟨rfl,fun r x hx=>by simp at hx,fun r s x y b hx=>by simp at hx,fun r x b hx=>by simp at hx,h.le,h.one,h.tab⟩
theorem SCall.fn {own:List Res}{args:List SV}{s:SV}(h:SCall P f [] args (fun sv _=>sv=s))(ha:closedL args=true)(hs:s.closed=true) :
  SCall P f own args (fun sv own'=>sv=s∧own'=own):=by
 refine⟨h.1,fun c w us hS hr=>?_⟩;refine(h.2 { c with N:=0 } w us hS.empty (closedL_rel (c:=c) (c':={ c with N:=0 }) (fun _ _ h=>h) ha hr)).mono ?_;rintro e w' ⟨c',own',sv,u,rfl,h2,h3,h4,h5,rfl⟩;have hno:∀ b,¬ Own { c with N:=0 } [] b:=fun b ⟨r,x,hx,_⟩=>by simp at hx
 have hkeep:∀ b,b<w.heap.size→w'.heap[b]?=w.heap[b]?:=fun b hb=>h5.keep b hb (hno b)
 have hnew:∀ b,c'.F b≠none→c.F b≠none∨w.heap.size≤b:=fun b hb=>by
  rcases h5.newF b hb with h | h | h
  ·exact .inl h
  ·exact .inr h
  ·exact(hno b h).elim
 have hle:c.le { θ:=c.θ,F:=c'.F,N:=c.N }:=⟨qQ _,fun _ _=>rfl,h5.f⟩;refine⟨{ θ:=c.θ,F:=c'.F,N:=c.N },own,sv,u,rfl,closed_rel (c:=c') (c':={ θ:=c.θ,F:=c'.F,N:=c.N }) (fun _ _ h=>h) hs h2,hS.on hle rfl hS.one hkeep h3.le hnew,hle,
  ⟨h5.os,h5.tape,h5.output,h5.size,fun b hb _=>hkeep b hb,fun b hb=>(hnew b hb).elim .inl (fun h=>.inr (.inl h)),fun b hb=>.inl hb,h5.f⟩,rfl,rfl⟩
end
mutual
def shS (n:Nat):SV→SV
 | .d d=>.d d
 | .agg cs=>.agg (shL n cs)
 | .tup cs=>.tup (shL n cs)
 | .ptr r off=>.ptr (r+n) off
 | .hd r=>.hd (r+n)
 | .fp ds=>.fp ds
 | .rp r sz i j=>.rp (r+n) sz i j
 | .rs r sz i=>.rs (r+n) sz i
 | .clo fn fs cs=>.clo fn (shL n fs) (shL n cs)
 | .top=>.top
def shL (n:Nat):List SV→List SV
 | []=>[]
 | s::l=>shS n s::shL n l
end
def shR (n:Nat):Res→Res
 | .cells cs ty=>.cells (shL n cs) ty
 | .mpf mk es=>.mpf mk (es.map fun p=>(p.1,shS n p.2))
 | x=>x
theorem shL_len (n:Nat):∀ l:List SV,(shL n l).length=l.length
 | []=>rfl
 | _::l=>by simp[shL,shL_len n l]
theorem shL_get (n:Nat):∀ (l:List SV)(i:Nat),(shL n l)[i]?=(l[i]?).map (shS n)
 | [],i=>by simp[shL]
 | s::l,0=>by simp[shL]
 | s::l,i+1=>by simp[shL,shL_get n l i]
mutual
theorem sh_rel {c c':Cx}{n:Nat}(hF:c'.F=c.F)(hN:c'.N=n+c.N)(hθ:∀ r,c'.θ (r+n)=c.θ r):∀ {s:SV}{u:Value},Rel c s u→Rel c' (shS n s) u
 | .d d,u,h=>by cases h with | d h=>exact .d (by rw[hF];exact h)
 | .fp ds,u,h=>by cases h with | fp h1 h2=>exact .fp (by rw[hF];exact h1) (by rw[hF];exact h2)
 | .top,u,h=>.top u
 | .agg cs,u,h=>by
  obtain⟨us,rfl,h2⟩:=Rel.agg_iff.1 h;exact Rel.agg_iff.2 ⟨us,rfl,shL_rel hF hN hθ h2⟩
 | .tup cs,u,h=>by
  obtain⟨us,rfl,h2⟩:=Rel.tup_iff.1 h;exact Rel.tup_iff.2 ⟨us,rfl,shL_rel hF hN hθ h2⟩
 | .clo fn fs cs,u,h=>by
  obtain⟨us,vs,rfl,h2,h3⟩:=Rel.clo_iff.1 h;exact Rel.clo_iff.2 ⟨us,vs,rfl,shL_rel hF hN hθ h2,shL_rel hF hN hθ h3⟩
 | .ptr r off,u,h=>by cases h with | ptr h1 h2=>exact .ptr (by rw[hN];omega) (by rw[hθ];exact h2)
 | .hd r,u,h=>by cases h with | hd h1 h2=>exact .hd (by rw[hN];omega) (by rw[hθ];exact h2)
 | .rp r sz i j,u,h=>by cases h with | rp h1 h2=>exact .rp (by rw[hN];omega) (by rw[hθ];exact h2)
 | .rs r sz i,u,h=>by cases h with | rs h1 h2=>exact .rs (by rw[hN];omega) (by rw[hθ];exact h2)
theorem shL_rel {c c':Cx}{n:Nat}(hF:c'.F=c.F)(hN:c'.N=n+c.N)(hθ:∀ r,c'.θ (r+n)=c.θ r):∀ {l:List SV}{us:List Value},RelL c l us→RelL c' (shL n l) us
 | [],us,h=>by rw[RelL.nil_iff.1 h];exact .nil
 | s::l,us,h=>by
  obtain⟨u,us',rfl,h1,h2⟩:=RelL.cons_iff.1 h;exact .cons (sh_rel hF hN hθ h1) (shL_rel hF hN hθ h2)
end
section
variable {P:Program}{f:FuncId}
theorem SCall.frame {own:List Res}{args:List SV}{K:SV→List Res→Prop}(h:SCall P f [] args K)(ha:closedL args=true) :
  SCall P f own args (fun sv own'=>∃ sv0 own0,K sv0 own0∧sv=shS own.length sv0∧own'=own++own0.map (shR own.length)):=by
 refine⟨h.1,fun c w us hS hr=>?_⟩;refine(h.2 { c with N:=0 } w us hS.empty (closedL_rel (c:=c) (c':={ c with N:=0 }) (fun _ _ h=>h) ha hr)).mono ?_;rintro e w' ⟨c1,own1,sv,u,rfl,h2,h3,h4,h5,h6⟩;have hno:∀ b,¬ Own { c with N:=0 } [] b:=fun b ⟨r,x,hx,_⟩=>by simp at hx
 have hkeep:∀ b,b<w.heap.size→w'.heap[b]?=w.heap[b]?:=fun b hb=>h5.keep b hb (hno b)
 have hnew:∀ b,c1.F b≠none→c.F b≠none∨w.heap.size≤b:=fun b hb=>by
  rcases h5.newF b hb with h | h | h
  ·exact .inl h
  ·exact .inr h
  ·exact(hno b h).elim
 have hnewO:∀ b,Own c1 own1 b→w.heap.size≤b:=fun b hb=>(h5.newO b hb).elim (fun h=>(hno b h).elim) id
 let n:=own.length
 have hn:c.N=n:=hS.n.symm
 let c2:Cx:={ θ:=fun r=>if r<n then c.θ r else c1.θ (r - n),F:=c1.F,N:=n+c1.N }
 have hθ1:∀ r,r<n→c2.θ r=c.θ r:=fun r hr=>by simp[c2,hr]
 have hθ2:∀ r,c2.θ (r+n)=c1.θ r:=fun r=>by simp only[c2];rw[if_neg (by omega),Nat.add_sub_cancel]
 have hle:c.le c2:=⟨by rw[hn];exact Nat.le_add_right _ _,fun r hr=>hθ1 r (by rw[← hn];exact hr),h5.f⟩;have hget:∀ (r:Nat) x,(own++own1.map (shR n))[r]?=some x→(r<n∧own[r]?=some x)∨∃ q y,r=q+n∧own1[q]?=some y∧x=shR n y:=fun r x hx=>by
  rw[List.getElem?_append] at hx;split at hx
  ·exact .inl ⟨by assumption,hx⟩
  ·rename_i hge;rw[qI,Option.map_eq_some_iff] at hx;obtain⟨y,hy,rfl⟩:=hx;exact .inr ⟨r - n,y,by omega,hy,rfl⟩
 have hlive:∀ y,(shR n y).live=y.live:=fun y=>by cases y<;>rfl
 refine⟨c2,own++own1.map (shR n),shS n sv,u,rfl,sh_rel (c:=c1) (c':=c2) rfl rfl hθ2 h2,⟨by simp[c2,n,h3.n],?_,?_,?_,?_,?_,h3.tab⟩,hle,⟨h5.os,h5.tape,h5.output,h5.size,fun b hb _=>hkeep b hb,fun b hb=>(hnew b hb).elim .inl (fun h=>.inr (.inl h)),?_,h5.f⟩,sv,own1,h6,rfl,rfl⟩
 ·intro r x hx;rcases hget r x hx with ⟨hr,hx⟩ | ⟨q,y,rfl,hy,rfl⟩
  ·rw[hθ1 r hr];exact(hS.res r x hx).keep hle fun hl b hb=>hkeep b (hS.blk_lt ⟨r,x,hx,hl,hb⟩)
  ·rw[hθ2];have:=h3.res q y hy
   cases y with
   | gone=>trivial
   | fz es=>exact this
   | fzc ds=>exact sh_rel (c:=c1) (c':=c2) (n:=n) (s:=.fp ds) rfl rfl hθ2 this
   | row ty sz es=>exact this
   | mp mk agg es=>exact this
   | mpf mk es =>
    obtain⟨b,ms,clock,k1,k2,k3,k4⟩:=this;refine⟨b,ms,clock,k1,k2,by rw[qO];exact k3,fun i k s hi=>?_⟩;rw[qI,Option.map_eq_some_iff] at hi;obtain⟨⟨k',s0⟩,hs0,e⟩:=hi;cases e;obtain⟨n1,m,n2,n3,n4⟩:=k4 i k' s0 hs0;exact⟨n1,m,n2,n3,sh_rel (c:=c1) (c':=c2) (n:=n) rfl rfl hθ2 n4⟩
   | cells cs ty =>
    obtain⟨b,us,k1,k2,k3,k4⟩:=this;refine⟨b,us,k1,k2,by rw[shL_len];exact k3,fun i s hi=>?_⟩;rw[shL_get,Option.map_eq_some_iff] at hi;obtain⟨s0,hs0,rfl⟩:=hi;obtain⟨u,m1,m2,m3⟩:=k4 i s0 hs0;exact⟨u,m1,m2,sh_rel (c:=c1) (c':=c2) rfl rfl hθ2 m3⟩
 ·intro r s x y b hx hy hlx hly hbx hby
  rcases hget r x hx with ⟨hr,hx⟩ | ⟨q,x',rfl,hx',rfl⟩
  ·rw[hθ1 r hr] at hbx;rcases hget s y hy with ⟨hs,hy⟩ | ⟨q',y',rfl,hy',rfl⟩
   ·rw[hθ1 s hs] at hby
    exact hS.apart r s x y b hx hy hlx hly hbx hby
   ·rw[hθ2] at hby
    have h1:=hS.blk_lt ⟨r,x,hx,hlx,hbx⟩;have h2:=hnewO b ⟨q',y',hy',by rw[← hlive];exact hly,hby⟩;omega
  ·rw[hθ2] at hbx;rcases hget s y hy with ⟨hs,hy⟩ | ⟨q',y',rfl,hy',rfl⟩
   ·rw[hθ1 s hs] at hby
    have h1:=hS.blk_lt ⟨s,y,hy,hly,hby⟩;have h2:=hnewO b ⟨q,x',hx',by rw[← hlive];exact hlx,hbx⟩;omega
   ·rw[hθ2] at hby
    rw[h3.apart q q' x' y' b hx' hy' (by rw[← hlive];exact hlx) (by rw[← hlive];exact hly) hbx hby]
 ·intro r x b hx hl hb;rcases hget r x hx with ⟨hr,hx⟩ | ⟨q,y,rfl,hy,rfl⟩
  ·rw[hθ1 r hr] at hb;have h0:=hS.notF r x b hx hl hb;show c1.F b=none
   cases hc:c1.F b with
   | none=>rfl
   | some o =>
    rcases hnew b (by simp[hc]) with h | h
    ·exact absurd h0 h
    ·have:=hS.blk_lt ⟨r,x,hx,hl,hb⟩;omega
  ·rw[hθ2] at hb;exact h3.notF q y b hy (by rw[← hlive];exact hl) hb
 ·exact h3.le
 ·intro r;simp only[c2];split
  ·exact hS.one r
  ·exact h3.one _
 ·rintro b ⟨r,x,hx,hl,hb⟩;rcases hget r x hx with ⟨hr,hx⟩ | ⟨q,y,rfl,hy,rfl⟩
  ·rw[hθ1 r hr] at hb;exact .inl ⟨r,x,hx,hl,hb⟩
  ·rw[hθ2] at hb;exact .inr (hnewO b ⟨q,y,hy,by rw[← hlive];exact hl,hb⟩)
end
def dI (n:Int):List D:=[.val (.int .i64 n)]
def dB (b:Bool):List D:=[.val (.bool b)]
def dL (l:List Int):List D:=[.sl (l.map dI)]
@[reducible] def SV.ints (l:List Int):SV:=.d (.sl (l.map dI))
@[reducible] def SV.bools (l:List Bool):SV:=.d (.sl (l.map dB))
@[reducible] def SV.lists (l:List (List Int)):SV:=.d (.sl (l.map dL))
end Go.SX
