/- Parts of the proof. -/
import Derived.Test.YtllbabjgpdmblaaGreatDoorZSxA
set_option linter.unusedSimpArgs false
set_option linter.unusedVariables false
set_option linter.unusedSectionVars false
namespace Go.SX
open Go
variable [Tabs]
theorem BK (b off j:Nat):(⟨b,off,none⟩:Addr).add j=⟨b,off+j,none⟩:=by
 unfold Addr.add;split
 ·subst_vars;rfl
 ·rfl
theorem xe1 {α β:Type}{p:Nat->α->β->Prop}(l:List α)(h:∀ (j:Nat) s,l[j]?=some s->∃ u,p j s u) :
  ∃ us:List β,us.length=l.length/\∀ (j:Nat) s u,l[j]?=some s->us[j]?=some u->p j s u:=by
 induction l generalizing p with
 |nil=>exact⟨[],rfl,fun j s u hj=>by simp at hj⟩
 |cons a l ih =>
  obtain⟨u,hu⟩:=h 0 a rfl;obtain⟨us,hl,hus⟩:=ih (p:=fun j=>p (j+1)) (fun j s hj=>h (j+1) s (by simpa using hj));refine⟨u::us,by simp[hl],fun j s v hs hv=>?_⟩
  cases j with
  |zero=>simp at hs hv;subst hs;subst hv;exact hu
  |succ j=>simp at hs hv;exact hus j s v hs hv
section
variable {P:Program}{c:Cx}{own:List ak}{env:List SV}{a:Act}{w:World}
theorem np1 {b off:Nat}(l:List SV)(h:∀ (j:Nat) s,l[j]?=some s->∃ u,w.cell? ⟨b,off+j,none⟩=some u/\Rel c s u) :
  ∃ us,(loadCells ⟨b,off,none⟩ l.length).run P w=.ok us.toArray w/\dP c l us:=by
 obtain⟨us,hl,hus⟩:=xe1 l h;refine⟨us,?_,hl,fun j s u h1 h2=>(hus j s u h1 h2).2⟩;have:=run_loadCells_list (P:=P) w ⟨b,off,none⟩ us (fun j v hv=>by
  have hj:j<l.length:=by rw[<- hl];exact(qA.1 hv).1
  rw[BK];exact(hus j l[j] v (by simp[hj]) hv).1)
 rwa [hl] at this
def sees (own:List ak):SV->Option (List SV)
 | .ptr r k=>(match bG own r with | .cells cs _=>some (cs.drop k)|_=>none)
 | .fp ds=>some (ds.map .d)
 |_=>none
theorem gv1 (hS:Sat c own w){s:SV}{u:Value}{l:List SV}(hr:Rel c s u)(hl:sees own s=some l) :
  ∃ b off,u=.pointer (some ⟨b,off,none⟩)/\∀ (j:Nat) s,l[j]?=some s->∃ u,w.cell? ⟨b,off+j,none⟩=some u/\Rel c s u:=by
 cases hr with
 |@ptr r off b hr h =>
  simp only[sees,nV] at hl
  cases hx:own[r]? with
  |none=>simp[hx] at hl
  |some x =>
   simp only[hx,Option.getD_some] at hl
   cases x with
   |gone=>simp at hl
   |fz=>simp at hl
   |wz=>simp at hl
   |row=>simp at hl
   |mp=>simp at hl
   |kC=>simp at hl
   |cells cs ty =>
    simp at hl;subst hl;obtain⟨b',us,hv,hb,hs,hc⟩:=hS.res r _ hx;rw[h] at hv;simp at hv;subst hv;refine⟨b,off,rfl,fun j s hj=>?_⟩;rw[List.getElem?_drop] at hj;obtain⟨u,h1,_,h3⟩:=hc (off+j) s hj;exact⟨u,by rw[cell_of_row w b _ _ _ _ hb];exact h1,h3⟩
 |@fp b off cs e fr ds hF h =>
  simp[sees] at hl;subst hl;refine⟨b,off,rfl,fun j s hj=>?_⟩;simp at hj;obtain⟨d,hd,rfl⟩:=hj;obtain⟨u,h1,h2⟩:=h j d hd;exact⟨u,by rw[cell_of_row w b _ _ _ _ (hS.le b _ hF)];exact h1,.d h2⟩
 |_=>simp[sees] at hl
theorem yg1 {t:TypeId}{d:TypeDesc}(h:P.underlying t=some d):(isAgg t).run P w=.ok (wQ d) w:=by
 unfold isAgg;rw[qG,run_underlying h w];cases d<;>rfl
theorem run_sizeOf {t s:Nat}(h:lu P t=some s):(sizeOf t).run P w=.ok s w:=by
 unfold lu at h
 cases hq:P.info? t with
 |none=>simp[hq] at h
 |some i=>simp[hq] at h;simp[sizeOf,typeInfo,hq,h]
def takes (s:Nat)(agg:Bool)(l:List SV)(sv:SV):Prop:=if agg then ∃ l',takeN s l=some l'/\sv=.agg l' else l[0]?=some sv
theorem mp1 {α β:Type}(f:α->β):∀ (n:Nat)(l l':List α),takeN n l=some l'->takeN n (l.map f)=some (l'.map f):=by
 intro n;induction n with
 |zero=>intro l l' h;simp[takeN] at h ⊢;exact h
 |succ n ih =>
  intro l l' h
  cases l with
  |nil=>simp[takeN] at h
  |cons a l =>
   simp only[takeN] at h
   cases hh:takeN n l with
   |none=>simp[hh] at h
   |some r=>simp[hh] at h;subst h;simp[takeN,ih _ _ hh]
theorem aa0 {own:List ak}{s:Nat}{agg:Bool}{x sv:SV}(hl:BH own s agg x=some sv):∃ l,sees own x=some l/\takes s agg l sv:=by
 unfold takes
 cases x with
 |ptr r k =>
  simp only[BH] at hl;simp only[sees];split at hl
  ·rename_i cs ty hg;rw[hg];refine⟨_,rfl,?_⟩;split
   ·rename_i hb;simp only[hb,if_true] at hl
    cases ht:takeN s (cs.drop k) with
    |none=>simp[ht] at hl
    |some l=>simp[ht] at hl;exact⟨l,rfl,hl.symm⟩
   ·rename_i hb;simp only[hb] at hl;simpa using hl
  ·simp at hl
 |fp ds =>
  simp only[BH] at hl;refine⟨_,rfl,?_⟩;split
  ·rename_i hb;simp only[hb,if_true] at hl
   cases ht:takeN s ds with
   |none=>simp[ht] at hl
   |some l =>
    simp[ht] at hl;exact⟨_,mp1 _ _ _ _ ht,hl.symm⟩
  ·rename_i hb;simp only[hb] at hl
   cases ds with
   |nil=>simp at hl
   |cons d ds=>simpa using hl
 |_=>simp[BH] at hl
theorem yx2 {t s b off:Nat}{d:TypeDesc}(hs:lu P t=some s)(hd:P.underlying t=some d){l:List SV}{sv:SV}
  (hc:∀ (j:Nat) s,l[j]?=some s->∃ u,w.cell? ⟨b,off+j,none⟩=some u/\Rel c s u) (hk:takes s (wQ d) l sv) :
  ∃ v,(Instr.loadAt t (.pointer (some ⟨b,off,none⟩))).run P w=.ok v w/\Rel c sv v:=by
 unfold takes at hk;simp only[Instr.loadAt,Instr.sureAddr,loadVar,qG,Sem.run_pure,qE,yg1 hd];split at hk
 ·rename_i hb;obtain⟨l',ht,rfl⟩:=hk;obtain⟨h1,h2⟩:=iw1 _ _ _ ht;obtain⟨us,hrun,hrel⟩:=np1 (P:=P) (w:=w) (b:=b) (off:=off) (c:=c) l' (fun j s hj=>by
   subst h1;rw[List.getElem?_take] at hj;split at hj
   ·exact hc j s hj
   ·simp at hj)
  rw[h2] at hrun;refine⟨.agg us.toArray,?_,Rel.tH.2 ⟨us,rfl,hrel⟩⟩;simp only[hb,if_true,qG,run_sizeOf hs,qE,hrun,Sem.run_pure]
 ·rename_i hb;obtain⟨u,h1,h2⟩:=hc 0 sv hk;refine⟨u,?_,h2⟩;simp only[Nat.add_zero] at h1;simp only[hb,Bool.false_eq_true,if_false,run_load,h1]
theorem ae0 (hS:Sat c own w){t s:Nat}{d:TypeDesc}(hs:lu P t=some s)(hd:P.underlying t=some d){x:SV}{u:Value}{sv:SV}(hr:Rel c x u)
  (hl:BH own s (wQ d) x=some sv):∃ v,(Instr.loadAt t u).run P w=.ok v w/\Rel c sv v:=by
 obtain⟨l,yK,hk⟩:=aa0 hl;obtain⟨b,off,rfl,hc⟩:=gv1 hS hr yK;exact yx2 hs hd hc hk
theorem sn1 {op:BinOp}{x y sv:SV}{u v:Value}{t:TypeId}(hx:Rel c x u)(hy:Rel c y v)(h:Il op x y=some sv) :
  ∃ r,(binOp op t u v).run P w=.ok r w/\Rel c sv r:=by
 unfold Il at h;split at h
 ·rename_i k a' k' b';obtain rfl:=hx.gB;obtain rfl:=hy.gB;have fin:∀ z,some (SV.d (.val z))=some sv->z.oneCell'=true->Rel c sv z:=fun z hz h1=>by cases hz;exact .d (.val _ h1)
  split at h
  ·split at h
   ·simp at h
   ·rename_i hb;exact⟨_,by simp[binOp,Op.shift,hb],fin _ h rfl⟩
  ·split at h
   ·simp at h
   ·rename_i hb;exact⟨_,by simp[binOp,Op.shift,hb],fin _ h rfl⟩
  ·rename_i h1 h2;split at h
   ·simp at h
   ·rename_i hk;have hk:k=k':=by simpa using hk
    subst hk;cases op<;>first
     |exact(h1 rfl).elim
     |exact(h2 rfl).elim
     |(simp at h;done)
     |(refine⟨_,?_,fin _ h rfl⟩;simp[binOp,Op.intArith,Op.intCmp,Op.intBits];done)
     |(refine⟨_,?_,fin _ h rfl⟩;simp[binOp,Op.intCmp];rfl)
 ·rename_i a' b';obtain rfl:=hx.gB;obtain rfl:=hy.gB;have fin:∀ z,some (SV.d (.val z))=some sv->z.oneCell'=true->Rel c sv z:=fun z hz h1=>by cases hz;exact .d (.val _ h1)
  cases op<;>first
   |(simp at h;done)
   |(refine⟨_,?_,fin _ h rfl⟩;simp[binOp,Op.stringOp];done)
 ·simp at h
theorem vy1 {x y z sv:SV}{u v t:Value}(hx:Rel c x u)(hy:Rel c y v)(hz:Rel c z t)(h:Ld x y z=some sv) :
  ∃ b,u=.bool b/\Rel c sv (if b then v else t):=by
 unfold Ld at h;split at h
 ·rename_i b p q;obtain rfl:=hx.gB;obtain rfl:=hy.gB;obtain rfl:=hz.gB;cases h;refine⟨b,rfl,?_⟩;cases b<;>exact .d (.val _ rfl)
 ·rename_i b _;obtain rfl:=hx.gB;cases h;refine⟨b,rfl,?_⟩;cases b
  ·exact hz
  ·exact hy
 ·simp at h
theorem vd1 {off:Nat}{x sv:SV}{u:Value}(hx:Rel c x u)(h:GU off x=some sv) :
  ∃ b k,u=.pointer (some ⟨b,k,none⟩)/\Rel c sv (.pointer (some ⟨b,k+off,none⟩)):=by
 cases hx with
 |@ptr r k b hr ht=>simp[GU] at h;subst h;exact⟨b,k,rfl,.ptr hr ht⟩
 |@fp b k cs e fr ds hF hh =>
  simp[GU] at h;subst h;refine⟨b,k,rfl,.fp hF fun j d hj=>?_⟩;rw[List.getElem?_drop] at hj;obtain⟨u,h1,h2⟩:=hh (off+j) d hj;exact⟨u,by rw[Nat.add_assoc];exact h1,h2⟩
 |@rp r sz i j b n cap hr ht=>simp[GU] at h;subst h;exact⟨b,i * sz+j,rfl,by rw[Nat.add_assoc];exact .rp hr ht⟩
 |_=>simp[GU] at h
theorem ic0 {t s off:Nat}{d:TypeDesc}(hs:lu P t=some s)(hd:P.underlying t=some d){x sv:SV}{u:Value}(hr:Rel c x u)
  (h:GR off s (wQ d) x=some sv):∃ us v,u=.agg us/\(part t us off).run P w=.ok v w/\Rel c sv v:=by
 cases hr with
 |@agg cs us hl hh =>
  simp only[GR] at h
  suffices hx:∃ v,(part t us off).run P w=.ok v w/\Rel c sv v from let ⟨v,h1,h2⟩:=hx;⟨us,v,rfl,h1,h2⟩
  unfold part;simp only[qG,yg1 hd,qE];split at h
  ·rename_i hb;cases h;simp only[hb,if_true,qG,run_sizeOf hs,qE,Sem.run_pure];refine⟨_,rfl,.agg ?_ fun i s' u' hi hu=>?_⟩
   ·simp;omega
   ·rw[List.getElem?_take] at hi;split at hi
    ·rename_i hlt;rw[List.getElem?_drop] at hi;rw[Array.getElem?_extract] at hu;split at hu
     ·exact hh _ _ _ hi hu
     ·simp at hu
    ·simp at hi
  ·rename_i hb;have hlt:off<cs.length:=(qA.1 h).1;have hu:us[off]?=some us[off]:=by simp[hl,hlt]
   refine⟨us[off]'(by omega),?_,hh off sv _ h hu⟩;simp[hb,hu]
 |_=>simp[GR] at h
theorem if0 (hS:Sat c own w){x sv:SV}{u:Value}{t ty:TypeId}{str:Bool}(ht:if str then P.underlying t=some .string else ∃ e,P.underlying t=some (.slice e))(hr:Rel c x u)
  (h:slen own str x=some sv):∃ v,(Builtin.len_ #[t] ty #[u]).run P w=.ok v w/\Rel c sv v:=by
 unfold slen at h;split at h
 ·rename_i es;cases str
  ·simp at h ht;obtain⟨e,ht⟩:=ht;subst h;cases hr with|d hr =>
   cases hr with
   |nil a k _=>exact⟨_,by simp[Builtin.len_,run_underlying ht];rfl,.d (.val _ rfl)⟩
   |sl=>exact⟨_,by simp[Builtin.len_,run_underlying ht];rfl,.d (.val _ rfl)⟩
  ·simp at h
 ·rename_i n _;obtain rfl:=hr.gB;cases str
  ·simp at h ht;obtain⟨e,ht⟩:=ht;subst h;exact⟨_,by simp[Builtin.len_,run_underlying ht];rfl,.d (.val _ rfl)⟩
  ·simp at h
 ·obtain rfl:=hr.gB;cases str
  ·simp at h
  ·simp at h ht;subst h;exact⟨_,by simp[Builtin.len_,run_underlying ht];rfl,.d (.val _ rfl)⟩
 ·rename_i r;cases str
  ·simp only[Bool.false_eq_true,if_false] at h ht;obtain⟨e,ht⟩:=ht;cases hr with|hd hr hv =>
   rw[nV] at h
   cases hx:own[r]? with
   |none=>simp[hx] at h
   |some y =>
    simp only[hx,Option.getD_some] at h;have hres:=hS.res r y hx;split at h
    ·rename_i ty' sz es;cases h;obtain⟨_,us,⟨_,hw⟩,_⟩:=hres;rcases hw with ⟨hw,hn⟩|⟨g,cap,cur,hw,_⟩
     ·rw[<- hv,hw];exact⟨_,by simp[Builtin.len_,run_underlying ht];rfl,by rw[hn];exact .d (.val _ rfl)⟩
     ·rw[<- hv,hw];exact⟨_,by simp[Builtin.len_,run_underlying ht];rfl,.d (.val _ rfl)⟩
    ·simp at h
  ·simp at h
 ·rename_i r s0 i;cases str
  ·simp only[Bool.false_eq_true,if_false] at h ht;obtain⟨e,ht⟩:=ht;cases hr with|rs hr hv =>
   obtain⟨ad,nn,cap',hu,hin,rfl⟩:=hv;rw[nV] at h
   cases hx:own[r]? with
   |none=>simp[hx] at h
   |some y =>
    simp only[hx,Option.getD_some] at h;have hres:=hS.res r y hx;split at h
    ·rename_i ty' sz es;cases h;obtain⟨_,us,⟨_,hw⟩,_⟩:=hres;have hnn:nn=es.length:=by
      rcases hw with ⟨hw,hn⟩|⟨g,cap,cur,hw,_⟩
      ·rw[hw] at hu;cases hu;exact hn.symm
      ·rw[hw] at hu;cases hu;rfl
     rw[hnn];exact⟨_,by simp[Builtin.len_,run_underlying ht];rfl,.d (.val _ rfl)⟩
    ·simp at h
  ·simp at h
 ·simp at h
theorem sf1 {i:Nat}{x sv:SV}{u:Value}(hr:Rel c x u)(h:Jl i x=some sv):∃ v,(Instr.extract u i).run P w=.ok v w/\Rel c sv v:=by
 cases hr with
 |@dO cs us hl hh =>
  simp only[Jl] at h;have hlt:i<cs.length:=(qA.1 h).1;have hu:us[i]?=some us[i]:=by simp[hl,hlt]
  exact⟨us[i]'(by omega),by simp[Instr.extract,hu],hh i sv _ h hu⟩
 |_=>simp[Jl] at h
theorem ml1 {op:UnOp}{x sv:SV}{u:Value}(hr:Rel c x u)(h:LD op x=some sv):∃ v,(Op.unary op u).run P w=.ok v w/\Rel c sv v:=by
 unfold LD at h;split at h
 ·obtain rfl:=hr.gB;cases op<;>simp at h;subst h;exact⟨_,by simp[Op.unary],.d (.val _ rfl)⟩
 ·obtain rfl:=hr.gB;cases op<;>simp at h;subst h;exact⟨_,by simp[Op.unary,Op.intArith],.d (.val _ rfl)⟩
 ·simp at h
theorem yj1 (mx:Bool)(l:List SV):∀ {x sv:SV}{u:Value}{us:List Value},Rel c x u->dP c l us->Gt mx x l=some sv ->
  ∃ v,(us.foldlM (if mx then Builtin.max2 else Builtin.min2) u).run P w=.ok v w/\Rel c sv v:=by
 induction l with
 |nil =>
  intro x sv u us hx hl h;rw[dP.CG.1 hl];simp only[Gt] at h;split at h
  ·cases h;exact⟨u,by simp,hx⟩
  ·simp at h
 |cons y l ih =>
  intro x sv u us hx hl h;obtain⟨v,us',rfl,hy,hl'⟩:=dP.xE.1 hl;unfold Gt at h;split at h
  ·simp at *
  ·rename_i k a' k' b' l' heq;simp at heq;obtain⟨rfl,rfl⟩:=heq;obtain rfl:=hx.gB;obtain rfl:=hy.gB;obtain⟨r,h1,h2⟩:=ih (x:=.d (.val (.int k (if mx then max a' b' else min a' b')))) (u:=.int k (if mx then max a' b' else min a' b')) (.d (.val _ rfl)) hl' h;refine⟨r,?_,h2⟩;rw[List.foldlM_cons,qG];cases mx
   ·have:(Builtin.min2 (.int k a') (.int k' b')).run P w=.ok (.int k (min a' b')) w:=by
     simp only[Builtin.min2,Sem.run_pure];congr 2;split<;>omega
    simp only[Bool.false_eq_true,if_false] at h1 ⊢;rw[this];exact h1
   ·have:(Builtin.max2 (.int k a') (.int k' b')).run P w=.ok (.int k (max a' b')) w:=by
     simp only[Builtin.max2,Sem.run_pure];congr 2;split<;>omega
    simp only[if_true] at h1 ⊢;rw[this];exact h1
  ·simp at h
theorem sm1 {k:IntKind}{src dst:TypeId}{ks:IntKind}{x sv:SV}{u:Value}(hs:P.underlying src=some (.int ks))(hd:P.underlying dst=some (.int k))(hr:Rel c x u)
  (h:MB k x=some sv):∃ v,(convert src dst u).run P w=.ok v w/\Rel c sv v:=by
 unfold MB at h;split at h
 ·obtain rfl:=hr.gB;cases h;exact⟨_,by simp[convert,run_underlying hs,run_underlying hd,Conv.intToInt],.d (.val _ rfl)⟩
 ·simp at h
theorem nw1 {c:Cx}:∀ {ks:List CK}{cs cs':List SV}{us vs:List Value}{b:Bool},dP c cs us->dP c cs' vs->Ep ks cs cs'=some b->nZ ks us vs=some b:=by
 intro ks
 induction ks with
 |nil=>intro cs cs' us vs b _ _ h;simp[Ep,GX] at h
 |cons k ks ih =>
  intro cs cs' us vs b h1 h2 h
  match ks,cs,cs',h with
  |[],[.d (.val x)],[.d (.val y)],h =>
   simp only[Ep,GX] at h;obtain⟨u,us',rfl,m1,m2⟩:=dP.xE.1 h1;obtain⟨v,vs',rfl,n1,n2⟩:=dP.xE.1 h2;rw[dP.CG.1 m2,dP.CG.1 n2,m1.gB,n1.gB];simp[nZ,h]
  |[],[.d (.val x)],.d (.val y)::z::l',h =>
   cases hk:yB k x y<;>simp[Ep,GX,hk] at h
  |[],.d (.val x)::z::l,.d (.val y)::l',h =>
   cases hk:yB k x y<;>simp[Ep,GX,hk] at h
  |k'::ks,.d (.val x)::l,.d (.val y)::l',h =>
   simp only[Ep,GX] at h;obtain⟨u,us',rfl,m1,m2⟩:=dP.xE.1 h1;obtain⟨v,vs',rfl,n1,n2⟩:=dP.xE.1 h2;split at h
   ·rename_i a b' q1 q2;cases h;rw[m1.gB,n1.gB];simp[nZ,q1,ih m2 n2 q2]
   ·cases h
theorem sr1 {n:Bool}{ks:List CK}{t:TypeId}{x y sv:SV}{u v:Value}{d:Nat}(hd:d<=10000)(ht:(P.underlying t=some .bool/\ks=[])\/(vV P d t=some ks/\wQ ((P.underlying t).getD .bool)=true/\ks≠[]))(hx:Rel c x u)(hy:Rel c y v)(h:Jj n ks x y=some sv) :
  ∃ r,(binOp (if n then .neq else .eql) t u v).run P w=.ok r w/\Rel c sv r:=by
 unfold Jj at h;split at h
 ·split at h
  ·have ht:P.underlying t=some .bool:=by
    rcases ht with ht|⟨_,_,ht⟩
    ·exact ht.1
    ·exact absurd rfl ht
   obtain rfl:=hx.gB;obtain rfl:=hy.gB;cases h;have key:∀ a b:Bool,(Op.equal t (.bool a) (.bool b)).run P w=.ok (a == b) w:=fun a b=>by
    unfold Op.equal;rw[show Op.maxDepth=9999+1 from rfl,Op.equalIn];simp only[qG,run_underlying ht,qE,Sem.run_pure]
   cases n
   ·refine⟨_,?_,.d (.val _ rfl)⟩;simp only[binOp,Bool.false_eq_true,if_false,qG,key,qE,Sem.run_pure,Bool.false_xor]
   ·refine⟨_,?_,.d (.val _ rfl)⟩;simp only[binOp,if_true,qG,key,qE,Sem.run_pure,Bool.true_xor]
  ·cases h
 ·split at h
  ·rename_i b hb;cases h;obtain⟨us,rfl,h1⟩:=Rel.tH.1 hx;obtain⟨vs,rfl,h2⟩:=Rel.tH.1 hy;rcases ht with ⟨_,rfl⟩|⟨ht,hu,_⟩
   ·simp[Ep,GX] at hb
   ·have key:(Op.equal t (.agg us.toArray) (.agg vs.toArray)).run P w=.ok b w:=mh0 hd ht hu (nw1 h1 h2 hb);cases n
    ·refine⟨_,?_,.d (.val _ rfl)⟩;simp only[binOp,Bool.false_eq_true,if_false,qG,key,qE,Sem.run_pure,Bool.false_xor]
    ·refine⟨_,?_,.d (.val _ rfl)⟩;simp only[binOp,if_true,qG,key,qE,Sem.run_pure,Bool.true_xor]
  ·cases h
 ·simp at h
theorem sc1 {x sv:SV}{u:Value}{t ty:TypeId}(ht:∃ e,P.underlying t=some (.slice e))(hr:Rel c x u)(h:scap x=some sv):∃ v,(Builtin.cap_ #[t] ty #[u]).run P w=.ok v w/\Rel c sv v:=by
 obtain⟨e,ht⟩:=ht;unfold scap at h;split at h
 ·cases h;obtain rfl:=hr.gB;exact⟨_,by simp[Builtin.cap_,run_underlying ht];rfl,.d (.val _ rfl)⟩
 ·simp at h
theorem rf0 {n:Bool}{t:TypeId}{x y sv:SV}{u v:Value}(ht:∃ a b c,P.underlying t=some (.func a b c))(hx:Rel c x u)(hy:Rel c y v)(h:Lj n x y=some sv) :
  (∃ r,(binOp (if n then .neq else .eql) t u v).run P w=.ok r w/\Rel c sv r)/\∀ (op:BinOp)(ox oy:Operand),(eqGuard op t ox oy u v).run P w=.ok () w:=by
 obtain⟨ta,tb,tc,ht⟩:=ht
 have key:∀ a b:Value,(a=.nilFunc\/∃ f us vs,a=.func f us vs)->b=.nilFunc->(Op.equal t a b).run P w=.ok (match a with | .nilFunc=>true|_=>false) w:=by
  rintro a b (rfl|⟨f,us,vs,rfl⟩) rfl
  ·unfold Op.equal;rw[show Op.maxDepth=9999+1 from rfl,Op.equalIn];simp only[qG,run_underlying ht,qE,Sem.run_pure]
  ·unfold Op.equal;rw[show Op.maxDepth=9999+1 from rfl,Op.equalIn];simp only[qG,run_underlying ht,qE,Sem.run_pure]
 have grd:∀ a b:Value,(a=.nilFunc\/∃ f us vs,a=.func f us vs)->b=.nilFunc->∀ (op:BinOp)(ox oy:Operand),(eqGuard op t ox oy a b).run P w=.ok () w:=by
  rintro a b (rfl|⟨f,us,vs,rfl⟩) rfl op ox oy<;>cases op<;>simp[eqGuard]
 unfold Lj at h;split at h
 ·obtain⟨us,vs,rfl,_⟩:=Rel.Ag.1 hx;obtain rfl:=hy.gB;cases h;refine⟨?_,grd _ _ (.inr ⟨_,_,_,rfl⟩) rfl⟩;rename_i f _ _ _;have:=key (.func (.func f) us.toArray vs.toArray) .nilFunc (.inr ⟨_,_,_,rfl⟩) rfl;cases n
  ·exact⟨_,by simp only[binOp,Bool.false_eq_true,if_false,qG,this,qE,Sem.run_pure],.d (.val _ rfl)⟩
  ·exact⟨_,by simp only[binOp,if_true,qG,this,qE,Sem.run_pure,Bool.not_false],.d (.val _ rfl)⟩
 ·obtain rfl:=hx.gB;obtain rfl:=hy.gB;cases h;refine⟨?_,grd _ _ (.inl rfl) rfl⟩;have:=key _ _ (.inl rfl) rfl;cases n
  ·exact⟨_,by simp only[binOp,Bool.false_eq_true,if_false,qG,this,qE,Sem.run_pure,Bool.not_false],.d (.val _ rfl)⟩
  ·exact⟨_,by simp only[binOp,if_true,qG,this,qE,Sem.run_pure,Bool.not_true],.d (.val _ rfl)⟩
 ·simp at h
theorem sy1 {x sv:SV}{u:Value}(hr:Rel c x u)(h:Ew x=some sv) :
  Rel c sv u/\((∃ a,u=.pointer (some a))\/∃ f as bs,u=.func (.func f) as bs):=by
 cases hr with
 |ptr hr ht=>simp[Ew] at h;subst h;exact⟨.ptr hr ht,.inl ⟨_,rfl⟩⟩
 |fp hF hh=>simp[Ew] at h;subst h;exact⟨.fp hF hh,.inl ⟨_,rfl⟩⟩
 |rp hr ht=>simp[Ew] at h;subst h;exact⟨.rp hr ht,.inl ⟨_,rfl⟩⟩
 |@clo fn fs cs us vs hl hh hl' hh' =>
  cases fn<;>simp[Ew] at h;subst h;exact⟨.clo hl hh hl' hh',.inr ⟨_,_,_,rfl⟩⟩
 |_=>simp[Ew] at h
theorem jq1 {u:Value}(h:u.oneCell'=true):u.cells=#[u]:=by cases u<;>first|rfl|simp[Value.oneCell'] at h
theorem Gs (hθ:∀ r,(c.θ r).oneCell'=true){s:SV}{u:Value}(hr:Rel c s u)(hs:s.flat=true):dP c s.cells u.cells.toList:=by
 by_cases h1:s.one=true
 ·rw[jq1 (hr.one hθ h1)];have:s.cells=[s]:=by cases s<;>first|rfl|simp[SV.one] at h1
  rw[this];exact .cons hr .nil
 ·cases s with
  |agg cs =>
   obtain⟨us,rfl,h⟩:=Rel.tH.1 hr;exact h
  |_=>simp[SV.one,SV.flat] at h1 hs
theorem uc1 (l:List Value):∀ (k off:Nat)(cs:Array Value),off+k+l.length<=cs.size ->
  ((l.zipIdx k).foldl (fun cs x=>cs.setIfInBounds (off+x.2) x.1) cs).toList=cs.toList.take (off+k)++l++cs.toList.drop (off+k+l.length):=by
 induction l with
 |nil=>intro k off cs h;simp
 |cons v l ih =>
  intro k off cs h;simp only[qZ] at h;rw[List.zipIdx_cons,qV,ih (k+1) off _ (by simp;omega)];simp only[Array.toList_setIfInBounds];have e1:off+(k+1)=off+k+1:=by omega
  rw[e1,qW,List.take_set_of_le (by omega),List.getElem?_set_self (by simp;omega),List.drop_set_of_lt (by omega)];have e2:off+k+1+l.length=off+k+(l.length+1):=by omega
  simp only[zD,List.append_assoc,qZ,List.cons_append,zN,e2]
theorem dP.take {ss:List SV}{us:List Value}(h:dP c ss us)(n:Nat):dP c (ss.take n) (us.take n) :=
 ⟨by simp[h.1],fun i s u h1 h2=>by
  rw[List.getElem?_take] at h1 h2;split at h1
  ·rw[if_pos (by assumption)] at h2;exact h.2 i s u h1 h2
  ·simp at h1⟩
theorem dP.drop {ss:List SV}{us:List Value}(h:dP c ss us)(n:Nat):dP c (ss.drop n) (us.drop n) :=
 ⟨by simp[h.1],fun i s u h1 h2=>by rw[List.getElem?_drop] at h1 h2;exact h.2 _ s u h1 h2⟩
theorem dP.splice {ss vs:List SV}{us ws:List Value}(h:dP c ss us)(hv:dP c vs ws)(off:Nat):dP c (Go.SX.splice off vs ss) (Go.SX.splice off ws us):=by
 unfold Go.SX.splice;rw[hv.1];exact((h.take _).append hv).append (h.drop _)
theorem oj0 (hθ:∀ r,(c.θ r).oneCell'=true)(place:Nat->Option (Nat×Nat))(ps:List ((Nat×Nat)×SV)):∀ (vs:List (Nat×Value))(cells cells':List SV)(us:Array Value),
  vs.length=ps.length->(∀ (i:Nat) p v,ps[i]?=some p->vs[i]?=some v->place v.1=some p.1/\Rel c p.2 v.2)->dP c cells us.toList->sfill cells ps=some cells' ->
  ∃ us',Instr.fill place us vs=some us'/\dP c cells' us'.toList:=by
 induction ps with
 |nil =>
  intro vs cells cells' us hl _ hc h;simp at hl;subst hl;simp[sfill] at h;subst h;exact⟨us,rfl,hc⟩
 |cons p ps ih =>
  intro vs cells cells' us hl hp hc h;obtain⟨⟨off,sz⟩,s⟩:=p
  cases vs with
  |nil=>simp at hl
  |cons v vs =>
   obtain⟨i,v⟩:=v;obtain⟨hpl,hrel⟩:=hp 0 _ _ rfl rfl;simp only[sfill] at h;split at h
   ·rename_i hcond;obtain⟨UE,hlen,hle⟩:=hcond;have hcr:=Gs hθ hrel UE;have hsz:v.cells.size=sz:=by have:=hcr.1;simp at this hlen;omega
    have hus:us.size=cells.length:=by have:=hc.1;simpa using this
    have hfold:=uc1 v.cells.toList 0 off us (by simp;omega);obtain⟨us',h1,h2⟩:=ih vs _ cells' (v.cells.zipIdx.foldl (fun cs x=>cs.setIfInBounds (off+x.2) x.1) us) (by simpa using hl) (fun i p v h1 h2=>hp (i+1) p v (by simpa using h1) (by simpa using h2)) (by
     rw[<- Array.foldl_toList,Array.toList_zipIdx,hfold];exact hc.splice hcr off) h
    refine⟨us',?_,h2⟩;simp only[Instr.fill,hpl];rw[if_neg (by simp;omega)];exact h1
   ·simp at h
end
end Go.SX
namespace Go.SX
open Go
variable [Tabs]
section
variable {P:Program}{c:Cx}{own:List ak}{env:List SV}{a:Act}{w:World}
theorem gi0 {op:BinOp}{t:TypeId}{x y:Operand}{u v:Value}(h:(∃ k n,u=.int k n)\/(∃ s,u=.string s)\/∃ b,u=.bool b) :
  (eqGuard op t x y u v).run P w=.ok () w:=by
 rcases h with ⟨k,n,rfl⟩|⟨s,rfl⟩|⟨b,rfl⟩
 ·have:eqGuard op t x y (.int k n) v=pure ():=by cases op<;>rfl
  rw[this];rfl
 ·have:eqGuard op t x y (.string s) v=pure ():=by cases op<;>rfl
  rw[this];rfl
 ·have:eqGuard op t x y (.bool b) v=pure ():=by cases op<;>rfl
  rw[this];rfl
theorem vt1 {op:BinOp}{x y sv:SV}{u:Value}(hx:Rel c x u)(h:Il op x y=some sv):(∃ k n,u=.int k n)\/(∃ s,u=.string s)\/∃ b,u=.bool b:=by
 unfold Il at h;split at h
 ·obtain rfl:=hx.gB;exact .inl ⟨_,_,rfl⟩
 ·obtain rfl:=hx.gB;exact .inr (.inl ⟨_,rfl⟩)
 ·simp at h
theorem vu1 {fs:Array Field}(ps:List (Nat×Operand)):∀ {l},QB P fs ps=some l ->
  l.length=ps.length/\∀ (i:Nat) p q,ps[i]?=some p->l[i]?=some q->q.2=p.2/\∃ f,fs[p.1]?=some f/\q.1.1=f.offset/\lu P f.type=some q.1.2:=by
 induction ps with
 |nil=>intro l h;simp[QB] at h;subst h;simp
 |cons p ps ih =>
  intro l h;obtain⟨i,x⟩:=p;simp only[QB,Option.bind_eq_bind,qH] at h;obtain⟨f,hf,s,hs,r,hr,h⟩:=h;cases h;obtain⟨h1,h2⟩:=ih hr;refine⟨by simp[h1],fun j p q hp hq=>?_⟩
  cases j with
  |zero=>simp at hp hq;subst hp;subst hq;exact⟨rfl,f,hf,rfl,hs⟩
  |succ j=>simp at hp hq;exact h2 j p q hp hq
theorem xx1 (fs:Array Field)(hs:∀ (i:Nat) f,fs[i]?=some f->∃ s,lu P f.type=some s) :
  ∃ l:Array (Nat×Nat),(fs.mapM fun f=>(do pure (f.offset,<- sizeOf f.type):Sem (Nat×Nat))).run P w=.ok l w /\
   ∀ (i:Nat) f s,fs[i]?=some f->lu P f.type=some s->l[i]?=some (f.offset,s):=by
 rw[Array.mapM_eq_mapM_toList]
 suffices h:∀ l:List Field,(∀ f∈l,∃ s,lu P f.type=some s)->∃ r:List (Nat×Nat),(l.mapM fun f=>(do pure (f.offset,<- sizeOf f.type):Sem (Nat×Nat))).run P w=.ok r w /\
   ∀ (i:Nat) f s,l[i]?=some f->lu P f.type=some s->r[i]?=some (f.offset,s) by
  obtain⟨r,h1,h2⟩:=h fs.toList (fun f hf=>by obtain⟨i,hi⟩:=List.getElem?_of_mem hf;exact hs i f (by simpa using hi));refine⟨r.toArray,?_,fun i f s hf hs=>by simpa using h2 i f s (by simpa using hf) hs⟩;rw[Sem.run_map,h1];rfl
 intro l
 induction l with
 |nil=>intro _;exact⟨[],by simp,fun i f s hf=>by simp at hf⟩
 |cons f l ih =>
  intro h;obtain⟨s,hs⟩:=h f (by simp);obtain⟨r,h1,h2⟩:=ih fun f hf=>h f (by simp[hf])
  refine⟨(f.offset,s)::r,?_,fun i g t hg ht=>?_⟩
  ·simp only[List.mapM_cons,qG,run_sizeOf hs,qE,Sem.run_pure];rw[h1];rfl
  ·cases i with
   |zero=>simp at hg;subst hg;rw[hs] at ht;cases ht;rfl
   |succ i=>simp at hg;simpa using h2 i g t hg ht
theorem EH {t:TypeId}{z:Value}(h:BI P t=some z):(zeroValue t).run P w=.ok z w:=by
 unfold BI at h
 cases hq:P.info? t with
 |none=>simp[hq] at h
 |some i=>simp[hq] at h;simp[zeroValue,typeInfo,hq,h]
theorem OH {z:Value}:dP c (cval z).cells z.cells.toList:=by
 cases z with
 |agg cs =>
  obtain⟨us,h1,h2⟩:=Rel.tH.1 (H7 c (.agg cs));cases h1;simpa [cval,SV.cells,Value.cells] using h2
 |tuple cs =>
  have h:=H7 c (.tuple cs);have:(cval (.tuple cs)).cells=[cval (.tuple cs)]:=by simp only[cval];split<;>rfl
  rw[this];exact .cons h .nil
 |_=>exact .cons (H7 c _) .nil
theorem an1 {e:Operand->SV}(hE:∀ x,Rel c (e x) (a.eval x))(hS:Sat c own w){o:Oper}{d:jO}{sv:SV}(hc:iE P o.op=some d)(hp:nG own e d=some sv) :
  ∃ u,(execOp a.eval o).run P w=.ok (.value u) w/\Rel c sv u:=by
 have fin:∀ (s:Sem Value),(∃ u,s.run P w=.ok u w/\Rel c sv u)->∃ u,(do pure (Next.value (<- s)):Sem Next).run P w=.ok (.value u) w/\Rel c sv u:=by
  rintro s ⟨u,h1,h2⟩;exact⟨u,by rw[qG,h1];rfl,h2⟩
 unfold execOp;generalize o.op=op at hc ⊢
 cases op with
 |move x=>cases hc;cases hp;exact⟨_,rfl,hE x⟩
 |assign x=>cases hc;cases hp;exact⟨_,rfl,hE x⟩
 |pick x y z =>
  cases hc;obtain⟨b,h1,h2⟩:=vy1 (hE x) (hE y) (hE z) hp;refine⟨_,?_,h2⟩;simp[h1,asBool]
 |binOp op t x y ty =>
  refine fin _ ?_;simp only[iE] at hc;have hx:=hE x;have hy:=hE y;have bin:d=.bin op x y->∃ u,(do eqGuard op t x y (a.eval x) (a.eval y);binOp op t (a.eval x) (a.eval y):Sem Value).run P w=.ok u w/\Rel c sv u:=by
   rintro rfl;obtain⟨r,h1,h2⟩:=sn1 (P:=P) (w:=w) (t:=t) hx hy hp;refine⟨r,?_,h2⟩;rw[qG,gi0 (vt1 hx hp)];exact h1
  have beq:∀ n ks,((P.underlying t=some .bool/\ks=[])\/(vV P 100 t=some ks/\wQ ((P.underlying t).getD .bool)=true/\ks≠[]))->(ks≠[]->P.eqGuardType P.depth t=false)->op=(if n then .neq else .eql)->d=.beq n ks x y->∃ u,(do eqGuard op t x y (a.eval x) (a.eval y);binOp op t (a.eval x) (a.eval y):Sem Value).run P w=.ok u w/\Rel c sv u:=by
   rintro n ks ht hg rfl rfl;obtain⟨r,h1,h2⟩:=sr1 (P:=P) (w:=w) (by decide:100<=10000) ht hx hy hp;refine⟨r,?_,h2⟩;have hb:(∃ b,a.eval x=.bool b)\/(ks≠[]/\∃ us vs,a.eval x=.agg us/\a.eval y=.agg vs):=by
    simp only[nG,Jj] at hp;split at hp
    ·rename_i h1 h2;rw[h1] at hx;exact .inl ⟨_,hx.gB⟩
    ·rename_i h1 h2;split at hp
     ·rename_i b' hb;refine .inr ⟨fun e=>by subst e;simp[Ep,GX] at hb,?_⟩;rw[h1] at hx;rw[h2] at hy;obtain⟨us,e1,_⟩:=Rel.tH.1 hx;obtain⟨vs,e2,_⟩:=Rel.tH.1 hy;exact⟨_,_,e1,e2⟩
     ·simp at hp
    ·simp at hp
   rcases hb with hb|⟨hk,us,vs,e1,e2⟩
   ·rw[qG,gi0 (.inr (.inr hb))];exact h1
   ·rw[qG];rw[e1,e2] at h1 ⊢;rw[run_eqGuard_agg w _ t x y us vs (hg hk)];exact h1
  split at hc
  ·rename_i ht;split at hc
   ·cases hc;exact beq false [] (.inl ⟨ht,rfl⟩) (fun h=>absurd rfl h) rfl rfl
   ·cases hc;exact beq true [] (.inl ⟨ht,rfl⟩) (fun h=>absurd rfl h) rfl rfl
   ·simp at hc
  ·rename_i ta tb tc ht;split at hc
   ·cases hc;obtain⟨⟨r,h1,h2⟩,h3⟩:=rf0 (P:=P) (w:=w) ⟨_,_,_,ht⟩ hx hy hp;exact⟨r,by rw[qG,h3];exact h1,h2⟩
   ·cases hc;obtain⟨⟨r,h1,h2⟩,h3⟩:=rf0 (P:=P) (w:=w) ⟨_,_,_,ht⟩ hx hy hp;exact⟨r,by rw[qG,h3];exact h1,h2⟩
   ·simp at hc
  ·split at hc
   ·split at hc
    ·cases hc;simp[nG] at hp
    ·cases hc;simp[nG] at hp
    ·simp at hc
   ·simp at hc
  ·split at hc
   ·cases hc;simp[nG] at hp
   ·cases hc;simp[nG] at hp
   ·cases hc;exact bin rfl
  ·cases hc;exact bin rfl
  ·unfold Ll at hc;split at hc
   ·rename_i k ks hk;split at hc
    ·rename_i hu;split at hc
     ·cases hc;exact beq false _ (.inr ⟨hk,hu.1,by simp⟩) (fun _=>hu.2) rfl rfl
     ·cases hc;exact beq true _ (.inr ⟨hk,hu.1,by simp⟩) (fun _=>hu.2) rfl rfl
     ·cases hc
    ·cases hc
   ·cases hc
 |unOp op t x =>
  cases hc;exact fin _ (ml1 (hE x) hp)
 |convert s t x =>
  simp only[iE] at hc;split at hc
  ·rename_i ks k hs ht;cases hc;exact fin _ (sm1 hs ht (hE x) hp)
  ·split at hc
   ·cases hc;simp[nG] at hp
   ·cases hc
  ·simp at hc
 |fieldAddr t x f =>
  simp only[iE] at hc;split at hc
  ·rename_i fs ht;simp only[Option.bind_eq_bind,qH] at hc;obtain⟨fd,hf,s,hs,hc⟩:=hc;split at hc
   ·simp at hc
   ·rename_i hs0;cases hc;obtain⟨b,k,h1,h2⟩:=vd1 (hE x) hp;refine fin _ ⟨_,?_,h2⟩;simp only[Instr.fieldAt,qG,run_underlying ht,qE,hf,h1,Instr.sureAddr,Sem.run_pure,fieldPlace,run_sizeOf hs,hs0,if_false,BK]
  ·simp at hc
 |field t x f =>
  simp only[iE] at hc;split at hc
  ·rename_i fs ht;simp only[Option.bind_eq_bind,qH] at hc;obtain⟨fd,hf,s,hs,dd,hd,hc⟩:=hc;cases hc;obtain⟨us,v,h1,h2,h3⟩:=ic0 (P:=P) (w:=w) hs hd (hE x) hp;refine fin _ ⟨v,?_,h3⟩;simp only[Instr.field,qG,run_underlying ht,qE,hf,h1,asAgg,Sem.run_pure,h2]
  ·simp at hc
 |load t x =>
  simp only[iE,Option.bind_eq_bind,qH] at hc;obtain⟨s,hs,dd,hd,hc⟩:=hc;cases hc;exact fin _ (ae0 hS hs hd (hE x) hp)
 |build t ps =>
  simp only[iE] at hc;have hvs:∀ (i:Nat)(p:Nat×Operand) v,ps.toList[i]?=some p->(ps.map fun x=>(x.1,a.eval x.2)).toList[i]?=some v->v=(p.1,a.eval p.2):=fun i p v h1 h2=>by
   simp at h1 h2;obtain⟨q,r,h2,rfl⟩:=h2;rw[h1] at h2;cases h2;rfl
  split at hc
  ·rename_i fs ht;simp only[Option.bind_eq_bind,qH] at hc;obtain⟨z,hz,l,hl,hc⟩:=hc;split at hc
   ·rename_i hall;cases hc;obtain⟨hlen,hsp⟩:=vu1 _ hl;obtain⟨places,hrun,hpl⟩:=xx1 (P:=P) (w:=w) fs (fun i f hf=>by
     have:=qP.1 hall f (qL (by simpa using hf));exact Option.isSome_iff_exists.1 this)
    simp only[nG,LK] at hp;split at hp
    ·rename_i cs' Fe;cases hp;have Ua:dP c (cval z).cells z.cells.toList:=OH;obtain⟨us',h1,h2⟩:=oj0 hS.one (places[·]?) (l.map fun p=>(p.1,e p.2)) (ps.map fun x=>(x.1,a.eval x.2)).toList _ cs' z.cells (by simp[hlen]) (fun i p v hp hv=>by
      simp only[qF,Option.map_eq_some_iff] at hp;obtain⟨q,hq,rfl⟩:=hp;have hi:i<ps.toList.length:=by rw[<- hlen];exact(qA.1 hq).1
      have hpi:ps.toList[i]?=some ps.toList[i]:=by simp[]
      obtain⟨e1,f,hf,e2,e3⟩:=hsp i _ q hpi hq;rw[hvs i _ v hpi hv];refine⟨?_,by rw[e1];exact hE _⟩;rw[hpl _ f _ hf e3];simp only[<- e2]) Ua Fe
     refine fin _ ⟨.agg us',?_,Rel.tH.2 ⟨us'.toList,by simp,h2⟩⟩;simp only[Instr.build,qG,EH hz,qE,run_underlying ht,hrun,h1,Sem.run_pure]
    ·simp at hp
   ·simp at hc
  ·rename_i n e' ht;simp only[Option.bind_eq_bind,qH] at hc;obtain⟨z,hz,s,hs,hc⟩:=hc;cases hc;simp only[nG,LK] at hp;split at hp
   ·rename_i cs' Fe;cases hp;have Ua:dP c (cval z).cells z.cells.toList:=OH;obtain⟨us',h1,h2⟩:=oj0 hS.one (fun i=>some (i * s,s)) ((ps.toList.map fun p=>((p.1 * s,s),p.2)).map fun p=>(p.1,e p.2)) (ps.map fun x=>(x.1,a.eval x.2)).toList _ cs' z.cells (by simp) (fun i p v hp hv=>by
     simp only[qF,Option.map_eq_some_iff] at hp;obtain⟨q,⟨q',hq,rfl⟩,rfl⟩:=hp;rw[hvs i _ v hq hv];exact⟨rfl,hE _⟩) Ua Fe
    refine fin _ ⟨.agg us',?_,Rel.tH.2 ⟨us'.toList,by simp,h2⟩⟩;simp only[Instr.build,qG,EH hz,qE,run_underlying ht,run_sizeOf hs,h1,Sem.run_pure]
   ·simp at hp
  ·simp at hc
 |makeFunc fn fs cs =>
  cases hc;cases hp;refine fin _ ⟨_,rfl,Rel.Ag.2 ⟨_,_,?_,Sj hE _,Sj hE _⟩⟩;congr 1<;>(apply Array.toList_inj.1;simp)
 |extract x i =>
  cases hc;exact fin _ (sf1 (hE x) hp)
 |nilCheck x =>
  cases hc;obtain⟨h1,h2⟩:=sy1 (hE x) hp;refine⟨a.eval x,?_,h1⟩;rcases h2 with ⟨ad,h2⟩|⟨f,as,bs,h2⟩
  ·simp[h2]
  ·simp[h2]
 |call cl =>
  obtain⟨callee,args,argTypes⟩:=cl
  cases callee with
  |value f=>cases f<;>(simp only[iE] at hc;cases hc;simp[nG] at hp)
  |invoke r m=>simp[iE] at hc
  |builtin b =>
   have res:(do let d <- resolve a.eval { callee:=.builtin b,args:=args,argTypes:=argTypes } o.type;invoke d.target d.args:Sem Next).run P w =
     (builtin b argTypes o.type (args.map fun | .const _=>true|_=>false) (args.map a.eval)).run P w:=by
    simp[resolve,invoke];rfl
   suffices h:∃ u,(builtin b argTypes o.type (args.map fun | .const _=>true|_=>false) (args.map a.eval)).run P w=.ok (.value u) w/\Rel c sv u by
    obtain⟨u,h1,h2⟩:=h;exact⟨u,res.trans h1,h2⟩
   have args1:∀ l,args.toList=l->args=l.toArray:=fun l h=>by rw[<- h]
   cases b<;>simp only[iE] at hc<;>try (simp at hc;done)
   case append =>
    split at hc
    ·split at hc
     ·simp only[Option.bind_eq_bind,qH] at hc;obtain⟨i,hi,z,hz,hc⟩:=hc;split at hc
      ·cases hc;simp[nG] at hp
      ·unfold NG at hc;split at hc
       ·split at hc
        ·cases hc;simp[nG] at hp
        ·simp at hc
       ·simp at hc
     ·simp at hc
    ·simp at hc
   case clear =>
    split at hc
    ·split at hc
     ·simp only[Option.bind_eq_bind,qH] at hc;obtain⟨z,hz,hc⟩:=hc;cases hc;simp[nG] at hp
     ·simp at hc
    ·simp at hc
   case len =>
    split at hc
    ·rename_i t x ht hx;have e1:=args1 _ hx;have e2:argTypes=#[t]:=by rw[<- Array.toList_inj,ht]
     subst e1;subst e2;split at hc
     ·rename_i e' hu;cases hc;obtain⟨v,h1,h2⟩:=if0 (P:=P) (w:=w) (t:=t) (ty:=o.type) (str:=false) hS (by simpa using⟨e',hu⟩) (hE x) hp;exact⟨v,by simp only[builtin,List.map_toArray,zC,List.map_nil,qG,h1,qE,Sem.run_pure],h2⟩
     ·rename_i hu;cases hc;obtain⟨v,h1,h2⟩:=if0 (P:=P) (w:=w) (t:=t) (ty:=o.type) (str:=true) hS (by simpa using hu) (hE x) hp;exact⟨v,by simp only[builtin,List.map_toArray,zC,List.map_nil,qG,h1,qE,Sem.run_pure],h2⟩
     ·simp at hc
    ·simp at hc
   case cap =>
    split at hc
    ·rename_i t x ht hx;have e1:=args1 _ hx;have e2:argTypes=#[t]:=by rw[<- Array.toList_inj,ht]
     subst e1;subst e2;split at hc
     ·rename_i e' hu;cases hc;obtain⟨v,h1,h2⟩:=sc1 (P:=P) (w:=w) (t:=t) (ty:=o.type) ⟨e',hu⟩ (hE x) hp;exact⟨v,by simp only[builtin,List.map_toArray,zC,List.map_nil,qG,h1,qE,Sem.run_pure],h2⟩
     ·simp at hc
    ·simp at hc
   case max =>
    split at hc
    ·rename_i x xs hx;have e1:=args1 _ hx;subst e1;cases hc;obtain⟨v,h1,h2⟩:=yj1 (P:=P) (w:=w) true _ (hE x) (Sj hE xs) hp;exact⟨v,by simp only[builtin,Builtin.max_,List.map_toArray,zC,qG];simp only[if_true] at h1;rw[h1];rfl,h2⟩
    ·simp at hc
   case min =>
    split at hc
    ·rename_i x xs hx;have e1:=args1 _ hx;subst e1;cases hc;obtain⟨v,h1,h2⟩:=yj1 (P:=P) (w:=w) false _ (hE x) (Sj hE xs) hp;exact⟨v,by simp only[builtin,Builtin.min_,List.map_toArray,zC,qG];simp only[Bool.false_eq_true,if_false] at h1;rw[h1];rfl,h2⟩
    ·simp at hc
 |store t x v =>
  simp only[iE,Option.bind_eq_bind,qH] at hc;obtain⟨s,hs,hc⟩:=hc;cases hc;simp[nG] at hp
 |alloc t =>
  simp only[iE,Option.bind_eq_bind,qH] at hc;obtain⟨s,hs,hc⟩:=hc;cases hc;simp[nG] at hp
 |box t x=>cases hc;simp[nG] at hp
 |buildSlice t n ps =>
  simp only[iE] at hc;split at hc
  ·simp only[Option.bind_eq_bind,qH] at hc;obtain⟨s,hs,z,hz,hc⟩:=hc;split at hc
   ·simp at hc
   ·cases hc;simp[nG] at hp
  ·simp at hc
 |indexAddr t x i =>
  simp only[iE] at hc;split at hc
  ·simp only[Option.bind_eq_bind,qH] at hc;obtain⟨s,hs,hc⟩:=hc;cases hc;simp[nG] at hp
  ·simp only[Option.bind_eq_bind,qH] at hc;obtain⟨s,hs,hc⟩:=hc;cases hc;simp[nG] at hp
  ·simp at hc
 |index t x i =>
  simp only[iE] at hc;split at hc
  ·simp only[Option.bind_eq_bind,qH] at hc;obtain⟨s,hs,dd,hd,hc⟩:=hc;cases hc;simp[nG] at hp
  ·cases hc;simp[nG] at hp
  ·simp at hc
 |slice t x lo hi mx =>
  cases mx with
  |some m=>simp[iE] at hc
  |none =>
   simp only[iE] at hc;split at hc
   ·simp only[Option.bind_eq_bind,qH] at hc;obtain⟨s,hs,hc⟩:=hc;cases hc;simp[nG] at hp
   ·cases hc;simp[nG] at hp
   ·simp at hc
 |makeSlice t l k =>
  simp only[iE] at hc;split at hc
  ·simp only[Option.bind_eq_bind,qH] at hc;obtain⟨s,hs,z,hz,hc⟩:=hc;cases hc;simp[nG] at hp
  ·simp at hc
 |makeMap t r =>
  cases r with
  |some r=>simp[iE] at hc
  |none =>
   simp only[iE] at hc;split at hc
   ·simp only[Option.bind_eq_bind,qH] at hc;obtain⟨mk,hm,d',hd,hc⟩:=hc;split at hc<;>(cases hc;simp[nG] at hp)
   ·simp at hc
 |mapUpdate t m k v =>
  simp only[iE] at hc;split at hc
  ·simp only[Option.bind_eq_bind,qH] at hc;obtain⟨mk,hm,d',hd,hc⟩:=hc;cases hc;simp[nG] at hp
  ·simp at hc
 |insert t m k v =>
  simp only[iE] at hc;split at hc
  ·simp only[Option.bind_eq_bind,qH] at hc;obtain⟨mk,hm,d',hd,hc⟩:=hc;cases hc;simp[nG] at hp
  ·simp at hc
 |lookup t m k ok =>
  simp only[iE] at hc;split at hc
  ·simp only[Option.bind_eq_bind,qH] at hc;obtain⟨mk,hm,d',hd,z,hz,hc⟩:=hc;cases hc;simp[nG] at hp
  ·simp at hc
 |makeInterface t x=>simp only[iE] at hc;cases hc;simp[nG] at hp
 |panic x=>simp only[iE] at hc;cases hc;simp[nG] at hp
 |_=>simp[iE] at hc
end
end Go.SX
namespace Go.SX
open Go
variable [Tabs]
section
variable {P:Program}{c:Cx}{own:List ak}{env:List SV}{a:Act}{w w':World}
def Cx.push (c:Cx)(v:Value):Cx:={ θ:=fun r=>if r=c.N then v else c.θ r,F:=c.F,N:=c.N+1 }
theorem Cx.CP (c:Cx)(v:Value):c.le (c.push v) :=
 ⟨Nat.le_succ _,fun r hr=>by simp[Cx.push,Nat.ne_of_lt hr],fun _ _ h=>h⟩
theorem Sat.push (h:Sat c own w)(row:Option Nat)(dG:List ak)(hl:dG.length=own.length)
  (h00:∀ (s:Nat) y,dG[s]?=some y->y=.gone\/(own[s]?=some y/\(y.live=true->∀ b,row=some b->jA (c.θ s)≠some b)))
  (hrow:∀ b,row=some b->Own c own b) (hos:w'.os=w.os) (htape:w'.tape=w.tape) (hout:w'.output=w.output) (hsize:w.heap.size<=w'.heap.size)
  (hkeep:∀ b,b<w.heap.size->some b≠row->w'.heap[b]?=w.heap[b]?)
  (v:Value) (x:ak) (hv:v.oneCell'=true) (hfresh:∀ b,jA v=some b->w.heap.size<=b\/row=some b) (hres:FN (c.push v) w' v x) :
  Sat (c.push v) (dG++[x]) w'/\c.le (c.push v)/\Goes c own w (c.push v) (dG++[x]) w':=by
 have h0:∀ (s:Nat) y,dG[s]?=some y->y.live=true->own[s]?=some y/\∀ b,row=some b->jA (c.θ s)≠some b:=fun s y hy hl=>by
  rcases h00 s y hy with rfl|⟨h1,h2⟩
  ·simp[ak.live] at hl
  ·exact⟨h1,h2 hl⟩
 have hle:=c.CP v;have hN:dG.length=c.N:=hl.trans h.n;have hθ:∀ s,s<c.N->(c.push v).θ s=c.θ s:=hle.t;have kW:(c.push v).θ c.N=v:=by simp[Cx.push]
 have hrF:∀ b,row=some b->c.F b=none:=fun b hb=>by
  obtain⟨r,y,hy,eU,hby⟩:=hrow b hb;exact h.iw r y b hy eU hby
 have hget:∀ (s:Nat) y,(dG++[x])[s]?=some y->(s<c.N/\dG[s]?=some y)\/(s=c.N/\y=x):=fun s y hy=>by
  rw[List.getElem?_append] at hy;split at hy
  ·exact .inl ⟨by omega,hy⟩
  ·rename_i hge;have:s=c.N:=by
    have:=(qA.1 hy).1;simp at this;omega
   subst this;simp[hN] at hy;exact .inr ⟨rfl,hy.symm⟩
 have hF:∀ b o,c.F b=some o->w'.heap[b]?=some o:=fun b o hb=>by
  rw[hkeep b (h.wI hb) (fun e=>by rw[hrF b e.symm] at hb;cases hb)];exact h.le b o hb
 refine⟨⟨by simp[Cx.push,hN],?_,?_,?_,hF,?_,h.tab⟩,hle,⟨hos,htape,hout,hsize,?_,fun b hb=>.inl hb,?_,fun _ _ hb=>hb⟩⟩
 ·intro r y hy;rcases hget r y hy with ⟨hr,hy⟩|⟨rfl,rfl⟩
  ·rw[hθ r hr];rcases h00 r y hy with rfl|⟨hy',hb⟩
   ·trivial
   ·exact(h.res r y hy').keep hle fun eU b hbk=>hkeep b (h.xI ⟨r,y,hy',eU,hbk⟩) (fun e=>hb eU b e.symm hbk)
  ·rw[kW];exact hres
 ·intro r s y z b hy hz eU hlz hb hb';rcases hget r y hy with ⟨hr,hy⟩|⟨rfl,rfl⟩
  ·obtain⟨hy',hbr⟩:=h0 r y hy eU;rw[hθ r hr] at hb;rcases hget s z hz with ⟨hs,hz⟩|⟨rfl,rfl⟩
   ·obtain⟨hz',_⟩:=h0 s z hz hlz;rw[hθ s hs] at hb';exact h.apart r s y z b hy' hz' eU hlz hb hb'
   ·rw[kW] at hb';have hlt:=h.xI ⟨r,y,hy',eU,hb⟩;rcases hfresh b hb' with h1|h1
    ·omega
    ·exact absurd hb (hbr b h1)
  ·rw[kW] at hb;rcases hget s z hz with ⟨hs,hz⟩|⟨rfl,rfl⟩
   ·obtain⟨hz',hbs⟩:=h0 s z hz hlz;rw[hθ s hs] at hb';have hlt:=h.xI ⟨s,z,hz',hlz,hb'⟩;rcases hfresh b hb with h1|h1
    ·omega
    ·exact absurd hb' (hbs b h1)
   ·rfl
 ·intro r y b hy eU hb;rcases hget r y hy with ⟨hr,hy⟩|⟨rfl,rfl⟩
  ·obtain⟨hy',_⟩:=h0 r y hy eU;rw[hθ r hr] at hb;exact h.iw r y b hy' eU hb
  ·rw[kW] at hb;rcases hfresh b hb with h1|h1
   ·cases hcF:c.F b with
    |none=>exact hcF
    |some o=>have:=h.wI hcF;omega
   ·exact hrF b h1
 ·intro r;simp only[Cx.push];split
  ·exact hv
  ·exact h.one r
 ·intro b hb hn;exact hkeep b hb (fun e=>hn (hrow b e.symm))
 ·rintro b ⟨r,y,hy,eU,hb⟩;rcases hget r y hy with ⟨hr,hy⟩|⟨rfl,rfl⟩
  ·obtain⟨hy',_⟩:=h0 r y hy eU;rw[hθ r hr] at hb;exact .inl ⟨r,y,hy',eU,hb⟩
  ·rw[kW] at hb;rcases hfresh b hb with h1|h1
   ·exact .inr h1
   ·exact .inl (hrow b h1)
theorem Sat.alloc (h:Sat c own w)(o:Obj)(v:Value)(x:ak)(hv:v.oneCell'=true)(hb:jA v=some w.heap.size)(hres:FN (c.push v) (w.alloc o) v x) :
  Sat (c.push v) (own++[x]) (w.alloc o)/\c.le (c.push v)/\Goes c own w (c.push v) (own++[x]) (w.alloc o) :=
 h.push (w':=w.alloc o) none own rfl (fun s y hy=>.inr ⟨hy,fun _ b hb=>by cases hb⟩) (fun b hb=>by cases hb) rfl rfl rfl (by simp) (fun b hb _=>RowKit.Below.heap_alloc w o b hb) v x hv
  (fun b hb'=>.inl (by rw[hb] at hb';cases hb';exact qR _)) hres
theorem Sat.update (h:Sat c own w){r b:Nat}{x x':ak}(hx:own[r]?=some x)(hl:x.live=true)(hl':x'.live=true)(hb:jA (c.θ r)=some b)(hos:w'.os=w.os)(htape:w'.tape=w.tape)(hout:w'.output=w.output)
  (hsize:w'.heap.size=w.heap.size) (hkeep:∀ k,k≠b->w'.heap[k]?=w.heap[k]?) (hres:FN c w' (c.θ r) x') :
  Sat c (own.set r x') w'/\Goes c own w c (own.set r x') w':=by
 have Az:r<own.length:=(qA.1 hx).1;have hget:∀ (s:Nat) y,(own.set r x')[s]?=some y->(s=r/\y=x')\/(s≠r/\own[s]?=some y):=fun s y hy=>by
  rw[List.getElem?_set] at hy;split at hy
  ·rename_i e;subst e;simp[] at hy;exact .inl ⟨rfl,hy.symm⟩
  ·rename_i e;exact .inr ⟨fun e'=>e e'.symm,hy⟩
 have hnF:c.F b=none:=h.iw r x b hx hl hb;refine⟨⟨by simp[h.n],?_,?_,?_,?_,h.one,h.tab⟩,⟨hos,htape,hout,by omega,?_,fun _ hh=>.inl hh,?_,fun _ _ hh=>hh⟩⟩
 ·intro s y hy;rcases hget s y hy with ⟨rfl,rfl⟩|⟨hne,hy⟩
  ·exact hres
  ·exact(h.res s y hy).keep (Cx.le.refl c) fun eU k hk=>hkeep k fun e=>by
    subst e;exact hne (h.apart s r y x k hy hx eU hl hk hb)
 ·intro s t y z k hy hz eU hlz hk hk';rcases hget s y hy with ⟨rfl,rfl⟩|⟨hne,hy1⟩
  ·rcases hget t z hz with ⟨rfl,rfl⟩|⟨hne,hz1⟩
   ·rfl
   ·exact h.apart s t x z k hx hz1 hl hlz hk hk'
  ·rcases hget t z hz with ⟨rfl,rfl⟩|⟨hne,hz1⟩
   ·exact h.apart s t y x k hy1 hx eU hl hk hk'
   ·exact h.apart s t y z k hy1 hz1 eU hlz hk hk'
 ·intro s y k hy eU hk;rcases hget s y hy with ⟨rfl,rfl⟩|⟨hne,hy⟩
  ·exact h.iw s x k hx hl hk
  ·exact h.iw s y k hy eU hk
 ·intro k o hk;rw[hkeep k (fun e=>by subst e;rw[hnF] at hk;cases hk)];exact h.le k o hk
 ·intro k hk hn;exact hkeep k fun e=>hn ⟨r,x,hx,hl,e▸hb⟩
 ·rintro k ⟨s,y,hy,eU,hk⟩;rcases hget s y hy with ⟨rfl,rfl⟩|⟨hne,hy⟩
  ·exact .inl ⟨s,x,hx,hl,hk⟩
  ·exact .inl ⟨s,y,hy,eU,hk⟩
theorem Sat.drew (h:Sat c own w)(hw:w'.heap=w.heap):Sat c own w' :=
 h.on (Cx.le.refl c) rfl h.one (fun b _=>by rw[hw]) (fun b o hb=>by rw[hw];exact h.le b o hb) (fun _ hh=>.inl hh)
theorem Goes.drew (hw:w'.heap=w.heap)(hos:w'.os=w.os)(ht:w'.tape=w.tape)(ho:w'.output=w.output):Goes c own w c own w' :=
 ⟨hos,ht,ho,by rw[hw];exact qR _,fun _ _ _=>by rw[hw],fun _ h=>.inl h,fun _ h=>.inl h,fun _ _ h=>h⟩
theorem Gm {es:List (List D)}{sz:Nat}(h:∀ ds∈es,ds.length=sz):∀ (i j:Nat)(ds:List D),es[i]?=some ds->j<sz->es.flatten[i * sz+j]?=ds[j]?:=by
 induction es with
 |nil=>intro i j ds hi;simp at hi
 |cons e es ih =>
  intro i j ds hi hj;have he:e.length=sz:=h e (by simp)
  cases i with
  |zero =>
   simp at hi;subst hi;rw[List.flatten_cons,qQ (by omega)];simp
  |succ i =>
   simp at hi;rw[List.flatten_cons,qS (by rw[he,Nat.add_mul];omega)];have:(i+1) * sz+j - e.length=i * sz+j:=by rw[he,Nat.add_mul];omega
   rw[this];exact ih (fun ds hd=>h ds (by simp[hd])) i j ds hi hj
theorem Gn {es:List (List D)}{sz:Nat}(h:∀ ds∈es,ds.length=sz):es.flatten.length=es.length * sz:=by
 induction es with
 |nil=>simp
 |cons e es ih=>rw[List.flatten_cons,qN,ih (fun d hd=>h d (by simp[hd])),h e (by simp),qZ,Nat.add_mul];omega
def Cx.ng (c:Cx)(b:Nat)(o:Obj):Cx:={ c with F:=fun k=>if k=b then some o else c.F k }
theorem Cx.ZM {b:Nat}{o:Obj}(h:c.F b=none):c.le (c.ng b o) :=
 ⟨qR _,fun _ _=>rfl,fun k x hk=>by
  simp only[Cx.ng];split
  ·rename_i e;subst e;rw[h] at hk;cases hk
  ·exact hk⟩
theorem WT {ty sz b cap:Nat}{es:List (List D)}{cur:Array Value}{us:List Value}(hd:∀ ds∈es,ds.length=sz)(hF:c.F b=some (.cells cur ty (0,0)))
  (hcap:es.length<=cap) (htake:cur.toList.take (es.length * sz)=us) (hus:∀ (j:Nat) d,es.flatten[j]?=some d->∃ u,us[j]?=some u/\Rep c.F u d) :
  Rep c.F (.slice (some ⟨b,0,none⟩) es.length cap) (.sl es):=by
 have hlt:∀ (i j:Nat)(ds:List D) d,es[i]?=some ds->ds[j]?=some d->j<sz/\∃ u,us[i * sz+j]?=some u/\Rep c.F u d/\cur[0+i * sz+j]?=some u:=fun i j ds d hi hj=>by
  have hl:ds.length=sz:=hd ds (qL hi);have hjl:j<sz:=by rw[<- hl];exact(qA.1 hj).1
  obtain⟨u,h1,h2⟩:=hus (i * sz+j) d (by rw[Gm hd i j ds hi hjl];exact hj);refine⟨hjl,u,h1,h2,?_⟩;rw[<- htake,List.getElem?_take] at h1;split at h1
  ·rw[Nat.zero_add];simpa using h1
  ·cases h1
 refine .sl b 0 cap cur ty (0,0) es sz (fun i j=>(us[i * sz+j]?).getD undef) hF hcap (fun i ds hi=>hd ds (qL hi)) ?_ ?_
 ·intro i ds j d hi hj;obtain⟨_,u,h1,_,h3⟩:=hlt i j ds d hi hj;rw[h3];simp[h1]
 ·intro i ds j d hi hj;obtain⟨_,u,h1,h2,_⟩:=hlt i j ds d hi hj
  simpa [h1] using h2
theorem Sat.freeze (h:Sat c own w){r ty sz:Nat}{es:List (List D)}(hx:own[r]?=some (.row ty sz es)) :
  ∃ c',Sat c' (own.set r (.fz es)) w/\c.le c'/\Goes c own w c' (own.set r (.fz es)) w/\Rep c'.F (c.θ r) (.sl es):=by
 have Az:r<own.length:=(qA.1 hx).1;have hget:∀ (s:Nat) y,(own.set r (.fz es))[s]?=some y->y.live=true->s≠r/\own[s]?=some y:=fun s y hy hl=>by
  rw[List.getElem?_set] at hy;split at hy
  ·rename_i e;subst e;simp[] at hy;subst hy;simp[ak.live] at hl
  ·rename_i e;exact⟨fun e'=>e e'.symm,hy⟩
 have BN:∀ (s:Nat) y,(own.set r (.fz es))[s]?=some y->(s=r/\y=.fz es)\/own[s]?=some y:=fun s y hy=>by
  rw[List.getElem?_set] at hy;split at hy
  ·rename_i e;subst e;simp[] at hy;exact .inl ⟨rfl,hy.symm⟩
  ·exact .inr hy
 obtain⟨hd,us,⟨hn,hv⟩,hc⟩:=h.res r _ hx;rcases hv with ⟨hv,h0⟩|⟨b,cap,cur,hv,_,hb,hle,_,hcs,htake⟩
 ·have hes:es=[]:=List.eq_nil_of_length_eq_zero h0;subst hes;refine⟨c,⟨by simp[h.n],fun s y hy=>?_,fun s t y z k hy hz eU hlz hk hk'=>?_,fun s y k hy eU hk=>?_,h.le,h.one,h.tab⟩,Cx.le.refl c,⟨rfl,rfl,rfl,qR _,fun _ _ _=>rfl,fun _ hh=>.inl hh,?_,fun _ _ hh=>hh⟩,by rw[hv];exact .nil _ _ (fun _=>rfl)⟩
  ·rcases BN s y hy with ⟨rfl,rfl⟩|hy
   ·rw[hv];exact .nil _ _ (fun _=>rfl)
   ·exact h.res s y hy
  ·exact h.apart s t y z k (hget s y hy eU).2 (hget t z hz hlz).2 eU hlz hk hk'
  ·exact h.iw s y k (hget s y hy eU).2 eU hk
  ·rintro k ⟨s,y,hy,eU,hk⟩;exact .inl ⟨s,y,(hget s y hy eU).2,eU,hk⟩
 ·have hblk:jA (c.θ r)=some b:=by rw[hv];rfl
  have hnF:c.F b=none:=h.iw r _ b hx rfl hblk;have uN:c.le (c.ng b (.cells cur ty (0,0))):=Cx.ZM hnF;have hown:Own c own b:=⟨r,_,hx,rfl,hblk⟩;have hrep:Rep (c.ng b (.cells cur ty (0,0))).F (c.θ r) (.sl es):=by
   rw[hv];exact WT (c:=c.ng b (.cells cur ty (0,0))) (ty:=ty) (cur:=cur) hd (by simp[Cx.ng]) hle htake (fun j d hj=>let ⟨u,h1,h2⟩:=hc j d hj;⟨u,h1,h2.mono uN.f⟩)
  refine⟨c.ng b (.cells cur ty (0,0)),⟨by simp[h.n,Cx.ng],fun s y hy=>?_,fun s t y z k hy hz eU hlz hk hk'=>?_,fun s y k hy eU hk=>?_,?_,h.one,Tabs.mono uN.f h.tab⟩,uN,
   ⟨rfl,rfl,rfl,qR _,fun _ _ _=>rfl,?_,?_,uN.f⟩,?_⟩
  ·rcases BN s y hy with ⟨rfl,rfl⟩|hy
   ·exact hrep
   ·exact(h.res s y hy).keep uN (fun _ _ _=>rfl)
  ·exact h.apart s t y z k (hget s y hy eU).2 (hget t z hz hlz).2 eU hlz hk hk'
  ·obtain⟨hne,hy'⟩:=hget s y hy eU;simp only[Cx.ng];split
   ·rename_i e;subst e;exact absurd (h.apart s r y _ k hy' hx eU rfl hk hblk) hne
   ·exact h.iw s y k hy' eU hk
  ·intro k o hk;simp only[Cx.ng] at hk;split at hk
   ·rename_i e;subst e;cases hk;exact hb
   ·exact h.le k o hk
  ·intro k hk;simp only[Cx.ng] at hk;split at hk
   ·rename_i e;subst e;exact .inr (.inr hown)
   ·exact .inl hk
  ·rintro k ⟨s,y,hy,eU,hk⟩;exact .inl ⟨s,y,(hget s y hy eU).2,eU,hk⟩
  ·exact hrep
end
end Go.SX
