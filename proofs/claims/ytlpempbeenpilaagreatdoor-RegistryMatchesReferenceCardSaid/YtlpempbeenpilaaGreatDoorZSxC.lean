/- Parts of the proof. -/
import Derived.Test.YtlpempbeenpilaaGreatDoorZSxA
import Derived.MapKept
set_option linter.unusedSimpArgs false
set_option linter.unusedVariables false
set_option linter.unusedSectionVars false
namespace Go.SX
open Go
variable [Tabs]
theorem add_none (b off j:Nat):(⟨b,off,none⟩:Addr).add j=⟨b,off+j,none⟩:=by
 unfold Addr.add;split
 ·subst_vars;rfl
 ·rfl
theorem exists_list {α β:Type}{p:Nat→α→β→Prop}(l:List α)(h:∀ (j:Nat) s,l[j]?=some s→∃ u,p j s u) :
  ∃ us:List β,us.length=l.length∧∀ (j:Nat) s u,l[j]?=some s→us[j]?=some u→p j s u:=by
 induction l generalizing p with
 | nil=>exact⟨[],rfl,fun j s u hj=>by simp at hj⟩
 | cons a l ih =>
  obtain⟨u,hu⟩:=h 0 a rfl;obtain⟨us,hl,hus⟩:=ih (p:=fun j=>p (j+1)) (fun j s hj=>h (j+1) s (by simpa using hj));refine⟨u::us,by simp[hl],fun j s v hs hv=>?_⟩
  cases j with
  | zero=>simp at hs hv;subst hs;subst hv;exact hu
  | succ j=>simp at hs hv;exact hus j s v hs hv
section
variable {P:Program}{c:Cx}{own:List Res}{env:List SV}{a:Act}{w:World}
theorem run_loadL {b off:Nat}(l:List SV)(h:∀ (j:Nat) s,l[j]?=some s→∃ u,w.cell? ⟨b,off+j,none⟩=some u∧Rel c s u) :
  ∃ us,(loadCells ⟨b,off,none⟩ l.length).run P w=.ok us.toArray w∧RelL c l us:=by
 obtain⟨us,hl,hus⟩:=exists_list l h;refine⟨us,?_,hl,fun j s u h1 h2=>(hus j s u h1 h2).2⟩;have:=run_loadCells_list (P:=P) w ⟨b,off,none⟩ us (fun j v hv=>by
  have hj:j<l.length:=by rw[← hl];exact(qC.1 hv).1
  rw[add_none];exact(hus j l[j] v (by simp[hj]) hv).1)
 rwa [hl] at this
def sees (own:List Res):SV→Option (List SV)
 | .ptr r k=>(match getr own r with | .cells cs _=>some (cs.drop k) | _=>none)
 | .fp ds=>some (ds.map .d)
 | _=>none
theorem sees_rel (hS:Sat c own w){s:SV}{u:Value}{l:List SV}(hr:Rel c s u)(hl:sees own s=some l) :
  ∃ b off,u=.pointer (some ⟨b,off,none⟩)∧∀ (j:Nat) s,l[j]?=some s→∃ u,w.cell? ⟨b,off+j,none⟩=some u∧Rel c s u:=by
 cases hr with
 | @ptr r off b hr h =>
  simp only[sees,getr_eq] at hl
  cases hx:own[r]? with
  | none=>simp[hx] at hl
  | some x =>
   simp only[hx,Option.getD_some] at hl
   cases x with
   | gone=>simp at hl
   | fz=>simp at hl
   | fzc=>simp at hl
   | row=>simp at hl
   | mp=>simp at hl
   | mpf=>simp at hl
   | cells cs ty =>
    simp at hl;subst hl;obtain⟨b',us,hv,hb,hs,hc⟩:=hS.res r _ hx;rw[h] at hv;simp at hv;subst hv;refine⟨b,off,rfl,fun j s hj=>?_⟩;rw[List.getElem?_drop] at hj;obtain⟨u,h1,_,h3⟩:=hc (off+j) s hj;exact⟨u,by rw[cell_of_row w b _ _ _ _ hb];exact h1,h3⟩
 | @fp b off cs e fr ds hF h =>
  simp[sees] at hl;subst hl;refine⟨b,off,rfl,fun j s hj=>?_⟩;simp at hj;obtain⟨d,hd,rfl⟩:=hj;obtain⟨u,h1,h2⟩:=h j d hd;exact⟨u,by rw[cell_of_row w b _ _ _ _ (hS.le b _ hF)];exact h1,.d h2⟩
 | _=>simp[sees] at hl
theorem run_isAgg {t:TypeId}{d:TypeDesc}(h:P.underlying t=some d):(isAgg t).run P w=.ok (isAggB d) w:=by
 unfold isAgg;rw[qG,run_underlying h w];cases d<;>rfl
theorem run_sizeOf {t s:Nat}(h:sizeB P t=some s):(sizeOf t).run P w=.ok s w:=by
 unfold sizeB at h
 cases hq:P.info? t with
 | none=>simp[hq] at h
 | some i=>simp[hq] at h;simp[sizeOf,typeInfo,hq,h]
def takes (s:Nat)(agg:Bool)(l:List SV)(sv:SV):Prop:=if agg then ∃ l',takeN s l=some l'∧sv=.agg l' else l[0]?=some sv
theorem takeN_map {α β:Type}(f:α→β):∀ (n:Nat)(l l':List α),takeN n l=some l'→takeN n (l.map f)=some (l'.map f):=by
 intro n;induction n with
 | zero=>intro l l' h;simp[takeN] at h ⊢;exact h
 | succ n ih =>
  intro l l' h
  cases l with
  | nil=>simp[takeN] at h
  | cons a l =>
   simp only[takeN] at h
   cases hh:takeN n l with
   | none=>simp[hh] at h
   | some r=>simp[hh] at h;subst h;simp[takeN,ih _ _ hh]
theorem sload_takes {own:List Res}{s:Nat}{agg:Bool}{x sv:SV}(hl:sload own s agg x=some sv):∃ l,sees own x=some l∧takes s agg l sv:=by
 unfold takes
 cases x with
 | ptr r k =>
  simp only[sload] at hl;simp only[sees];split at hl
  ·rename_i cs ty hg;rw[hg];refine⟨_,rfl,?_⟩;split
   ·rename_i hb;simp only[hb,if_true] at hl
    cases ht:takeN s (cs.drop k) with
    | none=>simp[ht] at hl
    | some l=>simp[ht] at hl;exact⟨l,rfl,hl.symm⟩
   ·rename_i hb;simp only[hb] at hl;simpa using hl
  ·simp at hl
 | fp ds =>
  simp only[sload] at hl;refine⟨_,rfl,?_⟩;split
  ·rename_i hb;simp only[hb,if_true] at hl
   cases ht:takeN s ds with
   | none=>simp[ht] at hl
   | some l =>
    simp[ht] at hl;exact⟨_,takeN_map _ _ _ _ ht,hl.symm⟩
  ·rename_i hb;simp only[hb] at hl
   cases ds with
   | nil=>simp at hl
   | cons d ds=>simpa using hl
 | _=>simp[sload] at hl
theorem load_l {t s b off:Nat}{d:TypeDesc}(hs:sizeB P t=some s)(hd:P.underlying t=some d){l:List SV}{sv:SV}
  (hc:∀ (j:Nat) s,l[j]?=some s→∃ u,w.cell? ⟨b,off+j,none⟩=some u∧Rel c s u) (hk:takes s (isAggB d) l sv) :
  ∃ v,(Instr.loadAt t (.pointer (some ⟨b,off,none⟩))).run P w=.ok v w∧Rel c sv v:=by
 unfold takes at hk;simp only[Instr.loadAt,Instr.sureAddr,loadVar,qG,Sem.run_pure,qF,run_isAgg hd];split at hk
 ·rename_i hb;obtain⟨l',ht,rfl⟩:=hk;obtain⟨h1,h2⟩:=takeN_eq _ _ _ ht;obtain⟨us,hrun,hrel⟩:=run_loadL (P:=P) (w:=w) (b:=b) (off:=off) (c:=c) l' (fun j s hj=>by
   subst h1;rw[List.getElem?_take] at hj;split at hj
   ·exact hc j s hj
   ·simp at hj)
  rw[h2] at hrun;refine⟨.agg us.toArray,?_,Rel.agg_iff.2 ⟨us,rfl,hrel⟩⟩;simp only[hb,if_true,qG,run_sizeOf hs,qF,hrun,Sem.run_pure]
 ·rename_i hb;obtain⟨u,h1,h2⟩:=hc 0 sv hk;refine⟨u,?_,h2⟩;simp only[Nat.add_zero] at h1;simp only[hb,Bool.false_eq_true,if_false,run_load,h1]
theorem sload_sound (hS:Sat c own w){t s:Nat}{d:TypeDesc}(hs:sizeB P t=some s)(hd:P.underlying t=some d){x:SV}{u:Value}{sv:SV}(hr:Rel c x u)
  (hl:sload own s (isAggB d) x=some sv):∃ v,(Instr.loadAt t u).run P w=.ok v w∧Rel c sv v:=by
 obtain⟨l,hsee,hk⟩:=sload_takes hl;obtain⟨b,off,rfl,hc⟩:=sees_rel hS hr hsee;exact load_l hs hd hc hk
theorem sbin_sound {op:BinOp}{x y sv:SV}{u v:Value}{t:TypeId}(hx:Rel c x u)(hy:Rel c y v)(h:sbin op x y=some sv) :
  ∃ r,(binOp op t u v).run P w=.ok r w∧Rel c sv r:=by
 unfold sbin at h;split at h
 ·rename_i k a' k' b';obtain rfl:=hx.of_val;obtain rfl:=hy.of_val;have fin:∀ z,some (SV.d (.val z))=some sv→z.oneCell'=true→Rel c sv z:=fun z hz h1=>by cases hz;exact .d (.val _ h1)
  split at h
  ·split at h
   ·simp at h
   ·rename_i hb;exact⟨_,by simp[binOp,Op.shift,hb],fin _ h rfl⟩
  ·split at h
   ·simp at h
   ·rename_i hb;exact⟨_,by simp[binOp,Op.shift,hb],fin _ h rfl⟩
  ·rename_i h1 h2;split at h
   ·simp at h
   ·rename_i hk;have hk:k=k':=by simpa using hk
    subst hk;cases op<;>first
     | exact(h1 rfl).elim
     | exact(h2 rfl).elim
     | (simp at h;done)
     | (refine⟨_,?_,fin _ h rfl⟩;simp[binOp,Op.intArith,Op.intCmp,Op.intBits];done)
     | (refine⟨_,?_,fin _ h rfl⟩;simp[binOp,Op.intCmp];rfl)
 ·rename_i a' b';obtain rfl:=hx.of_val;obtain rfl:=hy.of_val;have fin:∀ z,some (SV.d (.val z))=some sv→z.oneCell'=true→Rel c sv z:=fun z hz h1=>by cases hz;exact .d (.val _ h1)
  cases op<;>first
   | (simp at h;done)
   | (refine⟨_,?_,fin _ h rfl⟩;simp[binOp,Op.stringOp];done)
 ·simp at h
theorem spick_sound {x y z sv:SV}{u v t:Value}(hx:Rel c x u)(hy:Rel c y v)(hz:Rel c z t)(h:spick x y z=some sv) :
  ∃ b,u=.bool b∧Rel c sv (if b then v else t):=by
 unfold spick at h;split at h
 ·rename_i b p q;obtain rfl:=hx.of_val;obtain rfl:=hy.of_val;obtain rfl:=hz.of_val;cases h;refine⟨b,rfl,?_⟩;cases b<;>exact .d (.val _ rfl)
 ·rename_i b _;obtain rfl:=hx.of_val;cases h;refine⟨b,rfl,?_⟩;cases b
  ·exact hz
  ·exact hy
 ·simp at h
theorem sfadd_sound {off:Nat}{x sv:SV}{u:Value}(hx:Rel c x u)(h:sfadd off x=some sv) :
  ∃ b k,u=.pointer (some ⟨b,k,none⟩)∧Rel c sv (.pointer (some ⟨b,k+off,none⟩)):=by
 cases hx with
 | @ptr r k b hr ht=>simp[sfadd] at h;subst h;exact⟨b,k,rfl,.ptr hr ht⟩
 | @fp b k cs e fr ds hF hh =>
  simp[sfadd] at h;subst h;refine⟨b,k,rfl,.fp hF fun j d hj=>?_⟩;rw[List.getElem?_drop] at hj;obtain⟨u,h1,h2⟩:=hh (off+j) d hj;exact⟨u,by rw[Nat.add_assoc];exact h1,h2⟩
 | @rp r sz i j b n cap hr ht=>simp[sfadd] at h;subst h;exact⟨b,i * sz+j,rfl,by rw[Nat.add_assoc];exact .rp hr ht⟩
 | _=>simp[sfadd] at h
theorem sfld_sound {t s off:Nat}{d:TypeDesc}(hs:sizeB P t=some s)(hd:P.underlying t=some d){x sv:SV}{u:Value}(hr:Rel c x u)
  (h:sfld off s (isAggB d) x=some sv):∃ us v,u=.agg us∧(part t us off).run P w=.ok v w∧Rel c sv v:=by
 cases hr with
 | @agg cs us hl hh =>
  simp only[sfld] at h
  suffices hx:∃ v,(part t us off).run P w=.ok v w∧Rel c sv v from let ⟨v,h1,h2⟩:=hx;⟨us,v,rfl,h1,h2⟩
  unfold part;simp only[qG,run_isAgg hd,qF];split at h
  ·rename_i hb;cases h;simp only[hb,if_true,qG,run_sizeOf hs,qF,Sem.run_pure];refine⟨_,rfl,.agg ?_ fun i s' u' hi hu=>?_⟩
   ·simp;omega
   ·rw[List.getElem?_take] at hi;split at hi
    ·rename_i hlt;rw[List.getElem?_drop] at hi;rw[Array.getElem?_extract] at hu;split at hu
     ·exact hh _ _ _ hi hu
     ·simp at hu
    ·simp at hi
  ·rename_i hb;have hlt:off<cs.length:=(qC.1 h).1;have hu:us[off]?=some us[off]:=by simp[hl,hlt]
   refine⟨us[off]'(by omega),?_,hh off sv _ h hu⟩;simp[hb,hu]
 | _=>simp[sfld] at h
theorem smlen_sound (hS:Sat c own w){x sv:SV}{u:Value}{t k e ty:TypeId}(ht:P.underlying t=some (.map k e))(hr:Rel c x u)(h:smlen own x=some sv) :
  ∃ v,(Builtin.len_ #[t] ty #[u]).run P w=.ok v w∧Rel c sv v:=by
 unfold smlen at h;split at h
 ·rename_i r;cases hr with | hd hr hv =>
  rw[getr_eq] at h
  cases hx:own[r]? with
  | none=>simp[hx] at h
  | some y =>
   simp only[hx,Option.getD_some] at h;have hres:=hS.res r y hx;split at h
   ·cases h;obtain⟨b,ms,clock,hw,⟨hb,_⟩,hsz,_⟩:=hres;rw[← hv,hw,← hsz];exact⟨_,by simp[Builtin.len_,run_underlying ht,MapKept.run_getObj_map hb,Result.andThen];rfl,.d (.val _ rfl)⟩
   ·simp at h
 ·simp at h
theorem slen_sound (hS:Sat c own w){x sv:SV}{u:Value}{t ty:TypeId}{str:Bool}(ht:if str then P.underlying t=some .string else ∃ e,P.underlying t=some (.slice e))(hr:Rel c x u)
  (h:slen own str x=some sv):∃ v,(Builtin.len_ #[t] ty #[u]).run P w=.ok v w∧Rel c sv v:=by
 unfold slen at h;split at h
 ·rename_i es;cases str
  ·simp at h ht;obtain⟨e,ht⟩:=ht;subst h;cases hr with | d hr =>
   cases hr with
   | nil a k _=>exact⟨_,by simp[Builtin.len_,run_underlying ht];rfl,.d (.val _ rfl)⟩
   | sl=>exact⟨_,by simp[Builtin.len_,run_underlying ht];rfl,.d (.val _ rfl)⟩
  ·simp at h
 ·rename_i n _;obtain rfl:=hr.of_val;cases str
  ·simp at h ht;obtain⟨e,ht⟩:=ht;subst h;exact⟨_,by simp[Builtin.len_,run_underlying ht];rfl,.d (.val _ rfl)⟩
  ·simp at h
 ·obtain rfl:=hr.of_val;cases str
  ·simp at h
  ·simp at h ht;subst h;exact⟨_,by simp[Builtin.len_,run_underlying ht];rfl,.d (.val _ rfl)⟩
 ·rename_i r;cases str
  ·simp only[Bool.false_eq_true,if_false] at h ht;obtain⟨e,ht⟩:=ht;cases hr with | hd hr hv =>
   rw[getr_eq] at h
   cases hx:own[r]? with
   | none=>simp[hx] at h
   | some y =>
    simp only[hx,Option.getD_some] at h;have hres:=hS.res r y hx;split at h
    ·rename_i ty' sz es;cases h;obtain⟨_,us,⟨_,hw⟩,_⟩:=hres;rcases hw with ⟨hw,hn⟩ | ⟨g,cap,cur,hw,_⟩
     ·rw[← hv,hw];exact⟨_,by simp[Builtin.len_,run_underlying ht];rfl,by rw[hn];exact .d (.val _ rfl)⟩
     ·rw[← hv,hw];exact⟨_,by simp[Builtin.len_,run_underlying ht];rfl,.d (.val _ rfl)⟩
    ·simp at h
  ·simp at h
 ·rename_i r s0 i;cases str
  ·simp only[Bool.false_eq_true,if_false] at h ht;obtain⟨e,ht⟩:=ht;cases hr with | rs hr hv =>
   obtain⟨ad,nn,cap',hu,hin,rfl⟩:=hv;rw[getr_eq] at h
   cases hx:own[r]? with
   | none=>simp[hx] at h
   | some y =>
    simp only[hx,Option.getD_some] at h;have hres:=hS.res r y hx;split at h
    ·rename_i ty' sz es;cases h;obtain⟨_,us,⟨_,hw⟩,_⟩:=hres;have hnn:nn=es.length:=by
      rcases hw with ⟨hw,hn⟩ | ⟨g,cap,cur,hw,_⟩
      ·rw[hw] at hu;cases hu;exact hn.symm
      ·rw[hw] at hu;cases hu;rfl
     rw[hnn];exact⟨_,by simp[Builtin.len_,run_underlying ht];rfl,.d (.val _ rfl)⟩
    ·simp at h
  ·simp at h
 ·simp at h
theorem sext_sound {i:Nat}{x sv:SV}{u:Value}(hr:Rel c x u)(h:sext i x=some sv):∃ v,(Instr.extract u i).run P w=.ok v w∧Rel c sv v:=by
 cases hr with
 | @tup cs us hl hh =>
  simp only[sext] at h;have hlt:i<cs.length:=(qC.1 h).1;have hu:us[i]?=some us[i]:=by simp[hl,hlt]
  exact⟨us[i]'(by omega),by simp[Instr.extract,hu],hh i sv _ h hu⟩
 | _=>simp[sext] at h
theorem sun_sound {op:UnOp}{x sv:SV}{u:Value}(hr:Rel c x u)(h:sun op x=some sv):∃ v,(Op.unary op u).run P w=.ok v w∧Rel c sv v:=by
 unfold sun at h;split at h
 ·obtain rfl:=hr.of_val;cases op<;>simp at h;subst h;exact⟨_,by simp[Op.unary],.d (.val _ rfl)⟩
 ·obtain rfl:=hr.of_val;cases op<;>simp at h;subst h;exact⟨_,by simp[Op.unary,Op.intArith],.d (.val _ rfl)⟩
 ·simp at h
theorem smm_sound (mx:Bool)(l:List SV):∀ {x sv:SV}{u:Value}{us:List Value},Rel c x u→RelL c l us→smm mx x l=some sv →
  ∃ v,(us.foldlM (if mx then Builtin.max2 else Builtin.min2) u).run P w=.ok v w∧Rel c sv v:=by
 induction l with
 | nil =>
  intro x sv u us hx hl h;rw[RelL.nil_iff.1 hl];simp only[smm] at h;split at h
  ·cases h;exact⟨u,by simp,hx⟩
  ·simp at h
 | cons y l ih =>
  intro x sv u us hx hl h;obtain⟨v,us',rfl,hy,hl'⟩:=RelL.cons_iff.1 hl;unfold smm at h;split at h
  ·simp at *
  ·rename_i k a' k' b' l' heq;simp at heq;obtain⟨rfl,rfl⟩:=heq;obtain rfl:=hx.of_val;obtain rfl:=hy.of_val;obtain⟨r,h1,h2⟩:=ih (x:=.d (.val (.int k (if mx then max a' b' else min a' b')))) (u:=.int k (if mx then max a' b' else min a' b')) (.d (.val _ rfl)) hl' h;refine⟨r,?_,h2⟩;rw[List.foldlM_cons,qG];cases mx
   ·have:(Builtin.min2 (.int k a') (.int k' b')).run P w=.ok (.int k (min a' b')) w:=by
     simp only[Builtin.min2,Sem.run_pure];congr 2;split<;>omega
    simp only[Bool.false_eq_true,if_false] at h1 ⊢;rw[this];exact h1
   ·have:(Builtin.max2 (.int k a') (.int k' b')).run P w=.ok (.int k (max a' b')) w:=by
     simp only[Builtin.max2,Sem.run_pure];congr 2;split<;>omega
    simp only[if_true] at h1 ⊢;rw[this];exact h1
  ·simp at h
theorem scvi_sound {k:IntKind}{src dst:TypeId}{ks:IntKind}{x sv:SV}{u:Value}(hs:P.underlying src=some (.int ks))(hd:P.underlying dst=some (.int k))(hr:Rel c x u)
  (h:scvi k x=some sv):∃ v,(convert src dst u).run P w=.ok v w∧Rel c sv v:=by
 unfold scvi at h;split at h
 ·obtain rfl:=hr.of_val;cases h;exact⟨_,by simp[convert,run_underlying hs,run_underlying hd,Conv.intToInt],.d (.val _ rfl)⟩
 ·simp at h
theorem seqs_veqs {c:Cx}:∀ {ks:List CK}{cs cs':List SV}{us vs:List Value}{b:Bool},RelL c cs us→RelL c cs' vs→seqs ks cs cs'=some b→veqs ks us vs=some b:=by
 intro ks
 induction ks with
 | nil=>intro cs cs' us vs b _ _ h;simp[seqs,seqsW] at h
 | cons k ks ih =>
  intro cs cs' us vs b h1 h2 h
  match ks,cs,cs',h with
  | [],[.d (.val x)],[.d (.val y)],h =>
   simp only[seqs,seqsW] at h;obtain⟨u,us',rfl,m1,m2⟩:=RelL.cons_iff.1 h1;obtain⟨v,vs',rfl,n1,n2⟩:=RelL.cons_iff.1 h2;rw[RelL.nil_iff.1 m2,RelL.nil_iff.1 n2,m1.of_val,n1.of_val];simp[veqs,h]
  | [],[.d (.val x)],.d (.val y)::z::l',h =>
   cases hk:ckeq k x y<;>simp[seqs,seqsW,hk] at h
  | [],.d (.val x)::z::l,.d (.val y)::l',h =>
   cases hk:ckeq k x y<;>simp[seqs,seqsW,hk] at h
  | k'::ks,.d (.val x)::l,.d (.val y)::l',h =>
   simp only[seqs,seqsW] at h;obtain⟨u,us',rfl,m1,m2⟩:=RelL.cons_iff.1 h1;obtain⟨v,vs',rfl,n1,n2⟩:=RelL.cons_iff.1 h2;split at h
   ·rename_i a b' q1 q2;cases h;rw[m1.of_val,n1.of_val];simp[veqs,q1,ih m2 n2 q2]
   ·cases h
theorem sbeq_sound {n:Bool}{ks:List CK}{t:TypeId}{x y sv:SV}{u v:Value}{d:Nat}(hd:d≤10000)(ht:(P.underlying t=some .bool∧ks=[])∨(eqT P d t=some ks∧isAggB ((P.underlying t).getD .bool)=true∧ks≠[]))(hx:Rel c x u)(hy:Rel c y v)(h:sbeq n ks x y=some sv) :
  ∃ r,(binOp (if n then .neq else .eql) t u v).run P w=.ok r w∧Rel c sv r:=by
 unfold sbeq at h;split at h
 ·split at h
  ·have ht:P.underlying t=some .bool:=by
    rcases ht with ht | ⟨_,_,ht⟩
    ·exact ht.1
    ·exact absurd rfl ht
   obtain rfl:=hx.of_val;obtain rfl:=hy.of_val;cases h;have key:∀ a b:Bool,(Op.equal t (.bool a) (.bool b)).run P w=.ok (a == b) w:=fun a b=>by
    unfold Op.equal;rw[show Op.maxDepth=9999+1 from rfl,Op.equalIn];simp only[qG,run_underlying ht,qF,Sem.run_pure]
   cases n
   ·refine⟨_,?_,.d (.val _ rfl)⟩;simp only[binOp,Bool.false_eq_true,if_false,qG,key,qF,Sem.run_pure,Bool.false_xor]
   ·refine⟨_,?_,.d (.val _ rfl)⟩;simp only[binOp,if_true,qG,key,qF,Sem.run_pure,Bool.true_xor]
  ·cases h
 ·split at h
  ·rename_i b hb;cases h;obtain⟨us,rfl,h1⟩:=Rel.agg_iff.1 hx;obtain⟨vs,rfl,h2⟩:=Rel.agg_iff.1 hy;rcases ht with ⟨_,rfl⟩ | ⟨ht,hu,_⟩
   ·simp[seqs,seqsW] at hb
   ·have key:(Op.equal t (.agg us.toArray) (.agg vs.toArray)).run P w=.ok b w:=run_eq_agg hd ht hu (seqs_veqs h1 h2 hb);cases n
    ·refine⟨_,?_,.d (.val _ rfl)⟩;simp only[binOp,Bool.false_eq_true,if_false,qG,key,qF,Sem.run_pure,Bool.false_xor]
    ·refine⟨_,?_,.d (.val _ rfl)⟩;simp only[binOp,if_true,qG,key,qF,Sem.run_pure,Bool.true_xor]
  ·cases h
 ·simp at h
theorem scap_sound {x sv:SV}{u:Value}{t ty:TypeId}(ht:∃ e,P.underlying t=some (.slice e))(hr:Rel c x u)(h:scap x=some sv):∃ v,(Builtin.cap_ #[t] ty #[u]).run P w=.ok v w∧Rel c sv v:=by
 obtain⟨e,ht⟩:=ht;unfold scap at h;split at h
 ·cases h;obtain rfl:=hr.of_val;exact⟨_,by simp[Builtin.cap_,run_underlying ht];rfl,.d (.val _ rfl)⟩
 ·simp at h
theorem spnil_sound {n:Bool}{t:TypeId}{x sv:SV}{u:Value}(ht:∃ e,P.underlying t=some (.pointer e))(hx:Rel c x u)(h:spnil n x=some sv) :
  (∃ r,(binOp (if n then .neq else .eql) t u (.pointer none)).run P w=.ok r w∧Rel c sv r)∧∀ (op:BinOp)(ox oy:Operand),(eqGuard op t ox oy u (.pointer none)).run P w=.ok () w:=by
 obtain⟨e,ht⟩:=ht;have key:∀ a:Option Addr,(Op.equal t (.pointer a) (.pointer none)).run P w=.ok a.isNone w:=by
  rintro (_ | a)
  ·unfold Op.equal;rw[show Op.maxDepth=9999+1 from rfl,Op.equalIn];simp only[qG,run_underlying ht,qF,Sem.run_pure]
  ·unfold Op.equal;rw[show Op.maxDepth=9999+1 from rfl,Op.equalIn];simp only[qG,run_underlying ht,qF,Sem.run_pure,Option.isNone]
 have fin:∀ (a:Option Addr),u=.pointer a→some (SV.d (.val (.bool (n ^^ a.isNone))))=some sv→(∃ r,(binOp (if n then .neq else .eql) t u (.pointer none)).run P w=.ok r w∧Rel c sv r)∧∀ (op:BinOp)(ox oy:Operand),(eqGuard op t ox oy u (.pointer none)).run P w=.ok () w:=by
  rintro a rfl hs;cases hs;refine⟨?_,fun op ox oy=>by cases op<;>simp[eqGuard]⟩;cases n
  ·exact⟨_,by simp only[binOp,Bool.false_eq_true,if_false,qG,key,qF,Sem.run_pure,Bool.false_xor],.d (.val _ rfl)⟩
  ·exact⟨_,by simp only[binOp,if_true,qG,key,qF,Sem.run_pure,Bool.true_xor],.d (.val _ rfl)⟩
 unfold spnil at h;split at h
 ·cases hx with | ptr hr ht'=>exact fin _ rfl (by simpa using h)
 ·cases hx with | fp hF hh=>exact fin _ rfl (by simpa using h)
 ·obtain rfl:=hx.of_val;exact fin none rfl (by simpa using h)
 ·cases h
theorem sfnil_sound {n:Bool}{t:TypeId}{x y sv:SV}{u v:Value}(ht:∃ a b c,P.underlying t=some (.func a b c))(hx:Rel c x u)(hy:Rel c y v)(h:sfnil n x y=some sv) :
  (∃ r,(binOp (if n then .neq else .eql) t u v).run P w=.ok r w∧Rel c sv r)∧∀ (op:BinOp)(ox oy:Operand),(eqGuard op t ox oy u v).run P w=.ok () w:=by
 obtain⟨ta,tb,tc,ht⟩:=ht
 have key:∀ a b:Value,(a=.nilFunc∨∃ f us vs,a=.func f us vs)→b=.nilFunc→(Op.equal t a b).run P w=.ok (match a with | .nilFunc=>true | _=>false) w:=by
  rintro a b (rfl | ⟨f,us,vs,rfl⟩) rfl
  ·unfold Op.equal;rw[show Op.maxDepth=9999+1 from rfl,Op.equalIn];simp only[qG,run_underlying ht,qF,Sem.run_pure]
  ·unfold Op.equal;rw[show Op.maxDepth=9999+1 from rfl,Op.equalIn];simp only[qG,run_underlying ht,qF,Sem.run_pure]
 have grd:∀ a b:Value,(a=.nilFunc∨∃ f us vs,a=.func f us vs)→b=.nilFunc→∀ (op:BinOp)(ox oy:Operand),(eqGuard op t ox oy a b).run P w=.ok () w:=by
  rintro a b (rfl | ⟨f,us,vs,rfl⟩) rfl op ox oy<;>cases op<;>simp[eqGuard]
 unfold sfnil at h;split at h
 ·obtain⟨us,vs,rfl,_⟩:=Rel.clo_iff.1 hx;obtain rfl:=hy.of_val;cases h;refine⟨?_,grd _ _ (.inr ⟨_,_,_,rfl⟩) rfl⟩;rename_i f _ _ _;have:=key (.func (.func f) us.toArray vs.toArray) .nilFunc (.inr ⟨_,_,_,rfl⟩) rfl;cases n
  ·exact⟨_,by simp only[binOp,Bool.false_eq_true,if_false,qG,this,qF,Sem.run_pure],.d (.val _ rfl)⟩
  ·exact⟨_,by simp only[binOp,if_true,qG,this,qF,Sem.run_pure,Bool.not_false],.d (.val _ rfl)⟩
 ·obtain rfl:=hx.of_val;obtain rfl:=hy.of_val;cases h;refine⟨?_,grd _ _ (.inl rfl) rfl⟩;have:=key _ _ (.inl rfl) rfl;cases n
  ·exact⟨_,by simp only[binOp,Bool.false_eq_true,if_false,qG,this,qF,Sem.run_pure,Bool.not_false],.d (.val _ rfl)⟩
  ·exact⟨_,by simp only[binOp,if_true,qG,this,qF,Sem.run_pure,Bool.not_true],.d (.val _ rfl)⟩
 ·simp at h
theorem snil_sound {x sv:SV}{u:Value}(hr:Rel c x u)(h:snil x=some sv) :
  Rel c sv u∧((∃ a,u=.pointer (some a))∨∃ f as bs,u=.func (.func f) as bs):=by
 cases hr with
 | ptr hr ht=>simp[snil] at h;subst h;exact⟨.ptr hr ht,.inl ⟨_,rfl⟩⟩
 | fp hF hh=>simp[snil] at h;subst h;exact⟨.fp hF hh,.inl ⟨_,rfl⟩⟩
 | rp hr ht=>simp[snil] at h;subst h;exact⟨.rp hr ht,.inl ⟨_,rfl⟩⟩
 | @clo fn fs cs us vs hl hh hl' hh' =>
  cases fn<;>simp[snil] at h;subst h;exact⟨.clo hl hh hl' hh',.inr ⟨_,_,_,rfl⟩⟩
 | _=>simp[snil] at h
theorem one_cells {u:Value}(h:u.oneCell'=true):u.cells=#[u]:=by cases u<;>first | rfl | simp[Value.oneCell'] at h
theorem cells_rel (hθ:∀ r,(c.θ r).oneCell'=true){s:SV}{u:Value}(hr:Rel c s u)(hs:s.flat=true):RelL c s.cells u.cells.toList:=by
 by_cases h1:s.one=true
 ·rw[one_cells (hr.one hθ h1)];have:s.cells=[s]:=by cases s<;>first | rfl | simp[SV.one] at h1
  rw[this];exact .cons hr .nil
 ·cases s with
  | agg cs =>
   obtain⟨us,rfl,h⟩:=Rel.agg_iff.1 hr;exact h
  | _=>simp[SV.one,SV.flat] at h1 hs
theorem zip_fold (l:List Value):∀ (k off:Nat)(cs:Array Value),off+k+l.length≤cs.size →
  ((l.zipIdx k).foldl (fun cs x=>cs.setIfInBounds (off+x.2) x.1) cs).toList=cs.toList.take (off+k)++l++cs.toList.drop (off+k+l.length):=by
 induction l with
 | nil=>intro k off cs h;simp
 | cons v l ih =>
  intro k off cs h;simp only[qV] at h;rw[List.zipIdx_cons,List.foldl_cons,ih (k+1) off _ (by simp;omega)];simp only[Array.toList_setIfInBounds];have e1:off+(k+1)=off+k+1:=by omega
  rw[e1,List.take_add_one,List.take_set_of_le (by omega),List.getElem?_set_self (by simp;omega),List.drop_set_of_lt (by omega)];have e2:off+k+1+l.length=off+k+(l.length+1):=by omega
  simp only[Option.toList_some,List.append_assoc,qV,List.cons_append,List.nil_append,e2]
theorem RelL.take {ss:List SV}{us:List Value}(h:RelL c ss us)(n:Nat):RelL c (ss.take n) (us.take n) :=
 ⟨by simp[h.1],fun i s u h1 h2=>by
  rw[List.getElem?_take] at h1 h2;split at h1
  ·rw[if_pos (by assumption)] at h2;exact h.2 i s u h1 h2
  ·simp at h1⟩
theorem RelL.drop {ss:List SV}{us:List Value}(h:RelL c ss us)(n:Nat):RelL c (ss.drop n) (us.drop n) :=
 ⟨by simp[h.1],fun i s u h1 h2=>by rw[List.getElem?_drop] at h1 h2;exact h.2 _ s u h1 h2⟩
theorem RelL.splice {ss vs:List SV}{us ws:List Value}(h:RelL c ss us)(hv:RelL c vs ws)(off:Nat):RelL c (Go.SX.splice off vs ss) (Go.SX.splice off ws us):=by
 unfold Go.SX.splice;rw[hv.1];exact((h.take _).append hv).append (h.drop _)
theorem fill_sound (hθ:∀ r,(c.θ r).oneCell'=true)(place:Nat→Option (Nat×Nat))(ps:List ((Nat×Nat)×SV)):∀ (vs:List (Nat×Value))(cells cells':List SV)(us:Array Value),
  vs.length=ps.length→(∀ (i:Nat) p v,ps[i]?=some p→vs[i]?=some v→place v.1=some p.1∧Rel c p.2 v.2)→RelL c cells us.toList→sfill cells ps=some cells' →
  ∃ us',Instr.fill place us vs=some us'∧RelL c cells' us'.toList:=by
 induction ps with
 | nil =>
  intro vs cells cells' us hl _ hc h;simp at hl;subst hl;simp[sfill] at h;subst h;exact⟨us,rfl,hc⟩
 | cons p ps ih =>
  intro vs cells cells' us hl hp hc h;obtain⟨⟨off,sz⟩,s⟩:=p
  cases vs with
  | nil=>simp at hl
  | cons v vs =>
   obtain⟨i,v⟩:=v;obtain⟨hpl,hrel⟩:=hp 0 _ _ rfl rfl;simp only[sfill] at h;split at h
   ·rename_i hcond;obtain⟨hflat,hlen,hle⟩:=hcond;have hcr:=cells_rel hθ hrel hflat;have hsz:v.cells.size=sz:=by have:=hcr.1;simp at this hlen;omega
    have hus:us.size=cells.length:=by have:=hc.1;simpa using this
    have hfold:=zip_fold v.cells.toList 0 off us (by simp;omega);obtain⟨us',h1,h2⟩:=ih vs _ cells' (v.cells.zipIdx.foldl (fun cs x=>cs.setIfInBounds (off+x.2) x.1) us) (by simpa using hl) (fun i p v h1 h2=>hp (i+1) p v (by simpa using h1) (by simpa using h2)) (by
     rw[← Array.foldl_toList,Array.toList_zipIdx,hfold];exact hc.splice hcr off) h
    refine⟨us',?_,h2⟩;simp only[Instr.fill,hpl];rw[if_neg (by simp;omega)];exact h1
   ·simp at h
end
end Go.SX
namespace Go.SX
open Go
variable [Tabs]
section
variable {P:Program}{c:Cx}{own:List Res}{env:List SV}{a:Act}{w:World}
theorem eqGuard_scalar {op:BinOp}{t:TypeId}{x y:Operand}{u v:Value}(h:(∃ k n,u=.int k n)∨(∃ s,u=.string s)∨∃ b,u=.bool b) :
  (eqGuard op t x y u v).run P w=.ok () w:=by
 rcases h with ⟨k,n,rfl⟩ | ⟨s,rfl⟩ | ⟨b,rfl⟩
 ·have:eqGuard op t x y (.int k n) v=pure ():=by cases op<;>rfl
  rw[this];rfl
 ·have:eqGuard op t x y (.string s) v=pure ():=by cases op<;>rfl
  rw[this];rfl
 ·have:eqGuard op t x y (.bool b) v=pure ():=by cases op<;>rfl
  rw[this];rfl
theorem sbin_scalar {op:BinOp}{x y sv:SV}{u:Value}(hx:Rel c x u)(h:sbin op x y=some sv):(∃ k n,u=.int k n)∨(∃ s,u=.string s)∨∃ b,u=.bool b:=by
 unfold sbin at h;split at h
 ·obtain rfl:=hx.of_val;exact .inl ⟨_,_,rfl⟩
 ·obtain rfl:=hx.of_val;exact .inr (.inl ⟨_,rfl⟩)
 ·simp at h
theorem partsB_spec {fs:Array Field}(ps:List (Nat×Operand)):∀ {l},partsB P fs ps=some l →
  l.length=ps.length∧∀ (i:Nat) p q,ps[i]?=some p→l[i]?=some q→q.2=p.2∧∃ f,fs[p.1]?=some f∧q.1.1=f.offset∧sizeB P f.type=some q.1.2:=by
 induction ps with
 | nil=>intro l h;simp[partsB] at h;subst h;simp
 | cons p ps ih =>
  intro l h;obtain⟨i,x⟩:=p;simp only[partsB,Option.bind_eq_bind,qH] at h;obtain⟨f,hf,s,hs,r,hr,h⟩:=h;cases h;obtain⟨h1,h2⟩:=ih hr;refine⟨by simp[h1],fun j p q hp hq=>?_⟩
  cases j with
  | zero=>simp at hp hq;subst hp;subst hq;exact⟨rfl,f,hf,rfl,hs⟩
  | succ j=>simp at hp hq;exact h2 j p q hp hq
theorem mapM_places (fs:Array Field)(hs:∀ (i:Nat) f,fs[i]?=some f→∃ s,sizeB P f.type=some s) :
  ∃ l:Array (Nat×Nat),(fs.mapM fun f=>(do pure (f.offset,← sizeOf f.type):Sem (Nat×Nat))).run P w=.ok l w ∧
   ∀ (i:Nat) f s,fs[i]?=some f→sizeB P f.type=some s→l[i]?=some (f.offset,s):=by
 rw[Array.mapM_eq_mapM_toList]
 suffices h:∀ l:List Field,(∀ f∈l,∃ s,sizeB P f.type=some s)→∃ r:List (Nat×Nat),(l.mapM fun f=>(do pure (f.offset,← sizeOf f.type):Sem (Nat×Nat))).run P w=.ok r w ∧
   ∀ (i:Nat) f s,l[i]?=some f→sizeB P f.type=some s→r[i]?=some (f.offset,s) by
  obtain⟨r,h1,h2⟩:=h fs.toList (fun f hf=>by obtain⟨i,hi⟩:=List.getElem?_of_mem hf;exact hs i f (by simpa using hi));refine⟨r.toArray,?_,fun i f s hf hs=>by simpa using h2 i f s (by simpa using hf) hs⟩;rw[Sem.run_map,h1];rfl
 intro l
 induction l with
 | nil=>intro _;exact⟨[],by simp,fun i f s hf=>by simp at hf⟩
 | cons f l ih =>
  intro h;obtain⟨s,hs⟩:=h f (by simp);obtain⟨r,h1,h2⟩:=ih fun f hf=>h f (by simp[hf])
  refine⟨(f.offset,s)::r,?_,fun i g t hg ht=>?_⟩
  ·simp only[List.mapM_cons,qG,run_sizeOf hs,qF,Sem.run_pure];rw[h1];rfl
  ·cases i with
   | zero=>simp at hg;subst hg;rw[hs] at ht;cases ht;rfl
   | succ i=>simp at hg;simpa using h2 i g t hg ht
theorem run_zeroB {t:TypeId}{z:Value}(h:zeroB P t=some z):(zeroValue t).run P w=.ok z w:=by
 unfold zeroB at h
 cases hq:P.info? t with
 | none=>simp[hq] at h
 | some i=>simp[hq] at h;simp[zeroValue,typeInfo,hq,h]
theorem cval_cells {z:Value}:RelL c (cval z).cells z.cells.toList:=by
 cases z with
 | agg cs =>
  obtain⟨us,h1,h2⟩:=Rel.agg_iff.1 (cval_rel c (.agg cs));cases h1;simpa [cval,SV.cells,Value.cells] using h2
 | tuple cs =>
  have h:=cval_rel c (.tuple cs);have:(cval (.tuple cs)).cells=[cval (.tuple cs)]:=by simp only[cval];split<;>rfl
  rw[this];exact .cons h .nil
 | _=>exact .cons (cval_rel c _) .nil
theorem pure_sound {e:Operand→SV}(hE:∀ x,Rel c (e x) (a.eval x))(hS:Sat c own w){o:Oper}{d:DOp}{sv:SV}(hc:compOp P o.op=some d)(hp:pureOp own e d=some sv) :
  ∃ u,(execOp a.eval o).run P w=.ok (.value u) w∧Rel c sv u:=by
 have fin:∀ (s:Sem Value),(∃ u,s.run P w=.ok u w∧Rel c sv u)→∃ u,(do pure (Next.value (← s)):Sem Next).run P w=.ok (.value u) w∧Rel c sv u:=by
  rintro s ⟨u,h1,h2⟩;exact⟨u,by rw[qG,h1];rfl,h2⟩
 unfold execOp;generalize o.op=op at hc ⊢
 cases op with
 | move x=>cases hc;cases hp;exact⟨_,rfl,hE x⟩
 | assign x=>cases hc;cases hp;exact⟨_,rfl,hE x⟩
 | pick x y z =>
  cases hc;obtain⟨b,h1,h2⟩:=spick_sound (hE x) (hE y) (hE z) hp;refine⟨_,?_,h2⟩;simp[h1,asBool]
 | binOp op t x y ty =>
  refine fin _ ?_;simp only[compOp] at hc;have hx:=hE x;have hy:=hE y;have bin:d=.bin op x y→∃ u,(do eqGuard op t x y (a.eval x) (a.eval y);binOp op t (a.eval x) (a.eval y):Sem Value).run P w=.ok u w∧Rel c sv u:=by
   rintro rfl;obtain⟨r,h1,h2⟩:=sbin_sound (P:=P) (w:=w) (t:=t) hx hy hp;refine⟨r,?_,h2⟩;rw[qG,eqGuard_scalar (sbin_scalar hx hp)];exact h1
  have beq:∀ n ks,((P.underlying t=some .bool∧ks=[])∨(eqT P 100 t=some ks∧isAggB ((P.underlying t).getD .bool)=true∧ks≠[]))→(ks≠[]→P.eqGuardType P.depth t=false)→op=(if n then .neq else .eql)→d=.beq n ks x y→∃ u,(do eqGuard op t x y (a.eval x) (a.eval y);binOp op t (a.eval x) (a.eval y):Sem Value).run P w=.ok u w∧Rel c sv u:=by
   rintro n ks ht hg rfl rfl;obtain⟨r,h1,h2⟩:=sbeq_sound (P:=P) (w:=w) (by decide:100≤10000) ht hx hy hp;refine⟨r,?_,h2⟩;have hb:(∃ b,a.eval x=.bool b)∨(ks≠[]∧∃ us vs,a.eval x=.agg us∧a.eval y=.agg vs):=by
    simp only[pureOp,sbeq] at hp;split at hp
    ·rename_i h1 h2;rw[h1] at hx;exact .inl ⟨_,hx.of_val⟩
    ·rename_i h1 h2;split at hp
     ·rename_i b' hb;refine .inr ⟨fun e=>by subst e;simp[seqs,seqsW] at hb,?_⟩;rw[h1] at hx;rw[h2] at hy;obtain⟨us,e1,_⟩:=Rel.agg_iff.1 hx;obtain⟨vs,e2,_⟩:=Rel.agg_iff.1 hy;exact⟨_,_,e1,e2⟩
     ·simp at hp
    ·simp at hp
   rcases hb with hb | ⟨hk,us,vs,e1,e2⟩
   ·rw[qG,eqGuard_scalar (.inr (.inr hb))];exact h1
   ·rw[qG];rw[e1,e2] at h1 ⊢;rw[run_eqGuard_agg w _ t x y us vs (hg hk)];exact h1
  split at hc
  ·rename_i ht;split at hc
   ·cases hc;exact beq false [] (.inl ⟨ht,rfl⟩) (fun h=>absurd rfl h) rfl rfl
   ·cases hc;exact beq true [] (.inl ⟨ht,rfl⟩) (fun h=>absurd rfl h) rfl rfl
   ·simp at hc
  ·rename_i ta tb tc ht;split at hc
   ·cases hc;obtain⟨⟨r,h1,h2⟩,h3⟩:=sfnil_sound (P:=P) (w:=w) ⟨_,_,_,ht⟩ hx hy hp;exact⟨r,by rw[qG,h3];exact h1,h2⟩
   ·cases hc;obtain⟨⟨r,h1,h2⟩,h3⟩:=sfnil_sound (P:=P) (w:=w) ⟨_,_,_,ht⟩ hx hy hp;exact⟨r,by rw[qG,h3];exact h1,h2⟩
   ·simp at hc
  ·split at hc
   ·split at hc
    ·cases hc;simp[pureOp] at hp
    ·cases hc;simp[pureOp] at hp
    ·simp at hc
   ·simp at hc
  ·split at hc
   ·cases hc;simp[pureOp] at hp
   ·cases hc;simp[pureOp] at hp
   ·rcases shOp_or .shl x y with hs | hs
    ·rw[hs] at hc;cases hc;exact bin rfl
    ·rw[hs] at hc;cases hc;simp[pureOp] at hp
   ·rcases shOp_or .shr x y with hs | hs
    ·rw[hs] at hc;cases hc;exact bin rfl
    ·rw[hs] at hc;cases hc;simp[pureOp] at hp
   ·cases hc;exact bin rfl
  ·split at hc
   ·cases hc;simp[pureOp] at hp
   ·cases hc;exact bin rfl
  ·rename_i te ht;obtain⟨rfl,⟨rfl,rfl⟩ | ⟨rfl,rfl⟩⟩:=pnOp_some hc
   ·obtain⟨⟨r,h1,h2⟩,h3⟩:=spnil_sound (P:=P) (w:=w) (n:=false) ⟨_,ht⟩ hx hp;refine⟨r,?_,h2⟩;show ((do eqGuard .eql t x (.const (.pointer none)) (a.eval x) (.pointer none);binOp .eql t (a.eval x) (.pointer none):Sem Value)).run P w=_;rw[qG,h3];exact h1
   ·obtain⟨⟨r,h1,h2⟩,h3⟩:=spnil_sound (P:=P) (w:=w) (n:=true) ⟨_,ht⟩ hx hp;refine⟨r,?_,h2⟩;show ((do eqGuard .neq t x (.const (.pointer none)) (a.eval x) (.pointer none);binOp .neq t (a.eval x) (.pointer none):Sem Value)).run P w=_;rw[qG,h3];exact h1
  ·unfold aggEq at hc;split at hc
   ·rename_i k ks hk;split at hc
    ·rename_i hu;split at hc
     ·cases hc;exact beq false _ (.inr ⟨hk,hu.1,by simp⟩) (fun _=>hu.2) rfl rfl
     ·cases hc;exact beq true _ (.inr ⟨hk,hu.1,by simp⟩) (fun _=>hu.2) rfl rfl
     ·cases hc
    ·cases hc
   ·cases hc
 | unOp op t x =>
  cases hc;exact fin _ (sun_sound (hE x) hp)
 | convert s t x =>
  simp only[compOp] at hc;split at hc
  ·rename_i ks k hs ht;cases hc;exact fin _ (scvi_sound hs ht (hE x) hp)
  ·split at hc
   ·cases hc;simp[pureOp] at hp
   ·cases hc
  ·simp at hc
 | fieldAddr t x f =>
  simp only[compOp] at hc;split at hc
  ·rename_i fs ht;simp only[Option.bind_eq_bind,qH] at hc;obtain⟨fd,hf,s,hs,hc⟩:=hc;split at hc
   ·simp at hc
   ·rename_i hs0;cases hc;obtain⟨b,k,h1,h2⟩:=sfadd_sound (hE x) hp;refine fin _ ⟨_,?_,h2⟩;simp only[Instr.fieldAt,qG,run_underlying ht,qF,hf,h1,Instr.sureAddr,Sem.run_pure,fieldPlace,run_sizeOf hs,hs0,if_false,add_none]
  ·simp at hc
 | field t x f =>
  simp only[compOp] at hc;split at hc
  ·rename_i fs ht;simp only[Option.bind_eq_bind,qH] at hc;obtain⟨fd,hf,s,hs,dd,hd,hc⟩:=hc;cases hc;obtain⟨us,v,h1,h2,h3⟩:=sfld_sound (P:=P) (w:=w) hs hd (hE x) hp;refine fin _ ⟨v,?_,h3⟩;simp only[Instr.field,qG,run_underlying ht,qF,hf,h1,asAgg,Sem.run_pure,h2]
  ·simp at hc
 | load t x =>
  simp only[compOp,Option.bind_eq_bind,qH] at hc;obtain⟨s,hs,dd,hd,hc⟩:=hc;cases hc;exact fin _ (sload_sound hS hs hd (hE x) hp)
 | build t ps =>
  simp only[compOp] at hc;have hvs:∀ (i:Nat)(p:Nat×Operand) v,ps.toList[i]?=some p→(ps.map fun x=>(x.1,a.eval x.2)).toList[i]?=some v→v=(p.1,a.eval p.2):=fun i p v h1 h2=>by
   simp at h1 h2;obtain⟨q,r,h2,rfl⟩:=h2;rw[h1] at h2;cases h2;rfl
  split at hc
  ·rename_i fs ht;simp only[Option.bind_eq_bind,qH] at hc;obtain⟨z,hz,l,hl,hc⟩:=hc;split at hc
   ·rename_i hall;cases hc;obtain⟨hlen,hsp⟩:=partsB_spec _ hl;obtain⟨places,hrun,hpl⟩:=mapM_places (P:=P) (w:=w) fs (fun i f hf=>by
     have:=qL.1 hall f (qU (by simpa using hf));exact Option.isSome_iff_exists.1 this)
    simp only[pureOp,sbuild] at hp;split at hp
    ·rename_i cs' hfill;cases hp;have hzr:RelL c (cval z).cells z.cells.toList:=cval_cells;obtain⟨us',h1,h2⟩:=fill_sound hS.one (places[·]?) (l.map fun p=>(p.1,e p.2)) (ps.map fun x=>(x.1,a.eval x.2)).toList _ cs' z.cells (by simp[hlen]) (fun i p v hp hv=>by
      simp only[qI,Option.map_eq_some_iff] at hp;obtain⟨q,hq,rfl⟩:=hp;have hi:i<ps.toList.length:=by rw[← hlen];exact(qC.1 hq).1
      have hpi:ps.toList[i]?=some ps.toList[i]:=by simp[]
      obtain⟨e1,f,hf,e2,e3⟩:=hsp i _ q hpi hq;rw[hvs i _ v hpi hv];refine⟨?_,by rw[e1];exact hE _⟩;rw[hpl _ f _ hf e3];simp only[← e2]) hzr hfill
     refine fin _ ⟨.agg us',?_,Rel.agg_iff.2 ⟨us'.toList,by simp,h2⟩⟩;simp only[Instr.build,qG,run_zeroB hz,qF,run_underlying ht,hrun,h1,Sem.run_pure]
    ·simp at hp
   ·simp at hc
  ·rename_i n e' ht;simp only[Option.bind_eq_bind,qH] at hc;obtain⟨z,hz,s,hs,hc⟩:=hc;cases hc;simp only[pureOp,sbuild] at hp;split at hp
   ·rename_i cs' hfill;cases hp;have hzr:RelL c (cval z).cells z.cells.toList:=cval_cells;obtain⟨us',h1,h2⟩:=fill_sound hS.one (fun i=>some (i * s,s)) ((ps.toList.map fun p=>((p.1 * s,s),p.2)).map fun p=>(p.1,e p.2)) (ps.map fun x=>(x.1,a.eval x.2)).toList _ cs' z.cells (by simp) (fun i p v hp hv=>by
     simp only[qI,Option.map_eq_some_iff] at hp;obtain⟨q,⟨q',hq,rfl⟩,rfl⟩:=hp;rw[hvs i _ v hq hv];exact⟨rfl,hE _⟩) hzr hfill
    refine fin _ ⟨.agg us',?_,Rel.agg_iff.2 ⟨us'.toList,by simp,h2⟩⟩;simp only[Instr.build,qG,run_zeroB hz,qF,run_underlying ht,run_sizeOf hs,h1,Sem.run_pure]
   ·simp at hp
  ·simp at hc
 | makeFunc fn fs cs =>
  cases hc;cases hp;refine fin _ ⟨_,rfl,Rel.clo_iff.2 ⟨_,_,?_,rels_map hE _,rels_map hE _⟩⟩;congr 1<;>(apply Array.toList_inj.1;simp)
 | extract x i =>
  cases hc;exact fin _ (sext_sound (hE x) hp)
 | nilCheck x =>
  cases hc;obtain⟨h1,h2⟩:=snil_sound (hE x) hp;refine⟨a.eval x,?_,h1⟩;rcases h2 with ⟨ad,h2⟩ | ⟨f,as,bs,h2⟩
  ·simp[h2]
  ·simp[h2]
 | call cl =>
  obtain⟨callee,args,argTypes⟩:=cl
  cases callee with
  | value f=>cases f<;>(simp only[compOp] at hc;cases hc;simp[pureOp] at hp)
  | invoke r m=>simp[compOp] at hc
  | builtin b =>
   have res:(do let d ← resolve a.eval { callee:=.builtin b,args:=args,argTypes:=argTypes } o.type;invoke d.target d.args:Sem Next).run P w =
     (builtin b argTypes o.type (args.map fun | .const _=>true | _=>false) (args.map a.eval)).run P w:=by
    simp[resolve,invoke];rfl
   suffices h:∃ u,(builtin b argTypes o.type (args.map fun | .const _=>true | _=>false) (args.map a.eval)).run P w=.ok (.value u) w∧Rel c sv u by
    obtain⟨u,h1,h2⟩:=h;exact⟨u,res.trans h1,h2⟩
   have args1:∀ l,args.toList=l→args=l.toArray:=fun l h=>by rw[← h]
   cases b<;>simp only[compOp] at hc<;>try (simp at hc;done)
   case append =>
    split at hc
    ·split at hc
     ·simp only[Option.bind_eq_bind,qH] at hc;obtain⟨i,hi,z,hz,hc⟩:=hc;split at hc
      ·cases hc;simp[pureOp] at hp
      ·unfold appzOp at hc;split at hc
       ·split at hc
        ·cases hc;simp[pureOp] at hp
        ·simp at hc
       ·simp at hc
     ·simp at hc
    ·simp at hc
   case clear =>
    split at hc
    ·split at hc
     ·simp only[Option.bind_eq_bind,qH] at hc;obtain⟨z,hz,hc⟩:=hc;cases hc;simp[pureOp] at hp
     ·simp at hc
    ·simp at hc
   case delete =>
    split at hc
    ·split at hc
     ·simp only[Option.bind_eq_bind,qH] at hc;obtain⟨z,hz,hc⟩:=hc;cases hc;simp[pureOp] at hp
     ·simp at hc
    ·simp at hc
   case len =>
    split at hc
    ·rename_i t x ht hx;have e1:=args1 _ hx;have e2:argTypes=#[t]:=by rw[← Array.toList_inj,ht]
     subst e1;subst e2;split at hc
     ·rename_i e' hu;cases hc;obtain⟨v,h1,h2⟩:=slen_sound (P:=P) (w:=w) (t:=t) (ty:=o.type) (str:=false) hS (by simpa using⟨e',hu⟩) (hE x) hp;exact⟨v,by simp only[builtin,List.map_toArray,qR,List.map_nil,qG,h1,qF,Sem.run_pure],h2⟩
     ·rename_i hu;cases hc;obtain⟨v,h1,h2⟩:=slen_sound (P:=P) (w:=w) (t:=t) (ty:=o.type) (str:=true) hS (by simpa using hu) (hE x) hp;exact⟨v,by simp only[builtin,List.map_toArray,qR,List.map_nil,qG,h1,qF,Sem.run_pure],h2⟩
     ·rename_i hu;cases hc;obtain⟨v,h1,h2⟩:=smlen_sound (P:=P) (w:=w) (t:=t) (ty:=o.type) hS hu (hE x) hp;exact⟨v,by simp only[builtin,List.map_toArray,qR,List.map_nil,qG,h1,qF,Sem.run_pure],h2⟩
     ·simp at hc
    ·simp at hc
   case cap =>
    split at hc
    ·rename_i t x ht hx;have e1:=args1 _ hx;have e2:argTypes=#[t]:=by rw[← Array.toList_inj,ht]
     subst e1;subst e2;split at hc
     ·rename_i e' hu;cases hc;obtain⟨v,h1,h2⟩:=scap_sound (P:=P) (w:=w) (t:=t) (ty:=o.type) ⟨e',hu⟩ (hE x) hp;exact⟨v,by simp only[builtin,List.map_toArray,qR,List.map_nil,qG,h1,qF,Sem.run_pure],h2⟩
     ·simp at hc
    ·simp at hc
   case max =>
    split at hc
    ·rename_i x xs hx;have e1:=args1 _ hx;subst e1;cases hc;obtain⟨v,h1,h2⟩:=smm_sound (P:=P) (w:=w) true _ (hE x) (rels_map hE xs) hp;exact⟨v,by simp only[builtin,Builtin.max_,List.map_toArray,qR,qG];simp only[if_true] at h1;rw[h1];rfl,h2⟩
    ·simp at hc
   case min =>
    split at hc
    ·rename_i x xs hx;have e1:=args1 _ hx;subst e1;cases hc;obtain⟨v,h1,h2⟩:=smm_sound (P:=P) (w:=w) false _ (hE x) (rels_map hE xs) hp;exact⟨v,by simp only[builtin,Builtin.min_,List.map_toArray,qR,qG];simp only[Bool.false_eq_true,if_false] at h1;rw[h1];rfl,h2⟩
    ·simp at hc
 | store t x v =>
  simp only[compOp,Option.bind_eq_bind,qH] at hc;obtain⟨s,hs,hc⟩:=hc;cases hc;simp[pureOp] at hp
 | alloc t =>
  simp only[compOp,Option.bind_eq_bind,qH] at hc;obtain⟨s,hs,hc⟩:=hc;cases hc;simp[pureOp] at hp
 | box t x=>cases hc;simp[pureOp] at hp
 | buildSlice t n ps =>
  simp only[compOp] at hc;split at hc
  ·simp only[Option.bind_eq_bind,qH] at hc;obtain⟨s,hs,z,hz,hc⟩:=hc;split at hc
   ·simp at hc
   ·cases hc;simp[pureOp] at hp
  ·simp at hc
 | indexAddr t x i =>
  simp only[compOp] at hc;split at hc
  ·simp only[Option.bind_eq_bind,qH] at hc;obtain⟨s,hs,hc⟩:=hc;cases hc;simp[pureOp] at hp
  ·simp only[Option.bind_eq_bind,qH] at hc;obtain⟨s,hs,hc⟩:=hc;cases hc;simp[pureOp] at hp
  ·simp at hc
 | index t x i =>
  simp only[compOp] at hc;split at hc
  ·simp only[Option.bind_eq_bind,qH] at hc;obtain⟨s,hs,dd,hd,hc⟩:=hc;cases hc;simp[pureOp] at hp
  ·cases hc;simp[pureOp] at hp
  ·simp at hc
 | slice t x lo hi mx =>
  cases mx with
  | some m=>simp[compOp] at hc
  | none =>
   simp only[compOp] at hc;split at hc
   ·simp only[Option.bind_eq_bind,qH] at hc;obtain⟨s,hs,hc⟩:=hc;cases hc;simp[pureOp] at hp
   ·cases hc;simp[pureOp] at hp
   ·simp at hc
 | makeSlice t l k =>
  simp only[compOp] at hc;split at hc
  ·simp only[Option.bind_eq_bind,qH] at hc;obtain⟨s,hs,z,hz,hc⟩:=hc;cases hc;simp[pureOp] at hp
  ·simp at hc
 | makeMap t r =>
  cases r with
  | some r=>simp[compOp] at hc
  | none =>
   simp only[compOp] at hc;split at hc
   ·simp only[Option.bind_eq_bind,qH] at hc;obtain⟨mk,hm,d',hd,hc⟩:=hc;split at hc<;>(cases hc;simp[pureOp] at hp)
   ·simp at hc
 | mapUpdate t m k v =>
  simp only[compOp] at hc;split at hc
  ·simp only[Option.bind_eq_bind,qH] at hc;obtain⟨mk,hm,d',hd,hc⟩:=hc;cases hc;simp[pureOp] at hp
  ·simp at hc
 | insert t m k v =>
  simp only[compOp] at hc;split at hc
  ·simp only[Option.bind_eq_bind,qH] at hc;obtain⟨mk,hm,d',hd,hc⟩:=hc;cases hc;simp[pureOp] at hp
  ·simp at hc
 | lookup t m k ok =>
  simp only[compOp] at hc;split at hc
  ·simp only[Option.bind_eq_bind,qH] at hc;obtain⟨mk,hm,d',hd,z,hz,hc⟩:=hc;cases hc;simp[pureOp] at hp
  ·simp at hc
 | makeInterface t x=>simp only[compOp] at hc;cases hc;simp[pureOp] at hp
 | panic x=>simp only[compOp] at hc;cases hc;simp[pureOp] at hp
 | _=>simp[compOp] at hc
end
end Go.SX
namespace Go.SX
open Go
variable [Tabs]
section
variable {P:Program}{c:Cx}{own:List Res}{env:List SV}{a:Act}{w w':World}
def Cx.push (c:Cx)(v:Value):Cx:={ θ:=fun r=>if r=c.N then v else c.θ r,F:=c.F,N:=c.N+1 }
theorem Cx.push_le (c:Cx)(v:Value):c.le (c.push v) :=
 ⟨Nat.le_succ _,fun r hr=>by simp[Cx.push,Nat.ne_of_lt hr],fun _ _ h=>h⟩
theorem Sat.push (h:Sat c own w)(row:Option Nat)(own0:List Res)(hl:own0.length=own.length)
  (h00:∀ (s:Nat) y,own0[s]?=some y→y=.gone∨(own[s]?=some y∧(y.live=true→∀ b,row=some b→blkOf (c.θ s)≠some b)))
  (hrow:∀ b,row=some b→Own c own b) (hos:w'.os=w.os) (htape:w'.tape=w.tape) (hout:w'.output=w.output) (hsize:w.heap.size≤w'.heap.size)
  (hkeep:∀ b,b<w.heap.size→some b≠row→w'.heap[b]?=w.heap[b]?)
  (v:Value) (x:Res) (hv:v.oneCell'=true) (hfresh:∀ b,blkOf v=some b→w.heap.size≤b∨row=some b) (hres:ResOk (c.push v) w' v x) :
  Sat (c.push v) (own0++[x]) w'∧c.le (c.push v)∧Goes c own w (c.push v) (own0++[x]) w':=by
 have h0:∀ (s:Nat) y,own0[s]?=some y→y.live=true→own[s]?=some y∧∀ b,row=some b→blkOf (c.θ s)≠some b:=fun s y hy hl=>by
  rcases h00 s y hy with rfl | ⟨h1,h2⟩
  ·simp[Res.live] at hl
  ·exact⟨h1,h2 hl⟩
 have hle:=c.push_le v;have hN:own0.length=c.N:=hl.trans h.n;have hθ:∀ s,s<c.N→(c.push v).θ s=c.θ s:=hle.t;have hθN:(c.push v).θ c.N=v:=by simp[Cx.push]
 have hrF:∀ b,row=some b→c.F b=none:=fun b hb=>by
  obtain⟨r,y,hy,hly,hby⟩:=hrow b hb;exact h.notF r y b hy hly hby
 have hget:∀ (s:Nat) y,(own0++[x])[s]?=some y→(s<c.N∧own0[s]?=some y)∨(s=c.N∧y=x):=fun s y hy=>by
  rw[List.getElem?_append] at hy;split at hy
  ·exact .inl ⟨by omega,hy⟩
  ·rename_i hge;have:s=c.N:=by
    have:=(qC.1 hy).1;simp at this;omega
   subst this;simp[hN] at hy;exact .inr ⟨rfl,hy.symm⟩
 have hF:∀ b o,c.F b=some o→w'.heap[b]?=some o:=fun b o hb=>by
  rw[hkeep b (h.F_lt hb) (fun e=>by rw[hrF b e.symm] at hb;cases hb)];exact h.le b o hb
 refine⟨⟨by simp[Cx.push,hN],?_,?_,?_,hF,?_,h.tab⟩,hle,⟨hos,htape,hout,hsize,?_,fun b hb=>.inl hb,?_,fun _ _ hb=>hb⟩⟩
 ·intro r y hy;rcases hget r y hy with ⟨hr,hy⟩ | ⟨rfl,rfl⟩
  ·rw[hθ r hr];rcases h00 r y hy with rfl | ⟨hy',hb⟩
   ·trivial
   ·exact(h.res r y hy').keep hle fun hly b hbk=>hkeep b (h.blk_lt ⟨r,y,hy',hly,hbk⟩) (fun e=>hb hly b e.symm hbk)
  ·rw[hθN];exact hres
 ·intro r s y z b hy hz hly hlz hb hb';rcases hget r y hy with ⟨hr,hy⟩ | ⟨rfl,rfl⟩
  ·obtain⟨hy',hbr⟩:=h0 r y hy hly;rw[hθ r hr] at hb;rcases hget s z hz with ⟨hs,hz⟩ | ⟨rfl,rfl⟩
   ·obtain⟨hz',_⟩:=h0 s z hz hlz;rw[hθ s hs] at hb';exact h.apart r s y z b hy' hz' hly hlz hb hb'
   ·rw[hθN] at hb';have hlt:=h.blk_lt ⟨r,y,hy',hly,hb⟩;rcases hfresh b hb' with h1 | h1
    ·omega
    ·exact absurd hb (hbr b h1)
  ·rw[hθN] at hb;rcases hget s z hz with ⟨hs,hz⟩ | ⟨rfl,rfl⟩
   ·obtain⟨hz',hbs⟩:=h0 s z hz hlz;rw[hθ s hs] at hb';have hlt:=h.blk_lt ⟨s,z,hz',hlz,hb'⟩;rcases hfresh b hb with h1 | h1
    ·omega
    ·exact absurd hb' (hbs b h1)
   ·rfl
 ·intro r y b hy hly hb;rcases hget r y hy with ⟨hr,hy⟩ | ⟨rfl,rfl⟩
  ·obtain⟨hy',_⟩:=h0 r y hy hly;rw[hθ r hr] at hb;exact h.notF r y b hy' hly hb
  ·rw[hθN] at hb;rcases hfresh b hb with h1 | h1
   ·cases hcF:c.F b with
    | none=>exact hcF
    | some o=>have:=h.F_lt hcF;omega
   ·exact hrF b h1
 ·intro r;simp only[Cx.push];split
  ·exact hv
  ·exact h.one r
 ·intro b hb hn;exact hkeep b hb (fun e=>hn (hrow b e.symm))
 ·rintro b ⟨r,y,hy,hly,hb⟩;rcases hget r y hy with ⟨hr,hy⟩ | ⟨rfl,rfl⟩
  ·obtain⟨hy',_⟩:=h0 r y hy hly;rw[hθ r hr] at hb;exact .inl ⟨r,y,hy',hly,hb⟩
  ·rw[hθN] at hb;rcases hfresh b hb with h1 | h1
   ·exact .inr h1
   ·exact .inl (hrow b h1)
theorem Sat.alloc (h:Sat c own w)(o:Obj)(v:Value)(x:Res)(hv:v.oneCell'=true)(hb:blkOf v=some w.heap.size)(hres:ResOk (c.push v) (w.alloc o) v x) :
  Sat (c.push v) (own++[x]) (w.alloc o)∧c.le (c.push v)∧Goes c own w (c.push v) (own++[x]) (w.alloc o) :=
 h.push (w':=w.alloc o) none own rfl (fun s y hy=>.inr ⟨hy,fun _ b hb=>by cases hb⟩) (fun b hb=>by cases hb) rfl rfl rfl (by simp) (fun b hb _=>RowKit.Below.heap_alloc w o b hb) v x hv
  (fun b hb'=>.inl (by rw[hb] at hb';cases hb';exact qQ _)) hres
theorem Sat.update (h:Sat c own w){r b:Nat}{x x':Res}(hx:own[r]?=some x)(hl:x.live=true)(hl':x'.live=true)(hb:blkOf (c.θ r)=some b)(hos:w'.os=w.os)(htape:w'.tape=w.tape)(hout:w'.output=w.output)
  (hsize:w'.heap.size=w.heap.size) (hkeep:∀ k,k≠b→w'.heap[k]?=w.heap[k]?) (hres:ResOk c w' (c.θ r) x') :
  Sat c (own.set r x') w'∧Goes c own w c (own.set r x') w':=by
 have hrlt:r<own.length:=(qC.1 hx).1;have hget:∀ (s:Nat) y,(own.set r x')[s]?=some y→(s=r∧y=x')∨(s≠r∧own[s]?=some y):=fun s y hy=>by
  rw[List.getElem?_set] at hy;split at hy
  ·rename_i e;subst e;simp[] at hy;exact .inl ⟨rfl,hy.symm⟩
  ·rename_i e;exact .inr ⟨fun e'=>e e'.symm,hy⟩
 have hnF:c.F b=none:=h.notF r x b hx hl hb;refine⟨⟨by simp[h.n],?_,?_,?_,?_,h.one,h.tab⟩,⟨hos,htape,hout,by omega,?_,fun _ hh=>.inl hh,?_,fun _ _ hh=>hh⟩⟩
 ·intro s y hy;rcases hget s y hy with ⟨rfl,rfl⟩ | ⟨hne,hy⟩
  ·exact hres
  ·exact(h.res s y hy).keep (Cx.le.refl c) fun hly k hk=>hkeep k fun e=>by
    subst e;exact hne (h.apart s r y x k hy hx hly hl hk hb)
 ·intro s t y z k hy hz hly hlz hk hk';rcases hget s y hy with ⟨rfl,rfl⟩ | ⟨hne,hy1⟩
  ·rcases hget t z hz with ⟨rfl,rfl⟩ | ⟨hne,hz1⟩
   ·rfl
   ·exact h.apart s t x z k hx hz1 hl hlz hk hk'
  ·rcases hget t z hz with ⟨rfl,rfl⟩ | ⟨hne,hz1⟩
   ·exact h.apart s t y x k hy1 hx hly hl hk hk'
   ·exact h.apart s t y z k hy1 hz1 hly hlz hk hk'
 ·intro s y k hy hly hk;rcases hget s y hy with ⟨rfl,rfl⟩ | ⟨hne,hy⟩
  ·exact h.notF s x k hx hl hk
  ·exact h.notF s y k hy hly hk
 ·intro k o hk;rw[hkeep k (fun e=>by subst e;rw[hnF] at hk;cases hk)];exact h.le k o hk
 ·intro k hk hn;exact hkeep k fun e=>hn ⟨r,x,hx,hl,e▸hb⟩
 ·rintro k ⟨s,y,hy,hly,hk⟩;rcases hget s y hy with ⟨rfl,rfl⟩ | ⟨hne,hy⟩
  ·exact .inl ⟨s,x,hx,hl,hk⟩
  ·exact .inl ⟨s,y,hy,hly,hk⟩
theorem Sat.drew (h:Sat c own w)(hw:w'.heap=w.heap):Sat c own w' :=
 h.on (Cx.le.refl c) rfl h.one (fun b _=>by rw[hw]) (fun b o hb=>by rw[hw];exact h.le b o hb) (fun _ hh=>.inl hh)
theorem Goes.drew (hw:w'.heap=w.heap)(hos:w'.os=w.os)(ht:w'.tape=w.tape)(ho:w'.output=w.output):Goes c own w c own w' :=
 ⟨hos,ht,ho,by rw[hw];exact qQ _,fun _ _ _=>by rw[hw],fun _ h=>.inl h,fun _ h=>.inl h,fun _ _ h=>h⟩
theorem flatten_get {es:List (List D)}{sz:Nat}(h:∀ ds∈es,ds.length=sz):∀ (i j:Nat)(ds:List D),es[i]?=some ds→j<sz→es.flatten[i * sz+j]?=ds[j]?:=by
 induction es with
 | nil=>intro i j ds hi;simp at hi
 | cons e es ih =>
  intro i j ds hi hj;have he:e.length=sz:=h e (by simp)
  cases i with
  | zero =>
   simp at hi;subst hi;rw[List.flatten_cons,qM (by omega)];simp
  | succ i =>
   simp at hi;rw[List.flatten_cons,qN (by rw[he,Nat.add_mul];omega)];have:(i+1) * sz+j - e.length=i * sz+j:=by rw[he,Nat.add_mul];omega
   rw[this];exact ih (fun ds hd=>h ds (by simp[hd])) i j ds hi hj
theorem flatten_len {es:List (List D)}{sz:Nat}(h:∀ ds∈es,ds.length=sz):es.flatten.length=es.length * sz:=by
 induction es with
 | nil=>simp
 | cons e es ih=>rw[List.flatten_cons,qP,ih (fun d hd=>h d (by simp[hd])),h e (by simp),qV,Nat.add_mul];omega
def Cx.frz (c:Cx)(b:Nat)(o:Obj):Cx:={ c with F:=fun k=>if k=b then some o else c.F k }
theorem Cx.frz_le {b:Nat}{o:Obj}(h:c.F b=none):c.le (c.frz b o) :=
 ⟨qQ _,fun _ _=>rfl,fun k x hk=>by
  simp only[Cx.frz];split
  ·rename_i e;subst e;rw[h] at hk;cases hk
  ·exact hk⟩
theorem row_rep {ty sz b cap:Nat}{es:List (List D)}{cur:Array Value}{us:List Value}(hd:∀ ds∈es,ds.length=sz)(hF:c.F b=some (.cells cur ty (0,0)))
  (hcap:es.length≤cap) (htake:cur.toList.take (es.length * sz)=us) (hus:∀ (j:Nat) d,es.flatten[j]?=some d→∃ u,us[j]?=some u∧Rep c.F u d) :
  Rep c.F (.slice (some ⟨b,0,none⟩) es.length cap) (.sl es):=by
 have hlt:∀ (i j:Nat)(ds:List D) d,es[i]?=some ds→ds[j]?=some d→j<sz∧∃ u,us[i * sz+j]?=some u∧Rep c.F u d∧cur[0+i * sz+j]?=some u:=fun i j ds d hi hj=>by
  have hl:ds.length=sz:=hd ds (qU hi);have hjl:j<sz:=by rw[← hl];exact(qC.1 hj).1
  obtain⟨u,h1,h2⟩:=hus (i * sz+j) d (by rw[flatten_get hd i j ds hi hjl];exact hj);refine⟨hjl,u,h1,h2,?_⟩;rw[← htake,List.getElem?_take] at h1;split at h1
  ·rw[Nat.zero_add];simpa using h1
  ·cases h1
 refine .sl b 0 cap cur ty (0,0) es sz (fun i j=>(us[i * sz+j]?).getD undef) hF hcap (fun i ds hi=>hd ds (qU hi)) ?_ ?_
 ·intro i ds j d hi hj;obtain⟨_,u,h1,_,h3⟩:=hlt i j ds d hi hj;rw[h3];simp[h1]
 ·intro i ds j d hi hj;obtain⟨_,u,h1,h2,_⟩:=hlt i j ds d hi hj
  simpa [h1] using h2
theorem Sat.freeze (h:Sat c own w){r ty sz:Nat}{es:List (List D)}(hx:own[r]?=some (.row ty sz es)) :
  ∃ c',Sat c' (own.set r (.fz es)) w∧c.le c'∧Goes c own w c' (own.set r (.fz es)) w∧Rep c'.F (c.θ r) (.sl es):=by
 have hrlt:r<own.length:=(qC.1 hx).1;have hget:∀ (s:Nat) y,(own.set r (.fz es))[s]?=some y→y.live=true→s≠r∧own[s]?=some y:=fun s y hy hl=>by
  rw[List.getElem?_set] at hy;split at hy
  ·rename_i e;subst e;simp[] at hy;subst hy;simp[Res.live] at hl
  ·rename_i e;exact⟨fun e'=>e e'.symm,hy⟩
 have hget2:∀ (s:Nat) y,(own.set r (.fz es))[s]?=some y→(s=r∧y=.fz es)∨own[s]?=some y:=fun s y hy=>by
  rw[List.getElem?_set] at hy;split at hy
  ·rename_i e;subst e;simp[] at hy;exact .inl ⟨rfl,hy.symm⟩
  ·exact .inr hy
 obtain⟨hd,us,⟨hn,hv⟩,hc⟩:=h.res r _ hx;rcases hv with ⟨hv,h0⟩ | ⟨b,cap,cur,hv,_,hb,hle,_,hcs,htake⟩
 ·have hes:es=[]:=List.eq_nil_of_length_eq_zero h0;subst hes;refine⟨c,⟨by simp[h.n],fun s y hy=>?_,fun s t y z k hy hz hly hlz hk hk'=>?_,fun s y k hy hly hk=>?_,h.le,h.one,h.tab⟩,Cx.le.refl c,⟨rfl,rfl,rfl,qQ _,fun _ _ _=>rfl,fun _ hh=>.inl hh,?_,fun _ _ hh=>hh⟩,by rw[hv];exact .nil _ _ (fun _=>rfl)⟩
  ·rcases hget2 s y hy with ⟨rfl,rfl⟩ | hy
   ·rw[hv];exact .nil _ _ (fun _=>rfl)
   ·exact h.res s y hy
  ·exact h.apart s t y z k (hget s y hy hly).2 (hget t z hz hlz).2 hly hlz hk hk'
  ·exact h.notF s y k (hget s y hy hly).2 hly hk
  ·rintro k ⟨s,y,hy,hly,hk⟩;exact .inl ⟨s,y,(hget s y hy hly).2,hly,hk⟩
 ·have hblk:blkOf (c.θ r)=some b:=by rw[hv];rfl
  have hnF:c.F b=none:=h.notF r _ b hx rfl hblk;have hcle:c.le (c.frz b (.cells cur ty (0,0))):=Cx.frz_le hnF;have hown:Own c own b:=⟨r,_,hx,rfl,hblk⟩;have hrep:Rep (c.frz b (.cells cur ty (0,0))).F (c.θ r) (.sl es):=by
   rw[hv];exact row_rep (c:=c.frz b (.cells cur ty (0,0))) (ty:=ty) (cur:=cur) hd (by simp[Cx.frz]) hle htake (fun j d hj=>let ⟨u,h1,h2⟩:=hc j d hj;⟨u,h1,h2.mono hcle.f⟩)
  refine⟨c.frz b (.cells cur ty (0,0)),⟨by simp[h.n,Cx.frz],fun s y hy=>?_,fun s t y z k hy hz hly hlz hk hk'=>?_,fun s y k hy hly hk=>?_,?_,h.one,Tabs.mono hcle.f h.tab⟩,hcle,
   ⟨rfl,rfl,rfl,qQ _,fun _ _ _=>rfl,?_,?_,hcle.f⟩,?_⟩
  ·rcases hget2 s y hy with ⟨rfl,rfl⟩ | hy
   ·exact hrep
   ·exact(h.res s y hy).keep hcle (fun _ _ _=>rfl)
  ·exact h.apart s t y z k (hget s y hy hly).2 (hget t z hz hlz).2 hly hlz hk hk'
  ·obtain⟨hne,hy'⟩:=hget s y hy hly;simp only[Cx.frz];split
   ·rename_i e;subst e;exact absurd (h.apart s r y _ k hy' hx hly rfl hk hblk) hne
   ·exact h.notF s y k hy' hly hk
  ·intro k o hk;simp only[Cx.frz] at hk;split at hk
   ·rename_i e;subst e;cases hk;exact hb
   ·exact h.le k o hk
  ·intro k hk;simp only[Cx.frz] at hk;split at hk
   ·rename_i e;subst e;exact .inr (.inr hown)
   ·exact .inl hk
  ·rintro k ⟨s,y,hy,hly,hk⟩;exact .inl ⟨s,y,(hget s y hy hly).2,hly,hk⟩
  ·exact hrep
end
end Go.SX
