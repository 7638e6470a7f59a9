/- Parts of the proof. -/
import Derived.Test.YtlpempbeenpilaaGreatDoorZSxI
import Derived.Orders
set_option linter.unusedSimpArgs false
set_option linter.unusedVariables false
set_option linter.unusedSectionVars false
namespace Go.SX
open Go
variable [Tabs]
def fnN (P:Program)(d:DOp)(env:List SV)(own:List Res)(R:SV→Prop):Prop :=
 match d with
 | .mv x=>R (evn own env x)
 | .pick c a b=>PureN (spick (evn own env c) (evn own env a) (evn own env b)) R
 | .bin op x y=>PureN (sbin op (evn own env x) (evn own env y)) R
 | .beq n ks x y=>PureN (sbeq n ks (evn own env x) (evn own env y)) R
 | .fnil n x y=>PureN (sfnil n (evn own env x) (evn own env y)) R
 | .un op x=>PureN (sun op (evn own env x)) R
 | .cvi k x=>PureN (scvi k (evn own env x)) R
 | .fadd off x=>PureN (sfadd off (evn own env x)) R
 | .fld off sz agg x=>PureN (sfld off sz agg (evn own env x)) R
 | .len s x=>PureN (slen own s (evn own env x)) R
 | .ext x i=>PureN (sext i (evn own env x)) R
 | .capn x=>PureN (scap (evn own env x)) R
 | .mlen x=>PureN (smlen own (evn own env x)) R
 | .pnil n x=>PureN (spnil n (evn own env x)) R
 | .mkfn fn fs cs=>R (.clo fn (fs.map (evn own env)) (cs.map (evn own env)))
 | .mm mx x xs=>PureN (smm mx (evn own env x) (xs.map (evn own env))) R
 | .nilck x=>PureN (snil (evn own env x)) R
 | .build z ps=>PureN (sbuild (cval z) (ps.map fun p=>(p.1,evn own env p.2))) R
 | .load sz agg x=>LoadN own sz agg (evn own env x) R
 | .div op x y=>DivN op (evn own env x) (evn own env y) R
 | .idxA sz x i=>IdxN own sz (evn own env x) (evn own env i) R
 | .idxP n sz x i=>IdxPN n sz (evn own env x) (evn own env i) R
 | .idxV n sz agg x i=>IdxVN n sz agg (evn own env x) (evn own env i) R
 | .idxS x i=>IdxStN (evn own env x) (evn own env i) R
 | .b2s x=>B2sN (src own (evn own env x)) R
 | .slc sz x lo hi=>SlcN sz (evn own env x) (lo.map (evn own env)) (hi.map (evn own env)) R
 | .slcS x lo hi=>SlcSN (evn own env x) (lo.map (evn own env)) (hi.map (evn own env)) R
 | .call f args=>∃ sv,SCall P f own (args.map (evn own env)) (fun sv' own'=>sv'=sv∧own'=own)∧R sv
 | .callv x args=>(match evn own env x with
  | .clo (.func f) first cap=>∃ sv,SCall P f own (first++args.map (evn own env)++cap) (fun sv' own'=>sv'=sv∧own'=own)∧R sv
  | _=>False)
 | .bslice _ sz n _ ps=>(match bsl own sz 0 (ps.map fun p=>(p.1,evn own env p.2)) with
  | some es=>es.length=n∧n * sz≤16777216∧R (.d (.sl es))
  | none=>False)
 | .mget mk agg ok z x k=>MgetN own mk agg ok (cval z) (evn own env x) (kvS (evn own env k)) R
 | _=>False
def runF (P:Program):List GOp→List SV→List Res→(List SV→Prop)→Prop
 | [],env,_,K=>K env
 | g::l,env,own,K =>
  GuardN g.guard env (fun env=>fnN P g.op env own (fun sv=>runF P l (putE env g.dst sv) own K)) (fun env=>runF P l (putE env g.dst (.tup [])) own K)
def DOp.ops : DOp→List Operand
 | .clr _ _ x | .snl _ x | .capn x | .mlen x | .pnil _ x | .mv x | .un _ x | .cvi _ x | .fadd _ x | .fld _ _ _ x | .load _ _ x | .box _ x | .b2s x | .len _ x | .ext x _ | .nilck x=>[x]
 | .pick c a b=>[c,a,b]
 | .bin _ x y | .div _ x y | .beq _ _ x y | .fnil _ x y | .store _ x y | .idxA _ x y | .idxP _ _ x y | .idxV _ _ _ x y | .idxS x y | .app _ _ _ _ x y | .appz _ _ _ _ x y | .mks _ _ _ _ x y=>[x,y]
 | .alloc .. | .mkm .. | .mkf .. | .nope=>[]
 | .mset _ _ x k v=>[x,k,v]
 | .mget _ _ _ _ x k=>[x,k]
 | .mdel _ x k=>[x,k]
 | .build _ ps=>ps.map (·.2)
 | .bslice _ _ _ _ ps=>ps.map (·.2)
 | .slc _ x lo hi | .slcS x lo hi=>x::(lo.toList++hi.toList)
 | .call _ args=>args
 | .callv x args=>x::args
 | .mkfn _ fs cs=>fs++cs
 | .mm _ x xs=>x::xs
def tmpsOf (l:List Operand):List Nat:=l.filterMap fun | .tmp t=>some t | _=>none
def GOp.looks (g:GOp):List Nat:=tmpsOf g.op.ops++(match g.guard with | some (s,_)=>[s] | none=>[])
section
variable {P:Program}{own:List Res}
theorem map_agree {env env':List SV}{l:List Operand}(h:∀ x∈l,evn own env x=evn own env' x):l.map (evn own env)=l.map (evn own env'):=List.map_congr_left h
theorem fnN_agree {d:DOp}{env env':List SV}{R:SV→Prop}(h:∀ x∈d.ops,evn own env x=evn own env' x):fnN P d env own R↔fnN P d env' own R:=by
 have ho:∀ (x:Option Operand),(∀ y∈x.toList,evn own env y=evn own env' y)→x.map (evn own env)=x.map (evn own env'):=fun x hx=>by
  cases x with
  | none=>rfl
  | some y=>simp[hx y (by simp)]
 cases d<;>simp only[DOp.ops,List.mem_cons,qT,List.not_mem_nil,or_false,List.mem_map,Prod.exists] at h<;>simp only[fnN]
 case mv x=>rw[h x rfl]
 case un op x=>rw[h x rfl]
 case cvi op x=>rw[h x rfl]
 case fadd op x=>rw[h x rfl]
 case fld a b c x=>rw[h x rfl]
 case load a b x=>rw[h x rfl]
 case len a x=>rw[h x rfl]
 case b2s x=>rw[h x rfl]
 case ext x i=>rw[h x rfl]
 case capn x=>rw[h x rfl]
 case mlen x=>rw[h x rfl]
 case pnil n x=>rw[h x rfl]
 case nilck x=>rw[h x rfl]
 case pick a b c=>rw[h a (.inl rfl),h b (.inr (.inl rfl)),h c (.inr (.inr rfl))]
 case bin a b c=>rw[h b (.inl rfl),h c (.inr rfl)]
 case div a b c=>rw[h b (.inl rfl),h c (.inr rfl)]
 case beq a b c=>rw[h b (.inl rfl),h c (.inr rfl)]
 case fnil a b c=>rw[h b (.inl rfl),h c (.inr rfl)]
 case idxA a b c=>rw[h b (.inl rfl),h c (.inr rfl)]
 case idxP a b c d=>rw[h c (.inl rfl),h d (.inr rfl)]
 case idxV a b q c d=>rw[h c (.inl rfl),h d (.inr rfl)]
 case idxS c d=>rw[h c (.inl rfl),h d (.inr rfl)]
 case build z ps=>rw[List.map_congr_left (l:=ps) (f:=fun p:(Nat×Nat)×Operand=>(p.1,evn own env p.2)) (g:=fun p=>(p.1,evn own env' p.2)) fun p hp=>by rw[h p.2 ⟨p.1.1,p.1.2,p.2,hp,rfl⟩]]
 case bslice a b c z ps=>rw[List.map_congr_left (l:=ps) (f:=fun p:Nat×Operand=>(p.1,evn own env p.2)) (g:=fun p=>(p.1,evn own env' p.2)) fun p hp=>by rw[h p.2 ⟨p.1,p.2,hp,rfl⟩]]
 case slc a x lo hi=>rw[h x (.inl rfl),ho lo fun y hy=>h y (.inr (.inl hy)),ho hi fun y hy=>h y (.inr (.inr hy))]
 case slcS x lo hi=>rw[h x (.inl rfl),ho lo fun y hy=>h y (.inr (.inl hy)),ho hi fun y hy=>h y (.inr (.inr hy))]
 case call f args=>rw[map_agree h]
 case callv x args=>rw[h x (.inl rfl),map_agree fun y hy=>h y (.inr hy)]
 case mkfn fn fs cs=>rw[map_agree fun y hy=>h y (.inl hy),map_agree fun y hy=>h y (.inr hy)]
 case mm m x xs=>rw[h x (.inl rfl),map_agree fun y hy=>h y (.inr hy)]
 case mget mk agg ok z x k=>rw[h x (.inl rfl),h k (.inr rfl)]
theorem pureN_one {x:Option SV}{R:SV→Prop}(h:PureN x R):∃ sv,PureN x (·=sv)∧R sv:=by
 obtain⟨sv,rfl,h2⟩:=pureN_iff.1 h;exact⟨sv,rfl,h2⟩
theorem fnN_one {d:DOp}{env:List SV}{R:SV→Prop}(h:fnN P d env own R):∃ sv,fnN P d env own (·=sv)∧R sv:=by
 cases d<;>simp only[fnN] at h ⊢
 case mv x=>exact⟨_,rfl,h⟩
 case mkfn fn fs cs=>exact⟨_,rfl,h⟩
 case mget mk agg ok z x k =>
  unfold MgetN at h ⊢;split at h
  ·split at h
   ·split at h
    ·rename_i mk' agg' es _;obtain⟨h1,h2,h3,h4,h5⟩:=h
     cases hm:mget es _ with
     | none=>exact⟨mres ok (cval z) false,⟨h1,h2,h3,(fun ds hds=>by cases hds),fun _=>rfl⟩,h5 hm⟩
     | some ds=>exact⟨mres ok (dsv agg ds) true,⟨h1,h2,h3,(fun ds' hds=>by cases hds;rfl),fun hno=>by cases hno⟩,h4 ds hm⟩
    ·rename_i mk' es _;obtain⟨h1,h2,h3,h4,h5⟩:=h
     cases hm:mget es _ with
     | none=>exact⟨mres ok (cval z) false,⟨h1,h2,h3,(fun ds hds=>by cases hds),fun _=>rfl⟩,h5 hm⟩
     | some s=>exact⟨mres ok s true,⟨h1,h2,h3,(fun ds' hds=>by cases hds;rfl),fun hno=>by cases hno⟩,h4 s hm⟩
    ·exact h.elim
   ·exact⟨_,⟨h.1,rfl⟩,h.2⟩
   ·exact h.elim
  ·exact h.elim
 case call f args=>obtain⟨sv,h1,h2⟩:=h;exact⟨sv,⟨sv,h1,rfl⟩,h2⟩
 case callv x args =>
  split at h
  ·obtain⟨sv,h1,h2⟩:=h;exact⟨sv,⟨sv,h1,rfl⟩,h2⟩
  ·exact h.elim
 case bslice a sz n z ps =>
  split at h
  ·obtain⟨h1,h2,h3⟩:=h;exact⟨_,⟨h1,h2,rfl⟩,h3⟩
  ·exact h.elim
 case load a b x =>
  unfold LoadN at h ⊢;split at h
  ·split at h
   ·rename_i es _;obtain⟨h1,h2,h3⟩:=h;obtain⟨sv,k1,k2⟩:=pureN_one (h3 _ (qK h2));refine⟨sv,⟨h1,h2,fun ds hds=>?_⟩,k2⟩;rw[qK h2] at hds;cases hds;exact k1
   ·exact h.elim
  ·exact pureN_one h
 case div op x y =>
  unfold DivN at h ⊢;split at h
  ·exact⟨_,⟨h.1,rfl⟩,h.2⟩
  ·exact⟨_,⟨h.1,rfl⟩,h.2⟩
  ·exact h.elim
 case idxA a x i =>
  unfold IdxN at h ⊢;split at h
  ·rename_i es _ n _ _;obtain⟨h1,h2,h3⟩:=h;have hlt:n.toNat<es.length:=by omega
   obtain⟨k1,k2⟩:=h3 _ (qK hlt);exact⟨_,⟨h1,h2,fun ds hds=>by rw[qK hlt] at hds;cases hds;exact⟨k1,rfl⟩⟩,k2⟩
  ·split at h
   ·exact⟨_,⟨h.1,h.2.1,h.2.2.1,rfl⟩,h.2.2.2⟩
   ·exact h.elim
  ·split at h
   ·exact⟨_,⟨h.1,h.2.1,h.2.2.1,h.2.2.2.1,rfl⟩,h.2.2.2.2⟩
   ·exact h.elim
  ·exact h.elim
 case idxP a b x i =>
  unfold IdxPN at h ⊢;split at h
  ·exact⟨_,⟨h.1,h.2.1,rfl⟩,h.2.2⟩
  ·exact⟨_,⟨h.1,h.2.1,rfl⟩,h.2.2⟩
  ·exact h.elim
 case idxV a b q x i =>
  unfold IdxVN at h ⊢;split at h
  ·obtain⟨sv,h1,h2⟩:=pureN_one h.2.2;exact⟨sv,⟨h.1,h.2.1,h1⟩,h2⟩
  ·exact h.elim
 case idxS x i =>
  unfold IdxStN at h ⊢;split at h
  ·rename_i s k n _ _;have hlt:n.toNat<s.size:=by have:=h.1;have:=h.2.1;omega
   have hb:s[n.toNat]?=some s[n.toNat]:=by simp[hlt]
   exact⟨_,⟨h.1,h.2.1,fun b hb'=>by rw[hb] at hb';cases hb';rfl⟩,h.2.2 _ hb⟩
  ·exact h.elim
 case b2s x =>
  unfold B2sN at h ⊢;split at h
  ·obtain⟨ns,hn,hR⟩:=h;exact⟨_,⟨ns,hn,rfl⟩,hR⟩
  ·exact h.elim
 case slc a x lo hi =>
  unfold SlcN at h ⊢;split at h
  ·split at h
   ·exact⟨_,⟨h.1,h.2.1,h.2.2.1,h.2.2.2.1,rfl⟩,h.2.2.2.2⟩
   ·exact h.elim
  ·exact h.elim
 case slcS x lo hi =>
  unfold SlcSN at h ⊢;split at h
  ·split at h
   ·exact⟨_,⟨h.1,h.2.1,h.2.2.1,rfl⟩,h.2.2.2⟩
   ·exact h.elim
  ·exact h.elim
 all_goals first
  | exact pureN_one h
  | exact h.elim
theorem bslice_fz {c:Cx}{w:World}{a:Act}{o:Oper}(hS:Sat c own w){t e sz n:Nat}{ps:List (Nat×Operand)}{f:Operand→SV}(ht:P.underlying t=some (.slice e))(hs:sizeB P e=some sz){z:Value}(hz:zeroB P e=some z)(h0:sz≠0)
  (hf:∀ x,Rel c (f x) (a.eval x)) {es:List (List D)} (hb:bsl own sz 0 (ps.map fun p=>(p.1,f p.2))=some es) (hlen:es.length=n) (hle:n * sz≤16777216) :
  ∃ u w',(Instr.buildSlice t n (ps.map fun p=>(p.1,a.eval p.2)).toArray).run P w=.ok u w'∧Fin c own w a o.dst (fun sv' own'=>sv'=.d (.sl es)∧own'=own) (a.put o.dst u) w':=by
 obtain⟨cells',hrun,h2,h5,h6⟩:=bslice_run hS ht hs hz h0 hf hb hlen hle;have hnF:c.F w.heap.size=none:=by
  cases hc:c.F w.heap.size with
  | none=>rfl
  | some x=>have:=hS.F_lt hc;omega
 have hle':=Cx.frz_le (o:=.cells cells' e) hnF;have hF:∀ b x,(c.frz w.heap.size (.cells cells' e)).F b=some x→(w.alloc (.cells cells' e)).heap[b]?=some x:=fun b x hb=>by
  simp only[Cx.frz] at hb;split at hb
  ·rename_i e;subst e;cases hb;exact heap_alloc_new w _
  ·rw[RowKit.Below.heap_alloc w _ b (hS.F_lt hb)];exact hS.le b x hb
 have hnew:∀ b,(c.frz w.heap.size (.cells cells' e)).F b≠none→c.F b≠none∨w.heap.size≤b:=fun b hb=>by
  simp only[Cx.frz] at hb;split at hb
  ·rename_i e;exact .inr (by omega)
  ·exact .inl hb
 have hS':Sat (c.frz w.heap.size (.cells cells' e)) own (w.alloc (.cells cells' e)) :=
  hS.on hle' rfl hS.one (fun b hb=>RowKit.Below.heap_alloc w _ b hb) hF hnew
 refine⟨_,_,hrun,c.frz w.heap.size (.cells cells' e),.d (.sl es),own,_,rfl,.d ?_,hS',hle',⟨rfl,rfl,rfl,by simp,fun b hb _=>RowKit.Below.heap_alloc w _ b hb,fun b hb=>(hnew b hb).elim .inl (fun h=>.inr (.inl h)),?_,hle'.f⟩,rfl,rfl⟩
 ·rw[← hlen];exact row_rep (c:=c.frz w.heap.size (.cells cells' e)) (ty:=e) (cur:=cells') (us:=cells'.toList) h5 (by simp[Cx.frz]) (qQ _) (by rw[hlen,← h2,← Array.length_toList,List.take_length])
   (fun j d hj=>by obtain⟨u,hu,hr⟩:=h6 j d hj;exact⟨u,by simpa using hu,hr.mono hle'.f⟩)
 ·rintro b ⟨r,x,hx,hl,hb⟩;exact .inl ⟨r,x,hx,hl,hb⟩
theorem fn_wp {c:Cx}{w:World}{a:Act}{o:Oper}{env:List SV}{d:DOp}{sv:SV}{Q:Exit→Act→World→Prop}(hc:compOp P o.op=some d)(hE:EnvOk c env a)(hS:Sat c own w)(h:fnN P d env own (·=sv)) :
  o.wp P a w (Fin c own w a o.dst (fun sv' own'=>sv'=sv∧own'=own)) Q:=by
 have via:opN P d env own (fun sv' own'=>sv'=sv∧own'=own)→o.wp P a w (Fin c own w a o.dst (fun sv' own'=>sv'=sv∧own'=own)) Q:=opN_sound hc hE hS;have pn:∀ x,PureN x (·=sv)→PureN x (fun sv'=>sv'=sv∧own=own):=fun x hx=>by
  obtain⟨s,h1,h2⟩:=pureN_iff.1 hx;subst h1;exact⟨h2,rfl⟩
 have pnT:∀ x,PureN x (·=sv)→PureN x (fun sv'=>sv'=sv∧True):=fun x hx=>by
  obtain⟨s,h1,h2⟩:=pureN_iff.1 hx;subst h1;exact⟨h2,trivial⟩
 cases d<;>simp only[fnN] at h
 case mv x=>exact via ⟨h,rfl⟩
 case mkfn fn fs cs=>exact via ⟨h,rfl⟩
 case mget mk agg ok z x k =>
  refine via ?_;simp only[opN];unfold MgetN at h ⊢;split at h
  ·split at h
   ·split at h
    ·exact⟨h.1,h.2.1,h.2.2.1,fun ds hds=>⟨h.2.2.2.1 ds hds,trivial⟩,fun hno=>⟨h.2.2.2.2 hno,trivial⟩⟩
    ·exact⟨h.1,h.2.1,h.2.2.1,fun ds hds=>⟨h.2.2.2.1 ds hds,trivial⟩,fun hno=>⟨h.2.2.2.2 hno,trivial⟩⟩
    ·exact h.elim
   ·exact⟨h.1,h.2,trivial⟩
   ·exact h.elim
  ·exact h.elim
 case call f args =>
  obtain⟨s,h1,rfl⟩:=h;exact via (.own h1)
 case callv x args =>
  split at h
  ·rename_i f first cap he
   obtain⟨s,h1,rfl⟩:=h;refine via ?_;simp only[opN,CallVN,he];exact .own h1
  ·exact h.elim
 case bslice ty sz n z ps =>
  split at h
  ·rename_i es hb;obtain⟨h1,h2,rfl⟩:=h;have hf:∀ x,Rel c (evn own env x) (a.eval x):=fun x=>nrm_rel hS (ev_rel hE x)
   cases hop:o.op with
   | buildSlice t m qs =>
    rw[hop] at hc;simp only[compOp] at hc;split at hc
    ·rename_i e ht;simp only[Option.bind_eq_bind,qH] at hc;obtain⟨s,hs,z',hz,hc⟩:=hc;split at hc
     ·cases hc
     ·rename_i h0;cases hc;obtain⟨u,w1,k1,k2⟩:=bslice_fz (P:=P) (o:=o) (a:=a) hS ht hs hz h0 hf hb h1 h2;refine wp_sem (s:=Instr.buildSlice t n (qs.map fun p=>(p.1,a.eval p.2))) (by simp only[execOp,hop]) ?_ k2;have:(List.map (fun p=>(p.1,a.eval p.2)) qs.toList).toArray=qs.map fun p=>(p.1,a.eval p.2):=by apply Array.toList_inj.1;simp
      rw[← this];exact k1
    ·cases hc
   | _ =>
    rw[hop] at hc
    exfalso
    revert hc
    clear via pn pnT hb h1 h2 hf;simp only[compOp];intro hc
    (try unfold aggEq at hc);(try unfold shOp at hc);(try unfold pnOp at hc)
    (repeat' split at hc)<;>first | cases hc | (simp[qH] at hc<;>(first | (obtain⟨_,_,_,_,hc⟩:=hc;split at hc<;>first | cases hc | (unfold appzOp at hc;(repeat' split at hc)<;>cases hc)) | simp_all))
  ·exact h.elim
 case load a b x =>
  refine via ?_;simp only[opN];unfold LoadN at h ⊢;split at h
  ·split at h
   ·exact⟨h.1,h.2.1,fun ds hds=>pnT _ (h.2.2 ds hds)⟩
   ·exact h.elim
  ·exact pnT _ h
 case div op x y =>
  refine via ?_;simp only[opN];unfold DivN at h ⊢;split at h
  ·exact⟨h.1,h.2,trivial⟩
  ·exact⟨h.1,h.2,trivial⟩
  ·exact h.elim
 case idxA a x i =>
  refine via ?_;simp only[opN];unfold IdxN at h ⊢;split at h
  ·exact⟨h.1,h.2.1,fun ds hds=>⟨(h.2.2 ds hds).1,(h.2.2 ds hds).2,trivial⟩⟩
  ·split at h
   ·exact⟨h.1,h.2.1,h.2.2.1,h.2.2.2,trivial⟩
   ·exact h.elim
  ·split at h
   ·exact⟨h.1,h.2.1,h.2.2.1,h.2.2.2.1,h.2.2.2.2,trivial⟩
   ·exact h.elim
  ·exact h.elim
 case idxP a b x i =>
  refine via ?_;simp only[opN];unfold IdxPN at h ⊢;split at h
  ·exact⟨h.1,h.2.1,h.2.2,trivial⟩
  ·exact⟨h.1,h.2.1,h.2.2,trivial⟩
  ·exact h.elim
 case idxV a b q x i =>
  refine via ?_;simp only[opN];unfold IdxVN at h ⊢;split at h
  ·exact⟨h.1,h.2.1,pnT _ h.2.2⟩
  ·exact h.elim
 case idxS x i =>
  refine via ?_;simp only[opN];unfold IdxStN at h ⊢;split at h
  ·exact⟨h.1,h.2.1,fun b hb=>⟨h.2.2 b hb,trivial⟩⟩
  ·exact h.elim
 case b2s x =>
  refine via ?_;simp only[opN];unfold B2sN at h ⊢;split at h
  ·obtain⟨ns,hn,hR⟩:=h;exact⟨ns,hn,hR,trivial⟩
  ·exact h.elim
 case slc b x lo hi =>
  refine via ?_;simp only[opN];have hx:∃ es,evn own env x=.d (.sl es):=by
   unfold SlcN at h;split at h
   ·rename_i es he;exact⟨es,he⟩
   ·exact h.elim
  obtain⟨es,hx⟩:=hx;have e1:frzS own (evn own env x)=own:=by rw[hx];rfl
  rw[e1];refine .inl ?_;unfold SlcN at h ⊢;split at h
  ·split at h
   ·exact⟨h.1,h.2.1,h.2.2.1,h.2.2.2.1,h.2.2.2.2,rfl⟩
   ·exact h.elim
  ·exact h.elim
 case slcS x lo hi =>
  refine via ?_;simp only[opN];unfold SlcSN at h ⊢;split at h
  ·split at h
   ·exact⟨h.1,h.2.1,h.2.2.1,h.2.2.2,trivial⟩
   ·exact h.elim
  ·exact h.elim
 all_goals first
  | exact via (pn _ h)
  | exact h.elim
end
end Go.SX
namespace Go.SX
open Go
variable [Tabs]
def edge (o:Oper)(i:Nat):Bool:=o.after.any fun e=>Region.binds .any e&&e.on == i
def regChk (ops:Array Oper)(gs:List GOp):Bool :=
 (List.range ops.size).all fun k =>
  match ops[k]?,gs[k]? with
  | some o,some g =>
   (o.after.all fun e=>!Region.binds .any e||decide (e.on<k)) &&
   (List.range ops.size).all fun i=>i == k ||
    match ops[i]?,gs[i]? with
    | some oi,some gi =>
     (match gi.dst with
      | some t=>if g.looks.contains t||g.dst == some t then (if i<k then edge o i else edge oi k) else true
      | none=>true)
    | _,_=>false
  | _,_=>false
def curF : List GOp→List SV→Nat→(Nat→Bool)→Nat→SV→SV
 | g::gs,s::ss,k,L,t,acc=>curF gs ss (k+1) L t (if L k&&g.dst == some t then s else acc)
 | _,_,_,_,_,acc=>acc
theorem curF_congr {L L':Nat→Bool}{t:Nat}:∀ (gs:List GOp)(ss:List SV)(k:Nat)(acc:SV),(∀ (i:Nat) g,gs[i]?=some g→g.dst=some t→L (k+i)=L' (k+i))→curF gs ss k L t acc=curF gs ss k L' t acc
 | [],ss,k,acc,_=>by cases ss<;>rfl
 | g::gs,[],k,acc,_=>rfl
 | g::gs,s::ss,k,acc,h=>by
  simp only[curF];have h0:=h 0 g rfl;simp only[Nat.add_zero] at h0;have:(if L k&&g.dst == some t then s else acc)=(if L' k&&g.dst == some t then s else acc):=by
   by_cases hd:g.dst=some t
   ·rw[h0 hd]
   ·simp[hd]
  rw[this];exact curF_congr gs ss (k+1) _ fun i g' hi hd=>by have:=h (i+1) g' (by simpa using hi) hd;rwa [← Nat.add_assoc,Nat.add_right_comm] at this
theorem curF_none {L:Nat→Bool}{t:Nat}:∀ (gs:List GOp)(ss:List SV)(k:Nat)(acc:SV),(∀ (i:Nat) g,gs[i]?=some g→g.dst=some t→L (k+i)=false)→curF gs ss k L t acc=acc
 | [],ss,k,acc,_=>by cases ss<;>rfl
 | g::gs,[],k,acc,_=>rfl
 | g::gs,s::ss,k,acc,h=>by
  simp only[curF];have h0:=h 0 g rfl;simp only[Nat.add_zero] at h0;have:(if L k&&g.dst == some t then s else acc)=acc:=by
   by_cases hd:g.dst=some t
   ·simp[h0 hd]
   ·simp[hd]
  rw[this];exact curF_none gs ss (k+1) _ fun i g' hi hd=>by have:=h (i+1) g' (by simpa using hi) hd;rwa [← Nat.add_assoc,Nat.add_right_comm] at this
theorem curF_last {L:Nat→Bool}{t:Nat}:∀ (gs:List GOp)(ss:List SV)(k:Nat)(acc:SV)(j:Nat)(g:GOp)(s:SV),gs[j]?=some g→ss[j]?=some s→g.dst=some t→L (k+j)=true →
  (∀ (i:Nat) g',j<i→gs[i]?=some g'→g'.dst=some t→L (k+i)=false)→curF gs ss k L t acc=s
 | [],_,_,_,j,g,s,h,_,_,_,_=>by simp at h
 | _::_,[],_,_,j,g,s,_,h,_,_,_=>by simp at h
 | g0::gs,s0::ss,k,acc,j,g,s,h1,h2,hd,hL,hno=>by
  simp only[curF]
  cases j with
  | zero =>
   simp at h1 h2;subst h1;subst h2;simp only[Nat.add_zero] at hL;rw[curF_none gs ss (k+1) _ fun i g' hi hd'=>by have:=hno (i+1) g' (by omega) (by simpa using hi) hd';rwa [← Nat.add_assoc,Nat.add_right_comm] at this];simp[hL,hd]
  | succ j =>
   simp at h1 h2;exact curF_last gs ss (k+1) _ j g s h1 h2 hd (by rwa [← Nat.add_assoc,Nat.add_right_comm] at hL) fun i g' hji hi hd'=>by
    have:=hno (i+1) g' (by omega) (by simpa using hi) hd';rwa [← Nat.add_assoc,Nat.add_right_comm] at this
section
variable {P:Program}{own:List Res}
def StepY (P:Program)(own:List Res)(g:GOp)(env:List SV)(sv:SV):Prop :=
 GuardN g.guard env (fun _=>fnN P g.op env own (·=sv)) (fun _=>sv=.tup [])
def Trace (P:Program)(own:List Res):List GOp→List SV→List SV→List SV→Prop
 | [],[],env,fin=>fin=env
 | g::gs,sv::svs,env,fin=>StepY P own g env sv∧Trace P own gs svs (putE env g.dst sv) fin
 | _,_,_,_=>False
theorem seti_same {env:List SV}{s:Nat}{v:SV}(h:geti env s=v)(hv:v≠.top):seti env s v=env:=by
 rw[geti_eq] at h;rw[seti_eq]
 cases he:env[s]? with
 | none=>simp[he] at h;exact absurd h.symm hv
 | some u =>
  simp[he] at h;subst h;have hlt:=(qC.1 he);obtain⟨hl,hu⟩:=hlt;rw[← hu];exact List.set_getElem_self hl
theorem runF_step {g:GOp}{env:List SV}{R:List SV→SV→Prop}(h:GuardN g.guard env (fun env=>fnN P g.op env own (R env)) (fun env=>R env (.tup []))):∃ sv,StepY P own g env sv∧R env sv:=by
 unfold StepY GuardN at *;split at h
 ·obtain⟨sv,h1,h2⟩:=fnN_one h;exact⟨sv,h1,h2⟩
 ·rename_i s want hg;split at h
  ·rename_i b hb;by_cases hbw:b=want
   ·subst hbw;have:=h.1 rfl;rw[seti_same hb (by simp)] at this;obtain⟨sv,h1,h2⟩:=fnN_one this;refine⟨sv,?_,h2⟩;simp only[];exact⟨fun _=>h1,fun h=>by cases b<;>simp at h⟩
   ·have hbn:b=!want:=by cases b<;>cases want<;>simp_all
    subst hbn;have:=h.2 rfl;rw[seti_same hb (by simp)] at this;refine⟨.tup [],?_,this⟩;simp only[];exact⟨fun h=>by cases want<;>simp at h,fun _=>trivial⟩
  ·rename_i hb;refine⟨.tup [],?_,h⟩;simp only[]
  ·exact h.elim
theorem runF_trace : ∀ (gs:List GOp){env:List SV}{K:List SV→Prop},runF P gs env own K→∃ svs fin,Trace P own gs svs env fin∧K fin
 | [],env,K,h=>⟨[],env,rfl,h⟩
 | g::gs,env,K,h=>by
  obtain⟨sv,h1,h2⟩:=runF_step (R:=fun env sv=>runF P gs (putE env g.dst sv) own K) h;obtain⟨svs,fin,h3,h4⟩:=runF_trace gs h2;exact⟨sv::svs,fin,⟨h1,h3⟩,h4⟩
theorem geti_putE {env:List SV}{d:Option Nat}{s:SV}{t:Nat}(ht:t<env.length):geti (putE env d s) t=if d=some t then s else geti env t:=by
 cases d with
 | none=>simp[putE]
 | some d =>
  simp only[putE,seti_eq,geti_eq,List.getElem?_set,qZ];by_cases hd:d=t
  ·subst hd;simp[ht]
  ·simp[hd]
theorem length_putE {env:List SV}{d:Option Nat}{s:SV}:(putE env d s).length=env.length:=by
 cases d<;>simp[putE,seti_eq]
theorem Trace.at : ∀ (gs:List GOp){svs env fin:List SV},Trace P own gs svs env fin→svs.length=gs.length∧fin.length=env.length ∧
  (∀ t,t<env.length→geti fin t=curF gs svs 0 (fun _=>true) t (geti env t)) ∧
  ∀ (k:Nat) g,gs[k]?=some g→∃ envk sv,svs[k]?=some sv∧envk.length=env.length∧StepY P own g envk sv∧∀ t,t<env.length→geti envk t=curF gs svs 0 (fun i=>decide (i<k)) t (geti env t)
 | [],svs,env,fin,h=>by
  cases svs with
  | nil=>simp only[Trace] at h;subst h;exact⟨rfl,rfl,fun t _=>rfl,fun k g hk=>by simp at hk⟩
  | cons s ss=>exact h.elim
 | g0::gs,svs,env,fin,h=>by
  cases svs with
  | nil=>exact h.elim
  | cons s ss =>
   obtain⟨h1,h2⟩:=h;obtain⟨i1,i2,i3,i4⟩:=Trace.at gs h2;rw[length_putE] at i2 i3 i4;have shift:∀ (L:Nat→Bool) t acc,curF gs ss 1 L t acc=curF gs ss 0 (fun i=>L (i+1)) t acc:=fun L t acc=>by
    have:∀ (gs:List GOp)(ss:List SV)(k:Nat) acc,curF gs ss (k+1) L t acc=curF gs ss k (fun i=>L (i+1)) t acc:=by
     intro gs;induction gs with
     | nil=>intro ss k acc;cases ss<;>rfl
     | cons g gs ih=>intro ss k acc;cases ss with
      | nil=>rfl
      | cons s ss=>simp only[curF];exact ih ss (k+1) _
    exact this gs ss 0 acc
   refine⟨by simp[i1],i2,fun t ht=>?_,fun k g hk=>?_⟩
   ·rw[i3 t ht,geti_putE ht];simp only[curF,Bool.true_and,beq_iff_eq];rw[shift]
   ·cases k with
    | zero =>
     simp at hk;subst hk;refine⟨env,s,rfl,rfl,h1,fun t ht=>?_⟩;rw[curF_none _ _ _ _ fun i g' _ _=>by simp]
    | succ k =>
     simp at hk;obtain⟨envk,sv,k1,k2,k3,k4⟩:=i4 k g hk;refine⟨envk,sv,by simpa using k1,k2,k3,fun t ht=>?_⟩;rw[k4 t ht,geti_putE ht];simp only[curF];rw[shift];simp
theorem count_set : ∀ (l:List Bool)(i:Nat),l[i]?=some false→(l.set i true).countP (! ·)+1=l.countP (! ·)
 | [],i,h=>by simp at h
 | b::l,0,h=>by simp at h;subst h;simp
 | b::l,i+1,h=>by
  simp at h;have:=count_set l i h;simp only[List.set_cons_succ,List.countP_cons];omega
theorem compOps_get (ops:Array Oper):∀ (l:List Oper){gs:List GOp},compOps P ops l=some gs→gs.length=l.length∧∀ (k:Nat) o,l[k]?=some o→∃ g,gs[k]?=some g∧compGOp P ops o=some g
 | [],gs,h=>by simp[compOps] at h;subst h;exact⟨rfl,fun k o hk=>by simp at hk⟩
 | o0::l,gs,h=>by
  unfold compOps at h;split at h
  ·rename_i g r hg hr;cases h;obtain⟨h1,h2⟩:=compOps_get ops l hr;refine⟨by simp[h1],fun k o hk=>?_⟩
   cases k with
   | zero=>simp at hk;subst hk;exact⟨g,rfl,hg⟩
   | succ k=>simp at hk;obtain⟨g',h3,h4⟩:=h2 k o hk;exact⟨g',by simpa using h3,h4⟩
  ·cases h
theorem mem_tmpsOf {l:List Operand}{t:Nat}:t∈tmpsOf l↔.tmp t∈l:=by
 simp only[tmpsOf,List.mem_filterMap]
 constructor
 ·rintro ⟨x,hx,h⟩;split at h
  ·cases h;exact hx
  ·cases h
 ·intro h;exact⟨_,h,rfl⟩
theorem edge_mem {o:Oper}{i:Nat}(h:edge o i=true):∃ e∈o.after,Region.binds .any e=true∧e.on=i:=by
 simp only[edge,Array.any_eq_true'] at h;obtain⟨e,he,hb⟩:=h;simp at hb;exact⟨e,he,hb.1,hb.2⟩
theorem any_wp {n0:Nat}{ops:Array Oper}{gs:List GOp}{c0:Cx}{env:List SV}{a0:Act}{w0:World}{K:List SV→Prop}{Q:Exit→Act→World→Prop}(hcomp:compOps P ops ops.toList=some gs)(hchk:regChk ops gs=true)(hE0:EnvOk c0 env a0)(hS0:Sat c0 own w0)(hn:n0≤c0.N)(hd0:a0.defers=[])(h:runF P gs env own K)
  (hQ:∀ a' w',Nx n0 c0 own w0 (fun env' own'=>own'=own∧K env') a' w'→Q .normal a' w'):wpAny P .any ops Q ops.size (Array.replicate ops.size false) a0 { w0 with drawn:=w0.drawn+1 }:=by
 obtain⟨svs,fin,htr,hK⟩:=runF_trace gs h;obtain⟨hlen,hfinl,hfin,hat⟩:=Trace.at gs htr;obtain⟨hgl,hget⟩:=compOps_get ops ops.toList hcomp;have hgl:gs.length=ops.size:=by rw[hgl];simp
 have hc:∀ (k:Nat) o g,ops[k]?=some o→gs[k]?=some g→(∀ e∈o.after,Region.binds .any e=true→e.on<k) ∧
   ∀ (i:Nat) oi gi t,i≠k→ops[i]?=some oi→gs[i]?=some gi→gi.dst=some t→(t∈g.looks∨g.dst=some t)→(i<k→edge o i=true)∧(k<i→edge oi k=true):=by
  intro k o g ho hg;have hk:k<ops.size:=(qB.1 ho).1;have h1:=qL.1 hchk k (by simpa using hk);simp only[ho,hg,qJ] at h1;obtain⟨h1,h2⟩:=h1;refine⟨fun e he hb=>?_,fun i oi gi t hne hoi hgi hdi ht=>?_⟩
  ·have:=(Array.all_eq_true'.1 h1) e he;simp[hb] at this;exact this
  ·have hi:i<ops.size:=(qB.1 hoi).1;have h3:=qL.1 h2 i (by simpa using hi);have hne':(i == k)=false:=by simpa using hne
   have hcond:(g.looks.contains t||g.dst == some t)=true:=by
    rcases ht with ht | ht
    ·simp[ht]
    ·simp[ht]
   simp only[hne',Bool.false_or,hoi,hgi,hdi,hcond,if_true] at h3;refine⟨fun hik=>by simpa [hik] using h3,fun hki=>?_⟩;rw[if_neg (by omega)] at h3;exact h3
 have main:∀ (fuel:Nat)(listed:Array Bool)(a:Act)(w:World)(c:Cx),listed.size=ops.size→listed.toList.countP (! ·)≤fuel →
   (∀ (i:Nat) o,listed.getD i false=true→ops[i]?=some o→∀ e∈o.after,Region.binds .any e=true→listed.getD e.on false=true) →
   Sat c own w→c0.le c→Goes c0 own w0 c own w→a.defers=[]→a.tmps.size=env.length→(∀ (t:Nat) u,a.tmps[t]?=some u→Rel c (curF gs svs 0 (fun i=>listed.getD i false) t (geti env t)) u) →
   wpAny P .any ops Q fuel listed a w:=by
  have done:∀ (listed:Array Bool)(a:Act)(w:World)(c:Cx),listed.size=ops.size→(∀ i,i<ops.size→listed.getD i false=true)→Sat c own w→c0.le c→Goes c0 own w0 c own w→a.defers=[]→a.tmps.size=env.length →
    (∀ (t:Nat) u,a.tmps[t]?=some u→Rel c (curF gs svs 0 (fun i=>listed.getD i false) t (geti env t)) u)→Q .normal a w:=by
   intro listed a w c hsz hall hS hle hg hd hts hrel;refine hQ a w ⟨hd,c,fin,own,⟨by rw[hts,hfinl],fun t s u hs hu=>?_⟩,hS,fun r hr=>hle.t r (by omega),Nat.le_trans hn hle.n,hg,rfl,hK⟩;have ht:t<env.length:=by rw[← hts];exact(qB.1 hu).1
   have e1:geti fin t=s:=by rw[geti_eq,hs];rfl
   rw[← e1,hfin t ht];have:=hrel t u hu
   rwa [curF_congr (L':=fun _=>true) gs svs 0 _ (fun i g hi _=>hall _ (by
    have:=(qC.1 hi).1;omega))] at this
  have lst:∀ (listed:Array Bool),listed.size=ops.size→Region.ready .any ops listed=[]→∀ i,i<ops.size→listed.getD i false=true:=by
   intro listed hsz hr i
   induction i using Nat.strongRecOn with
   | _ i ih =>
    intro hi;have ho:ops[i]?=some ops[i]:=by simp[hi]
    obtain⟨g,hg,_⟩:=hget i ops[i] (by simp[hi]);by_cases hl:listed.getD i false=true
    ·exact hl
    ·exfalso
     have hm2:i∈Region.ready .any ops listed:=by
      refine mem_ready.2 ⟨?_,ops[i],ho,fun e he hb=>?_⟩
      ·have hil:i<listed.size:=by omega
       simp[hil] at hl ⊢;exact hl
      ·have h1:=(hc i _ g ho hg).1 e he hb;exact ih e.on h1 (by omega)
     rw[hr] at hm2;cases hm2
  intro fuel
  induction fuel with
  | zero =>
   intro listed a w c hsz hcnt hdown hS hle hg hd hts hrel;have hall:∀ i,i<ops.size→listed.getD i false=true:=fun i hi=>by
    have hil:i<listed.size:=by omega
    by_cases hl:listed[i]=true
    ·simp[hil,hl]
    ·exfalso
     have hf:listed[i]=false:=by simpa using hl
     have:=count_set listed.toList i (by simp[hil,hf]);omega
   refine⟨?_,done listed a w c hsz hall hS hle hg hd hts hrel⟩
   cases hr:Region.ready .any ops listed with
   | nil=>rfl
   | cons i r =>
    have:i∈Region.ready .any ops listed:=by rw[hr];simp
    obtain⟨h1,o,ho,_⟩:=mem_ready.1 this;have hi:i<ops.size:=(qB.1 ho).1;have h2:=hall i hi;have hil:i<listed.size:=by omega
    simp[hil] at h1 h2;rw[h1] at h2;cases h2
  | succ fuel ih =>
   intro listed a w c hsz hcnt hdown hS hle hg hd hts hrel;refine⟨fun hr=>done listed a w c hsz (lst listed hsz hr) hS hle hg hd hts hrel,fun i hi=>?_⟩;obtain⟨hun,o,ho,hpre⟩:=mem_ready.1 hi;have hi':i<ops.size:=(qB.1 ho).1;have hil:i<listed.size:=by omega
   have hunl:listed[i]?=some false:=by simp[hil] at hun;simp[hil,hun]
   have hunf:listed.getD i false=false:=by simp[hil] at hun;simp[hil,hun]
   obtain⟨g,hgi,hcg⟩:=hget i o (by simpa using ho);obtain⟨envk,sv,hsv,hkl,hstep,hek⟩:=hat i g hgi;obtain⟨_,hord⟩:=hc i o g ho hgi;have hlook:∀ t,t∈g.looks∨g.dst=some t→∀ j gj,gs[j]?=some gj→gj.dst=some t→listed.getD j false=decide (j<i):=by
    intro t ht j gj hj hdj;by_cases hji:j=i
    ·subst hji;rw[hunf];simp
    ·have hjs:j<ops.size:=by have:=(qC.1 hj).1;omega
     have hoj:ops[j]?=some ops[j]:=by simp[hjs]
     obtain⟨h1,h2⟩:=hord j ops[j] gj t hji hoj hj hdj ht;rcases Nat.lt_or_gt_of_ne hji with hlt | hgt
     ·obtain⟨e,he,hb,heq⟩:=edge_mem (h1 hlt);have:=hpre e he hb;rw[heq] at this;rw[this];simp[hlt]
     ·by_cases hl:listed.getD j false=true
      ·exfalso
       obtain⟨e,he,hb,heq⟩:=edge_mem (h2 hgt);have:=hdown j ops[j] hl hoj e he hb;rw[heq,hunf] at this;cases this
      ·have:listed.getD j false=false:=by simpa using hl
       rw[this];simp;omega
   have hslot:∀ t u,t∈g.looks→a.tmps[t]?=some u→Rel c (geti envk t) u:=by
    intro t u ht hu;have htl:t<env.length:=by rw[← hts];exact(qB.1 hu).1
    rw[hek t htl];have:=hrel t u hu
    rwa [curF_congr (L':=fun j=>decide (j<i)) gs svs 0 _ (fun j gj hj hdj=>by rw[Nat.zero_add];exact hlook t (.inl ht) j gj hj hdj)] at this
   let envR:=(List.range env.length).map fun t=>if t∈g.looks then geti envk t else .top
   have hRlen:envR.length=env.length:=by simp[envR]
   have hRget:∀ t,t∈g.looks→geti envR t=geti envk t:=fun t ht=>by
    rw[geti_eq,geti_eq];by_cases htl:t<env.length
    ·have:envR[t]?=some (geti envk t):=by simp[envR,htl,ht]
     rw[this,geti_eq];rfl
    ·have h1:envR[t]?=none:=by rw[List.getElem?_eq_none_iff];omega
     have h2:envk[t]?=none:=by rw[List.getElem?_eq_none_iff];omega
     rw[h1,h2]
   have hER:EnvOk c envR a:=⟨by rw[hts,hRlen],fun t s u hs hu=>by
    have htl:t<env.length:=by rw[← hts];exact(qB.1 hu).1
    simp only[envR,qI,List.getElem?_range htl,qS,qZ] at hs;subst hs;split
    ·rename_i ht;exact hslot t u ht hu
    ·exact .top u⟩
   have hagree:∀ x∈g.op.ops,evn own envk x=evn own envR x:=fun x hx=>by
    cases x with
    | tmp t =>
     have:t∈g.looks:=by simp only[GOp.looks,qT];exact .inl (mem_tmpsOf.2 hx)
     simp only[evn,ev,hRget t this]
    | _=>rfl
   have hgd:GuardN g.guard envR (fun _=>fnN P g.op envR own (·=sv)) (fun _=>sv=.tup []):=by
    unfold StepY at hstep;unfold GuardN at hstep ⊢;split
    ·rename_i hgn;simp only[hgn] at hstep;exact(fnN_agree hagree).1 hstep
    ·rename_i s want hgs;simp only[hgs] at hstep;have hs:s∈g.looks:=by simp only[GOp.looks,qT,hgs];exact .inr (by simp)
     rw[hRget s hs];split at hstep
     ·rename_i b hb;simp only[];exact⟨fun e=>(fnN_agree hagree).1 (hstep.1 e),hstep.2⟩
     ·rename_i hb;simp only[];exact hstep
     ·exact hstep.elim
   obtain⟨hco,hdst,hcase⟩:=guard_sound hcg hER hgd;have hcount:(listed.setIfInBounds i true).toList.countP (! ·)≤fuel:=by
    have:=count_set listed.toList i (by simpa using hunl);rw[Array.toList_setIfInBounds];omega
   have hLset:∀ j,(listed.setIfInBounds i true).getD j false=if j=i then true else listed.getD j false:=fun j=>by
    by_cases hji:j=i
    ·subst hji;simp[hil]
    ·by_cases hjl:j<listed.size
     ·simp[hjl,hji,Ne.symm hji]
     ·simp[hjl,hji]
   have hdown':∀ (j:Nat) o',(listed.setIfInBounds i true).getD j false=true→ops[j]?=some o'→∀ e∈o'.after,Region.binds .any e=true→(listed.setIfInBounds i true).getD e.on false=true:=by
    intro j o' hj hoj e he hb;rw[hLset] at hj ⊢;split
    ·rfl
    ·split at hj
     ·rename_i hji;subst hji;rw[ho] at hoj;cases hoj;exact hpre e he hb
     ·exact hdown j o' hj hoj e he hb
   have hnext:∀ (a':Act)(w':World)(c':Cx)(u:Value),a'=a.put g.dst u→Rel c' sv u→Sat c' own w'→c.le c'→Goes c own w c' own w'→wpAny P .any ops Q fuel (listed.setIfInBounds i true) a' w':=by
    intro a' w' c' u ha hr hS' hle' hg';subst ha;refine ih _ _ w' c' (by simp[hsz]) hcount hdown' hS' (hle.trans hle') (hg.trans hg') (by rw[put_defers];exact hd) (by cases g.dst<;>simp[Act.put,hts]) ?_;intro t v hv;have hfun:(fun j=>(listed.setIfInBounds i true).getD j false)=fun j=>if j=i then true else listed.getD j false:=funext hLset
    rw[hfun];by_cases hdt:g.dst=some t
    ·
     have hvu:v=u:=by
      rw[hdt] at hv;simp only[Act.put,Array.getElem?_setIfInBounds,if_true] at hv;split at hv
      ·cases hv;rfl
      ·cases hv
     subst hvu;rw[curF_last gs svs 0 _ i g sv hgi hsv hdt (by simp) (fun j gj hij hj hdj=>by
      rw[Nat.zero_add,if_neg (by omega),hlook t (.inr hdt) j gj hj hdj];simp;omega)]
     exact hr
    ·have hv':a.tmps[t]?=some v:=by
      cases hgd':g.dst with
      | none=>rw[hgd'] at hv;exact hv
      | some d =>
       rw[hgd'] at hv hdt;simp only[Act.put,Array.getElem?_setIfInBounds] at hv
       rwa [if_neg (fun e=>hdt (by rw[e]))] at hv
     rw[curF_congr (L':=fun j=>listed.getD j false) gs svs 0 _ (fun j gj hj hdj=>by
      rw[Nat.zero_add,if_neg (fun e=>by subst e;rw[hgi] at hj;cases hj;exact hdt hdj)])]
     exact(hrel t v hv').mono hle'
   unfold wpOp;rw[ho];show if Region.wanted o (yielded ops a.tmps)=true then _ else _
   rcases hcase with ⟨hw,_,_,hA⟩ | ⟨hw,_,_,hB⟩
   ·rw[if_pos hw];refine .inl (Oper.wp_mono (fun a' w' hfin=>?_) (fn_wp hco hER hS hA));obtain⟨c',sv',own',u,ha,k1,k2,k3,k4,rfl,rfl⟩:=hfin;exact hnext a' w' c' u (by rw[← hdst];exact ha) k1 k2 k3 k4
   ·rw[if_neg (by rw[hw];simp)];subst hB;exact hnext _ w c undef (by rw[hdst]) (.tup rfl (fun i s u hs=>by simp at hs)) hS (.refl c) (.refl c own w)
 have hrep:∀ j,(Array.replicate ops.size false).getD j false=false:=fun j=>by
  rw[Array.getD_eq_getD_getElem?,Array.getElem?_replicate];split<;>rfl
 refine main ops.size (Array.replicate ops.size false) a0 { w0 with drawn:=w0.drawn+1 } c0 (by simp) ?_ ?_ (hS0.drew rfl) (.refl c0) (.drew rfl rfl rfl rfl) hd0 hE0.size ?_
 ·simp[Array.toList_replicate,List.countP_replicate]
 ·intro i o hl _;rw[hrep] at hl;cases hl
 ·intro t u hu;have htl:t<env.length:=by rw[← hE0.size];exact(qB.1 hu).1
  rw[curF_none _ _ _ _ (fun i g _ _=>hrep _)];exact hE0.rel t _ u (by rw[geti_eq];simp[htl]) hu
theorem region_any {n0 id:Nat}{ops:Array Oper}{gs:List GOp}{c0:Cx}{env:List SV}{a0:Act}{w0:World}{K:List SV→Prop}{Q:Exit→Act→World→Prop}(hm:P.follows .mixedOrders=true)
  (hcomp:compOps P ops ops.toList=some gs) (hchk:regChk ops gs=true) (hE0:EnvOk c0 env a0) (hS0:Sat c0 own w0) (hn:n0≤c0.N) (hd0:a0.defers=[]) (h:runF P gs env own K)
  (hQ:∀ a' w',Nx n0 c0 own w0 (fun env' own'=>own'=own∧K env') a' w'→Q .normal a' w'):(Code.region id ops true).wp P Q a0 w0 :=
 wp_region_any hm (any_wp hcomp hchk hE0 hS0 hn hd0 h hQ)
end
end Go.SX
