/- Parts of the proof. -/
import Derived.Test.YtlpempbeenpilaaGreatDoorZSxR
set_option linter.unusedSimpArgs false
set_option linter.unusedVariables false
set_option linter.unusedSectionVars false
namespace Go.SX
open Go
variable [Tabs]
structure EqD (d' d:D)(R:Unit→Prop):Prop where
 h:d'=d
 k:R ()
structure EqSV (s' s:Option SV)(R:Unit→Prop):Prop where
 h:s'=s
 k:R ()
structure EqDs (es' es:List D)(R:Unit→Prop):Prop where
 h:es'=es
 k:R ()
structure EqM (es' es:List (Value×List D))(R:Unit→Prop):Prop where
 h:es'=es
 k:R ()
structure EqL (es' es:List (List D))(R:Unit→Prop):Prop where
 h:es'=es
 k:R ()
def mtS (own:List Res)(p:List Nat)(s' s:SV)(R:Unit→Prop):Prop :=
 match s' with
 | .top=>R ()
 | .d d'=>(match nrm own s with | .d d=>EqD d' d R | _=>False)
 | s'=>EqSV (renSV p s') (some s) R
theorem mtS_le {own:List Res}{p:List Nat}{s' s:SV}{R:Unit→Prop}(h:mtS own p s' s R):leS own p s' s∧R ():=by
 unfold mtS at h;split at h
 ·exact⟨.inl rfl,h⟩
 ·rename_i d';split at h
  ·rename_i d hd;obtain⟨rfl,h⟩:=h;exact⟨.inr (.inr (.inl (by simp[renSV,hd]))),h⟩
  ·exact h.elim
 ·exact⟨.inr (.inl h.h),h.k⟩
def mtL (own:List Res)(p:List Nat):List SV→List SV→(Unit→Prop)→Prop
 | [],[],R=>R ()
 | s'::l',s::l,R=>mtS own p s' s (fun _=>mtL own p l' l R)
 | _,_,_=>False
theorem mtL_le {own:List Res}{p:List Nat}:∀ {l' l:List SV}{R:Unit→Prop},mtL own p l' l R→leL own p l' l∧R ()
 | [],[],_,h=>⟨trivial,h⟩
 | s'::l',s::l,R,h=>by
  obtain⟨h1,h2⟩:=mtS_le h;obtain⟨h3,h4⟩:=mtL_le h2;exact⟨⟨h1,h3⟩,h4⟩
 | [],_::_,_,h=>h.elim
 | _::_,[],_,h=>h.elim
def mtR (own:List Res)(p:List Nat)(x' x:Res)(R:Unit→Prop):Prop :=
 match x',x with
 | .gone,_=>R ()
 | .fz es',.fz es=>EqL es' es R
 | .row ty' sz' es',.row ty sz es=>(match Nat.beq ty' ty&&Nat.beq sz' sz with | true=>EqL es' es R | false=>False)
 | .cells cs' ty',.cells cs ty=>(match Nat.beq ty' ty with | true=>mtL own p cs' cs R | false=>False)
 | .fzc ds',.fzc ds=>EqDs ds' ds R
 | .mp mk' agg' es',.mp mk agg es=>(match decide (mk'=mk)&&(agg' == agg) with | true=>EqM es' es R | false=>False)
 | _,_=>False
theorem mtR_le {own:List Res}{p:List Nat}{x' x:Res}{R:Unit→Prop}(h:mtR own p x' x R):leR own p x' x∧R ():=by
 unfold mtR at h;split at h
 ·exact⟨by simp[leR],h⟩
 ·exact⟨h.h,h.k⟩
 ·rename_i ty' sz' es' ty sz es;cases h1:Nat.beq ty' ty<;>simp[h1] at h;cases h2:Nat.beq sz' sz<;>simp[h2] at h;exact⟨⟨beqT h1,beqT h2,h.h⟩,h.k⟩
 ·rename_i cs' ty' cs ty;cases h1:Nat.beq ty' ty<;>simp[h1] at h;obtain⟨h3,h4⟩:=mtL_le h;exact⟨⟨beqT h1,h3⟩,h4⟩
 ·exact⟨h.h,h.k⟩
 ·rename_i mk' agg' es' mk agg es
  cases h1:(decide (mk'=mk)&&(agg' == agg)) with
  | false=>rw[h1] at h;exact h.elim
  | true =>
   rw[h1] at h;simp at h1;exact⟨⟨h1.1,h1.2,h.h⟩,h.k⟩
 ·exact h.elim
def mtO (own:List Res)(p:List Nat):List Nat→List Res→(Unit→Prop)→Prop
 | [],[],R=>R ()
 | r::q,x'::l',R=>mtR own p x' (getr own r) (fun _=>mtO own p q l' R)
 | _,_,_=>False
theorem mtO_le {own:List Res}{p:List Nat}:∀ {q:List Nat}{l':List Res}{R:Unit→Prop},mtO own p q l' R→leO own p q l'∧R ()
 | [],[],_,h=>⟨trivial,h⟩
 | r::q,x'::l',R,h=>by
  obtain⟨h1,h2⟩:=mtR_le h;obtain⟨h3,h4⟩:=mtO_le h2;exact⟨⟨h1,h3⟩,h4⟩
 | [],_::_,_,h=>h.elim
 | _::_,[],_,h=>h.elim
def okP : List Nat→Nat→Bool
 | [],_=>true
 | r::l,n=>Nat.blt r n&&(l.all (fun s=>!Nat.beq r s)&&okP l n)
theorem okP_lt : ∀ {l:List Nat}{n:Nat},okP l n=true→∀ r∈l,r<n
 | [],_,_,r,h=>by simp at h
 | a::l,n,h,r,hr=>by
  simp only[okP,qJ] at h;rcases List.mem_cons.1 hr with rfl | hr
  ·exact of_decide_eq_true (by simpa [Nat.blt_eq] using h.1)
  ·exact okP_lt h.2.2 r hr
theorem okP_nodup : ∀ {l:List Nat}{n:Nat},okP l n=true→l.Nodup
 | [],_,_=>List.nodup_nil
 | a::l,n,h=>by
  simp only[okP,qJ] at h;refine List.nodup_cons.2 ⟨fun hm=>?_,okP_nodup h.2.2⟩;have:=qL.1 h.2.1 a hm;simp[Nat.beq_refl] at this
noncomputable def mt (p:List Nat)(env:List SV)(own:List Res)(env':List SV)(own':List Res):Prop :=
 match okP p own.length with
 | true=>mtL own p env' env (fun _=>mtO own p p own' (fun _=>True))
 | false=>False
theorem StLe.mt {env env':List SV}{own own':List Res}(p:List Nat)(h:mt p env own env' own'):StLe 0 env own env' own':=by
 unfold Go.SX.mt at h;split at h
 ·rename_i hp;obtain⟨h1,h2⟩:=mtL_le h;obtain⟨h3,_⟩:=mtO_le h2;exact .mk p (okP_nodup hp) (okP_lt hp) (fun r hr=>absurd hr (by omega)) h1 h3
 ·exact h.elim
theorem LoopS.intro {n0:Nat}{body:List SV→List Res→(DX→List SV→List Res→Prop)→Prop}{env:List SV}{own:List Res}{K:DX→List SV→List Res→Prop}{ι:Type}(S:ι→List SV)(O:ι→List Res)(J:List SV→List Res→ι)(φ:ι→Prop)(μ:ι→Nat)
  (i0:ι) (h0:φ i0) (h1:StLe n0 env own (S i0) (O i0))
  (h:∀ i,φ i→∀ Kn:List SV→List Res→Prop,(∀ env' own',StLe n0 env' own' (S (J env' own')) (O (J env' own'))→φ (J env' own')→μ (J env' own')<μ i→Kn env' own')→body (S i) (O i) (fun e env' own'=>match e with | .normal=>Kn env' own' | e=>K e env' own')) :
  LoopS n0 body env own K:=by
 refine⟨ι,S,O,φ,μ,⟨i0,h0,h1⟩,fun i hi=>?_⟩;have:=h i hi (fun env' own'=>∃ j,φ j∧μ j<μ i∧StLe n0 env' own' (S j) (O j)) fun env' own' h3 h1 h2=>⟨_,h1,h2,h3⟩
 exact this
def frzR (own:List Res):SV→List Res
 | .tup cs=>frzL own cs
 | s=>frzL own [s]
def nrmR (own:List Res):SV→SV
 | .tup cs=>.tup (cs.map (fun s=>nilZ (nrm own s)))
 | .agg cs=>.agg (cs.map (fun s=>nilZ (nrm own s)))
 | s=>nilZ (nrm own s)
theorem nrmR_rel {c:Cx}{own:List Res}{w:World}(hS:Sat c own w){s:SV}{u:Value}(h:Rel c s u):Rel c (nrmR own s) u:=by
 have all:∀ {cs:List SV}{us:List Value},RelL c cs us→RelL c (cs.map (fun s=>nilZ (nrm own s))) us:=fun {cs us} hr=>⟨by rw[hr.1,qO],fun i s u hs hu=>by
  rw[qI,Option.map_eq_some_iff] at hs;obtain⟨s0,hs0,rfl⟩:=hs;exact nilZ_rel (nrm_rel hS (hr.2 i s0 u hs0 hu))⟩
 unfold nrmR;split
 ·obtain⟨us,rfl,h2⟩:=Rel.tup_iff.1 h;exact Rel.tup_iff.2 ⟨us,rfl,all h2⟩
 ·obtain⟨us,rfl,h2⟩:=Rel.agg_iff.1 h;exact Rel.agg_iff.2 ⟨us,rfl,all h2⟩
 ·exact nilZ_rel (nrm_rel hS h)
theorem frzR_ok {c:Cx}{own:List Res}{w:World}(s:SV)(hS:Sat c own w):∃ c1,Sat c1 (frzR own s) w∧c.le c1∧Goes c own w c1 (frzR own s) w:=by
 unfold frzR;split
 ·exact frzL_ok _ hS
 ·exact frzL_ok _ hS
theorem SCall.data {P:Program}{f:FuncId}{own:List Res}{args:List SV}{K0 K1:SV→List Res→Prop}(h:SCall P f own args K0)(hK:∀ sv own',K0 sv own'→K1 (nrmR (frzR own' sv) sv) (frzR own' sv)):SCall P f own args K1:=by
 refine⟨h.1,fun c w us hS hr=>(h.2 c w us hS hr).mono ?_⟩;rintro e w' ⟨c',own',sv,u,rfl,h2,h3,h4,h5,h6⟩;obtain⟨c1,k1,k2,k3⟩:=frzR_ok sv h3;exact⟨c1,_,_,u,rfl,nrmR_rel k1 (h2.mono k2),k1,h4.trans k2,h5.trans k3,hK _ _ h6⟩
theorem AppS.one {xs:List (List D)}{d:List D}{sz bytes:Nat}{K:Unit→Prop}(h:d.length=sz)(hl:xs.length≤1000000000)(hb:bytes≤100000)(hk:K ()):AppS xs [d] sz bytes K:=by
 refine⟨by simpa using h,?_,?_,hk⟩
 ·have:(xs.length+1) * bytes≤1000000001 * 100000:=Nat.mul_le_mul (by omega) hb;exact Nat.le_trans this (by decide)
 ·simp only[qV,List.length_nil,maxLen];omega
theorem MksS.of {n:Int}{m bytes:Nat}{K:Unit→Prop}(h:n=m)(hm:m≤1000000000)(hb:bytes≤100000)(hk:K ()):MksS n n bytes K:=by
 subst h;refine⟨Int.natCast_nonneg _,rfl,?_,by simp only[maxLen];omega,hk⟩;rw[Int.toNat_natCast];exact Nat.le_trans (Nat.mul_le_mul hm hb) (by decide)
theorem wr64 {n:Int}(h1:-9223372036854775808≤n)(h2:n≤9223372036854775807):IntKind.i64.wrap n=n:=by
 simp only[IntKind.wrap,IntKind.bits,IntKind.signed];simp;omega
theorem IdxS.lists {xs:List (List Int)}{es:List (List D)}{n:Int}{K:SV→Prop}(he:es=xs.map dL)(h0:0≤n)(h1:n<xs.length)
  (hk:∀ x y,xs[n.toNat]?=some x→y=x.map dI→K (.fp [.sl y])):IdxS es n 1 K :=
 .map he h0 h1 (fun _=>rfl) fun x hx=>hk x _ hx rfl
end Go.SX
namespace Go.SX
open Go
variable [Tabs]
theorem SCall.lent {P:Program}{f:FuncId}{own own1:List Res}{args args1:List SV}{v:Value}(h:Fn1 P f args1 (.d (.val v)))(ho:OwnLe own own1)(ha:ArgLe own1 args args1)(hc:closedL args1=true) :
  SCall P f own args (fun sv own'=>sv=.d (.val v)∧own'=own):=by
 refine⟨h.1,fun c w us hS hr=>?_⟩;obtain⟨c1,hS1,hle1,hg1⟩:=ho c w hS;have hr1:RelL c1 args1 us:=ha c1 w us hS1 (hr.mono hle1);refine(h.2 { c1 with N:=0 } w us hS1.empty (closedL_rel (c:=c1) (c':={ c1 with N:=0 }) (fun _ _ h=>h) hc hr1)).mono ?_;rintro e w' ⟨c',own',sv,u,rfl,h2,h3,h4,h5,rfl⟩;have hno:∀ b,¬ Own { c1 with N:=0 } [] b:=fun b ⟨r,x,hx,_⟩=>by simp at hx
 have hkeep:∀ b,b<w.heap.size→w'.heap[b]?=w.heap[b]?:=fun b hb=>h5.keep b hb (hno b)
 have hF:∀ b o,c.F b=some o→w'.heap[b]?=some o:=fun b o hb=>by
  have h0:=hS.le b o hb;rw[hkeep b (qB.1 h0).1];exact h0
 refine⟨c,own,.d (.val v),u,rfl,Rel.val_iff.2 (Rel.val_iff.1 h2),hS.on (.refl c) rfl hS.one hkeep hF (fun b hb=>.inl hb),.refl c,
  ⟨h5.os,h5.tape,h5.output,h5.size,fun b hb _=>hkeep b hb,fun b hb=>.inl hb,fun b hb=>.inl hb,fun _ _ h=>h⟩,rfl,rfl⟩
theorem CallS.lent {P:Program}{f:FuncId}{own:List Res}{args:List SV}{K:SV→List Res→Prop}{v:Value}(rs:List Nat)(h:Fn1 P f (args.map (nrmA (frzPs (frzL own args) rs))) (.d (.val v)))(hc:closedL (args.map (nrmA (frzPs (frzL own args) rs)))=true)(hK:K (.d (.val v)) own):CallS P f own args K :=
 .fn (SCall.lent h (OwnLe.trans (fun _ _ hS=>frzL_ok args hS) (frzPs_ok rs _)) (.map _ fun _ _ _ _ hS h=>nrmA_rel hS h) hc) hK
theorem FCallS.lent {P:Program}{f:FuncId}{own:List Res}{args:List SV}{R:SV→Prop}{v:Value}(rs:List Nat)(h:Fn1 P f (args.map (nrmA (frzPs (frzL own args) rs))) (.d (.val v)))(hc:closedL (args.map (nrmA (frzPs (frzL own args) rs)))=true)(hR:R (.d (.val v))):FCallS P f own args R :=
 .fn (SCall.lent h (OwnLe.trans (fun _ _ hS=>frzL_ok args hS) (frzPs_ok rs _)) (.map _ fun _ _ _ _ hS h=>nrmA_rel hS h) hc) hR
mutual
def emS (f:Nat→Nat):SV→SV
 | .d d=>.d d
 | .agg cs=>.agg (emL f cs)
 | .tup cs=>.tup (emL f cs)
 | .ptr r off=>.ptr (f r) off
 | .hd r=>.hd (f r)
 | .fp ds=>.fp ds
 | .rp r sz i j=>.rp (f r) sz i j
 | .rs r sz i=>.rs (f r) sz i
 | .clo fn fs cs=>.clo fn (emL f fs) (emL f cs)
 | .top=>.top
def emL (f:Nat→Nat):List SV→List SV
 | []=>[]
 | s::l=>emS f s::emL f l
end
def emR (f:Nat→Nat):Res→Res
 | .cells cs ty=>.cells (emL f cs) ty
 | .mpf mk es=>.mpf mk (es.map fun p=>(p.1,emS f p.2))
 | x=>x
theorem emL_len (f:Nat→Nat):∀ l:List SV,(emL f l).length=l.length
 | []=>rfl
 | _::l=>by simp[emL,emL_len f l]
theorem emL_get (f:Nat→Nat):∀ (l:List SV)(i:Nat),(emL f l)[i]?=(l[i]?).map (emS f)
 | [],i=>by simp[emL]
 | s::l,0=>by simp[emL]
 | s::l,i+1=>by simp[emL,emL_get f l i]
mutual
theorem em_rel {c c':Cx}{f:Nat→Nat}(hF:c'.F=c.F)(hN:∀ r,r<c.N→f r<c'.N)(hθ:∀ r,r<c.N→c'.θ (f r)=c.θ r):∀ {s:SV}{u:Value},Rel c s u→Rel c' (emS f s) u
 | .d d,u,h=>by cases h with | d h=>exact .d (by rw[hF];exact h)
 | .fp ds,u,h=>by cases h with | fp h1 h2=>exact .fp (by rw[hF];exact h1) (by rw[hF];exact h2)
 | .top,u,h=>.top u
 | .agg cs,u,h=>by
  obtain⟨us,rfl,h2⟩:=Rel.agg_iff.1 h;exact Rel.agg_iff.2 ⟨us,rfl,emL_rel hF hN hθ h2⟩
 | .tup cs,u,h=>by
  obtain⟨us,rfl,h2⟩:=Rel.tup_iff.1 h;exact Rel.tup_iff.2 ⟨us,rfl,emL_rel hF hN hθ h2⟩
 | .clo fn fs cs,u,h=>by
  obtain⟨us,vs,rfl,h2,h3⟩:=Rel.clo_iff.1 h;exact Rel.clo_iff.2 ⟨us,vs,rfl,emL_rel hF hN hθ h2,emL_rel hF hN hθ h3⟩
 | .ptr r off,u,h=>by cases h with | ptr h1 h2=>exact .ptr (hN _ h1) (by rw[hθ _ h1];exact h2)
 | .hd r,u,h=>by cases h with | hd h1 h2=>exact .hd (hN _ h1) (by rw[hθ _ h1];exact h2)
 | .rp r sz i j,u,h=>by cases h with | rp h1 h2=>exact .rp (hN _ h1) (by rw[hθ _ h1];exact h2)
 | .rs r sz i,u,h=>by cases h with | rs h1 h2=>exact .rs (hN _ h1) (by rw[hθ _ h1];exact h2)
theorem emL_rel {c c':Cx}{f:Nat→Nat}(hF:c'.F=c.F)(hN:∀ r,r<c.N→f r<c'.N)(hθ:∀ r,r<c.N→c'.θ (f r)=c.θ r):∀ {l:List SV}{us:List Value},RelL c l us→RelL c' (emL f l) us
 | [],us,h=>by rw[RelL.nil_iff.1 h];exact .nil
 | s::l,us,h=>by
  obtain⟨u,us',rfl,h1,h2⟩:=RelL.cons_iff.1 h;exact .cons (em_rel hF hN hθ h1) (emL_rel hF hN hθ h2)
end
def setAll (own:List Res):List Nat→List Res→List Res
 | r::q,x::l=>setAll (setr own r x) q l
 | _,_=>own
theorem setAll_len : ∀ (q:List Nat)(l:List Res)(own:List Res),(setAll own q l).length=own.length
 | [],_,own=>by simp[setAll]
 | _::_,[],own=>by simp[setAll]
 | r::q,x::l,own=>by rw[setAll,setAll_len q l,setr_eq,List.length_set]
theorem setAll_out : ∀ (q:List Nat)(l:List Res)(own:List Res)(r:Nat),r ∉ q→(setAll own q l)[r]?=own[r]?
 | [],_,own,r,_=>by simp[setAll]
 | _::_,[],own,r,_=>by simp[setAll]
 | a::q,x::l,own,r,h=>by
  rw[setAll,setAll_out q l _ r (fun hm=>h (List.mem_cons_of_mem _ hm)),setr_eq,List.getElem?_set_ne];exact fun e=>h (e▸List.mem_cons_self ..)
theorem setAll_in : ∀ (q:List Nat)(l:List Res)(own:List Res)(i r:Nat),q.Nodup→q.length≤l.length→q[i]?=some r→r<own.length→(setAll own q l)[r]?=l[i]?
 | [],_,own,i,r,_,_,h,_=>by simp at h
 | a::q,[],own,i,r,_,hl,_,_=>by simp at hl
 | a::q,x::l,own,i,r,hnd,hl,h,hr=>by
  obtain⟨h1,h2⟩:=List.nodup_cons.1 hnd
  cases i with
  | zero =>
   simp at h;subst h;rw[setAll,setAll_out q l _ a h1,setr_eq];simp[hr]
  | succ i =>
   rw[setAll,setAll_in q l _ i r h2 (by simpa using hl) (by simpa using h) (by rw[setr_eq,List.length_set];exact hr)];simp
def emb (q:List Nat)(n h:Nat):Nat:=match q[h]? with | some r=>r | none=>n+(h - q.length)
theorem Sat.renL {c:Cx}{own own':List Res}{w:World}{p:List Nat}(hS:Sat c own w)(hnd:LNd p own')(hlt:∀ r∈p,r<own.length)(hO:leO own p p own'):Sat (c.ren p) own' w:=by
 have hp:∀ r∈p,r<c.N:=fun r hr=>by rw[← hS.n];exact hlt r hr
 obtain⟨hol,hog⟩:=leO_get hO;have hres:∀ (i:Nat) x',own'[i]?=some x'→∃ r x,p[i]?=some r∧own[r]?=some x∧(c.ren p).θ i=c.θ r∧leR own p x' x:=fun i x' hi=>by
  obtain⟨r,h1,h2⟩:=hog i x' hi;have hr:r<own.length:=hlt r (qU h1);exact⟨r,own[r],h1,by simp[hr],by simp[Cx.ren,h1],by rw[getr_eq,qK hr] at h2;exact h2⟩
 have hlive:∀ x' x,leR own p x' x→x'.live=true→x.live=true:=fun x' x h hl=>by
  unfold leR at h;split at h<;>first | (simp[Res.live] at hl;done) | rfl | exact h.elim
 refine⟨by simp[Cx.ren,hol],?_,?_,?_,hS.le,?_,hS.tab⟩
 ·intro i x' hi;obtain⟨r,x,h1,h2,h3,h4⟩:=hres i x' hi;rw[h3];have hx:=hS.res r x h2;unfold leR at h4;split at h4
  ·trivial
  ·subst h4;exact hx
  ·obtain⟨rfl,rfl,rfl⟩:=h4;exact hx
  ·rename_i cs' ty' cs ty;obtain⟨rfl,h4⟩:=h4;obtain⟨b,us,k1,k2,k3,k4⟩:=hx;refine⟨b,us,k1,k2,by rw[k3,leL_len h4],fun j s hj=>?_⟩;obtain⟨s0,m1,m2⟩:=leL_get h4 j s hj;obtain⟨u,n1,n2,n3⟩:=k4 j s0 m1;exact⟨u,n1,n2,leS_rel hS hp m2 n3⟩
  ·subst h4;exact ren_rel hp (s':=.fp _) rfl hx
  ·obtain⟨rfl,rfl,rfl⟩:=h4;exact hx
  ·rename_i mk' es' mk es;obtain⟨rfl,hk,h4⟩:=h4;obtain⟨b,ms,clock,k1,k2,k3,k4⟩:=hx;have hl:es'.length=es.length:=by have:=congrArg List.length hk;simpa using this
   refine⟨b,ms,clock,k1,k2,by rw[hl];exact k3,fun j k s hj=>?_⟩;obtain⟨s0,m1,m2⟩:=leL_get h4 j s (by rw[qI,hj];rfl);rw[qI,Option.map_eq_some_iff] at m1;obtain⟨⟨k',s0'⟩,q1,rfl⟩:=m1;have hkk:k'=k:=by
    have:=congrArg (fun l=>l[j]?) hk;simp only[qI,hj,q1,qS,qZ] at this;exact this.symm
   subst hkk;obtain⟨n1,m,n2,n3,n4⟩:=k4 j k' s0' q1;exact⟨n1,m,n2,n3,leS_rel hS hp m2 n4⟩
  ·exact h4.elim
 ·intro i j x y b hi hj hli hlj hbi hbj;obtain⟨r,x0,h1,h2,h3,h4⟩:=hres i x hi;obtain⟨s,y0,k1,k2,k3,k4⟩:=hres j y hj;rw[h3] at hbi;rw[k3] at hbj;have:=hS.apart r s x0 y0 b h2 k2 (hlive _ _ h4 hli) (hlive _ _ k4 hlj) hbi hbj;subst this;exact hnd i j r x y h1 k1 hi hj hli hlj
 ·intro i x b hi hl hb;obtain⟨r,x0,h1,h2,h3,h4⟩:=hres i x hi;rw[h3] at hb;exact hS.notF r x0 b h2 (hlive _ _ h4 hl) hb
 ·intro r;simp only[Cx.ren];split
  ·exact hS.one _
  ·rfl
theorem Sat.ren {c:Cx}{own own':List Res}{w:World}{p:List Nat}(hS:Sat c own w)(hnd:p.Nodup)(hlt:∀ r∈p,r<own.length)(hO:leO own p p own'):Sat (c.ren p) own' w:=hS.renL (LNd.of hnd own') hlt hO
theorem ren_own {c:Cx}{own own':List Res}{p:List Nat}(hlt:∀ r∈p,r<own.length)(hO:leO own p p own'){b:Nat}(h:Own (c.ren p) own' b):∃ r x,r∈p∧own[r]?=some x∧x.live=true∧blkOf (c.θ r)=some b:=by
 obtain⟨hol,hog⟩:=leO_get hO;obtain⟨i,x',hi,hl,hb⟩:=h;obtain⟨r,h1,h2⟩:=hog i x' hi;have hr:r<own.length:=hlt r (qU h1);rw[getr_eq,qK hr] at h2;refine⟨r,own[r],qU h1,by simp[hr],?_,by simpa [Cx.ren,h1] using hb⟩;simp only[Option.getD_some] at h2;unfold leR at h2;split at h2<;>first | (simp[Res.live] at hl;done) | assumption | (rename_i e1 e2;rw[e2];rfl) | exact h2.elim
theorem SCall.embed {P:Program}{fn:FuncId}{own own0:List Res}{args args0:List SV}{K0:SV→List Res→Prop}(q:List Nat)(h:SCall P fn own0 args0 K0)(hnd:q.Nodup)(hlt:∀ r∈q,r<own.length)(hO:leO own q q own0)(hA:leL own q args0 args) :
  SCall P fn own args (fun sv own'=>∃ sv0 own0',K0 sv0 own0'∧q.length≤own0'.length∧sv=emS (emb q own.length) sv0∧own'=setAll own q (own0'.map (emR (emb q own.length)))++(own0'.drop q.length).map (emR (emb q own.length))):=by
 refine⟨h.1,fun c w us hS hr=>?_⟩;have hp:∀ r∈q,r<c.N:=fun r hr=>by rw[← hS.n];exact hlt r hr
 have hS0:=hS.ren hnd hlt hO;have hr0:RelL (c.ren q) args0 us:=⟨by rw[hr.1,leL_len hA],fun i s u h1 h2=>by
  obtain⟨s0,m1,m2⟩:=leL_get hA i s h1;exact leS_rel hS hp m2 (hr.2 i s0 u m1 h2)⟩
 refine(h.2 (c.ren q) w us hS0 hr0).mono ?_;rintro e w' ⟨c1,own1,sv,u,rfl,h2,h3,h4,h5,h6⟩
 let n:=own.length
 let m:=q.length
 let f:=emb q n
 have hn:c.N=n:=hS.n.symm;have hm:(c.ren q).N=m:=rfl;have hm1:m≤c1.N:=by rw[← hm];exact h4.n
 have hown0:∀ b,Own (c.ren q) own0 b→Own c own b:=fun b hb=>by
  obtain⟨r,x,_,k1,k2,k3⟩:=ren_own hlt hO hb;exact⟨r,x,k1,k2,k3⟩
 have hout:∀ (r:Nat) x b,r ∉ q→own[r]?=some x→x.live=true→blkOf (c.θ r)=some b→¬ Own (c.ren q) own0 b:=fun r x b hrq hx hl hb ho=>by
  obtain⟨s,y,k0,k1,k2,k3⟩:=ren_own hlt hO ho;exact hrq (hS.apart r s x y b hx k1 hl k2 hb k3▸k0)
 let c2:Cx:={ θ:=fun r=>if r<n then c.θ r else c1.θ (r - n+m),F:=c1.F,N:=n+(c1.N - m) }
 have hθ1:∀ r,r<n→c2.θ r=c.θ r:=fun r hr=>by simp[c2,hr]
 have hemb:∀ h,(∃ r,q[h]?=some r∧f h=r)∨(m≤h∧f h=n+(h - m)):=fun h=>by
  simp only[f,emb]
  cases hq:q[h]? with
  | some r=>exact .inl ⟨r,rfl,rfl⟩
  | none=>exact .inr ⟨by simpa using hq,rfl⟩
 have hfN:∀ h,h<c1.N→f h<c2.N:=fun h hh=>by
  rcases hemb h with ⟨r,hq,e⟩ | ⟨hmh,e⟩
  ·rw[e];have:=hlt r (qU hq);simp only[c2];omega
  ·rw[e];simp only[c2];omega
 have hfθ:∀ h,h<c1.N→c2.θ (f h)=c1.θ h:=fun h hh=>by
  rcases hemb h with ⟨r,hq,e⟩ | ⟨hmh,e⟩
  ·have hhm:h<m:=(qC.1 hq).1;rw[e,hθ1 r (hlt r (qU hq)),h4.t h (by rw[hm];exact hhm)];simp[Cx.ren,hq]
  ·rw[e];simp only[c2];rw[if_neg (by omega)];congr 1;omega
 have hle:c.le c2:=⟨by rw[hn];exact Nat.le_add_right _ _,fun r hr=>hθ1 r (by rw[← hn];exact hr),h5.f⟩;have hl1:own1.length=c1.N:=h3.n;have hget:∀ (r:Nat) x,(setAll own q (own1.map (emR f))++(own1.drop m).map (emR f))[r]?=some x→(r<n∧r ∉ q∧own[r]?=some x)∨∃ h y,h<c1.N∧r=f h∧own1[h]?=some y∧x=emR f y:=fun r x hx=>by
  rw[List.getElem?_append,setAll_len] at hx;split at hx
  ·rename_i hrn;by_cases hrq:r∈q
   ·obtain⟨i,hi⟩:=List.getElem?_of_mem hrq;have him:i<m:=(qC.1 hi).1;rw[setAll_in q _ own i r hnd (by rw[qO,hl1];exact hm1) hi hrn,qI,Option.map_eq_some_iff] at hx;obtain⟨y,hy,rfl⟩:=hx;refine .inr ⟨i,y,by omega,?_,hy,rfl⟩;simp[f,emb,hi]
   ·rw[setAll_out q _ own r hrq] at hx;exact .inl ⟨hrn,hrq,hx⟩
  ·rename_i hge;rw[qI,Option.map_eq_some_iff] at hx;obtain⟨y,hy,rfl⟩:=hx;rw[List.getElem?_drop] at hy;have hlt1:=(qC.1 hy).1;refine .inr ⟨m+(r - n),y,by rw[← hl1];exact hlt1,?_,hy,rfl⟩;have hq:q[m+(r - n)]?=none:=by rw[List.getElem?_eq_none_iff];omega
   simp only[f,emb,hq];omega
 have hlive:∀ y,(emR f y).live=y.live:=fun y=>by cases y<;>rfl
 have hkeep:∀ b,b<w.heap.size→¬ Own (c.ren q) own0 b→w'.heap[b]?=w.heap[b]?:=h5.keep;have hnewF:∀ b,c1.F b≠none→c.F b≠none∨w.heap.size≤b∨Own (c.ren q) own0 b:=h5.newF;refine⟨c2,_,emS f sv,u,rfl,em_rel (c:=c1) (c':=c2) rfl hfN hfθ h2,⟨?_,?_,?_,?_,?_,?_,h3.tab⟩,hle,⟨h5.os,h5.tape,h5.output,h5.size,fun b hb hno=>hkeep b hb (fun ho=>hno (hown0 b ho)),fun b hb=>?_,?_,h5.f⟩,sv,own1,h6,by rw[hl1];exact hm1,rfl,rfl⟩
 ·rw[qP,setAll_len,qO,List.length_drop,hl1]
 ·intro r x hx;rcases hget r x hx with ⟨hr,hrq,hx⟩ | ⟨h,y,hh,rfl,hy,rfl⟩
  ·rw[hθ1 r hr];exact(hS.res r x hx).keep hle fun hl b hb=>hkeep b (hS.blk_lt ⟨r,x,hx,hl,hb⟩) (hout r x b hrq hx hl hb)
  ·rw[hfθ h hh];have:=h3.res h y hy
   cases y with
   | gone=>trivial
   | fz es=>exact this
   | fzc ds=>exact em_rel (c:=c1) (c':=c2) (f:=f) (s:=.fp ds) rfl hfN hfθ this
   | row ty sz es=>exact this
   | mp mk agg es=>exact this
   | mpf mk es =>
    obtain⟨b,ms,clock,k1,k2,k3,k4⟩:=this;refine⟨b,ms,clock,k1,k2,by rw[qO];exact k3,fun i k s hi=>?_⟩;rw[qI,Option.map_eq_some_iff] at hi;obtain⟨⟨k',s0⟩,hs0,e⟩:=hi;cases e;obtain⟨n1,m,n2,n3,n4⟩:=k4 i k' s0 hs0;exact⟨n1,m,n2,n3,em_rel (c:=c1) (c':=c2) rfl hfN hfθ n4⟩
   | cells cs ty =>
    obtain⟨b,us,k1,k2,k3,k4⟩:=this;refine⟨b,us,k1,k2,by rw[emL_len];exact k3,fun i s hi=>?_⟩;rw[emL_get,Option.map_eq_some_iff] at hi;obtain⟨s0,hs0,rfl⟩:=hi;obtain⟨u,m1,m2,m3⟩:=k4 i s0 hs0;exact⟨u,m1,m2,em_rel (c:=c1) (c':=c2) rfl hfN hfθ m3⟩
 ·have mixed:∀ (r:Nat) x b,r<n→r ∉ q→own[r]?=some x→x.live=true→blkOf (c.θ r)=some b→∀ (h:Nat) y,own1[h]?=some y→y.live=true→blkOf (c1.θ h)=some b→False:=fun r x b hr hrq hx hl hb h y hy hly hby=>by
   have h1:=hS.blk_lt ⟨r,x,hx,hl,hb⟩;rcases h5.newO b ⟨h,y,hy,hly,hby⟩ with h2 | h2
   ·exact hout r x b hrq hx hl hb h2
   ·omega
  intro r s x y b hx hy hlx hly hbx hby
  rcases hget r x hx with ⟨hr,hrq,hx⟩ | ⟨h,x',hh,rfl,hx',rfl⟩
  ·rw[hθ1 r hr] at hbx;rcases hget s y hy with ⟨hs,hsq,hy⟩ | ⟨h',y',hh',rfl,hy',rfl⟩
   ·rw[hθ1 s hs] at hby
    exact hS.apart r s x y b hx hy hlx hly hbx hby
   ·rw[hfθ h' hh'] at hby
    exact(mixed r x b hr hrq hx hlx hbx h' y' hy' (by rw[← hlive];exact hly) hby).elim
  ·rw[hfθ h hh] at hbx;rcases hget s y hy with ⟨hs,hsq,hy⟩ | ⟨h',y',hh',rfl,hy',rfl⟩
   ·rw[hθ1 s hs] at hby
    exact(mixed s y b hs hsq hy hly hby h x' hx' (by rw[← hlive];exact hlx) hbx).elim
   ·rw[hfθ h' hh'] at hby
    rw[h3.apart h h' x' y' b hx' hy' (by rw[← hlive];exact hlx) (by rw[← hlive];exact hly) hbx hby]
 ·intro r x b hx hl hb;rcases hget r x hx with ⟨hr,hrq,hx⟩ | ⟨h,y,hh,rfl,hy,rfl⟩
  ·rw[hθ1 r hr] at hb;have h0:=hS.notF r x b hx hl hb;show c1.F b=none
   cases hc:c1.F b with
   | none=>rfl
   | some o =>
    rcases hnewF b (by simp[hc]) with k | k | k
    ·exact absurd h0 k
    ·have:=hS.blk_lt ⟨r,x,hx,hl,hb⟩;omega
    ·exact(hout r x b hrq hx hl hb k).elim
  ·rw[hfθ h hh] at hb;exact h3.notF h y b hy (by rw[← hlive];exact hl) hb
 ·exact h3.le
 ·intro r;simp only[c2];split
  ·exact hS.one r
  ·exact h3.one _
 ·rcases hnewF b hb with k | k | k
  ·exact .inl k
  ·exact .inr (.inl k)
  ·exact .inr (.inr (hown0 b k))
 ·rintro b ⟨r,x,hx,hl,hb⟩;rcases hget r x hx with ⟨hr,hrq,hx⟩ | ⟨h,y,hh,rfl,hy,rfl⟩
  ·rw[hθ1 r hr] at hb;exact .inl ⟨r,x,hx,hl,hb⟩
  ·rw[hfθ h hh] at hb;rcases h5.newO b ⟨h,y,hy,by rw[← hlive];exact hl,hb⟩ with k | k
   ·exact .inl (hown0 b k)
   ·exact .inr k
theorem CallS.emb {P:Program}{fn:FuncId}{own own0:List Res}{args args0:List SV}{K K0:SV→List Res→Prop}(q:List Nat)(h:SCall P fn own0 args0 K0)(hm:mt q args own args0 own0)
  (hK:∀ sv0 own0',K0 sv0 own0'→q.length≤own0'.length→K (emS (Go.SX.emb q own.length) sv0) (setAll own q (own0'.map (emR (Go.SX.emb q own.length)))++(own0'.drop q.length).map (emR (Go.SX.emb q own.length)))):CallS P fn own args K:=by
 unfold Go.SX.mt at hm;split at hm
 ·rename_i hp;obtain⟨h1,h2⟩:=mtL_le hm;obtain⟨h3,_⟩:=mtO_le h2;exact .own (h.embed q (okP_nodup hp) (okP_lt hp) h3 h1) fun sv own' ⟨sv0,own0',k1,k2,k3,k4⟩=>by subst k3;subst k4;exact hK _ _ k1 k2
 ·exact hm.elim
def okQ : List Nat→Nat→Nat→Bool
 | [],k,n0=>Nat.ble n0 k
 | r::l,k,n0=>Nat.ble n0 k||(Nat.beq r k&&okQ l (k+1) n0)
theorem okQ_get : ∀ (l:List Nat)(k n0:Nat),okQ l k n0=true→∀ r,k≤r→r<n0→l[r - k]?=some r
 | [],k,n0,h,r,h1,h2=>by
  have:=Nat.le_of_ble_eq_true (show Nat.ble n0 k=true from h);omega
 | a::l,k,n0,h,r,h1,h2=>by
  simp only[okQ,Bool.or_eq_true,qJ] at h;rcases h with h | ⟨ha,h⟩
  ·have:=Nat.le_of_ble_eq_true h;omega
  ·have ha:=beqT ha;rcases Nat.lt_or_ge k r with hk | hk
   ·have:=okQ_get l (k+1) n0 h r hk h2;have e:r - k=(r - (k+1))+1:=by omega
    rw[e,List.getElem?_cons_succ];exact this
   ·have:r=k:=by omega
    subst this;subst ha;simp
end Go.SX
