/- Parts of the proof. -/
import Derived.Test.YtllbabjgpdmblaaGreatDoorZSxR
set_option linter.unusedSimpArgs false
set_option linter.unusedVariables false
set_option linter.unusedSectionVars false
namespace Go.SX
open Go
variable [Tabs]
structure EqD (d' d:D)(R:Unit->Prop):Prop where
 h:d'=d
 k:R ()
structure VQ (s' s:Option SV)(R:Unit->Prop):Prop where
 h:s'=s
 k:R ()
structure VT (es' es:List D)(R:Unit->Prop):Prop where
 h:es'=es
 k:R ()
structure EqM (es' es:List (Value×List D))(R:Unit->Prop):Prop where
 h:es'=es
 k:R ()
structure VR (es' es:List (List D))(R:Unit->Prop):Prop where
 h:es'=es
 k:R ()
def mtS (own:List ak)(p:List Nat)(s' s:SV)(R:Unit->Prop):Prop :=
 match s' with
 | .top=>R ()
 | .d d'=>(match nrm own s with | .d d=>EqD d' d R|_=>False)
 |s'=>VQ (xU p s') (some s) R
theorem ui2 {own:List ak}{p:List Nat}{s' s:SV}{R:Unit->Prop}(h:mtS own p s' s R):SA own p s' s/\R ():=by
 unfold mtS at h;split at h
 ·exact⟨.inl rfl,h⟩
 ·rename_i d';split at h
  ·rename_i d hd;obtain⟨rfl,h⟩:=h;exact⟨.inr (.inr (.inl (by simp[xU,hd]))),h⟩
  ·exact h.elim
 ·exact⟨.inr (.inl h.h),h.k⟩
def RY (own:List ak)(p:List Nat):List SV->List SV->(Unit->Prop)->Prop
 |[],[],R=>R ()
 |s'::l',s::l,R=>mtS own p s' s (fun _=>RY own p l' l R)
 |_,_,_=>False
theorem Lr {own:List ak}{p:List Nat}:∀ {l' l:List SV}{R:Unit->Prop},RY own p l' l R->Gw own p l' l/\R ()
 |[],[],_,h=>⟨trivial,h⟩
 |s'::l',s::l,R,h=>by
  obtain⟨h1,h2⟩:=ui2 h;obtain⟨h3,h4⟩:=Lr h2;exact⟨⟨h1,h3⟩,h4⟩
 |[],_::_,_,h=>h.elim
 |_::_,[],_,h=>h.elim
def mtR (own:List ak)(p:List Nat)(x' x:ak)(R:Unit->Prop):Prop :=
 match x',x with
 | .gone,_=>R ()
 | .fz es',.fz es=>VR es' es R
 | .row ty' sz' es',.row ty sz es=>(match Nat.beq ty' ty&&Nat.beq sz' sz with|true=>VR es' es R|false=>False)
 | .cells cs' ty',.cells cs ty=>(match Nat.beq ty' ty with|true=>RY own p cs' cs R|false=>False)
 | .wz ds',.wz ds=>VT ds' ds R
 | .mp mk' agg' es',.mp mk agg es=>(match decide (mk'=mk)&&(agg' == agg) with|true=>EqM es' es R|false=>False)
 |_,_=>False
theorem uo2 {own:List ak}{p:List Nat}{x' x:ak}{R:Unit->Prop}(h:mtR own p x' x R):Am own p x' x/\R ():=by
 unfold mtR at h;split at h
 ·exact⟨by simp[Am],h⟩
 ·exact⟨h.h,h.k⟩
 ·rename_i ty' sz' es' ty sz es;cases h1:Nat.beq ty' ty<;>simp[h1] at h;cases h2:Nat.beq sz' sz<;>simp[h2] at h;exact⟨⟨vY h1,vY h2,h.h⟩,h.k⟩
 ·rename_i cs' ty' cs ty;cases h1:Nat.beq ty' ty<;>simp[h1] at h;obtain⟨h3,h4⟩:=Lr h;exact⟨⟨vY h1,h3⟩,h4⟩
 ·exact⟨h.h,h.k⟩
 ·rename_i mk' agg' es' mk agg es
  cases h1:(decide (mk'=mk)&&(agg' == agg)) with
  |false=>rw[h1] at h;exact h.elim
  |true =>
   rw[h1] at h;simp at h1;exact⟨⟨h1.1,h1.2,h.h⟩,h.k⟩
 ·exact h.elim
def Xv (own:List ak)(p:List Nat):List Nat->List ak->(Unit->Prop)->Prop
 |[],[],R=>R ()
 |r::q,x'::l',R=>mtR own p x' (bG own r) (fun _=>Xv own p q l' R)
 |_,_,_=>False
theorem Qd {own:List ak}{p:List Nat}:∀ {q:List Nat}{l':List ak}{R:Unit->Prop},Xv own p q l' R->Gv own p q l'/\R ()
 |[],[],_,h=>⟨trivial,h⟩
 |r::q,x'::l',R,h=>by
  obtain⟨h1,h2⟩:=uo2 h;obtain⟨h3,h4⟩:=Qd h2;exact⟨⟨h1,h3⟩,h4⟩
 |[],_::_,_,h=>h.elim
 |_::_,[],_,h=>h.elim
def LU : List Nat->Nat->Bool
 |[],_=>true
 |r::l,n=>Nat.blt r n&&(l.all (fun s=>!Nat.beq r s)&&LU l n)
theorem Qg : ∀ {l:List Nat}{n:Nat},LU l n=true->∀ r∈l,r<n
 |[],_,_,r,h=>by simp at h
 |a::l,n,h,r,hr=>by
  simp only[LU,qK] at h;rcases List.mem_cons.1 hr with rfl|hr
  ·exact of_decide_eq_true (by simpa [Nat.blt_eq] using h.1)
  ·exact Qg h.2.2 r hr
theorem Qi : ∀ {l:List Nat}{n:Nat},LU l n=true->l.Nodup
 |[],_,_=>List.nodup_nil
 |a::l,n,h=>by
  simp only[LU,qK] at h;refine List.nodup_cons.2 ⟨fun hm=>?_,Qi h.2.2⟩;have:=qP.1 h.2.1 a hm;simp[Nat.beq_refl] at this
noncomputable def mt (p:List Nat)(env:List SV)(own:List ak)(env':List SV)(own':List ak):Prop :=
 match LU p own.length with
 |true=>RY own p env' env (fun _=>Xv own p p own' (fun _=>True))
 |false=>False
theorem jM.mt {env env':List SV}{own own':List ak}(p:List Nat)(h:mt p env own env' own'):jM 0 env own env' own':=by
 unfold Go.SX.mt at h;split at h
 ·rename_i hp;obtain⟨h1,h2⟩:=Lr h;obtain⟨h3,_⟩:=Qd h2;exact .mk p (Qi hp) (Qg hp) (fun r hr=>absurd hr (by omega)) h1 h3
 ·exact h.elim
def Io (env:List SV)(n:Nat):Int:=match eu env n with | .d (.val (.int _ a))=>a|_=>0
def ZX (own:List ak)(n:Nat):List (List D):=match bG own n with | .row _ _ es=>es|_=>[]
theorem uY.intro {n0:Nat}{body:List SV->List ak->(DX->List SV->List ak->Prop)->Prop}{env:List SV}{own:List ak}{K:DX->List SV->List ak->Prop}{ι:Type}(S:ι->List SV)(O:ι->List ak)(J:List SV->List ak->ι)(φ:ι->Prop)(μ:ι->Nat)
  (i0:ι) (h0:φ i0) (h1:jM n0 env own (S i0) (O i0))
  (h:∀ i,φ i->∀ Kn:List SV->List ak->Prop,(∀ env' own',jM n0 env' own' (S (J env' own')) (O (J env' own'))->φ (J env' own')->μ (J env' own')<μ i->Kn env' own')->body (S i) (O i) (fun e env' own'=>match e with | .normal=>Kn env' own'|e=>K e env' own')) :
  uY n0 body env own K:=by
 refine⟨ι,S,O,φ,μ,⟨i0,h0,h1⟩,fun i hi=>?_⟩;have:=h i hi (fun env' own'=>∃ j,φ j/\μ j<μ i/\jM n0 env' own' (S j) (O j)) fun env' own' h3 h1 h2=>⟨_,h1,h2,h3⟩
 exact this
def CV (own:List ak):SV->List ak
 | .dO cs=>mV own cs
 |s=>mV own [s]
def FX (own:List ak):SV->SV
 | .dO cs=>.dO (cs.map (fun s=>Jc (nrm own s)))
 | .agg cs=>.agg (cs.map (fun s=>Jc (nrm own s)))
 |s=>Jc (nrm own s)
theorem Sl {c:Cx}{own:List ak}{w:World}(hS:Sat c own w){s:SV}{u:Value}(h:Rel c s u):Rel c (FX own s) u:=by
 have all:∀ {cs:List SV}{us:List Value},dP c cs us->dP c (cs.map (fun s=>Jc (nrm own s))) us:=fun {cs us} hr=>⟨by rw[hr.1,qY],fun i s u hs hu=>by
  rw[qF,Option.map_eq_some_iff] at hs;obtain⟨s0,hs0,rfl⟩:=hs;exact Yo (yC hS (hr.2 i s0 u hs0 hu))⟩
 unfold FX;split
 ·obtain⟨us,rfl,h2⟩:=Rel.yD.1 h;exact Rel.yD.2 ⟨us,rfl,all h2⟩
 ·obtain⟨us,rfl,h2⟩:=Rel.tH.1 h;exact Rel.tH.2 ⟨us,rfl,all h2⟩
 ·exact Yo (yC hS h)
theorem rs1 {c:Cx}{own:List ak}{w:World}(s:SV)(hS:Sat c own w):∃ c1,Sat c1 (CV own s) w/\c.le c1/\Goes c own w c1 (CV own s) w:=by
 unfold CV;split
 ·exact CJ _ hS
 ·exact CJ _ hS
theorem dX.data {P:Program}{f:FuncId}{own:List ak}{args:List SV}{K0 K1:SV->List ak->Prop}(h:dX P f own args K0)(hK:∀ sv own',K0 sv own'->K1 (FX (CV own' sv) sv) (CV own' sv)):dX P f own args K1:=by
 refine⟨h.1,fun c w us hS hr=>(h.2 c w us hS hr).mono ?_⟩;rintro e w' ⟨c',own',sv,u,rfl,h2,h3,h4,h5,h6⟩;obtain⟨c1,k1,k2,k3⟩:=rs1 sv h3;exact⟨c1,_,_,u,rfl,Sl k1 (h2.mono k2),k1,h4.trans k2,h5.trans k3,hK _ _ h6⟩
theorem ZI {es es':List (List D)}(h:es=es'):SV.d (.sl es)=SV.d (.sl es'):=by rw[h]
theorem Gl.one {xs:List (List D)}{d:List D}{sz bytes:Nat}{K:Unit->Prop}(h:d.length=sz)(hl:xs.length<=1000000000)(hb:bytes<=100000)(hk:K ()):Gl xs [d] sz bytes K:=by
 refine⟨by simpa using h,?_,?_,hk⟩
 ·have:(xs.length+1) * bytes<=1000000001 * 100000:=Nat.mul_le_mul (by omega) hb;exact Nat.le_trans this (by decide)
 ·simp only[qZ,List.length_nil,maxLen];omega
theorem I4.of {n:Int}{m bytes:Nat}{K:Unit->Prop}(h:n=m)(hm:m<=1000000000)(hb:bytes<=100000)(hk:K ()):I4 n n bytes K:=by
 subst h;refine⟨Int.natCast_nonneg _,rfl,?_,by simp only[maxLen];omega,hk⟩;rw[Int.toNat_natCast];exact Nat.le_trans (Nat.mul_le_mul hm hb) (by decide)
theorem nc (n:Nat):@NatCast.natCast Int instNatCastInt n=Int.ofNat n:=rfl
theorem wE {n:Int}(h1:-9223372036854775808<=n)(h2:n<=9223372036854775807):IntKind.i64.wrap n=n:=by
 simp only[IntKind.wrap,IntKind.bits,IntKind.signed];simp;omega
theorem xq.lists {xs:List (List Int)}{es:List (List D)}{n:Int}{K:SV->Prop}(he:es=xs.map dL)(h0:0<=n)(h1:n<xs.length)
  (hk:∀ x y,xs[n.toNat]?=some x->y=x.map dI->K (.fp [.sl y])):xq es n 1 K :=
 .map he h0 h1 (fun _=>rfl) fun x hx=>hk x _ hx rfl
end Go.SX
namespace Go.SX
open Go
variable [Tabs]
theorem dX.OB {P:Program}{f:FuncId}{own dK:List ak}{args args1:List SV}{v:Value}(h:Fn1 P f args1 (.d (.val v)))(ho:BJ own dK)(ha:FP dK args args1)(hc:xP args1=true) :
  dX P f own args (fun sv own'=>sv=.d (.val v)/\own'=own):=by
 refine⟨h.1,fun c w us hS hr=>?_⟩;obtain⟨c1,hS1,hle1,hg1⟩:=ho c w hS;have hr1:dP c1 args1 us:=ha c1 w us hS1 (hr.mono hle1);refine(h.2 { c1 with N:=0 } w us hS1.empty (JQ (c:=c1) (c':={ c1 with N:=0 }) (fun _ _ h=>h) hc hr1)).mono ?_;rintro e w' ⟨c',own',sv,u,rfl,h2,h3,h4,h5,rfl⟩;have hno:∀ b,¬ Own { c1 with N:=0 } [] b:=fun b ⟨r,x,hx,_⟩=>by simp at hx
 have hkeep:∀ b,b<w.heap.size->w'.heap[b]?=w.heap[b]?:=fun b hb=>h5.keep b hb (hno b)
 have hF:∀ b o,c.F b=some o->w'.heap[b]?=some o:=fun b o hb=>by
  have h0:=hS.le b o hb;rw[hkeep b (qB.1 h0).1];exact h0
 refine⟨c,own,.d (.val v),u,rfl,Rel.BD.2 (Rel.BD.1 h2),hS.on (.refl c) rfl hS.one hkeep hF (fun b hb=>.inl hb),.refl c,
  ⟨h5.os,h5.tape,h5.output,h5.size,fun b hb _=>hkeep b hb,fun b hb=>.inl hb,fun b hb=>.inl hb,fun _ _ h=>h⟩,rfl,rfl⟩
theorem dV.OB {P:Program}{f:FuncId}{own:List ak}{args:List SV}{K:SV->List ak->Prop}{v:Value}(rs:List Nat)(h:Fn1 P f (args.map (Ji (FW (mV own args) rs))) (.d (.val v)))(hc:xP (args.map (Ji (FW (mV own args) rs)))=true)(hK:K (.d (.val v)) own):dV P f own args K :=
 .fn (dX.OB h (BJ.trans (fun _ _ hS=>CJ args hS) (OM rs _)) (.map _ fun _ _ _ _ hS h=>qn1 hS h) hc) hK
theorem iW.OB {P:Program}{f:FuncId}{own:List ak}{args:List SV}{R:SV->Prop}{v:Value}(rs:List Nat)(h:Fn1 P f (args.map (Ji (FW (mV own args) rs))) (.d (.val v)))(hc:xP (args.map (Ji (FW (mV own args) rs)))=true)(hR:R (.d (.val v))):iW P f own args R :=
 .fn (dX.OB h (BJ.trans (fun _ _ hS=>CJ args hS) (OM rs _)) (.map _ fun _ _ _ _ hS h=>qn1 hS h) hc) hR
mutual
def Kv (f:Nat->Nat):SV->SV
 | .d d=>.d d
 | .agg cs=>.agg (Dp f cs)
 | .dO cs=>.dO (Dp f cs)
 | .ptr r off=>.ptr (f r) off
 | .hd r=>.hd (f r)
 | .fp ds=>.fp ds
 | .rp r sz i j=>.rp (f r) sz i j
 | .rs r sz i=>.rs (f r) sz i
 | .clo fn fs cs=>.clo fn (Dp f fs) (Dp f cs)
 | .top=>.top
def Dp (f:Nat->Nat):List SV->List SV
 |[]=>[]
 |s::l=>Kv f s::Dp f l
end
def G5 (f:Nat->Nat):ak->ak
 | .cells cs ty=>.cells (Dp f cs) ty
 | .kC mk es=>.kC mk (es.map fun p=>(p.1,Kv f p.2))
 |x=>x
theorem tx1 (f:Nat->Nat):∀ l:List SV,(Dp f l).length=l.length
 |[]=>rfl
 |_::l=>by simp[Dp,tx1 f l]
theorem tv1 (f:Nat->Nat):∀ (l:List SV)(i:Nat),(Dp f l)[i]?=(l[i]?).map (Kv f)
 |[],i=>by simp[Dp]
 |s::l,0=>by simp[Dp]
 |s::l,i+1=>by simp[Dp,tv1 f l i]
mutual
theorem TF {c c':Cx}{f:Nat->Nat}(hF:c'.F=c.F)(hN:∀ r,r<c.N->f r<c'.N)(hθ:∀ r,r<c.N->c'.θ (f r)=c.θ r):∀ {s:SV}{u:Value},Rel c s u->Rel c' (Kv f s) u
 | .d d,u,h=>by cases h with|d h=>exact .d (by rw[hF];exact h)
 | .fp ds,u,h=>by cases h with|fp h1 h2=>exact .fp (by rw[hF];exact h1) (by rw[hF];exact h2)
 | .top,u,h=>.top u
 | .agg cs,u,h=>by
  obtain⟨us,rfl,h2⟩:=Rel.tH.1 h;exact Rel.tH.2 ⟨us,rfl,VE hF hN hθ h2⟩
 | .dO cs,u,h=>by
  obtain⟨us,rfl,h2⟩:=Rel.yD.1 h;exact Rel.yD.2 ⟨us,rfl,VE hF hN hθ h2⟩
 | .clo fn fs cs,u,h=>by
  obtain⟨us,vs,rfl,h2,h3⟩:=Rel.Ag.1 h;exact Rel.Ag.2 ⟨us,vs,rfl,VE hF hN hθ h2,VE hF hN hθ h3⟩
 | .ptr r off,u,h=>by cases h with|ptr h1 h2=>exact .ptr (hN _ h1) (by rw[hθ _ h1];exact h2)
 | .hd r,u,h=>by cases h with|hd h1 h2=>exact .hd (hN _ h1) (by rw[hθ _ h1];exact h2)
 | .rp r sz i j,u,h=>by cases h with|rp h1 h2=>exact .rp (hN _ h1) (by rw[hθ _ h1];exact h2)
 | .rs r sz i,u,h=>by cases h with|rs h1 h2=>exact .rs (hN _ h1) (by rw[hθ _ h1];exact h2)
theorem VE {c c':Cx}{f:Nat->Nat}(hF:c'.F=c.F)(hN:∀ r,r<c.N->f r<c'.N)(hθ:∀ r,r<c.N->c'.θ (f r)=c.θ r):∀ {l:List SV}{us:List Value},dP c l us->dP c' (Dp f l) us
 |[],us,h=>by rw[dP.CG.1 h];exact .nil
 |s::l,us,h=>by
  obtain⟨u,us',rfl,h1,h2⟩:=dP.xE.1 h;exact .cons (TF hF hN hθ h1) (VE hF hN hθ h2)
end
def xH (own:List ak):List Nat->List ak->List ak
 |r::q,x::l=>xH (nC own r x) q l
 |_,_=>own
theorem mp0 : ∀ (q:List Nat)(l:List ak)(own:List ak),(xH own q l).length=own.length
 |[],_,own=>by simp[xH]
 |_::_,[],own=>by simp[xH]
 |r::q,x::l,own=>by rw[xH,mp0 q l,yF,List.length_set]
theorem mg0 : ∀ (q:List Nat)(l:List ak)(own:List ak)(r:Nat),r ∉ q->(xH own q l)[r]?=own[r]?
 |[],_,own,r,_=>by simp[xH]
 |_::_,[],own,r,_=>by simp[xH]
 |a::q,x::l,own,r,h=>by
  rw[xH,mg0 q l _ r (fun hm=>h (zB _ hm)),yF,List.getElem?_set_ne];exact fun e=>h (e▸List.mem_cons_self ..)
theorem yw1 : ∀ (q:List Nat)(l:List ak)(own:List ak)(i r:Nat),q.Nodup->q.length<=l.length->q[i]?=some r->r<own.length->(xH own q l)[r]?=l[i]?
 |[],_,own,i,r,_,_,h,_=>by simp at h
 |a::q,[],own,i,r,_,hl,_,_=>by simp at hl
 |a::q,x::l,own,i,r,hnd,hl,h,hr=>by
  obtain⟨h1,h2⟩:=List.nodup_cons.1 hnd
  cases i with
  |zero =>
   simp at h;subst h;rw[xH,mg0 q l _ a h1,yF];simp[hr]
  |succ i =>
   rw[xH,yw1 q l _ i r h2 (by simpa using hl) (by simpa using h) (by rw[yF,List.length_set];exact hr)];simp
def xg (q:List Nat)(n h:Nat):Nat:=match q[h]? with|some r=>r|none=>n+(h - q.length)
theorem Sat.Eu {c:Cx}{own own':List ak}{w:World}{p:List Nat}(hS:Sat c own w)(hnd:N8 p own')(hlt:∀ r∈p,r<own.length)(hO:Gv own p p own'):Sat (c.ren p) own' w:=by
 have hp:∀ r∈p,r<c.N:=fun r hr=>by rw[<- hS.n];exact hlt r hr
 obtain⟨hol,hog⟩:=Q5 hO;have hres:∀ (i:Nat) x',own'[i]?=some x'->∃ r x,p[i]?=some r/\own[r]?=some x/\(c.ren p).θ i=c.θ r/\Am own p x' x:=fun i x' hi=>by
  obtain⟨r,h1,h2⟩:=hog i x' hi;have hr:r<own.length:=hlt r (qL h1);exact⟨r,own[r],h1,by simp[hr],by simp[Cx.ren,h1],by rw[nV,qD hr] at h2;exact h2⟩
 have hlive:∀ x' x,Am own p x' x->x'.live=true->x.live=true:=fun x' x h hl=>by
  unfold Am at h;split at h<;>first|(simp[ak.live] at hl;done)|rfl|exact h.elim
 refine⟨by simp[Cx.ren,hol],?_,?_,?_,hS.le,?_,hS.tab⟩
 ·intro i x' hi;obtain⟨r,x,h1,h2,h3,h4⟩:=hres i x' hi;rw[h3];have hx:=hS.res r x h2;unfold Am at h4;split at h4
  ·trivial
  ·subst h4;exact hx
  ·obtain⟨rfl,rfl,rfl⟩:=h4;exact hx
  ·rename_i cs' ty' cs ty;obtain⟨rfl,h4⟩:=h4;obtain⟨b,us,k1,k2,k3,k4⟩:=hx;refine⟨b,us,k1,k2,by rw[k3,QY h4],fun j s hj=>?_⟩;obtain⟨s0,m1,m2⟩:=LP h4 j s hj;obtain⟨u,n1,n2,n3⟩:=k4 j s0 m1;exact⟨u,n1,n2,Kz hS hp m2 n3⟩
  ·subst h4;exact Ry hp (s':=.fp _) rfl hx
  ·obtain⟨rfl,rfl,rfl⟩:=h4;exact hx
  ·rename_i mk' es' mk es;obtain⟨rfl,hk,h4⟩:=h4;obtain⟨b,ms,clock,k1,k2,k3,k4⟩:=hx;have hl:es'.length=es.length:=by have:=congrArg List.length hk;simpa using this
   refine⟨b,ms,clock,k1,k2,by rw[hl];exact k3,fun j k s hj=>?_⟩;obtain⟨s0,m1,m2⟩:=LP h4 j s (by rw[qF,hj];rfl);rw[qF,Option.map_eq_some_iff] at m1;obtain⟨⟨k',s0'⟩,q1,rfl⟩:=m1;have hkk:k'=k:=by
    have:=congrArg (fun l=>l[j]?) hk;simp only[qF,hj,q1,zH,zI] at this;exact this.symm
   subst hkk;obtain⟨n1,m,n2,n3,n4⟩:=k4 j k' s0' q1;exact⟨n1,m,n2,n3,Kz hS hp m2 n4⟩
  ·exact h4.elim
 ·intro i j x y b hi hj UA hlj hbi hbj;obtain⟨r,x0,h1,h2,h3,h4⟩:=hres i x hi;obtain⟨s,y0,k1,k2,k3,k4⟩:=hres j y hj;rw[h3] at hbi;rw[k3] at hbj;have:=hS.apart r s x0 y0 b h2 k2 (hlive _ _ h4 UA) (hlive _ _ k4 hlj) hbi hbj;subst this;exact hnd i j r x y h1 k1 hi hj UA hlj
 ·intro i x b hi hl hb;obtain⟨r,x0,h1,h2,h3,h4⟩:=hres i x hi;rw[h3] at hb;exact hS.iw r x0 b h2 (hlive _ _ h4 hl) hb
 ·intro r;simp only[Cx.ren];split
  ·exact hS.one _
  ·rfl
theorem Sat.ren {c:Cx}{own own':List ak}{w:World}{p:List Nat}(hS:Sat c own w)(hnd:p.Nodup)(hlt:∀ r∈p,r<own.length)(hO:Gv own p p own'):Sat (c.ren p) own' w:=hS.Eu (N8.of hnd own') hlt hO
theorem Xa {c:Cx}{own own':List ak}{p:List Nat}(hlt:∀ r∈p,r<own.length)(hO:Gv own p p own'){b:Nat}(h:Own (c.ren p) own' b):∃ r x,r∈p/\own[r]?=some x/\x.live=true/\jA (c.θ r)=some b:=by
 obtain⟨hol,hog⟩:=Q5 hO;obtain⟨i,x',hi,hl,hb⟩:=h;obtain⟨r,h1,h2⟩:=hog i x' hi;have hr:r<own.length:=hlt r (qL h1);rw[nV,qD hr] at h2;refine⟨r,own[r],qL h1,by simp[hr],?_,by simpa [Cx.ren,h1] using hb⟩;simp only[Option.getD_some] at h2;unfold Am at h2;split at h2<;>first|(simp[ak.live] at hl;done)|assumption|(rename_i e1 e2;rw[e2];rfl)|exact h2.elim
theorem dX.embed {P:Program}{fn:FuncId}{own dG:List ak}{args oP:List SV}{K0:SV->List ak->Prop}(q:List Nat)(h:dX P fn dG oP K0)(hnd:q.Nodup)(hlt:∀ r∈q,r<own.length)(hO:Gv own q q dG)(hA:Gw own q oP args) :
  dX P fn own args (fun sv own'=>∃ sv0 jo,K0 sv0 jo/\q.length<=jo.length/\sv=Kv (xg q own.length) sv0/\own'=xH own q (jo.map (G5 (xg q own.length)))++(jo.drop q.length).map (G5 (xg q own.length))):=by
 refine⟨h.1,fun c w us hS hr=>?_⟩;have hp:∀ r∈q,r<c.N:=fun r hr=>by rw[<- hS.n];exact hlt r hr
 have hS0:=hS.ren hnd hlt hO;have hr0:dP (c.ren q) oP us:=⟨by rw[hr.1,QY hA],fun i s u h1 h2=>by
  obtain⟨s0,m1,m2⟩:=LP hA i s h1;exact Kz hS hp m2 (hr.2 i s0 u m1 h2)⟩
 refine(h.2 (c.ren q) w us hS0 hr0).mono ?_;rintro e w' ⟨c1,dK,sv,u,rfl,h2,h3,h4,h5,h6⟩
 let n:=own.length
 let m:=q.length
 let f:=xg q n
 have hn:c.N=n:=hS.n.symm;have hm:(c.ren q).N=m:=rfl;have hm1:m<=c1.N:=by rw[<- hm];exact h4.n
 have hown0:∀ b,Own (c.ren q) dG b->Own c own b:=fun b hb=>by
  obtain⟨r,x,_,k1,k2,k3⟩:=Xa hlt hO hb;exact⟨r,x,k1,k2,k3⟩
 have hout:∀ (r:Nat) x b,r ∉ q->own[r]?=some x->x.live=true->jA (c.θ r)=some b->¬ Own (c.ren q) dG b:=fun r x b hrq hx hl hb ho=>by
  obtain⟨s,y,k0,k1,k2,k3⟩:=Xa hlt hO ho;exact hrq (hS.apart r s x y b hx k1 hl k2 hb k3▸k0)
 let c2:Cx:={ θ:=fun r=>if r<n then c.θ r else c1.θ (r - n+m),F:=c1.F,N:=n+(c1.N - m) }
 have mZ:∀ r,r<n->c2.θ r=c.θ r:=fun r hr=>by simp[c2,hr]
 have UF:∀ h,(∃ r,q[h]?=some r/\f h=r)\/(m<=h/\f h=n+(h - m)):=fun h=>by
  simp only[f,xg]
  cases hq:q[h]? with
  |some r=>exact .inl ⟨r,rfl,rfl⟩
  |none=>exact .inr ⟨by simpa using hq,rfl⟩
 have XT:∀ h,h<c1.N->f h<c2.N:=fun h hh=>by
  rcases UF h with ⟨r,hq,e⟩|⟨hmh,e⟩
  ·rw[e];have:=hlt r (qL hq);simp only[c2];omega
  ·rw[e];simp only[c2];omega
 have wu:∀ h,h<c1.N->c2.θ (f h)=c1.θ h:=fun h hh=>by
  rcases UF h with ⟨r,hq,e⟩|⟨hmh,e⟩
  ·have hhm:h<m:=(qA.1 hq).1;rw[e,mZ r (hlt r (qL hq)),h4.t h (by rw[hm];exact hhm)];simp[Cx.ren,hq]
  ·rw[e];simp only[c2];rw[if_neg (by omega)];congr 1;omega
 have hle:c.le c2:=⟨by rw[hn];exact Nat.le_add_right _ _,fun r hr=>mZ r (by rw[<- hn];exact hr),h5.f⟩;have hl1:dK.length=c1.N:=h3.n;have hget:∀ (r:Nat) x,(xH own q (dK.map (G5 f))++(dK.drop m).map (G5 f))[r]?=some x->(r<n/\r ∉ q/\own[r]?=some x)\/∃ h y,h<c1.N/\r=f h/\dK[h]?=some y/\x=G5 f y:=fun r x hx=>by
  rw[List.getElem?_append,mp0] at hx;split at hx
  ·rename_i hrn;by_cases hrq:r∈q
   ·obtain⟨i,hi⟩:=List.getElem?_of_mem hrq;have him:i<m:=(qA.1 hi).1;rw[yw1 q _ own i r hnd (by rw[qY,hl1];exact hm1) hi hrn,qF,Option.map_eq_some_iff] at hx;obtain⟨y,hy,rfl⟩:=hx;refine .inr ⟨i,y,by omega,?_,hy,rfl⟩;simp[f,xg,hi]
   ·rw[mg0 q _ own r hrq] at hx;exact .inl ⟨hrn,hrq,hx⟩
  ·rename_i hge;rw[qF,Option.map_eq_some_iff] at hx;obtain⟨y,hy,rfl⟩:=hx;rw[List.getElem?_drop] at hy;have hlt1:=(qA.1 hy).1;refine .inr ⟨m+(r - n),y,by rw[<- hl1];exact hlt1,?_,hy,rfl⟩;have hq:q[m+(r - n)]?=none:=by rw[List.getElem?_eq_none_iff];omega
   simp only[f,xg,hq];omega
 have hlive:∀ y,(G5 f y).live=y.live:=fun y=>by cases y<;>rfl
 have hkeep:∀ b,b<w.heap.size->¬ Own (c.ren q) dG b->w'.heap[b]?=w.heap[b]?:=h5.keep;have J6:∀ b,c1.F b≠none->c.F b≠none\/w.heap.size<=b\/Own (c.ren q) dG b:=h5.newF;refine⟨c2,_,Kv f sv,u,rfl,TF (c:=c1) (c':=c2) rfl XT wu h2,⟨?_,?_,?_,?_,?_,?_,h3.tab⟩,hle,⟨h5.os,h5.tape,h5.output,h5.size,fun b hb hno=>hkeep b hb (fun ho=>hno (hown0 b ho)),fun b hb=>?_,?_,h5.f⟩,sv,dK,h6,by rw[hl1];exact hm1,rfl,rfl⟩
 ·rw[qN,mp0,qY,List.length_drop,hl1]
 ·intro r x hx;rcases hget r x hx with ⟨hr,hrq,hx⟩|⟨h,y,hh,rfl,hy,rfl⟩
  ·rw[mZ r hr];exact(hS.res r x hx).keep hle fun hl b hb=>hkeep b (hS.xI ⟨r,x,hx,hl,hb⟩) (hout r x b hrq hx hl hb)
  ·rw[wu h hh];have:=h3.res h y hy
   cases y with
   |gone=>trivial
   |fz es=>exact this
   |wz ds=>exact TF (c:=c1) (c':=c2) (f:=f) (s:=.fp ds) rfl XT wu this
   |row ty sz es=>exact this
   |mp mk agg es=>exact this
   |kC mk es =>
    obtain⟨b,ms,clock,k1,k2,k3,k4⟩:=this;refine⟨b,ms,clock,k1,k2,by rw[qY];exact k3,fun i k s hi=>?_⟩;rw[qF,Option.map_eq_some_iff] at hi;obtain⟨⟨k',s0⟩,hs0,e⟩:=hi;cases e;obtain⟨n1,m,n2,n3,n4⟩:=k4 i k' s0 hs0;exact⟨n1,m,n2,n3,TF (c:=c1) (c':=c2) rfl XT wu n4⟩
   |cells cs ty =>
    obtain⟨b,us,k1,k2,k3,k4⟩:=this;refine⟨b,us,k1,k2,by rw[tx1];exact k3,fun i s hi=>?_⟩;rw[tv1,Option.map_eq_some_iff] at hi;obtain⟨s0,hs0,rfl⟩:=hi;obtain⟨u,m1,m2,m3⟩:=k4 i s0 hs0;exact⟨u,m1,m2,TF (c:=c1) (c':=c2) rfl XT wu m3⟩
 ·have mixed:∀ (r:Nat) x b,r<n->r ∉ q->own[r]?=some x->x.live=true->jA (c.θ r)=some b->∀ (h:Nat) y,dK[h]?=some y->y.live=true->jA (c1.θ h)=some b->False:=fun r x b hr hrq hx hl hb h y hy eU hby=>by
   have h1:=hS.xI ⟨r,x,hx,hl,hb⟩;rcases h5.jR b ⟨h,y,hy,eU,hby⟩ with h2|h2
   ·exact hout r x b hrq hx hl hb h2
   ·omega
  intro r s x y b hx hy hlx eU hbx hby
  rcases hget r x hx with ⟨hr,hrq,hx⟩|⟨h,x',hh,rfl,hx',rfl⟩
  ·rw[mZ r hr] at hbx;rcases hget s y hy with ⟨hs,hsq,hy⟩|⟨h',y',hh',rfl,hy',rfl⟩
   ·rw[mZ s hs] at hby
    exact hS.apart r s x y b hx hy hlx eU hbx hby
   ·rw[wu h' hh'] at hby
    exact(mixed r x b hr hrq hx hlx hbx h' y' hy' (by rw[<- hlive];exact eU) hby).elim
  ·rw[wu h hh] at hbx;rcases hget s y hy with ⟨hs,hsq,hy⟩|⟨h',y',hh',rfl,hy',rfl⟩
   ·rw[mZ s hs] at hby
    exact(mixed s y b hs hsq hy eU hby h x' hx' (by rw[<- hlive];exact hlx) hbx).elim
   ·rw[wu h' hh'] at hby
    rw[h3.apart h h' x' y' b hx' hy' (by rw[<- hlive];exact hlx) (by rw[<- hlive];exact eU) hbx hby]
 ·intro r x b hx hl hb;rcases hget r x hx with ⟨hr,hrq,hx⟩|⟨h,y,hh,rfl,hy,rfl⟩
  ·rw[mZ r hr] at hb;have h0:=hS.iw r x b hx hl hb;show c1.F b=none
   cases hc:c1.F b with
   |none=>rfl
   |some o =>
    rcases J6 b (by simp[hc]) with k|k|k
    ·exact absurd h0 k
    ·have:=hS.xI ⟨r,x,hx,hl,hb⟩;omega
    ·exact(hout r x b hrq hx hl hb k).elim
  ·rw[wu h hh] at hb;exact h3.iw h y b hy (by rw[<- hlive];exact hl) hb
 ·exact h3.le
 ·intro r;simp only[c2];split
  ·exact hS.one r
  ·exact h3.one _
 ·rcases J6 b hb with k|k|k
  ·exact .inl k
  ·exact .inr (.inl k)
  ·exact .inr (.inr (hown0 b k))
 ·rintro b ⟨r,x,hx,hl,hb⟩;rcases hget r x hx with ⟨hr,hrq,hx⟩|⟨h,y,hh,rfl,hy,rfl⟩
  ·rw[mZ r hr] at hb;exact .inl ⟨r,x,hx,hl,hb⟩
  ·rw[wu h hh] at hb;rcases h5.jR b ⟨h,y,hy,by rw[<- hlive];exact hl,hb⟩ with k|k
   ·exact .inl (hown0 b k)
   ·exact .inr k
theorem dV.xg {P:Program}{fn:FuncId}{own dG:List ak}{args oP:List SV}{K K0:SV->List ak->Prop}(q:List Nat)(h:dX P fn dG oP K0)(hm:mt q args own oP dG)
  (hK:∀ sv0 jo,K0 sv0 jo->q.length<=jo.length->K (Kv (Go.SX.xg q own.length) sv0) (xH own q (jo.map (G5 (Go.SX.xg q own.length)))++(jo.drop q.length).map (G5 (Go.SX.xg q own.length)))):dV P fn own args K:=by
 unfold Go.SX.mt at hm;split at hm
 ·rename_i hp;obtain⟨h1,h2⟩:=Lr hm;obtain⟨h3,_⟩:=Qd h2;exact .own (h.embed q (Qi hp) (Qg hp) h3 h1) fun sv own' ⟨sv0,jo,k1,k2,k3,k4⟩=>by subst k3;subst k4;exact hK _ _ k1 k2
 ·exact hm.elim
def RS : List Nat->Nat->Nat->Bool
 |[],k,n0=>Nat.ble n0 k
 |r::l,k,n0=>Nat.ble n0 k||(Nat.beq r k&&RS l (k+1) n0)
theorem WV : ∀ (l:List Nat)(k n0:Nat),RS l k n0=true->∀ r,k<=r->r<n0->l[r - k]?=some r
 |[],k,n0,h,r,h1,h2=>by
  have:=Nat.le_of_ble_eq_true (show Nat.ble n0 k=true from h);omega
 |a::l,k,n0,h,r,h1,h2=>by
  simp only[RS,Bool.or_eq_true,qK] at h;rcases h with h|⟨ha,h⟩
  ·have:=Nat.le_of_ble_eq_true h;omega
  ·have ha:=vY ha;rcases Nat.lt_or_ge k r with hk|hk
   ·have:=WV l (k+1) n0 h r hk h2;have e:r - k=(r - (k+1))+1:=by omega
    rw[e,List.getElem?_cons_succ];exact this
   ·have:r=k:=by omega
    subst this;subst ha;simp
noncomputable def JK (n0:Nat)(p:List Nat)(env:List SV)(own:List ak)(env':List SV)(own':List ak):Prop :=
 match LU p own.length&&RS p 0 n0 with
 |true=>RY own p env' env (fun _=>Xv own p p own' (fun _=>True))
 |false=>False
theorem jM.JK {n0:Nat}{env env':List SV}{own own':List ak}(p:List Nat)(h:JK n0 p env own env' own'):jM n0 env own env' own':=by
 unfold Go.SX.JK at h;split at h
 ·rename_i hp;rw[qK] at hp;obtain⟨h1,h2⟩:=Lr h;obtain⟨h3,_⟩:=Qd h2;exact .mk p (Qi hp.1) (Qg hp.1) (fun r hr=>by have:=WV p 0 n0 hp.2 r (Nat.zero_le _) hr;simpa using this) h1 h3
 ·exact h.elim
theorem dX.oc2 {P:Program}{f:FuncId}{df:I9}{own:List ak}{args:List SV}{s:SV}(hf:fD P f=some df)(hs:s.closed=true)
  (h:∀ K:SV->List ak->Prop,(∀ sv own',FX (CV own' sv) sv=s->K sv own')->wpC P own.length df.code (pad df.ntmps args) own (Dc df.res K)) :
  dX P f own args (fun sv own'=>sv=s/\own'=own.map (fun _=>ak.gone)):=by
 have h1:dX P f own args (fun sv own'=>FX (CV own' sv) sv=s):=id0 hf (h _ fun _ _ h=>h);have h2:dX P f own args (fun sv own'=>sv=s):=h1.data fun _ _ h=>h
 refine⟨h2.1,fun c w us hS hr=>(h2.2 c w us hS hr).mono ?_⟩;rintro e w' ⟨c',own',sv,u,rfl,k2,k3,k4,k5,rfl⟩;have hN:own.length<=own'.length:=by rw[hS.n,k3.n];exact k4.n
 have hlen:(own.map (fun _=>ak.gone)).length=c.N:=by rw[qY];exact hS.n
 have BM:∀ (r:Nat) x,(own.map (fun _=>ak.gone))[r]?=some x->x=.gone:=fun r x hx=>by
  rw[qF,Option.map_eq_some_iff] at hx;obtain⟨_,_,rfl⟩:=hx;rfl
 refine⟨{ θ:=c.θ,F:=c'.F,N:=c.N },_,sv,u,rfl,mo0 (c:=c') (c':={ θ:=c.θ,F:=c'.F,N:=c.N }) (fun _ _ h=>h) hs k2,
  ⟨hlen,fun r x hx=>by rw[BM r x hx];trivial,fun r q x y b hx hy hl=>by rw[BM r x hx] at hl;simp[ak.live] at hl,fun r x b hx hl=>by rw[BM r x hx] at hl;simp[ak.live] at hl,k3.le,hS.one,k3.tab⟩,
  ⟨qR _,fun _ _=>rfl,k4.f⟩,⟨k5.os,k5.tape,k5.output,k5.size,k5.keep,k5.newF,?_,k5.f⟩,rfl,rfl⟩
 rintro b ⟨r,x,hx,hl,_⟩;rw[BM r x hx] at hl;simp[ak.live] at hl
end Go.SX
