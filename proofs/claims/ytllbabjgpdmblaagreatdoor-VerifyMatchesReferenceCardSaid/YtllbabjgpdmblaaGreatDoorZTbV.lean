/- Parts of the proof. -/
import Derived.Test.YtllbabjgpdmblaaGreatDoorZTbU
set_option linter.unusedSimpArgs false
set_option linter.unusedVariables false
set_option linter.unusedSectionVars false
namespace Tb
def Lx (a:Nat)(f g:Fa):Prop:=∃ n,a<=n/\n<10/\(∀ j,a<=j->j<n->f j=g j)/\f n<g n
def KD (L:Ac)(a:Nat)(f:Fa):Prop:=∀ j,a<=j->j<10->L.lo j<=f j/\f j<=L.hi j
theorem le_max : ∀ (l:List Int),l≠[]->∃ m∈l,∀ x∈l,x<=m
 |[],h=>absurd rfl h
 |[x],_=>⟨x,by simp,by simp⟩
 |x::y::l,_=>by
  obtain⟨m,h1,h2⟩:=le_max (y::l) (by simp);by_cases h:x<=m
  ·exact⟨m,List.mem_cons_of_mem _ h1,fun z hz=>by
    rcases List.mem_cons.1 hz with rfl|hz
    ·exact h
    ·exact h2 z hz⟩
  ·exact⟨x,by simp,fun z hz=>by
    rcases List.mem_cons.1 hz with rfl|hz
    ·omega
    ·have:=h2 z hz;omega⟩
theorem Zt : ∀ {C:List Int}{c v:Int},c<=v->(∀ d∈C,d<=v->d<=c)->iK C c=iK C v
 |[],_,_,_,_=>rfl
 |d::C,c,v,h,hd=>by
  have ih:=Zt (C:=C) h fun e he=>hd e (List.mem_cons_of_mem _ he)
  have h1:=hd d (by simp);simp only[iK];by_cases h2:d<=c
  ·rw[if_pos h2,if_pos (by omega),ih]
  ·rw[if_neg h2,if_neg (by omega)]
section
variable {δ:Type}[Inhabited δ][DecidableEq δ](L:Ac)(p:iC δ)(D:List Nat->δ)(t:Tab δ)
def fG (a x:Nat)(v:Int):Nat:=if (t.nd x).kids≠[]/\(t.nd x).attr=a then (t.nd x).kids.getD (iK (t.nd x).cuts v) 0 else x
def D7 (a:Nat)(live:List Nat)(x:Nat)(g:Fa):Prop:=sem p D a live g≠t.val g x
def YI (a:Nat)(live:List Nat)(x:Nat):Prop:=∀ f,KD L a f->¬ D7 p D t a live x f
structure VP (a:Nat)(live:List Nat)(x:Nat)(facts g:Fa):Prop where
 pre:∀ j,j<a->g j=facts j
 win:KD L a g
 dif:D7 p D t a live x g
 least:∀ f,KD L a f->Lx a f g->¬ D7 p D t a live x f
def Oa (a:Nat)(live:List Nat)(x:Nat)(c:Int):Prop :=
 c=L.lo a\/((∃ z∈live,c=p.lo z a\/c=p.hi z a+1)\/((t.nd x).kids≠[]/\(t.nd x).attr=a/\c∈(t.nd x).cuts))/\L.lo a<c/\c<=L.hi a
variable {L p D t}
theorem Wh : ∀ {C:List Int}{lo hi c:Int},Asc lo hi C->c∈C->lo<c/\c<=hi
 |d::C,lo,hi,c,h,hc=>by
  obtain⟨h1,h2,h3⟩:=h;rcases List.mem_cons.1 hc with rfl|hc
  ·exact⟨h1,h2⟩
  ·have:=Wh h3 hc;omega
theorem TA (h:t.Ok L){a x:Nat}(hx:x<t.ns.length)(hl:a<=aT (t.nd x))(ha:a<10)(v:Int):fG t a x v<t.ns.length/\a+1<=aT (t.nd (fG t a x v)):=by
 unfold fG;split
 ·rename_i hk;obtain⟨_,hm⟩:=FI h hx hk.1 v;obtain⟨k1,k2⟩:=(h.fine x hx).kid _ hm;exact⟨k1,by omega⟩
 ·rename_i hk;refine⟨hx,?_⟩;unfold aT at hl ⊢;split
  ·omega
  ·rename_i h0;rw[if_neg h0] at hl;have:(t.nd x).attr≠a:=fun e=>hk ⟨h0,e⟩
   omega
theorem mz1 (h:t.Ok L){a x:Nat}(hx:x<t.ns.length)(g:Fa):t.val g x=t.val g (fG t a x (g a)):=by
 unfold fG;split
 ·rename_i hk;rw[Rz h hx hk.1,hk.2]
 ·rfl
theorem YR (h:t.Ok L){a x:Nat}(ha:a<10)(hx:x<t.ns.length)(live:List Nat)(g:Fa) :
  D7 p D t a live x g↔D7 p D t (a+1) (live.filter fun z=>p.at z a (g a)) (fG t a x (g a)) g:=by
 unfold D7;rw[gk1 ha,mz1 h hx g (a:=a)]
theorem gg1 (h:t.Ok L){a x:Nat}(hx:x<t.ns.length){live:List Nat}{c v:Int}(hcv:c<=v)(hc:L.lo a<=c)(hv:v<=L.hi a)(hg:∀ d,Oa L p t a live x d->d<=v->d<=c) :
  (live.filter fun z=>p.at z a c)=(live.filter fun z=>p.at z a v)/\fG t a x c=fG t a x v:=by
 constructor
 ·refine List.filter_congr fun z hz=>?_
  unfold iC.at;rw[Bool.eq_iff_iff,decide_eq_true_eq,decide_eq_true_eq]
  constructor
  ·rintro ⟨h1,h2⟩;refine⟨by omega,Classical.byContradiction fun h3=>?_⟩;have:=hg (p.hi z a+1) (.inr ⟨.inl ⟨z,hz,.inr rfl⟩,by omega,by omega⟩) (by omega);omega
  ·rintro ⟨h1,h2⟩;by_cases h3:L.lo a<p.lo z a
   ·have:=hg (p.lo z a) (.inr ⟨.inl ⟨z,hz,.inl rfl⟩,h3,by omega⟩) h1;omega
   ·omega
 ·unfold fG;split
  ·rename_i hk;rw[Zt hcv fun d hd hdv=>?_];obtain⟨_,_,_,_,hasc⟩:=(h.fine x hx).inner hk.1;have hd':=Wh hasc hd;rw[hk.2] at hd';exact hg d (.inr ⟨.inr ⟨hk.1,hk.2,hd⟩,hd'⟩) hdv
  ·rfl
theorem wl1 {a x:Nat}{live:List Nat}{l:List Int}(hm:∀ c,c∈l↔Oa L p t a live x c){v:Int}(h1:L.lo a<=v):∃ c∈l,c<=v/\∀ c'∈l,c'<=v->c'<=c:=by
 obtain⟨m,k1,k2⟩:=le_max (l.filter fun c=>decide (c<=v)) (by
  intro h;have:L.lo a∈l.filter fun c=>decide (c<=v):=List.mem_filter.2 ⟨(hm _).2 (.inl rfl),by simpa using h1⟩
  rw[h] at this;simp at this)
 obtain⟨k3,k4⟩:=List.mem_filter.1 k1;exact⟨m,k3,by simpa using k4,fun c' h2 h3=>k2 c' (List.mem_filter.2 ⟨h2,by simpa using h3⟩)⟩
theorem ZV (hL:L.Ok){a x:Nat}{live:List Nat}{c:Int}(h:Oa L p t a live x c):L.lo a<=c/\c<=L.hi a:=by
 rcases h with rfl|⟨_,h1,h2⟩
 ·exact⟨Int.le_refl _,hL a⟩
 ·omega
theorem gc2 (hL:L.Ok)(h:t.Ok L){a x:Nat}(ha:a<10)(hx:x<t.ns.length){live:List Nat}{l:List Int}(hm:∀ c,c∈l↔Oa L p t a live x c)
  (hb:∀ c∈l,YI L p D t (a+1) (live.filter fun z=>p.at z a c) (fG t a x c)):YI L p D t a live x:=by
 intro f hw hg;obtain⟨k1,k2⟩:=hw a (Nat.le_refl _) ha;obtain⟨c,h1,h2,h3⟩:=wl1 hm k1;obtain⟨s1,s2⟩:=gg1 h hx (v:=f a) h2 (ZV hL ((hm c).1 h1)).1 k2 fun c' hc=>h3 c' ((hm c').2 hc)
 rw[YR h ha hx,<- s1,<- s2] at hg;exact hb c h1 f (fun j j1 j2=>hw j (by omega) j2) hg
theorem gm2 (hL:L.Ok)(h:t.Ok L){a x:Nat}(ha:a<10)(hx:x<t.ns.length){live:List Nat}{l:List Int}(hm:∀ c,c∈l↔Oa L p t a live x c){n:Int}{facts facts' g:Fa}(hn:n∈l)
  (hb:∀ c∈l,c<n->YI L p D t (a+1) (live.filter fun z=>p.at z a c) (fG t a x c))
  (hp:∀ j,j<a->facts' j=facts j) (hpn:facts' a=n) (hf:VP L p D t (a+1) (live.filter fun z=>p.at z a n) (fG t a x n) facts' g):VP L p D t a live x facts g:=by
 have hga:g a=n:=(hf.pre a (Nat.lt_succ_self _)).trans hpn;refine⟨fun j hj=>(hf.pre j (by omega)).trans (hp j hj),fun j h1 h2=>?_,?_,fun f hw hl hg=>?_⟩
 ·by_cases hj:j=a
  ·subst hj;rw[hga];exact ZV hL ((hm n).1 hn)
  ·exact hf.win j (by omega) h2
 ·rw[YR h ha hx,hga];exact hf.dif
 ·have hw':KD L (a+1) f:=fun j j1 j2=>hw j (by omega) j2
  obtain⟨k1,k2⟩:=hw a (Nat.le_refl _) ha;rw[YR h ha hx] at hg;obtain⟨m,m1,m2,m3,m4⟩:=hl;by_cases hma:m=a
  ·subst hma;rw[hga] at m4;obtain⟨c,h1,h2,h3⟩:=wl1 hm k1;obtain⟨s1,s2⟩:=gg1 h hx (v:=f m) h2 (ZV hL ((hm c).1 h1)).1 k2 fun c' hc=>h3 c' ((hm c').2 hc)
   rw[<- s1,<- s2] at hg;exact hb c h1 (by omega) f hw' hg
  ·have hfa:f a=n:=by rw[m3 a (Nat.le_refl _) (by omega),hga]
   rw[hfa] at hg;exact hf.least f hw' ⟨m,by omega,m2,fun j j1 j2=>m3 j (by omega) j2,m4⟩ hg
theorem OQ (h:t.Ok L){x:Nat}(hx:x<t.ns.length)(hl:10<=aT (t.nd x)):(t.nd x).kids=[]:=by
 unfold aT at hl;split at hl
 ·rename_i h0;exact h0
 ·rename_i h0;have:=((h.fine x hx).inner h0).1;omega
theorem tg1 (h:t.Ok L){x:Nat}(hx:x<t.ns.length)(hl:10<=aT (t.nd x)){live:List Nat}{g:Fa}:D7 p D t 10 live x g↔D live≠t.ls.getD (t.nd x).leaf default:=by
 unfold D7;rw[nb1,Ko (OQ h hx hl)]
theorem kn2 {x:Nat}{live:List Nat}{facts:Fa}(h:D7 p D t 10 live x facts):VP L p D t 10 live x facts facts :=
 ⟨fun _ _=>rfl,fun j h1 h2=>by omega,h,fun f _ hl=>by obtain⟨n,h1,h2,_⟩:=hl;omega⟩
end
end Tb
