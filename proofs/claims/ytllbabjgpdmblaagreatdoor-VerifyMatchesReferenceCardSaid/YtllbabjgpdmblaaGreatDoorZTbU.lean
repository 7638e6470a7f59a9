/- Parts of the proof. -/
set_option linter.unusedSimpArgs false
set_option linter.unusedVariables false
set_option linter.unusedSectionVars false
namespace Tb
theorem Vw {α:Type}{l:List α}(h:l.Nodup){i j:Nat}(hi:i<l.length)(hj:j<l.length)(he:l[i]=l[j]):i=j:=by
 have:=List.pairwise_iff_getElem.1 h;rcases Nat.lt_trichotomy i j with h1|h1|h1
 ·exact absurd he (this i j hi hj h1)
 ·exact h1
 ·exact absurd he.symm (this j i hj hi h1)
inductive Ci {α β:Type} (R:α->β->Prop):List α->List β->Prop
 |nil:Ci R [] []
 |cons {a b l l'}:R a b->Ci R l l'->Ci R (a::l) (b::l')
structure Nd where
 attr:Nat
 cuts:List Int
 kids:List Nat
 leaf:Nat
deriving DecidableEq, Inhabited
structure Ac where
 lo:Nat->Int
 hi:Nat->Int
abbrev Fa := Nat->Int
def Ac.In (L:Ac)(g:Fa):Prop:=∀ a,a<10->L.lo a<=g a/\g a<=L.hi a
def upd (g:Fa)(a:Nat)(v:Int):Fa:=fun b=>if b=a then v else g b
def iK : List Int->Int->Nat
 |[],_=>0
 |c::l,v=>if c<=v then iK l v+1 else 0
def Asc : Int->Int->List Int->Prop
 |_,_,[]=>True
 |lo,hi,c::l=>lo<c/\c<=hi/\Asc c hi l
def xC {S:Type}:List S->Prop
 |a::b::l=>a≠b/\xC (b::l)
 |_=>True
theorem Ky : ∀ (C:List Int)(lo hi v:Int),Asc lo hi C->v<=lo->iK C v=0
 |[],_,_,_,_,_=>rfl
 |c::l,lo,hi,v,h,hv=>by
  have:=h.1;simp only[iK];rw[if_neg (by omega)]
theorem rp1 (C:List Int)(v:Int):iK C v<=C.length:=by
 induction C with
 |nil=>exact Nat.le_refl _
 |cons c l ih=>simp only[iK,List.length_cons];split<;>omega
theorem rg0 {S:Type}:∀ (C C':List Int)(K K':List S)(lo hi:Int),lo<=hi->Asc lo hi C->Asc lo hi C'->K.length=C.length+1->K'.length=C'.length+1 ->
  xC K->xC K'->(∀ v,lo<=v->v<=hi->K[iK C v]?=K'[iK C' v]?)->C=C'/\K=K'
 |C,C',k::K,k'::K',lo,hi,hlh,hC,hC',hl,hl',ha,ha',h=>by
  have h0:=h lo (Int.le_refl _) hlh;rw[Ky C lo hi lo hC (Int.le_refl _),Ky C' lo hi lo hC' (Int.le_refl _)] at h0;simp only[List.getElem?_cons_zero,Option.some.injEq] at h0;subst h0
  match C,C',K,K',hC,hC',hl,hl',ha,ha',h with
  |[],[],[],[],_,_,_,_,_,_,_=>exact⟨rfl,rfl⟩
  |[],c'::C',[],k2::K',_,hC',_,_,_,ha',h =>
   have h1:=h c' (by have:=hC'.1;omega) hC'.2.1;simp only[iK,Int.le_refl,if_true] at h1;rw[Ky C' c' hi c' hC'.2.2 (Int.le_refl _)] at h1;simp at h1;exact absurd h1 ha'.1
  |c::C,[],k2::K,[],hC,_,_,_,ha,_,h =>
   have h1:=h c (by have:=hC.1;omega) hC.2.1;simp only[iK,Int.le_refl,if_true] at h1;rw[Ky C c hi c hC.2.2 (Int.le_refl _)] at h1;simp at h1;exact absurd h1.symm ha.1
  |c::C,c'::C',k2::K,k2'::K',hC,hC',hl,hl',ha,ha',h =>
   have hcc:c=c':=by
    rcases Int.lt_trichotomy c c' with hlt|heq|hgt
    ·exfalso
     have h1:=h c (by have:=hC.1;omega) hC.2.1;simp only[iK,Int.le_refl,if_true] at h1;rw[Ky C c hi c hC.2.2 (Int.le_refl _),if_neg (by omega)] at h1;simp at h1;exact ha.1 h1.symm
    ·exact heq
    ·exfalso
     have h1:=h c' (by have:=hC'.1;omega) hC'.2.1;simp only[iK,Int.le_refl,if_true] at h1;rw[Ky C' c' hi c' hC'.2.2 (Int.le_refl _),if_neg (by omega)] at h1;simp at h1;exact ha'.1 h1
   subst hcc;have:=rg0 C C' (k2::K) (k2'::K') c hi hC.2.1 hC.2.2 hC'.2.2 (by simpa using hl) (by simpa using hl') ha.2 ha'.2 (fun v h1 h2=>by
    have:=h v (by have:=hC.1;omega) h2
    simpa only[iK,if_pos h1,List.getElem?_cons_succ] using this)
   exact⟨by rw[this.1],by rw[this.2]⟩
 |_,_,[],_,_,_,_,_,_,hl,_,_,_,_=>by simp at hl
 |_,_,_::_,[],_,_,_,_,_,_,hl',_,_,_=>by simp at hl'
structure Tab (δ:Type) where
 ns:List Nd
 ls:List δ
section
variable {δ:Type}[Inhabited δ](L:Ac)
def Tab.nd (t:Tab δ)(x:Nat):Nd:=t.ns.getD x default
def aT (n:Nd):Nat:=if n.kids=[] then 10 else n.attr
structure Fine (nn nl:Nat)(at_:Nat->Nd)(n:Nd):Prop where
 leaf:n.kids=[]->n.cuts=[]/\n.attr=0/\n.leaf<nl
 inner:n.kids≠[]->n.attr<10/\n.leaf=0/\n.kids.length=n.cuts.length+1/\n.cuts≠[]/\Asc (L.lo n.attr) (L.hi n.attr) n.cuts
 kid:∀ k∈n.kids,k<nn/\n.attr<aT (at_ k)
 adj:xC n.kids
structure Tab.Ok (t:Tab δ):Prop where
 fine:∀ x,x<t.ns.length->Fine L t.ns.length t.ls.length t.nd (t.nd x)
 nodup:t.ns.Nodup
 uD:t.ls.Nodup
def Tab.Ae (t:Tab δ)(g:Fa):Nat->Nat->δ
 |0,_=>default
 |n+1,x=>if (t.nd x).kids=[] then t.ls.getD (t.nd x).leaf default else t.Ae g n ((t.nd x).kids.getD (iK (t.nd x).cuts (g (t.nd x).attr)) 0)
def Tab.val (t:Tab δ)(g:Fa)(x:Nat):δ:=t.Ae g 11 x
variable {L}{t s:Tab δ}
theorem xG (h:t.Ok L){x:Nat}(hx:x<t.ns.length):aT (t.nd x)<=10:=by
 unfold aT;split
 ·exact Nat.le_refl _
 ·rename_i hk;have:=((h.fine x hx).inner hk).1;omega
theorem FI (h:t.Ok L){x:Nat}(hx:x<t.ns.length)(hk:(t.nd x).kids≠[])(v:Int):(t.nd x).kids[iK (t.nd x).cuts v]?=some ((t.nd x).kids.getD (iK (t.nd x).cuts v) 0)/\(t.nd x).kids.getD (iK (t.nd x).cuts v) 0∈(t.nd x).kids:=by
 have hl:=((h.fine x hx).inner hk).2.2.1;have hi:=rp1 (t.nd x).cuts v;have hlt:iK (t.nd x).cuts v<(t.nd x).kids.length:=by omega
 rw[List.getD_eq_getElem?_getD,List.getElem?_eq_getElem hlt];exact⟨rfl,List.getElem_mem hlt⟩
theorem wt1 (h:t.Ok L)(g:Fa):∀ (n m x:Nat),x<t.ns.length->10<n+aT (t.nd x)->10<m+aT (t.nd x)->t.Ae g n x=t.Ae g m x
 |0,_,x,hx,h1,_=>by have:=xG h hx;omega
 |_,0,x,hx,_,h2=>by have:=xG h hx;omega
 |n+1,m+1,x,hx,h1,h2=>by
  simp only[Tab.Ae];split
  ·rfl
  ·rename_i hk;obtain⟨hm1,hm⟩:=FI h hx hk (g (t.nd x).attr);obtain⟨k1,k2⟩:=(h.fine x hx).kid _ hm;have:aT (t.nd x)=(t.nd x).attr:=by unfold aT;rw[if_neg hk]
   exact wt1 h g n m _ k1 (by omega) (by omega)
theorem Ko {x:Nat}(hk:(t.nd x).kids=[])(g:Fa):t.val g x=t.ls.getD (t.nd x).leaf default:=by
 unfold Tab.val;simp only[Tab.Ae];rw[if_pos hk]
theorem Rz (h:t.Ok L){x:Nat}(hx:x<t.ns.length)(hk:(t.nd x).kids≠[])(g:Fa):t.val g x=t.val g ((t.nd x).kids.getD (iK (t.nd x).cuts (g (t.nd x).attr)) 0):=by
 unfold Tab.val
 conv=>lhs;rw[Tab.Ae]
 rw[if_neg hk];obtain⟨hm1,hm⟩:=FI h hx hk (g (t.nd x).attr);obtain⟨k1,k2⟩:=(h.fine x hx).kid _ hm;exact wt1 h g 10 11 _ k1 (by omega) (by omega)
theorem val_congr (h:t.Ok L){g g':Fa}:∀ (n x:Nat),x<t.ns.length->10<n+aT (t.nd x)->(∀ a,aT (t.nd x)<=a->a<10->g a=g' a)->t.val g x=t.val g' x
 |0,x,hx,h1,_=>by have:=xG h hx;omega
 |n+1,x,hx,h1,hg=>by
  by_cases hk:(t.nd x).kids=[]
  ·rw[Ko hk,Ko hk]
  ·rw[Rz h hx hk,Rz h hx hk];have Iy:aT (t.nd x)=(t.nd x).attr:=by unfold aT;rw[if_neg hk]
   have ha:=((h.fine x hx).inner hk).1;rw[hg _ (by omega) ha];obtain⟨hm1,hm⟩:=FI h hx hk (g' (t.nd x).attr);obtain⟨k1,k2⟩:=(h.fine x hx).kid _ hm;exact val_congr h n _ k1 (by omega) fun a h1 h2=>hg a (by omega) h2
theorem mj1 {g:Fa}(hg:L.In g){a:Nat}{v:Int}(h1:L.lo a<=v)(h2:v<=L.hi a):L.In (upd g a v):=by
 intro b hb;unfold upd;split
 ·rename_i e;subst e;exact⟨h1,h2⟩
 ·exact hg b hb
def Tab.fn (L:Ac)(t:Tab δ)(x:Nat):{g:Fa // L.In g}->δ:=fun g=>t.val g.1 x
def Ac.Ok (L:Ac):Prop:=∀ a,L.lo a<=L.hi a
theorem yh2 (h:t.Ok L){x:Nat}(hx:x<t.ns.length){a:Nat}(ha:a<aT (t.nd x))(g:Fa)(v:Int):t.val (upd g a v) x=t.val g x:=by
 refine val_congr h 11 x hx (by omega) fun b h1 h2=>?_
 unfold upd;rw[if_neg (by omega)]
theorem kr2 (h:t.Ok L){x:Nat}(hx:x<t.ns.length)(hk:(t.nd x).kids≠[])(g:Fa)(v:Int):t.val (upd g (t.nd x).attr v) x=t.val g ((t.nd x).kids.getD (iK (t.nd x).cuts v) 0):=by
 rw[Rz h hx hk];have:upd g (t.nd x).attr v (t.nd x).attr=v:=by unfold upd;rw[if_pos rfl]
 rw[this];obtain⟨hm1,hm⟩:=FI h hx hk v;obtain⟨k1,k2⟩:=(h.fine x hx).kid _ hm;exact yh2 h k1 k2 g v
theorem Yr (hL:L.Ok)(h:t.Ok L)(h':s.Ok L){x y:Nat}(hx:x<t.ns.length)(hy:y<s.ns.length)(hk:(t.nd x).kids≠[])(hlt:(t.nd x).attr<aT (s.nd y))
  (Fp:xC ((t.nd x).kids.map (t.fn L))):t.fn L x≠s.fn L y:=by
 intro he;obtain⟨ha,_,hl,hc,hasc⟩:=(h.fine x hx).inner hk
 match hcs:(t.nd x).cuts,hks:(t.nd x).kids with
 |[],_=>exact hc hcs
 |c::C,[]=>exact hk hks
 |c::C,[k]=>rw[hcs,hks] at hl;simp at hl
 |c::C,k0::k1::K =>
  rw[hks] at Fp;rw[hcs] at hasc;refine Fp.1 (funext fun g=>?_);have e0:=congrFun he ⟨upd g.1 (t.nd x).attr (L.lo _),mj1 g.2 (Int.le_refl _) (hL _)⟩;have e1:=congrFun he ⟨upd g.1 (t.nd x).attr c,mj1 g.2 (by have:=hasc.1;omega) hasc.2.1⟩;simp only[Tab.fn] at e0 e1 ⊢;rw[kr2 h hx hk,yh2 h' hy hlt] at e0 e1;rw[hcs,hks,Ky _ _ _ _ hasc (Int.le_refl _)] at e0;rw[hcs,hks] at e1;simp only[iK,Int.le_refl,if_true] at e1;rw[Ky C c _ c hasc.2.2 (Int.le_refl _)] at e1;simp at e0 e1;rw[e0,e1]
theorem shape (hL:L.Ok)(h:t.Ok L)(h':s.Ok L){x y:Nat}(hx:x<t.ns.length)(hy:y<s.ns.length)(he:t.fn L x=s.fn L y)
  (hax:xC ((t.nd x).kids.map (t.fn L))) (hay:xC ((s.nd y).kids.map (s.fn L))) :
  (t.nd x).attr=(s.nd y).attr/\(t.nd x).cuts=(s.nd y).cuts/\(t.nd x).kids.map (t.fn L)=(s.nd y).kids.map (s.fn L)/\((t.nd x).kids=[]->t.ls.getD (t.nd x).leaf default=s.ls.getD (s.nd y).leaf default)/\((t.nd x).kids=[]↔(s.nd y).kids=[]):=by
 by_cases hk:(t.nd x).kids=[]
 ·by_cases hk':(s.nd y).kids=[]
  ·obtain⟨c1,c2,c3⟩:=(h.fine x hx).leaf hk;obtain⟨d1,d2,d3⟩:=(h'.fine y hy).leaf hk';refine⟨by rw[c2,d2],by rw[c1,d1],by rw[hk,hk'];rfl,fun _=>?_,by simp[hk,hk']⟩;have:=congrFun he ⟨fun a=>L.lo a,fun a _=>⟨Int.le_refl _,hL a⟩⟩;simp only[Tab.fn] at this
   rwa [Ko hk,Ko hk'] at this
  ·refine absurd he.symm (Yr hL h' h hy hx hk' ?_ hay);have:=((h'.fine y hy).inner hk').1;unfold aT;rw[if_pos hk];exact this
 ·by_cases hk':(s.nd y).kids=[]
  ·refine absurd he (Yr hL h h' hx hy hk ?_ hax);have:=((h.fine x hx).inner hk).1;unfold aT;rw[if_pos hk'];exact this
  ·have hat:(t.nd x).attr=(s.nd y).attr:=by
    rcases Nat.lt_trichotomy (t.nd x).attr (s.nd y).attr with hlt|heq|hgt
    ·exact absurd he (Yr hL h h' hx hy hk (by unfold aT;rw[if_neg hk'];exact hlt) hax)
    ·exact heq
    ·exact absurd he.symm (Yr hL h' h hy hx hk' (by unfold aT;rw[if_neg hk];exact hgt) hay)
   obtain⟨ha,_,hl,hc,hasc⟩:=(h.fine x hx).inner hk;obtain⟨ha',_,hl',hc',J8⟩:=(h'.fine y hy).inner hk';rw[<- hat] at J8;have:=rg0 (t.nd x).cuts (s.nd y).cuts ((t.nd x).kids.map (t.fn L)) ((s.nd y).kids.map (s.fn L)) (L.lo (t.nd x).attr) (L.hi (t.nd x).attr) (hL _) hasc J8 (by simpa using hl) (by simpa using hl') hax hay (fun v h1 h2=>by
    rw[List.getElem?_map,List.getElem?_map,(FI h hx hk v).1,(FI h' hy hk' v).1];simp only[Option.map_some,Option.some.injEq];funext g;have:=congrFun he ⟨upd g.1 (t.nd x).attr v,mj1 g.2 h1 h2⟩;simp only[Tab.fn] at this ⊢;rw[kr2 h hx hk,hat,kr2 h' hy hk'] at this;exact this)
   exact⟨hat,this.1,this.2,fun e=>absurd e hk,by simp[hk,hk']⟩
theorem Wu {α β:Type}{f:α->β}:∀ {l:List α},xC l->(∀ a∈l,∀ b∈l,f a=f b->a=b)->xC (l.map f)
 |[],_,_=>trivial
 |[_],_,_=>trivial
 |a::b::l,h,hi=>⟨fun e=>h.1 (hi a (by simp) b (by simp) e),Wu (l:=b::l) h.2 fun a' ha b' hb=>hi a' (by simp[ha]) b' (by simp[hb])⟩
theorem mc0 {α β:Type}{f:α->β}:∀ {l l':List α},(∀ a∈l,∀ b∈l',f a=f b->a=b)->l.map f=l'.map f->l=l'
 |[],[],_,_=>rfl
 |[],_::_,_,h=>by simp at h
 |_::_,[],_,h=>by simp at h
 |a::l,b::l',hi,h=>by
  simp at h;have h2:l=l':=mc0 (f:=f) (fun a' ha b' hb=>hi a' (by simp[ha]) b' (by simp[hb])) (by simpa using h.2);rw[hi a (by simp) b (by simp) h.1,h2]
theorem bi1 (h:t.Ok L){x y:Nat}(hx:x<t.ns.length)(hy:y<t.ns.length)(he:t.nd x=t.nd y):x=y:=by
 unfold Tab.nd at he;rw[List.getD_eq_getElem?_getD,List.getD_eq_getElem?_getD,List.getElem?_eq_getElem hx,List.getElem?_eq_getElem hy] at he;exact Vw h.nodup hx hy he
theorem Dz (h:t.Ok L){z:Nat}(hz:z<t.ns.length)(k:Nat)(hk:k∈(t.nd z).kids):k<t.ns.length/\aT (t.nd z)<aT (t.nd k):=by
 obtain⟨k1,k2⟩:=(h.fine z hz).kid k hk;refine⟨k1,?_⟩;have:aT (t.nd z)=(t.nd z).attr:=by unfold aT;rw[if_neg (List.ne_nil_of_mem hk)]
 omega
theorem getD_inj {α:Type}[Inhabited α]{l:List α}(h:l.Nodup){i j:Nat}(hi:i<l.length)(hj:j<l.length)(he:l.getD i default=l.getD j default):i=j:=by
 rw[List.getD_eq_getElem?_getD,List.getD_eq_getElem?_getD,List.getElem?_eq_getElem hi,List.getElem?_eq_getElem hj] at he;exact Vw h hi hj he
theorem ZN (hL:L.Ok)(h:t.Ok L):∀ (n:Nat){x y:Nat},x<t.ns.length->y<t.ns.length->10<n+aT (t.nd x)->10<n+aT (t.nd y)->t.fn L x=t.fn L y->x=y
 |0,x,y,hx,hy,hn,_,_=>by have:=xG h hx;omega
 |n+1,x,y,hx,hy,hn,hn',he=>by
  have Fp:∀ {z:Nat},z<t.ns.length->10<n+1+aT (t.nd z)->xC ((t.nd z).kids.map (t.fn L)):=fun {z} hz hn'=>by
   refine Wu (h.fine z hz).adj fun a ha b hb e=>?_
   obtain⟨a1,a2⟩:=Dz h hz a ha;obtain⟨b1,b2⟩:=Dz h hz b hb;exact ZN hL h n a1 b1 (by omega) (by omega) e
  obtain⟨e1,e2,e3,e4,e5⟩:=shape hL h h hx hy he (Fp hx hn) (Fp hy hn');have ek:(t.nd x).kids=(t.nd y).kids:=mc0 (fun a ha b hb e=>by
   obtain⟨a1,a2⟩:=Dz h hx a ha;obtain⟨b1,b2⟩:=Dz h hy b hb;exact ZN hL h n a1 b1 (by omega) (by omega) e) e3
  refine bi1 h hx hy ?_;have el:(t.nd x).leaf=(t.nd y).leaf:=by
   by_cases hk:(t.nd x).kids=[]
   ·exact getD_inj h.uD ((h.fine x hx).leaf hk).2.2 ((h.fine y hy).leaf (e5.1 hk)).2.2 (e4 hk)
   ·rw[((h.fine x hx).inner hk).2.1,((h.fine y hy).inner (fun e=>hk (e5.2 e))).2.1]
  cases hnx:t.nd x;cases hny:t.nd y
  simp_all
theorem Y1 (hL:L.Ok)(h:t.Ok L){x y:Nat}(hx:x<t.ns.length)(hy:y<t.ns.length)(he:t.fn L x=t.fn L y):x=y:=ZN hL h 11 hx hy (by omega) (by omega) he
theorem ye2 (hL:L.Ok)(h:t.Ok L){x:Nat}(hx:x<t.ns.length):xC ((t.nd x).kids.map (t.fn L)) :=
 Wu (h.fine x hx).adj fun _ ha _ hb e=>Y1 hL h (Dz h hx _ ha).1 (Dz h hx _ hb).1 e
theorem shape' (hL:L.Ok)(h:t.Ok L)(h':s.Ok L){x y:Nat}(hx:x<t.ns.length)(hy:y<s.ns.length)(he:t.fn L x=s.fn L y) :
  (t.nd x).attr=(s.nd y).attr/\(t.nd x).cuts=(s.nd y).cuts/\(t.nd x).kids.map (t.fn L)=(s.nd y).kids.map (s.fn L)/\((t.nd x).kids=[]->t.ls.getD (t.nd x).leaf default=s.ls.getD (s.nd y).leaf default)/\((t.nd x).kids=[]↔(s.nd y).kids=[]) :=
 shape hL h h' hx hy he (ye2 hL h hx) (ye2 hL h' hy)
def walk (kids:Nat->List Nat):Nat->Nat->List Nat->List Nat
 |0,_,o=>o
 |n+1,x,o=>if x∈o then o else (kids x).foldl (fun o k=>walk kids n k o) (o++[x])
structure Tab.Canon (L:Ac)(t:Tab δ):Prop where
 ok:t.Ok L
 pos:0<t.ns.length
 walk:walk (fun x=>(t.nd x).kids) 11 0 []=List.range t.ns.length
 leaf:∀ x,x<t.ns.length->(t.nd x).kids=[]->(t.nd x).leaf=((t.ns.take x).filter fun n=>n.kids.isEmpty).length
 all:t.ls.length=(t.ns.filter fun n=>n.kids.isEmpty).length
theorem od0 {kids EF:Nat->List Nat}(R:Nat->Nat->Prop)(inj:∀ x y x' y',R x y->R x' y'->(x=x'↔y=y'))(hk:∀ x y,R x y->Ci R (kids x) (EF y)) :
  ∀ (n x y:Nat)(o o':List Nat),R x y->Ci R o o'->Ci R (walk kids n x o) (walk EF n y o')
 |0,_,_,_,_,_,ho=>ho
 |n+1,x,y,o,o',hxy,ho=>by
  have hmem:x∈o↔y∈o':=by
   clear hk
   induction ho with
   |nil=>simp
   |cons h1 h2 ih=>simp only[List.mem_cons,ih,inj _ _ _ _ hxy h1]
  simp only[walk];by_cases hx:x∈o
  ·rw[if_pos hx,if_pos (hmem.1 hx)];exact ho
  ·rw[if_neg hx,if_neg (fun e=>hx (hmem.2 e))];have:∀ (l l':List Nat)(o o':List Nat),Ci R l l'->Ci R o o'->Ci R (l.foldl (fun o k=>walk kids n k o) o) (l'.foldl (fun o k=>walk EF n k o) o'):=by
    intro l l' o o' hl
    induction hl generalizing o o' with
    |nil=>exact fun h=>h
    |cons h1 h2 ih=>exact fun h=>ih _ _ (od0 R inj hk n _ _ _ _ h1 h)
   refine this _ _ _ _ (hk x y hxy) ?_;clear this hmem hx
   induction ho with
   |nil=>exact .cons hxy .nil
   |cons h1 h2 ih=>exact .cons h1 ih
theorem cg0 {α β:Type}{f:Nat->α}{R:Nat->Nat->Prop}(g:Nat->α):∀ {l l':List Nat},l.map f=l'.map g->(∀ a∈l,∀ b∈l',f a=g b->R a b)->Ci R l l'
 |[],[],_,_=>.nil
 |[],_::_,h,_=>by simp at h
 |_::_,[],h,_=>by simp at h
 |a::l,b::l',h,hR=>by
  simp at h;exact .cons (hR a (by simp) b (by simp) h.1) (cg0 (β:=β) g h.2 fun a' ha b' hb=>hR a' (by simp[ha]) b' (by simp[hb]))
theorem pw0 {R:Nat->Nat->Prop}{l l':List Nat}(h:Ci R l l'):l.length=l'.length/\∀ (i a b:Nat),l[i]?=some a->l'[i]?=some b->R a b:=by
 induction h with
 |nil=>exact⟨rfl,fun i a b h=>by simp at h⟩
 |cons h1 h2 ih =>
  refine⟨by simp[ih.1],fun i a b ha hb=>?_⟩
  cases i with
  |zero=>simp at ha hb;rw[<- ha,<- hb];exact h1
  |succ i=>exact ih.2 i a b (by simpa using ha) (by simpa using hb)
theorem cm0 {α:Type}(p:α->Bool):∀ (l:List α)(k:Nat),k<(l.filter p).length->∃ x,∃ h:x<l.length,p l[x]=true/\((l.take x).filter p).length=k
 |[],k,h=>by simp at h
 |a::l,k,h=>by
  cases hp:p a with
  |false =>
   rw[List.filter_cons_of_neg (by simp[hp])] at h;obtain⟨x,hx,h1,h2⟩:=cm0 p l k h;exact⟨x+1,by simp;omega,by simpa using h1,by rw[List.take_succ_cons,List.filter_cons_of_neg (by simp[hp])];exact h2⟩
  |true =>
   rw[List.filter_cons_of_pos hp] at h
   cases k with
   |zero=>exact⟨0,by simp,hp,by simp⟩
   |succ k =>
    obtain⟨x,hx,h1,h2⟩:=cm0 p l k (by simpa using h);exact⟨x+1,by simp;omega,by simpa using h1,by rw[List.take_succ_cons,List.filter_cons_of_pos hp];simp[h2]⟩
theorem Canon.unique (hL:L.Ok)(h:t.Canon L)(h':s.Canon L)(he:t.fn L 0=s.fn L 0):t.ns=s.ns/\t.ls=s.ls:=by
 let R:Nat->Nat->Prop:=fun x y=>x<t.ns.length/\y<s.ns.length/\t.fn L x=s.fn L y
 have inj:∀ x y x' y',R x y->R x' y'->(x=x'↔y=y'):=fun x y x' y' ⟨a1,a2,a3⟩ ⟨b1,b2,b3⟩ =>
  ⟨fun e=>Y1 hL h'.ok a2 b2 (by rw[<- a3,<- b3,e]),fun e=>Y1 hL h.ok a1 b1 (by rw[a3,b3,e])⟩
 have hk:∀ x y,R x y->Ci R (t.nd x).kids (s.nd y).kids:=fun x y ⟨a1,a2,a3⟩ =>
  cg0 (β:=Nat) _ (shape' hL h.ok h'.ok a1 a2 a3).2.2.1 fun a ha b hb e=>⟨(Dz h.ok a1 a ha).1,(Dz h'.ok a2 b hb).1,e⟩
 have hw:=od0 R inj hk 11 0 0 [] [] ⟨h.pos,h'.pos,he⟩ .nil;rw[h.walk,h'.walk] at hw;obtain⟨hlen,hget⟩:=pw0 hw;simp only[List.length_range] at hlen;have hR:∀ i,i<t.ns.length->R i i:=fun i hi=>hget i i i (by rw[List.getElem?_range hi]) (by rw[List.getElem?_range (by omega)])
 have hsh:∀ i,i<t.ns.length->(t.nd i).attr=(s.nd i).attr/\(t.nd i).cuts=(s.nd i).cuts/\(t.nd i).kids=(s.nd i).kids/\((t.nd i).kids=[]->t.ls.getD (t.nd i).leaf default=s.ls.getD (s.nd i).leaf default):=fun i hi=>by
  obtain⟨e1,e2,e3,e4,e5⟩:=shape' hL h.ok h'.ok hi (by omega) (hR i hi).2.2;refine⟨e1,e2,?_,e4⟩;obtain⟨k1,k2⟩:=pw0 (hk i i (hR i hi));refine List.ext_getElem k1 fun j h1 h2=>?_
  have hj:=k2 j _ _ (List.getElem?_eq_getElem h1) (List.getElem?_eq_getElem h2);exact((inj _ _ _ _ hj (hR _ hj.1)).1 rfl).symm
 have hpre:∀ i,i<=t.ns.length->((t.ns.take i).filter fun n=>n.kids.isEmpty).length=((s.ns.take i).filter fun n=>n.kids.isEmpty).length:=by
  intro i
  induction i with
  |zero=>intro _;simp
  |succ i ih =>
   intro hi;have e:=(hsh i (by omega)).2.2.1;unfold Tab.nd at e;rw[List.getD_eq_getElem?_getD,List.getD_eq_getElem?_getD,List.getElem?_eq_getElem (by omega),List.getElem?_eq_getElem (by omega)] at e;simp only[Option.getD_some] at e;rw[List.take_add_one,List.take_add_one,List.filter_append,List.filter_append,List.length_append,List.length_append,ih (by omega),List.getElem?_eq_getElem (by omega),List.getElem?_eq_getElem (by omega)];simp only[Option.toList_some,List.filter_cons,e];split<;>simp
 have hns:t.ns=s.ns:=by
  refine List.ext_getElem hlen fun i h1 h2=>?_
  obtain⟨e1,e2,e3,e4⟩:=hsh i h1;have el:(t.nd i).leaf=(s.nd i).leaf:=by
   by_cases hk:(t.nd i).kids=[]
   ·rw[h.leaf i h1 hk,h'.leaf i h2 (e3▸hk),hpre i (by omega)]
   ·rw[((h.ok.fine i h1).inner hk).2.1,((h'.ok.fine i h2).inner (e3▸hk)).2.1]
  have:t.nd i=s.nd i:=by
   cases hnx:t.nd i;cases hny:s.nd i
   simp_all
  unfold Tab.nd at this;rw[List.getD_eq_getElem?_getD,List.getD_eq_getElem?_getD,List.getElem?_eq_getElem h1,List.getElem?_eq_getElem h2] at this;exact this
 refine⟨hns,?_⟩;have hll:t.ls.length=s.ls.length:=by rw[h.all,h'.all,hns]
 refine List.ext_getElem hll fun k h1 h2=>?_
 obtain⟨x,hx,hp,hn⟩:=cm0 (fun n:Nd=>n.kids.isEmpty) t.ns k (by rw[<- h.all];exact h1);have hnd:t.nd x=t.ns[x]:=by unfold Tab.nd;rw[List.getD_eq_getElem?_getD,List.getElem?_eq_getElem hx];rfl
 have hk:(t.nd x).kids=[]:=by rw[hnd];simpa using hp
 obtain⟨e1,e2,e3,e4⟩:=hsh x hx;have l1:(t.nd x).leaf=k:=by rw[h.leaf x hx hk,hn]
 have l2:(s.nd x).leaf=k:=by rw[h'.leaf x (by omega) (e3▸hk),<- hns,hn]
 have:=e4 hk;rw[l1,l2,List.getD_eq_getElem?_getD,List.getD_eq_getElem?_getD,List.getElem?_eq_getElem h1,List.getElem?_eq_getElem h2] at this;exact this
end
end Tb
namespace Tb
structure Bs (δ:Type) where
 tab:Tab δ
 made:List ((Nat×List Nat)×Nat)
section
variable {δ:Type}[Inhabited δ][DecidableEq δ]
def look {κ:Type}[DecidableEq κ]:List (κ×Nat)->κ->Option Nat
 |[],_=>none
 |(k,v)::l,x=>if x=k then some v else look l x
def idx {α:Type}[DecidableEq α]:List α->α->Option Nat
 |[],_=>none
 |a::l,x=>if a=x then some 0 else (idx l x).map (·+1)
def addN (b:Bs δ)(n:Nd):Bs δ×Nat:=match idx b.tab.ns n with
 |some k=>(b,k)
 |none=>({ b with tab:={ b.tab with ns:=b.tab.ns++[n] } },b.tab.ns.length)
def xK (b:Bs δ)(d:δ):Bs δ×Nat:=match idx b.tab.ls d with
 |some i=>addN b ⟨0,[],[],i⟩
 |none=>addN { b with tab:={ b.tab with ls:=b.tab.ls++[d] } } ⟨0,[],[],b.tab.ls.length⟩
structure iC (δ:Type) where
 nz:Nat
 lo:Nat->Nat->Int
 hi:Nat->Nat->Int
 dec:Fa->δ
 starts:Nat->List Nat->List Int
def iC.at (p:iC δ)(z a:Nat)(v:Int):Bool:=decide (p.lo z a<=v/\v<=p.hi z a)
def kids (F:Int->Bs δ->Bs δ×Nat):List Int->Bs δ->List Int->List Nat->Bs δ×List Int×List Nat
 |[],b,C,K=>(b,C,K)
 |c::l,b,C,K =>
  let r:=F c b
  if K.getLast?=some r.2 then kids F l r.1 C K
  else kids F l r.1 (if K=[] then C else C++[c]) (K++[r.2])
def make (p:iC δ):Nat->Nat->List Nat->Fa->Bs δ->Bs δ×Nat
 |0,_,_,f,b=>xK b (p.dec f)
 |r+1,a,live,f,b =>
  match look b.made (a,live) with
  |some n=>(b,n)
  |none =>
   let k:=kids (fun c b=>make p r (a+1) (live.filter fun z=>p.at z a c) (upd f a c) b) (p.starts a live) b [] []
   let o:=match k.2.2 with
    |[n]=>(k.1,n)
    |K=>addN k.1 ⟨a,k.2.1,K,0⟩
   ({ o.1 with made:=o.1.made++[((a,live),o.2)] },o.2)
def iC.In (p:iC δ)(z:Nat)(a:Nat)(g:Fa):Bool:=(List.range 10).all fun b=>decide (b<a)||p.at z b (g b)
structure iC.Ok (L:Ac)(p:iC δ)(D:List Nat->δ):Prop where
 dec:∀ g,p.dec g=D ((List.range p.nz).filter fun z=>p.In z 0 g)
 st:∀ a live,a<10->∃ l,p.starts a live=L.lo a::l/\Asc (L.lo a) (L.hi a) l/\∀ z∈live,∀ c,c=p.lo z a\/c=p.hi z a+1->L.lo a<c->c<=L.hi a->c∈l
def sem (p:iC δ)(D:List Nat->δ)(a:Nat)(live:List Nat)(g:Fa):δ:=D (live.filter fun z=>p.In z a g)
variable {L:Ac}{p:iC δ}{D:List Nat->δ}
theorem xj2 {z a:Nat}{g:Fa}(ha:a<10):p.In z a g=(p.at z a (g a)&&p.In z (a+1) g):=by
 rw[Bool.eq_iff_iff];simp only[iC.In,List.all_eq_true,List.mem_range,Bool.or_eq_true,decide_eq_true_eq,Bool.and_eq_true]
 constructor
 ·intro h;refine⟨by simpa using h a ha,fun b hb=>?_⟩;rcases h b hb with h1|h1
  ·exact .inl (by omega)
  ·exact .inr h1
 ·rintro ⟨h1,h2⟩ b hb;by_cases hab:b=a
  ·subst hab;exact .inr h1
  ·rcases h2 b hb with h3|h3
   ·exact .inl (by omega)
   ·exact .inr h3
theorem gk1 {a:Nat}{live:List Nat}{g:Fa}(ha:a<10):sem p D a live g=sem p D (a+1) (live.filter fun z=>p.at z a (g a)) g:=by
 unfold sem;rw[List.filter_filter];congr 1;refine List.filter_congr fun z _=>?_
 rw[xj2 ha,Bool.and_comm]
theorem nb1 {live:List Nat}{g:Fa}:sem p D 10 live g=D live:=by
 unfold sem;congr 1;rw[List.filter_eq_self];intro z _;simp only[iC.In,List.all_eq_true,List.mem_range,Bool.or_eq_true,decide_eq_true_eq];exact fun b hb=>.inl hb
structure Ext (t t':Tab δ):Prop where
 ns:∃ l,t'.ns=t.ns++l
 ls:∃ l,t'.ls=t.ls++l
theorem Ext.refl (t:Tab δ):Ext t t:=⟨⟨[],by simp⟩,⟨[],by simp⟩⟩
theorem Ext.trans {t t' t'':Tab δ}(h:Ext t t')(k:Ext t' t''):Ext t t'':=by
 obtain⟨⟨a,ha⟩,⟨b,hb⟩⟩:=h;obtain⟨⟨c,hc⟩,⟨d,hd⟩⟩:=k;exact⟨⟨a++c,by rw[hc,ha,List.append_assoc]⟩,⟨b++d,by rw[hd,hb,List.append_assoc]⟩⟩
theorem Ext.len {t t':Tab δ}(h:Ext t t'):t.ns.length<=t'.ns.length:=by obtain⟨⟨a,ha⟩,_⟩:=h;rw[ha];simp
theorem Ext.nd {t t':Tab δ}(h:Ext t t'){x:Nat}(hx:x<t.ns.length):t'.nd x=t.nd x:=by
 obtain⟨⟨a,ha⟩,_⟩:=h;unfold Tab.nd;rw[ha,List.getD_eq_getElem?_getD,List.getD_eq_getElem?_getD,List.getElem?_append_left hx]
theorem Ext.val {t t':Tab δ}(h:Ext t t')(ht:t.Ok L)(g:Fa):∀ (n x:Nat),x<t.ns.length->t'.Ae g n x=t.Ae g n x
 |0,_,_=>rfl
 |n+1,x,hx=>by
  simp only[Tab.Ae,h.nd hx];split
  ·rename_i hk;obtain⟨_,⟨b,hb⟩⟩:=h;rw[hb,List.getD_eq_getElem?_getD,List.getD_eq_getElem?_getD,List.getElem?_append_left ((ht.fine x hx).leaf hk).2.2]
  ·rename_i hk;exact h.val ht g n _ ((ht.fine x hx).kid _ (FI ht hx hk _).2).1
def iC.Pre (p:iC δ)(a:Nat)(f:Fa)(z:Nat):Bool:=(List.range 10).all fun b=>decide (a<=b)||p.at z b (f b)
def iC.Can (p:iC δ)(a:Nat)(live:List Nat):Prop:=∃ f,live=(List.range p.nz).filter (p.Pre a f)
structure Inv (L:Ac)(p:iC δ)(D:List Nat->δ)(b:Bs δ)(s:Nat:=0):Prop where
 ok:b.tab.Ok L
 made:∀ a live n,((a,live),n)∈b.made->n<b.tab.ns.length/\a<=aT (b.tab.nd n)/\a<10/\p.Can a live/\∀ g,L.In g->b.tab.val g n=sem p D a live g
 keys:(b.made.map (·.1)).Nodup
 size:b.tab.ns.length<=b.tab.ls.length+b.made.length+s
 sD:∀ i,i<b.tab.ls.length->(⟨0,[],[],i⟩:Nd)∈b.tab.ns
 dec:∀ d∈b.tab.ls,∃ live:List Nat,p.Can 10 live/\d=D live
theorem Yq {α:Type}[DecidableEq α]:∀ {l:List α}{x:α}{k:Nat},idx l x=some k->l[k]?=some x
 |[],_,_,h=>by cases h
 |a::l,x,k,h=>by
  simp only[idx] at h;split at h
  ·rename_i e;cases h;rw[e];rfl
  ·cases hi:idx l x with
   |none=>rw[hi] at h;cases h
   |some j=>rw[hi] at h;cases h;simpa using Yq hi
theorem Yx {α:Type}[DecidableEq α]:∀ {l:List α}{x:α},idx l x=none->x ∉ l
 |[],_,_=>by simp
 |a::l,x,h=>by
  simp only[idx] at h;split at h
  ·cases h
  ·rename_i e
   cases hi:idx l x with
   |none=>simp only[List.mem_cons,not_or];exact⟨fun e'=>e e'.symm,Yx hi⟩
   |some j=>rw[hi] at h;cases h
theorem jy1 {κ:Type}[DecidableEq κ]:∀ {l:List (κ×Nat)}{x:κ}{n:Nat},look l x=some n->(x,n)∈l
 |[],_,_,h=>by cases h
 |(k,v)::l,x,n,h=>by
  simp only[look] at h;split at h
  ·rename_i e;cases h;rw[e];simp
  ·exact List.mem_cons_of_mem _ (jy1 h)
theorem Zw {κ:Type}[DecidableEq κ]:∀ {l:List (κ×Nat)}{x:κ},look l x=none->x ∉ l.map (·.1)
 |[],_,_=>by simp
 |(k,v)::l,x,h=>by
  simp only[look] at h;split at h
  ·cases h
  ·rename_i e;simp only[List.map_cons,List.mem_cons,not_or];exact⟨e,Zw h⟩
theorem Fine.push {t:Tab δ}{l:List Nd}{m:List δ}{n:Nd}(h:Fine L t.ns.length t.ls.length t.nd n):Fine L (t.ns++l).length (t.ls++m).length (Tab.nd (δ:=δ) ⟨t.ns++l,t.ls++m⟩) n where
 leaf hk:=⟨(h.leaf hk).1,(h.leaf hk).2.1,by have:=(h.leaf hk).2.2;simp;omega⟩
 inner:=h.inner
 kid k hk:=by
  obtain⟨h1,h2⟩:=h.kid k hk;refine⟨by simp;omega,?_⟩;have:(⟨t.ns++l,t.ls++m⟩:Tab δ).nd k=t.nd k:=Ext.nd (t:=t) ⟨⟨l,rfl⟩,⟨m,rfl⟩⟩ h1;rw[this];exact h2
 adj:=h.adj
theorem ew0 {b:Bs δ}(h:b.tab.Ok L){n:Nd}(hf:Fine L b.tab.ns.length b.tab.ls.length b.tab.nd n) :
  (addN b n).1.tab.Ok L/\Ext b.tab (addN b n).1.tab/\(addN b n).2<(addN b n).1.tab.ns.length/\(addN b n).1.tab.nd (addN b n).2=n/\(addN b n).1.made=b.made/\(addN b n).1.tab.ls=b.tab.ls /\
   (addN b n).1.tab.ns.length<=b.tab.ns.length+1/\(n∈b.tab.ns->(addN b n).1.tab.ns=b.tab.ns)/\n∈(addN b n).1.tab.ns:=by
 unfold addN
 cases hi:idx b.tab.ns n with
 |some k =>
  have hk:=Yq hi;have hlt:=(List.getElem?_eq_some_iff.1 hk).1;refine⟨h,.refl _,hlt,?_,rfl,rfl,by simp,fun _=>rfl,List.mem_of_getElem? hk⟩;unfold Tab.nd;rw[List.getD_eq_getElem?_getD,hk];rfl
 |none =>
  have hn:=Yx hi;refine⟨⟨fun x hx=>?_,?_,h.uD⟩,⟨⟨[n],rfl⟩,⟨[],by simp⟩⟩,by simp,?_,rfl,rfl,by simp,fun e=>absurd e hn,by simp⟩
  ·simp only[List.length_append,List.length_singleton] at hx;have hx':(⟨b.tab.ns++[n],b.tab.ls⟩:Tab δ).nd x=if x<b.tab.ns.length then b.tab.nd x else n:=by
    unfold Tab.nd;simp only[List.getD_eq_getElem?_getD];split
    ·rw[List.getElem?_append_left (by assumption)]
    ·have:x=b.tab.ns.length:=by omega
     subst this;simp
   have push:=fun {n':Nd}(hf:Fine L b.tab.ns.length b.tab.ls.length b.tab.nd n')=>hf.push (l:=[n]) (m:=[])
   simp only[List.append_nil] at push;rw[hx'];by_cases hlt:x<b.tab.ns.length
   ·rw[if_pos hlt];exact push (h.fine x hlt)
   ·rw[if_neg hlt];exact push hf
  ·show (b.tab.ns++[n]).Nodup;rw[List.nodup_append];exact⟨h.nodup,by simp,fun x hx y hy e=>hn (by simp at hy;rw[<- hy,<- e];exact hx)⟩
  ·unfold Tab.nd;simp
theorem Fine.gw2 {b:Bs δ}{i:Nat}(hi:i<b.tab.ls.length):Fine L b.tab.ns.length b.tab.ls.length b.tab.nd ⟨0,[],[],i⟩ where
 leaf _:=⟨rfl,rfl,hi⟩
 inner h:=absurd rfl h
 kid k hk:=by cases hk
 adj:=trivial
theorem Inv.ext {b b':Bs δ}(h:Inv L p D b)(ho:b'.tab.Ok L)(he:Ext b.tab b'.tab)(hm:b'.made=b.made){s:Nat}(hs:b'.tab.ns.length<=b'.tab.ls.length+b'.made.length+s)
  (hln:∀ i,i<b'.tab.ls.length->(⟨0,[],[],i⟩:Nd)∈b'.tab.ns) (hd:∀ d∈b'.tab.ls,∃ live:List Nat,p.Can 10 live/\d=D live):Inv L p D b' s where
 ok:=ho
 made a live n hn:=by
  rw[hm] at hn;obtain⟨h1,h2,h3,h4,h5⟩:=h.made a live n hn;refine⟨Nat.lt_of_lt_of_le h1 he.len,by rw[he.nd h1];exact h2,h3,h4,fun g hg=>?_⟩;rw[<- h5 g hg];exact he.val h.ok g 11 n h1
 keys:=by rw[hm];exact h.keys
 size:=hs
 sD:=hln
 dec:=hd
theorem wd1 {t:Tab δ}{x i:Nat}{d:δ}(hx:t.nd x=⟨0,[],[],i⟩)(hd:t.ls[i]?=some d)(g:Fa):t.val g x=d:=by
 rw[Ko (by rw[hx]),hx,List.getD_eq_getElem?_getD,hd];rfl
theorem cw1 {b:Bs δ}(h:Inv L p D b){d:δ}{live:List Nat}(hl:p.Can 10 live)(hd:d=D live) :
  Inv L p D (xK b d).1/\Ext b.tab (xK b d).1.tab/\(xK b d).2<(xK b d).1.tab.ns.length/\aT ((xK b d).1.tab.nd (xK b d).2)=10/\(∀ g,(xK b d).1.tab.val g (xK b d).2=d)/\(xK b d).1.made=b.made:=by
 unfold xK
 cases hi:idx b.tab.ls d with
 |some i =>
  have hk:=Yq hi;have hlt:=(List.getElem?_eq_some_iff.1 hk).1;obtain⟨h1,h2,h3,h4,h5,h6,h7,h8,h9⟩:=ew0 h.ok (Fine.gw2 (L:=L) hlt);have h8:=h8 (h.sD i hlt);dsimp only;refine⟨h.ext h1 h2 h5 (by rw[h8,h6,h5];exact h.size) (by rw[h6,h8];exact h.sD) (by rw[h6];exact h.dec),h2,h3,by rw[h4];rfl,fun g=>wd1 h4 (by rw[h6];exact hk) g,h5⟩
 |none =>
  have hn:=Yx hi;dsimp only;have hok:Tab.Ok L (⟨b.tab.ns,b.tab.ls++[d]⟩:Tab δ):=⟨fun x hx=>by
   have:=(h.ok.fine x hx).push (l:=[]) (m:=[d]);simp only[List.append_nil] at this;exact this,h.ok.nodup,by rw[List.nodup_append];exact⟨h.ok.uD,by simp,fun x hx y hy e=>hn (by simp at hy;rw[<- hy,<- e];exact hx)⟩⟩
  have hext:Ext b.tab ⟨b.tab.ns,b.tab.ls++[d]⟩:=⟨⟨[],by simp⟩,⟨[d],rfl⟩⟩;obtain⟨h1,h2,h3,h4,h5,h6,h7,h8,h9⟩:=ew0 (b:=⟨⟨b.tab.ns,b.tab.ls++[d]⟩,b.made⟩) hok (Fine.gw2 (L:=L) (i:=b.tab.ls.length) (by simp));refine⟨h.ext h1 (hext.trans h2) h5 ?_ ?_ ?_,hext.trans h2,h3,by rw[h4];rfl,fun g=>wd1 h4 (by rw[h6];simp) g,h5⟩
  ·rw[h6,h5];have:=h.size;simp only[List.length_append,List.length_singleton] at h7 ⊢;omega
  ·rw[h6];intro i hi;simp only[List.length_append,List.length_singleton] at hi;by_cases hlt:i<b.tab.ls.length
   ·obtain⟨l,hl⟩:=h2.ns;rw[hl];exact List.mem_append_left _ (h.sD i hlt)
   ·have:i=b.tab.ls.length:=by omega
    subst this;exact h9
  ·rw[h6];intro d' hd';rcases List.mem_append.1 hd' with h'|h'
   ·exact h.dec d' h'
   ·simp at h';subst h';exact⟨live,hl,hd⟩
theorem YP : ∀ {C:List Int}{v:Int},(∀ d∈C,d<=v)->iK C v=C.length
 |[],_,_=>rfl
 |c::l,v,h=>by
  simp only[iK,List.length_cons];rw[if_pos (h c (by simp)),YP fun d hd=>h d (by simp[hd])]
theorem jc1 : ∀ {C:List Int}{c v:Int},v<c->iK (C++[c]) v=iK C v
 |[],c,v,h=>by simp only[List.nil_append,iK];rw[if_neg (by omega)]
 |c'::l,c,v,h=>by simp only[List.cons_append,iK,jc1 (C:=l) h]
theorem fn1 : ∀ {C:List Int}{lo hi c:Int},Asc lo hi C->(∀ d∈C,d<c)->lo<c->c<=hi->Asc lo hi (C++[c])
 |[],_,_,_,_,_,h1,h2=>⟨h1,h2,trivial⟩
 |c'::l,lo,hi,c,h,hd,h1,h2=>⟨h.1,h.2.1,fn1 h.2.2 (fun d hd'=>hd d (by simp[hd'])) (hd c' (by simp)) h2⟩
theorem fr1 {S:Type}:∀ {K:List S}{k:S},xC K->K.getLast?≠some k->xC (K++[k])
 |[],_,_,_=>trivial
 |[a],k,_,h=>⟨by simpa using h,trivial⟩
 |a::b::l,k,h,hn=>⟨h.1,fr1 (K:=b::l) h.2 (by simpa using hn)⟩
theorem JJ : ∀ {l:List Int}{lo hi:Int},Asc lo hi l->∀ d∈l,lo<d/\d<=hi
 |[],_,_,_,_,hd=>by cases hd
 |c::l,lo,hi,h,d,hd=>by
  rcases List.mem_cons.1 hd with rfl|hd
  ·exact⟨h.1,h.2.1⟩
  ·have:=JJ h.2.2 d hd;have:=h.1;omega
structure F9 (L:Ac)(p:iC δ)(D:List Nat->δ)(a:Nat)(S:Int->Fa->δ)(l:List Int)(b:Bs δ)(C:List Int)(K:List Nat):Prop where
 inv:Inv L p D b
 len:K.length=C.length+1
 asc:Asc (L.lo a) (L.hi a) C
 lt:∀ d∈C,∀ c∈l,d<c
 adj:xC K
 kid:∀ k∈K,k<b.tab.ns.length/\a+1<=aT (b.tab.nd k)
 val:∀ v,L.lo a<=v->v<=L.hi a->(∀ d∈l,v<d)->∃ k,K[iK C v]?=some k/\∀ g,L.In g->b.tab.val g k=S v g
def Keys (a:Nat)(b b':Bs δ):Prop:=∀ k∈b'.made.map (·.1),k∈b.made.map (·.1)\/a<=k.1
def Ve (L:Ac)(p:iC δ)(D:List Nat->δ)(a:Nat)(S:Int->Fa->δ)(F:Int->Bs δ->Bs δ×Nat):Prop :=
 ∀ c b,L.lo a<=c->c<=L.hi a->Inv L p D b->Inv L p D (F c b).1/\Ext b.tab (F c b).1.tab/\(F c b).2<(F c b).1.tab.ns.length/\a+1<=aT ((F c b).1.tab.nd (F c b).2)/\(∀ g,L.In g->(F c b).1.tab.val g (F c b).2=S c g)/\Keys (a+1) b (F c b).1
theorem F9.step {a:Nat}{S:Int->Fa->δ}{F:Int->Bs δ->Bs δ×Nat}(hF:Ve L p D a S F){c c0:Int}{l:List Int}{b:Bs δ}{C:List Int}{K:List Nat}(hasc:Asc c0 (L.hi a) (c::l))(h0:L.lo a<=c0)
  (hS:∀ v,c<=v->v<=L.hi a->(∀ d∈l,v<d)->S v=S c) (h:F9 L p D a S (c::l) b C K) :
  F9 L p D a S l (F c b).1 (if K.getLast?=some (F c b).2 then C else C++[c]) (if K.getLast?=some (F c b).2 then K else K++[(F c b).2])/\Ext b.tab (F c b).1.tab/\Keys (a+1) b (F c b).1:=by
 obtain⟨f1,f2,f3,f4,f5,f6⟩:=hF c b (by have:=hasc.1;omega) hasc.2.1 h.inv;have hlt:∀ d∈C,d<c:=fun d hd=>h.lt d hd c (by simp)
 have old:∀ v,L.lo a<=v->v<c->∃ k,K[iK C v]?=some k/\∀ g,L.In g->(F c b).1.tab.val g k=S v g:=fun v h1 h2=>by
  obtain⟨k,k1,k2⟩:=h.val v h1 (by have:=hasc.2.1;omega) (fun d hd=>by
   rcases List.mem_cons.1 hd with rfl|hd
   ·exact h2
   ·have:=JJ hasc.2.2 d hd;omega)
  refine⟨k,k1,fun g hg=>?_⟩;rw[<- k2 g hg];exact f2.val h.inv.ok g 11 k (h.kid k (List.mem_of_getElem? k1)).1
 have Dk:∀ k∈K,k<(F c b).1.tab.ns.length/\a+1<=aT ((F c b).1.tab.nd k):=fun k hk=>by
  obtain⟨k1,k2⟩:=h.kid k hk;exact⟨Nat.lt_of_lt_of_le k1 f2.len,by rw[f2.nd k1];exact k2⟩
 refine⟨?_,f2,f6⟩;by_cases hlast:K.getLast?=some (F c b).2
 ·rw[if_pos hlast,if_pos hlast];refine⟨f1,h.len,h.asc,fun d hd c' hc'=>h.lt d hd c' (by simp[hc']),h.adj,Dk,fun v h1 h2 h3=>?_⟩;by_cases hv:v<c
  ·exact old v h1 hv
  ·refine⟨(F c b).2,?_,fun g hg=>?_⟩
   ·rw[YP (fun d hd=>by have:=hlt d hd;omega),<- hlast,List.getLast?_eq_getElem?,h.len];rfl
   ·rw[f5 g hg,hS v (by omega) h2 h3]
 ·rw[if_neg hlast,if_neg hlast];refine⟨f1,by simp[h.len],fn1 h.asc hlt (by have:=hasc.1;omega) hasc.2.1,fun d hd c' hc'=>?_,fr1 h.adj hlast,fun k hk=>?_,fun v h1 h2 h3=>?_⟩
  ·rcases List.mem_append.1 hd with hd|hd
   ·exact h.lt d hd c' (by simp[hc'])
   ·simp at hd;subst hd;exact(JJ hasc.2.2 c' hc').1
  ·rcases List.mem_append.1 hk with hk|hk
   ·exact Dk k hk
   ·simp at hk;subst hk;exact⟨f3,f4⟩
  ·by_cases hv:v<c
   ·obtain⟨k,k1,k2⟩:=old v h1 hv;refine⟨k,?_,k2⟩;rw[jc1 hv,List.getElem?_append_left (List.getElem?_eq_some_iff.1 k1).1];exact k1
   ·refine⟨(F c b).2,?_,fun g hg=>?_⟩
    ·rw[YP (fun d hd=>by
      rcases List.mem_append.1 hd with hd|hd
      ·have:=hlt d hd;omega
      ·simp at hd;omega),List.length_append,List.length_singleton,<- h.len];simp
    ·rw[f5 g hg,hS v (by omega) h2 h3]
theorem cq0 {a:Nat}{S:Int->Fa->δ}{F:Int->Bs δ->Bs δ×Nat}(hF:Ve L p D a S F):∀ (l:List Int)(c0:Int)(b:Bs δ)(C:List Int)(K:List Nat),Asc c0 (L.hi a) l->L.lo a<=c0->K≠[] ->
  (∀ c∈l,∀ v,c<=v->v<=L.hi a->(∀ d∈l,d<=c\/v<d)->S v=S c)->F9 L p D a S l b C K ->
  F9 L p D a S [] (kids F l b C K).1 (kids F l b C K).2.1 (kids F l b C K).2.2/\Ext b.tab (kids F l b C K).1.tab/\Keys (a+1) b (kids F l b C K).1
 |[],c0,b,C,K,_,_,_,_,h=>⟨h,.refl _,fun k hk=>.inl hk⟩
 |c::l,c0,b,C,K,hasc,h0,hK,hS,h=>by
  obtain⟨k1,k2,k3⟩:=h.step hF hasc h0 fun v h1 h2 h3=>hS c (by simp) v h1 h2 fun d hd=>by
   rcases List.mem_cons.1 hd with rfl|hd
   ·exact .inl (Int.le_refl _)
   ·exact .inr (h3 d hd)
  have hS':∀ c'∈l,∀ v,c'<=v->v<=L.hi a->(∀ d∈l,d<=c'\/v<d)->S v=S c':=fun c' hc' v h1 h2 h3=>hS c' (by simp[hc']) v h1 h2 fun d hd=>by
   rcases List.mem_cons.1 hd with rfl|hd
   ·have:=(JJ hasc.2.2 c' hc').1;exact .inl (by omega)
   ·exact h3 d hd
  simp only[kids];by_cases hlast:K.getLast?=some (F c b).2
  ·rw[if_pos hlast,if_pos hlast] at k1;rw[if_pos hlast];obtain⟨m1,m2,m3⟩:=cq0 hF l c _ C K hasc.2.2 (by have:=hasc.1;omega) hK hS' k1;exact⟨m1,k2.trans m2,fun k hk=>(m3 k hk).elim (fun h=>k3 k h) .inr⟩
  ·rw[if_neg hlast,if_neg hlast] at k1;rw[if_neg hlast,if_neg hK];obtain⟨m1,m2,m3⟩:=cq0 hF l c _ (C++[c]) (K++[(F c b).2]) hasc.2.2 (by have:=hasc.1;omega) (by simp) hS' k1;exact⟨m1,k2.trans m2,fun k hk=>(m3 k hk).elim (fun h=>k3 k h) .inr⟩
theorem ft1 {a:Nat}{live:List Nat}{lo hi:Int}{l:List Int}(hst:∀ z∈live,∀ c,c=p.lo z a\/c=p.hi z a+1->lo<c->c<=hi->c∈l){c v:Int}(h0:lo<=c)(h1:c<=v)(h2:v<=hi)(h3:∀ d∈l,d<=c\/v<d) :
  live.filter (fun z=>p.at z a v)=live.filter fun z=>p.at z a c:=by
 refine List.filter_congr fun z hz=>?_
 have e1:=hst z hz (p.lo z a) (.inl rfl);have e2:=hst z hz (p.hi z a+1) (.inr rfl);unfold iC.at;rw[decide_eq_decide]
 constructor
 ·rintro ⟨k1,k2⟩;refine⟨?_,by omega⟩;by_cases hc:p.lo z a<=c
  ·exact hc
  ·rcases h3 _ (e1 (by omega) (by omega)) with h|h<;>omega
 ·rintro ⟨k1,k2⟩;refine⟨by omega,?_⟩;by_cases hc:v<=p.hi z a
  ·exact hc
  ·rcases h3 _ (e2 (by omega) (by omega)) with h|h<;>omega
theorem qt1 {a:Nat}(ha:a<10)(f:Fa)(c:Int)(z:Nat):p.Pre (a+1) (upd f a c) z=(p.at z a c&&p.Pre a f z):=by
 rw[Bool.eq_iff_iff];simp only[iC.Pre,List.all_eq_true,List.mem_range,Bool.or_eq_true,decide_eq_true_eq,Bool.and_eq_true]
 constructor
 ·intro h;refine⟨?_,fun b hb=>?_⟩
  ·rcases h a ha with h1|h1
   ·omega
   ·simpa [upd] using h1
  ·rcases h b hb with h1|h1
   ·exact .inl (by omega)
   ·by_cases hab:b=a
    ·exact .inl (by omega)
    ·exact .inr (by simpa [upd,hab] using h1)
 ·rintro ⟨h1,h2⟩ b hb;by_cases hab:b=a
  ·subst hab;exact .inr (by simpa [upd] using h1)
  ·rcases h2 b hb with h3|h3
   ·exact .inl (by omega)
   ·exact .inr (by simpa [upd,hab] using h3)
theorem Inv.note {b:Bs δ}(h:Inv L p D b 1){a:Nat}{live:List Nat}{n:Nat}(hk:(a,live) ∉ b.made.map (·.1))(h1:n<b.tab.ns.length)(h2:a<=aT (b.tab.nd n))(h3:a<10)(h4:p.Can a live)(h5:∀ g,L.In g->b.tab.val g n=sem p D a live g) :
  Inv L p D ⟨b.tab,b.made++[((a,live),n)]⟩ where
 ok:=h.ok
 made a' Sv n' hn:=by
  rcases List.mem_append.1 hn with hn|hn
  ·exact h.made a' Sv n' hn
  ·simp only[List.mem_singleton,Prod.mk.injEq] at hn;obtain⟨⟨rfl,rfl⟩,rfl⟩:=hn;exact⟨h1,h2,h3,h4,h5⟩
 keys:=by
  rw[List.map_append,List.nodup_append];exact⟨h.keys,by simp,fun x hx y hy e=>hk (by simp at hy;rw[<- hy,<- e];exact hx)⟩
 size:=by have:=h.size;simp;omega
 sD:=h.sD
 dec:=h.dec
theorem Vs (hL:L.Ok)(hp:p.Ok L D):∀ (r a:Nat)(live:List Nat)(f:Fa)(b:Bs δ),a+r=10->Inv L p D b->live=(List.range p.nz).filter (p.Pre a f) ->
  Inv L p D (make p r a live f b).1/\Ext b.tab (make p r a live f b).1.tab/\(make p r a live f b).2<(make p r a live f b).1.tab.ns.length/\a<=aT ((make p r a live f b).1.tab.nd (make p r a live f b).2) /\
   (∀ g,L.In g->(make p r a live f b).1.tab.val g (make p r a live f b).2=sem p D a live g)/\Keys a b (make p r a live f b).1
 |0,a,live,f,b,ha,hb,hlive=>by
  have:a=10:=by omega
  subst this;have hsub:p.Can 10 live:=⟨_,hlive⟩;have hd:p.dec f=D live:=by
   rw[hp.dec,hlive];congr 1
  obtain⟨h1,h2,h3,h4,h5,h6⟩:=cw1 hb hsub hd;simp only[make];exact⟨h1,h2,h3,by omega,fun g _=>by rw[h5,nb1,hd],fun k hk=>by rw[h6] at hk;exact .inl hk⟩
 |r+1,a,live,f,b,ha,hb,hlive=>by
  have qy:a<10:=by omega
  have hsub:p.Can a live:=⟨_,hlive⟩;simp only[make]
  cases hlk:look b.made (a,live) with
  |some n =>
   obtain⟨m1,m2,m3,m4,m5⟩:=hb.made a live n (jy1 hlk);exact⟨hb,.refl _,m1,m2,m5,fun k hk=>.inl hk⟩
  |none =>
   have hno:=Zw hlk;dsimp only;obtain⟨l,hl,hasc,hst⟩:=hp.st a live qy;generalize X0:(fun c b=>make p r (a+1) (live.filter fun z=>p.at z a c) (upd f a c) b)=F;have hF:Ve L p D a (fun c g=>sem p D (a+1) (live.filter fun z=>p.at z a c) g) F:=fun c b _ _ hb=>by
    subst X0;refine Vs hL hp r (a+1) _ (upd f a c) b (by omega) hb ?_;rw[hlive,List.filter_filter];exact List.filter_congr fun z _=>(qt1 qy f c z).symm
   rw[hl];obtain⟨f1,f2,f3,f4,f5,f6⟩:=hF (L.lo a) b (Int.le_refl _) (hL a) hb;have hk0:kids F (L.lo a::l) b [] []=kids F l (F (L.lo a) b).1 [] [(F (L.lo a) b).2]:=by simp[kids]
   rw[hk0];obtain⟨k1,k2,k3⟩:=cq0 hF l (L.lo a) (F (L.lo a) b).1 [] [(F (L.lo a) b).2] hasc (Int.le_refl _) (by simp)
    (fun c hc v h1 h2 h3=>by
     have:=(JJ hasc c hc).1;funext g;rw[ft1 hst (by omega) h1 h2 h3])
    ⟨f1,rfl,trivial,by simp,trivial,by simpa using⟨f3,f4⟩,fun v h1 h2 h3=>⟨_,rfl,fun g hg=>by
     rw[f5 g hg,ft1 hst (Int.le_refl _) h1 h2 fun d hd=>.inr (h3 d hd)]⟩⟩
   generalize kids F l (F (L.lo a) b).1 [] [(F (L.lo a) b).2]=q at k1 k2 k3;obtain⟨b2,C,K⟩:=q;dsimp only at k1 k2 k3 ⊢;have hno2:(a,live) ∉ b2.made.map (·.1):=fun e=>by
    rcases k3 _ e with e|e
    ·rcases f6 _ e with e|e
     ·exact hno e
     ·simp at e;omega
    ·simp at e;omega
   have hval:∀ g,L.In g->∃ k,K[iK C (g a)]?=some k/\b2.tab.val g k=sem p D a live g:=fun g hg=>by
    obtain⟨k,e1,e2⟩:=k1.val (g a) (hg a qy).1 (hg a qy).2 (by simp);exact⟨k,e1,by rw[e2 g hg,<- gk1 qy]⟩
   have hext:=f2.trans k2;have hkeys:Keys a b b2:=fun k hk=>by
    rcases k3 k hk with e|e
    ·rcases f6 k e with e|e
     ·exact .inl e
     ·exact .inr (by omega)
    ·exact .inr (by omega)
   have fin:∀ (b3:Bs δ)(n:Nat),Inv L p D b3 1->Ext b2.tab b3.tab->b3.made=b2.made->n<b3.tab.ns.length->a<=aT (b3.tab.nd n)->(∀ g,L.In g->b3.tab.val g n=sem p D a live g) ->
     Inv L p D ⟨b3.tab,b3.made++[((a,live),n)]⟩/\Ext b.tab b3.tab/\n<b3.tab.ns.length/\a<=aT (b3.tab.nd n)/\(∀ g,L.In g->b3.tab.val g n=sem p D a live g)/\Keys a b ⟨b3.tab,b3.made++[((a,live),n)]⟩:=fun b3 n i1 i2 i3 i4 i5 i6=>by
    refine⟨i1.note (by rw[i3];exact hno2) i4 i5 qy hsub i6,hext.trans i2,i4,i5,i6,fun k hk=>?_⟩;simp only[List.map_append,List.mem_append,List.map_cons,List.map_nil,List.mem_singleton] at hk;rcases hk with hk|hk
    ·rw[i3] at hk;exact hkeys k hk
    ·exact .inr (by rw[hk];exact Nat.le_refl _)
   match K,C,k1,hval with
   |[],C,k1,_=>have:=k1.len;simp at this
   |[n],C,k1,hval =>
    have hC:C=[]:=by have:=k1.len;simpa using this
    subst hC;obtain⟨n1,n2⟩:=k1.kid n (by simp);exact fin b2 n { k1.inv with size:=Nat.le_succ_of_le k1.inv.size } (.refl _) rfl n1 (by omega) fun g hg=>by
     obtain⟨k,e1,e2⟩:=hval g hg;simp[iK] at e1;subst e1;exact e2
   |n0::n1::K,C,k1,hval =>
    have hnil:n0::n1::K≠[]:=by simp
    have BO:Fine L b2.tab.ns.length b2.tab.ls.length b2.tab.nd ⟨a,C,n0::n1::K,0⟩:=⟨fun e=>by simp at e,fun _=>⟨qy,rfl,k1.len,fun e=>by have:=k1.len;dsimp only at e;subst e;simp at this,k1.asc⟩,fun k hk=>k1.kid k hk,k1.adj⟩;obtain⟨h1,h2,h3,h4,h5,h6,h7,h8,h9⟩:=ew0 k1.inv.ok BO;have hi3:∀ g,L.In g->(addN b2 ⟨a,C,n0::n1::K,0⟩).1.tab.val g (addN b2 ⟨a,C,n0::n1::K,0⟩).2=sem p D a live g:=fun g hg=>by
     rw[Rz h1 h3 (by rw[h4];exact hnil),h4];obtain⟨k,e1,e2⟩:=hval g hg;dsimp only;rw[List.getD_eq_getElem?_getD,e1,Option.getD_some,<- e2];exact h2.val k1.inv.ok g 11 k (k1.kid k (List.mem_of_getElem? e1)).1
    have Iy:a<=aT ((addN b2 ⟨a,C,n0::n1::K,0⟩).1.tab.nd (addN b2 ⟨a,C,n0::n1::K,0⟩).2):=by rw[h4];unfold aT;rw[if_neg hnil];exact Nat.le_refl _
    exact fin _ _ (k1.inv.ext h1 h2 h5 (by rw[h6,h5];have:=k1.inv.size;omega) (fun i hi=>by
     rw[h6] at hi;obtain⟨l',hl'⟩:=h2.ns;rw[hl'];exact List.mem_append_left _ (k1.inv.sD i hi)) (by rw[h6];exact k1.inv.dec)) h2 h5 h3 Iy hi3
end
end Tb
namespace Tb
section
variable {kids:Nat->List Nat}{lv:Nat->Nat}{N:Nat}
structure lK (kids:Nat->List Nat)(N:Nat)(o r:List Nat):Prop where
 pre:∃ l,r=o++l
 clo:∀ y∈r,y∈o\/∀ k∈kids y,k∈r
 CZ:o.Nodup->r.Nodup
 lt:∀ y∈r,y∈o\/y<N
theorem lK.sub {o r:List Nat}(h:lK kids N o r):∀ y∈o,y∈r:=by
 obtain⟨l,hl⟩:=h.pre;intro y hy;rw[hl];exact List.mem_append_left _ hy
theorem lK.trans {o r s:List Nat}(h:lK kids N o r)(k:lK kids N r s):lK kids N o s where
 pre:=by obtain⟨a,ha⟩:=h.pre;obtain⟨b,hb⟩:=k.pre;exact⟨a++b,by rw[hb,ha,List.append_assoc]⟩
 clo y hy:=by
  rcases k.clo y hy with h1|h1
  ·rcases h.clo y h1 with h2|h2
   ·exact .inl h2
   ·exact .inr fun x hx=>k.sub x (h2 x hx)
  ·exact .inr h1
 CZ ho:=k.CZ (h.CZ ho)
 lt y hy:=by
  rcases k.lt y hy with h1|h1
  ·exact h.lt y h1
  ·exact .inr h1
theorem Ed (hk:∀ x,x<N->∀ k∈kids x,k<N/\lv x<lv k):∀ (n x:Nat)(o:List Nat),x<N->10<n+lv x->lv x<=10->(∀ x,x<N->lv x<=10)->lK kids N o (walk kids n x o)/\x∈walk kids n x o
 |0,x,o,hx,h1,h2,_=>by omega
 |n+1,x,o,hx,h1,h2,hlv=>by
  simp only[walk];by_cases hm:x∈o
  ·rw[if_pos hm];exact⟨⟨⟨[],by simp⟩,fun y hy=>.inl hy,fun h=>h,fun y hy=>.inl hy⟩,hm⟩
  ·rw[if_neg hm];have fold:∀ (l o:List Nat),(∀ k∈l,k<N/\lv x<lv k)->lK kids N o (l.foldl (fun o k=>walk kids n k o) o)/\∀ k∈l,k∈l.foldl (fun o k=>walk kids n k o) o:=by
    intro l
    induction l with
    |nil=>exact fun o _=>⟨⟨⟨[],by simp⟩,fun y hy=>.inl hy,fun h=>h,fun y hy=>.inl hy⟩,by simp⟩
    |cons k l ih =>
     intro o hl;obtain⟨k1,k2⟩:=hl k (by simp);obtain⟨w1,w2⟩:=Ed hk n k o k1 (by omega) (hlv k k1) hlv;obtain⟨f1,f2⟩:=ih (walk kids n k o) (fun k' hk'=>hl k' (by simp[hk']));simp only[List.foldl_cons];refine⟨w1.trans f1,fun k' hk'=>?_⟩;rcases List.mem_cons.1 hk' with rfl|hk'
     ·exact f1.sub _ w2
     ·exact f2 k' hk'
   obtain⟨f1,f2⟩:=fold (kids x) (o++[x]) (hk x hx);refine⟨⟨?_,fun y hy=>?_,fun ho=>f1.CZ ?_,fun y hy=>?_⟩,f1.sub x (by simp)⟩
   ·obtain⟨l,hl⟩:=f1.pre;exact⟨x::l,by rw[hl];simp⟩
   ·rcases f1.clo y hy with h|h
    ·rcases List.mem_append.1 h with h|h
     ·exact .inl h
     ·simp at h;subst h;exact .inr f2
    ·exact .inr h
   ·rw[List.nodup_append];exact⟨ho,by simp,fun a ha b hb e=>hm (by simp at hb;rw[<- hb,<- e];exact ha)⟩
   ·rcases f1.lt y hy with h|h
    ·rcases List.mem_append.1 h with h|h
     ·exact .inl h
     ·simp at h;subst h;exact .inr hx
    ·exact .inr h
end
section
variable {δ:Type}[Inhabited δ][DecidableEq δ]{L:Ac}{t:Tab δ}
def pos (O:List Nat)(x:Nat):Nat:=(idx O x).getD 0
def ren (t:Tab δ)(ps:Nat->Nat):List Nat->Nat->List Nd
 |[],_=>[]
 |x::l,k=>if (t.nd x).kids=[] then ⟨(t.nd x).attr,(t.nd x).cuts,[],k⟩::ren t ps l (k+1) else ⟨(t.nd x).attr,(t.nd x).cuts,(t.nd x).kids.map ps,(t.nd x).leaf⟩::ren t ps l k
def tq (t:Tab δ)(O:List Nat):List δ:=(O.filter fun x=>(t.nd x).kids.isEmpty).map fun x=>t.ls.getD (t.nd x).leaf default
def Xl (t:Tab δ)(root:Nat):Tab δ :=
 let O:=walk (fun x=>(t.nd x).kids) 11 root []
 ⟨ren t (pos O) O 0,tq t O⟩
def nO (t:Tab δ)(O:List Nat):Nat:=(O.filter fun x=>(t.nd x).kids.isEmpty).length
theorem W9 (ps:Nat->Nat):∀ (O:List Nat)(k:Nat),(ren t ps O k).length=O.length
 |[],_=>rfl
 |x::l,k=>by simp only[ren];split<;>simp[W9 ps l]
theorem Rx (ps:Nat->Nat):∀ (O:List Nat)(k i:Nat),(ren t ps O k)[i]?=(O[i]?).map fun x=>⟨(t.nd x).attr,(t.nd x).cuts,(t.nd x).kids.map ps,if (t.nd x).kids=[] then k+nO t (O.take i) else (t.nd x).leaf⟩
 |[],_,_=>by simp[ren]
 |x::l,k,0=>by
  simp only[ren];by_cases h:(t.nd x).kids=[]
  ·rw[if_pos h];simp[h,nO]
  ·rw[if_neg h];simp[h]
 |x::l,k,i+1=>by
  simp only[ren];by_cases h:(t.nd x).kids=[]
  ·rw[if_pos h,List.getElem?_cons_succ,Rx ps l (k+1) i,List.getElem?_cons_succ];have:nO t ((x::l).take (i+1))=nO t (l.take i)+1:=by unfold nO;rw[List.take_succ_cons,List.filter_cons_of_pos (by simp[h])];simp
   rw[this];congr 1;funext y;split
   ·simp;omega
   ·rfl
  ·rw[if_neg h,List.getElem?_cons_succ,Rx ps l k i,List.getElem?_cons_succ];have:nO t ((x::l).take (i+1))=nO t (l.take i):=by unfold nO;rw[List.take_succ_cons,List.filter_cons_of_neg (by simp[h])]
   rw[this]
theorem gt1 (ps:Nat->Nat):∀ (O:List Nat)(k i:Nat),(ren t ps O k).take i=ren t ps (O.take i) k
 |[],_,_=>by simp[ren]
 |x::l,k,0=>by simp[ren]
 |x::l,k,i+1=>by
  simp only[ren,List.take_succ_cons];split<;>simp[gt1 ps l]
theorem WX (ps:Nat->Nat):∀ (O:List Nat)(k:Nat),((ren t ps O k).filter fun n=>n.kids.isEmpty).length=nO t O
 |[],_=>rfl
 |x::l,k=>by
  simp only[ren,nO];by_cases h:(t.nd x).kids=[]
  ·rw[if_pos h,List.filter_cons_of_pos (by rfl),List.filter_cons_of_pos (by simp[h]),List.length_cons,List.length_cons,WX ps l];rfl
  ·rw[if_neg h,List.filter_cons_of_neg (by simp[h]),List.filter_cons_of_neg (by simp[h]),WX ps l];rfl
theorem nf0 {α:Type}{l:List α}(h:∀ (i j:Nat)(a:α),l[i]?=some a->l[j]?=some a->i=j):l.Nodup:=by
 rw[List.Nodup,List.pairwise_iff_getElem];intro i j hi hj hij he;have:=h i j l[i] (List.getElem?_eq_getElem hi) (by rw[List.getElem?_eq_getElem hj,he]);omega
theorem Vd {α:Type}{l:List α}(h:l.Nodup){i j:Nat}{a:α}(hi:l[i]?=some a)(hj:l[j]?=some a):i=j:=by
 obtain⟨h1,h2⟩:=List.getElem?_eq_some_iff.1 hi;obtain⟨h3,h4⟩:=List.getElem?_eq_some_iff.1 hj;exact Vw h h1 h3 (h2.trans h4.symm)
theorem nm0 {α β:Type}{f:α->β}:∀ {l:List α},l.Nodup->(∀ a∈l,∀ b∈l,f a=f b->a=b)->(l.map f).Nodup
 |[],_,_=>by simp
 |a::l,h,hf=>by
  rw[List.nodup_cons] at h;rw[List.map_cons,List.nodup_cons];refine⟨fun hm=>?_,nm0 h.2 fun x hx y hy=>hf x (by simp[hx]) y (by simp[hy])⟩;obtain⟨b,hb,e⟩:=List.mem_map.1 hm;exact h.1 (hf b (by simp[hb]) a (by simp) e▸hb)
theorem Ls {O:List Nat}{x:Nat}(hx:x∈O):O[pos O x]?=some x:=by
 unfold pos
 cases h:idx O x with
 |none=>exact absurd hx (Yx h)
 |some i=>exact Yq h
theorem ge0 {α:Type}(q:α->Bool){l:List α}{i j:Nat}{a:α}(hi:l[i]?=some a)(hq:q a=true)(hij:i<j):((l.take i).filter q).length<((l.take j).filter q).length:=by
 have hlt:=(List.getElem?_eq_some_iff.1 hi).1;have:l.take j=l.take i++(a::(l.drop (i+1)).take (j - (i+1))):=by
  have e:j=i+(1+(j - (i+1))):=by omega
  conv=>lhs;rw[e,List.take_add]
  rw[List.drop_eq_getElem_cons hlt,Nat.add_comm 1,List.take_succ_cons];rw[(List.getElem?_eq_some_iff.1 hi).2]
 rw[this,List.filter_append,List.length_append,List.filter_cons_of_pos hq];simp
theorem eu0 {α:Type}(q:α->Bool){l:List α}{i:Nat}{a:α}(hi:l[i]?=some a)(hq:q a=true):((l.take i).filter q).length<(l.filter q).length:=by
 have hlt:=(List.getElem?_eq_some_iff.1 hi).1;have:=ge0 q hi hq (j:=l.length) hlt
 rwa [List.take_length] at this
theorem vi1 (hL:L.Ok)(h:t.Ok L){root:Nat}(hr:root<t.ns.length):(Xl t root).Canon L/\(Xl t root).fn L 0=t.fn L root:=by
 obtain⟨w1,w2⟩:=Ed (kids:=fun x=>(t.nd x).kids) (lv:=fun x=>aT (t.nd x)) (N:=t.ns.length) (fun x hx k hk=>Dz h hx k hk) 11 root [] hr (by omega) (xG h hr) (fun x hx=>xG h hx);have hO:Xl t root=⟨ren t (pos (walk (fun x=>(t.nd x).kids) 11 root [])) (walk (fun x=>(t.nd x).kids) 11 root []) 0,tq t (walk (fun x=>(t.nd x).kids) 11 root [])⟩:=rfl;have Dn:(walk (fun x=>(t.nd x).kids) 11 root [])[0]?=some root:=by
  have:walk (fun x=>(t.nd x).kids) 11 root []=(t.nd root).kids.foldl (fun o k=>walk (fun x=>(t.nd x).kids) 10 k o) [root]:=by simp[walk]
  rw[this];have:∀ (l o:List Nat),o[0]?=some root->(l.foldl (fun o k=>walk (fun x=>(t.nd x).kids) 10 k o) o)[0]?=some root:=by
   intro l
   induction l with
   |nil=>exact fun o h=>h
   |cons k l ih =>
    intro o ho;refine ih _ ?_;show (walk _ (9+1) k o)[0]?=some root;simp only[walk];split
    ·exact ho
    ·have:∀ (n:Nat)(l o:List Nat),o[0]?=some root->(l.foldl (fun o k=>walk (fun x=>(t.nd x).kids) n k o) o)[0]?=some root:=by
      intro n
      induction n with
      |zero=>intro l;induction l with
       |nil=>exact fun o h=>h
       |cons k l ih=>intro o ho;exact ih _ ho
      |succ n ihn=>intro l;induction l with
       |nil=>exact fun o h=>h
       |cons k l ih =>
        intro o ho;refine ih _ ?_;simp only[walk];split
        ·exact ho
        ·exact ihn _ _ (by cases o with|nil=>cases ho|cons a o=>simpa using ho)
     exact this 9 _ _ (by cases o with|nil=>cases ho|cons a o=>simpa using ho)
  exact this _ _ rfl
 generalize hOe:walk (fun x=>(t.nd x).kids) 11 root []=O at w1 w2 hO Dn;rw[hO];have wY:O.Nodup:=w1.CZ (by simp);have hlt:∀ x∈O,x<t.ns.length:=fun x hx=>(w1.lt x hx).resolve_left (by simp)
 have uM:∀ x∈O,∀ k∈(t.nd x).kids,k∈O:=fun x hx=>(w1.clo x hx).resolve_left (by simp)
 have hnd:∀ i x,O[i]?=some x->(⟨ren t (pos O) O 0,tq t O⟩:Tab δ).nd i=⟨(t.nd x).attr,(t.nd x).cuts,(t.nd x).kids.map (pos O),if (t.nd x).kids=[] then nO t (O.take i) else (t.nd x).leaf⟩:=fun i x hx=>by
  unfold Tab.nd;rw[List.getD_eq_getElem?_getD,Rx,hx];simp[Tab.nd]
 have hlen:(ren t (pos O) O 0).length=O.length:=W9 _ _ _;have Iy:∀ i x,O[i]?=some x->aT ((⟨ren t (pos O) O 0,tq t O⟩:Tab δ).nd i)=aT (t.nd x):=fun i x hx=>by
  rw[hnd i x hx];unfold aT;simp
 have MH:∀ x∈O,pos O x<O.length:=fun x hx=>(List.getElem?_eq_some_iff.1 (Ls hx)).1
 have J4:∀ x∈O,∀ y∈O,pos O x=pos O y->x=y:=fun x hx y hy e=>by
  have:=Ls hx;rw[e,Ls hy] at this;exact(Option.some.inj this).symm
 have hok:Tab.Ok L (⟨ren t (pos O) O 0,tq t O⟩:Tab δ):=by
  refine⟨fun i hi=>?_,nf0 fun i j a hi hj=>?_,?_⟩
  ·rw[hlen] at hi;obtain⟨x,hx⟩:∃ x,O[i]?=some x:=⟨_,List.getElem?_eq_getElem hi⟩;have EL:=List.mem_of_getElem? hx;have hf:=h.fine x (hlt x EL);rw[hnd i x hx];refine⟨fun hk=>?_,fun hk=>?_,fun k' hk'=>?_,?_⟩
   ·have hk:(t.nd x).kids=[]:=by simpa using hk
    refine⟨(hf.leaf hk).1,(hf.leaf hk).2.1,?_⟩;dsimp only;rw[if_pos hk];show nO t (O.take i)<(tq t O).length;rw[tq,List.length_map];exact eu0 (fun x=>(t.nd x).kids.isEmpty) hx (by simp[hk])
   ·have hk:(t.nd x).kids≠[]:=by simpa using hk
    obtain⟨a1,a2,a3,a4,a5⟩:=hf.inner hk;refine⟨a1,?_,by simpa using a3,a4,a5⟩;dsimp only;rw[if_neg hk];exact a2
   ·obtain⟨k,hk,rfl⟩:=List.mem_map.1 hk';have XQ:=uM x EL k hk;refine⟨by show _<(ren t (pos O) O 0).length;rw[hlen];exact MH k XQ,?_⟩;rw[Iy _ k (Ls XQ)];exact(hf.kid k hk).2
   ·exact Wu hf.adj fun a ha b hb e=>J4 a (uM x EL a ha) b (uM x EL b hb) e
  ·rw[Rx] at hi hj;rw[Option.map_eq_some_iff] at hi hj;obtain⟨x,hx,e1⟩:=hi;obtain⟨y,hy,e2⟩:=hj;have EL:=List.mem_of_getElem? hx;have hyO:=List.mem_of_getElem? hy;rw[<- e2] at e1;simp only[Nd.mk.injEq,Nat.zero_add] at e1;obtain⟨q1,q2,q3,q4⟩:=e1;by_cases hk:(t.nd x).kids=[]
   ·have hk':(t.nd y).kids=[]:=by rw[hk] at q3;simpa using q3.symm
    rw[if_pos hk,if_pos hk'] at q4;rcases Nat.lt_trichotomy i j with hij|hij|hij
    ·have:=ge0 (fun x=>(t.nd x).kids.isEmpty) hx (by simp[hk]) hij;unfold nO at q4;omega
    ·exact hij
    ·have:=ge0 (fun x=>(t.nd x).kids.isEmpty) hy (by simp[hk']) hij;unfold nO at q4;omega
   ·have hk':(t.nd y).kids≠[]:=fun e=>hk (by rw[e] at q3;simpa using q3)
    have q5:=mc0 (fun a ha b hb e=>J4 a (uM x EL a ha) b (uM y hyO b hb) e) q3;have:x=y:=bi1 h (hlt x EL) (hlt y hyO) (by
     have l1:=((h.fine x (hlt x EL)).inner hk).2.1;have l2:=((h.fine y (hlt y hyO)).inner hk').2.1;cases hnx:t.nd x;cases hny:t.nd y
     simp_all)
    subst this;exact Vd wY hx hy
  ·refine nm0 (wY.sublist List.filter_sublist) fun x hx y hy e=>?_
   obtain⟨hx,hkx⟩:=List.mem_filter.1 hx;obtain⟨hy,hky⟩:=List.mem_filter.1 hy;have hkx:(t.nd x).kids=[]:=by simpa using hkx
   have hky:(t.nd y).kids=[]:=by simpa using hky
   obtain⟨a1,a2,a3⟩:=(h.fine x (hlt x hx)).leaf hkx;obtain⟨b1,b2,b3⟩:=(h.fine y (hlt y hy)).leaf hky;have:=getD_inj h.uD a3 b3 e;refine bi1 h (hlt x hx) (hlt y hy) ?_;cases hnx:t.nd x;cases hny:t.nd y
   simp_all
 have Iz:0<O.length:=(List.getElem?_eq_some_iff.1 Dn).1;have hval:∀ (n i x:Nat)(g:Fa),O[i]?=some x->(⟨ren t (pos O) O 0,tq t O⟩:Tab δ).Ae g n i=t.Ae g n x:=by
  intro n
  induction n with
  |zero=>exact fun i x g _=>rfl
  |succ n ih =>
   intro i x g hx;have EL:=List.mem_of_getElem? hx;simp only[Tab.Ae,hnd i x hx];by_cases hk:(t.nd x).kids=[]
   ·rw[if_pos (by simp[hk]),if_pos hk,if_pos hk];unfold tq nO;rw[List.getD_eq_getElem?_getD,List.getElem?_map];have:(O.filter fun x=>(t.nd x).kids.isEmpty)[((O.take i).filter fun x=>(t.nd x).kids.isEmpty).length]?=some x:=by
     have e:O=O.take i++x::O.drop (i+1):=by
      have hlt:=(List.getElem?_eq_some_iff.1 hx).1
      conv=>lhs;rw[<- List.take_append_drop i O,List.drop_eq_getElem_cons hlt,(List.getElem?_eq_some_iff.1 hx).2]
     conv=>lhs;rw[e]
     rw[List.take_append_of_le_length (by simp;have:=(List.getElem?_eq_some_iff.1 hx).1;omega)];rw[List.filter_append,List.filter_cons_of_pos (by simp[hk])];rw[List.take_take,Nat.min_self];rw[List.getElem?_append_right (Nat.le_refl _)];simp
    rw[this];rfl
   ·rw[if_neg (by simpa using hk),if_neg hk];obtain⟨k1,k2⟩:=FI h (hlt x EL) hk (g (t.nd x).attr);rw[List.getD_eq_getElem?_getD,List.getElem?_map,k1,Option.map_some,Option.getD_some];exact ih _ _ g (Ls (uM x EL _ k2))
 refine⟨⟨hok,by show 0<(ren t (pos O) O 0).length;rw[hlen];exact Iz,?_,fun i hi hk=>?_,?_⟩,funext fun g=>hval 11 0 root g.1 Dn⟩
 ·let R:Nat->Nat->Prop:=fun i x=>O[i]?=some x
  have inj:∀ x y x' y',R x y->R x' y'->(x=x'↔y=y'):=fun i x j y h1 h2=>⟨fun e=>by subst e;exact Option.some.inj (h1.symm.trans h2),fun e=>by subst e;exact Vd wY h1 h2⟩
  have hk:∀ i x,R i x->Ci R ((⟨ren t (pos O) O 0,tq t O⟩:Tab δ).nd i).kids (t.nd x).kids:=fun i x hx=>by
   rw[hnd i x hx];have:∀ l:List Nat,(∀ k∈l,k∈O)->Ci R (l.map (pos O)) l:=by
    intro l
    induction l with
    |nil=>exact fun _=>.nil
    |cons k l ih=>exact fun hl=>.cons (Ls (hl k (by simp))) (ih fun k' hk'=>hl k' (by simp[hk']))
   exact this _ (uM x (List.mem_of_getElem? hx))
  have hw:=od0 R inj hk 11 0 root [] [] Dn .nil;rw[hOe] at hw;obtain⟨e1,e2⟩:=pw0 hw;refine List.ext_getElem (by rw[e1,List.length_range];exact hlen.symm) fun i h1 h2=>?_
  rw[List.getElem_range];have hi:i<O.length:=by rw[<- e1];exact h1
  have:=e2 i _ _ (List.getElem?_eq_getElem h1) (List.getElem?_eq_getElem hi);exact Vd wY this (List.getElem?_eq_getElem hi)
 ·have hi':i<O.length:=by rw[<- hlen];exact hi
  rw[hnd i O[i] (List.getElem?_eq_getElem hi')] at hk ⊢;have hk:(t.nd O[i]).kids=[]:=by simpa using hk
  dsimp only;rw[if_pos hk,gt1,WX]
 ·show (tq t O).length=((ren t (pos O) O 0).filter fun n=>n.kids.isEmpty).length;rw[WX,tq,List.length_map];rfl
theorem LC {α:Type}[DecidableEq α]:∀ {l m:List α},l.Nodup->(∀ x∈l,x∈m)->l.length<=m.length
 |[],_,_,_=>Nat.zero_le _
 |a::l,m,h,hs=>by
  rw[List.nodup_cons] at h;have ha:=hs a (by simp);have:=LC (l:=l) (m:=m.erase a) h.2 fun x hx=>(List.mem_erase_of_ne (fun e=>h.1 (by rw[<- e];exact hx))).2 (hs x (by simp[hx]))
  rw[List.length_erase_of_mem ha] at this;have:=List.length_pos_of_mem ha;simp only[List.length_cons];omega
def subs {α:Type}:List α->List (List α)
 |[]=>[[]]
 |a::l=>subs l++(subs l).map (a::·)
theorem on0 {α:Type}:∀ l:List α,(subs l).length=2 ^ l.length
 |[]=>rfl
 |a::l=>by simp[subs,on0 l,Nat.pow_succ];omega
theorem fq1 {α:Type}{l m:List α}(h:l.Sublist m):l∈subs m:=by
 induction h with
 |slnil=>simp[subs]
 |cons a _ ih=>exact List.mem_append_left _ ih
 |cons_cons a _ ih=>exact List.mem_append_right _ (List.mem_map.2 ⟨_,ih,rfl⟩)
theorem Inv.fewer {p:iC δ}{D:List Nat->δ}{b:Bs δ}{s:Nat}(h:Inv L p D b s)(Cs:Nat->List (List Nat))(M:Nat)(hC:∀ a l,a<=10->p.Can a l->l∈Cs a)(hM:∀ a,a<=10->(Cs a).length<=M):b.tab.ns.length<=11 * M+s/\b.tab.ls.length<=M:=by
 have h1:b.tab.ls.length<=(Cs 10).length:=by
  have:=LC (l:=b.tab.ls) (m:=(Cs 10).map D) h.ok.uD fun d hd=>by
   obtain⟨live,k1,k2⟩:=h.dec d hd;exact List.mem_map.2 ⟨live,hC _ _ (Nat.le_refl _) k1,k2.symm⟩
  rwa [List.length_map] at this
 have h2:b.made.length<=10 * M:=by
  have:=LC (l:=b.made.map (·.1)) (m:=(List.range 10).flatMap fun a=>(Cs a).map fun l=>(a,l)) h.keys fun k hk=>by
   obtain⟨⟨⟨a,live⟩,n⟩,hm,rfl⟩:=List.mem_map.1 hk;obtain⟨k1,k2,k3,k4,k5⟩:=h.made a live n hm;exact List.mem_flatMap.2 ⟨a,List.mem_range.2 k3,List.mem_map.2 ⟨live,hC _ _ (by omega) k4,rfl⟩⟩
  rw[List.length_map,List.length_flatMap] at this;simp only[List.length_map] at this;have e:((List.range 10).map fun a=>(Cs a).length).sum<=10 * M:=by
   have:=hM 0 (by omega);have:=hM 1 (by omega);have:=hM 2 (by omega);have:=hM 3 (by omega);have:=hM 4 (by omega);have:=hM 5 (by omega);have:=hM 6 (by omega);have:=hM 7 (by omega);have:=hM 8 (by omega);have:=hM 9 (by omega);simp[List.range,List.range.loop];omega
  omega
 have:=h.size;have:=hM 10 (Nat.le_refl _);exact⟨by omega,by omega⟩
theorem Inv.few {p:iC δ}{D:List Nat->δ}{b:Bs δ}{s:Nat}(h:Inv L p D b s):b.tab.ns.length<=11 * 2 ^ p.nz+s/\b.tab.ls.length<=2 ^ p.nz :=
 h.fewer (fun _=>subs (List.range p.nz)) _ (fun a l _ ⟨_,e⟩=>fq1 (e▸List.filter_sublist)) fun a _=>by rw[on0,List.length_range];exact Nat.le_refl _
def Sm (M:Nat)(b:Bs δ):Prop:=∀ n∈b.tab.ns,n.kids.length<=M
theorem Sm.addN {M:Nat}{b:Bs δ}(h:Sm M b){n:Nd}(hn:n.kids.length<=M):Sm M (addN b n).1:=by
 unfold Tb.addN;split
 ·exact h
 ·intro x hx;rcases List.mem_append.1 hx with hx|hx
  ·exact h x hx
  ·simp at hx;subst hx;exact hn
theorem ml0 {M:Nat}{F:Int->Bs δ->Bs δ×Nat}(hF:∀ c b,Sm M b->Sm M (F c b).1):∀ (l:List Int)(b:Bs δ)(C:List Int)(K:List Nat),Sm M b->Sm M (Tb.kids F l b C K).1/\(Tb.kids F l b C K).2.2.length<=K.length+l.length
 |[],b,C,K,h=>⟨h,by simp[Tb.kids]⟩
 |c::l,b,C,K,h=>by
  simp only[Tb.kids];split
  ·obtain⟨h1,h2⟩:=ml0 hF l (F c b).1 C K (hF c b h);exact⟨h1,by rw[List.length_cons];omega⟩
  ·obtain⟨h1,h2⟩:=ml0 hF l (F c b).1 (if K=[] then C else C++[c]) (K++[(F c b).2]) (hF c b h);exact⟨h1,by rw[List.length_cons];simp only[List.length_append,List.length_singleton] at h2;omega⟩
theorem iu0 {p:iC δ}{M N:Nat}(hst:∀ a live,live.length<=N->(p.starts a live).length<=M):∀ (r a:Nat)(live:List Nat)(f:Fa)(b:Bs δ),live.length<=N->Sm M b->Sm M (make p r a live f b).1
 |0,a,live,f,b,_,h=>by
  simp only[make,xK];split
  ·exact h.addN (by simp)
  ·exact Sm.addN (b:={ b with tab:={ b.tab with ls:=b.tab.ls++[p.dec f] } }) h (by simp)
 |r+1,a,live,f,b,hl,h=>by
  simp only[make];split
  ·exact h
  ·obtain⟨k1,k2⟩:=ml0 (M:=M) (F:=fun c b=>make p r (a+1) (live.filter fun z=>p.at z a c) (upd f a c) b) (fun c b hb=>iu0 hst r (a+1) _ _ b (Nat.le_trans (List.length_filter_le _ _) hl) hb) (p.starts a live) b [] [] h;have:=hst a live hl;simp only[List.length_nil,Nat.zero_add] at k2;split
   ·exact k1
   ·exact k1.addN (by simp only;omega)
end
end Tb
