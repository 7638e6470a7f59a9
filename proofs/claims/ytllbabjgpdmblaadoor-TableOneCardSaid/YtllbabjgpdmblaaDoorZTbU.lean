/- Parts of the proof. -/
set_option linter.unusedSimpArgs false
set_option linter.unusedVariables false
set_option linter.unusedSectionVars false
namespace Tb
set_option linter.unusedSectionVars false
theorem gw0 {α:Type}{l:List α}(h:l.Nodup){i j:Nat}(hi:i<l.length)(hj:j<l.length)(he:l[i]=l[j]):i=j:=by
 have:=List.pairwise_iff_getElem.1 h
 rcases Nat.lt_trichotomy i j with h1 | h1 | h1
 ·exact absurd he (this i j hi hj h1)
 ·exact h1
 ·exact absurd he.symm (this j i hj hi h1)
inductive Fa2 {α β:Type} (R:α→β→Prop):List α→List β→Prop
 | nil:Fa2 R [] []
 | cons {a b l l'}:R a b→Fa2 R l l'→Fa2 R (a::l) (b::l')
structure Nd where
 attr:Nat
 cuts:List Int
 kids:List Nat
 leaf:Nat
deriving DecidableEq, Inhabited
structure Lim where
 lo:Nat→Int
 hi:Nat→Int
abbrev Fa := Nat→Int
def Lim.In (L:Lim)(g:Fa):Prop:=∀ a,a<10→L.lo a≤g a∧g a≤L.hi a
def upd (g:Fa)(a:Nat)(v:Int):Fa:=fun b=>if b=a then v else g b
def wo0 : List Int→Int→Nat
 | [],_=>0
 | c::l,v=>if c≤v then wo0 l v+1 else 0
def Asc : Int→Int→List Int→Prop
 | _,_,[]=>True
 | lo,hi,c::l=>lo<c∧c≤hi∧Asc c hi l
def Adj {S:Type}:List S→Prop
 | a::b::l=>a≠b∧Adj (b::l)
 | _=>True
theorem vq0 : ∀ (C:List Int)(lo hi v:Int),Asc lo hi C→v≤lo→wo0 C v=0
 | [],_,_,_,_,_=>rfl
 | c::l,lo,hi,v,h,hv=>by
  have:=h.1
  simp only[wo0]
  rw[if_neg (by omega)]
theorem kidx_le (C:List Int)(v:Int):wo0 C v≤C.length:=by
 induction C with
 | nil=>exact Nat.le_refl _
 | cons c l ih=>simp only[wo0,List.length_cons];split<;>omega
theorem si0 {S:Type}:∀ (C C':List Int)(K K':List S)(lo hi:Int),lo≤hi→Asc lo hi C→Asc lo hi C'→K.length=C.length+1→K'.length=C'.length+1 →
  Adj K→Adj K'→(∀ v,lo≤v→v≤hi→K[wo0 C v]?=K'[wo0 C' v]?)→C=C'∧K=K'
 | C,C',k::K,k'::K',lo,hi,hlh,hC,hC',hl,hl',ha,ha',h=>by
  have h0:=h lo (Int.le_refl _) hlh
  rw[vq0 C lo hi lo hC (Int.le_refl _),vq0 C' lo hi lo hC' (Int.le_refl _)] at h0
  simp only[List.getElem?_cons_zero,Option.some.injEq] at h0
  subst h0
  match C,C',K,K',hC,hC',hl,hl',ha,ha',h with
  | [],[],[],[],_,_,_,_,_,_,_=>exact⟨rfl,rfl⟩
  | [],c'::C',[],k2::K',_,hC',_,_,_,ha',h =>
   have h1:=h c' (by have:=hC'.1;omega) hC'.2.1
   simp only[wo0,Int.le_refl,if_true] at h1
   rw[vq0 C' c' hi c' hC'.2.2 (Int.le_refl _)] at h1
   simp at h1
   exact absurd h1 ha'.1
  | c::C,[],k2::K,[],hC,_,_,_,ha,_,h =>
   have h1:=h c (by have:=hC.1;omega) hC.2.1
   simp only[wo0,Int.le_refl,if_true] at h1
   rw[vq0 C c hi c hC.2.2 (Int.le_refl _)] at h1
   simp at h1
   exact absurd h1.symm ha.1
  | c::C,c'::C',k2::K,k2'::K',hC,hC',hl,hl',ha,ha',h =>
   have hcc:c=c':=by
    rcases Int.lt_trichotomy c c' with hlt | heq | hgt
    ·exfalso
     have h1:=h c (by have:=hC.1;omega) hC.2.1
     simp only[wo0,Int.le_refl,if_true] at h1
     rw[vq0 C c hi c hC.2.2 (Int.le_refl _),if_neg (by omega)] at h1
     simp at h1
     exact ha.1 h1.symm
    ·exact heq
    ·exfalso
     have h1:=h c' (by have:=hC'.1;omega) hC'.2.1
     simp only[wo0,Int.le_refl,if_true] at h1
     rw[vq0 C' c' hi c' hC'.2.2 (Int.le_refl _),if_neg (by omega)] at h1
     simp at h1
     exact ha'.1 h1
   subst hcc
   have:=si0 C C' (k2::K) (k2'::K') c hi hC.2.1 hC.2.2 hC'.2.2 (by simpa using hl) (by simpa using hl') ha.2 ha'.2 (fun v h1 h2=>by
    have:=h v (by have:=hC.1;omega) h2
    simpa only[wo0,if_pos h1,List.getElem?_cons_succ] using this)
   exact⟨by rw[this.1],by rw[this.2]⟩
 | _,_,[],_,_,_,_,_,_,hl,_,_,_,_=>by simp at hl
 | _,_,_::_,[],_,_,_,_,_,_,hl',_,_,_=>by simp at hl'
structure Tab (δ:Type) where
 ns:List Nd
 ls:List δ
section
variable {δ:Type}[Inhabited δ](L:Lim)
def Tab.nd (t:Tab δ)(x:Nat):Nd:=t.ns.getD x default
def lev (n:Nd):Nat:=if n.kids=[] then 10 else n.attr
structure Fine (nn nl:Nat)(at_:Nat→Nd)(n:Nd):Prop where
 leaf:n.kids=[]→n.cuts=[]∧n.attr=0∧n.leaf<nl
 inner:n.kids≠[]→n.attr<10∧n.leaf=0∧n.kids.length=n.cuts.length+1∧n.cuts≠[]∧Asc (L.lo n.attr) (L.hi n.attr) n.cuts
 kid:∀ k∈n.kids,k<nn∧n.attr<lev (at_ k)
 adj:Adj n.kids
structure Tab.Ok (t:Tab δ):Prop where
 fine:∀ x,x<t.ns.length→Fine L t.ns.length t.ls.length t.nd (t.nd x)
 nodup:t.ns.Nodup
 ldup:t.ls.Nodup
def Tab.ua0 (t:Tab δ)(g:Fa):Nat→Nat→δ
 | 0,_=>default
 | n+1,x=>if (t.nd x).kids=[] then t.ls.getD (t.nd x).leaf default else t.ua0 g n ((t.nd x).kids.getD (wo0 (t.nd x).cuts (g (t.nd x).attr)) 0)
def Tab.val (t:Tab δ)(g:Fa)(x:Nat):δ:=t.ua0 g 11 x
variable {L}{t s:Tab δ}
theorem ye0 (h:t.Ok L){x:Nat}(hx:x<t.ns.length):lev (t.nd x)≤10:=by
 unfold lev
 split
 ·exact Nat.le_refl _
 ·rename_i hk;have:=((h.fine x hx).inner hk).1;omega
theorem jj0 (h:t.Ok L){x:Nat}(hx:x<t.ns.length)(hk:(t.nd x).kids≠[])(v:Int):(t.nd x).kids[wo0 (t.nd x).cuts v]?=some ((t.nd x).kids.getD (wo0 (t.nd x).cuts v) 0)∧(t.nd x).kids.getD (wo0 (t.nd x).cuts v) 0∈(t.nd x).kids:=by
 have hl:=((h.fine x hx).inner hk).2.2.1
 have hi:=kidx_le (t.nd x).cuts v
 have hlt:wo0 (t.nd x).cuts v<(t.nd x).kids.length:=by omega
 rw[List.getD_eq_getElem?_getD,List.getElem?_eq_getElem hlt]
 exact⟨rfl,List.getElem_mem hlt⟩
theorem valN_more (h:t.Ok L)(g:Fa):∀ (n m x:Nat),x<t.ns.length→10<n+lev (t.nd x)→10<m+lev (t.nd x)→t.ua0 g n x=t.ua0 g m x
 | 0,_,x,hx,h1,_=>by have:=ye0 h hx;omega
 | _,0,x,hx,_,h2=>by have:=ye0 h hx;omega
 | n+1,m+1,x,hx,h1,h2=>by
  simp only[Tab.ua0]
  split
  ·rfl
  ·rename_i hk
   obtain⟨hm1,hm⟩:=jj0 h hx hk (g (t.nd x).attr)
   obtain⟨k1,k2⟩:=(h.fine x hx).kid _ hm
   have:lev (t.nd x)=(t.nd x).attr:=by unfold lev;rw[if_neg hk]
   exact valN_more h g n m _ k1 (by omega) (by omega)
theorem kt0 {x:Nat}(hk:(t.nd x).kids=[])(g:Fa):t.val g x=t.ls.getD (t.nd x).leaf default:=by
 unfold Tab.val;simp only[Tab.ua0];rw[if_pos hk]
theorem fj0 (h:t.Ok L){x:Nat}(hx:x<t.ns.length)(hk:(t.nd x).kids≠[])(g:Fa):t.val g x=t.val g ((t.nd x).kids.getD (wo0 (t.nd x).cuts (g (t.nd x).attr)) 0):=by
 unfold Tab.val
 conv=>lhs;rw[Tab.ua0]
 rw[if_neg hk]
 obtain⟨hm1,hm⟩:=jj0 h hx hk (g (t.nd x).attr)
 obtain⟨k1,k2⟩:=(h.fine x hx).kid _ hm
 exact valN_more h g 10 11 _ k1 (by omega) (by omega)
theorem val_congr (h:t.Ok L){g g':Fa}:∀ (n x:Nat),x<t.ns.length→10<n+lev (t.nd x)→(∀ a,lev (t.nd x)≤a→a<10→g a=g' a)→t.val g x=t.val g' x
 | 0,x,hx,h1,_=>by have:=ye0 h hx;omega
 | n+1,x,hx,h1,hg=>by
  by_cases hk:(t.nd x).kids=[]
  ·rw[kt0 hk,kt0 hk]
  ·rw[fj0 h hx hk,fj0 h hx hk]
   have hlev:lev (t.nd x)=(t.nd x).attr:=by unfold lev;rw[if_neg hk]
   have ha:=((h.fine x hx).inner hk).1
   rw[hg _ (by omega) ha]
   obtain⟨hm1,hm⟩:=jj0 h hx hk (g' (t.nd x).attr)
   obtain⟨k1,k2⟩:=(h.fine x hx).kid _ hm
   exact val_congr h n _ k1 (by omega) fun a h1 h2=>hg a (by omega) h2
theorem upd_in {g:Fa}(hg:L.In g){a:Nat}{v:Int}(h1:L.lo a≤v)(h2:v≤L.hi a):L.In (upd g a v):=by
 intro b hb
 unfold upd
 split
 ·rename_i e;subst e;exact⟨h1,h2⟩
 ·exact hg b hb
def Tab.fn (L:Lim)(t:Tab δ)(x:Nat):{g:Fa // L.In g}→δ:=fun g=>t.val g.1 x
def Lim.Ok (L:Lim):Prop:=∀ a,L.lo a≤L.hi a
theorem fn_upd (h:t.Ok L){x:Nat}(hx:x<t.ns.length){a:Nat}(ha:a<lev (t.nd x))(g:Fa)(v:Int):t.val (upd g a v) x=t.val g x:=by
 refine val_congr h 11 x hx (by omega) fun b h1 h2=>?_
 unfold upd;rw[if_neg (by omega)]
theorem fn_at (h:t.Ok L){x:Nat}(hx:x<t.ns.length)(hk:(t.nd x).kids≠[])(g:Fa)(v:Int):t.val (upd g (t.nd x).attr v) x=t.val g ((t.nd x).kids.getD (wo0 (t.nd x).cuts v) 0):=by
 rw[fj0 h hx hk]
 have:upd g (t.nd x).attr v (t.nd x).attr=v:=by unfold upd;rw[if_pos rfl]
 rw[this]
 obtain⟨hm1,hm⟩:=jj0 h hx hk v
 obtain⟨k1,k2⟩:=(h.fine x hx).kid _ hm
 exact fn_upd h k1 k2 g v
theorem sy0 (hL:L.Ok)(h:t.Ok L)(h':s.Ok L){x y:Nat}(hx:x<t.ns.length)(hy:y<s.ns.length)(hk:(t.nd x).kids≠[])(hlt:(t.nd x).attr<lev (s.nd y))
  (hadj:Adj ((t.nd x).kids.map (t.fn L))):t.fn L x≠s.fn L y:=by
 intro he
 obtain⟨ha,_,hl,hc,hasc⟩:=(h.fine x hx).inner hk
 match hcs:(t.nd x).cuts,hks:(t.nd x).kids with
 | [],_=>exact hc hcs
 | c::C,[]=>exact hk hks
 | c::C,[k]=>rw[hcs,hks] at hl;simp at hl
 | c::C,k0::k1::K =>
  rw[hks] at hadj
  rw[hcs] at hasc
  refine hadj.1 (funext fun g=>?_)
  have e0:=congrFun he ⟨upd g.1 (t.nd x).attr (L.lo _),upd_in g.2 (Int.le_refl _) (hL _)⟩
  have e1:=congrFun he ⟨upd g.1 (t.nd x).attr c,upd_in g.2 (by have:=hasc.1;omega) hasc.2.1⟩
  simp only[Tab.fn] at e0 e1 ⊢
  rw[fn_at h hx hk,fn_upd h' hy hlt] at e0 e1
  rw[hcs,hks,vq0 _ _ _ _ hasc (Int.le_refl _)] at e0
  rw[hcs,hks] at e1
  simp only[wo0,Int.le_refl,if_true] at e1
  rw[vq0 C c _ c hasc.2.2 (Int.le_refl _)] at e1
  simp at e0 e1
  rw[e0,e1]
theorem shape (hL:L.Ok)(h:t.Ok L)(h':s.Ok L){x y:Nat}(hx:x<t.ns.length)(hy:y<s.ns.length)(he:t.fn L x=s.fn L y)
  (hax:Adj ((t.nd x).kids.map (t.fn L))) (hay:Adj ((s.nd y).kids.map (s.fn L))) :
  (t.nd x).attr=(s.nd y).attr∧(t.nd x).cuts=(s.nd y).cuts∧(t.nd x).kids.map (t.fn L)=(s.nd y).kids.map (s.fn L)∧((t.nd x).kids=[]→t.ls.getD (t.nd x).leaf default=s.ls.getD (s.nd y).leaf default)∧((t.nd x).kids=[]↔(s.nd y).kids=[]):=by
 by_cases hk:(t.nd x).kids=[]
 ·by_cases hk':(s.nd y).kids=[]
  ·obtain⟨c1,c2,c3⟩:=(h.fine x hx).leaf hk
   obtain⟨d1,d2,d3⟩:=(h'.fine y hy).leaf hk'
   refine⟨by rw[c2,d2],by rw[c1,d1],by rw[hk,hk'];rfl,fun _=>?_,by simp[hk,hk']⟩
   have:=congrFun he ⟨fun a=>L.lo a,fun a _=>⟨Int.le_refl _,hL a⟩⟩
   simp only[Tab.fn] at this
   rwa [kt0 hk,kt0 hk'] at this
  ·refine absurd he.symm (sy0 hL h' h hy hx hk' ?_ hay)
   have:=((h'.fine y hy).inner hk').1
   unfold lev;rw[if_pos hk];exact this
 ·by_cases hk':(s.nd y).kids=[]
  ·refine absurd he (sy0 hL h h' hx hy hk ?_ hax)
   have:=((h.fine x hx).inner hk).1
   unfold lev;rw[if_pos hk'];exact this
  ·have hat:(t.nd x).attr=(s.nd y).attr:=by
    rcases Nat.lt_trichotomy (t.nd x).attr (s.nd y).attr with hlt | heq | hgt
    ·exact absurd he (sy0 hL h h' hx hy hk (by unfold lev;rw[if_neg hk'];exact hlt) hax)
    ·exact heq
    ·exact absurd he.symm (sy0 hL h' h hy hx hk' (by unfold lev;rw[if_neg hk];exact hgt) hay)
   obtain⟨ha,_,hl,hc,hasc⟩:=(h.fine x hx).inner hk
   obtain⟨ha',_,hl',hc',hasc'⟩:=(h'.fine y hy).inner hk'
   rw[← hat] at hasc'
   have:=si0 (t.nd x).cuts (s.nd y).cuts ((t.nd x).kids.map (t.fn L)) ((s.nd y).kids.map (s.fn L)) (L.lo (t.nd x).attr) (L.hi (t.nd x).attr) (hL _) hasc hasc' (by simpa using hl) (by simpa using hl') hax hay (fun v h1 h2=>by
    rw[List.getElem?_map,List.getElem?_map,(jj0 h hx hk v).1,(jj0 h' hy hk' v).1]
    simp only[Option.map_some,Option.some.injEq]
    funext g
    have:=congrFun he ⟨upd g.1 (t.nd x).attr v,upd_in g.2 h1 h2⟩
    simp only[Tab.fn] at this ⊢
    rw[fn_at h hx hk,hat,fn_at h' hy hk'] at this
    exact this)
   exact⟨hat,this.1,this.2,fun e=>absurd e hk,by simp[hk,hk']⟩
theorem bn0 {α β:Type}{f:α→β}:∀ {l:List α},Adj l→(∀ a∈l,∀ b∈l,f a=f b→a=b)→Adj (l.map f)
 | [],_,_=>trivial
 | [_],_,_=>trivial
 | a::b::l,h,hi=>⟨fun e=>h.1 (hi a (by simp) b (by simp) e),bn0 (l:=b::l) h.2 fun a' ha b' hb=>hi a' (by simp[ha]) b' (by simp[hb])⟩
theorem fp0 {α β:Type}{f:α→β}:∀ {l l':List α},(∀ a∈l,∀ b∈l',f a=f b→a=b)→l.map f=l'.map f→l=l'
 | [],[],_,_=>rfl
 | [],_::_,_,h=>by simp at h
 | _::_,[],_,h=>by simp at h
 | a::l,b::l',hi,h=>by
  simp at h
  have h2:l=l':=fp0 (f:=f) (fun a' ha b' hb=>hi a' (by simp[ha]) b' (by simp[hb])) (by simpa using h.2)
  rw[hi a (by simp) b (by simp) h.1,h2]
theorem nd_inj (h:t.Ok L){x y:Nat}(hx:x<t.ns.length)(hy:y<t.ns.length)(he:t.nd x=t.nd y):x=y:=by
 unfold Tab.nd at he
 rw[List.getD_eq_getElem?_getD,List.getD_eq_getElem?_getD,List.getElem?_eq_getElem hx,List.getElem?_eq_getElem hy] at he
 exact gw0 h.nodup hx hy he
theorem wn0 (h:t.Ok L){z:Nat}(hz:z<t.ns.length)(k:Nat)(hk:k∈(t.nd z).kids):k<t.ns.length∧lev (t.nd z)<lev (t.nd k):=by
 obtain⟨k1,k2⟩:=(h.fine z hz).kid k hk
 refine⟨k1,?_⟩
 have:lev (t.nd z)=(t.nd z).attr:=by unfold lev;rw[if_neg (List.ne_nil_of_mem hk)]
 omega
theorem getD_inj {α:Type}[Inhabited α]{l:List α}(h:l.Nodup){i j:Nat}(hi:i<l.length)(hj:j<l.length)(he:l.getD i default=l.getD j default):i=j:=by
 rw[List.getD_eq_getElem?_getD,List.getD_eq_getElem?_getD,List.getElem?_eq_getElem hi,List.getElem?_eq_getElem hj] at he
 exact gw0 h hi hj he
theorem fn_inj (hL:L.Ok)(h:t.Ok L):∀ (n:Nat){x y:Nat},x<t.ns.length→y<t.ns.length→10<n+lev (t.nd x)→10<n+lev (t.nd y)→t.fn L x=t.fn L y→x=y
 | 0,x,y,hx,hy,hn,_,_=>by have:=ye0 h hx;omega
 | n+1,x,y,hx,hy,hn,hn',he=>by
  have hadj:∀ {z:Nat},z<t.ns.length→10<n+1+lev (t.nd z)→Adj ((t.nd z).kids.map (t.fn L)):=fun {z} hz hn'=>by
   refine bn0 (h.fine z hz).adj fun a ha b hb e=>?_
   obtain⟨a1,a2⟩:=wn0 h hz a ha
   obtain⟨b1,b2⟩:=wn0 h hz b hb
   exact fn_inj hL h n a1 b1 (by omega) (by omega) e
  obtain⟨e1,e2,e3,e4,e5⟩:=shape hL h h hx hy he (hadj hx hn) (hadj hy hn')
  have ek:(t.nd x).kids=(t.nd y).kids:=fp0 (fun a ha b hb e=>by
   obtain⟨a1,a2⟩:=wn0 h hx a ha
   obtain⟨b1,b2⟩:=wn0 h hy b hb
   exact fn_inj hL h n a1 b1 (by omega) (by omega) e) e3
  refine nd_inj h hx hy ?_
  have el:(t.nd x).leaf=(t.nd y).leaf:=by
   by_cases hk:(t.nd x).kids=[]
   ·exact getD_inj h.ldup ((h.fine x hx).leaf hk).2.2 ((h.fine y hy).leaf (e5.1 hk)).2.2 (e4 hk)
   ·rw[((h.fine x hx).inner hk).2.1,((h.fine y hy).inner (fun e=>hk (e5.2 e))).2.1]
  cases hnx:t.nd x;cases hny:t.nd y
  simp_all
theorem fn_inj' (hL:L.Ok)(h:t.Ok L){x y:Nat}(hx:x<t.ns.length)(hy:y<t.ns.length)(he:t.fn L x=t.fn L y):x=y:=fn_inj hL h 11 hx hy (by omega) (by omega) he
theorem adj_fn (hL:L.Ok)(h:t.Ok L){x:Nat}(hx:x<t.ns.length):Adj ((t.nd x).kids.map (t.fn L)) :=
 bn0 (h.fine x hx).adj fun _ ha _ hb e=>fn_inj' hL h (wn0 h hx _ ha).1 (wn0 h hx _ hb).1 e
theorem shape' (hL:L.Ok)(h:t.Ok L)(h':s.Ok L){x y:Nat}(hx:x<t.ns.length)(hy:y<s.ns.length)(he:t.fn L x=s.fn L y) :
  (t.nd x).attr=(s.nd y).attr∧(t.nd x).cuts=(s.nd y).cuts∧(t.nd x).kids.map (t.fn L)=(s.nd y).kids.map (s.fn L)∧((t.nd x).kids=[]→t.ls.getD (t.nd x).leaf default=s.ls.getD (s.nd y).leaf default)∧((t.nd x).kids=[]↔(s.nd y).kids=[]) :=
 shape hL h h' hx hy he (adj_fn hL h hx) (adj_fn hL h' hy)
def walk (kids:Nat→List Nat):Nat→Nat→List Nat→List Nat
 | 0,_,o=>o
 | n+1,x,o=>if x∈o then o else (kids x).foldl (fun o k=>walk kids n k o) (o++[x])
structure Tab.Canon (L:Lim)(t:Tab δ):Prop where
 ok:t.Ok L
 pos:0<t.ns.length
 walk:walk (fun x=>(t.nd x).kids) 11 0 []=List.range t.ns.length
 leaf:∀ x,x<t.ns.length→(t.nd x).kids=[]→(t.nd x).leaf=((t.ns.take x).filter fun n=>n.kids.isEmpty).length
 all:t.ls.length=(t.ns.filter fun n=>n.kids.isEmpty).length
theorem mo0 {kids kids':Nat→List Nat}(R:Nat→Nat→Prop)(inj:∀ x y x' y',R x y→R x' y'→(x=x'↔y=y'))(hk:∀ x y,R x y→Fa2 R (kids x) (kids' y)) :
  ∀ (n x y:Nat)(o o':List Nat),R x y→Fa2 R o o'→Fa2 R (walk kids n x o) (walk kids' n y o')
 | 0,_,_,_,_,_,ho=>ho
 | n+1,x,y,o,o',hxy,ho=>by
  have hmem:x∈o↔y∈o':=by
   clear hk
   induction ho with
   | nil=>simp
   | cons h1 h2 ih=>simp only[List.mem_cons,ih,inj _ _ _ _ hxy h1]
  simp only[walk]
  by_cases hx:x∈o
  ·rw[if_pos hx,if_pos (hmem.1 hx)];exact ho
  ·rw[if_neg hx,if_neg (fun e=>hx (hmem.2 e))]
   have:∀ (l l':List Nat)(o o':List Nat),Fa2 R l l'→Fa2 R o o'→Fa2 R (l.foldl (fun o k=>walk kids n k o) o) (l'.foldl (fun o k=>walk kids' n k o) o'):=by
    intro l l' o o' hl
    induction hl generalizing o o' with
    | nil=>exact fun h=>h
    | cons h1 h2 ih=>exact fun h=>ih _ _ (mo0 R inj hk n _ _ _ _ h1 h)
   refine this _ _ _ _ (hk x y hxy) ?_
   clear this hmem hx
   induction ho with
   | nil=>exact .cons hxy .nil
   | cons h1 h2 ih=>exact .cons h1 ih
theorem pw0 {α β:Type}{f:Nat→α}{R:Nat→Nat→Prop}(g:Nat→α):∀ {l l':List Nat},l.map f=l'.map g→(∀ a∈l,∀ b∈l',f a=g b→R a b)→Fa2 R l l'
 | [],[],_,_=>.nil
 | [],_::_,h,_=>by simp at h
 | _::_,[],h,_=>by simp at h
 | a::l,b::l',h,hR=>by
  simp at h
  exact .cons (hR a (by simp) b (by simp) h.1) (pw0 (β:=β) g h.2 fun a' ha b' hb=>hR a' (by simp[ha]) b' (by simp[hb]))
theorem uc0 {R:Nat→Nat→Prop}{l l':List Nat}(h:Fa2 R l l'):l.length=l'.length∧∀ (i a b:Nat),l[i]?=some a→l'[i]?=some b→R a b:=by
 induction h with
 | nil=>exact⟨rfl,fun i a b h=>by simp at h⟩
 | cons h1 h2 ih =>
  refine⟨by simp[ih.1],fun i a b ha hb=>?_⟩
  cases i with
  | zero=>simp at ha hb;rw[← ha,← hb];exact h1
  | succ i=>exact ih.2 i a b (by simpa using ha) (by simpa using hb)
theorem gm0 {α:Type}(p:α→Bool):∀ (l:List α)(k:Nat),k<(l.filter p).length→∃ x,∃ h:x<l.length,p l[x]=true∧((l.take x).filter p).length=k
 | [],k,h=>by simp at h
 | a::l,k,h=>by
  cases hp:p a with
  | false =>
   rw[List.filter_cons_of_neg (by simp[hp])] at h
   obtain⟨x,hx,h1,h2⟩:=gm0 p l k h
   exact⟨x+1,by simp;omega,by simpa using h1,by rw[List.take_succ_cons,List.filter_cons_of_neg (by simp[hp])];exact h2⟩
  | true =>
   rw[List.filter_cons_of_pos hp] at h
   cases k with
   | zero=>exact⟨0,by simp,hp,by simp⟩
   | succ k =>
    obtain⟨x,hx,h1,h2⟩:=gm0 p l k (by simpa using h)
    exact⟨x+1,by simp;omega,by simpa using h1,by rw[List.take_succ_cons,List.filter_cons_of_pos hp];simp[h2]⟩
theorem Canon.unique (hL:L.Ok)(h:t.Canon L)(h':s.Canon L)(he:t.fn L 0=s.fn L 0):t.ns=s.ns∧t.ls=s.ls:=by
 let R:Nat→Nat→Prop:=fun x y=>x<t.ns.length∧y<s.ns.length∧t.fn L x=s.fn L y
 have inj:∀ x y x' y',R x y→R x' y'→(x=x'↔y=y'):=fun x y x' y' ⟨a1,a2,a3⟩ ⟨b1,b2,b3⟩ =>
  ⟨fun e=>fn_inj' hL h'.ok a2 b2 (by rw[← a3,← b3,e]),fun e=>fn_inj' hL h.ok a1 b1 (by rw[a3,b3,e])⟩
 have hk:∀ x y,R x y→Fa2 R (t.nd x).kids (s.nd y).kids:=fun x y ⟨a1,a2,a3⟩ =>
  pw0 (β:=Nat) _ (shape' hL h.ok h'.ok a1 a2 a3).2.2.1 fun a ha b hb e=>⟨(wn0 h.ok a1 a ha).1,(wn0 h'.ok a2 b hb).1,e⟩
 have hw:=mo0 R inj hk 11 0 0 [] [] ⟨h.pos,h'.pos,he⟩ .nil
 rw[h.walk,h'.walk] at hw
 obtain⟨hlen,hget⟩:=uc0 hw
 simp only[List.length_range] at hlen
 have hR:∀ i,i<t.ns.length→R i i:=fun i hi=>hget i i i (by rw[List.getElem?_range hi]) (by rw[List.getElem?_range (by omega)])
 have hsh:∀ i,i<t.ns.length→(t.nd i).attr=(s.nd i).attr∧(t.nd i).cuts=(s.nd i).cuts∧(t.nd i).kids=(s.nd i).kids∧((t.nd i).kids=[]→t.ls.getD (t.nd i).leaf default=s.ls.getD (s.nd i).leaf default):=fun i hi=>by
  obtain⟨e1,e2,e3,e4,e5⟩:=shape' hL h.ok h'.ok hi (by omega) (hR i hi).2.2
  refine⟨e1,e2,?_,e4⟩
  obtain⟨k1,k2⟩:=uc0 (hk i i (hR i hi))
  refine List.ext_getElem k1 fun j h1 h2=>?_
  have hj:=k2 j _ _ (List.getElem?_eq_getElem h1) (List.getElem?_eq_getElem h2)
  exact((inj _ _ _ _ hj (hR _ hj.1)).1 rfl).symm
 have hpre:∀ i,i≤t.ns.length→((t.ns.take i).filter fun n=>n.kids.isEmpty).length=((s.ns.take i).filter fun n=>n.kids.isEmpty).length:=by
  intro i
  induction i with
  | zero=>intro _;simp
  | succ i ih =>
   intro hi
   have e:=(hsh i (by omega)).2.2.1
   unfold Tab.nd at e
   rw[List.getD_eq_getElem?_getD,List.getD_eq_getElem?_getD,List.getElem?_eq_getElem (by omega),List.getElem?_eq_getElem (by omega)] at e
   simp only[Option.getD_some] at e
   rw[List.take_add_one,List.take_add_one,List.filter_append,List.filter_append,List.length_append,List.length_append,ih (by omega),List.getElem?_eq_getElem (by omega),List.getElem?_eq_getElem (by omega)]
   simp only[Option.toList_some,List.filter_cons,e]
   split<;>simp
 have hns:t.ns=s.ns:=by
  refine List.ext_getElem hlen fun i h1 h2=>?_
  obtain⟨e1,e2,e3,e4⟩:=hsh i h1
  have el:(t.nd i).leaf=(s.nd i).leaf:=by
   by_cases hk:(t.nd i).kids=[]
   ·rw[h.leaf i h1 hk,h'.leaf i h2 (e3▸hk),hpre i (by omega)]
   ·rw[((h.ok.fine i h1).inner hk).2.1,((h'.ok.fine i h2).inner (e3▸hk)).2.1]
  have:t.nd i=s.nd i:=by
   cases hnx:t.nd i;cases hny:s.nd i
   simp_all
  unfold Tab.nd at this
  rw[List.getD_eq_getElem?_getD,List.getD_eq_getElem?_getD,List.getElem?_eq_getElem h1,List.getElem?_eq_getElem h2] at this
  exact this
 refine⟨hns,?_⟩
 have hll:t.ls.length=s.ls.length:=by rw[h.all,h'.all,hns]
 refine List.ext_getElem hll fun k h1 h2=>?_
 obtain⟨x,hx,hp,hn⟩:=gm0 (fun n:Nd=>n.kids.isEmpty) t.ns k (by rw[← h.all];exact h1)
 have hnd:t.nd x=t.ns[x]:=by unfold Tab.nd;rw[List.getD_eq_getElem?_getD,List.getElem?_eq_getElem hx];rfl
 have hk:(t.nd x).kids=[]:=by rw[hnd];simpa using hp
 obtain⟨e1,e2,e3,e4⟩:=hsh x hx
 have l1:(t.nd x).leaf=k:=by rw[h.leaf x hx hk,hn]
 have l2:(s.nd x).leaf=k:=by rw[h'.leaf x (by omega) (e3▸hk),← hns,hn]
 have:=e4 hk
 rw[l1,l2,List.getD_eq_getElem?_getD,List.getD_eq_getElem?_getD,List.getElem?_eq_getElem h1,List.getElem?_eq_getElem h2] at this
 exact this
end
end Tb
