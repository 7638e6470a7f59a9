/- Parts of the proof. -/
import Derived.Test.YtllbabjgpdmblaaDoorZTbU
set_option linter.unusedSimpArgs false
set_option linter.unusedVariables false
set_option linter.unusedSectionVars false
namespace Tb
set_option linter.unusedSectionVars false
structure Bs (δ:Type) where
 tab:Tab δ
 made:List ((Nat×List Nat)×Nat)
section
variable {δ:Type}[Inhabited δ][DecidableEq δ]
def look {κ:Type}[DecidableEq κ]:List (κ×Nat)→κ→Option Nat
 | [],_=>none
 | (k,v)::l,x=>if x=k then some v else look l x
def idx {α:Type}[DecidableEq α]:List α→α→Option Nat
 | [],_=>none
 | a::l,x=>if a=x then some 0 else (idx l x).map (·+1)
def addN (b:Bs δ)(n:Nd):Bs δ×Nat:=match idx b.tab.ns n with
 | some k=>(b,k)
 | none=>({ b with tab:={ b.tab with ns:=b.tab.ns++[n] } },b.tab.ns.length)
def addL (b:Bs δ)(d:δ):Bs δ×Nat:=match idx b.tab.ls d with
 | some i=>addN b ⟨0,[],[],i⟩
 | none=>addN { b with tab:={ b.tab with ls:=b.tab.ls++[d] } } ⟨0,[],[],b.tab.ls.length⟩
structure Prob (δ:Type) where
 nz:Nat
 lo:Nat→Nat→Int
 hi:Nat→Nat→Int
 dec:Fa→δ
 starts:Nat→List Nat→List Int
def Prob.at (p:Prob δ)(z a:Nat)(v:Int):Bool:=decide (p.lo z a≤v∧v≤p.hi z a)
def kids (F:Int→Bs δ→Bs δ×Nat):List Int→Bs δ→List Int→List Nat→Bs δ×List Int×List Nat
 | [],b,C,K=>(b,C,K)
 | c::l,b,C,K =>
  let r:=F c b
  if K.getLast?=some r.2 then kids F l r.1 C K
  else kids F l r.1 (if K=[] then C else C++[c]) (K++[r.2])
def make (p:Prob δ):Nat→Nat→List Nat→Fa→Bs δ→Bs δ×Nat
 | 0,_,_,f,b=>addL b (p.dec f)
 | r+1,a,live,f,b =>
  match look b.made (a,live) with
  | some n=>(b,n)
  | none =>
   let k:=kids (fun c b=>make p r (a+1) (live.filter fun z=>p.at z a c) (upd f a c) b) (p.starts a live) b [] []
   let o:=match k.2.2 with
    | [n]=>(k.1,n)
    | K=>addN k.1 ⟨a,k.2.1,K,0⟩
   ({ o.1 with made:=o.1.made++[((a,live),o.2)] },o.2)
def Prob.In (p:Prob δ)(z:Nat)(a:Nat)(g:Fa):Bool:=(List.range 10).all fun b=>decide (b<a)||p.at z b (g b)
structure Prob.Ok (L:Lim)(p:Prob δ)(D:List Nat→δ):Prop where
 dec:∀ g,p.dec g=D ((List.range p.nz).filter fun z=>p.In z 0 g)
 st:∀ a live,a<10→∃ l,p.starts a live=L.lo a::l∧Asc (L.lo a) (L.hi a) l∧∀ z∈live,∀ c,c=p.lo z a∨c=p.hi z a+1→L.lo a<c→c≤L.hi a→c∈l
def sem (p:Prob δ)(D:List Nat→δ)(a:Nat)(live:List Nat)(g:Fa):δ:=D (live.filter fun z=>p.In z a g)
variable {L:Lim}{p:Prob δ}{D:List Nat→δ}
theorem In_succ {z a:Nat}{g:Fa}(ha:a<10):p.In z a g=(p.at z a (g a)&&p.In z (a+1) g):=by
 rw[Bool.eq_iff_iff]
 simp only[Prob.In,List.all_eq_true,List.mem_range,Bool.or_eq_true,decide_eq_true_eq,Bool.and_eq_true]
 constructor
 ·intro h
  refine⟨by simpa using h a ha,fun b hb=>?_⟩
  rcases h b hb with h1 | h1
  ·exact .inl (by omega)
  ·exact .inr h1
 ·rintro ⟨h1,h2⟩ b hb
  by_cases hab:b=a
  ·subst hab;exact .inr h1
  ·rcases h2 b hb with h3 | h3
   ·exact .inl (by omega)
   ·exact .inr h3
theorem sem_succ {a:Nat}{live:List Nat}{g:Fa}(ha:a<10):sem p D a live g=sem p D (a+1) (live.filter fun z=>p.at z a (g a)) g:=by
 unfold sem
 rw[List.filter_filter]
 congr 1
 refine List.filter_congr fun z _=>?_
 rw[In_succ ha,Bool.and_comm]
theorem sem_ten {live:List Nat}{g:Fa}:sem p D 10 live g=D live:=by
 unfold sem
 congr 1
 rw[List.filter_eq_self]
 intro z _
 simp only[Prob.In,List.all_eq_true,List.mem_range,Bool.or_eq_true,decide_eq_true_eq]
 exact fun b hb=>.inl hb
structure Ext (t t':Tab δ):Prop where
 ns:∃ l,t'.ns=t.ns++l
 ls:∃ l,t'.ls=t.ls++l
theorem Ext.refl (t:Tab δ):Ext t t:=⟨⟨[],by simp⟩,⟨[],by simp⟩⟩
theorem Ext.trans {t t' t'':Tab δ}(h:Ext t t')(k:Ext t' t''):Ext t t'':=by
 obtain⟨⟨a,ha⟩,⟨b,hb⟩⟩:=h
 obtain⟨⟨c,hc⟩,⟨d,hd⟩⟩:=k
 exact⟨⟨a++c,by rw[hc,ha,List.append_assoc]⟩,⟨b++d,by rw[hd,hb,List.append_assoc]⟩⟩
theorem Ext.len {t t':Tab δ}(h:Ext t t'):t.ns.length≤t'.ns.length:=by obtain⟨⟨a,ha⟩,_⟩:=h;rw[ha];simp
theorem Ext.nd {t t':Tab δ}(h:Ext t t'){x:Nat}(hx:x<t.ns.length):t'.nd x=t.nd x:=by
 obtain⟨⟨a,ha⟩,_⟩:=h
 unfold Tab.nd
 rw[ha,List.getD_eq_getElem?_getD,List.getD_eq_getElem?_getD,List.getElem?_append_left hx]
theorem Ext.val {t t':Tab δ}(h:Ext t t')(ht:t.Ok L)(g:Fa):∀ (n x:Nat),x<t.ns.length→t'.ua0 g n x=t.ua0 g n x
 | 0,_,_=>rfl
 | n+1,x,hx=>by
  simp only[Tab.ua0,h.nd hx]
  split
  ·rename_i hk
   obtain⟨_,⟨b,hb⟩⟩:=h
   rw[hb,List.getD_eq_getElem?_getD,List.getD_eq_getElem?_getD,List.getElem?_append_left ((ht.fine x hx).leaf hk).2.2]
  ·rename_i hk
   exact h.val ht g n _ ((ht.fine x hx).kid _ (jj0 ht hx hk _).2).1
def Prob.Pre (p:Prob δ)(a:Nat)(f:Fa)(z:Nat):Bool:=(List.range 10).all fun b=>decide (a≤b)||p.at z b (f b)
def Prob.Can (p:Prob δ)(a:Nat)(live:List Nat):Prop:=∃ f,live=(List.range p.nz).filter (p.Pre a f)
structure Inv (L:Lim)(p:Prob δ)(D:List Nat→δ)(b:Bs δ)(s:Nat:=0):Prop where
 ok:b.tab.Ok L
 made:∀ a live n,((a,live),n)∈b.made→n<b.tab.ns.length∧a≤lev (b.tab.nd n)∧a<10∧p.Can a live∧∀ g,L.In g→b.tab.val g n=sem p D a live g
 keys:(b.made.map (·.1)).Nodup
 size:b.tab.ns.length≤b.tab.ls.length+b.made.length+s
 lnode:∀ i,i<b.tab.ls.length→(⟨0,[],[],i⟩:Nd)∈b.tab.ns
 dec:∀ d∈b.tab.ls,∃ live:List Nat,p.Can 10 live∧d=D live
theorem gh0 {α:Type}[DecidableEq α]:∀ {l:List α}{x:α}{k:Nat},idx l x=some k→l[k]?=some x
 | [],_,_,h=>by cases h
 | a::l,x,k,h=>by
  simp only[idx] at h
  split at h
  ·rename_i e;cases h;rw[e];rfl
  ·cases hi:idx l x with
   | none=>rw[hi] at h;cases h
   | some j=>rw[hi] at h;cases h;simpa using gh0 hi
theorem sw0 {α:Type}[DecidableEq α]:∀ {l:List α}{x:α},idx l x=none→x ∉ l
 | [],_,_=>by simp
 | a::l,x,h=>by
  simp only[idx] at h
  split at h
  ·cases h
  ·rename_i e
   cases hi:idx l x with
   | none=>simp only[List.mem_cons,not_or];exact⟨fun e'=>e e'.symm,sw0 hi⟩
   | some j=>rw[hi] at h;cases h
theorem look_some {κ:Type}[DecidableEq κ]:∀ {l:List (κ×Nat)}{x:κ}{n:Nat},look l x=some n→(x,n)∈l
 | [],_,_,h=>by cases h
 | (k,v)::l,x,n,h=>by
  simp only[look] at h
  split at h
  ·rename_i e;cases h;rw[e];simp
  ·exact List.mem_cons_of_mem _ (look_some h)
theorem ao0 {κ:Type}[DecidableEq κ]:∀ {l:List (κ×Nat)}{x:κ},look l x=none→x ∉ l.map (·.1)
 | [],_,_=>by simp
 | (k,v)::l,x,h=>by
  simp only[look] at h
  split at h
  ·cases h
  ·rename_i e;simp only[List.map_cons,List.mem_cons,not_or];exact⟨e,ao0 h⟩
theorem Fine.push {t:Tab δ}{l:List Nd}{m:List δ}{n:Nd}(h:Fine L t.ns.length t.ls.length t.nd n):Fine L (t.ns++l).length (t.ls++m).length (Tab.nd (δ:=δ) ⟨t.ns++l,t.ls++m⟩) n where
 leaf hk:=⟨(h.leaf hk).1,(h.leaf hk).2.1,by have:=(h.leaf hk).2.2;simp;omega⟩
 inner:=h.inner
 kid k hk:=by
  obtain⟨h1,h2⟩:=h.kid k hk
  refine⟨by simp;omega,?_⟩
  have:(⟨t.ns++l,t.ls++m⟩:Tab δ).nd k=t.nd k:=Ext.nd (t:=t) ⟨⟨l,rfl⟩,⟨m,rfl⟩⟩ h1
  rw[this];exact h2
 adj:=h.adj
theorem pe0 {b:Bs δ}(h:b.tab.Ok L){n:Nd}(hf:Fine L b.tab.ns.length b.tab.ls.length b.tab.nd n) :
  (addN b n).1.tab.Ok L∧Ext b.tab (addN b n).1.tab∧(addN b n).2<(addN b n).1.tab.ns.length∧(addN b n).1.tab.nd (addN b n).2=n∧(addN b n).1.made=b.made∧(addN b n).1.tab.ls=b.tab.ls ∧
   (addN b n).1.tab.ns.length≤b.tab.ns.length+1∧(n∈b.tab.ns→(addN b n).1.tab.ns=b.tab.ns)∧n∈(addN b n).1.tab.ns:=by
 unfold addN
 cases hi:idx b.tab.ns n with
 | some k =>
  have hk:=gh0 hi
  have hlt:=(List.getElem?_eq_some_iff.1 hk).1
  refine⟨h,.refl _,hlt,?_,rfl,rfl,by simp,fun _=>rfl,List.mem_of_getElem? hk⟩
  unfold Tab.nd;rw[List.getD_eq_getElem?_getD,hk];rfl
 | none =>
  have hn:=sw0 hi
  refine⟨⟨fun x hx=>?_,?_,h.ldup⟩,⟨⟨[n],rfl⟩,⟨[],by simp⟩⟩,by simp,?_,rfl,rfl,by simp,fun e=>absurd e hn,by simp⟩
  ·simp only[List.length_append,List.length_singleton] at hx
   have hx':(⟨b.tab.ns++[n],b.tab.ls⟩:Tab δ).nd x=if x<b.tab.ns.length then b.tab.nd x else n:=by
    unfold Tab.nd
    simp only[List.getD_eq_getElem?_getD]
    split
    ·rw[List.getElem?_append_left (by assumption)]
    ·have:x=b.tab.ns.length:=by omega
     subst this;simp
   have push:=fun {n':Nd}(hf:Fine L b.tab.ns.length b.tab.ls.length b.tab.nd n')=>hf.push (l:=[n]) (m:=[])
   simp only[List.append_nil] at push
   rw[hx']
   by_cases hlt:x<b.tab.ns.length
   ·rw[if_pos hlt];exact push (h.fine x hlt)
   ·rw[if_neg hlt];exact push hf
  ·show (b.tab.ns++[n]).Nodup
   rw[List.nodup_append]
   exact⟨h.nodup,by simp,fun x hx y hy e=>hn (by simp at hy;rw[← hy,← e];exact hx)⟩
  ·unfold Tab.nd;simp
theorem Fine.leafN {b:Bs δ}{i:Nat}(hi:i<b.tab.ls.length):Fine L b.tab.ns.length b.tab.ls.length b.tab.nd ⟨0,[],[],i⟩ where
 leaf _:=⟨rfl,rfl,hi⟩
 inner h:=absurd rfl h
 kid k hk:=by cases hk
 adj:=trivial
theorem Inv.ext {b b':Bs δ}(h:Inv L p D b)(ho:b'.tab.Ok L)(he:Ext b.tab b'.tab)(hm:b'.made=b.made){s:Nat}(hs:b'.tab.ns.length≤b'.tab.ls.length+b'.made.length+s)
  (hln:∀ i,i<b'.tab.ls.length→(⟨0,[],[],i⟩:Nd)∈b'.tab.ns) (hd:∀ d∈b'.tab.ls,∃ live:List Nat,p.Can 10 live∧d=D live):Inv L p D b' s where
 ok:=ho
 made a live n hn:=by
  rw[hm] at hn
  obtain⟨h1,h2,h3,h4,h5⟩:=h.made a live n hn
  refine⟨Nat.lt_of_lt_of_le h1 he.len,by rw[he.nd h1];exact h2,h3,h4,fun g hg=>?_⟩
  rw[← h5 g hg];exact he.val h.ok g 11 n h1
 keys:=by rw[hm];exact h.keys
 size:=hs
 lnode:=hln
 dec:=hd
theorem val_leafN {t:Tab δ}{x i:Nat}{d:δ}(hx:t.nd x=⟨0,[],[],i⟩)(hd:t.ls[i]?=some d)(g:Fa):t.val g x=d:=by
 rw[kt0 (by rw[hx]),hx,List.getD_eq_getElem?_getD,hd];rfl
theorem addL_spec {b:Bs δ}(h:Inv L p D b){d:δ}{live:List Nat}(hl:p.Can 10 live)(hd:d=D live) :
  Inv L p D (addL b d).1∧Ext b.tab (addL b d).1.tab∧(addL b d).2<(addL b d).1.tab.ns.length∧lev ((addL b d).1.tab.nd (addL b d).2)=10∧(∀ g,(addL b d).1.tab.val g (addL b d).2=d)∧(addL b d).1.made=b.made:=by
 unfold addL
 cases hi:idx b.tab.ls d with
 | some i =>
  have hk:=gh0 hi
  have hlt:=(List.getElem?_eq_some_iff.1 hk).1
  obtain⟨h1,h2,h3,h4,h5,h6,h7,h8,h9⟩:=pe0 h.ok (Fine.leafN (L:=L) hlt)
  have h8:=h8 (h.lnode i hlt)
  dsimp only
  refine⟨h.ext h1 h2 h5 (by rw[h8,h6,h5];exact h.size) (by rw[h6,h8];exact h.lnode) (by rw[h6];exact h.dec),h2,h3,by rw[h4];rfl,fun g=>val_leafN h4 (by rw[h6];exact hk) g,h5⟩
 | none =>
  have hn:=sw0 hi
  dsimp only
  have hok:Tab.Ok L (⟨b.tab.ns,b.tab.ls++[d]⟩:Tab δ):=⟨fun x hx=>by
   have:=(h.ok.fine x hx).push (l:=[]) (m:=[d])
   simp only[List.append_nil] at this
   exact this,h.ok.nodup,by rw[List.nodup_append];exact⟨h.ok.ldup,by simp,fun x hx y hy e=>hn (by simp at hy;rw[← hy,← e];exact hx)⟩⟩
  have hext:Ext b.tab ⟨b.tab.ns,b.tab.ls++[d]⟩:=⟨⟨[],by simp⟩,⟨[d],rfl⟩⟩
  obtain⟨h1,h2,h3,h4,h5,h6,h7,h8,h9⟩:=pe0 (b:=⟨⟨b.tab.ns,b.tab.ls++[d]⟩,b.made⟩) hok (Fine.leafN (L:=L) (i:=b.tab.ls.length) (by simp))
  refine⟨h.ext h1 (hext.trans h2) h5 ?_ ?_ ?_,hext.trans h2,h3,by rw[h4];rfl,fun g=>val_leafN h4 (by rw[h6];simp) g,h5⟩
  ·rw[h6,h5];have:=h.size;simp only[List.length_append,List.length_singleton] at h7 ⊢;omega
  ·rw[h6]
   intro i hi
   simp only[List.length_append,List.length_singleton] at hi
   by_cases hlt:i<b.tab.ls.length
   ·obtain⟨l,hl⟩:=h2.ns
    rw[hl]
    exact List.mem_append_left _ (h.lnode i hlt)
   ·have:i=b.tab.ls.length:=by omega
    subst this;exact h9
  ·rw[h6]
   intro d' hd'
   rcases List.mem_append.1 hd' with h' | h'
   ·exact h.dec d' h'
   ·simp at h';subst h';exact⟨live,hl,hd⟩
theorem bj0 : ∀ {C:List Int}{v:Int},(∀ d∈C,d≤v)→wo0 C v=C.length
 | [],_,_=>rfl
 | c::l,v,h=>by
  simp only[wo0,List.length_cons]
  rw[if_pos (h c (by simp)),bj0 fun d hd=>h d (by simp[hd])]
theorem kidx_snoc : ∀ {C:List Int}{c v:Int},v<c→wo0 (C++[c]) v=wo0 C v
 | [],c,v,h=>by simp only[List.nil_append,wo0];rw[if_neg (by omega)]
 | c'::l,c,v,h=>by simp only[List.cons_append,wo0,kidx_snoc (C:=l) h]
theorem asc_snoc : ∀ {C:List Int}{lo hi c:Int},Asc lo hi C→(∀ d∈C,d<c)→lo<c→c≤hi→Asc lo hi (C++[c])
 | [],_,_,_,_,_,h1,h2=>⟨h1,h2,trivial⟩
 | c'::l,lo,hi,c,h,hd,h1,h2=>⟨h.1,h.2.1,asc_snoc h.2.2 (fun d hd'=>hd d (by simp[hd'])) (hd c' (by simp)) h2⟩
theorem adj_snoc {S:Type}:∀ {K:List S}{k:S},Adj K→K.getLast?≠some k→Adj (K++[k])
 | [],_,_,_=>trivial
 | [a],k,_,h=>⟨by simpa using h,trivial⟩
 | a::b::l,k,h,hn=>⟨h.1,adj_snoc (K:=b::l) h.2 (by simpa using hn)⟩
theorem pt0 : ∀ {l:List Int}{lo hi:Int},Asc lo hi l→∀ d∈l,lo<d∧d≤hi
 | [],_,_,_,_,hd=>by cases hd
 | c::l,lo,hi,h,d,hd=>by
  rcases List.mem_cons.1 hd with rfl | hd
  ·exact⟨h.1,h.2.1⟩
  ·have:=pt0 h.2.2 d hd;have:=h.1;omega
structure KInv (L:Lim)(p:Prob δ)(D:List Nat→δ)(a:Nat)(S:Int→Fa→δ)(l:List Int)(b:Bs δ)(C:List Int)(K:List Nat):Prop where
 inv:Inv L p D b
 len:K.length=C.length+1
 asc:Asc (L.lo a) (L.hi a) C
 lt:∀ d∈C,∀ c∈l,d<c
 adj:Adj K
 kid:∀ k∈K,k<b.tab.ns.length∧a+1≤lev (b.tab.nd k)
 val:∀ v,L.lo a≤v→v≤L.hi a→(∀ d∈l,v<d)→∃ k,K[wo0 C v]?=some k∧∀ g,L.In g→b.tab.val g k=S v g
def Keys (a:Nat)(b b':Bs δ):Prop:=∀ k∈b'.made.map (·.1),k∈b.made.map (·.1)∨a≤k.1
def FSpec (L:Lim)(p:Prob δ)(D:List Nat→δ)(a:Nat)(S:Int→Fa→δ)(F:Int→Bs δ→Bs δ×Nat):Prop :=
 ∀ c b,L.lo a≤c→c≤L.hi a→Inv L p D b→Inv L p D (F c b).1∧Ext b.tab (F c b).1.tab∧(F c b).2<(F c b).1.tab.ns.length∧a+1≤lev ((F c b).1.tab.nd (F c b).2)∧(∀ g,L.In g→(F c b).1.tab.val g (F c b).2=S c g)∧Keys (a+1) b (F c b).1
theorem KInv.step {a:Nat}{S:Int→Fa→δ}{F:Int→Bs δ→Bs δ×Nat}(hF:FSpec L p D a S F){c c0:Int}{l:List Int}{b:Bs δ}{C:List Int}{K:List Nat}(hasc:Asc c0 (L.hi a) (c::l))(h0:L.lo a≤c0)
  (hS:∀ v,c≤v→v≤L.hi a→(∀ d∈l,v<d)→S v=S c) (h:KInv L p D a S (c::l) b C K) :
  KInv L p D a S l (F c b).1 (if K.getLast?=some (F c b).2 then C else C++[c]) (if K.getLast?=some (F c b).2 then K else K++[(F c b).2])∧Ext b.tab (F c b).1.tab∧Keys (a+1) b (F c b).1:=by
 obtain⟨f1,f2,f3,f4,f5,f6⟩:=hF c b (by have:=hasc.1;omega) hasc.2.1 h.inv
 have hlt:∀ d∈C,d<c:=fun d hd=>h.lt d hd c (by simp)
 have old:∀ v,L.lo a≤v→v<c→∃ k,K[wo0 C v]?=some k∧∀ g,L.In g→(F c b).1.tab.val g k=S v g:=fun v h1 h2=>by
  obtain⟨k,k1,k2⟩:=h.val v h1 (by have:=hasc.2.1;omega) (fun d hd=>by
   rcases List.mem_cons.1 hd with rfl | hd
   ·exact h2
   ·have:=pt0 hasc.2.2 d hd;omega)
  refine⟨k,k1,fun g hg=>?_⟩
  rw[← k2 g hg]
  exact f2.val h.inv.ok g 11 k (h.kid k (List.mem_of_getElem? k1)).1
 have hkid:∀ k∈K,k<(F c b).1.tab.ns.length∧a+1≤lev ((F c b).1.tab.nd k):=fun k hk=>by
  obtain⟨k1,k2⟩:=h.kid k hk
  exact⟨Nat.lt_of_lt_of_le k1 f2.len,by rw[f2.nd k1];exact k2⟩
 refine⟨?_,f2,f6⟩
 by_cases hlast:K.getLast?=some (F c b).2
 ·rw[if_pos hlast,if_pos hlast]
  refine⟨f1,h.len,h.asc,fun d hd c' hc'=>h.lt d hd c' (by simp[hc']),h.adj,hkid,fun v h1 h2 h3=>?_⟩
  by_cases hv:v<c
  ·exact old v h1 hv
  ·refine⟨(F c b).2,?_,fun g hg=>?_⟩
   ·rw[bj0 (fun d hd=>by have:=hlt d hd;omega),← hlast,List.getLast?_eq_getElem?,h.len];rfl
   ·rw[f5 g hg,hS v (by omega) h2 h3]
 ·rw[if_neg hlast,if_neg hlast]
  refine⟨f1,by simp[h.len],asc_snoc h.asc hlt (by have:=hasc.1;omega) hasc.2.1,fun d hd c' hc'=>?_,adj_snoc h.adj hlast,fun k hk=>?_,fun v h1 h2 h3=>?_⟩
  ·rcases List.mem_append.1 hd with hd | hd
   ·exact h.lt d hd c' (by simp[hc'])
   ·simp at hd;subst hd;exact(pt0 hasc.2.2 c' hc').1
  ·rcases List.mem_append.1 hk with hk | hk
   ·exact hkid k hk
   ·simp at hk;subst hk;exact⟨f3,f4⟩
  ·by_cases hv:v<c
   ·obtain⟨k,k1,k2⟩:=old v h1 hv
    refine⟨k,?_,k2⟩
    rw[kidx_snoc hv,List.getElem?_append_left (List.getElem?_eq_some_iff.1 k1).1];exact k1
   ·refine⟨(F c b).2,?_,fun g hg=>?_⟩
    ·rw[bj0 (fun d hd=>by
      rcases List.mem_append.1 hd with hd | hd
      ·have:=hlt d hd;omega
      ·simp at hd;omega),List.length_append,List.length_singleton,← h.len];simp
    ·rw[f5 g hg,hS v (by omega) h2 h3]
theorem pz0 {a:Nat}{S:Int→Fa→δ}{F:Int→Bs δ→Bs δ×Nat}(hF:FSpec L p D a S F):∀ (l:List Int)(c0:Int)(b:Bs δ)(C:List Int)(K:List Nat),Asc c0 (L.hi a) l→L.lo a≤c0→K≠[] →
  (∀ c∈l,∀ v,c≤v→v≤L.hi a→(∀ d∈l,d≤c∨v<d)→S v=S c)→KInv L p D a S l b C K →
  KInv L p D a S [] (kids F l b C K).1 (kids F l b C K).2.1 (kids F l b C K).2.2∧Ext b.tab (kids F l b C K).1.tab∧Keys (a+1) b (kids F l b C K).1
 | [],c0,b,C,K,_,_,_,_,h=>⟨h,.refl _,fun k hk=>.inl hk⟩
 | c::l,c0,b,C,K,hasc,h0,hK,hS,h=>by
  obtain⟨k1,k2,k3⟩:=h.step hF hasc h0 fun v h1 h2 h3=>hS c (by simp) v h1 h2 fun d hd=>by
   rcases List.mem_cons.1 hd with rfl | hd
   ·exact .inl (Int.le_refl _)
   ·exact .inr (h3 d hd)
  have hS':∀ c'∈l,∀ v,c'≤v→v≤L.hi a→(∀ d∈l,d≤c'∨v<d)→S v=S c':=fun c' hc' v h1 h2 h3=>hS c' (by simp[hc']) v h1 h2 fun d hd=>by
   rcases List.mem_cons.1 hd with rfl | hd
   ·have:=(pt0 hasc.2.2 c' hc').1;exact .inl (by omega)
   ·exact h3 d hd
  simp only[kids]
  by_cases hlast:K.getLast?=some (F c b).2
  ·rw[if_pos hlast,if_pos hlast] at k1
   rw[if_pos hlast]
   obtain⟨m1,m2,m3⟩:=pz0 hF l c _ C K hasc.2.2 (by have:=hasc.1;omega) hK hS' k1
   exact⟨m1,k2.trans m2,fun k hk=>(m3 k hk).elim (fun h=>k3 k h) .inr⟩
  ·rw[if_neg hlast,if_neg hlast] at k1
   rw[if_neg hlast,if_neg hK]
   obtain⟨m1,m2,m3⟩:=pz0 hF l c _ (C++[c]) (K++[(F c b).2]) hasc.2.2 (by have:=hasc.1;omega) (by simp) hS' k1
   exact⟨m1,k2.trans m2,fun k hk=>(m3 k hk).elim (fun h=>k3 k h) .inr⟩
theorem at_const {a:Nat}{live:List Nat}{lo hi:Int}{l:List Int}(hst:∀ z∈live,∀ c,c=p.lo z a∨c=p.hi z a+1→lo<c→c≤hi→c∈l){c v:Int}(h0:lo≤c)(h1:c≤v)(h2:v≤hi)(h3:∀ d∈l,d≤c∨v<d) :
  live.filter (fun z=>p.at z a v)=live.filter fun z=>p.at z a c:=by
 refine List.filter_congr fun z hz=>?_
 have e1:=hst z hz (p.lo z a) (.inl rfl)
 have e2:=hst z hz (p.hi z a+1) (.inr rfl)
 unfold Prob.at
 rw[decide_eq_decide]
 constructor
 ·rintro ⟨k1,k2⟩
  refine⟨?_,by omega⟩
  by_cases hc:p.lo z a≤c
  ·exact hc
  ·rcases h3 _ (e1 (by omega) (by omega)) with h | h<;>omega
 ·rintro ⟨k1,k2⟩
  refine⟨by omega,?_⟩
  by_cases hc:v≤p.hi z a
  ·exact hc
  ·rcases h3 _ (e2 (by omega) (by omega)) with h | h<;>omega
theorem nf0 {a:Nat}(ha:a<10)(f:Fa)(c:Int)(z:Nat):p.Pre (a+1) (upd f a c) z=(p.at z a c&&p.Pre a f z):=by
 rw[Bool.eq_iff_iff]
 simp only[Prob.Pre,List.all_eq_true,List.mem_range,Bool.or_eq_true,decide_eq_true_eq,Bool.and_eq_true]
 constructor
 ·intro h
  refine⟨?_,fun b hb=>?_⟩
  ·rcases h a ha with h1 | h1
   ·omega
   ·simpa [upd] using h1
  ·rcases h b hb with h1 | h1
   ·exact .inl (by omega)
   ·by_cases hab:b=a
    ·exact .inl (by omega)
    ·exact .inr (by simpa [upd,hab] using h1)
 ·rintro ⟨h1,h2⟩ b hb
  by_cases hab:b=a
  ·subst hab;exact .inr (by simpa [upd] using h1)
  ·rcases h2 b hb with h3 | h3
   ·exact .inl (by omega)
   ·exact .inr (by simpa [upd,hab] using h3)
theorem Inv.note {b:Bs δ}(h:Inv L p D b 1){a:Nat}{live:List Nat}{n:Nat}(hk:(a,live) ∉ b.made.map (·.1))(h1:n<b.tab.ns.length)(h2:a≤lev (b.tab.nd n))(h3:a<10)(h4:p.Can a live)(h5:∀ g,L.In g→b.tab.val g n=sem p D a live g) :
  Inv L p D ⟨b.tab,b.made++[((a,live),n)]⟩ where
 ok:=h.ok
 made a' live' n' hn:=by
  rcases List.mem_append.1 hn with hn | hn
  ·exact h.made a' live' n' hn
  ·simp only[List.mem_singleton,Prod.mk.injEq] at hn
   obtain⟨⟨rfl,rfl⟩,rfl⟩:=hn
   exact⟨h1,h2,h3,h4,h5⟩
 keys:=by
  rw[List.map_append,List.nodup_append]
  exact⟨h.keys,by simp,fun x hx y hy e=>hk (by simp at hy;rw[← hy,← e];exact hx)⟩
 size:=by have:=h.size;simp;omega
 lnode:=h.lnode
 dec:=h.dec
theorem ae0 (hL:L.Ok)(hp:p.Ok L D):∀ (r a:Nat)(live:List Nat)(f:Fa)(b:Bs δ),a+r=10→Inv L p D b→live=(List.range p.nz).filter (p.Pre a f) →
  Inv L p D (make p r a live f b).1∧Ext b.tab (make p r a live f b).1.tab∧(make p r a live f b).2<(make p r a live f b).1.tab.ns.length∧a≤lev ((make p r a live f b).1.tab.nd (make p r a live f b).2) ∧
   (∀ g,L.In g→(make p r a live f b).1.tab.val g (make p r a live f b).2=sem p D a live g)∧Keys a b (make p r a live f b).1
 | 0,a,live,f,b,ha,hb,hlive=>by
  have:a=10:=by omega
  subst this
  have hsub:p.Can 10 live:=⟨_,hlive⟩
  have hd:p.dec f=D live:=by
   rw[hp.dec,hlive]
   congr 1
  obtain⟨h1,h2,h3,h4,h5,h6⟩:=addL_spec hb hsub hd
  simp only[make]
  exact⟨h1,h2,h3,by omega,fun g _=>by rw[h5,sem_ten,hd],fun k hk=>by rw[h6] at hk;exact .inl hk⟩
 | r+1,a,live,f,b,ha,hb,hlive=>by
  have ha10:a<10:=by omega
  have hsub:p.Can a live:=⟨_,hlive⟩
  simp only[make]
  cases hlk:look b.made (a,live) with
  | some n =>
   obtain⟨m1,m2,m3,m4,m5⟩:=hb.made a live n (look_some hlk)
   exact⟨hb,.refl _,m1,m2,m5,fun k hk=>.inl hk⟩
  | none =>
   have hno:=ao0 hlk
   dsimp only
   obtain⟨l,hl,hasc,hst⟩:=hp.st a live ha10
   generalize hFd:(fun c b=>make p r (a+1) (live.filter fun z=>p.at z a c) (upd f a c) b)=F
   have hF:FSpec L p D a (fun c g=>sem p D (a+1) (live.filter fun z=>p.at z a c) g) F:=fun c b _ _ hb=>by
    subst hFd
    refine ae0 hL hp r (a+1) _ (upd f a c) b (by omega) hb ?_
    rw[hlive,List.filter_filter]
    exact List.filter_congr fun z _=>(nf0 ha10 f c z).symm
   rw[hl]
   obtain⟨f1,f2,f3,f4,f5,f6⟩:=hF (L.lo a) b (Int.le_refl _) (hL a) hb
   have hk0:kids F (L.lo a::l) b [] []=kids F l (F (L.lo a) b).1 [] [(F (L.lo a) b).2]:=by simp[kids]
   rw[hk0]
   obtain⟨k1,k2,k3⟩:=pz0 hF l (L.lo a) (F (L.lo a) b).1 [] [(F (L.lo a) b).2] hasc (Int.le_refl _) (by simp)
    (fun c hc v h1 h2 h3=>by
     have:=(pt0 hasc c hc).1
     funext g
     rw[at_const hst (by omega) h1 h2 h3])
    ⟨f1,rfl,trivial,by simp,trivial,by simpa using⟨f3,f4⟩,fun v h1 h2 h3=>⟨_,rfl,fun g hg=>by
     rw[f5 g hg,at_const hst (Int.le_refl _) h1 h2 fun d hd=>.inr (h3 d hd)]⟩⟩
   generalize kids F l (F (L.lo a) b).1 [] [(F (L.lo a) b).2]=q at k1 k2 k3
   obtain⟨b2,C,K⟩:=q
   dsimp only at k1 k2 k3 ⊢
   have hno2:(a,live) ∉ b2.made.map (·.1):=fun e=>by
    rcases k3 _ e with e | e
    ·rcases f6 _ e with e | e
     ·exact hno e
     ·simp at e;omega
    ·simp at e;omega
   have hval:∀ g,L.In g→∃ k,K[wo0 C (g a)]?=some k∧b2.tab.val g k=sem p D a live g:=fun g hg=>by
    obtain⟨k,e1,e2⟩:=k1.val (g a) (hg a ha10).1 (hg a ha10).2 (by simp)
    exact⟨k,e1,by rw[e2 g hg,← sem_succ ha10]⟩
   have hext:=f2.trans k2
   have hkeys:Keys a b b2:=fun k hk=>by
    rcases k3 k hk with e | e
    ·rcases f6 k e with e | e
     ·exact .inl e
     ·exact .inr (by omega)
    ·exact .inr (by omega)
   have fin:∀ (b3:Bs δ)(n:Nat),Inv L p D b3 1→Ext b2.tab b3.tab→b3.made=b2.made→n<b3.tab.ns.length→a≤lev (b3.tab.nd n)→(∀ g,L.In g→b3.tab.val g n=sem p D a live g) →
     Inv L p D ⟨b3.tab,b3.made++[((a,live),n)]⟩∧Ext b.tab b3.tab∧n<b3.tab.ns.length∧a≤lev (b3.tab.nd n)∧(∀ g,L.In g→b3.tab.val g n=sem p D a live g)∧Keys a b ⟨b3.tab,b3.made++[((a,live),n)]⟩:=fun b3 n i1 i2 i3 i4 i5 i6=>by
    refine⟨i1.note (by rw[i3];exact hno2) i4 i5 ha10 hsub i6,hext.trans i2,i4,i5,i6,fun k hk=>?_⟩
    simp only[List.map_append,List.mem_append,List.map_cons,List.map_nil,List.mem_singleton] at hk
    rcases hk with hk | hk
    ·rw[i3] at hk;exact hkeys k hk
    ·exact .inr (by rw[hk];exact Nat.le_refl _)
   match K,C,k1,hval with
   | [],C,k1,_=>have:=k1.len;simp at this
   | [n],C,k1,hval =>
    have hC:C=[]:=by have:=k1.len;simpa using this
    subst hC
    obtain⟨n1,n2⟩:=k1.kid n (by simp)
    exact fin b2 n { k1.inv with size:=Nat.le_succ_of_le k1.inv.size } (.refl _) rfl n1 (by omega) fun g hg=>by
     obtain⟨k,e1,e2⟩:=hval g hg
     simp[wo0] at e1;subst e1;exact e2
   | n0::n1::K,C,k1,hval =>
    have hnil:n0::n1::K≠[]:=by simp
    have hfine:Fine L b2.tab.ns.length b2.tab.ls.length b2.tab.nd ⟨a,C,n0::n1::K,0⟩:=⟨fun e=>by simp at e,fun _=>⟨ha10,rfl,k1.len,fun e=>by have:=k1.len;dsimp only at e;subst e;simp at this,k1.asc⟩,fun k hk=>k1.kid k hk,k1.adj⟩
    obtain⟨h1,h2,h3,h4,h5,h6,h7,h8,h9⟩:=pe0 k1.inv.ok hfine
    have hi3:∀ g,L.In g→(addN b2 ⟨a,C,n0::n1::K,0⟩).1.tab.val g (addN b2 ⟨a,C,n0::n1::K,0⟩).2=sem p D a live g:=fun g hg=>by
     rw[fj0 h1 h3 (by rw[h4];exact hnil),h4]
     obtain⟨k,e1,e2⟩:=hval g hg
     dsimp only
     rw[List.getD_eq_getElem?_getD,e1,Option.getD_some,← e2]
     exact h2.val k1.inv.ok g 11 k (k1.kid k (List.mem_of_getElem? e1)).1
    have hlev:a≤lev ((addN b2 ⟨a,C,n0::n1::K,0⟩).1.tab.nd (addN b2 ⟨a,C,n0::n1::K,0⟩).2):=by rw[h4];unfold lev;rw[if_neg hnil];exact Nat.le_refl _
    exact fin _ _ (k1.inv.ext h1 h2 h5 (by rw[h6,h5];have:=k1.inv.size;omega) (fun i hi=>by
     rw[h6] at hi
     obtain⟨l',hl'⟩:=h2.ns
     rw[hl']
     exact List.mem_append_left _ (k1.inv.lnode i hi)) (by rw[h6];exact k1.inv.dec)) h2 h5 h3 hlev hi3
end
end Tb
