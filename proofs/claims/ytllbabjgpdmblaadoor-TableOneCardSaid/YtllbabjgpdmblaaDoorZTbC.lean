/- Parts of the proof. -/
import Derived.Test.YtllbabjgpdmblaaDoorZTbB
set_option linter.unusedSimpArgs false
set_option linter.unusedVariables false
set_option linter.unusedSectionVars false
namespace Tb
set_option linter.unusedSectionVars false
section
variable {kids:Nat→List Nat}{lv:Nat→Nat}{N:Nat}
structure WalkOk (kids:Nat→List Nat)(N:Nat)(o r:List Nat):Prop where
 pre:∃ l,r=o++l
 clo:∀ y∈r,y∈o∨∀ k∈kids y,k∈r
 nod:o.Nodup→r.Nodup
 lt:∀ y∈r,y∈o∨y<N
theorem WalkOk.sub {o r:List Nat}(h:WalkOk kids N o r):∀ y∈o,y∈r:=by
 obtain⟨l,hl⟩:=h.pre
 intro y hy;rw[hl];exact List.mem_append_left _ hy
theorem WalkOk.trans {o r s:List Nat}(h:WalkOk kids N o r)(k:WalkOk kids N r s):WalkOk kids N o s where
 pre:=by obtain⟨a,ha⟩:=h.pre;obtain⟨b,hb⟩:=k.pre;exact⟨a++b,by rw[hb,ha,List.append_assoc]⟩
 clo y hy:=by
  rcases k.clo y hy with h1 | h1
  ·rcases h.clo y h1 with h2 | h2
   ·exact .inl h2
   ·exact .inr fun x hx=>k.sub x (h2 x hx)
  ·exact .inr h1
 nod ho:=k.nod (h.nod ho)
 lt y hy:=by
  rcases k.lt y hy with h1 | h1
  ·exact h.lt y h1
  ·exact .inr h1
theorem vy0 (hk:∀ x,x<N→∀ k∈kids x,k<N∧lv x<lv k):∀ (n x:Nat)(o:List Nat),x<N→10<n+lv x→lv x≤10→(∀ x,x<N→lv x≤10)→WalkOk kids N o (walk kids n x o)∧x∈walk kids n x o
 | 0,x,o,hx,h1,h2,_=>by omega
 | n+1,x,o,hx,h1,h2,hlv=>by
  simp only[walk]
  by_cases hm:x∈o
  ·rw[if_pos hm]
   exact⟨⟨⟨[],by simp⟩,fun y hy=>.inl hy,fun h=>h,fun y hy=>.inl hy⟩,hm⟩
  ·rw[if_neg hm]
   have fold:∀ (l o:List Nat),(∀ k∈l,k<N∧lv x<lv k)→WalkOk kids N o (l.foldl (fun o k=>walk kids n k o) o)∧∀ k∈l,k∈l.foldl (fun o k=>walk kids n k o) o:=by
    intro l
    induction l with
    | nil=>exact fun o _=>⟨⟨⟨[],by simp⟩,fun y hy=>.inl hy,fun h=>h,fun y hy=>.inl hy⟩,by simp⟩
    | cons k l ih =>
     intro o hl
     obtain⟨k1,k2⟩:=hl k (by simp)
     obtain⟨w1,w2⟩:=vy0 hk n k o k1 (by omega) (hlv k k1) hlv
     obtain⟨f1,f2⟩:=ih (walk kids n k o) (fun k' hk'=>hl k' (by simp[hk']))
     simp only[List.foldl_cons]
     refine⟨w1.trans f1,fun k' hk'=>?_⟩
     rcases List.mem_cons.1 hk' with rfl | hk'
     ·exact f1.sub _ w2
     ·exact f2 k' hk'
   obtain⟨f1,f2⟩:=fold (kids x) (o++[x]) (hk x hx)
   refine⟨⟨?_,fun y hy=>?_,fun ho=>f1.nod ?_,fun y hy=>?_⟩,f1.sub x (by simp)⟩
   ·obtain⟨l,hl⟩:=f1.pre
    exact⟨x::l,by rw[hl];simp⟩
   ·rcases f1.clo y hy with h | h
    ·rcases List.mem_append.1 h with h | h
     ·exact .inl h
     ·simp at h;subst h;exact .inr f2
    ·exact .inr h
   ·rw[List.nodup_append]
    exact⟨ho,by simp,fun a ha b hb e=>hm (by simp at hb;rw[← hb,← e];exact ha)⟩
   ·rcases f1.lt y hy with h | h
    ·rcases List.mem_append.1 h with h | h
     ·exact .inl h
     ·simp at h;subst h;exact .inr hx
    ·exact .inr h
end
section
variable {δ:Type}[Inhabited δ][DecidableEq δ]{L:Lim}{t:Tab δ}
def pos (O:List Nat)(x:Nat):Nat:=(idx O x).getD 0
def ren (t:Tab δ)(ps:Nat→Nat):List Nat→Nat→List Nd
 | [],_=>[]
 | x::l,k=>if (t.nd x).kids=[] then ⟨(t.nd x).attr,(t.nd x).cuts,[],k⟩::ren t ps l (k+1) else ⟨(t.nd x).attr,(t.nd x).cuts,(t.nd x).kids.map ps,(t.nd x).leaf⟩::ren t ps l k
def lvs (t:Tab δ)(O:List Nat):List δ:=(O.filter fun x=>(t.nd x).kids.isEmpty).map fun x=>t.ls.getD (t.nd x).leaf default
def renum (t:Tab δ)(root:Nat):Tab δ :=
 let O:=walk (fun x=>(t.nd x).kids) 11 root []
 ⟨ren t (pos O) O 0,lvs t O⟩
def lno (t:Tab δ)(O:List Nat):Nat:=(O.filter fun x=>(t.nd x).kids.isEmpty).length
theorem ng0 (ps:Nat→Nat):∀ (O:List Nat)(k:Nat),(ren t ps O k).length=O.length
 | [],_=>rfl
 | x::l,k=>by simp only[ren];split<;>simp[ng0 ps l]
theorem ak0 (ps:Nat→Nat):∀ (O:List Nat)(k i:Nat),(ren t ps O k)[i]?=(O[i]?).map fun x=>⟨(t.nd x).attr,(t.nd x).cuts,(t.nd x).kids.map ps,if (t.nd x).kids=[] then k+lno t (O.take i) else (t.nd x).leaf⟩
 | [],_,_=>by simp[ren]
 | x::l,k,0=>by
  simp only[ren]
  by_cases h:(t.nd x).kids=[]
  ·rw[if_pos h];simp[h,lno]
  ·rw[if_neg h];simp[h]
 | x::l,k,i+1=>by
  simp only[ren]
  by_cases h:(t.nd x).kids=[]
  ·rw[if_pos h,List.getElem?_cons_succ,ak0 ps l (k+1) i,List.getElem?_cons_succ]
   have:lno t ((x::l).take (i+1))=lno t (l.take i)+1:=by unfold lno;rw[List.take_succ_cons,List.filter_cons_of_pos (by simp[h])];simp
   rw[this]
   congr 1;funext y
   split
   ·simp;omega
   ·rfl
  ·rw[if_neg h,List.getElem?_cons_succ,ak0 ps l k i,List.getElem?_cons_succ]
   have:lno t ((x::l).take (i+1))=lno t (l.take i):=by unfold lno;rw[List.take_succ_cons,List.filter_cons_of_neg (by simp[h])]
   rw[this]
theorem ren_take (ps:Nat→Nat):∀ (O:List Nat)(k i:Nat),(ren t ps O k).take i=ren t ps (O.take i) k
 | [],_,_=>by simp[ren]
 | x::l,k,0=>by simp[ren]
 | x::l,k,i+1=>by
  simp only[ren,List.take_succ_cons]
  split<;>simp[ren_take ps l]
theorem ny0 (ps:Nat→Nat):∀ (O:List Nat)(k:Nat),((ren t ps O k).filter fun n=>n.kids.isEmpty).length=lno t O
 | [],_=>rfl
 | x::l,k=>by
  simp only[ren,lno]
  by_cases h:(t.nd x).kids=[]
  ·rw[if_pos h,List.filter_cons_of_pos (by rfl),List.filter_cons_of_pos (by simp[h]),List.length_cons,List.length_cons,ny0 ps l];rfl
  ·rw[if_neg h,List.filter_cons_of_neg (by simp[h]),List.filter_cons_of_neg (by simp[h]),ny0 ps l];rfl
theorem nodup_of_inj {α:Type}{l:List α}(h:∀ (i j:Nat)(a:α),l[i]?=some a→l[j]?=some a→i=j):l.Nodup:=by
 rw[List.Nodup,List.pairwise_iff_getElem]
 intro i j hi hj hij he
 have:=h i j l[i] (List.getElem?_eq_getElem hi) (by rw[List.getElem?_eq_getElem hj,he])
 omega
theorem fg0 {α:Type}{l:List α}(h:l.Nodup){i j:Nat}{a:α}(hi:l[i]?=some a)(hj:l[j]?=some a):i=j:=by
 obtain⟨h1,h2⟩:=List.getElem?_eq_some_iff.1 hi
 obtain⟨h3,h4⟩:=List.getElem?_eq_some_iff.1 hj
 exact gw0 h h1 h3 (h2.trans h4.symm)
theorem dg0 {α β:Type}{f:α→β}:∀ {l:List α},l.Nodup→(∀ a∈l,∀ b∈l,f a=f b→a=b)→(l.map f).Nodup
 | [],_,_=>by simp
 | a::l,h,hf=>by
  rw[List.nodup_cons] at h
  rw[List.map_cons,List.nodup_cons]
  refine⟨fun hm=>?_,dg0 h.2 fun x hx y hy=>hf x (by simp[hx]) y (by simp[hy])⟩
  obtain⟨b,hb,e⟩:=List.mem_map.1 hm
  exact h.1 (hf b (by simp[hb]) a (by simp) e▸hb)
theorem mv0 {O:List Nat}{x:Nat}(hx:x∈O):O[pos O x]?=some x:=by
 unfold pos
 cases h:idx O x with
 | none=>exact absurd hx (sw0 h)
 | some i=>exact gh0 h
theorem kx0 {α:Type}(q:α→Bool){l:List α}{i j:Nat}{a:α}(hi:l[i]?=some a)(hq:q a=true)(hij:i<j):((l.take i).filter q).length<((l.take j).filter q).length:=by
 have hlt:=(List.getElem?_eq_some_iff.1 hi).1
 have:l.take j=l.take i++(a::(l.drop (i+1)).take (j - (i+1))):=by
  have e:j=i+(1+(j - (i+1))):=by omega
  conv=>lhs;rw[e,List.take_add]
  rw[List.drop_eq_getElem_cons hlt,Nat.add_comm 1,List.take_succ_cons]
  rw[(List.getElem?_eq_some_iff.1 hi).2]
 rw[this,List.filter_append,List.length_append,List.filter_cons_of_pos hq]
 simp
theorem lb0 {α:Type}(q:α→Bool){l:List α}{i:Nat}{a:α}(hi:l[i]?=some a)(hq:q a=true):((l.take i).filter q).length<(l.filter q).length:=by
 have hlt:=(List.getElem?_eq_some_iff.1 hi).1
 have:=kx0 q hi hq (j:=l.length) hlt
 rwa [List.take_length] at this
theorem renum_canon (hL:L.Ok)(h:t.Ok L){root:Nat}(hr:root<t.ns.length):(renum t root).Canon L∧(renum t root).fn L 0=t.fn L root:=by
 obtain⟨w1,w2⟩:=vy0 (kids:=fun x=>(t.nd x).kids) (lv:=fun x=>lev (t.nd x)) (N:=t.ns.length) (fun x hx k hk=>wn0 h hx k hk) 11 root [] hr (by omega) (ye0 h hr) (fun x hx=>ye0 h hx)
 have hO:renum t root=⟨ren t (pos (walk (fun x=>(t.nd x).kids) 11 root [])) (walk (fun x=>(t.nd x).kids) 11 root []) 0,lvs t (walk (fun x=>(t.nd x).kids) 11 root [])⟩:=rfl
 have hO0:(walk (fun x=>(t.nd x).kids) 11 root [])[0]?=some root:=by
  have:walk (fun x=>(t.nd x).kids) 11 root []=(t.nd root).kids.foldl (fun o k=>walk (fun x=>(t.nd x).kids) 10 k o) [root]:=by simp[walk]
  rw[this]
  have:∀ (l o:List Nat),o[0]?=some root→(l.foldl (fun o k=>walk (fun x=>(t.nd x).kids) 10 k o) o)[0]?=some root:=by
   intro l
   induction l with
   | nil=>exact fun o h=>h
   | cons k l ih =>
    intro o ho
    refine ih _ ?_
    show (walk _ (9+1) k o)[0]?=some root
    simp only[walk]
    split
    ·exact ho
    ·have:∀ (n:Nat)(l o:List Nat),o[0]?=some root→(l.foldl (fun o k=>walk (fun x=>(t.nd x).kids) n k o) o)[0]?=some root:=by
      intro n
      induction n with
      | zero=>intro l;induction l with
       | nil=>exact fun o h=>h
       | cons k l ih=>intro o ho;exact ih _ ho
      | succ n ihn=>intro l;induction l with
       | nil=>exact fun o h=>h
       | cons k l ih =>
        intro o ho
        refine ih _ ?_
        simp only[walk]
        split
        ·exact ho
        ·exact ihn _ _ (by cases o with | nil=>cases ho | cons a o=>simpa using ho)
     exact this 9 _ _ (by cases o with | nil=>cases ho | cons a o=>simpa using ho)
  exact this _ _ rfl
 generalize hOe:walk (fun x=>(t.nd x).kids) 11 root []=O at w1 w2 hO hO0
 rw[hO]
 have hnod:O.Nodup:=w1.nod (by simp)
 have hlt:∀ x∈O,x<t.ns.length:=fun x hx=>(w1.lt x hx).resolve_left (by simp)
 have hclo:∀ x∈O,∀ k∈(t.nd x).kids,k∈O:=fun x hx=>(w1.clo x hx).resolve_left (by simp)
 have hnd:∀ i x,O[i]?=some x→(⟨ren t (pos O) O 0,lvs t O⟩:Tab δ).nd i=⟨(t.nd x).attr,(t.nd x).cuts,(t.nd x).kids.map (pos O),if (t.nd x).kids=[] then lno t (O.take i) else (t.nd x).leaf⟩:=fun i x hx=>by
  unfold Tab.nd
  rw[List.getD_eq_getElem?_getD,ak0,hx]
  simp[Tab.nd]
 have hlen:(ren t (pos O) O 0).length=O.length:=ng0 _ _ _
 have hlev:∀ i x,O[i]?=some x→lev ((⟨ren t (pos O) O 0,lvs t O⟩:Tab δ).nd i)=lev (t.nd x):=fun i x hx=>by
  rw[hnd i x hx];unfold lev;simp
 have hposlt:∀ x∈O,pos O x<O.length:=fun x hx=>(List.getElem?_eq_some_iff.1 (mv0 hx)).1
 have hpinj:∀ x∈O,∀ y∈O,pos O x=pos O y→x=y:=fun x hx y hy e=>by
  have:=mv0 hx;rw[e,mv0 hy] at this;exact(Option.some.inj this).symm
 have hok:Tab.Ok L (⟨ren t (pos O) O 0,lvs t O⟩:Tab δ):=by
  refine⟨fun i hi=>?_,nodup_of_inj fun i j a hi hj=>?_,?_⟩
  ·rw[hlen] at hi
   obtain⟨x,hx⟩:∃ x,O[i]?=some x:=⟨_,List.getElem?_eq_getElem hi⟩
   have hxO:=List.mem_of_getElem? hx
   have hf:=h.fine x (hlt x hxO)
   rw[hnd i x hx]
   refine⟨fun hk=>?_,fun hk=>?_,fun k' hk'=>?_,?_⟩
   ·have hk:(t.nd x).kids=[]:=by simpa using hk
    refine⟨(hf.leaf hk).1,(hf.leaf hk).2.1,?_⟩
    dsimp only
    rw[if_pos hk]
    show lno t (O.take i)<(lvs t O).length
    rw[lvs,List.length_map]
    exact lb0 (fun x=>(t.nd x).kids.isEmpty) hx (by simp[hk])
   ·have hk:(t.nd x).kids≠[]:=by simpa using hk
    obtain⟨a1,a2,a3,a4,a5⟩:=hf.inner hk
    refine⟨a1,?_,by simpa using a3,a4,a5⟩
    dsimp only
    rw[if_neg hk];exact a2
   ·obtain⟨k,hk,rfl⟩:=List.mem_map.1 hk'
    have hkO:=hclo x hxO k hk
    refine⟨by show _<(ren t (pos O) O 0).length;rw[hlen];exact hposlt k hkO,?_⟩
    rw[hlev _ k (mv0 hkO)]
    exact(hf.kid k hk).2
   ·exact bn0 hf.adj fun a ha b hb e=>hpinj a (hclo x hxO a ha) b (hclo x hxO b hb) e
  ·rw[ak0] at hi hj
   rw[Option.map_eq_some_iff] at hi hj
   obtain⟨x,hx,e1⟩:=hi
   obtain⟨y,hy,e2⟩:=hj
   have hxO:=List.mem_of_getElem? hx
   have hyO:=List.mem_of_getElem? hy
   rw[← e2] at e1
   simp only[Nd.mk.injEq,Nat.zero_add] at e1
   obtain⟨q1,q2,q3,q4⟩:=e1
   by_cases hk:(t.nd x).kids=[]
   ·have hk':(t.nd y).kids=[]:=by rw[hk] at q3;simpa using q3.symm
    rw[if_pos hk,if_pos hk'] at q4
    rcases Nat.lt_trichotomy i j with hij | hij | hij
    ·have:=kx0 (fun x=>(t.nd x).kids.isEmpty) hx (by simp[hk]) hij;unfold lno at q4;omega
    ·exact hij
    ·have:=kx0 (fun x=>(t.nd x).kids.isEmpty) hy (by simp[hk']) hij;unfold lno at q4;omega
   ·have hk':(t.nd y).kids≠[]:=fun e=>hk (by rw[e] at q3;simpa using q3)
    have q5:=fp0 (fun a ha b hb e=>hpinj a (hclo x hxO a ha) b (hclo y hyO b hb) e) q3
    have:x=y:=nd_inj h (hlt x hxO) (hlt y hyO) (by
     have l1:=((h.fine x (hlt x hxO)).inner hk).2.1
     have l2:=((h.fine y (hlt y hyO)).inner hk').2.1
     cases hnx:t.nd x;cases hny:t.nd y
     simp_all)
    subst this
    exact fg0 hnod hx hy
  ·refine dg0 (hnod.sublist List.filter_sublist) fun x hx y hy e=>?_
   obtain⟨hx,hkx⟩:=List.mem_filter.1 hx
   obtain⟨hy,hky⟩:=List.mem_filter.1 hy
   have hkx:(t.nd x).kids=[]:=by simpa using hkx
   have hky:(t.nd y).kids=[]:=by simpa using hky
   obtain⟨a1,a2,a3⟩:=(h.fine x (hlt x hx)).leaf hkx
   obtain⟨b1,b2,b3⟩:=(h.fine y (hlt y hy)).leaf hky
   have:=getD_inj h.ldup a3 b3 e
   refine nd_inj h (hlt x hx) (hlt y hy) ?_
   cases hnx:t.nd x;cases hny:t.nd y
   simp_all
 have hlenpos:0<O.length:=(List.getElem?_eq_some_iff.1 hO0).1
 have hval:∀ (n i x:Nat)(g:Fa),O[i]?=some x→(⟨ren t (pos O) O 0,lvs t O⟩:Tab δ).ua0 g n i=t.ua0 g n x:=by
  intro n
  induction n with
  | zero=>exact fun i x g _=>rfl
  | succ n ih =>
   intro i x g hx
   have hxO:=List.mem_of_getElem? hx
   simp only[Tab.ua0,hnd i x hx]
   by_cases hk:(t.nd x).kids=[]
   ·rw[if_pos (by simp[hk]),if_pos hk,if_pos hk]
    unfold lvs lno
    rw[List.getD_eq_getElem?_getD,List.getElem?_map]
    have:(O.filter fun x=>(t.nd x).kids.isEmpty)[((O.take i).filter fun x=>(t.nd x).kids.isEmpty).length]?=some x:=by
     have e:O=O.take i++x::O.drop (i+1):=by
      have hlt:=(List.getElem?_eq_some_iff.1 hx).1
      conv=>lhs;rw[← List.take_append_drop i O,List.drop_eq_getElem_cons hlt,(List.getElem?_eq_some_iff.1 hx).2]
     conv=>lhs;rw[e]
     rw[List.take_append_of_le_length (by simp;have:=(List.getElem?_eq_some_iff.1 hx).1;omega)]
     rw[List.filter_append,List.filter_cons_of_pos (by simp[hk])]
     rw[List.take_take,Nat.min_self]
     rw[List.getElem?_append_right (Nat.le_refl _)];simp
    rw[this];rfl
   ·rw[if_neg (by simpa using hk),if_neg hk]
    obtain⟨k1,k2⟩:=jj0 h (hlt x hxO) hk (g (t.nd x).attr)
    rw[List.getD_eq_getElem?_getD,List.getElem?_map,k1,Option.map_some,Option.getD_some]
    exact ih _ _ g (mv0 (hclo x hxO _ k2))
 refine⟨⟨hok,by show 0<(ren t (pos O) O 0).length;rw[hlen];exact hlenpos,?_,fun i hi hk=>?_,?_⟩,funext fun g=>hval 11 0 root g.1 hO0⟩
 ·let R:Nat→Nat→Prop:=fun i x=>O[i]?=some x
  have inj:∀ x y x' y',R x y→R x' y'→(x=x'↔y=y'):=fun i x j y h1 h2=>⟨fun e=>by subst e;exact Option.some.inj (h1.symm.trans h2),fun e=>by subst e;exact fg0 hnod h1 h2⟩
  have hk:∀ i x,R i x→Fa2 R ((⟨ren t (pos O) O 0,lvs t O⟩:Tab δ).nd i).kids (t.nd x).kids:=fun i x hx=>by
   rw[hnd i x hx]
   have:∀ l:List Nat,(∀ k∈l,k∈O)→Fa2 R (l.map (pos O)) l:=by
    intro l
    induction l with
    | nil=>exact fun _=>.nil
    | cons k l ih=>exact fun hl=>.cons (mv0 (hl k (by simp))) (ih fun k' hk'=>hl k' (by simp[hk']))
   exact this _ (hclo x (List.mem_of_getElem? hx))
  have hw:=mo0 R inj hk 11 0 root [] [] hO0 .nil
  rw[hOe] at hw
  obtain⟨e1,e2⟩:=uc0 hw
  refine List.ext_getElem (by rw[e1,List.length_range];exact hlen.symm) fun i h1 h2=>?_
  rw[List.getElem_range]
  have hi:i<O.length:=by rw[← e1];exact h1
  have:=e2 i _ _ (List.getElem?_eq_getElem h1) (List.getElem?_eq_getElem hi)
  exact fg0 hnod this (List.getElem?_eq_getElem hi)
 ·have hi':i<O.length:=by rw[← hlen];exact hi
  rw[hnd i O[i] (List.getElem?_eq_getElem hi')] at hk ⊢
  have hk:(t.nd O[i]).kids=[]:=by simpa using hk
  dsimp only
  rw[if_pos hk,ren_take,ny0]
 ·show (lvs t O).length=((ren t (pos O) O 0).filter fun n=>n.kids.isEmpty).length
  rw[ny0,lvs,List.length_map];rfl
theorem len_le {α:Type}[DecidableEq α]:∀ {l m:List α},l.Nodup→(∀ x∈l,x∈m)→l.length≤m.length
 | [],_,_,_=>Nat.zero_le _
 | a::l,m,h,hs=>by
  rw[List.nodup_cons] at h
  have ha:=hs a (by simp)
  have:=len_le (l:=l) (m:=m.erase a) h.2 fun x hx=>(List.mem_erase_of_ne (fun e=>h.1 (by rw[← e];exact hx))).2 (hs x (by simp[hx]))
  rw[List.length_erase_of_mem ha] at this
  have:=List.length_pos_of_mem ha
  simp only[List.length_cons];omega
def subs {α:Type}:List α→List (List α)
 | []=>[[]]
 | a::l=>subs l++(subs l).map (a::·)
theorem subs_len {α:Type}:∀ l:List α,(subs l).length=2 ^ l.length
 | []=>rfl
 | a::l=>by simp[subs,subs_len l,Nat.pow_succ];omega
theorem mem_subs {α:Type}{l m:List α}(h:l.Sublist m):l∈subs m:=by
 induction h with
 | slnil=>simp[subs]
 | cons a _ ih=>exact List.mem_append_left _ ih
 | cons_cons a _ ih=>exact List.mem_append_right _ (List.mem_map.2 ⟨_,ih,rfl⟩)
theorem Inv.fewer {p:Prob δ}{D:List Nat→δ}{b:Bs δ}{s:Nat}(h:Inv L p D b s)(Cs:Nat→List (List Nat))(M:Nat)(hC:∀ a l,a≤10→p.Can a l→l∈Cs a)(hM:∀ a,a≤10→(Cs a).length≤M):b.tab.ns.length≤11 * M+s∧b.tab.ls.length≤M:=by
 have h1:b.tab.ls.length≤(Cs 10).length:=by
  have:=len_le (l:=b.tab.ls) (m:=(Cs 10).map D) h.ok.ldup fun d hd=>by
   obtain⟨live,k1,k2⟩:=h.dec d hd
   exact List.mem_map.2 ⟨live,hC _ _ (Nat.le_refl _) k1,k2.symm⟩
  rwa [List.length_map] at this
 have h2:b.made.length≤10 * M:=by
  have:=len_le (l:=b.made.map (·.1)) (m:=(List.range 10).flatMap fun a=>(Cs a).map fun l=>(a,l)) h.keys fun k hk=>by
   obtain⟨⟨⟨a,live⟩,n⟩,hm,rfl⟩:=List.mem_map.1 hk
   obtain⟨k1,k2,k3,k4,k5⟩:=h.made a live n hm
   exact List.mem_flatMap.2 ⟨a,List.mem_range.2 k3,List.mem_map.2 ⟨live,hC _ _ (by omega) k4,rfl⟩⟩
  rw[List.length_map,List.length_flatMap] at this
  simp only[List.length_map] at this
  have e:((List.range 10).map fun a=>(Cs a).length).sum≤10 * M:=by
   have:=hM 0 (by omega);have:=hM 1 (by omega);have:=hM 2 (by omega);have:=hM 3 (by omega);have:=hM 4 (by omega)
   have:=hM 5 (by omega);have:=hM 6 (by omega);have:=hM 7 (by omega);have:=hM 8 (by omega);have:=hM 9 (by omega)
   simp[List.range,List.range.loop];omega
  omega
 have:=h.size
 have:=hM 10 (Nat.le_refl _)
 exact⟨by omega,by omega⟩
theorem Inv.few {p:Prob δ}{D:List Nat→δ}{b:Bs δ}{s:Nat}(h:Inv L p D b s):b.tab.ns.length≤11 * 2 ^ p.nz+s∧b.tab.ls.length≤2 ^ p.nz :=
 h.fewer (fun _=>subs (List.range p.nz)) _ (fun a l _ ⟨_,e⟩=>mem_subs (e▸List.filter_sublist)) fun a _=>by rw[subs_len,List.length_range];exact Nat.le_refl _
def Sm (M:Nat)(b:Bs δ):Prop:=∀ n∈b.tab.ns,n.kids.length≤M
theorem Sm.addN {M:Nat}{b:Bs δ}(h:Sm M b){n:Nd}(hn:n.kids.length≤M):Sm M (addN b n).1:=by
 unfold Tb.addN
 split
 ·exact h
 ·intro x hx
  rcases List.mem_append.1 hx with hx | hx
  ·exact h x hx
  ·simp at hx;subst hx;exact hn
theorem ff0 {M:Nat}{F:Int→Bs δ→Bs δ×Nat}(hF:∀ c b,Sm M b→Sm M (F c b).1):∀ (l:List Int)(b:Bs δ)(C:List Int)(K:List Nat),Sm M b→Sm M (Tb.kids F l b C K).1∧(Tb.kids F l b C K).2.2.length≤K.length+l.length
 | [],b,C,K,h=>⟨h,by simp[Tb.kids]⟩
 | c::l,b,C,K,h=>by
  simp only[Tb.kids]
  split
  ·obtain⟨h1,h2⟩:=ff0 hF l (F c b).1 C K (hF c b h)
   exact⟨h1,by rw[List.length_cons];omega⟩
  ·obtain⟨h1,h2⟩:=ff0 hF l (F c b).1 (if K=[] then C else C++[c]) (K++[(F c b).2]) (hF c b h)
   exact⟨h1,by rw[List.length_cons];simp only[List.length_append,List.length_singleton] at h2;omega⟩
theorem mf0 {p:Prob δ}{M N:Nat}(hst:∀ a live,live.length≤N→(p.starts a live).length≤M):∀ (r a:Nat)(live:List Nat)(f:Fa)(b:Bs δ),live.length≤N→Sm M b→Sm M (make p r a live f b).1
 | 0,a,live,f,b,_,h=>by
  simp only[make,addL]
  split
  ·exact h.addN (by simp)
  ·exact Sm.addN (b:={ b with tab:={ b.tab with ls:=b.tab.ls++[p.dec f] } }) h (by simp)
 | r+1,a,live,f,b,hl,h=>by
  simp only[make]
  split
  ·exact h
  ·obtain⟨k1,k2⟩:=ff0 (M:=M) (F:=fun c b=>make p r (a+1) (live.filter fun z=>p.at z a c) (upd f a c) b) (fun c b hb=>mf0 hst r (a+1) _ _ b (Nat.le_trans (List.length_filter_le _ _) hl) hb) (p.starts a live) b [] [] h
   have:=hst a live hl
   simp only[List.length_nil,Nat.zero_add] at k2
   split
   ·exact k1
   ·exact k1.addN (by simp only;omega)
end
end Tb
