/- Parts of the proof. -/
import Derived.Test.YtllbabjgpdmblaaDoorZTdQ1
import Derived.Test.YtllbabjgpdmblaaDoorZTdBuilder
import Derived.Test.YtllbabjgpdmblaaDoorZTd20d
import Derived.Test.YtllbabjgpdmblaaDoorZTdP2
set_option linter.unusedSimpArgs false
set_option linter.unusedVariables false
set_option linter.unusedSectionVars false
namespace Go.SX.Td
open Go Go.SX Tb
def cnt (o:List Nat):Nat:=o.foldl (fun c x=>if x=c then c+1 else c) 0
theorem cnt_snoc (o:List Nat)(x:Nat):cnt (o++[x])=if x=cnt o then cnt o+1 else cnt o:=by unfold cnt;rw[List.foldl_append];rfl
theorem sh0 : ∀ (o:List Nat)(c:Nat),c≤o.foldl (fun c x=>if x=c then c+1 else c) c∧o.foldl (fun c x=>if x=c then c+1 else c) c≤c+o.length∧(o.foldl (fun c x=>if x=c then c+1 else c) c=c+o.length→o=(List.range o.length).map (c+·))
 | [],c=>by simp
 | x::o,c=>by
  rw[List.foldl_cons]
  by_cases h:x=c
  ·rw[if_pos h]
   obtain⟨h1,h2,h3⟩:=sh0 o (c+1)
   refine⟨by omega,by rw[List.length_cons];omega,fun e=>?_⟩
   have:=h3 (by rw[List.length_cons] at e;omega)
   rw[List.length_cons,List.range_succ_eq_map,List.map_cons,List.map_map,h]
   congr 1
   conv=>lhs;rw[this]
   refine List.map_congr_left fun a _=>?_
   simp only[Function.comp];omega
  ·rw[if_neg h]
   obtain⟨h1,h2,h3⟩:=sh0 o c
   refine⟨h1,by rw[List.length_cons];omega,fun e=>?_⟩
   rw[List.length_cons] at e;omega
theorem cnt_le (o:List Nat):cnt o≤o.length:=by have:=(sh0 o 0).2.1;unfold cnt;omega
theorem cnt_all {o:List Nat}(h:cnt o=o.length):o=List.range o.length:=by
 have:=(sh0 o 0).2.2 (by unfold cnt at h;omega)
 rw[this];simp
theorem cnt_range : ∀ n,cnt (List.range n)=n
 | 0=>rfl
 | n+1=>by rw[List.range_succ,cnt_snoc,cnt_range n,if_pos rfl]
theorem walkV_eq {t:Tab Decision}(hkl:∀ x,x<t.ns.length→∀ k∈(t.nd x).kids,k<t.ns.length∧lev (t.nd x)<lev (t.nd k))(hlv:∀ x,x<t.ns.length→lev (t.nd x)≤10)(hb:∀ n∈t.ns,Bd n)(hN:t.ns.length≤20000):∀ (n x:Nat)(o:List Nat),x<t.ns.length→10<n+lev (t.nd x)→o.Nodup→(∀ y∈o,y<t.ns.length) →
  walkV (t.ns.map zz0) n (x:Int) (fy0 o) (cnt o:Int)=some (fy0 (walk (zu0 t) n x o),(cnt (walk (zu0 t) n x o):Int))
 | 0,x,o,hx,hl,_,_=>by have:=hlv x hx;omega
 | n+1,x,o,hx,hl,ho,hbo=>by
  show walkV_b _ (walkV (t.ns.map zz0) n) _ _ _=_
  by_cases hm:x∈o
  ·simp only[walkV_b,Option.bind_some,xy0,hm,decide_true,cond_true,walk,if_true]
  ·have hnod:(o++[x]).Nodup:=by
    rw[List.nodup_append]
    exact⟨ho,by simp,fun a ha b hb e=>hm (by simp at hb;rw[← hb,← e];exact ha)⟩
   have hlt':∀ y∈o++[x],y<t.ns.length:=fun y hy=>by
    rcases List.mem_append.1 hy with hy | hy
    ·exact hbo y hy
    ·simp at hy;omega
   have hlen:o.length<t.ns.length:=by
    have:=len_lt hnod hlt'
    simp at this;omega
   have hcl:=cnt_le o
   have hc:(bif io.eq (x:Int) (cnt o:Int) then some (io.ar .add .i64 (cnt o:Int) 1) else some (cnt o:Int))=some ((cnt (o++[x]):Nat):Int):=by
    rw[cnt_snoc,zl0,qe0,za0 (by omega)]
    by_cases h:x=cnt o
    ·rw[if_pos h,decide_eq_true (by omega),cond_true]
    ·rw[if_neg h,decide_eq_false (by omega),cond_false]
   have hgx:idxG (t.ns.map zz0) (x:Int)=some (zz0 (t.nd x)):=qz0 (yb0 hx)
   simp only[walkV_b,Option.bind_some,xy0,hm,decide_false,cond_false,put_seen hm,hc,hgx,walk,if_false]
   have hgood:∀ k,k≤(t.nd x).kids.length→(((t.nd x).kids.take k).foldl (fun o k=>walk (zu0 t) n k o) (o++[x])).Nodup∧∀ y∈((t.nd x).kids.take k).foldl (fun o k=>walk (zu0 t) n k o) (o++[x]),y<t.ns.length:=by
    intro k
    induction k with
    | zero=>intro _;simp only[List.take_zero,List.foldl_nil];exact⟨hnod,hlt'⟩
    | succ k ih =>
     intro hk
     obtain⟨i1,i2⟩:=ih (by omega)
     have hg:(t.nd x).kids[k]?=some (t.nd x).kids[k]:=by simp
     rw[List.take_add_one,hg,Option.toList_some,List.foldl_append]
     simp only[List.foldl_cons,List.foldl_nil]
     obtain⟨k1,k2⟩:=hkl x hx _ (List.mem_of_getElem? hg)
     obtain⟨w1,-⟩:=vy0 (kids:=zu0 t) (lv:=fun x=>lev (t.nd x)) (N:=t.ns.length) hkl n _ (((t.nd x).kids.take k).foldl (fun o k=>walk (zu0 t) n k o) (o++[x])) k1 (by omega) (hlv _ k1) hlv
     exact⟨w1.nod i1,fun y hy=>(w1.lt y hy).elim (i2 y) id⟩
   have hmem:t.nd x∈t.ns:=by unfold Tab.nd;rw[List.getD_eq_getElem?_getD,List.getElem?_eq_getElem hx];exact List.getElem_mem _
   refine ws0 (step:=walkV_l1 (zz0 (t.nd x)) (walkV (t.ns.map zz0) n)) (fun (s:List Nat) i=>(fy0 s,(cnt s:Int),i)) (t.nd x).kids (fun o k=>walk (zu0 t) n k o) (o++[x]) _ (fun k y hy=>?_) ?_
   ·have hk:k<(t.nd x).kids.length:=(List.getElem?_eq_some_iff.1 hy).1
    obtain⟨g1,g2⟩:=hgood k (by omega)
    obtain⟨k1,k2⟩:=hkl x hx y (List.mem_of_getElem? hy)
    have hlt:(k:Int)<(ints (t.nd x).kids).length:=by rw[qk0];omega
    have e:=walkV_eq hkl hlv hb hN n y _ k1 (by omega) g1 g2
    simp only[walkV_l1,qy0,qj0,zz0,hlt,decide_true,cond_true,qz0 (yq0 hy),Option.bind_some,e,qe0,za0 (show k<9223372036854775807 by have:=(hb _ hmem).kids;omega)]
   ·have hlt:¬ (((t.nd x).kids.length:Int)<(ints (t.nd x).kids).length):=by rw[qk0];omega
    simp only[walkV_l1,qy0,qj0,zz0,hlt,decide_false,cond_false]
def vk0 {α κ:Type}(key:α→κ)(l:List α):List (κ×Bool):=l.map fun a=>(key a,true)
theorem fh0 {α κ:Type}[DecidableEq α][DecidableEq κ]{key:α→κ}(hi:∀ a b,key a=key b→a=b)(y:α):∀ l:List α,mlook (vk0 key l) (key y)=if y∈l then some true else none
 | []=>rfl
 | a::l=>by
  have ih:=fh0 hi y l
  simp only[vk0,List.map_cons,mlook,List.mem_cons] at ih ⊢
  by_cases h:y=a
  ·subst h;simp
  ·rw[if_neg (fun e=>h (hi _ _ e)),ih]
   simp[h]
theorem ug0 {α κ:Type}[DecidableEq α][DecidableEq κ]{key:α→κ}(hi:∀ a b,key a=key b→a=b)(y:α)(l:List α):mlookD (vk0 key l) (key y) false=decide (y∈l):=by
 unfold mlookD;rw[fh0 hi];split<;>simp[*]
theorem put_seenK {α κ:Type}[DecidableEq α][DecidableEq κ]{key:α→κ}(hi:∀ a b,key a=key b→a=b){y:α}{l:List α}(h:y ∉ l):mputG (vk0 key l) (key y) true=vk0 key (l++[y]):=by
 rw[jf0 _ _ _ (by rw[fh0 hi,if_neg h])];simp[vk0]
def yu0 (t:Tab Decision)(k:Nat):Nat:=((t.ns.take k).filter fun n=>n.kids.isEmpty).length
structure Facts (t:Tab Decision):Prop where
 fine:∀ x,x<t.ns.length→Fine zq0 t.ns.length t.ls.length t.nd (t.nd x)
 nodup:t.ns.Nodup
 leaf:∀ x,x<t.ns.length→(t.nd x).kids=[]→(t.nd x).leaf=yu0 t x
 ldup:(t.ls.take (yu0 t t.ns.length)).Nodup
theorem lcnt_succ {t:Tab Decision}{k:Nat}(hk:k<t.ns.length):yu0 t (k+1)=if (t.nd k).kids=[] then yu0 t k+1 else yu0 t k:=by
 have e:t.ns[k]?=some (t.nd k):=by unfold Tab.nd;rw[List.getD_eq_getElem?_getD,List.getElem?_eq_getElem hk];rfl
 unfold yu0
 rw[List.take_add_one,e,Option.toList_some,List.filter_append,List.length_append]
 by_cases h:(t.nd k).kids=[]
 ·rw[if_pos h,List.filter_cons_of_pos (by simp[h])];rfl
 ·rw[if_neg h,List.filter_cons_of_neg (by simp[h])];rfl
theorem lcnt_mono {t:Tab Decision}{j k:Nat}(h:j≤k):yu0 t j≤yu0 t k:=by
 unfold yu0
 obtain⟨d,rfl⟩:∃ d,k=j+d:=⟨k - j,by omega⟩
 rw[List.take_add,List.filter_append,List.length_append];omega
theorem lcnt_le (t:Tab Decision)(k:Nat):yu0 t k≤t.ns.length:=by
 unfold yu0
 have h1:=List.length_filter_le (fun n:Nd=>n.kids.isEmpty) (t.ns.take k)
 rw[List.length_take] at h1;omega
theorem nkeyE_inj : ∀ a b:Nd,nt0 (zz0 a)=nt0 (zz0 b)→a=b:=fun _ _ h=>bh0 (nkey_inj h)
theorem nkey_text {n:Nd}(hb:Bd n):table_text_g [(zz0 n).Cuts,(zz0 n).Kids,[(zz0 n).Attr,(zz0 n).Leaf]]=some (nt0 (zz0 n)):=by
 rw[text_eq (textOk (fun x hx=>by
  simp only[List.mem_cons,List.not_mem_nil,or_false] at hx
  rcases hx with rfl | rfl | rfl
  ·exact hb.cuts
  ·show (ints n.kids).length≤_;rw[qk0];exact hb.kids
  ·simp) (by simp) (fun x hx m hm=>by
  simp only[List.mem_cons,List.not_mem_nil,or_false] at hx
  rcases hx with rfl | rfl | rfl
  ·exact hb.cv m hm
  ·obtain⟨k,hk,rfl⟩:=sk0.1 (show m∈ints n.kids from hm)
   have:=hb.kv k hk;omega
  ·have:=hb.av;have:=hb.lv
   simp only[zz0,List.mem_cons,List.not_mem_nil,or_false] at hm
   rcases hm with rfl | rfl<;>omega))]
 rfl
theorem valid_loop {t:Tab Decision}(hb:∀ n∈t.ns,Bd n)(hN:t.ns.length≤20000):∃ b,whileG (table_Valid_l2 (ze0 t)) ([],[],0,0)=some (if b=true then .inl ((yu0 t t.ns.length:Nat):Int) else .inr false)∧(b=true↔Facts t):=by
 obtain⟨r,h1,b,rfl,h2⟩:=wk0 (step:=table_Valid_l2 (ze0 t)) (fun (s:List (ByteArray×Bool)×List (Decision×Bool)×Int) i=>(s.1,s.2.1,s.2.2,i)) t.ns.length
  (fun k s=>s=(vk0 (fun n=>nt0 (zz0 n)) (t.ns.take k),vk0 id (t.ls.take (yu0 t k)),((yu0 t k:Nat):Int))∧(∀ x,x<k→Fine zq0 t.ns.length t.ls.length t.nd (t.nd x))∧(t.ns.take k).Nodup∧(∀ x,x<k→(t.nd x).kids=[]→(t.nd x).leaf=yu0 t x)∧(t.ls.take (yu0 t k)).Nodup)
  (fun r=>∃ b:Bool,r=(if b=true then .inl ((yu0 t t.ns.length:Nat):Int) else .inr false)∧(b=true↔Facts t)) (fun k s hk hI=>by
  obtain⟨rfl,i1,i2,i3,i4⟩:=hI
  have hx:t.ns[k]?=some (t.nd k):=by unfold Tab.nd;rw[List.getD_eq_getElem?_getD,List.getElem?_eq_getElem hk];rfl
  have hm:t.nd k∈t.ns:=List.mem_of_getElem? hx
  have hbk:=hb _ hm
  have hg:idxG (ze0 t).Nodes (k:Int)=some (zz0 (t.nd k)):=qz0 (yb0 hk)
  have hlt:(k:Int)<(ze0 t).Nodes.length:=by simp[ze0];omega
  have hkl:((zz0 (t.nd k)).Kids.length:Int)=((t.nd k).kids.length:Nat):=by simp[zz0,qk0]
  have htk:t.ns.take (k+1)=t.ns.take k++[t.nd k]:=by rw[List.take_add_one,hx];rfl
  have hsc:=lcnt_succ hk
  have hcl:=lcnt_le t k
  have no:∀ {P:Prop},¬ P→(false=true↔P):=fun h=>⟨fun e=>(by cases e),fun p=>absurd p h⟩
  have hlook:=ug0 nkeyE_inj (t.nd k) (t.ns.take k)
  simp only[table_Valid_l2,qy0,qj0,hlt,decide_true,cond_true,hg,Option.bind_some,nkey_text hbk,hlook,zl0,hkl,zd0,qe0,za0 (k:=k) (by omega),za0 (k:=yu0 t k) (by omega)]
  by_cases hdup:t.nd k∈t.ns.take k
  ·refine .inr ⟨.inr false,by simp[hdup,orR],false,rfl,no fun F=>?_⟩
   have h3:(t.ns.take (k+1)).Nodup:=F.nodup.sublist (List.take_sublist _ _)
   rw[htk,List.nodup_append] at h3
   exact h3.2.2 _ hdup _ (by simp) rfl
  ·obtain⟨b,f1,f2⟩:=formed_eq t hbk (by omega)
   have hput:=put_seenK nkeyE_inj hdup
   rw[decide_eq_false hdup,cond_false,f1,hput,← htk]
   simp only[Option.bind_some]
   cases b with
   | false =>
    refine .inr ⟨.inr false,rfl,false,rfl,no fun F=>?_⟩
    have:=f2.2 (F.fine k hk);cases this
   | true =>
    have hf:=f2.1 rfl
    have hfine:∀ x,x<k+1→Fine zq0 t.ns.length t.ls.length t.nd (t.nd x):=fun x hx=>by
     rcases Nat.lt_or_eq_of_le (Nat.le_of_lt_succ hx) with h | h
     ·exact i1 x h
     ·rw[h];exact hf
    have hnd:(t.ns.take (k+1)).Nodup:=by
     rw[htk,List.nodup_append]
     exact⟨i2,by simp,fun a ha b hb e=>hdup (by simp at hb;rw[← hb,← e];exact ha)⟩
    simp only[Bool.not_true,cond_false]
    by_cases hkk:(t.nd k).kids=[]
    ·have h0:(((t.nd k).kids.length:Nat):Int)=0:=by rw[hkk];rfl
     rw[if_pos hkk] at hsc
     rw[decide_eq_true h0,cond_true]
     by_cases hle:(t.nd k).leaf=yu0 t k
     ·have hle':(zz0 (t.nd k)).Leaf=((yu0 t k:Nat):Int):=by rw[← hle];rfl
      have hll:yu0 t k<t.ls.length:=by rw[← hle];exact(hf.leaf hkk).2.2
      have hgl:t.ls[yu0 t k]?=some t.ls[yu0 t k]:=by simp[hll]
      generalize t.ls[yu0 t k]=d at hgl
      have hgl':idxG (ze0 t).Leaves ((yu0 t k:Nat):Int)=some d:=qz0 hgl
      have htl:t.ls.take (yu0 t k+1)=t.ls.take (yu0 t k)++[d]:=by rw[List.take_add_one,hgl];rfl
      have hlookd:=ug0 (key:=id) (fun (a b:Decision)(h:id a=id b)=>h) d (t.ls.take (yu0 t k))
      simp only[id] at hlookd
      rw[decide_eq_true hle',Bool.not_true,cond_false,hgl']
      simp only[Option.bind_some]
      have hid:vk0 id (t.ls.take (yu0 t k))=vk0 (fun d:Decision=>d) (t.ls.take (yu0 t k)):=rfl
      have hld:mlookD (vk0 id (t.ls.take (yu0 t k))) d false=decide (d∈t.ls.take (yu0 t k)):=ug0 (key:=id) (fun (a b:Decision)(h:id a=id b)=>h) d (t.ls.take (yu0 t k))
      rw[hld]
      by_cases hdd:d∈t.ls.take (yu0 t k)
      ·refine .inr ⟨.inr false,by rw[decide_eq_true hdd];rfl,false,rfl,no fun F=>?_⟩
       have h3:(t.ls.take (yu0 t k+1)).Nodup:=by
        have:=lcnt_mono (t:=t) (show k+1≤t.ns.length by omega)
        have h4:t.ls.take (yu0 t k+1)=(t.ls.take (yu0 t t.ns.length)).take (yu0 t k+1):=by rw[List.take_take];congr 1;omega
        rw[h4]
        exact F.ldup.sublist (List.take_sublist _ _)
       rw[htl,List.nodup_append] at h3
       exact h3.2.2 _ hdd _ (by simp) rfl
      ·have hpd:mputG (vk0 id (t.ls.take (yu0 t k))) d true=vk0 id (t.ls.take (yu0 t k)++[d]):=put_seenK (key:=id) (fun (a b:Decision)(h:id a=id b)=>h) hdd
       refine .inl ⟨(vk0 (fun n=>nt0 (zz0 n)) (t.ns.take (k+1)),vk0 id (t.ls.take (yu0 t (k+1))),((yu0 t (k+1):Nat):Int)),?_,rfl,hfine,hnd,fun x hx hxk=>?_,?_⟩
       ·rw[decide_eq_false hdd,cond_false,hpd,← htl,hsc]
        rfl
       ·rcases Nat.lt_or_eq_of_le (Nat.le_of_lt_succ hx) with h | h
        ·exact i3 x h hxk
        ·rw[h];exact hle
       ·rw[hsc,htl,List.nodup_append]
        exact⟨i4,by simp,fun a ha b hb e=>hdd (by simp at hb;rw[← hb,← e];exact ha)⟩
     ·have hle':¬ ((zz0 (t.nd k)).Leaf=((yu0 t k:Nat):Int)):=fun e=>hle (Int.ofNat.inj e)
      refine .inr ⟨.inr false,by rw[decide_eq_false hle'];rfl,false,rfl,no fun F=>hle (F.leaf k hk hkk)⟩
    ·have h0:¬ (((t.nd k).kids.length:Nat):Int)=0:=by
      have:(t.nd k).kids.length≠0:=by simpa using hkk
      omega
     rw[if_neg hkk] at hsc
     rw[decide_eq_false h0,cond_false]
     refine .inl ⟨(vk0 (fun n=>nt0 (zz0 n)) (t.ns.take (k+1)),vk0 id (t.ls.take (yu0 t (k+1))),((yu0 t (k+1):Nat):Int)),by rw[hsc];rfl,rfl,hfine,hnd,fun x hx hxk=>?_,by rw[hsc];exact i4⟩
     rcases Nat.lt_or_eq_of_le (Nat.le_of_lt_succ hx) with h | h
     ·exact i3 x h hxk
     ·rw[h] at hxk;exact absurd hxk hkk) (fun s hI=>by
  obtain⟨rfl,i1,i2,i3,i4⟩:=hI
  have hlt:¬ ((t.ns.length:Int)<(ze0 t).Nodes.length):=by simp[ze0]
  refine⟨.inl ((yu0 t t.ns.length:Nat):Int),by simp only[table_Valid_l2,qy0,qj0,hlt,decide_false,cond_false],true,rfl,fun _=>?_,fun _=>rfl⟩
  rw[List.take_length] at i2
  exact⟨i1,i2,i3,i4⟩) ([],[],0) (by simp[vk0,yu0])
 exact⟨b,h1,h2⟩
theorem canon_iff {t:Tab Decision}(hp:0<t.ns.length):t.Canon zq0↔Facts t∧walk (zu0 t) 11 0 []=List.range t.ns.length∧yu0 t t.ns.length=t.ls.length:=by
 constructor
 ·intro c
  have e:yu0 t t.ns.length=t.ls.length:=by unfold yu0;rw[List.take_length,c.all]
  exact⟨⟨c.ok.fine,c.ok.nodup,c.leaf,by rw[e,List.take_length];exact c.ok.ldup⟩,c.walk,e⟩
 ·rintro ⟨F,w,e⟩
  refine⟨⟨F.fine,F.nodup,?_⟩,hp,w,F.leaf,?_⟩
  ·have:=F.ldup;rwa [e,List.take_length] at this
  ·rw[← e];unfold yu0;rw[List.take_length]
theorem gn0 {t:Tab Decision}(hb:∀ n∈t.ns,Bd n)(hL:t.ls.length≤1000000):∃ b,table_Valid_g (ze0 t)=some b∧(b=true↔t.Canon zq0∧t.ns.length≤20000):=by
 have hnl:(ze0 t).Nodes.length=t.ns.length:=by simp[ze0]
 have hll:(ze0 t).Leaves.length=t.ls.length:=rfl
 unfold table_Valid_g
 simp only[qy0,qj0,hnl,hll,zl0]
 by_cases h1:t.ns.length<1
 ·have:((t.ns.length:Nat):Int)<1:=by omega
  rw[decide_eq_true this]
  exact⟨false,rfl,⟨fun h=>(by cases h),fun h=>by have:=h.1.pos;omega⟩⟩
 ·have h1':¬ ((t.ns.length:Nat):Int)<1:=by omega
  rw[decide_eq_false h1',cond_false,Option.bind_some]
  by_cases h2:20000<t.ns.length
  ·have:(20000:Int)<((t.ns.length:Nat):Int):=by omega
   rw[decide_eq_true this,cond_true]
   exact⟨false,rfl,⟨fun h=>(by cases h),fun h=>by have:=h.2;omega⟩⟩
  ·have h2':¬ (20000:Int)<((t.ns.length:Nat):Int):=by omega
   rw[decide_eq_false h2',cond_false]
   obtain⟨b,e,hbF⟩:=valid_loop hb (by omega)
   rw[e]
   have hc:=canon_iff (t:=t) (by omega)
   cases b with
   | false =>
    refine⟨false,rfl,⟨fun h=>(by cases h),fun h=>?_⟩⟩
    exact hbF.2 (hc.1 h.1).1
   | true =>
    have F:=hbF.1 rfl
    have hlv:∀ x,x<t.ns.length→lev (t.nd x)≤10:=fun x hx=>by
     unfold lev
     split
     ·exact Nat.le_refl _
     ·rename_i hk;have:=((F.fine x hx).inner hk).1;omega
    have hkl:∀ x,x<t.ns.length→∀ k∈(t.nd x).kids,k<t.ns.length∧lev (t.nd x)<lev (t.nd k):=fun x hx k hk=>by
     obtain⟨k1,k2⟩:=(F.fine x hx).kid k hk
     refine⟨k1,?_⟩
     have:lev (t.nd x)=(t.nd x).attr:=by unfold lev;rw[if_neg (List.ne_nil_of_mem hk)]
     omega
    have hw:=walkV_eq hkl hlv hb (by omega) 11 0 [] (by omega) (by omega) (by simp) (by simp)
    have hw':walkV (ze0 t).Nodes 11 0 [] 0=_:=hw
    obtain⟨w1,-⟩:=vy0 (kids:=zu0 t) (lv:=fun x=>lev (t.nd x)) (N:=t.ns.length) hkl 11 0 [] (by omega) (by omega) (hlv 0 (by omega)) hlv
    simp only[if_true,orR,Option.bind_some,hw']
    generalize walk (zu0 t) 11 0 []=r at w1 hc
    have hlen:=len_lt (w1.nod (by simp)) (fun x hx=>(w1.lt x hx).elim (by simp) id)
    have hcr:=cnt_le r
    by_cases h3:cnt r=t.ns.length
    ·have h3':((cnt r:Nat):Int)=((t.ns.length:Nat):Int):=by omega
     have hr:r=List.range t.ns.length:=by
      have h4:cnt r=r.length:=by omega
      have h5:=cnt_all h4
      rw[h5];congr 1;omega
     rw[decide_eq_true h3',cond_true]
     refine⟨decide (yu0 t t.ns.length=t.ls.length),?_,?_⟩
     ·congr 1
      rw[decide_eq_decide];omega
     ·rw[decide_eq_true_eq]
      exact⟨fun h=>⟨hc.2 ⟨F,hr,h⟩,by omega⟩,fun h=>(hc.1 h.1).2.2⟩
    ·have h3':¬ ((cnt r:Nat):Int)=((t.ns.length:Nat):Int):=by omega
     rw[decide_eq_false h3',cond_false]
     refine⟨false,rfl,⟨fun h=>(by cases h),fun h=>?_⟩⟩
     exact absurd (by rw[(hc.1 h.1).2.1,cnt_range]) h3
end Go.SX.Td
namespace Go.SX.Td
open Go Go.SX Tb
theorem kidx_loop (C:List Int)(f:A10 Int){a:Nat}(ha:a<10)(hC:C.length≤100000):whileG (table_Lookup_l26 C (a:Int) f) 0=some (if wo0 C (f.get a)<C.length then .inr ((wo0 C (f.get a):Nat):Int) else .inl ()):=by
 obtain⟨r,h1,rfl⟩:=wk0 (step:=table_Lookup_l26 C (a:Int) f) (fun (_:Unit) i=>i) C.length
  (fun k _=>wo0 C (f.get a)=k+wo0 (C.drop k) (f.get a)) (fun r=>r=if wo0 C (f.get a)<C.length then .inr ((wo0 C (f.get a):Nat):Int) else .inl ()) (fun k s hk hI=>by
  have hx:C[k]?=some C[k]:=by simp[hk]
  rw[List.drop_eq_getElem_cons hk] at hI
  generalize C[k]=x at hx hI
  have hlt:(k:Int)<C.length:=by omega
  simp only[table_Lookup_l26,qy0,qj0,hlt,decide_true,cond_true,qz0 hx,qn0 ha,Option.bind_some,qe0,za0 (k:=k) (by omega)]
  by_cases h:f.get a<x
  ·simp only[wo0] at hI
   rw[if_neg (by omega)] at hI
   refine .inr ⟨.inr (k:Int),by rw[decide_eq_true h];rfl,?_⟩
   rw[hI,Nat.add_zero,if_pos hk]
  ·simp only[wo0] at hI
   rw[if_pos (by omega)] at hI
   exact .inl ⟨(),by rw[decide_eq_false h];rfl,by omega⟩) (fun s hI=>by
  have hlt:¬ ((C.length:Int)<C.length):=by omega
  refine⟨.inl (),by simp only[table_Lookup_l26,qy0,qj0,hlt,decide_false,cond_false],?_⟩
  rw[if_neg]
  rw[List.drop_length] at hI
  simp only[wo0] at hI
  omega) () (by simp)
 exact h1
def fld (n:Nd):Int×List Int×List Int×Int:=((n.attr:Int),n.cuts,ints n.kids,(n.leaf:Int))
theorem down_loop {t:Tab Decision}(h:t.Ok zq0)(hb:∀ n∈t.ns,Bd n)(f:A10 Int):∀ (n x:Nat),x<t.ns.length→10<n+lev (t.nd x) →
  ∃ y,whileG (table_Lookup_l22 f (ze0 t)) (fld (t.nd x))=some (fld (t.nd y))∧y<t.ns.length∧(t.nd y).kids=[]∧t.ua0 (toF f) n x=t.ls.getD (t.nd y).leaf default
 | 0,x,hx,hl=>by have:=ye0 h hx;omega
 | n+1,x,hx,hl=>by
  have hmem:t.nd x∈t.ns:=by unfold Tab.nd;rw[List.getD_eq_getElem?_getD,List.getElem?_eq_getElem hx];exact List.getElem_mem _
  have hbx:=hb _ hmem
  have hkl:((ints (t.nd x).kids).length:Int)=((t.nd x).kids.length:Nat):=by simp[qk0]
  by_cases hk:(t.nd x).kids=[]
  ·refine⟨x,?_,hx,hk,by simp only[Tab.ua0,if_pos hk]⟩
   rw[qs0]
   have h0:¬ ((0:Int)<((t.nd x).kids.length:Nat)):=by rw[hk];simp
   simp only[fld,table_Lookup_l22,qy0,qj0,hkl,decide_eq_false h0,cond_false]
  ·obtain⟨k1,k2⟩:=jj0 h hx hk (toF f (t.nd x).attr)
   obtain⟨f1,f2,f3,f4,f5⟩:=(h.fine x hx).inner hk
   rw[zk0 f f1] at k1 k2
   have hkx:=kidx_le (t.nd x).cuts (f.get (t.nd x).attr)
   generalize hi:wo0 (t.nd x).cuts (f.get (t.nd x).attr)=i at k1 k2 hkx
   obtain⟨l1,l2⟩:=wn0 h hx _ k2
   generalize hz:(t.nd x).kids.getD i 0=z at k1 k2 l1 l2
   obtain⟨y,d1,d2,d3,d4⟩:=down_loop h hb f n z l1 (by omega)
   refine⟨y,?_,d2,d3,?_⟩
   ·rw[qs0]
    have h0:(0:Int)<((t.nd x).kids.length:Nat):=by
     have:(t.nd x).kids.length≠0:=by simpa using hk
     omega
    have hg:idxG (ze0 t).Nodes (z:Int)=some (zz0 (t.nd z)):=qz0 (yb0 l1)
    have hgk:idxG (ints (t.nd x).kids) (i:Int)=some (z:Int):=qz0 (yq0 k1)
    have hloop:=kidx_loop (t.nd x).cuts f f1 hbx.cuts
    rw[hi] at hloop
    simp only[fld,table_Lookup_l22,qy0,qj0,hkl,decide_eq_true h0,cond_true,hloop]
    by_cases hlt:i<(t.nd x).cuts.length
    ·have h1:¬ ((i:Int)<0):=by omega
     simp only[if_pos hlt,orR,Option.bind_some,decide_eq_false h1,cond_false,hgk,hg]
     exact d1
    ·have he:((t.nd x).cuts.length:Int)=(i:Int):=by omega
     have h1:((-1:Int)<0):=by omega
     simp only[if_neg hlt,orR,Option.bind_some,decide_eq_true h1,cond_true,he,hgk,hg]
     exact d1
   ·simp only[Tab.ua0,if_neg hk]
    rw[zk0 f f1,hi,hz]
    exact d4
theorem ga0 {t:Tab Decision}(c:t.Canon zq0)(hb:∀ n∈t.ns,Bd n)(hN:t.ns.length≤20000)(hL:t.ls.length≤1000000)(f:A10 Int):table_Lookup_g (ze0 t) f=some (t.val (toF f) 0):=by
 obtain⟨b,e,hbv⟩:=gn0 hb hL
 have hb1:=hbv.2 ⟨c,hN⟩
 subst hb1
 obtain⟨y,d1,d2,d3,d4⟩:=down_loop c.ok hb f 11 0 c.pos (by omega)
 have h0:idxG (ze0 t).Nodes 0=some (zz0 (t.nd 0)):=qz0 (k:=0) (yb0 c.pos)
 have hl:=((c.ok.fine y d2).leaf d3).2.2
 have hg:idxG (ze0 t).Leaves ((t.nd y).leaf:Int)=some (t.ls.getD (t.nd y).leaf default):=by
  refine qz0 ?_
  show t.ls[_]?=_
  rw[List.getD_eq_getElem?_getD,List.getElem?_eq_getElem hl];rfl
 unfold table_Lookup_g
 have d1':whileG (table_Lookup_l22 f (ze0 t)) ((zz0 (t.nd 0)).Attr,(zz0 (t.nd 0)).Cuts,(zz0 (t.nd 0)).Kids,(zz0 (t.nd 0)).Leaf)=some (((t.nd y).attr:Int),(t.nd y).cuts,ints (t.nd y).kids,((t.nd y).leaf:Int)):=d1
 simp only[e,Option.bind_some,zd0,Bool.not_true,cond_false,h0,d1',hg]
 rw[← d4];rfl
theorem jy0 {p:Policy}(G:PG p):(zy0 p).ns.length≤20000∧(zy0 p).ls.length≤20000:=by
 obtain⟨b1,b2,-⟩:=gd0 p
 obtain⟨n1,n2⟩:=G.bnd _ b1
 obtain⟨w1,-⟩:=vy0 (kids:=zu0 (qd0 p).1.tab) (lv:=fun x=>lev ((qd0 p).1.tab.nd x)) (N:=(qd0 p).1.tab.ns.length) (fun x hx k hk=>wn0 b1.ok hx k hk) 11 (qd0 p).2 [] b2 (by omega) (ye0 b1.ok b2) (fun x hx=>ye0 b1.ok hx)
 have hO:=len_lt (w1.nod (by simp)) (fun x hx=>(w1.lt x hx).elim (by simp) id)
 have e1:(zy0 p).ns=ren (qd0 p).1.tab (pos (walk (zu0 (qd0 p).1.tab) 11 (qd0 p).2 [])) (walk (zu0 (qd0 p).1.tab) 11 (qd0 p).2 []) 0:=rfl
 have e2:(zy0 p).ls=lvs (qd0 p).1.tab (walk (zu0 (qd0 p).1.tab) 11 (qd0 p).2 []):=rfl
 rw[e1,e2,ng0,lvs_len]
 unfold lno
 have:=List.length_filter_le (fun x=>((qd0 p).1.tab.nd x).kids.isEmpty) (walk (zu0 (qd0 p).1.tab) 11 (qd0 p).2 [])
 omega
theorem canon_Bd {t:Tab Decision}(c:t.Canon zq0)(hN:t.ns.length≤20000)(hL:t.ls.length≤20000)(hk:∀ n∈t.ns,n.kids.length≤2001):∀ n∈t.ns,Bd n:=by
 intro n hn
 obtain⟨x,hx⟩:=List.getElem?_of_mem hn
 have hxl:=(List.getElem?_eq_some_iff.1 hx).1
 have e:t.nd x=n:=by unfold Tab.nd;rw[List.getD_eq_getElem?_getD,hx];rfl
 have F:=c.ok.fine x hxl
 rw[e] at F
 have:=hk n hn
 by_cases h:n.kids=[]
 ·obtain⟨f1,f2,f3⟩:=F.leaf h
  exact⟨by rw[f1];simp,by omega,by rw[f1];simp,by rw[h];simp,by omega,by omega⟩
 ·obtain⟨f1,f2,f3,f4,f5⟩:=F.inner h
  refine⟨by omega,by omega,fun c hc=>?_,fun k hk=>?_,by omega,by omega⟩
  ·have:=pt0 f5 c hc;have:=ko0 n.attr;omega
  ·have:=(F.kid k hk).1;omega
theorem builtT_kids {p:Policy}(G:PG p):∀ n∈(zy0 p).ns,n.kids.length≤2001:=by
 intro n hn
 obtain⟨b1,b2,-⟩:=gd0 p
 have hsm:=dd0 G.nz
 obtain⟨w1,-⟩:=vy0 (kids:=zu0 (qd0 p).1.tab) (lv:=fun x=>lev ((qd0 p).1.tab.nd x)) (N:=(qd0 p).1.tab.ns.length) (fun x hx k hk=>wn0 b1.ok hx k hk) 11 (qd0 p).2 [] b2 (by omega) (ye0 b1.ok b2) (fun x hx=>ye0 b1.ok hx)
 obtain⟨i,hi⟩:=List.getElem?_of_mem hn
 rw[show (zy0 p).ns=ren (qd0 p).1.tab (pos (walk (zu0 (qd0 p).1.tab) 11 (qd0 p).2 [])) (walk (zu0 (qd0 p).1.tab) 11 (qd0 p).2 []) 0 from rfl,ak0] at hi
 obtain⟨x,hx,rfl⟩:=Option.map_eq_some_iff.1 hi
 have hxl:x<(qd0 p).1.tab.ns.length:=(w1.lt x (List.mem_of_getElem? hx)).elim (by simp) id
 rw[List.length_map]
 exact hsm _ (by unfold Tab.nd;rw[List.getD_eq_getElem?_getD,List.getElem?_eq_getElem hxl];exact List.getElem_mem _)
theorem vu0 {p:Policy}(G:PG p):∀ n∈(zy0 p).ns,Bd n:=by
 obtain⟨h1,h2⟩:=jy0 G
 exact canon_Bd (ww0 p).1 h1 h2 (builtT_kids G)
theorem pm0 {p:Policy}(G:PG p):table_Valid_g (ze0 (zy0 p))=some true:=by
 obtain⟨h1,h2⟩:=jy0 G
 obtain⟨b,e,hb⟩:=gn0 (vu0 G) (by omega)
 rw[e,hb.2 ⟨(ww0 p).1,h1⟩]
theorem dc0 {p:Policy}(G:PG p)(f:A10 Int):table_Lookup_g (ze0 (zy0 p)) f=some ((zy0 p).val (toF f) 0):=by
 obtain⟨h1,h2⟩:=jy0 G
 exact ga0 (ww0 p).1 (vu0 G) h1 (by omega) f
end Go.SX.Td
namespace Go.SX.Td
open Go Go.SX Tb
theorem Tab.eq_of {t s:Tab Decision}(h:t.ns=s.ns∧t.ls=s.ls):t=s:=by
 obtain⟨a,b⟩:=t;obtain⟨c,d⟩:=s;obtain⟨rfl,rfl⟩:=h;rfl
theorem kc0 {p:Policy}{t:Tab Decision}(c:t.Canon zq0)(h:∀ g,zq0.In g→t.val g 0=kv0 p (toA g)):zy0 p=t :=
 Tab.eq_of (Canon.unique kj0 (ww0 p).1 c (funext fun ⟨g,hg⟩=>by
  show (zy0 p).val g 0=t.val g 0
  rw[(ww0 p).2 g hg,h g hg]))
def t1 (d:Decision):Tab Decision:=⟨[⟨0,[],[],0⟩],[d]⟩
def t3 (d0 d1:Decision):Tab Decision:=⟨[⟨2,[1],[1,2],0⟩,⟨0,[],[],0⟩,⟨0,[],[],1⟩],[d0,d1]⟩
def t5 (d0 d1 d2:Decision):Tab Decision:=⟨[⟨1,[18],[1,2],0⟩,⟨0,[],[],0⟩,⟨2,[1],[3,4],0⟩,⟨0,[],[],1⟩,⟨0,[],[],2⟩],[d0,d1,d2]⟩
theorem yo0 {nn nl:Nat}{nd:Nat→Nd}{k:Nat}(h:k<nl):Fine zq0 nn nl nd ⟨0,[],[],k⟩ :=
 ⟨fun _=>⟨rfl,rfl,h⟩,fun h=>absurd rfl h,fun k hk=>(by cases hk),trivial⟩
theorem sg0 {nn nl:Nat}{nd:Nat→Nd}{a:Nat}{c:Int}{i j:Nat}(ha:a<10)(hc:zq0.lo a<c∧c≤zq0.hi a)(hij:i≠j)(hi:i<nn∧a<lev (nd i))(hj:j<nn∧a<lev (nd j)):Fine zq0 nn nl nd ⟨a,[c],[i,j],0⟩ :=
 ⟨fun h=>(by cases h),fun _=>⟨ha,rfl,rfl,by simp,hc.1,hc.2,trivial⟩,fun k hk=>by
  simp only[List.mem_cons,List.not_mem_nil,or_false] at hk
  rcases hk with rfl | rfl
  ·exact hi
  ·exact hj,⟨hij,trivial⟩⟩
theorem sq0 (d:Decision):(t1 d).Canon zq0 where
 ok:=⟨fun x hx=>by
  match x,hx with
  | 0,_=>exact yo0 (show 0<1 by decide),by simp[t1],by simp[t1]⟩
 pos:=by show 0<1;decide
 walk:=by rfl
 leaf x hx _:=by
  match x,hx with
  | 0,_=>rfl
 all:=by rfl
theorem t3_canon {d0 d1:Decision}(h:d0≠d1):(t3 d0 d1).Canon zq0 where
 ok:=⟨fun x hx=>by
  match x,hx with
  | 0,_=>exact sg0 (by decide) (by decide) (by decide) ⟨by show 1<3;decide,by show 2<10;decide⟩ ⟨by show 2<3;decide,by show 2<10;decide⟩
  | 1,_=>exact yo0 (show 0<2 by decide)
  | 2,_=>exact yo0 (show 1<2 by decide),by simp[t3],by simp[t3,h]⟩
 pos:=by show 0<3;decide
 walk:=by rfl
 leaf x hx hk:=by
  match x,hx with
  | 0,_=>cases hk
  | 1,_=>rfl
  | 2,_=>rfl
 all:=by rfl
theorem t5_canon {d0 d1 d2:Decision}(h1:d0≠d1)(h2:d0≠d2)(h3:d1≠d2):(t5 d0 d1 d2).Canon zq0 where
 ok:=⟨fun x hx=>by
  match x,hx with
  | 0,_=>exact sg0 (by decide) (by decide) (by decide) ⟨by show 1<5;decide,by show 1<10;decide⟩ ⟨by show 2<5;decide,by show 1<2;decide⟩
  | 1,_=>exact yo0 (show 0<3 by decide)
  | 2,_=>exact sg0 (by decide) (by decide) (by decide) ⟨by show 3<5;decide,by show 2<10;decide⟩ ⟨by show 4<5;decide,by show 2<10;decide⟩
  | 3,_=>exact yo0 (show 1<3 by decide)
  | 4,_=>exact yo0 (show 2<3 by decide),by simp[t5],by simp[t5,h1,h2,h3]⟩
 pos:=by show 0<5;decide
 walk:=by rfl
 leaf x hx hk:=by
  match x,hx with
  | 0,_=>cases hk
  | 1,_=>rfl
  | 2,_=>cases hk
  | 3,_=>rfl
  | 4,_=>rfl
 all:=by rfl
theorem t1_val (d:Decision)(g:Fa):(t1 d).val g 0=d:=rfl
theorem t3_val (d0 d1:Decision)(g:Fa):(t3 d0 d1).val g 0=if 1≤g 2 then d1 else d0:=by
 by_cases h:1≤g 2
 ·rw[if_pos h];simp[Tab.val,Tab.ua0,Tab.nd,t3,wo0,h]
 ·rw[if_neg h];simp[Tab.val,Tab.ua0,Tab.nd,t3,wo0,h]
theorem t5_val (d0 d1 d2:Decision)(g:Fa):(t5 d0 d1 d2).val g 0=if 18≤g 1 then (if 1≤g 2 then d2 else d1) else d0:=by
 by_cases h:18≤g 1
 ·by_cases h':1≤g 2
  ·rw[if_pos h,if_pos h'];simp[Tab.val,Tab.ua0,Tab.nd,t5,wo0,h,h']
  ·rw[if_pos h,if_neg h'];simp[Tab.val,Tab.ua0,Tab.nd,t5,wo0,h,h']
 ·rw[if_neg h];simp[Tab.val,Tab.ua0,Tab.nd,t5,wo0,h]
def jd (l:List (Bool×Rule)):Decision:=finJ (l.foldl (fun (s:JS×Nat) x=>(if x.1 then note s.1 s.2 x.2 else s.1,s.2+1)) (J0,0)).1
theorem fs0 (p:Policy)(f:A10 Int):kv0 p f=jd (p.Rules.map fun r=>(holds r f,r)):=by
 unfold kv0 jd
 rw[List.foldl_map]
 rfl
theorem inZ_put {g:Fa}(hg:zq0.In g){a:Nat}(ha:a<10)(r:Range):inZ (zj0.put a r) (toA g)=decide (r.Lo≤g a∧g a≤r.Hi):=by
 rw[Bool.eq_iff_iff,fm0,decide_eq_true_eq]
 constructor
 ·intro h
  have:=h a ha
  rwa [A10.get_put _ _ _ _ ha ha,if_pos rfl,jq0 g a ha] at this
 ·intro h i hi
  rw[A10.get_put _ _ _ _ ha hi,jq0 g i hi]
  split
  ·rename_i e;subst e;exact h
  ·exact hg i hi
theorem bw0 {g:Fa}(hg:zq0.In g):inZ zj0 (toA g)=true:=by
 rw[fm0];intro i hi;rw[jq0 g i hi];exact hg i hi
def rl (kind:Int)(name:ByteArray)(n:Int)(z:A10 Range):Rule:=⟨kind,name,[z],n,⟨0,1⟩,⟨0,1⟩⟩
theorem by0 (kind:Int)(name:ByteArray)(n:Int)(z:A10 Range)(f:A10 Int):holds (rl kind name n z) f=inZ z f:=by simp[holds,rl]
def nA : ByteArray:=⟨#[97]⟩
def nP : ByteArray:=⟨#[112]⟩
def nD : ByteArray:=⟨#[100]⟩
theorem v0 : zv0 ⟨[]⟩=true:=by decide +kernel
theorem ss0 {n:Nd}(h1:n.cuts.length≤1)(h2:n.kids.length≤2)(h3:∀ c∈n.cuts,0≤c∧c≤18)(h4:∀ k∈n.kids,k≤10)(h5:n.attr≤10)(h6:n.leaf≤10):Bd n :=
 ⟨by omega,by omega,fun c hc=>by have:=h3 c hc;omega,fun k hk=>by have:=h4 k hk;omega,by omega,by omega⟩
theorem PG0 {l:List Rule}(hv:zv0 ⟨l⟩=true)(h:(qq0 ⟨l⟩).length≤10):PG ⟨l⟩:=PG_few hv h
theorem g0 : PG ⟨[]⟩:=PG0 v0 (by decide)
theorem ud0 : table_Valid_g ⟨[],[]⟩=some false:=by
 unfold table_Valid_g
 simp only[qy0,qj0,List.length_nil,Int.natCast_zero]
 rfl
end Go.SX.Td
