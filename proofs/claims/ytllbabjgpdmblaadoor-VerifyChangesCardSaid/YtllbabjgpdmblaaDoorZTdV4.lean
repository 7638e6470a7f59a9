/- Parts of the proof. -/
import Derived.Test.YtllbabjgpdmblaaDoorZTdV2
import Derived.Test.YtllbabjgpdmblaaDoorZTdCompact
import Derived.Test.YtllbabjgpdmblaaDoorZTd21d
set_option linter.unusedSimpArgs false
set_option linter.unusedVariables false
set_option linter.unusedSectionVars false
namespace Go.SX.Td
open Go Go.SX Tb
theorem mw0 : ∀ (l:List Rule)(i:Nat)(r:Rule),qp0 i (l++[r])=qp0 i l++(List.range r.Zones.length).map fun k:Nat=>Live.mk ((i+l.length:Nat):Int) (k:Int)
 | [],i,r=>by simp[qp0]
 | q::l,i,r=>by
  simp only[List.cons_append,qp0,mw0 l (i+1) r,List.length_cons,List.append_assoc]
  rw[show i+1+l.length=i+(l.length+1) by omega]
theorem pz_all (p:Policy):pz p (List.range (qq0 p).length)=qp0 0 p.Rules:=by
 have hl:(qp0 0 p.Rules).length=(qq0 p).length:=gx0 0 _
 refine List.ext_getElem? fun k=>?_
 by_cases hk:k<(qq0 p).length
 ·rw[pz_get (z:=k) (by simp[hk]),lv,List.getD_eq_getElem?_getD,List.getElem?_eq_getElem (by omega)]
  simp
 ·rw[List.getElem?_eq_none (by rw[db0,List.length_range];omega),List.getElem?_eq_none (by omega)]
theorem in_loop (r:Rule)(v:Int)(s:List Live)(h:s.length+r.Zones.length≤1000000):whileG (verify_Differ_l14 r v) (s,0)=some (s++(List.range r.Zones.length).map fun k:Nat=>Live.mk v (k:Int)):=by
 obtain⟨q,h1,rfl⟩:=wk0 (step:=verify_Differ_l14 r v) (fun (s:List Live) i=>(s,i)) r.Zones.length (fun k s'=>s'=s++(List.range k).map fun k:Nat=>Live.mk v (k:Int)) (fun q=>q=s++(List.range r.Zones.length).map fun k:Nat=>Live.mk v (k:Int))
  (fun k s' hk hI=>by
   subst hI
   have hlt:(k:Int)<r.Zones.length:=by omega
   have hap:appG (s++(List.range k).map fun k:Nat=>Live.mk v (k:Int)) [Live.mk v (k:Int)]=some (s++(List.range k).map (fun k:Nat=>Live.mk v (k:Int))++[Live.mk v (k:Int)]):=qu0 (by simp;omega)
   refine .inl ⟨s++(List.range k).map (fun k:Nat=>Live.mk v (k:Int))++[Live.mk v (k:Int)],by simp only[verify_Differ_l14,qy0,qj0,hlt,decide_true,cond_true,Option.bind_some,hap,qe0,za0 (k:=k) (by omega)],?_⟩
   rw[List.range_succ];simp) (fun s' hI=>by
   subst hI
   exact⟨_,by simp[verify_Differ_l14,qy0,qj0],rfl⟩) s (by simp)
 exact h1
theorem out_loop {p:Policy}(hR:p.Rules.length≤1000)(hZ:∀ r∈p.Rules,r.Zones.length≤1000)(hn:(qq0 p).length≤1000):whileG (verify_Differ_l12 p) ([],0)=some (qp0 0 p.Rules):=by
 obtain⟨q,h1,rfl⟩:=wk0 (step:=verify_Differ_l12 p) (fun (s:List Live) i=>(s,i)) p.Rules.length (fun k s=>s=qp0 0 (p.Rules.take k)) (fun q=>q=qp0 0 p.Rules)
  (fun k s hk hI=>by
   subst hI
   have hx:p.Rules[k]?=some p.Rules[k]:=by simp[hk]
   have hm:=List.getElem_mem hk
   generalize p.Rules[k]=r at hx hm
   have hlt:(k:Int)<p.Rules.length:=by omega
   have hsl:(qp0 0 (p.Rules.take k)).length≤1000:=by
    rw[gx0]
    have e:p.Rules.flatMap (·.Zones)=(p.Rules.take k).flatMap (·.Zones)++(p.Rules.drop k).flatMap (·.Zones):=by rw[← List.flatMap_append,List.take_append_drop]
    have:=congrArg List.length e
    rw[List.length_append] at this
    have:(p.Rules.flatMap (·.Zones)).length=(qq0 p).length:=rfl
    omega
   have hin:=in_loop r (k:Int) (qp0 0 (p.Rules.take k)) (by have:=hZ r hm;omega)
   refine .inl ⟨_,by simp only[verify_Differ_l12,qy0,qj0,hlt,decide_true,cond_true,qz0 hx,Option.bind_some,hin,qe0,za0 (k:=k) (by omega)];rfl,?_⟩
   rw[List.take_add_one,hx,Option.toList_some,mw0,Nat.zero_add,List.length_take,Nat.min_eq_left (by omega)]) (fun s hI=>by
   subst hI
   exact⟨_,by simp[verify_Differ_l12,qy0,qj0],rfl⟩) [] (by simp[qp0])
 exact h1
structure Res2 (p:Policy)(t:Tab Decision)(g:A10 Int)(b:Bool):Prop where
 yes:b=true→zq0.In (toF g)∧kv0 p g≠t.val (toF g) 0∧∀ f:A10 Int,zq0.In (toF f)→Lx 0 (toF f) (toF g)→kv0 p f=t.val (toF f) 0
 no:b=false→g=A0∧∀ f:A10 Int,zq0.In (toF f)→kv0 p f=t.val (toF f) 0
theorem bf0 {p:Policy}{t:Tab Decision}(f:A10 Int):Dif (qx0 p) (decL p) t 0 (List.range (qx0 p).nz) 0 (toF f)↔kv0 p f≠t.val (toF f) 0:=by
 unfold Dif sem
 rw[← (ay0 p).dec (toF f)]
 have e:(qx0 p).dec (toF f)=kv0 p f:=by show kv0 p (toA (toF f))=_;rw[fx0]
 rw[e]
theorem win_in {g:Fa}(h:zq0.In g):Win zq0 0 g:=fun j _ hj=>h j hj
theorem jt0 {p:Policy}(G:PG p)(hR:p.Rules.length≤1000)(hZ:∀ r∈p.Rules,r.Zones.length≤1000)(hv:zv0 p=true){t:Tab Decision}(c:t.Canon zq0)(hb:∀ n∈t.ns,Bd n)(hN:t.ns.length≤20000)(hL:t.ls.length≤1000000) :
  ∃ g b,verify_Differ_g p (ze0 t)=some (g,b)∧Res2 p t g b:=by
 obtain⟨b0,e0,hb0⟩:=gn0 hb hL
 have:=hb0.2 ⟨c,hN⟩
 subst this
 obtain⟨b,g,m',h1,-,-,h4,h5⟩:=tdiff_ok G hR hZ c.ok hb hN 11 0 0 A0 [] rfl (by omega) c.pos (Nat.zero_le _) (fun a x l _ _ _ h=>by simp[mlookD,mlook] at h)
 have hl:wp0 p A0 0=List.range (qx0 p).nz:=liveOf_zero p A0
 rw[hl] at h1 h4 h5
 have hz:pz p (List.range (qx0 p).nz)=qp0 0 p.Rules:=pz_all p
 rw[hz] at h1
 have h1':tdiff p.Rules (ze0 t).Nodes (ze0 t).Leaves zj0 11 0 (qp0 0 p.Rules) 0 (A10.mk 0 0 0 0 0 0 0 0 0 0) []=some (b,g,m'):=h1
 unfold verify_Differ_g
 simp only[xm0,hv,Option.bind_some,zd0,Bool.not_true,cond_false,e0,jl0,out_loop hR hZ G.nz,h1']
 cases b with
 | false =>
  refine⟨A0,false,rfl,(fun h=>by cases h),fun _=>⟨rfl,fun f hf=>?_⟩⟩
  have:=h5 rfl (toF f) (win_in hf)
  rw[bf0] at this
  exact Classical.byContradiction this
 | true =>
  refine⟨g,true,rfl,fun _=>?_,(fun h=>by cases h)⟩
  have hf:=h4 rfl
  refine⟨fun j hj=>hf.win j (Nat.zero_le _) hj,(bf0 g).1 hf.dif,fun f hin hlt=>?_⟩
  have:=hf.least (toF f) (win_in hin) hlt
  rw[bf0] at this
  exact Classical.byContradiction this
theorem ma0 {p:Policy}{T:Table}(h:zv0 p=false∨table_Valid_g T=some false)(ht:∃ b,table_Valid_g T=some b):verify_Differ_g p T=some (A0,true):=by
 unfold verify_Differ_g
 obtain⟨b,hb⟩:=ht
 cases hv:zv0 p with
 | false=>simp only[xm0,hv,Option.bind_some,zd0,Bool.not_false,cond_true];rfl
 | true =>
  rw[hv] at h
  rcases h with h | h
  ·cases h
  ·simp only[xm0,hv,h,Option.bind_some,zd0,Bool.not_true,Bool.not_false,cond_true,cond_false];rfl
theorem Lx_tri (f g:Fa):Lx 0 f g∨Lx 0 g f∨∀ j,j<10→f j=g j:=by
 have key:∀ n,n≤10→(∀ j,j<n→f j=g j)∨Lx 0 f g∨Lx 0 g f:=by
  intro n
  induction n with
  | zero=>exact fun _=>.inl fun j hj=>by omega
  | succ n ih =>
   intro hn
   rcases ih (by omega) with h | h
   ·rcases Int.lt_trichotomy (f n) (g n) with h1 | h1 | h1
    ·exact .inr (.inl ⟨n,Nat.zero_le _,by omega,fun j _ hj=>h j hj,h1⟩)
    ·refine .inl fun j hj=>?_
     rcases Nat.lt_or_eq_of_le (Nat.le_of_lt_succ hj) with h2 | rfl
     ·exact h j h2
     ·exact h1
    ·exact .inr (.inr ⟨n,Nat.zero_le _,by omega,fun j _ hj=>(h j hj).symm,h1⟩)
   ·exact .inr h
 rcases key 10 (Nat.le_refl _) with h | h | h
 ·exact .inr (.inr h)
 ·exact .inl h
 ·exact .inr (.inl h)
theorem eq_of_toF {f g:A10 Int}(h:∀ j,j<10→toF f j=toF g j):f=g:=A10.ext_get fun j hj=>by have:=h j hj;rwa [zk0 f hj,zk0 g hj] at this
theorem Lx_not_ge {s g:Fa}(h:∀ j,j<10→s j≤g j):¬ Lx 0 g s:=fun ⟨n,_,h2,_,h4⟩=>by have:=h n h2;omega
theorem Res2.unique {p q:Policy}{t:Tab Decision}{g h:A10 Int}{a b:Bool}(H:Res2 p t g a)(K:Res2 q t h b)(he:∀ f,zq0.In (toF f)→kv0 p f=kv0 q f):g=h∧a=b:=by
 cases a with
 | false =>
  obtain⟨rfl,h2⟩:=H.no rfl
  cases b with
  | false=>exact⟨(K.no rfl).1.symm,rfl⟩
  | true =>
   obtain⟨k1,k2,-⟩:=K.yes rfl
   exact absurd ((he h k1).symm.trans (h2 h k1)) k2
 | true =>
  obtain⟨h1,h2,h3⟩:=H.yes rfl
  cases b with
  | false =>
   obtain⟨rfl,k2⟩:=K.no rfl
   exact absurd ((he g h1).trans (k2 g h1)) h2
  | true =>
   obtain⟨k1,k2,k3⟩:=K.yes rfl
   refine⟨?_,rfl⟩
   rcases Lx_tri (toF g) (toF h) with hl | hl | hl
   ·exact absurd ((he g h1).trans (k3 g h1 hl)) h2
   ·exact absurd ((he h k1).symm.trans (h3 h k1 hl)) k2
   ·exact eq_of_toF hl
theorem Res2.least {p:Policy}{t:Tab Decision}{g:A10 Int}{b:Bool}(H:Res2 p t g b){s:A10 Int}(hs:zq0.In (toF s))(hd:kv0 p s≠t.val (toF s) 0)(hl:∀ f:A10 Int,zq0.In (toF f)→kv0 p f≠t.val (toF f) 0→∀ j,j<10→toF s j≤toF f j):b=true∧g=s:=by
 cases b with
 | false=>exact absurd ((H.no rfl).2 s hs) hd
 | true =>
  obtain⟨h1,h2,h3⟩:=H.yes rfl
  refine⟨rfl,?_⟩
  rcases Lx_tri (toF s) (toF g) with h | h | h
  ·exact absurd (h3 s hs h) hd
  ·exact absurd h (Lx_not_ge (hl g h1 h2))
  ·exact(eq_of_toF h).symm
theorem Small_eq {T:Table}(hT:T.Nodes.length≤9223372036854775807):∃ b,ref14_Small_g T=some b∧(b=true→T.Nodes.length≤60∧T.Leaves.length≤60∧∀ N∈T.Nodes,N.Cuts.length≤20∧N.Kids.length≤21):=by
 obtain⟨r,h1,h2⟩:=wk0 (step:=ref14_Small_l2 T) (fun (_:Unit) i=>i) T.Nodes.length (fun k _=>∀ N∈T.Nodes.take k,N.Cuts.length≤20∧N.Kids.length≤21) (fun r=>r=.inr false∨r=.inl ()∧∀ N∈T.Nodes,N.Cuts.length≤20∧N.Kids.length≤21)
  (fun k s hk hI=>by
   have hx:T.Nodes[k]?=some T.Nodes[k]:=by simp[hk]
   have ht:T.Nodes.take (k+1)=T.Nodes.take k++[T.Nodes[k]]:=by rw[List.take_add_one,hx];rfl
   generalize T.Nodes[k]=x at hx ht
   have hlt:(k:Int)<T.Nodes.length:=by omega
   simp only[ref14_Small_l2,qy0,qj0,hlt,decide_true,cond_true,qz0 hx,Option.bind_some,qe0,za0 (k:=k) (by omega)]
   by_cases h1:(20:Int)<x.Cuts.length
   ·exact .inr ⟨.inr false,by rw[decide_eq_true h1];rfl,.inl rfl⟩
   ·by_cases h2:(21:Int)<x.Kids.length
    ·exact .inr ⟨.inr false,by rw[decide_eq_false h1,decide_eq_true h2];rfl,.inl rfl⟩
    ·refine .inl ⟨(),by rw[decide_eq_false h1,decide_eq_false h2];rfl,fun N hN=>?_⟩
     rw[ht] at hN
     rcases List.mem_append.1 hN with hN | hN
     ·exact hI N hN
     ·simp only[List.mem_singleton] at hN;subst hN;omega) (fun s hI=>by
   rw[List.take_length] at hI
   exact⟨_,by simp[ref14_Small_l2,qy0,qj0],.inr ⟨rfl,hI⟩⟩) () (by simp)
 unfold ref14_Small_g
 rw[h1]
 rcases h2 with rfl | ⟨rfl,h2⟩
 ·exact⟨false,rfl,fun h=>by cases h⟩
 ·simp only[orR,jk0,qj0]
  by_cases h3:(T.Nodes.length:Int)≤60
  ·rw[decide_eq_true h3]
   refine⟨decide ((T.Leaves.length:Int)≤60),rfl,fun h=>?_⟩
   have:(T.Leaves.length:Int)≤60:=by simpa using h
   exact⟨by omega,by omega,h2⟩
  ·exact⟨false,by rw[decide_eq_false h3];rfl,fun h=>by cases h⟩
theorem Less_eq (f g:A10 Int):∃ b,ref15_Less_g f g=some b∧(b=true↔Lx 0 (toF f) (toF g)):=by
 obtain⟨r,h1,b,hr,h2⟩:=wk0 (step:=ref15_Less_l2 f g) (fun (_:Unit) i=>i) 10 (fun k _=>∀ j,j<k→f.get j=g.get j) (fun r=>∃ b:Bool,(r=.inr b∨r=.inl ()∧b=false)∧(b=true↔Lx 0 (toF f) (toF g)))
  (fun k s hk hI=>by
   have hlt:(k:Int)<10:=by omega
   simp only[ref15_Less_l2,qy0,hlt,decide_true,cond_true,qn0 hk,Option.bind_some,zl0,zd0,qe0,za0 (k:=k) (by omega)]
   by_cases h:f.get k=g.get k
   ·refine .inl ⟨(),by rw[decide_eq_true h];rfl,fun j hj=>?_⟩
    rcases Nat.lt_or_eq_of_le (Nat.le_of_lt_succ hj) with h2 | rfl
    ·exact hI j h2
    ·exact h
   ·refine .inr ⟨.inr (decide (f.get k<g.get k)),by rw[decide_eq_false h];rfl,_,.inl rfl,?_⟩
    rw[decide_eq_true_eq]
    constructor
    ·intro h3
     exact⟨k,Nat.zero_le _,hk,fun j _ hj=>by rw[zk0 f (by omega),zk0 g (by omega)];exact hI j hj,by rw[zk0 f hk,zk0 g hk];exact h3⟩
    ·rintro ⟨n,_,n2,n3,n4⟩
     rw[zk0 f n2,zk0 g n2] at n4
     have e:n=k:=by
      rcases Nat.lt_trichotomy n k with h5 | h5 | h5
      ·have:=hI n h5;omega
      ·exact h5
      ·have:=n3 k (Nat.zero_le _) h5
       rw[zk0 f hk,zk0 g hk] at this
       exact absurd this h
     subst e;exact n4) (fun s hI=>by
   refine⟨_,by simp[ref15_Less_l2,qy0],false,.inr ⟨rfl,rfl⟩,⟨fun h=>(by cases h),?_⟩⟩
   rintro ⟨n,_,n2,n3,n4⟩
   rw[zk0 f n2,zk0 g n2,hI n n2] at n4
   omega) () (fun j hj=>by omega)
 unfold ref15_Less_g
 rw[h1]
 rcases hr with rfl | ⟨rfl,rfl⟩
 ·exact⟨b,rfl,h2⟩
 ·exact⟨false,rfl,h2⟩
def TabIn (T:Table):Prop:=T.Nodes.length≤9223372036854775807∧∀ N∈T.Nodes,IntOk N.Attr∧IntOk N.Leaf∧(∀ c∈N.Cuts,IntOk c)∧∀ k∈N.Kids,IntOk k
end Go.SX.Td
