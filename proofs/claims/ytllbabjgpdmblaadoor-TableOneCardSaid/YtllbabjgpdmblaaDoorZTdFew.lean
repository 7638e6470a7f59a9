/- Parts of the proof. -/
import Derived.Test.YtllbabjgpdmblaaDoorZTdR2
import Derived.Test.YtllbabjgpdmblaaDoorZTdCompact
import Derived.Test.YtllbabjgpdmblaaDoorZTd18d
set_option linter.unusedSimpArgs false
set_option linter.unusedVariables false
set_option linter.unusedSectionVars false
namespace Go.SX.Td
open Go Go.SX Tb
def sumZ (l:List Rule):Int:=l.foldl (fun s r=>IntKind.i64.wrap (s+r.Zones.length)) 0
def LenP (p:Policy):Prop:=p.Rules.length≤9223372036854775807
theorem Few_eq {p:Policy}(hp:LenP p):∃ b,ref14_Few_g p=some b∧(b=true→p.Rules.length≤8∧sumZ p.Rules≤10):=by
 unfold LenP at hp
 obtain⟨r,h1,h2⟩:=wk0 (step:=ref14_Few_l2 p) (fun (s:Int) i=>(s,i)) p.Rules.length
  (fun k s=>s=sumZ (p.Rules.take k)) (fun r=>r=.inr false∨r=.inl (sumZ p.Rules)) (fun k s hk hI=>by
  subst hI
  have hx:p.Rules[k]?=some p.Rules[k]:=by simp[hk]
  rw[List.take_add_one,hx,Option.toList_some]
  generalize p.Rules[k]=x at hx
  have hlt:(k:Int)<p.Rules.length:=by omega
  simp only[ref14_Few_l2,qy0,qj0,hlt,decide_true,cond_true,qz0 hx,Option.bind_some,io_ssz,qe0,za0 (k:=k) (by omega)]
  by_cases h:(60:Int)<(x.Name.size:Int)
  ·exact .inr ⟨.inr false,by rw[decide_eq_true h];rfl,.inl rfl⟩
  ·exact .inl ⟨_,by rw[decide_eq_false h];rfl,by unfold sumZ;rw[List.foldl_append];rfl⟩) (fun s hI=>by
  subst hI
  have hlt:¬ ((p.Rules.length:Int)<p.Rules.length):=by omega
  exact⟨_,by simp only[ref14_Few_l2,qy0,qj0,hlt,decide_false,cond_false];rfl,.inr (by rw[List.take_length])⟩) 0 (by simp[sumZ])
 unfold ref14_Few_g
 rw[h1]
 rcases h2 with rfl | rfl
 ·exact⟨false,rfl,fun h=>by cases h⟩
 ·simp only[orR,Option.bind_some,jk0,qj0]
  by_cases h:(p.Rules.length:Int)≤8
  ·exact⟨decide (sumZ p.Rules≤10),by rw[decide_eq_true h];rfl,fun hb=>⟨by omega,by simpa using hb⟩⟩
  ·exact⟨false,by rw[decide_eq_false h];rfl,fun h=>by cases h⟩
theorem sr0 {p:Policy}(hv:zv0 p=true):∀ r∈p.Rules,r.Zones.length≤200:=fun r hr=>by
 obtain⟨k,hk⟩:=List.getElem?_of_mem hr
 have:=jb0 hv hk
 simp only[jo0,Bool.and_eq_true,decide_eq_true_eq] at this
 exact this.2.1
theorem sumZ_eq : ∀ {l:List Rule},l.length≤8→(∀ r∈l,r.Zones.length≤200)→∀ s:Int,0≤s→s+l.length * 200≤10000→l.foldl (fun s r=>IntKind.i64.wrap (s+r.Zones.length)) s=s+((l.flatMap (·.Zones)).length:Nat)
 | [],_,_,s,_,_=>by simp
 | r::l,hl,hz,s,h0,hs=>by
  have h1:=hz r (by simp)
  rw[List.length_cons] at hs hl
  rw[List.foldl_cons,sn0 (by omega) (by omega),sumZ_eq (by omega) (fun r hr=>hz r (by simp[hr])) _ (by omega) (by omega),List.flatMap_cons,List.length_append]
  omega
theorem pb0 {p:Policy}(hv:zv0 p=true)(h:p.Rules.length≤8∧sumZ p.Rules≤10):(qq0 p).length≤10:=by
 have:=sumZ_eq h.1 (sr0 hv) 0 (by omega) (by omega)
 have h2:=h.2
 unfold sumZ at h2
 rw[this] at h2
 show (p.Rules.flatMap (·.Zones)).length≤10
 omega
open Classical in
theorem Within_eq (f:A10 Int):ref14_Within_g f=some (decide (zq0.In (toF f))):=by
 unfold ref14_Within_g
 simp only[vm0,Option.bind_some]
 rw[ki0 (step:=ref14_Within_l2 f zj0) 10 (fun k=>decide (f.get k<(zj0.get k).Lo)||decide ((zj0.get k).Hi<f.get k)) (.inr false) (.inl ()) (fun k hk=>by
  have hlt:(k:Int)<10:=by omega
  simp only[ref14_Within_l2,qy0,hlt,decide_true,cond_true,qn0 hk,Option.bind_some,qe0,za0 (k:=k) (by omega)]
  by_cases h:f.get k<(zj0.get k).Lo
  ·simp[h]
  ·by_cases h':(zj0.get k).Hi<f.get k
   ·simp[h,h']
   ·simp[h,h']) (by simp[ref14_Within_l2,qy0])]
 have key:((List.range 10).any fun k=>decide (f.get k<(zj0.get k).Lo)||decide ((zj0.get k).Hi<f.get k))=!decide (zq0.In (toF f)):=by
  rw[Bool.eq_iff_iff]
  simp only[List.any_eq_true,List.mem_range,Bool.or_eq_true,decide_eq_true_eq,Bool.not_eq_true',decide_eq_false_iff_not]
  constructor
  ·rintro ⟨k,hk,h⟩ hin
   have h1:(zj0.get k).Lo≤toF f k∧toF f k≤(zj0.get k).Hi:=hin k hk
   rw[zk0 f hk] at h1
   omega
  ·intro h
   refine Classical.byContradiction fun hno=>h fun k hk=>?_
   show (zj0.get k).Lo≤toF f k∧toF f k≤(zj0.get k).Hi
   rw[zk0 f hk]
   have:¬ (f.get k<(zj0.get k).Lo∨(zj0.get k).Hi<f.get k):=fun h=>hno ⟨k,hk,h⟩
   omega
 rw[key]
 by_cases h:zq0.In (toF f)
 ·simp[h,orR]
 ·simp[h,orR]
end Go.SX.Td
namespace Go.SX.Td
open Go Go.SX Tb
theorem Ints_eq (a b:List Int)(ha:a.length≤1000000000):ref11_Ints_g a b=some (decide (a=b)):=by
 unfold ref11_Ints_g
 simp only[zl0,qj0,zd0]
 by_cases hl:a.length=b.length
 ·have hl':((a.length:Nat):Int)=((b.length:Nat):Int):=by omega
  rw[decide_eq_true hl',Bool.not_true,cond_false]
  rw[ki0 (step:=ref11_Ints_l2 a b) a.length (fun k=>decide (a[k]?≠b[k]?)) (.inr false) (.inl ()) (fun k hk=>by
   have h1:a[k]?=some a[k]:=by simp[hk]
   have h2:b[k]?=some (b[k]'(by omega)):=by rw[List.getElem?_eq_getElem]
   generalize a[k]=x at h1
   generalize b[k]'(by omega)=y at h2
   have hlt:(k:Int)<a.length:=by omega
   simp only[ref11_Ints_l2,qy0,qj0,hlt,decide_true,cond_true,qz0 h1,qz0 h2,Option.bind_some,zl0,zd0,qe0,za0 (k:=k) (by omega),h1,h2]
   by_cases h:x=y
   ·simp[h]
   ·simp[h]) (by simp[ref11_Ints_l2,qy0,qj0])]
  by_cases he:a=b
  ·subst he
   rw[if_neg (by simp)];simp[orR]
  ·rw[if_pos]
   ·simp[orR,he]
   ·rw[List.any_eq_true]
    refine Classical.byContradiction fun hno=>he (List.ext_getElem? fun i=>?_)
    by_cases hi:i<a.length
    ·refine Classical.byContradiction fun hne=>hno ⟨i,List.mem_range.2 hi,by simpa using hne⟩
    ·rw[List.getElem?_eq_none (by omega),List.getElem?_eq_none (by omega)]
 ·have hl':¬ ((a.length:Nat):Int)=((b.length:Nat):Int):=by omega
  rw[decide_eq_false hl',Bool.not_false,cond_true]
  have:a≠b:=fun e=>hl (by rw[e])
  simp[this]
theorem rz0 (a b:Node)(h1:a.Cuts.length≤1000000000)(h2:a.Kids.length≤1000000000):ref14_Equal_g a b=some (decide (a=b)):=by
 obtain⟨a1,a2,a3,a4⟩:=a
 obtain⟨b1,b2,b3,b4⟩:=b
 unfold ref14_Equal_g
 simp only[zl0,Ints_eq _ _ h1,Ints_eq _ _ h2,Option.bind_some,Node.mk.injEq]
 by_cases e1:a1=b1<;>by_cases e2:a2=b2<;>by_cases e3:a3=b3<;>by_cases e4:a4=b4<;>simp[e1,e2,e3,e4]
theorem Same_eq (a b:Table)(h1:a.Nodes.length≤1000000000)(h2:a.Leaves.length≤1000000000)(h3:∀ n∈a.Nodes,n.Cuts.length≤1000000000∧n.Kids.length≤1000000000):ref14_Same_g a b=some (decide (a=b)):=by
 unfold ref14_Same_g
 simp only[zl0,qj0,zd0]
 by_cases hn:a.Nodes.length=b.Nodes.length
 ·have hn':((a.Nodes.length:Nat):Int)=((b.Nodes.length:Nat):Int):=by omega
  rw[decide_eq_true hn',Bool.not_true,cond_false]
  by_cases hl:a.Leaves.length=b.Leaves.length
  ·have hl':((a.Leaves.length:Nat):Int)=((b.Leaves.length:Nat):Int):=by omega
   rw[decide_eq_true hl']
   simp only[Bool.not_true,Option.bind_some,cond_false]
   rw[ki0 (step:=ref14_Same_l2 a b) a.Nodes.length (fun k=>decide (a.Nodes[k]?≠b.Nodes[k]?)) (.inr false) (.inl ()) (fun k hk=>by
    have e1:a.Nodes[k]?=some a.Nodes[k]:=by simp[hk]
    have e2:b.Nodes[k]?=some (b.Nodes[k]'(by omega)):=by rw[List.getElem?_eq_getElem]
    have e3:=h3 a.Nodes[k] (List.getElem_mem hk)
    generalize a.Nodes[k]=x at e1 e3
    generalize b.Nodes[k]'(by omega)=y at e2
    have hlt:(k:Int)<a.Nodes.length:=by omega
    simp only[ref14_Same_l2,qy0,qj0,hlt,decide_true,cond_true,qz0 e1,qz0 e2,Option.bind_some,rz0 x y e3.1 e3.2,zd0,qe0,za0 (k:=k) (by omega),e1,e2]
    by_cases h:x=y
    ·simp[h]
    ·simp[h]) (by simp[ref14_Same_l2,qy0,qj0])]
   rw[ki0 (step:=ref14_Same_l4 a b) a.Leaves.length (fun k=>decide (a.Leaves[k]?≠b.Leaves[k]?)) (.inr false) (.inl ()) (fun k hk=>by
    have e1:a.Leaves[k]?=some a.Leaves[k]:=by simp[hk]
    have e2:b.Leaves[k]?=some (b.Leaves[k]'(by omega)):=by rw[List.getElem?_eq_getElem]
    generalize a.Leaves[k]=x at e1
    generalize b.Leaves[k]'(by omega)=y at e2
    have hlt:(k:Int)<a.Leaves.length:=by omega
    simp only[ref14_Same_l4,qy0,qj0,hlt,decide_true,cond_true,qz0 e1,qz0 e2,Option.bind_some,vc0,zd0,qe0,za0 (k:=k) (by omega),e1,e2]
    by_cases h:x=y
    ·simp[h]
    ·simp[h]) (by simp[ref14_Same_l4,qy0,qj0])]
   have key:∀ {α:Type}[DecidableEq α](x y:List α),x.length=y.length→((List.range x.length).any (fun k=>decide (x[k]?≠y[k]?))=false↔x=y):=fun x y hxy=>by
    constructor
    ·intro h
     refine List.ext_getElem? fun i=>?_
     by_cases hi:i<x.length
     ·have:=(List.any_eq_false.1 h) i (List.mem_range.2 hi)
      simpa using this
     ·rw[List.getElem?_eq_none (by omega),List.getElem?_eq_none (by omega)]
    ·rintro rfl
     rw[List.any_eq_false]
     simp
   have k1:=key a.Nodes b.Nodes hn
   have k2:=key a.Leaves b.Leaves hl
   obtain⟨aN,aL⟩:=a
   obtain⟨bN,bL⟩:=b
   simp only at k1 k2 ⊢
   by_cases e1:aN=bN
   ·rw[k1.2 e1]
    by_cases e2:aL=bL
    ·rw[k2.2 e2];simp[orR,e1,e2]
    ·have:(List.range aL.length).any (fun k=>decide (aL[k]?≠bL[k]?))=true:=by
      cases h:(List.range aL.length).any (fun k=>decide (aL[k]?≠bL[k]?)) with
      | true=>rfl
      | false=>exact absurd (k2.1 h) e2
     rw[this];simp[orR,e2]
   ·have:(List.range aN.length).any (fun k=>decide (aN[k]?≠bN[k]?))=true:=by
     cases h:(List.range aN.length).any (fun k=>decide (aN[k]?≠bN[k]?)) with
     | true=>rfl
     | false=>exact absurd (k1.1 h) e1
    rw[this];simp[orR,e1]
  ·have hl':¬ ((a.Leaves.length:Nat):Int)=((b.Leaves.length:Nat):Int):=by omega
   rw[decide_eq_false hl']
   have:a≠b:=fun e=>hl (by rw[e])
   simp[this]
 ·have hn':¬ ((a.Nodes.length:Nat):Int)=((b.Nodes.length:Nat):Int):=by omega
  rw[decide_eq_false hn']
  have:a≠b:=fun e=>hn (by rw[e])
  simp[this]
theorem Same_tab (t s:Tab Decision)(hb:∀ n∈t.ns,Bd n)(hN:t.ns.length≤20000)(hL:t.ls.length≤1000000):ref14_Same_g (ze0 t) (ze0 s)=some (decide (ze0 t=ze0 s)) :=
 Same_eq _ _ (by simp[ze0];omega) (by show t.ls.length≤_;omega) fun n hn=>by
  simp only[ze0,List.mem_map] at hn
  obtain⟨m,hm,rfl⟩:=hn
  have:=hb m hm
  exact⟨by have:=this.cuts;show m.cuts.length≤_;omega,by have:=this.kids;show (ints m.kids).length≤_;rw[qk0];omega⟩
theorem tabE_inj {t s:Tab Decision}(h:ze0 t=ze0 s):t=s:=by
 obtain⟨a,b⟩:=t
 obtain⟨c,d⟩:=s
 simp only[ze0,Table.mk.injEq] at h
 obtain⟨h1,rfl⟩:=h
 have:∀ {l m:List Nd},l.map zz0=m.map zz0→l=m:=fun {l}=>by
  induction l with
  | nil=>intro m h;cases m with
   | nil=>rfl
   | cons=>simp at h
  | cons x l ih=>intro m h;cases m with
   | nil=>simp at h
   | cons y m =>
    simp only[List.map_cons,List.cons.injEq] at h
    rw[bh0 h.1,ih h.2]
 rw[this h1]
end Go.SX.Td
