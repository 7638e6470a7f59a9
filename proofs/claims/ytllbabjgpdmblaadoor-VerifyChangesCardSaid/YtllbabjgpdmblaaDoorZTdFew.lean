/- Parts of the proof. -/
import Derived.Test.YtllbabjgpdmblaaDoorZTdR2
import Derived.Test.YtllbabjgpdmblaaDoorZTdCompact
import Derived.Test.YtllbabjgpdmblaaDoorZTd18d
import Derived.Test.YtllbabjgpdmblaaDoorZTdV4
import Derived.Test.YtllbabjgpdmblaaDoorZTdV2
import Derived.Test.YtllbabjgpdmblaaDoorZTdSbuildd
set_option linter.unusedSimpArgs false
set_option linter.unusedVariables false
set_option linter.unusedSectionVars false
namespace Go.SX.Td
open Go Go.SX Tb
def sumZ (l:List Rule):Int:=l.foldl (fun s r=>IntKind.i64.wrap (s+r.Zones.length)) 0
def LenP (p:Policy):Prop:=p.Rules.length≤9223372036854775807
theorem Few_eq {p:Policy}(hp:LenP p):∃ b,ref14_Few_g p=some b∧(b=true→p.Rules.length≤8∧sumZ p.Rules≤10):=by
 unfold LenP at hp
 obtain⟨r,h1,h2⟩:=wk0 (step:=ref14_Few_l2 p) (fun (s:Int) i=>(s,i)) p.Rules.length
  (fun k s=>s=sumZ (p.Rules.take k)) (fun r=>r=.inr false∨r=.inl (sumZ p.Rules)) (fun k s hk hI=>by
  subst hI
  have hx:p.Rules[k]?=some p.Rules[k]:=by simp[hk]
  rw[List.take_add_one,hx,Option.toList_some]
  generalize p.Rules[k]=x at hx
  have hlt:(k:Int)<p.Rules.length:=by omega
  simp only[ref14_Few_l2,qy0,qj0,hlt,decide_true,cond_true,qz0 hx,Option.bind_some,io_ssz,qe0,za0 (k:=k) (by omega)]
  by_cases h:(60:Int)<(x.Name.size:Int)
  ·exact .inr ⟨.inr false,by rw[decide_eq_true h];rfl,.inl rfl⟩
  ·exact .inl ⟨_,by rw[decide_eq_false h];rfl,by unfold sumZ;rw[List.foldl_append];rfl⟩) (fun s hI=>by
  subst hI
  have hlt:¬ ((p.Rules.length:Int)<p.Rules.length):=by omega
  exact⟨_,by simp only[ref14_Few_l2,qy0,qj0,hlt,decide_false,cond_false];rfl,.inr (by rw[List.take_length])⟩) 0 (by simp[sumZ])
 unfold ref14_Few_g
 rw[h1]
 rcases h2 with rfl | rfl
 ·exact⟨false,rfl,fun h=>by cases h⟩
 ·simp only[orR,Option.bind_some,jk0,qj0]
  by_cases h:(p.Rules.length:Int)≤8
  ·exact⟨decide (sumZ p.Rules≤10),by rw[decide_eq_true h];rfl,fun hb=>⟨by omega,by simpa using hb⟩⟩
  ·exact⟨false,by rw[decide_eq_false h];rfl,fun h=>by cases h⟩
theorem sr0 {p:Policy}(hv:zv0 p=true):∀ r∈p.Rules,r.Zones.length≤200:=fun r hr=>by
 obtain⟨k,hk⟩:=List.getElem?_of_mem hr
 have:=jb0 hv hk
 simp only[jo0,Bool.and_eq_true,decide_eq_true_eq] at this
 exact this.2.1
theorem sumZ_eq : ∀ {l:List Rule},l.length≤8→(∀ r∈l,r.Zones.length≤200)→∀ s:Int,0≤s→s+l.length * 200≤10000→l.foldl (fun s r=>IntKind.i64.wrap (s+r.Zones.length)) s=s+((l.flatMap (·.Zones)).length:Nat)
 | [],_,_,s,_,_=>by simp
 | r::l,hl,hz,s,h0,hs=>by
  have h1:=hz r (by simp)
  rw[List.length_cons] at hs hl
  rw[List.foldl_cons,sn0 (by omega) (by omega),sumZ_eq (by omega) (fun r hr=>hz r (by simp[hr])) _ (by omega) (by omega),List.flatMap_cons,List.length_append]
  omega
theorem pb0 {p:Policy}(hv:zv0 p=true)(h:p.Rules.length≤8∧sumZ p.Rules≤10):(qq0 p).length≤10:=by
 have:=sumZ_eq h.1 (sr0 hv) 0 (by omega) (by omega)
 have h2:=h.2
 unfold sumZ at h2
 rw[this] at h2
 show (p.Rules.flatMap (·.Zones)).length≤10
 omega
open Classical in
theorem Within_eq (f:A10 Int):ref14_Within_g f=some (decide (zq0.In (toF f))):=by
 unfold ref14_Within_g
 simp only[vm0,Option.bind_some]
 rw[ki0 (step:=ref14_Within_l2 f zj0) 10 (fun k=>decide (f.get k<(zj0.get k).Lo)||decide ((zj0.get k).Hi<f.get k)) (.inr false) (.inl ()) (fun k hk=>by
  have hlt:(k:Int)<10:=by omega
  simp only[ref14_Within_l2,qy0,hlt,decide_true,cond_true,qn0 hk,Option.bind_some,qe0,za0 (k:=k) (by omega)]
  by_cases h:f.get k<(zj0.get k).Lo
  ·simp[h]
  ·by_cases h':(zj0.get k).Hi<f.get k
   ·simp[h,h']
   ·simp[h,h']) (by simp[ref14_Within_l2,qy0])]
 have key:((List.range 10).any fun k=>decide (f.get k<(zj0.get k).Lo)||decide ((zj0.get k).Hi<f.get k))=!decide (zq0.In (toF f)):=by
  rw[Bool.eq_iff_iff]
  simp only[List.any_eq_true,List.mem_range,Bool.or_eq_true,decide_eq_true_eq,Bool.not_eq_true',decide_eq_false_iff_not]
  constructor
  ·rintro ⟨k,hk,h⟩ hin
   have h1:(zj0.get k).Lo≤toF f k∧toF f k≤(zj0.get k).Hi:=hin k hk
   rw[zk0 f hk] at h1
   omega
  ·intro h
   refine Classical.byContradiction fun hno=>h fun k hk=>?_
   show (zj0.get k).Lo≤toF f k∧toF f k≤(zj0.get k).Hi
   rw[zk0 f hk]
   have:¬ (f.get k<(zj0.get k).Lo∨(zj0.get k).Hi<f.get k):=fun h=>hno ⟨k,hk,h⟩
   omega
 rw[key]
 by_cases h:zq0.In (toF f)
 ·simp[h,orR]
 ·simp[h,orR]
end Go.SX.Td
namespace Go.SX.Td
open Go Go.SX Tb
theorem qA10_eq (x y:A10 Int):qA10Ii64 x y=decide (x=y):=by
 obtain⟨a0,a1,a2,a3,a4,a5,a6,a7,a8,a9⟩:=x
 obtain⟨b0,b1,b2,b3,b4,b5,b6,b7,b8,b9⟩:=y
 rw[Bool.eq_iff_iff]
 simp only[qA10Ii64,io_and,zl0,Bool.and_eq_true,decide_eq_true_eq,A10.mk.injEq]
abbrev noneD : Decision:=Decision.mk false false false 0 0 (Ratio.mk 0 1) (Ratio.mk 0 1) (Ratio.mk 0 1) (Ratio.mk 0 1) (Ratio.mk 0 1) (-1)
abbrev fiveD : Decision:=Decision.mk false false false 0 5 (Ratio.mk 0 1) (Ratio.mk 0 1) (Ratio.mk 0 1) (Ratio.mk 0 1) (Ratio.mk 0 1) (-1)
abbrev yesD : Decision:=Decision.mk true false false 0 100 (Ratio.mk 0 1) (Ratio.mk 0 1) (Ratio.mk 0 1) (Ratio.mk 0 1) (Ratio.mk 0 1) 0
abbrev noD : Decision:=Decision.mk false false false 0 100 (Ratio.mk 0 1) (Ratio.mk 0 1) (Ratio.mk 0 1) (Ratio.mk 0 1) (Ratio.mk 0 1) 0
def startA : A10 Int:=toA fun j=>(zj0.get j).Lo
theorem start_eq : ref15_Start_g=some startA:=by
 unfold ref15_Start_g
 simp only[vm0,Option.bind_some]
 obtain⟨q,h1,rfl⟩:=wk0 (step:=ref15_Start_l2 zj0) (fun (s:A10 Int) i=>(s,i)) 10 (fun k s=>∀ j,j<10→s.get j=if j<k then (zj0.get j).Lo else 0) (fun q=>q=startA)
  (fun k s hk hI=>by
   have hlt:(k:Int)<10:=by omega
   refine .inl ⟨s.put k (zj0.get k).Lo,by simp only[ref15_Start_l2,qy0,hlt,decide_true,cond_true,qn0 hk,Option.bind_some,qe0,za0 (k:=k) (by omega)],fun j hj=>?_⟩
   rw[A10.get_put _ _ _ _ hk hj,hI j hj]
   by_cases h:j=k
   ·subst h;simp
   ·rw[if_neg h]
    by_cases h2:j<k
    ·rw[if_pos h2,if_pos (by omega)]
    ·rw[if_neg h2,if_neg (by omega)]) (fun s hI=>by
   refine⟨s,by simp[ref15_Start_l2,qy0],A10.ext_get fun j hj=>?_⟩
   rw[hI j hj,if_pos hj,startA,jq0 _ j hj]) (A10.mk 0 0 0 0 0 0 0 0 0 0) (fun j hj=>by
   match j,hj with
   | 0,_ | 1,_ | 2,_ | 3,_ | 4,_ | 5,_ | 6,_ | 7,_ | 8,_ | 9,_=>rfl)
 have h1':whileG (ref15_Start_l2 zj0) (A10.mk 0 0 0 0 0 0 0 0 0 0,0)=some startA:=h1
 rw[h1'];rfl
theorem vh0 {j:Nat}(hj:j<10):toF startA j=zq0.lo j:=by rw[zk0 _ hj,startA,jq0 _ j hj];rfl
theorem nq0 : zq0.In (toF startA):=fun j hj=>by rw[vh0 hj];exact⟨Int.le_refl _,kj0 j⟩
def lateA : A10 Int:=startA.put 1 18
theorem no0 {j:Nat}(hj:j<10):toF lateA j=if j=1 then 18 else zq0.lo j:=by
 rw[zk0 _ hj,lateA,A10.get_put _ _ _ _ (by omega) hj]
 split
 ·rfl
 ·rw[← zk0 _ hj,vh0 hj]
theorem late_in : zq0.In (toF lateA):=fun j hj=>by
 rw[no0 hj]
 split
 ·rename_i h;subst h;decide
 ·exact⟨Int.le_refl _,kj0 j⟩
def t2 (d0 d1:Decision):Tab Decision:=⟨[⟨1,[18],[1,2],0⟩,⟨0,[],[],0⟩,⟨0,[],[],1⟩],[d0,d1]⟩
theorem t2_canon {d0 d1:Decision}(h:d0≠d1):(t2 d0 d1).Canon zq0 where
 ok:=⟨fun x hx=>by
  match x,hx with
  | 0,_=>exact sg0 (by decide) (by decide) (by decide) ⟨by show 1<3;decide,by show 1<10;decide⟩ ⟨by show 2<3;decide,by show 1<10;decide⟩
  | 1,_=>exact yo0 (show 0<2 by decide)
  | 2,_=>exact yo0 (show 1<2 by decide),by simp[t2],by simp[t2,h]⟩
 pos:=by show 0<3;decide
 walk:=by rfl
 leaf x hx hk:=by
  match x,hx with
  | 0,_=>cases hk
  | 1,_=>rfl
  | 2,_=>rfl
 all:=by rfl
theorem t2_val (d0 d1:Decision)(g:Fa):(t2 d0 d1).val g 0=if 18≤g 1 then d1 else d0:=by
 by_cases h:18≤g 1
 ·rw[if_pos h];simp[Tab.val,Tab.ua0,Tab.nd,t2,wo0,h]
 ·rw[if_neg h];simp[Tab.val,Tab.ua0,Tab.nd,t2,wo0,h]
theorem t2_Bd (d0 d1:Decision):∀ n∈(t2 d0 d1).ns,Bd n:=fun n hn=>by
 simp only[t2,List.mem_cons,List.not_mem_nil,or_false] at hn
 rcases hn with rfl | rfl | rfl
 ·exact ss0 (by simp) (by simp) (by simp) (by simp) (by simp) (by simp)
 ·exact ss0 (by simp) (by simp) (by simp) (by simp) (by simp) (by simp)
 ·exact ss0 (by simp) (by simp) (by simp) (by simp) (by simp) (by simp)
theorem t1_Bd (d:Decision):∀ n∈(t1 d).ns,Bd n:=fun n hn=>by
 simp only[t1,List.mem_cons,List.not_mem_nil,or_false] at hn
 subst hn
 exact ss0 (by simp) (by simp) (by simp) (by simp) (by simp) (by simp)
abbrev hA : Rule:=⟨1,⟨#[97]⟩,[zj0],0,⟨0,0⟩,⟨0,0⟩⟩
abbrev hB : Rule:=⟨3,⟨#[112]⟩,[zj0],100,⟨0,1⟩,⟨0,1⟩⟩
theorem hv2 : zv0 ⟨[hA,hB]⟩=true:=by decide +kernel
theorem hg2 : PG ⟨[hA,hB]⟩:=PG0 hv2 (by show 2≤10;decide)
theorem hz2 : ∀ r∈[hA,hB],r.Zones.length≤1000:=fun r hr=>by
 simp only[List.mem_cons,List.not_mem_nil,or_false] at hr
 rcases hr with rfl | rfl
 ·show 1≤1000;decide
 ·show 1≤1000;decide
theorem dec0 (f:A10 Int):kv0 ⟨[]⟩ f=noneD:=by rw[fs0];rfl
theorem dec2 {f:A10 Int}(hf:zq0.In (toF f)):kv0 ⟨[hA,hB]⟩ f=yesD:=by
 have h:=bw0 hf
 rw[fx0] at h
 have h1:holds hA f=true:=by simp[holds,h]
 have h2:holds hB f=true:=by simp[holds,h]
 rw[fs0]
 simp only[List.map_cons,List.map_nil,h1,h2]
 rfl
theorem ku0 : law15_head_g=some true:=by
 have e1:verify_Differ_g (Policy.mk []) (Table.mk [Node.mk 0 [] [] 0] [noneD])=some (A0,false):=by
  obtain⟨g,b,e,H⟩:=jt0 g0 (by simp) (by simp) v0 (sq0 noneD) (t1_Bd _) (by simp[t1]) (by simp[t1])
  have e':verify_Differ_g (Policy.mk []) (Table.mk [Node.mk 0 [] [] 0] [noneD])=some (g,b):=e
  rw[e']
  cases b with
  | false=>rw[(H.no rfl).1]
  | true=>exact absurd (dec0 g) (H.yes rfl).2.1
 have e2:verify_Differ_g (Policy.mk []) (Table.mk [Node.mk 0 [] [] 0] [fiveD])=some (startA,true):=by
  obtain⟨g,b,e,H⟩:=jt0 g0 (by simp) (by simp) v0 (sq0 fiveD) (t1_Bd _) (by simp[t1]) (by simp[t1])
  have e':verify_Differ_g (Policy.mk []) (Table.mk [Node.mk 0 [] [] 0] [fiveD])=some (g,b):=e
  obtain⟨rfl,rfl⟩:=H.least nq0 (by rw[dec0,t1_val];decide) (fun f hf _ j hj=>by rw[vh0 hj];exact(hf j hj).1)
  exact e'
 have hne:noD≠yesD:=by decide
 have e3:verify_Differ_g (Policy.mk [hA,hB]) (Table.mk [Node.mk 1 [18] [1,2] 0,Node.mk 0 [] [] 0,Node.mk 0 [] [] 1] [noD,yesD])=some (startA,true):=by
  obtain⟨g,b,e,H⟩:=jt0 hg2 (by simp) hz2 hv2 (t2_canon hne) (t2_Bd _ _) (by simp[t2]) (by simp[t2])
  have e':verify_Differ_g (Policy.mk [hA,hB]) (Table.mk [Node.mk 1 [18] [1,2] 0,Node.mk 0 [] [] 0,Node.mk 0 [] [] 1] [noD,yesD])=some (g,b):=e
  obtain⟨rfl,rfl⟩:=H.least nq0 (by rw[dec2 nq0,t2_val,vh0 (by omega)];decide) (fun f hf _ j hj=>by rw[vh0 hj];exact(hf j hj).1)
  exact e'
 have e4:verify_Differ_g (Policy.mk [hA,hB]) (Table.mk [Node.mk 1 [18] [1,2] 0,Node.mk 0 [] [] 0,Node.mk 0 [] [] 1] [yesD,noD])=some (lateA,true):=by
  obtain⟨g,b,e,H⟩:=jt0 hg2 (by simp) hz2 hv2 (t2_canon (Ne.symm hne)) (t2_Bd _ _) (by simp[t2]) (by simp[t2])
  have e':verify_Differ_g (Policy.mk [hA,hB]) (Table.mk [Node.mk 1 [18] [1,2] 0,Node.mk 0 [] [] 0,Node.mk 0 [] [] 1] [yesD,noD])=some (g,b):=e
  obtain⟨rfl,rfl⟩:=H.least late_in (by rw[dec2 late_in,t2_val,no0 (by omega)];decide) (fun f hf hd j hj=>by
   rw[no0 hj]
   split
   ·rename_i h1
    subst h1
    rw[dec2 hf,t2_val] at hd
    refine Classical.byContradiction fun h2=>hd ?_
    rw[if_neg h2]
   ·exact(hf j hj).1)
  exact e'
 have e5:verify_Differ_g (Policy.mk [hA,hB]) (Table.mk [] [])=some (A0,true):=ma0 (.inr ud0) ⟨_,ud0⟩
 have q1:qA10Ii64 A0 (A10.mk 0 0 0 0 0 0 0 0 0 0)=true:=by rw[qA10_eq];rfl
 have q2:qA10Ii64 startA startA=true:=by rw[qA10_eq];simp
 have q3:qA10Ii64 lateA (A10.mk startA.a0 18 startA.a2 startA.a3 startA.a4 startA.a5 startA.a6 startA.a7 startA.a8 startA.a9)=true:=by rw[qA10_eq];rfl
 unfold law15_head_g
 simp only[law15_none_g,Option.bind_some,vm0,start_eq,e1,e2,e3,e4,e5,q1,q2,q3,zd0,Bool.not_false,cond_true]
theorem few_cases {p:Policy}(hp:LenP p){T:Table}(hT:TabIn T):law15_few_g p T=some false∨law15_few_g p T=some true∧(p.Rules.length≤8∧sumZ p.Rules≤10)∧SmallT T:=by
 obtain⟨b,hb,h1⟩:=Few_eq hp
 obtain⟨b2,hb2,h2⟩:=Small_eq hT.1
 unfold law15_few_g
 simp only[hb,hb2,Option.bind_some]
 cases b with
 | false=>exact .inl rfl
 | true =>
  cases b2 with
  | false=>exact .inl rfl
  | true =>
   obtain⟨s1,s2,s3⟩:=h2 rfl
   exact .inr ⟨rfl,h1 rfl,s1,s2,fun N hN=>⟨(s3 N hN).1,(s3 N hN).2,(hT.2 N hN).1,(hT.2 N hN).2.1,(hT.2 N hN).2.2.1,(hT.2 N hN).2.2.2⟩⟩
theorem small_cases {T:Table}(S:SmallT T):table_Valid_g T=some false∨∃ t:Tab Decision,T=ze0 t∧(∀ n∈t.ns,Bd n)∧t.Canon zq0∧table_Valid_g (ze0 t)=some true∧t.ns.length≤60∧t.ls.length≤60:=by
 rcases Valid_any S with h | ⟨t,rfl,hb,c,e⟩
 ·exact .inl h
 ·refine .inr ⟨t,rfl,hb,c,e,?_,S.leaves⟩
  have:=S.nodes
  rwa [show (ze0 t).Nodes.length=t.ns.length by simp[ze0]] at this
theorem uq0 {p:Policy}(hv:zv0 p=true):∀ r∈p.Rules,r.Zones.length≤1000:=fun r hr=>by have:=sr0 hv r hr;omega
end Go.SX.Td
namespace Go.SX.Td
open Go Go.SX Tb
theorem Ints_eq (a b:List Int)(ha:a.length≤1000000000):ref11_Ints_g a b=some (decide (a=b)):=by
 unfold ref11_Ints_g
 simp only[zl0,qj0,zd0]
 by_cases hl:a.length=b.length
 ·have hl':((a.length:Nat):Int)=((b.length:Nat):Int):=by omega
  rw[decide_eq_true hl',Bool.not_true,cond_false]
  rw[ki0 (step:=ref11_Ints_l2 a b) a.length (fun k=>decide (a[k]?≠b[k]?)) (.inr false) (.inl ()) (fun k hk=>by
   have h1:a[k]?=some a[k]:=by simp[hk]
   have h2:b[k]?=some (b[k]'(by omega)):=by rw[List.getElem?_eq_getElem]
   generalize a[k]=x at h1
   generalize b[k]'(by omega)=y at h2
   have hlt:(k:Int)<a.length:=by omega
   simp only[ref11_Ints_l2,qy0,qj0,hlt,decide_true,cond_true,qz0 h1,qz0 h2,Option.bind_some,zl0,zd0,qe0,za0 (k:=k) (by omega),h1,h2]
   by_cases h:x=y
   ·simp[h]
   ·simp[h]) (by simp[ref11_Ints_l2,qy0,qj0])]
  by_cases he:a=b
  ·subst he
   rw[if_neg (by simp)];simp[orR]
  ·rw[if_pos]
   ·simp[orR,he]
   ·rw[List.any_eq_true]
    refine Classical.byContradiction fun hno=>he (List.ext_getElem? fun i=>?_)
    by_cases hi:i<a.length
    ·refine Classical.byContradiction fun hne=>hno ⟨i,List.mem_range.2 hi,by simpa using hne⟩
    ·rw[List.getElem?_eq_none (by omega),List.getElem?_eq_none (by omega)]
 ·have hl':¬ ((a.length:Nat):Int)=((b.length:Nat):Int):=by omega
  rw[decide_eq_false hl',Bool.not_false,cond_true]
  have:a≠b:=fun e=>hl (by rw[e])
  simp[this]
theorem rz0 (a b:Node)(h1:a.Cuts.length≤1000000000)(h2:a.Kids.length≤1000000000):ref14_Equal_g a b=some (decide (a=b)):=by
 obtain⟨a1,a2,a3,a4⟩:=a
 obtain⟨b1,b2,b3,b4⟩:=b
 unfold ref14_Equal_g
 simp only[zl0,Ints_eq _ _ h1,Ints_eq _ _ h2,Option.bind_some,Node.mk.injEq]
 by_cases e1:a1=b1<;>by_cases e2:a2=b2<;>by_cases e3:a3=b3<;>by_cases e4:a4=b4<;>simp[e1,e2,e3,e4]
theorem Same_eq (a b:Table)(h1:a.Nodes.length≤1000000000)(h2:a.Leaves.length≤1000000000)(h3:∀ n∈a.Nodes,n.Cuts.length≤1000000000∧n.Kids.length≤1000000000):ref14_Same_g a b=some (decide (a=b)):=by
 unfold ref14_Same_g
 simp only[zl0,qj0,zd0]
 by_cases hn:a.Nodes.length=b.Nodes.length
 ·have hn':((a.Nodes.length:Nat):Int)=((b.Nodes.length:Nat):Int):=by omega
  rw[decide_eq_true hn',Bool.not_true,cond_false]
  by_cases hl:a.Leaves.length=b.Leaves.length
  ·have hl':((a.Leaves.length:Nat):Int)=((b.Leaves.length:Nat):Int):=by omega
   rw[decide_eq_true hl']
   simp only[Bool.not_true,Option.bind_some,cond_false]
   rw[ki0 (step:=ref14_Same_l2 a b) a.Nodes.length (fun k=>decide (a.Nodes[k]?≠b.Nodes[k]?)) (.inr false) (.inl ()) (fun k hk=>by
    have e1:a.Nodes[k]?=some a.Nodes[k]:=by simp[hk]
    have e2:b.Nodes[k]?=some (b.Nodes[k]'(by omega)):=by rw[List.getElem?_eq_getElem]
    have e3:=h3 a.Nodes[k] (List.getElem_mem hk)
    generalize a.Nodes[k]=x at e1 e3
    generalize b.Nodes[k]'(by omega)=y at e2
    have hlt:(k:Int)<a.Nodes.length:=by omega
    simp only[ref14_Same_l2,qy0,qj0,hlt,decide_true,cond_true,qz0 e1,qz0 e2,Option.bind_some,rz0 x y e3.1 e3.2,zd0,qe0,za0 (k:=k) (by omega),e1,e2]
    by_cases h:x=y
    ·simp[h]
    ·simp[h]) (by simp[ref14_Same_l2,qy0,qj0])]
   rw[ki0 (step:=ref14_Same_l4 a b) a.Leaves.length (fun k=>decide (a.Leaves[k]?≠b.Leaves[k]?)) (.inr false) (.inl ()) (fun k hk=>by
    have e1:a.Leaves[k]?=some a.Leaves[k]:=by simp[hk]
    have e2:b.Leaves[k]?=some (b.Leaves[k]'(by omega)):=by rw[List.getElem?_eq_getElem]
    generalize a.Leaves[k]=x at e1
    generalize b.Leaves[k]'(by omega)=y at e2
    have hlt:(k:Int)<a.Leaves.length:=by omega
    simp only[ref14_Same_l4,qy0,qj0,hlt,decide_true,cond_true,qz0 e1,qz0 e2,Option.bind_some,vc0,zd0,qe0,za0 (k:=k) (by omega),e1,e2]
    by_cases h:x=y
    ·simp[h]
    ·simp[h]) (by simp[ref14_Same_l4,qy0,qj0])]
   have key:∀ {α:Type}[DecidableEq α](x y:List α),x.length=y.length→((List.range x.length).any (fun k=>decide (x[k]?≠y[k]?))=false↔x=y):=fun x y hxy=>by
    constructor
    ·intro h
     refine List.ext_getElem? fun i=>?_
     by_cases hi:i<x.length
     ·have:=(List.any_eq_false.1 h) i (List.mem_range.2 hi)
      simpa using this
     ·rw[List.getElem?_eq_none (by omega),List.getElem?_eq_none (by omega)]
    ·rintro rfl
     rw[List.any_eq_false]
     simp
   have k1:=key a.Nodes b.Nodes hn
   have k2:=key a.Leaves b.Leaves hl
   obtain⟨aN,aL⟩:=a
   obtain⟨bN,bL⟩:=b
   simp only at k1 k2 ⊢
   by_cases e1:aN=bN
   ·rw[k1.2 e1]
    by_cases e2:aL=bL
    ·rw[k2.2 e2];simp[orR,e1,e2]
    ·have:(List.range aL.length).any (fun k=>decide (aL[k]?≠bL[k]?))=true:=by
      cases h:(List.range aL.length).any (fun k=>decide (aL[k]?≠bL[k]?)) with
      | true=>rfl
      | false=>exact absurd (k2.1 h) e2
     rw[this];simp[orR,e2]
   ·have:(List.range aN.length).any (fun k=>decide (aN[k]?≠bN[k]?))=true:=by
     cases h:(List.range aN.length).any (fun k=>decide (aN[k]?≠bN[k]?)) with
     | true=>rfl
     | false=>exact absurd (k1.1 h) e1
    rw[this];simp[orR,e1]
  ·have hl':¬ ((a.Leaves.length:Nat):Int)=((b.Leaves.length:Nat):Int):=by omega
   rw[decide_eq_false hl']
   have:a≠b:=fun e=>hl (by rw[e])
   simp[this]
 ·have hn':¬ ((a.Nodes.length:Nat):Int)=((b.Nodes.length:Nat):Int):=by omega
  rw[decide_eq_false hn']
  have:a≠b:=fun e=>hn (by rw[e])
  simp[this]
theorem Same_tab (t s:Tab Decision)(hb:∀ n∈t.ns,Bd n)(hN:t.ns.length≤20000)(hL:t.ls.length≤1000000):ref14_Same_g (ze0 t) (ze0 s)=some (decide (ze0 t=ze0 s)) :=
 Same_eq _ _ (by simp[ze0];omega) (by show t.ls.length≤_;omega) fun n hn=>by
  simp only[ze0,List.mem_map] at hn
  obtain⟨m,hm,rfl⟩:=hn
  have:=hb m hm
  exact⟨by have:=this.cuts;show m.cuts.length≤_;omega,by have:=this.kids;show (ints m.kids).length≤_;rw[qk0];omega⟩
theorem tabE_inj {t s:Tab Decision}(h:ze0 t=ze0 s):t=s:=by
 obtain⟨a,b⟩:=t
 obtain⟨c,d⟩:=s
 simp only[ze0,Table.mk.injEq] at h
 obtain⟨h1,rfl⟩:=h
 have:∀ {l m:List Nd},l.map zz0=m.map zz0→l=m:=fun {l}=>by
  induction l with
  | nil=>intro m h;cases m with
   | nil=>rfl
   | cons=>simp at h
  | cons x l ih=>intro m h;cases m with
   | nil=>simp at h
   | cons y m =>
    simp only[List.map_cons,List.cons.injEq] at h
    rw[bh0 h.1,ih h.2]
 rw[this h1]
end Go.SX.Td
namespace Go.SX.Td
open Go Go.SX Tb
theorem built_small {p:Policy}(G:PG p):(zy0 p).ns.length≤20000∧(zy0 p).ls.length≤1000000:=by
 obtain⟨h1,h2⟩:=jy0 G
 exact⟨h1,by omega⟩
theorem built_val (p:Policy){f:A10 Int}(h:zq0.In (toF f)):(zy0 p).val (toF f) 0=kv0 p f:=by
 rw[(ww0 p).2 _ h,fx0]
theorem dz0 {p:Policy}(hp:LenP p){T:Table}(hT:TabIn T):law15_VerifyCompiler_g p T=some true:=by
 unfold law15_VerifyCompiler_g
 rcases few_cases hp hT with h | ⟨h,hf,S⟩
 ·simp only[ku0,h,Option.bind_some,zd0,Bool.not_false,cond_true]
 ·simp only[ku0,h,Option.bind_some,zd0,Bool.not_true,cond_false,zl0]
  cases hv:zv0 p with
  | false=>simp only[ge0 hv,Option.bind_some,xm0,hv];rfl
  | true =>
   have G:=PG_few hv (pb0 hv hf)
   obtain⟨n1,n2⟩:=built_small G
   have hB:=vu0 G
   obtain⟨g,b,e1,H⟩:=jt0 G (by omega) (uq0 hv) hv (ww0 p).1 hB n1 n2
   have hb:b=false:=by
    cases b with
    | false=>rfl
    | true =>
     obtain⟨h1,h2,-⟩:=H.yes rfl
     exact absurd (built_val p h1).symm h2
   subst hb
   have hsame:=Same_eq (ze0 (zy0 p)) T (by simp[ze0];omega) (by show (zy0 p).ls.length≤_;omega) (fun n hn=>by
    simp only[ze0,List.mem_map] at hn
    obtain⟨m,hm,rfl⟩:=hn
    have:=hB m hm
    exact⟨by have:=this.cuts;show m.cuts.length≤_;omega,by have:=this.kids;show (ints m.kids).length≤_;rw[qk0];omega⟩)
   simp only[kq0 G hv,Option.bind_some,decide_true,Bool.not_true,cond_false,e1]
   rcases small_cases S with hvt | ⟨t,rfl,hbt,c,e,m1,m2⟩
   ·have hne:ze0 (zy0 p)≠T:=fun e=>by
     have:=pm0 G
     rw[e,hvt] at this;cases this
    simp only[ma0 (p:=p) (.inr hvt) ⟨_,hvt⟩,Option.bind_some,Bool.not_false,cond_true,hsame,decide_eq_false hne,io_bne]
    rfl
   ·obtain⟨g2,b2,e2,H2⟩:=jt0 G (by omega) (uq0 hv) hv c hbt (by omega) (by omega)
    simp only[e2,Option.bind_some,Bool.not_false,cond_true,hsame,io_bne]
    cases b2 with
    | false =>
     have:zy0 p=t:=kc0 c fun f hf=>by
      have h1:zq0.In (toF (toA f)):=fun j hj=>by rw[zk0 _ hj,jq0 f j hj];exact hf j hj
      have h2:=(H2.no rfl).2 (toA f) h1
      rw[h2]
      exact val_congr c.ok 11 0 c.pos (by omega) fun a _ ha=>by rw[zk0 _ ha,jq0 f a ha]
     rw[this,decide_eq_true rfl];rfl
    | true =>
     have hne:ze0 (zy0 p)≠ze0 t:=fun e=>by
      obtain⟨h1,h2,-⟩:=H2.yes rfl
      rw[← tabE_inj e] at h2
      exact h2 (built_val p h1).symm
     rw[decide_eq_false hne];rfl
end Go.SX.Td
