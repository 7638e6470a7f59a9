/- Parts of the proof. -/
import Derived.Test.YtllbabjgpdmblaaGreatDoorZTdP4
import Derived.Test.YtllbabjgpdmblaaGreatDoorZTd26d
import Derived.Test.YtllbabjgpdmblaaGreatDoorZTd17d
import Derived.Test.YtllbabjgpdmblaaGreatDoorZTzwnode
import Derived.Test.YtllbabjgpdmblaaGreatDoorZTdP2
import Derived.Test.YtllbabjgpdmblaaGreatDoorZTd49
set_option linter.unusedSimpArgs false
set_option linter.unusedVariables false
set_option linter.unusedSectionVars false
namespace Go.SX.Td
open Go Go.SX Tb
structure Bd (n:Nd):Prop where
 cuts:n.cuts.length≤100000
 kids:n.kids.length≤100000
 cv:∀ c∈n.cuts,-1000000000000≤c∧c≤1000000000000
 kv:∀ k∈n.kids,k≤1000000000000
 av:n.attr≤1000000000000
 lv:n.leaf≤1000000000000
theorem wy1 (n:Nd)(lo hi:Int)(hn:n.cuts.length≤100000):∃ b,qw0 (zx0 (zq0 n) hi) (lo,0)=some (if b=true then .inl () else .inr false)∧(b=true↔Asc lo hi n.cuts):=by
 obtain⟨r,h1,b,rfl,h2⟩:=yq0 (step:=zx0 (zq0 n) hi) (fun (s:Int) i=>(s,i)) n.cuts.length
  (fun k s=>(Asc lo hi n.cuts↔Asc s hi (n.cuts.drop k))) (fun r=>∃ b:Bool,r=(if b=true then .inl () else .inr false)∧(b=true↔Asc lo hi n.cuts)) (fun k s hk hI=>by
  have hx:n.cuts[k]?=some n.cuts[k]:=by simp[hk]
  rw[List.drop_eq_getElem_cons hk] at hI;generalize n.cuts[k]=x at hx hI;have hlt:(k:Int)<(zq0 n).Cuts.length:=by simp[zq0];omega
  have hx':(zq0 n).Cuts[k]?=some x:=hx;simp only[zx0,qm0,qv0,hlt,decide_true,cond_true,qx0 hx',qC,xx0,qr0,zc0 (k:=k) (by omega)];by_cases ha:x≤s
  ·refine .inr ⟨.inr false,by simp[ha],false,rfl,?_⟩;rw[hI];simp only[Asc]
   constructor
   ·intro h;cases h
   ·rintro ⟨h,_⟩;omega
  ·by_cases hb:hi<x
   ·refine .inr ⟨.inr false,by simp[ha,hb],false,rfl,?_⟩;rw[hI];simp only[Asc]
    constructor
    ·intro h;cases h
    ·rintro ⟨_,h,_⟩;omega
   ·refine .inl ⟨x,by simp[ha,hb],?_⟩;rw[hI];simp only[Asc];exact⟨fun h=>h.2.2,fun h=>⟨by omega,by omega,h⟩⟩) (fun s hI=>by
  have hlt:¬ ((n.cuts.length:Int)<(zq0 n).Cuts.length):=by simp[zq0]
  refine⟨.inl (),by simp only[zx0,qm0,qv0,hlt,decide_false,cond_false],true,rfl,?_⟩;rw[hI];simp[Asc]) lo (by simp)
 exact⟨b,h1,h2⟩
theorem kd1 {S:Type}:∀ {l:List S},Adj l↔∀ j a b,l[j]?=some a→l[j+1]?=some b→a≠b
 | []=>by simp[Adj]
 | [x]=>by
  simp only[Adj,true_iff];intro j a b _ h;cases j<;>simp at h
 | x::y::l=>by
  simp only[Adj,kd1 (l:=y::l)]
  constructor
  ·rintro ⟨h1,h2⟩ j a b ha hb
   cases j with
   | zero=>simp at ha hb;subst ha;subst hb;exact h1
   | succ j=>exact h2 j a b (by simpa using ha) (by simpa using hb)
  ·intro h;exact⟨h 0 x y rfl rfl,fun j a b ha hb=>h (j+1) a b (by simpa using ha) (by simpa using hb)⟩
open Classical in
noncomputable def jn1 (t:Tab Decision)(n:Nd)(j:Nat):Bool:=match n.kids[j]? with
 | none=>false
 | some x=>decide (x<t.ns.length∧(0<j→n.kids[j - 1]?≠some x)∧((t.nd x).kids≠[]→n.attr<(t.nd x).attr))
theorem fo1 (t:Tab Decision)(n:Nd)(hn:n.kids.length≤100000)(hN:t.ns.length≤1000000):qw0 (zp0 (zq0 n) (kb0 t)) 0=some (if (List.range n.kids.length).any (fun j=>!jn1 t n j) then .inr false else .inl ()):=by
 refine xq0 (step:=zp0 (zq0 n) (kb0 t)) n.kids.length (fun j=>!jn1 t n j) (.inr false) (.inl ()) (fun k hk=>?_) ?_
 ·have hx:n.kids[k]?=some n.kids[k]:=by simp[hk]
  generalize n.kids[k]=x at hx;have hx':(zq0 n).Kids[k]?=some (x:Int):=wm0 hx;have hlt:(k:Int)<(zq0 n).Kids.length:=by simp[zq0,qg0];omega
  have hx0:¬ ((x:Int)<0):=by omega
  have hnl:(kb0 t).Nodes.length=t.ns.length:=by simp[kb0]
  have hna:(zq0 n).Attr=(n.attr:Int):=rfl;simp only[zp0,qm0,qv0,hlt,decide_true,cond_true,qx0 hx',qC,xx0,qr0,zc0 (k:=k) (by omega),hx0,decide_false,cond_false,hnl,jn1,hx];by_cases h1:t.ns.length≤x
  ·have:((t.ns.length:Nat):Int)≤(x:Int):=by omega
   simp[this,Nat.not_lt.2 h1]
  ·have h1':¬ ((t.ns.length:Nat):Int)≤(x:Int):=by omega
   have hxn:x<t.ns.length:=by omega
   have hg:zf0 (kb0 t).Nodes (x:Int)=some (zq0 (t.nd x)):=qx0 (kw0 hxn);have hkl:((zq0 (t.nd x)).Kids.length:Int)=((t.nd x).kids.length:Nat):=by simp[zq0,qg0]
   have htail:(bif decide (0<(((zq0 (t.nd x)).Kids.length:Nat):Int)) then some (decide ((zq0 (t.nd x)).Attr≤(zq0 n).Attr)) else some false)=some (!decide ((t.nd x).kids≠[]→n.attr<(t.nd x).attr)):=by
    rw[hkl];by_cases h3:(t.nd x).kids=[]
    ·simp[h3]
    ·have h4:(0:Int)<((t.nd x).kids.length:Nat):=by
      have:(t.nd x).kids.length≠0:=by simpa using h3
      omega
     rw[qL h4,cond_true];congr 1;rw[Bool.eq_iff_iff];have e:(zq0 (t.nd x)).Attr=((t.nd x).attr:Int):=rfl;simp only[Bool.not_eq_true',qZ,decide_eq_false_iff_not,hna,e]
     constructor
     ·intro h h5;have:=h5 h3;omega
     ·intro h;by_cases h6:(t.nd x).attr≤n.attr
      ·omega
      ·exact absurd (fun _=>by omega) h
   by_cases h2:k=0
   ·subst h2;simp only[h1',decide_false,cond_false,hg,Int.natCast_zero,Int.lt_irrefl,htail,qC,hxn];by_cases h5:(t.nd x).kids≠[]→n.attr<(t.nd x).attr
    ·by_cases h6:(t.nd x).kids=[]
     ·simp[h6]
     ·have h7:=h5 h6;have h8:¬ (t.nd x).attr≤n.attr:=by omega
      simp[h6,h7,h8]
    ·simp[h5]
   ·have h2':(0:Int)<(k:Int):=by omega
    have hy:∃ y,n.kids[k - 1]?=some y:=⟨n.kids[k - 1]'(by omega),by rw[qD]⟩;obtain⟨y,hy⟩:=hy;have hp:io.ar .sub .i64 (k:Int) 1=((k - 1:Nat):Int):=by rw[ge0,nt0 (by omega) (by omega)];omega
    have hy':(zq0 n).Kids[k - 1]?=some (y:Int):=wm0 hy;simp only[h1',decide_false,cond_false,h2',decide_true,cond_true,hp,qx0 hy',qC,wv0,hy];by_cases h3:y=x
    ·subst h3;simp[Nat.pos_of_ne_zero h2]
    ·have h3':¬ ((y:Int)=(x:Int)):=by omega
     simp only[h3',decide_false,cond_false,hg,htail,qC,hxn,zG,h3,true_and,not_false_eq_true,ne_eq,implies_true];by_cases h5:¬ ((t.nd x).kids=[])→n.attr<(t.nd x).attr
     ·by_cases h6:(t.nd x).kids=[]
      ·simp[h6]
      ·have h7:=h5 h6;have h8:¬ (t.nd x).attr≤n.attr:=by omega
       simp[h6,h7,h8]
     ·simp[h5]
 ·have hlt:¬ ((n.kids.length:Int)<(zq0 n).Kids.length):=by simp[zq0,qg0]
  simp only[zp0,qm0,qv0,hlt,decide_false,cond_false]
theorem rk1 {t:Tab Decision}{n:Nd}(ha:n.attr<10):((List.range n.kids.length).any fun j=>!jn1 t n j)=false↔(∀ k∈n.kids,k<t.ns.length∧n.attr<lev (t.nd k))∧Adj n.kids:=by
 rw[List.any_eq_false];simp only[List.mem_range,Bool.not_eq_true',Bool.not_eq_false];have hl:∀ x,((t.nd x).kids≠[]→n.attr<(t.nd x).attr)↔n.attr<lev (t.nd x):=fun x=>by
  unfold lev;split
  ·rename_i h;simp[h];omega
  ·rename_i h;simp[h]
 constructor
 ·intro h;have h':∀ j x,n.kids[j]?=some x→x<t.ns.length∧(0<j→n.kids[j - 1]?≠some x)∧n.attr<lev (t.nd x):=fun j x hx=>by
   have:=h j (qA.1 hx).1;simp only[jn1,hx,qZ] at this;exact⟨this.1,this.2.1,(hl x).1 this.2.2⟩
  refine⟨fun k hk=>?_,kd1.2 fun j a b ha hb e=>?_⟩
  ·obtain⟨j,hj⟩:=List.getElem?_of_mem hk;exact⟨(h' j k hj).1,(h' j k hj).2.2⟩
  ·subst e;exact(h' (j+1) a hb).2.1 (by omega) ha
 ·rintro ⟨h1,h2⟩ j hj;have hx:n.kids[j]?=some n.kids[j]:=by simp[hj]
  have:=h1 n.kids[j] (zJ _);generalize n.kids[j]=x at hx this;simp only[jn1,hx,qZ];refine⟨this.1,fun h0 e=>?_,(hl x).2 this.2⟩;exact kd1.1 h2 (j - 1) x x e (by rw[show j - 1+1=j by omega];exact hx) rfl
theorem rd0 (t:Tab Decision){n:Nd}(hb:Bd n)(hN:t.ns.length≤1000000):∃ b,wx0 (kb0 t) (zq0 n)=some b∧(b=true↔Fine wy0 t.ns.length t.ls.length t.nd n):=by
 have hkl:((zq0 n).Kids.length:Int)=(n.kids.length:Nat):=by simp[zq0,qg0]
 have hcl:((zq0 n).Cuts.length:Int)=(n.cuts.length:Nat):=by simp[zq0]
 have hal:(zq0 n).Attr=(n.attr:Int):=rfl;have hll:(zq0 n).Leaf=(n.leaf:Int):=rfl;have hls:(kb0 t).Leaves.length=t.ls.length:=rfl;unfold wx0;simp only[wv0,qv0,hkl,hcl,hal,hll,xx0,qm0,hls,wu0];by_cases hk:n.kids=[]
 ·have h0:((n.kids.length:Nat):Int)=0:=by rw[hk];rfl
  rw[qL h0,cond_true];refine⟨decide (n.cuts=[]∧n.attr=0∧n.leaf<t.ls.length),?_,?_⟩
  ·by_cases h1:n.cuts=[]
   ·have h1':((n.cuts.length:Nat):Int)=0:=by rw[h1];rfl
    rw[qL h1',cond_true];by_cases h2:n.attr=0
    ·have h2':(n.attr:Int)=0:=by omega
     have h3:(0:Int)≤(n.leaf:Int):=by omega
     rw[qL h2',cond_true,qL h3,cond_true];simp[h1,h2]
    ·have h2':¬ (n.attr:Int)=0:=by omega
     rw[qI h2',cond_false];simp[h2]
   ·have h1':¬ ((n.cuts.length:Nat):Int)=0:=by
     have:n.cuts.length≠0:=by simpa using h1
     omega
    rw[qI h1',cond_false];simp[h1]
  ·rw[qZ];exact⟨fun h=>⟨fun _=>h,fun h'=>absurd hk h',by rw[hk];simp,by rw[hk];trivial⟩,fun h=>h.leaf hk⟩
 ·have h0:¬ ((n.kids.length:Nat):Int)=0:=by
   have:n.kids.length≠0:=by simpa using hk
   omega
  have hA:io.ar .add .i64 ((n.cuts.length:Nat):Int) 1=((n.cuts.length+1:Nat):Int):=by
   rw[qr0,zc0];have:=hb.cuts;omega
  rw[qI h0,cond_false,hA];have hneg:¬ ((n.attr:Int)<0):=by omega
  rw[qI hneg,cond_false];have first:(bif decide ((10:Int)≤(n.attr:Int)) then some true else bif !decide ((n.leaf:Int)=0) then some true else bif decide (((n.cuts.length:Nat):Int)=0) then some true else some (!decide (((n.kids.length:Nat):Int)=((n.cuts.length+1:Nat):Int))))=some (!decide (n.attr<10∧n.leaf=0∧n.kids.length=n.cuts.length+1∧n.cuts≠[])):=by
   by_cases h1:n.attr<10
   ·have h1':¬ (10:Int)≤(n.attr:Int):=by omega
    rw[qI h1',cond_false];by_cases h2:n.leaf=0
    ·have h2':(n.leaf:Int)=0:=by omega
     rw[qL h2',Bool.not_true,cond_false];by_cases h3:n.cuts=[]
     ·have h3':((n.cuts.length:Nat):Int)=0:=by rw[h3];rfl
      rw[qL h3',cond_true];simp[h3]
     ·have h3':¬ ((n.cuts.length:Nat):Int)=0:=by
       have:n.cuts.length≠0:=by simpa using h3
       omega
      rw[qI h3',cond_false];by_cases h4:n.kids.length=n.cuts.length+1
      ·simp[h1,h2,h3,h4]
      ·have h4':¬ ((n.kids.length:Nat):Int)=((n.cuts.length+1:Nat):Int):=by omega
       rw[qI h4'];simp[h4]
    ·have h2':¬ (n.leaf:Int)=0:=by omega
     rw[qI h2',Bool.not_false,cond_true];simp[h2]
   ·have h1':(10:Int)≤(n.attr:Int):=by omega
    rw[qL h1',cond_true];simp[h1]
  rw[first,qC];by_cases hf:n.attr<10∧n.leaf=0∧n.kids.length=n.cuts.length+1∧n.cuts≠[]
  ·rw[qL hf,Bool.not_true,cond_false];obtain⟨f1,f2,f3,f4⟩:=hf;obtain⟨b,l1,l2⟩:=wy1 n (wy0.lo n.attr) (wy0.hi n.attr) hb.cuts;simp only[uu0,qC,zm0 f1];have l1':qw0 (zx0 (zq0 n) ((wo0.get n.attr).Hi)) ((wo0.get n.attr).Lo,0)=_:=l1;rw[l1',fo1 t n hb.kids hN]
   cases b with
   | false =>
    refine⟨false,rfl,⟨fun h=>(by cases h),fun h=>?_⟩⟩;exact l2.2 (h.inner hk).2.2.2.2
   | true =>
    have hki:=rk1 (t:=t) f1
    cases hany:(List.range n.kids.length).any fun j=>!jn1 t n j with
    | true =>
     refine⟨false,rfl,⟨fun h=>(by cases h),fun h=>?_⟩⟩;have:=hki.2 ⟨h.kid,h.adj⟩;rw[this] at hany;cases hany
    | false =>
     refine⟨true,rfl,⟨fun _=>?_,fun _=>rfl⟩⟩;obtain⟨k1,k2⟩:=hki.1 hany;exact⟨fun h=>absurd h hk,fun _=>⟨f1,f2,f3,f4,l2.1 rfl⟩,k1,k2⟩
  ·rw[qI hf,Bool.not_false,cond_true];refine⟨false,rfl,⟨fun h=>(by cases h),fun h=>?_⟩⟩;obtain⟨g1,g2,g3,g4,-⟩:=h.inner hk;exact absurd ⟨g1,g2,g3,g4⟩ hf
end Go.SX.Td
namespace Go.SX.Td
open Go Go.SX Tb
def cnt (o:List Nat):Nat:=o.foldl (fun c x=>if x=c then c+1 else c) 0
theorem xl1 (o:List Nat)(x:Nat):cnt (o++[x])=if x=cnt o then cnt o+1 else cnt o:=by unfold cnt;rw[List.foldl_append];rfl
theorem nh0 : ∀ (o:List Nat)(c:Nat),c≤o.foldl (fun c x=>if x=c then c+1 else c) c∧o.foldl (fun c x=>if x=c then c+1 else c) c≤c+o.length∧(o.foldl (fun c x=>if x=c then c+1 else c) c=c+o.length→o=(List.range o.length).map (c+·))
 | [],c=>by simp
 | x::o,c=>by
  rw[qT];by_cases h:x=c
  ·rw[if_pos h];obtain⟨h1,h2,h3⟩:=nh0 o (c+1);refine⟨by omega,by rw[zD];omega,fun e=>?_⟩;have:=h3 (by rw[zD] at e;omega);rw[zD,List.range_succ_eq_map,qX,List.map_map,h];congr 1
   conv=>lhs;rw[this]
   refine List.map_congr_left fun a _=>?_
   simp only[Function.comp];omega
  ·rw[if_neg h];obtain⟨h1,h2,h3⟩:=nh0 o c;refine⟨h1,by rw[zD];omega,fun e=>?_⟩;rw[zD] at e;omega
theorem cnt_le (o:List Nat):cnt o≤o.length:=by have:=(nh0 o 0).2.1;unfold cnt;omega
theorem oa1 {o:List Nat}(h:cnt o=o.length):o=List.range o.length:=by
 have:=(nh0 o 0).2.2 (by unfold cnt at h;omega);rw[this];simp
theorem wm1 : ∀ n,cnt (List.range n)=n
 | 0=>rfl
 | n+1=>by rw[List.range_succ,xl1,wm1 n,if_pos rfl]
theorem vq1 {t:Tab Decision}(hkl:∀ x,x<t.ns.length→∀ k∈(t.nd x).kids,k<t.ns.length∧lev (t.nd x)<lev (t.nd k))(hlv:∀ x,x<t.ns.length→lev (t.nd x)≤10)(hb:∀ n∈t.ns,Bd n)(hN:t.ns.length≤20000):∀ (n x:Nat)(o:List Nat),x<t.ns.length→10<n+lev (t.nd x)→o.Nodup→(∀ y∈o,y<t.ns.length) →
  yp1 (t.ns.map zq0) n (x:Int) (la0 o) (cnt o:Int)=some (la0 (walk (qi0 t) n x o),(cnt (walk (qi0 t) n x o):Int))
 | 0,x,o,hx,hl,_,_=>by have:=hlv x hx;omega
 | n+1,x,o,hx,hl,ho,hbo=>by
  show lm0 _ (yp1 (t.ns.map zq0) n) _ _ _=_;by_cases hm:x∈o
  ·simp only[lm0,qC,ss0,hm,decide_true,cond_true,walk,if_true]
  ·have hnod:(o++[x]).Nodup:=by
    rw[List.nodup_append];exact⟨ho,by simp,fun a ha b hb e=>hm (by simp at hb;rw[← hb,← e];exact ha)⟩
   have hlt':∀ y∈o++[x],y<t.ns.length:=fun y hy=>by
    rcases qO.1 hy with hy | hy
    ·exact hbo y hy
    ·simp at hy;omega
   have hlen:o.length<t.ns.length:=by
    have:=rv0 hnod hlt';simp at this;omega
   have hcl:=cnt_le o;have hc:(bif io.eq (x:Int) (cnt o:Int) then some (io.ar .add .i64 (cnt o:Int) 1) else some (cnt o:Int))=some ((cnt (o++[x]):Nat):Int):=by
    rw[xl1,wv0,qr0,zc0 (by omega)];by_cases h:x=cnt o
    ·rw[if_pos h,qL (by omega),cond_true]
    ·rw[if_neg h,qI (by omega),cond_false]
   have hgx:zf0 (t.ns.map zq0) (x:Int)=some (zq0 (t.nd x)):=qx0 (kw0 hx);simp only[lm0,qC,ss0,hm,decide_false,cond_false,vu1 hm,hc,hgx,walk,if_false];have hgood:∀ k,k≤(t.nd x).kids.length→(((t.nd x).kids.take k).foldl (fun o k=>walk (qi0 t) n k o) (o++[x])).Nodup∧∀ y∈((t.nd x).kids.take k).foldl (fun o k=>walk (qi0 t) n k o) (o++[x]),y<t.ns.length:=by
    intro k
    induction k with
    | zero=>intro _;simp only[List.take_zero,List.foldl_nil];exact⟨hnod,hlt'⟩
    | succ k ih =>
     intro hk;obtain⟨i1,i2⟩:=ih (by omega);have hg:(t.nd x).kids[k]?=some (t.nd x).kids[k]:=by simp
     rw[qS,hg,zB,List.foldl_append];simp only[qT,List.foldl_nil];obtain⟨k1,k2⟩:=hkl x hx _ (qK hg);obtain⟨w1,-⟩:=xg0 (kids:=qi0 t) (lv:=fun x=>lev (t.nd x)) (N:=t.ns.length) hkl n _ (((t.nd x).kids.take k).foldl (fun o k=>walk (qi0 t) n k o) (o++[x])) k1 (by omega) (hlv _ k1) hlv;exact⟨w1.nod i1,fun y hy=>(w1.lt y hy).elim (i2 y) id⟩
   have hmem:t.nd x∈t.ns:=by unfold Tab.nd;rw[qM,qD hx];exact zJ _
   refine wt0 (step:=pz0 (zq0 (t.nd x)) (yp1 (t.ns.map zq0) n)) (fun (s:List Nat) i=>(la0 s,(cnt s:Int),i)) (t.nd x).kids (fun o k=>walk (qi0 t) n k o) (o++[x]) _ (fun k y hy=>?_) ?_
   ·have hk:k<(t.nd x).kids.length:=(qA.1 hy).1;obtain⟨g1,g2⟩:=hgood k (by omega);obtain⟨k1,k2⟩:=hkl x hx y (qK hy);have hlt:(k:Int)<(ints (t.nd x).kids).length:=by rw[qg0];omega
    have e:=vq1 hkl hlv hb hN n y _ k1 (by omega) g1 g2;simp only[pz0,qm0,qv0,zq0,hlt,decide_true,cond_true,qx0 (wm0 hy),qC,e,qr0,zc0 (show k<9223372036854775807 by have:=(hb _ hmem).kids;omega)]
   ·have hlt:¬ (((t.nd x).kids.length:Int)<(ints (t.nd x).kids).length):=by rw[qg0];omega
    simp only[pz0,qm0,qv0,zq0,hlt,decide_false,cond_false]
def dx0 {α κ:Type}(key:α→κ)(l:List α):List (κ×Bool):=l.map fun a=>(key a,true)
theorem mq0 {α κ:Type}[DecidableEq α][DecidableEq κ]{key:α→κ}(hi:∀ a b,key a=key b→a=b)(y:α):∀ l:List α,vl0 (dx0 key l) (key y)=if y∈l then some true else none
 | []=>rfl
 | a::l=>by
  have ih:=mq0 hi y l;simp only[dx0,qX,vl0,List.mem_cons] at ih ⊢;by_cases h:y=a
  ·subst h;simp
  ·rw[if_neg (fun e=>h (hi _ _ e)),ih];simp[h]
theorem al0 {α κ:Type}[DecidableEq α][DecidableEq κ]{key:α→κ}(hi:∀ a b,key a=key b→a=b)(y:α)(l:List α):wc0 (dx0 key l) (key y) false=decide (y∈l):=by
 unfold wc0;rw[mq0 hi];split<;>simp[*]
theorem zy1 {α κ:Type}[DecidableEq α][DecidableEq κ]{key:α→κ}(hi:∀ a b,key a=key b→a=b){y:α}{l:List α}(h:y ∉ l):ku0 (dx0 key l) (key y) true=dx0 key (l++[y]):=by
 rw[ui0 _ _ _ (by rw[mq0 hi,if_neg h])];simp[dx0]
def xb0 (t:Tab Decision)(k:Nat):Nat:=((t.ns.take k).filter fun n=>n.kids.isEmpty).length
structure Facts (t:Tab Decision):Prop where
 fine:∀ x,x<t.ns.length→Fine wy0 t.ns.length t.ls.length t.nd (t.nd x)
 nodup:t.ns.Nodup
 leaf:∀ x,x<t.ns.length→(t.nd x).kids=[]→(t.nd x).leaf=xb0 t x
 ldup:(t.ls.take (xb0 t t.ns.length)).Nodup
theorem pr1 {t:Tab Decision}{k:Nat}(hk:k<t.ns.length):xb0 t (k+1)=if (t.nd k).kids=[] then xb0 t k+1 else xb0 t k:=by
 have e:t.ns[k]?=some (t.nd k):=by unfold Tab.nd;rw[qM,qD hk];rfl
 unfold xb0;rw[qS,e,zB,List.filter_append,qN];by_cases h:(t.nd k).kids=[]
 ·rw[if_pos h,List.filter_cons_of_pos (by simp[h])];rfl
 ·rw[if_neg h,List.filter_cons_of_neg (by simp[h])];rfl
theorem pa1 {t:Tab Decision}{j k:Nat}(h:j≤k):xb0 t j≤xb0 t k:=by
 unfold xb0;obtain⟨d,rfl⟩:∃ d,k=j+d:=⟨k - j,by omega⟩;rw[List.take_add,List.filter_append,qN];omega
theorem ob1 (t:Tab Decision)(k:Nat):xb0 t k≤t.ns.length:=by
 unfold xb0;have h1:=List.length_filter_le (fun n:Nd=>n.kids.isEmpty) (t.ns.take k);rw[qR] at h1;omega
theorem zc1 : ∀ a b:Nd,is0 (zq0 a)=is0 (zq0 b)→a=b:=fun _ _ h=>np0 (xx1 h)
theorem py1 {n:Nd}(hb:Bd n):wq0 [(zq0 n).Cuts,(zq0 n).Kids,[(zq0 n).Attr,(zq0 n).Leaf]]=some (is0 (zq0 n)):=by
 rw[text_eq (vv1 (fun x hx=>by
  simp only[List.mem_cons,List.not_mem_nil,or_false] at hx;rcases hx with rfl | rfl | rfl
  ·exact hb.cuts
  ·show (ints n.kids).length≤_;rw[qg0];exact hb.kids
  ·simp) (by simp) (fun x hx m hm=>by
  simp only[List.mem_cons,List.not_mem_nil,or_false] at hx;rcases hx with rfl | rfl | rfl
  ·exact hb.cv m hm
  ·obtain⟨k,hk,rfl⟩:=nv0.1 (show m∈ints n.kids from hm);have:=hb.kv k hk;omega
  ·have:=hb.av;have:=hb.lv;simp only[zq0,List.mem_cons,List.not_mem_nil,or_false] at hm;rcases hm with rfl | rfl<;>omega))]
 rfl
theorem gx1 {t:Tab Decision}(hb:∀ n∈t.ns,Bd n)(hN:t.ns.length≤20000):∃ b,qw0 (wp0 (kb0 t)) ([],[],0,0)=some (if b=true then .inl ((xb0 t t.ns.length:Nat):Int) else .inr false)∧(b=true↔Facts t):=by
 obtain⟨r,h1,b,rfl,h2⟩:=yq0 (step:=wp0 (kb0 t)) (fun (s:List (ByteArray×Bool)×List (Decision×Bool)×Int) i=>(s.1,s.2.1,s.2.2,i)) t.ns.length
  (fun k s=>s=(dx0 (fun n=>is0 (zq0 n)) (t.ns.take k),dx0 id (t.ls.take (xb0 t k)),((xb0 t k:Nat):Int))∧(∀ x,x<k→Fine wy0 t.ns.length t.ls.length t.nd (t.nd x))∧(t.ns.take k).Nodup∧(∀ x,x<k→(t.nd x).kids=[]→(t.nd x).leaf=xb0 t x)∧(t.ls.take (xb0 t k)).Nodup)
  (fun r=>∃ b:Bool,r=(if b=true then .inl ((xb0 t t.ns.length:Nat):Int) else .inr false)∧(b=true↔Facts t)) (fun k s hk hI=>by
  obtain⟨rfl,i1,i2,i3,i4⟩:=hI;have hx:t.ns[k]?=some (t.nd k):=by unfold Tab.nd;rw[qM,qD hk];rfl
  have hm:t.nd k∈t.ns:=qK hx;have hbk:=hb _ hm;have hg:zf0 (kb0 t).Nodes (k:Int)=some (zq0 (t.nd k)):=qx0 (kw0 hk);have hlt:(k:Int)<(kb0 t).Nodes.length:=by simp[kb0];omega
  have hkl:((zq0 (t.nd k)).Kids.length:Int)=((t.nd k).kids.length:Nat):=by simp[zq0,qg0]
  have htk:t.ns.take (k+1)=t.ns.take k++[t.nd k]:=by rw[qS,hx];rfl
  have hsc:=pr1 hk;have hcl:=ob1 t k;have no:∀ {P:Prop},¬ P→(false=true↔P):=fun h=>⟨fun e=>(by cases e),fun p=>absurd p h⟩
  have hlook:=al0 zc1 (t.nd k) (t.ns.take k);simp only[wp0,qm0,qv0,hlt,decide_true,cond_true,hg,qC,py1 hbk,hlook,wv0,hkl,wu0,qr0,zc0 (k:=k) (by omega),zc0 (k:=xb0 t k) (by omega)];by_cases hdup:t.nd k∈t.ns.take k
  ·refine .inr ⟨.inr false,by simp[hdup,orR],false,rfl,no fun F=>?_⟩;have h3:(t.ns.take (k+1)).Nodup:=F.nodup.sublist (List.take_sublist _ _);rw[htk,List.nodup_append] at h3;exact h3.2.2 _ hdup _ (by simp) rfl
  ·obtain⟨b,f1,f2⟩:=rd0 t hbk (by omega);have hput:=zy1 zc1 hdup;rw[qI hdup,cond_false,f1,hput,← htk];simp only[qC]
   cases b with
   | false =>
    refine .inr ⟨.inr false,rfl,false,rfl,no fun F=>?_⟩;have:=f2.2 (F.fine k hk);cases this
   | true =>
    have hf:=f2.1 rfl;have hfine:∀ x,x<k+1→Fine wy0 t.ns.length t.ls.length t.nd (t.nd x):=fun x hx=>by
     rcases Nat.lt_or_eq_of_le (Nat.le_of_lt_succ hx) with h | h
     ·exact i1 x h
     ·rw[h];exact hf
    have hnd:(t.ns.take (k+1)).Nodup:=by
     rw[htk,List.nodup_append];exact⟨i2,by simp,fun a ha b hb e=>hdup (by simp at hb;rw[← hb,← e];exact ha)⟩
    simp only[Bool.not_true,cond_false];by_cases hkk:(t.nd k).kids=[]
    ·have h0:(((t.nd k).kids.length:Nat):Int)=0:=by rw[hkk];rfl
     rw[if_pos hkk] at hsc;rw[qL h0,cond_true];by_cases hle:(t.nd k).leaf=xb0 t k
     ·have hle':(zq0 (t.nd k)).Leaf=((xb0 t k:Nat):Int):=by rw[← hle];rfl
      have hll:xb0 t k<t.ls.length:=by rw[← hle];exact(hf.leaf hkk).2.2
      have hgl:t.ls[xb0 t k]?=some t.ls[xb0 t k]:=by simp[hll]
      generalize t.ls[xb0 t k]=d at hgl;have hgl':zf0 (kb0 t).Leaves ((xb0 t k:Nat):Int)=some d:=qx0 hgl;have htl:t.ls.take (xb0 t k+1)=t.ls.take (xb0 t k)++[d]:=by rw[qS,hgl];rfl
      have hlookd:=al0 (key:=id) (fun (a b:Decision)(h:id a=id b)=>h) d (t.ls.take (xb0 t k));simp only[id] at hlookd;rw[qL hle',Bool.not_true,cond_false,hgl'];simp only[qC];have hid:dx0 id (t.ls.take (xb0 t k))=dx0 (fun d:Decision=>d) (t.ls.take (xb0 t k)):=rfl;have hld:wc0 (dx0 id (t.ls.take (xb0 t k))) d false=decide (d∈t.ls.take (xb0 t k)):=al0 (key:=id) (fun (a b:Decision)(h:id a=id b)=>h) d (t.ls.take (xb0 t k));rw[hld];by_cases hdd:d∈t.ls.take (xb0 t k)
      ·refine .inr ⟨.inr false,by rw[qL hdd];rfl,false,rfl,no fun F=>?_⟩;have h3:(t.ls.take (xb0 t k+1)).Nodup:=by
        have:=pa1 (t:=t) (show k+1≤t.ns.length by omega);have h4:t.ls.take (xb0 t k+1)=(t.ls.take (xb0 t t.ns.length)).take (xb0 t k+1):=by rw[List.take_take];congr 1;omega
        rw[h4];exact F.ldup.sublist (List.take_sublist _ _)
       rw[htl,List.nodup_append] at h3;exact h3.2.2 _ hdd _ (by simp) rfl
      ·have hpd:ku0 (dx0 id (t.ls.take (xb0 t k))) d true=dx0 id (t.ls.take (xb0 t k)++[d]):=zy1 (key:=id) (fun (a b:Decision)(h:id a=id b)=>h) hdd;refine .inl ⟨(dx0 (fun n=>is0 (zq0 n)) (t.ns.take (k+1)),dx0 id (t.ls.take (xb0 t (k+1))),((xb0 t (k+1):Nat):Int)),?_,rfl,hfine,hnd,fun x hx hxk=>?_,?_⟩
       ·rw[qI hdd,cond_false,hpd,← htl,hsc];rfl
       ·rcases Nat.lt_or_eq_of_le (Nat.le_of_lt_succ hx) with h | h
        ·exact i3 x h hxk
        ·rw[h];exact hle
       ·rw[hsc,htl,List.nodup_append];exact⟨i4,by simp,fun a ha b hb e=>hdd (by simp at hb;rw[← hb,← e];exact ha)⟩
     ·have hle':¬ ((zq0 (t.nd k)).Leaf=((xb0 t k:Nat):Int)):=fun e=>hle (Int.ofNat.inj e)
      refine .inr ⟨.inr false,by rw[qI hle'];rfl,false,rfl,no fun F=>hle (F.leaf k hk hkk)⟩
    ·have h0:¬ (((t.nd k).kids.length:Nat):Int)=0:=by
      have:(t.nd k).kids.length≠0:=by simpa using hkk
      omega
     rw[if_neg hkk] at hsc;rw[qI h0,cond_false];refine .inl ⟨(dx0 (fun n=>is0 (zq0 n)) (t.ns.take (k+1)),dx0 id (t.ls.take (xb0 t (k+1))),((xb0 t (k+1):Nat):Int)),by rw[hsc];rfl,rfl,hfine,hnd,fun x hx hxk=>?_,by rw[hsc];exact i4⟩;rcases Nat.lt_or_eq_of_le (Nat.le_of_lt_succ hx) with h | h
     ·exact i3 x h hxk
     ·rw[h] at hxk;exact absurd hxk hkk) (fun s hI=>by
  obtain⟨rfl,i1,i2,i3,i4⟩:=hI;have hlt:¬ ((t.ns.length:Int)<(kb0 t).Nodes.length):=by simp[kb0]
  refine⟨.inl ((xb0 t t.ns.length:Nat):Int),by simp only[wp0,qm0,qv0,hlt,decide_false,cond_false],true,rfl,fun _=>?_,fun _=>rfl⟩;rw[zC] at i2;exact⟨i1,i2,i3,i4⟩) ([],[],0) (by simp[dx0,xb0])
 exact⟨b,h1,h2⟩
theorem wd1 {t:Tab Decision}(hp:0<t.ns.length):t.Canon wy0↔Facts t∧walk (qi0 t) 11 0 []=List.range t.ns.length∧xb0 t t.ns.length=t.ls.length:=by
 constructor
 ·intro c;have e:xb0 t t.ns.length=t.ls.length:=by unfold xb0;rw[zC,c.all]
  exact⟨⟨c.ok.fine,c.ok.nodup,c.leaf,by rw[e,zC];exact c.ok.ldup⟩,c.walk,e⟩
 ·rintro ⟨F,w,e⟩;refine⟨⟨F.fine,F.nodup,?_⟩,hp,w,F.leaf,?_⟩
  ·have:=F.ldup;rwa [e,zC] at this
  ·rw[← e];unfold xb0;rw[zC]
theorem lb0 {t:Tab Decision}(hb:∀ n∈t.ns,Bd n)(hL:t.ls.length≤1000000):∃ b,qu0 (kb0 t)=some b∧(b=true↔t.Canon wy0∧t.ns.length≤20000):=by
 have hnl:(kb0 t).Nodes.length=t.ns.length:=by simp[kb0]
 have hll:(kb0 t).Leaves.length=t.ls.length:=rfl;unfold qu0;simp only[qm0,qv0,hnl,hll,wv0];by_cases h1:t.ns.length<1
 ·have:((t.ns.length:Nat):Int)<1:=by omega
  rw[qL this];exact⟨false,rfl,⟨fun h=>(by cases h),fun h=>by have:=h.1.pos;omega⟩⟩
 ·have h1':¬ ((t.ns.length:Nat):Int)<1:=by omega
  rw[qI h1',cond_false,qC];by_cases h2:20000<t.ns.length
  ·have:(20000:Int)<((t.ns.length:Nat):Int):=by omega
   rw[qL this,cond_true];exact⟨false,rfl,⟨fun h=>(by cases h),fun h=>by have:=h.2;omega⟩⟩
  ·have h2':¬ (20000:Int)<((t.ns.length:Nat):Int):=by omega
   rw[qI h2',cond_false];obtain⟨b,e,hbF⟩:=gx1 hb (by omega);rw[e];have hc:=wd1 (t:=t) (by omega)
   cases b with
   | false =>
    refine⟨false,rfl,⟨fun h=>(by cases h),fun h=>?_⟩⟩;exact hbF.2 (hc.1 h.1).1
   | true =>
    have F:=hbF.1 rfl;have hlv:∀ x,x<t.ns.length→lev (t.nd x)≤10:=fun x hx=>by
     unfold lev;split
     ·exact qV _
     ·rename_i hk;have:=((F.fine x hx).inner hk).1;omega
    have hkl:∀ x,x<t.ns.length→∀ k∈(t.nd x).kids,k<t.ns.length∧lev (t.nd x)<lev (t.nd k):=fun x hx k hk=>by
     obtain⟨k1,k2⟩:=(F.fine x hx).kid k hk;refine⟨k1,?_⟩;have:lev (t.nd x)=(t.nd x).attr:=by unfold lev;rw[if_neg (List.ne_nil_of_mem hk)]
     omega
    have hw:=vq1 hkl hlv hb (by omega) 11 0 [] (by omega) (by omega) (by simp) (by simp);have hw':yp1 (kb0 t).Nodes 11 0 [] 0=_:=hw;obtain⟨w1,-⟩:=xg0 (kids:=qi0 t) (lv:=fun x=>lev (t.nd x)) (N:=t.ns.length) hkl 11 0 [] (by omega) (by omega) (hlv 0 (by omega)) hlv;simp only[if_true,orR,qC,hw'];generalize walk (qi0 t) 11 0 []=r at w1 hc;have hlen:=rv0 (w1.nod (by simp)) (fun x hx=>(w1.lt x hx).elim (by simp) id);have hcr:=cnt_le r;by_cases h3:cnt r=t.ns.length
    ·have h3':((cnt r:Nat):Int)=((t.ns.length:Nat):Int):=by omega
     have hr:r=List.range t.ns.length:=by
      have h4:cnt r=r.length:=by omega
      have h5:=oa1 h4;rw[h5];congr 1;omega
     rw[qL h3',cond_true];refine⟨decide (xb0 t t.ns.length=t.ls.length),?_,?_⟩
     ·congr 1;rw[decide_eq_decide];omega
     ·rw[qZ];exact⟨fun h=>⟨hc.2 ⟨F,hr,h⟩,by omega⟩,fun h=>(hc.1 h.1).2.2⟩
    ·have h3':¬ ((cnt r:Nat):Int)=((t.ns.length:Nat):Int):=by omega
     rw[qI h3',cond_false];refine⟨false,rfl,⟨fun h=>(by cases h),fun h=>?_⟩⟩;exact absurd (by rw[(hc.1 h.1).2.1,wm1]) h3
end Go.SX.Td
namespace Go.SX.Td
open Go Go.SX Tb
theorem po1 (C:List Int)(f:A10 Int){a:Nat}(ha:a<10)(hC:C.length≤100000):qw0 (yj0 C (a:Int) f) 0=some (if ux0 C (f.get a)<C.length then .inr ((ux0 C (f.get a):Nat):Int) else .inl ()):=by
 obtain⟨r,h1,rfl⟩:=yq0 (step:=yj0 C (a:Int) f) (fun (_:Unit) i=>i) C.length
  (fun k _=>ux0 C (f.get a)=k+ux0 (C.drop k) (f.get a)) (fun r=>r=if ux0 C (f.get a)<C.length then .inr ((ux0 C (f.get a):Nat):Int) else .inl ()) (fun k s hk hI=>by
  have hx:C[k]?=some C[k]:=by simp[hk]
  rw[List.drop_eq_getElem_cons hk] at hI;generalize C[k]=x at hx hI;have hlt:(k:Int)<C.length:=by omega
  simp only[yj0,qm0,qv0,hlt,decide_true,cond_true,qx0 hx,zm0 ha,qC,qr0,zc0 (k:=k) (by omega)];by_cases h:f.get a<x
  ·simp only[ux0] at hI;rw[if_neg (by omega)] at hI;refine .inr ⟨.inr (k:Int),by rw[qL h];rfl,?_⟩;rw[hI,Nat.add_zero,if_pos hk]
  ·simp only[ux0] at hI;rw[if_pos (by omega)] at hI;exact .inl ⟨(),by rw[qI h];rfl,by omega⟩) (fun s hI=>by
  have hlt:¬ ((C.length:Int)<C.length):=by omega
  refine⟨.inl (),by simp only[yj0,qm0,qv0,hlt,decide_false,cond_false],?_⟩;rw[if_neg];rw[List.drop_length] at hI;simp only[ux0] at hI;omega) () (by simp)
 exact h1
def fld (n:Nd):Int×List Int×List Int×Int:=((n.attr:Int),n.cuts,ints n.kids,(n.leaf:Int))
theorem wx1 {t:Tab Decision}(h:t.Ok wy0)(hb:∀ n∈t.ns,Bd n)(f:A10 Int):∀ (n x:Nat),x<t.ns.length→10<n+lev (t.nd x) →
  ∃ y,qw0 (yx0 f (kb0 t)) (fld (t.nd x))=some (fld (t.nd y))∧y<t.ns.length∧(t.nd y).kids=[]∧t.nq0 (toF f) n x=t.ls.getD (t.nd y).leaf default
 | 0,x,hx,hl=>by have:=xz0 h hx;omega
 | n+1,x,hx,hl=>by
  have hmem:t.nd x∈t.ns:=by unfold Tab.nd;rw[qM,qD hx];exact zJ _
  have hbx:=hb _ hmem;have hkl:((ints (t.nd x).kids).length:Int)=((t.nd x).kids.length:Nat):=by simp[qg0]
  by_cases hk:(t.nd x).kids=[]
  ·refine⟨x,?_,hx,hk,by simp only[Tab.nq0,if_pos hk]⟩;rw[zg0];have h0:¬ ((0:Int)<((t.nd x).kids.length:Nat)):=by rw[hk];simp
   simp only[fld,yx0,qm0,qv0,hkl,qI h0,cond_false]
  ·obtain⟨k1,k2⟩:=ga0 h hx hk (toF f (t.nd x).attr);obtain⟨f1,f2,f3,f4,f5⟩:=(h.fine x hx).inner hk;rw[ni0 f f1] at k1 k2;have hkx:=lq1 (t.nd x).cuts (f.get (t.nd x).attr);generalize hi:ux0 (t.nd x).cuts (f.get (t.nd x).attr)=i at k1 k2 hkx;obtain⟨l1,l2⟩:=kt0 h hx _ k2;generalize hz:(t.nd x).kids.getD i 0=z at k1 k2 l1 l2;obtain⟨y,d1,d2,d3,d4⟩:=wx1 h hb f n z l1 (by omega);refine⟨y,?_,d2,d3,?_⟩
   ·rw[zg0];have h0:(0:Int)<((t.nd x).kids.length:Nat):=by
     have:(t.nd x).kids.length≠0:=by simpa using hk
     omega
    have hg:zf0 (kb0 t).Nodes (z:Int)=some (zq0 (t.nd z)):=qx0 (kw0 l1);have hgk:zf0 (ints (t.nd x).kids) (i:Int)=some (z:Int):=qx0 (wm0 k1);have hloop:=po1 (t.nd x).cuts f f1 hbx.cuts;rw[hi] at hloop;simp only[fld,yx0,qm0,qv0,hkl,qL h0,cond_true,hloop];by_cases hlt:i<(t.nd x).cuts.length
    ·have h1:¬ ((i:Int)<0):=by omega
     simp only[if_pos hlt,orR,qC,qI h1,cond_false,hgk,hg];exact d1
    ·have he:((t.nd x).cuts.length:Int)=(i:Int):=by omega
     have h1:((-1:Int)<0):=by omega
     simp only[if_neg hlt,orR,qC,qL h1,cond_true,he,hgk,hg];exact d1
   ·simp only[Tab.nq0,if_neg hk];rw[ni0 f f1,hi,hz];exact d4
theorem wi1 {t:Tab Decision}(c:t.Canon wy0)(hb:∀ n∈t.ns,Bd n)(hN:t.ns.length≤20000)(hL:t.ls.length≤1000000)(f:A10 Int):zn0 (kb0 t) f=some (t.val (toF f) 0):=by
 obtain⟨b,e,hbv⟩:=lb0 hb hL;have hb1:=hbv.2 ⟨c,hN⟩;subst hb1;obtain⟨y,d1,d2,d3,d4⟩:=wx1 c.ok hb f 11 0 c.pos (by omega);have h0:zf0 (kb0 t).Nodes 0=some (zq0 (t.nd 0)):=qx0 (k:=0) (kw0 c.pos);have hl:=((c.ok.fine y d2).leaf d3).2.2;have hg:zf0 (kb0 t).Leaves ((t.nd y).leaf:Int)=some (t.ls.getD (t.nd y).leaf default):=by
  refine qx0 ?_;show t.ls[_]?=_;rw[qM,qD hl];rfl
 unfold zn0;have d1':qw0 (yx0 f (kb0 t)) ((zq0 (t.nd 0)).Attr,(zq0 (t.nd 0)).Cuts,(zq0 (t.nd 0)).Kids,(zq0 (t.nd 0)).Leaf)=some (((t.nd y).attr:Int),(t.nd y).cuts,ints (t.nd y).kids,((t.nd y).leaf:Int)):=d1;simp only[e,qC,wu0,Bool.not_true,cond_false,h0,d1',hg];rw[← d4];rfl
theorem si0 {p:Policy}(G:PG p):(vq0 p).ns.length≤20000∧(vq0 p).ls.length≤20000:=by
 obtain⟨b1,b2,-⟩:=du0 p;obtain⟨n1,n2⟩:=G.bnd _ b1;obtain⟨w1,-⟩:=xg0 (kids:=qi0 (qc0 p).1.tab) (lv:=fun x=>lev ((qc0 p).1.tab.nd x)) (N:=(qc0 p).1.tab.ns.length) (fun x hx k hk=>kt0 b1.ok hx k hk) 11 (qc0 p).2 [] b2 (by omega) (xz0 b1.ok b2) (fun x hx=>xz0 b1.ok hx);have hO:=rv0 (w1.nod (by simp)) (fun x hx=>(w1.lt x hx).elim (by simp) id);have e1:(vq0 p).ns=ren (qc0 p).1.tab (pos (walk (qi0 (qc0 p).1.tab) 11 (qc0 p).2 [])) (walk (qi0 (qc0 p).1.tab) 11 (qc0 p).2 []) 0:=rfl;have e2:(vq0 p).ls=lvs (qc0 p).1.tab (walk (qi0 (qc0 p).1.tab) 11 (qc0 p).2 []):=rfl;rw[e1,e2,bm0,rx0];unfold lno;have:=List.length_filter_le (fun x=>((qc0 p).1.tab.nd x).kids.isEmpty) (walk (qi0 (qc0 p).1.tab) 11 (qc0 p).2 []);omega
theorem rd1 {t:Tab Decision}(c:t.Canon wy0)(hN:t.ns.length≤20000)(hL:t.ls.length≤20000)(hk:∀ n∈t.ns,n.kids.length≤2001):∀ n∈t.ns,Bd n:=by
 intro n hn;obtain⟨x,hx⟩:=List.getElem?_of_mem hn;have hxl:=(qA.1 hx).1;have e:t.nd x=n:=by unfold Tab.nd;rw[qM,hx];rfl
 have F:=c.ok.fine x hxl;rw[e] at F;have:=hk n hn;by_cases h:n.kids=[]
 ·obtain⟨f1,f2,f3⟩:=F.leaf h;exact⟨by rw[f1];simp,by omega,by rw[f1];simp,by rw[h];simp,by omega,by omega⟩
 ·obtain⟨f1,f2,f3,f4,f5⟩:=F.inner h;refine⟨by omega,by omega,fun c hc=>?_,fun k hk=>?_,by omega,by omega⟩
  ·have:=lw0 f5 c hc;have:=gr0 n.attr;omega
  ·have:=(F.kid k hk).1;omega
theorem kp1 {p:Policy}(G:PG p):∀ n∈(vq0 p).ns,n.kids.length≤2001:=by
 intro n hn;obtain⟨b1,b2,-⟩:=du0 p;have hsm:=do0 G.nz;obtain⟨w1,-⟩:=xg0 (kids:=qi0 (qc0 p).1.tab) (lv:=fun x=>lev ((qc0 p).1.tab.nd x)) (N:=(qc0 p).1.tab.ns.length) (fun x hx k hk=>kt0 b1.ok hx k hk) 11 (qc0 p).2 [] b2 (by omega) (xz0 b1.ok b2) (fun x hx=>xz0 b1.ok hx);obtain⟨i,hi⟩:=List.getElem?_of_mem hn;rw[show (vq0 p).ns=ren (qc0 p).1.tab (pos (walk (qi0 (qc0 p).1.tab) 11 (qc0 p).2 [])) (walk (qi0 (qc0 p).1.tab) 11 (qc0 p).2 []) 0 from rfl,bd0] at hi;obtain⟨x,hx,rfl⟩:=Option.map_eq_some_iff.1 hi;have hxl:x<(qc0 p).1.tab.ns.length:=(w1.lt x (qK hx)).elim (by simp) id;rw[qW];exact hsm _ (by unfold Tab.nd;rw[qM,qD hxl];exact zJ _)
theorem tj0 {p:Policy}(G:PG p):∀ n∈(vq0 p).ns,Bd n:=by
 obtain⟨h1,h2⟩:=si0 G;exact rd1 (di0 p).1 h1 h2 (kp1 G)
theorem kg1 {p:Policy}(G:PG p):qu0 (kb0 (vq0 p))=some true:=by
 obtain⟨h1,h2⟩:=si0 G;obtain⟨b,e,hb⟩:=lb0 (tj0 G) (by omega);rw[e,hb.2 ⟨(di0 p).1,h1⟩]
theorem mc0 {p:Policy}(G:PG p)(f:A10 Int):zn0 (kb0 (vq0 p)) f=some ((vq0 p).val (toF f) 0):=by
 obtain⟨h1,h2⟩:=si0 G;exact wi1 (di0 p).1 (tj0 G) h1 (by omega) f
end Go.SX.Td
namespace Go.SX.Td
open Go Go.SX Tb
def tb1 (N:Node):Prop:=∃ n:Nd,N=zq0 n∧Bd n
structure SmallN (N:Node):Prop where
 cuts:N.Cuts.length≤20
 kids:N.Kids.length≤21
 attr:mb0 N.Attr
 leaf:mb0 N.Leaf
 cv:∀ c∈N.Cuts,mb0 c
 kv:∀ k∈N.Kids,mb0 k
structure SmallT (T:Table):Prop where
 nodes:T.Nodes.length≤60
 leaves:T.Leaves.length≤60
 node:∀ N∈T.Nodes,SmallN N
theorem rh1 (N:Node)(lo hi:Int)(hN:N.Cuts.length≤20):∃ r,qw0 (zx0 N hi) (lo,0)=some r∧(r=.inr false∨r=.inl ()∧∀ c∈N.Cuts,lo<c∧c≤hi):=by
 refine yq0 (step:=zx0 N hi) (fun (s:Int) i=>(s,i)) N.Cuts.length (fun k s=>lo≤s∧∀ c∈N.Cuts.take k,lo<c∧c≤hi) _ (fun k s hk hI=>?_) (fun s hI=>?_) lo (by simp)
 ·obtain⟨i1,i2⟩:=hI;have hx:N.Cuts[k]?=some N.Cuts[k]:=by simp[hk]
  have ht:N.Cuts.take (k+1)=N.Cuts.take k++[N.Cuts[k]]:=by rw[qS,hx];rfl
  generalize N.Cuts[k]=x at hx ht;have hlt:(k:Int)<N.Cuts.length:=by omega
  simp only[zx0,qm0,qv0,hlt,decide_true,cond_true,qx0 hx,qC,xx0,qr0,zc0 (k:=k) (by omega)];by_cases ha:x≤s
  ·exact .inr ⟨.inr false,by simp[ha],.inl rfl⟩
  ·by_cases hb:hi<x
   ·exact .inr ⟨.inr false,by simp[ha,hb],.inl rfl⟩
   ·refine .inl ⟨x,by simp[ha,hb],by omega,fun c hc=>?_⟩;rw[ht] at hc;rcases qO.1 hc with hc | hc
    ·exact i2 c hc
    ·simp only[zH] at hc;subst hc;omega
 ·have hlt:¬ ((N.Cuts.length:Int)<N.Cuts.length):=by omega
  refine⟨.inl (),by simp only[zx0,qm0,qv0,hlt,decide_false,cond_false],.inr ⟨rfl,?_⟩⟩;have:=hI.2
  rwa [zC] at this
theorem rv1 {T:Table}(S:SmallT T)(N:Node)(hN:N.Kids.length≤21):∃ r,qw0 (zp0 N T) 0=some r∧(r=.inr false∨r=.inl ()∧∀ k∈N.Kids,0≤k∧k<60):=by
 have hnn:=S.nodes;refine yq0 (step:=zp0 N T) (fun (_:Unit) i=>i) N.Kids.length (fun k _=>∀ c∈N.Kids.take k,0≤c∧c<60) _ (fun k s hk hI=>?_) (fun s hI=>?_) () (by simp)
 ·have hx:N.Kids[k]?=some N.Kids[k]:=by simp[hk]
  have ht:N.Kids.take (k+1)=N.Kids.take k++[N.Kids[k]]:=by rw[qS,hx];rfl
  generalize N.Kids[k]=x at hx ht;have hlt:(k:Int)<N.Kids.length:=by omega
  simp only[zp0,qm0,qv0,hlt,decide_true,cond_true,qx0 hx,qC,xx0,qr0,zc0 (k:=k) (by omega)];by_cases h0:x<0
  ·exact .inr ⟨.inr false,by rw[qL h0];rfl,.inl rfl⟩
  ·rw[qI h0,cond_false];by_cases h1:(T.Nodes.length:Int)≤x
   ·exact .inr ⟨.inr false,by rw[qL h1];rfl,.inl rfl⟩
   ·rw[qI h1,cond_false];obtain⟨i,rfl⟩:∃ i:Nat,x=(i:Int):=⟨x.toNat,by omega⟩;have hi:i<T.Nodes.length:=by omega
    have hg:zf0 T.Nodes (i:Int)=some T.Nodes[i]:=qx0 (by simp[hi]);generalize T.Nodes[i]=y at hg;have tail:∃ b,(bif decide (0<((y.Kids.length:Nat):Int)) then some (decide (y.Attr≤N.Attr)) else some false)=some b:=by
     by_cases h:0<((y.Kids.length:Nat):Int)
     ·exact⟨_,by rw[qL h,cond_true]⟩
     ·exact⟨_,by rw[qI h,cond_false]⟩
    obtain⟨b,htail⟩:=tail;have fin:∀ c∈N.Kids.take (k+1),0≤c∧c<60:=fun c hc=>by
     rw[ht] at hc;rcases qO.1 hc with hc | hc
     ·exact hI c hc
     ·simp only[zH] at hc;subst hc;omega
    by_cases h2:(0:Int)<(k:Int)
    ·obtain⟨z,hz⟩:∃ z,N.Kids[k - 1]?=some z:=⟨N.Kids[k - 1]'(by omega),by rw[qD]⟩;have hp:io.ar .sub .i64 (k:Int) 1=((k - 1:Nat):Int):=by rw[ge0,nt0 (by omega) (by omega)];omega
     simp only[qL h2,cond_true,hp,qx0 hz,qC,wv0];by_cases h3:z=(i:Int)
     ·exact .inr ⟨.inr false,by rw[qL h3];rfl,.inl rfl⟩
     ·simp only[qI h3,cond_false,hg,qC,htail]
      cases b with
      | true=>exact .inr ⟨.inr false,rfl,.inl rfl⟩
      | false=>exact .inl ⟨(),rfl,fin⟩
    ·simp only[qI h2,cond_false,hg,qC,htail]
     cases b with
     | true=>exact .inr ⟨.inr false,rfl,.inl rfl⟩
     | false=>exact .inl ⟨(),rfl,fin⟩
 ·have hlt:¬ ((N.Kids.length:Int)<N.Kids.length):=by omega
  refine⟨.inl (),by simp only[zp0,qm0,qv0,hlt,decide_false,cond_false],.inr ⟨rfl,?_⟩⟩
  rwa [zC] at hI
theorem pp1 {N:Node}(ha:0≤N.Attr∧N.Attr<60)(hl:0≤N.Leaf∧N.Leaf<60)(hcl:N.Cuts.length≤20)(hkl:N.Kids.length≤21)(hc:∀ c∈N.Cuts,-1≤c∧c≤1000000000)(hk:∀ k∈N.Kids,0≤k∧k<60):tb1 N:=by
 obtain⟨A,C,K,l⟩:=N;simp only at ha hl hcl hkl hc hk;refine⟨⟨A.toNat,C,K.map Int.toNat,l.toNat⟩,?_,?_⟩
 ·have e:K=ints (K.map Int.toNat):=by
   unfold ints;rw[List.map_map]
   conv=>lhs;rw[← List.map_id K]
   refine List.map_congr_left fun k h=>?_
   have:=hk k h;show k=Int.ofNat k.toNat;rw[Int.ofNat_eq_natCast];omega
  have e1:A=(A.toNat:Int):=by omega
  have e2:l=(l.toNat:Int):=by omega
  show Node.mk A C K l=Node.mk (A.toNat:Int) C (ints (K.map Int.toNat)) (l.toNat:Int);rw[← e,← e1,← e2]
 ·refine⟨by show C.length≤_;omega,by simp;omega,fun c h=>by have:=hc c h;omega,fun k h=>?_,by show A.toNat≤_;omega,by show l.toNat≤_;omega⟩;simp only[List.mem_map] at h;obtain⟨j,hj,rfl⟩:=h;have:=hk j hj;omega
theorem mj0 {T:Table}(S:SmallT T){N:Node}(hS:SmallN N):∃ b,wx0 T N=some b∧(b=true→tb1 N∧(N.Kids=[]→N.Leaf<T.Leaves.length)):=by
 have hcl:=hS.cuts;have hkl:=hS.kids;have hnl:=S.leaves;unfold wx0;simp only[wv0,qv0,xx0,qm0,wu0];by_cases hk:N.Kids=[]
 ·have h0:((N.Kids.length:Nat):Int)=0:=by rw[hk];rfl
  rw[qL h0,cond_true];by_cases h1:((N.Cuts.length:Nat):Int)=0
  ·rw[qL h1,cond_true];by_cases h2:N.Attr=0
   ·rw[qL h2,cond_true];by_cases h3:0≤N.Leaf
    ·rw[qL h3,cond_true];refine⟨_,rfl,fun h=>?_⟩;have h4:N.Leaf<T.Leaves.length:=by simpa using h
     have h5:N.Cuts=[]:=List.eq_nil_of_length_eq_zero (by omega);exact⟨pp1 (by omega) (by omega) hcl hkl (by rw[h5];simp) (by rw[hk];simp),fun _=>h4⟩
    ·exact⟨false,by rw[qI h3,cond_false],fun h=>by cases h⟩
   ·exact⟨false,by rw[qI h2,cond_false],fun h=>by cases h⟩
  ·exact⟨false,by rw[qI h1,cond_false],fun h=>by cases h⟩
 ·have h0:¬ ((N.Kids.length:Nat):Int)=0:=by
   have:N.Kids.length≠0:=by simpa using hk
   omega
  rw[qI h0,cond_false];by_cases h1:N.Attr<0
  ·exact⟨false,by rw[qL h1];rfl,fun h=>by cases h⟩
  ·rw[qI h1,cond_false];by_cases h2:10≤N.Attr
   ·exact⟨false,by rw[qL h2];rfl,fun h=>by cases h⟩
   ·rw[qI h2,cond_false];by_cases h3:N.Leaf=0
    ·rw[qL h3,Bool.not_true,cond_false];by_cases h4:((N.Cuts.length:Nat):Int)=0
     ·exact⟨false,by rw[qL h4];rfl,fun h=>by cases h⟩
     ·rw[qI h4,cond_false];obtain⟨a,ha⟩:∃ a:Nat,N.Attr=(a:Int):=⟨N.Attr.toNat,by omega⟩;have ha10:a<10:=by omega
      obtain⟨r1,e1,c1⟩:=rh1 N (wo0.get a).Lo (wo0.get a).Hi hcl;obtain⟨r2,e2,c2⟩:=rv1 S N hkl;simp only[qC,ha,uu0,zm0 ha10,e1];by_cases h5:((N.Kids.length:Nat):Int)=io.ar .add .i64 ((N.Cuts.length:Nat):Int) 1
      ·rw[qL h5];rcases c1 with rfl | ⟨rfl,c1⟩
       ·exact⟨false,rfl,fun h=>by cases h⟩
       ·simp only[Bool.not_true,cond_false,orR,qC,e2];rcases c2 with rfl | ⟨rfl,c2⟩
        ·exact⟨false,rfl,fun h=>by cases h⟩
        ·refine⟨true,rfl,fun _=>⟨pp1 (by omega) (by omega) hcl hkl (fun c hc=>?_) c2,fun h=>absurd h hk⟩⟩;have:=c1 c hc;have h5:=gr0 a;have e5:wy0.lo a=(wo0.get a).Lo:=rfl;have e6:wy0.hi a=(wo0.get a).Hi:=rfl;omega
      ·exact⟨false,by rw[qI h5];rfl,fun h=>by cases h⟩
    ·exact⟨false,by rw[qI h3];rfl,fun h=>by cases h⟩
theorem sq1 {T:Table}(S:SmallT T){k0:Nat}{N0:Node}(hk0:T.Nodes[k0]?=some N0)(hbad:¬ tb1 N0):qw0 (wp0 T) ([],[],0,0)=some (.inr false):=by
 have hlt0:=(qA.1 hk0).1;have hnn:=S.nodes;obtain⟨r,h1,rfl⟩:=yq0 (step:=wp0 T) (fun (s:List (ByteArray×Bool)×List (Decision×Bool)×Int) i=>(s.1,s.2.1,s.2.2,i)) T.Nodes.length
  (fun k s=>k≤k0∧∃ j:Nat,s.2.2=(j:Int)∧j≤k) (fun r=>r=.inr false) (fun k s hk hI=>by
  obtain⟨known,dec,leaf⟩:=s;obtain⟨i1,j,i2,i3⟩:=hI;simp only at i2;subst i2;have hx:T.Nodes[k]?=some T.Nodes[k]:=by simp[hk]
  have hm:T.Nodes[k]∈T.Nodes:=zJ _;generalize T.Nodes[k]=N at hx hm;have hS:=S.node N hm;have hlt:(k:Int)<T.Nodes.length:=by omega
  have htxt:wq0 [N.Cuts,N.Kids,[N.Attr,N.Leaf]]=some (is0 N):=by
   rw[text_eq (sw1 (fun x hx=>by
    simp only[List.mem_cons,List.not_mem_nil,or_false] at hx;rcases hx with rfl | rfl | rfl
    ·have:=hS.cuts;omega
    ·have:=hS.kids;omega
    ·simp) (by simp) (fun x hx m hm=>by
    simp only[List.mem_cons,List.not_mem_nil,or_false] at hx;rcases hx with rfl | rfl | rfl
    ·exact hS.cv m hm
    ·exact hS.kv m hm
    ·simp only[List.mem_cons,List.not_mem_nil,or_false] at hm;rcases hm with rfl | rfl
     ·exact hS.attr
     ·exact hS.leaf))]
   rfl
  obtain⟨b,f1,f2⟩:=mj0 S hS;simp only[wp0,qm0,qv0,hlt,decide_true,cond_true,qx0 hx,qC,htxt,wv0,wu0,qr0,zc0 (k:=k) (by omega),zc0 (k:=j) (by omega)]
  cases wc0 known (is0 N) false with
  | true=>exact .inr ⟨.inr false,rfl,rfl⟩
  | false =>
   rw[f1]
   cases b with
   | false=>exact .inr ⟨.inr false,rfl,rfl⟩
   | true =>
    obtain⟨g1,g2⟩:=f2 rfl;have hkk:k+1≤k0:=by
     rcases Nat.lt_or_eq_of_le i1 with h | h
     ·exact h
     ·subst h;rw[hk0] at hx;cases hx;exact absurd g1 hbad
    simp only[cond_false,qC,Bool.not_true];by_cases hkd:N.Kids=[]
    ·have h0:((N.Kids.length:Nat):Int)=0:=by rw[hkd];rfl
     rw[qL h0,cond_true];by_cases hle:N.Leaf=(j:Int)
     ·have hj:j<T.Leaves.length:=by have:=g2 hkd;omega
      have hgl:zf0 T.Leaves (j:Int)=some T.Leaves[j]:=qx0 (by simp[hj]);generalize T.Leaves[j]=d at hgl;rw[qL hle,Bool.not_true,cond_false,hgl];simp only[qC]
      cases wc0 dec d false with
      | true=>exact .inr ⟨.inr false,rfl,rfl⟩
      | false=>exact .inl ⟨(ku0 known (is0 N) true,ku0 dec d true,((j+1:Nat):Int)),rfl,hkk,j+1,rfl,by omega⟩
     ·exact .inr ⟨.inr false,by rw[qI hle];rfl,rfl⟩
    ·have h0:¬ ((N.Kids.length:Nat):Int)=0:=by
      have:N.Kids.length≠0:=by simpa using hkd
      omega
     rw[qI h0,cond_false];exact .inl ⟨(ku0 known (is0 N) true,dec,(j:Int)),rfl,hkk,j,rfl,by omega⟩) (fun s hI=>by
  have:=hI.1;omega) ([],[],0) ⟨Nat.zero_le _,0,rfl,qV _⟩
 exact h1
theorem sh1 {T:Table}(h:∀ N∈T.Nodes,tb1 N):∃ t,T=kb0 t∧∀ n∈t.ns,Bd n:=by
 obtain⟨Ns,ls⟩:=T;have key:∀ l:List Node,(∀ N∈l,tb1 N)→∃ m:List Nd,l=m.map zq0∧∀ n∈m,Bd n:=by
  intro l
  induction l with
  | nil=>exact fun _=>⟨[],rfl,by simp⟩
  | cons N l ih =>
   intro h;obtain⟨m,rfl,hm⟩:=ih fun N hN=>h N (zF _ hN)
   obtain⟨n,rfl,hn⟩:=h N (by simp);exact⟨n::m,rfl,fun x hx=>by
    rcases List.mem_cons.1 hx with rfl | hx
    ·exact hn
    ·exact hm x hx⟩
 obtain⟨m,e,hm⟩:=key Ns h;exact⟨⟨m,ls⟩,by rw[kb0,← e],hm⟩
theorem tw0 {T:Table}(S:SmallT T):qu0 T=some false∨∃ t:Tab Decision,T=kb0 t∧(∀ n∈t.ns,Bd n)∧t.Canon wy0∧qu0 T=some true:=by
 have hnn:=S.nodes;by_cases hok:∀ N∈T.Nodes,tb1 N
 ·obtain⟨t,rfl,hb⟩:=sh1 hok;obtain⟨b,e,hv⟩:=lb0 hb (by have:=S.leaves;show t.ls.length≤_;have e:(kb0 t).Leaves.length=t.ls.length:=rfl;omega)
  cases b with
  | false=>exact .inl e
  | true=>exact .inr ⟨t,rfl,hb,(hv.1 rfl).1,e⟩
 ·refine .inl ?_;have:∃ N∈T.Nodes,¬ tb1 N:=by
   refine Classical.byContradiction fun hno=>hok fun N hN=>Classical.byContradiction fun h=>hno ⟨N,hN,h⟩
  obtain⟨N,hN,hbad⟩:=this;obtain⟨k,hk⟩:=List.getElem?_of_mem hN;have hlt:=(qA.1 hk).1;have hw:=sq1 S hk hbad;unfold qu0;have h1:¬ ((T.Nodes.length:Nat):Int)<1:=by omega
  have h2:¬ (20000:Int)<((T.Nodes.length:Nat):Int):=by omega
  simp only[qm0,qv0,qI h1,qI h2,cond_false,qC,hw];rfl
end Go.SX.Td
namespace Go.SX.Td
open Go Go.SX Tb
theorem ro1 {T:Table}(hT:T.Nodes.length≤9223372036854775807):∃ b,vr0 T=some b∧(b=true→T.Nodes.length≤60∧T.Leaves.length≤60∧∀ N∈T.Nodes,N.Cuts.length≤20∧N.Kids.length≤21):=by
 obtain⟨r,h1,h2⟩:=yq0 (step:=vv0 T) (fun (_:Unit) i=>i) T.Nodes.length (fun k _=>∀ N∈T.Nodes.take k,N.Cuts.length≤20∧N.Kids.length≤21) (fun r=>r=.inr false∨r=.inl ()∧∀ N∈T.Nodes,N.Cuts.length≤20∧N.Kids.length≤21)
  (fun k s hk hI=>by
   have hx:T.Nodes[k]?=some T.Nodes[k]:=by simp[hk]
   have ht:T.Nodes.take (k+1)=T.Nodes.take k++[T.Nodes[k]]:=by rw[qS,hx];rfl
   generalize T.Nodes[k]=x at hx ht;have hlt:(k:Int)<T.Nodes.length:=by omega
   simp only[vv0,qm0,qv0,hlt,decide_true,cond_true,qx0 hx,qC,qr0,zc0 (k:=k) (by omega)];by_cases h1:(20:Int)<x.Cuts.length
   ·exact .inr ⟨.inr false,by rw[qL h1];rfl,.inl rfl⟩
   ·by_cases h2:(21:Int)<x.Kids.length
    ·exact .inr ⟨.inr false,by rw[qI h1,qL h2];rfl,.inl rfl⟩
    ·refine .inl ⟨(),by rw[qI h1,qI h2];rfl,fun N hN=>?_⟩;rw[ht] at hN;rcases qO.1 hN with hN | hN
     ·exact hI N hN
     ·simp only[zH] at hN;subst hN;omega) (fun s hI=>by
   rw[zC] at hI;exact⟨_,by simp[vv0,qm0,qv0],.inr ⟨rfl,hI⟩⟩) () (by simp)
 unfold vr0;rw[h1];rcases h2 with rfl | ⟨rfl,h2⟩
 ·exact⟨false,rfl,fun h=>by cases h⟩
 ·simp only[orR,xx0,qv0];by_cases h3:(T.Nodes.length:Int)≤60
  ·rw[qL h3];refine⟨decide ((T.Leaves.length:Int)≤60),rfl,fun h=>?_⟩;have:(T.Leaves.length:Int)≤60:=by simpa using h
   exact⟨by omega,by omega,h2⟩
  ·exact⟨false,by rw[qI h3];rfl,fun h=>by cases h⟩
def bt2 (T:Table):Prop:=T.Nodes.length≤9223372036854775807∧∀ N∈T.Nodes,mb0 N.Attr∧mb0 N.Leaf∧(∀ c∈N.Cuts,mb0 c)∧∀ k∈N.Kids,mb0 k
end Go.SX.Td
namespace Go.SX.Td
open Go Go.SX Tb
theorem Tab.eq_of {t s:Tab Decision}(h:t.ns=s.ns∧t.ls=s.ls):t=s:=by
 obtain⟨a,b⟩:=t;obtain⟨c,d⟩:=s;obtain⟨rfl,rfl⟩:=h;rfl
theorem lv0 {p:Policy}{t:Tab Decision}(c:t.Canon wy0)(h:∀ g,wy0.In g→t.val g 0=ma0 p (toA g)):vq0 p=t :=
 Tab.eq_of (Canon.unique an0 (di0 p).1 c (funext fun ⟨g,hg⟩=>by
  show (vq0 p).val g 0=t.val g 0;rw[(di0 p).2 g hg,h g hg]))
def t1 (d:Decision):Tab Decision:=⟨[⟨0,[],[],0⟩],[d]⟩
def t3 (d0 d1:Decision):Tab Decision:=⟨[⟨2,[1],[1,2],0⟩,⟨0,[],[],0⟩,⟨0,[],[],1⟩],[d0,d1]⟩
def t5 (d0 d1 d2:Decision):Tab Decision:=⟨[⟨1,[18],[1,2],0⟩,⟨0,[],[],0⟩,⟨2,[1],[3,4],0⟩,⟨0,[],[],1⟩,⟨0,[],[],2⟩],[d0,d1,d2]⟩
theorem fh0 {nn nl:Nat}{nd:Nat→Nd}{k:Nat}(h:k<nl):Fine wy0 nn nl nd ⟨0,[],[],k⟩ :=
 ⟨fun _=>⟨rfl,rfl,h⟩,fun h=>absurd rfl h,fun k hk=>(by cases hk),trivial⟩
theorem ob0 {nn nl:Nat}{nd:Nat→Nd}{a:Nat}{c:Int}{i j:Nat}(ha:a<10)(hc:wy0.lo a<c∧c≤wy0.hi a)(hij:i≠j)(hi:i<nn∧a<lev (nd i))(hj:j<nn∧a<lev (nd j)):Fine wy0 nn nl nd ⟨a,[c],[i,j],0⟩ :=
 ⟨fun h=>(by cases h),fun _=>⟨ha,rfl,rfl,by simp,hc.1,hc.2,trivial⟩,fun k hk=>by
  simp only[List.mem_cons,List.not_mem_nil,or_false] at hk;rcases hk with rfl | rfl
  ·exact hi
  ·exact hj,⟨hij,trivial⟩⟩
theorem vw1 (d:Decision):(t1 d).Canon wy0 where
 ok:=⟨fun x hx=>by
  match x,hx with
  | 0,_=>exact fh0 (show 0<1 by decide),by simp[t1],by simp[t1]⟩
 pos:=by show 0<1;decide
 walk:=by rfl
 leaf x hx _:=by
  match x,hx with
  | 0,_=>rfl
 all:=by rfl
theorem bg1 {d0 d1:Decision}(h:d0≠d1):(t3 d0 d1).Canon wy0 where
 ok:=⟨fun x hx=>by
  match x,hx with
  | 0,_=>exact ob0 (by decide) (by decide) (by decide) ⟨by show 1<3;decide,by show 2<10;decide⟩ ⟨by show 2<3;decide,by show 2<10;decide⟩
  | 1,_=>exact fh0 (show 0<2 by decide)
  | 2,_=>exact fh0 (show 1<2 by decide),by simp[t3],by simp[t3,h]⟩
 pos:=by show 0<3;decide
 walk:=by rfl
 leaf x hx hk:=by
  match x,hx with
  | 0,_=>cases hk
  | 1,_=>rfl
  | 2,_=>rfl
 all:=by rfl
theorem by1 {d0 d1 d2:Decision}(h1:d0≠d1)(h2:d0≠d2)(h3:d1≠d2):(t5 d0 d1 d2).Canon wy0 where
 ok:=⟨fun x hx=>by
  match x,hx with
  | 0,_=>exact ob0 (by decide) (by decide) (by decide) ⟨by show 1<5;decide,by show 1<10;decide⟩ ⟨by show 2<5;decide,by show 1<2;decide⟩
  | 1,_=>exact fh0 (show 0<3 by decide)
  | 2,_=>exact ob0 (by decide) (by decide) (by decide) ⟨by show 3<5;decide,by show 2<10;decide⟩ ⟨by show 4<5;decide,by show 2<10;decide⟩
  | 3,_=>exact fh0 (show 1<3 by decide)
  | 4,_=>exact fh0 (show 2<3 by decide),by simp[t5],by simp[t5,h1,h2,h3]⟩
 pos:=by show 0<5;decide
 walk:=by rfl
 leaf x hx hk:=by
  match x,hx with
  | 0,_=>cases hk
  | 1,_=>rfl
  | 2,_=>cases hk
  | 3,_=>rfl
  | 4,_=>rfl
 all:=by rfl
theorem cd1 (d0 d1:Decision)(g:Fa):(t3 d0 d1).val g 0=if 1≤g 2 then d1 else d0:=by
 by_cases h:1≤g 2
 ·rw[if_pos h];simp[Tab.val,Tab.nq0,Tab.nd,t3,ux0,h]
 ·rw[if_neg h];simp[Tab.val,Tab.nq0,Tab.nd,t3,ux0,h]
theorem cc1 (d0 d1 d2:Decision)(g:Fa):(t5 d0 d1 d2).val g 0=if 18≤g 1 then (if 1≤g 2 then d2 else d1) else d0:=by
 by_cases h:18≤g 1
 ·by_cases h':1≤g 2
  ·rw[if_pos h,if_pos h'];simp[Tab.val,Tab.nq0,Tab.nd,t5,ux0,h,h']
  ·rw[if_pos h,if_neg h'];simp[Tab.val,Tab.nq0,Tab.nd,t5,ux0,h,h']
 ·rw[if_neg h];simp[Tab.val,Tab.nq0,Tab.nd,t5,ux0,h]
def jd (l:List (Bool×Rule)):Decision:=rk2 (l.foldl (fun (s:JS×Nat) x=>(if x.1 then note s.1 s.2 x.2 else s.1,s.2+1)) (J0,0)).1
theorem og0 (p:Policy)(f:A10 Int):ma0 p f=jd (p.Rules.map fun r=>(holds r f,r)):=by
 unfold ma0 jd;rw[List.foldl_map];rfl
theorem je1 {g:Fa}(hg:wy0.In g){a:Nat}(ha:a<10)(r:Range):inZ (wo0.put a r) (toA g)=decide (r.Lo≤g a∧g a≤r.Hi):=by
 rw[Bool.eq_iff_iff,jo1,qZ]
 constructor
 ·intro h;have:=h a ha
  rwa [A10.get_put _ _ _ _ ha ha,if_pos rfl,ll0 g a ha] at this
 ·intro h i hi;rw[A10.get_put _ _ _ _ ha hi,ll0 g i hi];split
  ·rename_i e;subst e;exact h
  ·exact hg i hi
theorem ji1 {g:Fa}(hg:wy0.In g):inZ wo0 (toA g)=true:=by
 rw[jo1];intro i hi;rw[ll0 g i hi];exact hg i hi
def rl (kind:Int)(name:ByteArray)(n:Int)(z:A10 Range):Rule:=⟨kind,name,[z],n,⟨0,1⟩,⟨0,1⟩⟩
theorem ov0 (kind:Int)(name:ByteArray)(n:Int)(z:A10 Range)(f:A10 Int):holds (rl kind name n z) f=inZ z f:=by simp[holds,rl]
def nA : ByteArray:=⟨#[97]⟩
def nP : ByteArray:=⟨#[112]⟩
def nD : ByteArray:=⟨#[100]⟩
theorem v0 : wl0 ⟨[]⟩=true:=by decide +kernel
theorem PG0 {l:List Rule}(hv:wl0 ⟨l⟩=true)(h:(qh0 ⟨l⟩).length≤10):PG ⟨l⟩:=mt1 hv h
theorem g0 : PG ⟨[]⟩:=PG0 v0 (by decide)
theorem ky1 : qu0 ⟨[],[]⟩=some false:=by
 unfold qu0;simp only[qm0,qv0,List.length_nil,Int.natCast_zero];rfl
end Go.SX.Td
namespace Go.SX.Td
open Go Go.SX Tb
theorem on0 (a b:List Int)(ha:a.length≤2000000000):jm0 a b=some (decide (a=b)):=by
 unfold jm0;simp only[wv0,qv0,wu0];by_cases hl:a.length=b.length
 ·have hl':((a.length:Nat):Int)=((b.length:Nat):Int):=by omega
  rw[qL hl',Bool.not_true,cond_false];rw[xq0 (step:=vu0 a b) a.length (fun k=>decide (a[k]?≠b[k]?)) (.inr false) (.inl ()) (fun k hk=>by
   have h1:a[k]?=some a[k]:=by simp[hk]
   have h2:b[k]?=some (b[k]'(by omega)):=by rw[qD]
   generalize a[k]=x at h1;generalize b[k]'(by omega)=y at h2;have hlt:(k:Int)<a.length:=by omega
   simp only[vu0,qm0,qv0,hlt,decide_true,cond_true,qx0 h1,qx0 h2,qC,wv0,wu0,qr0,zc0 (k:=k) (by omega),h1,h2];by_cases h:x=y
   ·simp[h]
   ·simp[h]) (by simp[vu0,qm0,qv0])]
  by_cases he:a=b
  ·subst he;rw[if_neg (by simp)];simp[orR]
  ·rw[if_pos]
   ·simp[orR,he]
   ·rw[zK];refine Classical.byContradiction fun hno=>he (List.ext_getElem? fun i=>?_)
    by_cases hi:i<a.length
    ·refine Classical.byContradiction fun hne=>hno ⟨i,List.mem_range.2 hi,by simpa using hne⟩
    ·rw[qY (by omega),qY (by omega)]
 ·have hl':¬ ((a.length:Nat):Int)=((b.length:Nat):Int):=by omega
  rw[qI hl',Bool.not_false,cond_true];have:a≠b:=fun e=>hl (by rw[e])
  simp[this]
theorem qi2 (a b:List Int)(ha:a.length≤1000000000):jm0 a b=some (decide (a=b)):=on0 a b (by omega)
theorem yq1 (a b:Node)(h1:a.Cuts.length≤2000000000)(h2:a.Kids.length≤2000000000):wh0 a b=some (decide (a=b)):=by
 obtain⟨a1,a2,a3,a4⟩:=a;obtain⟨b1,b2,b3,b4⟩:=b;unfold wh0;simp only[wv0,on0 _ _ h1,on0 _ _ h2,qC,Node.mk.injEq];by_cases e1:a1=b1<;>by_cases e2:a2=b2<;>by_cases e3:a3=b3<;>by_cases e4:a4=b4<;>simp[e1,e2,e3,e4]
theorem nl0 (a b:Node)(h1:a.Cuts.length≤1000000000)(h2:a.Kids.length≤1000000000):wh0 a b=some (decide (a=b)):=yq1 a b (by omega) (by omega)
theorem ql2 (a b:Table)(h1:a.Nodes.length≤1000000000)(h2:a.Leaves.length≤1000000000)(h3:∀ n∈a.Nodes,n.Cuts.length≤1000000000∧n.Kids.length≤1000000000):jf0 a b=some (decide (a=b)):=by
 unfold jf0;simp only[wv0,qv0,wu0];by_cases hn:a.Nodes.length=b.Nodes.length
 ·have hn':((a.Nodes.length:Nat):Int)=((b.Nodes.length:Nat):Int):=by omega
  rw[qL hn',Bool.not_true,cond_false];by_cases hl:a.Leaves.length=b.Leaves.length
  ·have hl':((a.Leaves.length:Nat):Int)=((b.Leaves.length:Nat):Int):=by omega
   rw[qL hl'];simp only[Bool.not_true,qC,cond_false];rw[xq0 (step:=ve0 a b) a.Nodes.length (fun k=>decide (a.Nodes[k]?≠b.Nodes[k]?)) (.inr false) (.inl ()) (fun k hk=>by
    have e1:a.Nodes[k]?=some a.Nodes[k]:=by simp[hk]
    have e2:b.Nodes[k]?=some (b.Nodes[k]'(by omega)):=by rw[qD]
    have e3:=h3 a.Nodes[k] (zJ hk);generalize a.Nodes[k]=x at e1 e3;generalize b.Nodes[k]'(by omega)=y at e2;have hlt:(k:Int)<a.Nodes.length:=by omega
    simp only[ve0,qm0,qv0,hlt,decide_true,cond_true,qx0 e1,qx0 e2,qC,nl0 x y e3.1 e3.2,wu0,qr0,zc0 (k:=k) (by omega),e1,e2];by_cases h:x=y
    ·simp[h]
    ·simp[h]) (by simp[ve0,qm0,qv0])]
   rw[xq0 (step:=va0 a b) a.Leaves.length (fun k=>decide (a.Leaves[k]?≠b.Leaves[k]?)) (.inr false) (.inl ()) (fun k hk=>by
    have e1:a.Leaves[k]?=some a.Leaves[k]:=by simp[hk]
    have e2:b.Leaves[k]?=some (b.Leaves[k]'(by omega)):=by rw[qD]
    generalize a.Leaves[k]=x at e1;generalize b.Leaves[k]'(by omega)=y at e2;have hlt:(k:Int)<a.Leaves.length:=by omega
    simp only[va0,qm0,qv0,hlt,decide_true,cond_true,qx0 e1,qx0 e2,qC,gg0,wu0,qr0,zc0 (k:=k) (by omega),e1,e2];by_cases h:x=y
    ·simp[h]
    ·simp[h]) (by simp[va0,qm0,qv0])]
   have key:∀ {α:Type}[DecidableEq α](x y:List α),x.length=y.length→((List.range x.length).any (fun k=>decide (x[k]?≠y[k]?))=false↔x=y):=fun x y hxy=>by
    constructor
    ·intro h;refine List.ext_getElem? fun i=>?_
     by_cases hi:i<x.length
     ·have:=(List.any_eq_false.1 h) i (List.mem_range.2 hi)
      simpa using this
     ·rw[qY (by omega),qY (by omega)]
    ·rintro rfl;rw[List.any_eq_false];simp
   have k1:=key a.Nodes b.Nodes hn;have k2:=key a.Leaves b.Leaves hl;obtain⟨aN,aL⟩:=a;obtain⟨bN,bL⟩:=b;simp only at k1 k2 ⊢;by_cases e1:aN=bN
   ·rw[k1.2 e1];by_cases e2:aL=bL
    ·rw[k2.2 e2];simp[orR,e1,e2]
    ·have:(List.range aL.length).any (fun k=>decide (aL[k]?≠bL[k]?))=true:=by
      cases h:(List.range aL.length).any (fun k=>decide (aL[k]?≠bL[k]?)) with
      | true=>rfl
      | false=>exact absurd (k2.1 h) e2
     rw[this];simp[orR,e2]
   ·have:(List.range aN.length).any (fun k=>decide (aN[k]?≠bN[k]?))=true:=by
     cases h:(List.range aN.length).any (fun k=>decide (aN[k]?≠bN[k]?)) with
     | true=>rfl
     | false=>exact absurd (k1.1 h) e1
    rw[this];simp[orR,e1]
  ·have hl':¬ ((a.Leaves.length:Nat):Int)=((b.Leaves.length:Nat):Int):=by omega
   rw[qI hl'];have:a≠b:=fun e=>hl (by rw[e])
   simp[this]
 ·have hn':¬ ((a.Nodes.length:Nat):Int)=((b.Nodes.length:Nat):Int):=by omega
  rw[qI hn'];have:a≠b:=fun e=>hn (by rw[e])
  simp[this]
end Go.SX.Td
namespace Go.SX.Td
open Go Go.SX Tb
theorem tt1 (l:List Int)(n:Int)(hl:l.length≤1000000000):kk0 l n=some (decide (n∈l)):=by
 unfold kk0;rw[gh0 (step:=ur0 l n) l (fun x=>decide (x=n)) (.inr true) (.inl ()) (fun k x hx=>by
  have hk:=(qA.1 hx).1;have hlt:(k:Int)<l.length:=by omega
  simp only[ur0,qm0,qv0,hlt,decide_true,cond_true,qx0 hx,qC,wv0,qr0,zc0 (k:=k) (by omega)];by_cases h:x=n<;>simp[h]) (by simp[ur0,qm0,qv0])]
 by_cases hm:n∈l
 ·rw[if_pos (zK.2 ⟨n,hm,by simp⟩),qL hm];rfl
 ·rw[if_neg (fun h=>by
   obtain⟨x,h1,h2⟩:=zK.1 h;exact hm (by rw[← of_decide_eq_true h2];exact h1)),qI hm];rfl
theorem xy1 {x:Nat}{o:List Nat}:(x:Int)∈ints o↔x∈o:=by
 rw[ints,List.mem_map]
 constructor
 ·rintro ⟨a,h,e⟩;have e:(a:Int)=x:=e;have e:a=x:=by omega
  rw[← e];exact h
 ·exact fun h=>⟨x,h,rfl⟩
theorem ik0 {t:Tab Decision}(ls:List Decision)(hkl:∀ x,x<t.ns.length→∀ k∈(t.nd x).kids,k<t.ns.length∧lev (t.nd x)<lev (t.nd k))(hlv:∀ x,x<t.ns.length→lev (t.nd x)≤10)(hb:∀ n∈t.ns,Bd n)(hN:t.ns.length≤20000):∀ (n x:Nat)(o:List Nat),x<t.ns.length→10<n+lev (t.nd x)→o.Nodup→(∀ y∈o,y<t.ns.length) →
  iv0 (t.ns.map zq0) ls n (x:Int) (ints o)=some (ints (walk (qi0 t) n x o))
 | 0,x,o,hx,hl,_,_=>by have:=hlv x hx;omega
 | n+1,x,o,hx,hl,ho,hbo=>by
  show by0 _ _ (iv0 (t.ns.map zq0) ls n) _ _=_;have hol:o.length≤t.ns.length:=by
   have:=rw0 (l:=o) (m:=List.range t.ns.length) ho fun y hy=>List.mem_range.2 (hbo y hy)
   simpa using this
  rw[by0,tt1 _ _ (by rw[qg0];omega)];by_cases hm:x∈o
  ·simp only[qC,xy1,hm,decide_true,cond_true,walk,if_true]
  ·have hnod:(o++[x]).Nodup:=by
    rw[List.nodup_append];exact⟨ho,by simp,fun a ha b hb e=>hm (by simp at hb;rw[← hb,← e];exact ha)⟩
   have hlt':∀ y∈o++[x],y<t.ns.length:=fun y hy=>by
    rcases qO.1 hy with hy | hy
    ·exact hbo y hy
    ·simp at hy;omega
   have hgx:zf0 (t.ns.map zq0) (x:Int)=some (zq0 (t.nd x)):=qx0 (kw0 hx);have happ:appG (ints o) [(x:Int)]=some (ints (o++[x])):=by
    rw[qo0 (by rw[qg0];simp;omega)];simp[ints]
   simp only[qC,xy1,hm,decide_false,cond_false,happ,walk,if_false];have hgood:∀ k,k≤(t.nd x).kids.length→(((t.nd x).kids.take k).foldl (fun o k=>walk (qi0 t) n k o) (o++[x])).Nodup∧∀ y∈((t.nd x).kids.take k).foldl (fun o k=>walk (qi0 t) n k o) (o++[x]),y<t.ns.length:=by
    intro k
    induction k with
    | zero=>intro _;simp only[List.take_zero,List.foldl_nil];exact⟨hnod,hlt'⟩
    | succ k ih =>
     intro hk;obtain⟨i1,i2⟩:=ih (by omega);have hg:(t.nd x).kids[k]?=some (t.nd x).kids[k]:=by simp
     rw[qS,hg,zB,List.foldl_append];simp only[qT,List.foldl_nil];obtain⟨k1,k2⟩:=hkl x hx _ (qK hg);obtain⟨w1,-⟩:=xg0 (kids:=qi0 t) (lv:=fun x=>lev (t.nd x)) (N:=t.ns.length) hkl n _ (((t.nd x).kids.take k).foldl (fun o k=>walk (qi0 t) n k o) (o++[x])) k1 (by omega) (hlv _ k1) hlv;exact⟨w1.nod i1,fun y hy=>(w1.lt y hy).elim (i2 y) id⟩
   have hmem:t.nd x∈t.ns:=by unfold Tab.nd;rw[qM,qD hx];exact zJ _
   have hloop:qw0 (sy0 (t.ns.map zq0) (x:Int) (iv0 (t.ns.map zq0) ls n)) (ints (o++[x]),0)=some (ints ((qi0 t x).foldl (fun o k=>walk (qi0 t) n k o) (o++[x]))):=by
    refine wt0 (step:=sy0 (t.ns.map zq0) (x:Int) (iv0 (t.ns.map zq0) ls n)) (fun (s:List Nat) i=>(ints s,i)) (t.nd x).kids (fun o k=>walk (qi0 t) n k o) (o++[x]) _ (fun k y hy=>?_) ?_
    ·have hk:k<(t.nd x).kids.length:=(qA.1 hy).1;obtain⟨g1,g2⟩:=hgood k (by omega);obtain⟨k1,k2⟩:=hkl x hx y (qK hy);have hlt:(k:Int)<(ints (t.nd x).kids).length:=by rw[qg0];omega
     have e:=ik0 ls hkl hlv hb hN n y _ k1 (by omega) g1 g2;simp only[sy0,hgx,qC,qm0,qv0,zq0,hlt,decide_true,cond_true,qx0 (wm0 hy),e,qr0,zc0 (show k<9223372036854775807 by have:=(hb _ hmem).kids;omega)]
    ·have hlt:¬ (((t.nd x).kids.length:Int)<(ints (t.nd x).kids).length):=by rw[qg0];omega
     simp only[sy0,hgx,qC,qm0,qv0,zq0,hlt,decide_false,cond_false]
   rw[hloop];rfl
end Go.SX.Td
