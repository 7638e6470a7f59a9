/- Parts of the proof. -/
import Derived.Test.YtllbabjgpdmblaaDoorZTdR7
import Derived.Test.YtllbabjgpdmblaaDoorZTd10d
import Derived.Test.YtllbabjgpdmblaaDoorZTd52d
import Derived.Test.YtllbabjgpdmblaaDoorZTdFew
set_option linter.unusedSimpArgs false
set_option linter.unusedVariables false
set_option linter.unusedSectionVars false
namespace Go.SX.Td
open Go Go.SX Tb
theorem rem_ok {a:Int}(h:0≤a∧a≤255){m:Nat}(hm:0<m):∃ i:Nat,i<m∧(IntKind.i64.wrap a).tmod (m:Int)=(i:Int):=by
 refine⟨(a.tmod m).toNat,?_,?_⟩
 ·have h3:=Int.tmod_lt_of_pos a (show (0:Int)<m by omega)
  have h4:=Int.tmod_nonneg (m:Int) h.1
  omega
 ·have h4:=Int.tmod_nonneg (m:Int) h.1
  rw[sn0 (by omega) (by omega)];omega
section
variable {t:Tab Decision}
end
end Go.SX.Td
namespace Go.SX.Td
open Go Go.SX Tb
def jx0 (r:Rule)(zs:List (A10 Range)):Rule:=⟨r.Kind,r.Name,zs,r.N,r.R,r.S⟩
theorem note_withZ (s:JS)(i:Int)(r:Rule)(zs:List (A10 Range)):note s i (jx0 r zs)=note s i r:=rfl
theorem stepJ_withZ {f:A10 Int}{r:Rule}{zs:List (A10 Range)}(h:holds (jx0 r zs) f=holds r f)(s:JS×Nat):stepJ f s (jx0 r zs)=stepJ f s r:=by
 unfold stepJ;rw[h,note_withZ]
theorem foldl_set {σ α:Type}(g:σ→α→σ):∀ (l:List α)(w:Nat)(x y:α)(s:σ),l[w]?=some x→(∀ s,g s y=g s x)→(l.set w y).foldl g s=l.foldl g s
 | [],w,x,y,s,h,_=>by simp at h
 | a::l,0,x,y,s,h,hg=>by
  simp at h;subst h
  rw[List.set_cons_zero,List.foldl_cons,List.foldl_cons,hg]
 | a::l,w+1,x,y,s,h,hg=>by
  rw[List.set_cons_succ,List.foldl_cons,List.foldl_cons]
  exact foldl_set g l w x y _ (by simpa using h) hg
theorem decS_one {p:Policy}{w:Nat}{r:Rule}(hr:p.Rules[w]?=some r){zs:List (A10 Range)}{f:A10 Int}(h:holds (jx0 r zs) f=holds r f)(x:Rule)(hx:x.Zones=[]):kv0 ⟨p.Rules.set w (jx0 r zs)++[x]⟩ f=kv0 p f:=by
 unfold kv0
 rw[List.foldl_append,foldl_set (stepJ f) p.Rules w r (jx0 r zs) _ hr (stepJ_withZ h)]
 have hh:holds x f=false:=by unfold holds;rw[hx];rfl
 simp only[List.foldl_cons,List.foldl_nil,stepJ,hh,Bool.false_eq_true,if_false]
theorem inZ_split {z:A10 Range}{i:Nat}(hi:i<10){v:Int}(h1:(z.get i).Lo≤v)(h2:v<(z.get i).Hi)(f:A10 Int) :
  (inZ (z.put i ⟨v+1,(z.get i).Hi⟩) f||inZ (z.put i ⟨(z.get i).Lo,v⟩) f)=inZ z f:=by
 rw[Bool.eq_iff_iff,Bool.or_eq_true,fm0,fm0,fm0]
 constructor
 ·rintro (h | h) j hj
  ·have h3:=h j hj
   rw[A10.get_put _ _ _ _ hi hj] at h3
   split at h3
   ·rename_i e;subst e;have h4:v+1≤f.get j:=h3.1;exact⟨by omega,h3.2⟩
   ·exact h3
  ·have h3:=h j hj
   rw[A10.get_put _ _ _ _ hi hj] at h3
   split at h3
   ·rename_i e;subst e;have h4:f.get j≤v:=h3.2;exact⟨h3.1,by omega⟩
   ·exact h3
 ·intro h
  by_cases hv:f.get i≤v
  ·refine .inr fun j hj=>?_
   rw[A10.get_put _ _ _ _ hi hj]
   split
   ·rename_i e;subst e;exact⟨(h j hj).1,hv⟩
   ·exact h j hj
  ·refine .inl fun j hj=>?_
   rw[A10.get_put _ _ _ _ hi hj]
   split
   ·rename_i e;subst e;exact⟨by show v+1≤_;omega,(h j hj).2⟩
   ·exact h j hj
theorem any_split {Z:List (A10 Range)}{z lo hi:A10 Range}{T:List (A10 Range)}(hZ:Z.reverse=z::T){f:A10 Int}(h:(inZ hi f||inZ lo f)=inZ z f):(T++[hi,lo]).any (fun z=>inZ z f)=Z.any fun z=>inZ z f:=by
 rw[← List.any_reverse (l:=Z),hZ,List.any_append,List.any_cons,List.any_cons,List.any_cons,List.any_nil,Bool.or_false,h,Bool.or_comm]
theorem holds_withZ {r:Rule}{z lo hi:A10 Range}{T:List (A10 Range)}(hZ:r.Zones.reverse=z::T){f:A10 Int}(h:(inZ hi f||inZ lo f)=inZ z f):holds (jx0 r (T++[hi,lo])) f=holds r f:=any_split hZ h
theorem names_set {l:List Rule}{w:Nat}{r:Rule}(hr:l[w]?=some r)(zs:List (A10 Range)):(l.set w (jx0 r zs)).map (·.Name)=l.map (·.Name):=by
 refine List.ext_getElem? fun k=>?_
 rw[List.getElem?_map,List.getElem?_map]
 by_cases h:k=w
 ·subst h
  rw[List.getElem?_set_self (List.getElem?_eq_some_iff.1 hr).1,hr];rfl
 ·rw[List.getElem?_set_ne (Ne.symm h)]
theorem bt0 (l:List Rule)(n:ByteArray):(l.any fun q=>decide (q.Name=n))=(l.map (·.Name)).any fun m=>decide (m=n):=by
 rw[List.any_map];rfl
theorem valid_one {p:Policy}{w:Nat}{r:Rule}(hr:p.Rules[w]?=some r)(hv:zv0 p=true)(hl:p.Rules.length≤8){zs:List (A10 Range)}(hz:zs.length≤200)(hw:zs.all zm0=true){x:Rule}(hx:x.Zones=[])(hxn:ka0 x=true)
  (hname:∀ y∈p.Rules,y.Name≠x.Name):zv0 ⟨p.Rules.set w (jx0 r zs)++[x]⟩=true:=by
 refine valid_of (by show (p.Rules.set w (jx0 r zs)++[x]).length≤200;simp;omega) fun k y hy=>?_
 have hy':(p.Rules.set w (jx0 r zs)++[x])[k]?=some y:=hy
 have hnames:∀ n,(((p.Rules.set w (jx0 r zs)++[x]).take k).any fun q=>decide (q.Name=n))=((p.Rules.map (·.Name)++[x.Name]).take k).any fun m=>decide (m=n):=fun n=>by
  rw[bt0,List.map_take,List.map_append,names_set hr];rfl
 unfold jo0
 rw[hnames]
 by_cases hk:k<p.Rules.length
 ·rw[List.getElem?_append_left (by rw[List.length_set];exact hk)] at hy'
  have htk:(p.Rules.map (·.Name)++[x.Name]).take k=(p.Rules.take k).map (·.Name):=by rw[List.take_append_of_le_length (by rw[List.length_map];omega),List.map_take]
  rw[htk,← bt0]
  by_cases hkw:k=w
  ·subst hkw
   rw[List.getElem?_set_self hk] at hy'
   obtain rfl:=Option.some.inj hy'
   have:=jb0 hv hr
   simp only[jo0,Bool.and_eq_true] at this ⊢
   exact⟨this.1,decide_eq_true hz,hw,this.2.2.2⟩
  ·rw[List.getElem?_set_ne (Ne.symm hkw)] at hy'
   exact jb0 hv hy'
 ·rw[List.getElem?_append_right (by rw[List.length_set];omega),List.length_set] at hy'
  have hk0:k - p.Rules.length=0:=by
   have:=(List.getElem?_eq_some_iff.1 hy').1
   simp at this;omega
  rw[hk0] at hy'
  simp at hy'
  subst hy'
  have hke:k=p.Rules.length:=by omega
  subst hke
  have htk:(p.Rules.map (·.Name)++[x.Name]).take p.Rules.length=p.Rules.map (·.Name):=by
   rw[List.take_append_of_le_length (by rw[List.length_map];omega),List.take_of_length_le (by rw[List.length_map];omega)]
  rw[htk,← bt0,hx,hxn]
  have hn:(p.Rules.any fun q=>decide (q.Name=x.Name))=false:=by
   rw[List.any_eq_false]
   intro y hy h
   exact hname y hy (by simpa using h)
  rw[hn];rfl
theorem zones_one {p:Policy}{w:Nat}{r:Rule}(hr:p.Rules[w]?=some r)(zs:List (A10 Range)){x:Rule}(hx:x.Zones=[]) :
  ∃ A B,qq0 p=A++r.Zones++B∧qq0 ⟨p.Rules.set w (jx0 r zs)++[x]⟩=A++zs++B:=by
 have hw:=(List.getElem?_eq_some_iff.1 hr).1
 refine⟨(p.Rules.take w).flatMap (·.Zones),(p.Rules.drop (w+1)).flatMap (·.Zones),?_,?_⟩
 ·have e:p.Rules=p.Rules.take w++r::p.Rules.drop (w+1):=by
   have:=List.take_append_drop w p.Rules
   rw[List.drop_eq_getElem_cons hw,(List.getElem?_eq_some_iff.1 hr).2] at this
   exact this.symm
  show p.Rules.flatMap (·.Zones)=_
  conv=>lhs;rw[e]
  rw[List.flatMap_append,List.flatMap_cons,List.append_assoc]
 ·show (p.Rules.set w (jx0 r zs)++[x]).flatMap (·.Zones)=_
  rw[List.flatMap_append,List.set_eq_take_append_cons_drop,if_pos hw,List.flatMap_append,List.flatMap_cons,List.flatMap_cons,List.flatMap_nil,hx]
  simp[jx0]
theorem subs_few : ∀ N,N<12→∀ h,h<N→((subs (List.range N)).filter fun l=>decide (h∈l) == decide (h+1∈l)).length≤1536∧((subs (List.range N)).filter fun l=>!(decide (h∈l)&&decide (h+1∈l))).length≤1536∨¬ h+1<N:=by decide +kernel
theorem PG_two {q:Policy}(hv:zv0 q=true)(hn:(qq0 q).length≤11){h:Nat}{zh zl:A10 Range}(h1:(qq0 q)[h]?=some zh)(h2:(qq0 q)[h+1]?=some zl)
  (hcase:∀ a,a≤10→(∀ b,b<a→b<10→zh.get b=zl.get b)∨∃ i,i<a∧i<10∧(zl.get i).Hi<(zh.get i).Lo):PG q:=by
 refine PG_of hv (by omega) fun b hb=>?_
 have hN:(qx0 q).nz=(qq0 q).length:=rfl
 have hlt:h+1<(qq0 q).length:=(List.getElem?_eq_some_iff.1 h2).1
 have hat:∀ (b:Nat)(v:Int),(qx0 q).at h b v=decide ((zh.get b).Lo≤v∧v≤(zh.get b).Hi):=fun b v=>by simp[Prob.at,qx0,zlo,zhi,h1]
 have hat':∀ (b:Nat)(v:Int),(qx0 q).at (h+1) b v=decide ((zl.get b).Lo≤v∧v≤(zl.get b).Hi):=fun b v=>by simp[Prob.at,qx0,zlo,zhi,h2]
 have hmem:∀ (a:Nat)(f:Fa)(z:Nat),z<(qq0 q).length→(decide (z∈(List.range (qx0 q).nz).filter ((qx0 q).Pre a f))=(qx0 q).Pre a f z):=fun a f z hz=>by
  rw[Bool.eq_iff_iff,decide_eq_true_eq,List.mem_filter,List.mem_range,hN]
  exact⟨fun h=>h.2,fun h=>⟨hz,h⟩⟩
 rcases subs_few (qq0 q).length (by omega) h (by omega) with hs | hs
 ·obtain⟨s1,s2⟩:=hs
  classical
  obtain⟨c1,c2⟩:=hb.fewer (fun a=>if (∀ b,b<a→b<10→zh.get b=zl.get b) then ((subs (List.range (qq0 q).length)).filter fun l=>decide (h∈l) == decide (h+1∈l)) else ((subs (List.range (qq0 q).length)).filter fun l=>!(decide (h∈l)&&decide (h+1∈l)))) 1536 (fun a l ha hcan=>by
   obtain⟨f,e⟩:=hcan
   have hsub:l∈subs (List.range (qq0 q).length):=mem_subs (e▸List.filter_sublist)
   have m1:decide (h∈l)=(qx0 q).Pre a f h:=by rw[e];exact hmem a f h (by omega)
   have m2:decide (h+1∈l)=(qx0 q).Pre a f (h+1):=by rw[e];exact hmem a f (h+1) hlt
   split
   ·rename_i hE
    rw[List.mem_filter,m1,m2]
    refine⟨hsub,?_⟩
    have:(qx0 q).Pre a f h=(qx0 q).Pre a f (h+1):=by
     unfold Prob.Pre
     rw[Bool.eq_iff_iff,List.all_eq_true,List.all_eq_true]
     refine forall_congr' fun b=>forall_congr' fun hb=>?_
     rw[hat,hat']
     by_cases hab:a≤b
     ·simp[hab]
     ·rw[hE b (by omega) (List.mem_range.1 hb)]
    rw[this];exact beq_self_eq_true _
   ·rename_i hE
    rw[List.mem_filter,m1,m2]
    refine⟨hsub,?_⟩
    rcases hcase a ha with h' | ⟨i,i1,i2,i3⟩
    ·exact absurd h' hE
    ·rw[Bool.not_eq_true',Bool.and_eq_false_iff]
     refine Classical.byContradiction fun hno=>?_
     simp only[not_or,Bool.not_eq_false] at hno
     obtain⟨p1,p2⟩:=hno
     unfold Prob.Pre at p1 p2
     have q1:=List.all_eq_true.1 p1 i (List.mem_range.2 i2)
     have q2:=List.all_eq_true.1 p2 i (List.mem_range.2 i2)
     rw[hat] at q1
     rw[hat'] at q2
     simp only[Bool.or_eq_true,decide_eq_true_eq] at q1 q2
     omega) (fun a _=>by
   split
   ·exact s1
   ·exact s2)
  omega
 ·exact absurd hlt hs
end Go.SX.Td
namespace Go.SX.Td
open Go Go.SX Tb
abbrev nZ : ByteArray:=⟨#[90,95,110,111,95,111,116,104,101,114,95,114,117,108,101,95,104,97,115,95,116,104,105,115]⟩
abbrev rZ : Rule:=⟨7,nZ,[],0,⟨0,0⟩,⟨0,0⟩⟩
theorem rev_loop (r:Rule)(hr:r.Zones.length≤1000):∀ (k:Nat)(s:List (A10 Range)),k≤r.Zones.length→s.length+k≤1000000→whileG (law14_TableOne_l2 r) (s,(k:Int) - 1)=some (s++(r.Zones.take k).reverse)
 | 0,s,_,_=>by
  rw[qs0]
  have h0:¬ (0:Int)≤((0:Nat):Int) - 1:=by omega
  simp only[law14_TableOne_l2,jk0,decide_eq_false h0,cond_false]
  simp
 | k+1,s,hk,hs=>by
  have hx:r.Zones[k]?=some r.Zones[k]:=by simp[show k<r.Zones.length by omega]
  have ht:r.Zones.take (k+1)=r.Zones.take k++[r.Zones[k]]:=by rw[List.take_add_one,hx];rfl
  rw[qs0,ht]
  generalize r.Zones[k]=x at hx
  have e:((k+1:Nat):Int) - 1=(k:Int):=by omega
  have h0:(0:Int)≤(k:Int):=by omega
  have hap:appG s [x]=some (s++[x]):=qu0 (by simp;omega)
  have hw:io.ar .sub .i64 (k:Int) 1=(k:Int) - 1:=by rw[um0,sn0 (by omega) (by omega)]
  simp only[e,law14_TableOne_l2,jk0,decide_eq_true h0,cond_true,qz0 hx,Option.bind_some,hap,hw]
  rw[rev_loop r hr k (s++[x]) (by omega) (by simp;omega)]
  simp
theorem other_loop (p:Policy)(hp:p.Rules.length≤1000)(up:Bool):whileG (law14_TableOne_l4 p up) 0=some (if p.Rules.any (fun x=>io.seq x.Name nZ) then .inr up else .inl ()) :=
 ni0 (step:=law14_TableOne_l4 p up) p.Rules (fun x=>io.seq x.Name nZ) (.inr up) (.inl ()) (fun k x hx=>by
  have hlt:(k:Int)<p.Rules.length:=by have:=(List.getElem?_eq_some_iff.1 hx).1;omega
  simp only[law14_TableOne_l4,qy0,qj0,hlt,decide_true,cond_true,qz0 hx,Option.bind_some,qe0,za0 (k:=k) (by omega)]
  cases io.seq x.Name nZ<;>rfl) (by simp[law14_TableOne_l4,qy0,qj0])
theorem one_zones {r:Rule}(hv:r.Zones.all zm0=true)(hn:r.Zones.length≤10){c:Nat}(hc:c<10)(at_:Int) :
  ∃ zs:List (A10 Range),
   (bif decide ((0:Int)<((r.Zones.reverse.length:Nat):Int)) then (
     Option.bind (divG 10) fun _ =>
     Option.bind (rixG r.Zones.reverse 0) fun i13 =>
     Option.bind (r.Zones.reverse[i13]?) fun v14 =>
     Option.bind (rixG r.Zones.reverse 0) fun i15 =>
     Option.bind (r.Zones.reverse[i15]?) fun v16 =>
     Option.bind (
      Option.bind (
       Option.bind (pixG 10 (c:Int)) fun i20 =>
       bif decide ((v14.get i20).Lo≤at_) then (
        some (decide (at_<(v14.get i20).Hi))
       ) else (
        some false
       )
       ) fun v19 =>
      bif v19 then (
       Option.bind (
        Option.bind (pixG 10 (c:Int)) fun i22 =>
        some (v14.put i22 (Range.mk (v14.get i22).Lo at_))
        ) fun low21 =>
       Option.bind (pixG 10 (c:Int)) fun i23 =>
       some (low21,(v16.put i23 (Range.mk (IntKind.i64.wrap (at_+1)) (v16.get i23).Hi)))
      ) else (
       some (v14,v16)
      )
      ) fun (low17,high18) =>
     Option.bind (some [high18,low17]) fun l24 =>
     Option.bind (appG r.Zones.reverse l24) fun zones25 =>
     Option.bind (subG zones25 1 ((zones25.length:Nat):Int)) fun l26 =>
     some l26
    ) else (
     some r.Zones.reverse
    ))=some zs∧zs.length≤11∧zs.all zm0=true∧(∀ f,holds (jx0 r zs) f=holds r f) ∧
   (r.Zones=[]∧zs=[]∨zs.length=r.Zones.length+1∧∃ (h:Nat)(zh zl:A10 Range),zs[h]?=some zh∧zs[h+1]?=some zl∧∀ a,a≤10→(∀ b,b<a→b<10→zh.get b=zl.get b)∨∃ i,i<a∧i<10∧(zl.get i).Hi<(zh.get i).Lo):=by
 cases hZ:r.Zones.reverse with
 | nil =>
  have hz:r.Zones=[]:=by simpa using hZ
  refine⟨[],by simp,by simp,by simp,fun f=>?_,.inl ⟨hz,rfl⟩⟩
  unfold holds jx0;rw[hz]
 | cons z T =>
  have hlen:T.length+1=r.Zones.length:=by have:=congrArg List.length hZ;simp at this;omega
  have h0:(0:Int)<(((z::T:List (A10 Range)).length:Nat):Int):=by rw[List.length_cons];omega
  have hdiv:divG (10:Int)=some ():=by unfold divG;rw[if_neg (by decide)]
  have hr0:rixG (z::T) 0=some 0:=by unfold rixG;rw[if_pos ⟨by omega,h0⟩];rfl
  have hg0:(z::T)[0]?=some z:=rfl
  have hzm:∀ y∈r.Zones,zm0 y=true:=List.all_eq_true.1 hv
  have hzr:z∈r.Zones.reverse:=by rw[hZ];simp
  have hzw:=hzm z (by simpa using hzr)
  have hTw:∀ y∈T,zm0 y=true:=fun y hy=>hzm y (by
   have:y∈r.Zones.reverse:=by rw[hZ];simp[hy]
   simpa using this)
  have hlim:=ko0 c
  have hzc:=ym0.1 hzw c hc
  have e3:zq0.lo c=(zj0.get c).Lo:=rfl
  have e4:zq0.hi c=(zj0.get c).Hi:=rfl
  have fin:∀ hi lo:A10 Range,Option.bind (appG (z::T) [hi,lo]) (fun zones25=>Option.bind (subG zones25 1 ((zones25.length:Nat):Int)) fun l26=>some l26)=some (T++[hi,lo]):=fun hi lo=>by
   rw[qu0 (by simp;omega),Option.bind_some]
   unfold subG
   rw[if_pos (by simp;omega),show ((((z::T++[hi,lo]).length:Nat):Int)).toNat=(z::T++[hi,lo]).length by omega,List.take_length]
   rfl
  rw[decide_eq_true h0,cond_true]
  simp only[hdiv,hr0,hg0,Option.bind_some,qn0 hc]
  have good:∀ hi lo:A10 Range,zm0 hi=true→zm0 lo=true→(∀ f,(inZ hi f||inZ lo f)=inZ z f)→(∀ a,a≤10→(∀ b,b<a→b<10→hi.get b=lo.get b)∨∃ i,i<a∧i<10∧(lo.get i).Hi<(hi.get i).Lo) →
    (T++[hi,lo]).length≤11∧(T++[hi,lo]).all zm0=true∧(∀ f,holds (jx0 r (T++[hi,lo])) f=holds r f) ∧
    (r.Zones=[]∧T++[hi,lo]=[]∨(T++[hi,lo]).length=r.Zones.length+1∧∃ (h:Nat)(zh zl:A10 Range),(T++[hi,lo])[h]?=some zh∧(T++[hi,lo])[h+1]?=some zl∧∀ a,a≤10→(∀ b,b<a→b<10→zh.get b=zl.get b)∨∃ i,i<a∧i<10∧(zl.get i).Hi<(zh.get i).Lo):=fun hi lo w1 w2 hin hc =>
   ⟨by simp;omega,by rw[List.all_append,List.all_eq_true.2 hTw];simp[w1,w2],fun f=>holds_withZ hZ (hin f),.inr ⟨by simp;omega,T.length,hi,lo,by simp,by rw[List.getElem?_append_right (by omega)];simp,hc⟩⟩
  by_cases h1:(z.get c).Lo≤at_
  ·rw[decide_eq_true h1,cond_true]
   by_cases h2:at_<(z.get c).Hi
   ·rw[decide_eq_true h2]
    have hw:IntKind.i64.wrap (at_+1)=at_+1:=sn0 (by omega) (by omega)
    simp only[Option.bind_some,cond_true,hw]
    rw[fin]
    refine⟨_,rfl,good _ _ ?_ ?_ (fun f=>inZ_split hc h1 h2 f) fun a ha=>?_⟩
    ·rw[ym0]
     intro i hi
     rw[A10.get_put _ _ _ _ hc hi]
     split
     ·rename_i e;subst e;exact⟨by show (zj0.get i).Lo≤at_+1;omega,by show at_+1≤(z.get i).Hi;omega,hzc.2.2⟩
     ·exact ym0.1 hzw i hi
    ·rw[ym0]
     intro i hi
     rw[A10.get_put _ _ _ _ hc hi]
     split
     ·rename_i e;subst e;exact⟨hzc.1,h1,by show at_≤_;omega⟩
     ·exact ym0.1 hzw i hi
    ·by_cases hca:c<a
     ·refine .inr ⟨c,hca,hc,?_⟩
      rw[A10.get_put _ _ _ _ hc hc,A10.get_put _ _ _ _ hc hc,if_pos rfl,if_pos rfl]
      show at_<at_+1
      omega
     ·refine .inl fun b hb hb'=>?_
      rw[A10.get_put _ _ _ _ hc hb',A10.get_put _ _ _ _ hc hb',if_neg (by omega),if_neg (by omega)]
   ·rw[decide_eq_false h2]
    simp only[Option.bind_some,cond_false]
    rw[fin]
    exact⟨_,rfl,good _ _ hzw hzw (fun f=>Bool.or_self _) fun a _=>.inl fun _ _ _=>rfl⟩
  ·rw[decide_eq_false h1]
   simp only[Option.bind_some,cond_false]
   rw[fin]
   exact⟨_,rfl,good _ _ hzw hzw (fun f=>Bool.or_self _) fun a _=>.inl fun _ _ _=>rfl⟩
theorem TableOne_eq {p:Policy}(hp:LenP p){a b:Int}(ha:0≤a∧a≤255)(hb':0≤b∧b≤255){n:Int}(_hn:-9223372036854775808≤n∧n≤9223372036854775807):law14_TableOne_g p a b n=some true:=by
 obtain⟨bb,hb,hfew⟩:=Few_eq hp
 unfold law14_TableOne_g
 simp only[head_eq,Option.bind_some,hb]
 cases bb with
 | false=>simp only[zd0,Bool.not_false,cond_true,Option.bind_some]
 | true =>
  obtain⟨f1,f2⟩:=hfew rfl
  simp only[zd0,Bool.not_true,cond_false,zl0,qj0,Option.bind_some]
  by_cases hl0:((p.Rules.length:Nat):Int)=0
  ·rw[decide_eq_true hl0,cond_true]
  ·rw[decide_eq_false hl0,cond_false]
   cases hv:zv0 p with
   | false=>simp only[ge0 hv,Option.bind_some];rfl
   | true =>
    have hz10:=pb0 hv ⟨f1,f2⟩
    have G:=PG_few hv hz10
    obtain⟨w,hw,ew⟩:=rem_ok ha (show 0<p.Rules.length by omega)
    obtain⟨c,hc,ec⟩:=rem_ok hb' (show 0<10 by omega)
    have ec':(IntKind.i64.wrap b).tmod 10=(c:Int):=ec
    have hr:p.Rules[w]?=some p.Rules[w]:=by simp[hw]
    generalize p.Rules[w]=r at hr
    have hdiv:divG ((p.Rules.length:Nat):Int)=some ():=by unfold divG;rw[if_neg hl0]
    obtain⟨A,B,za,zb⟩:=zones_one hr r.Zones (x:=rZ) rfl
    have hrl:r.Zones.length≤10:=by
     have:=congrArg List.length za
     simp only[List.length_append] at this
     omega
    have hfa:=jb0 hv hr
    simp only[jo0,Bool.and_eq_true] at hfa
    have hrw:r.Zones.all zm0=true:=hfa.2.2.1
    have hrev:=rev_loop r (by omega) r.Zones.length [] (Nat.le_refl _) (by simp;omega)
    rw[List.take_length,List.nil_append] at hrev
    have hsub:io.ar .sub .i64 ((r.Zones.length:Nat):Int) 1=(r.Zones.length:Int) - 1:=by rw[um0,sn0 (by omega) (by omega)]
    obtain⟨zs,ez,zs1,zs2,zs3,zs4⟩:=one_zones hrw hrl hc n
    simp only[Option.bind_some] at ez
    have a1:appG ([]:List Rule) p.Rules=some p.Rules:=by rw[qu0 (by simp;omega)];rfl
    have hrix:rixG p.Rules (w:Int)=some w:=by unfold rixG;rw[if_pos (by omega)];simp
    have hupd:updG p.Rules w (fun _=>Rule.mk r.Kind r.Name zs r.N r.R r.S)=some (p.Rules.set w (jx0 r zs)):=by unfold updG;rw[hr];rfl
    have a2:appG (p.Rules.set w (jx0 r zs)) [rZ]=some (p.Rules.set w (jx0 r zs)++[rZ]):=qu0 (by simp;omega)
    simp only[kq0 G hv,Option.bind_some,decide_true,Bool.not_true,cond_false,hdiv,io_rem,io_wrap,ew,ec',qz0 hr,hsub,hrev,qy0,jk0,qe0,a1,hrix]
    rw[ez]
    simp only[Option.bind_some,hupd,a2]
    rw[other_loop p (by omega) true]
    cases hnm:p.Rules.any fun x=>io.seq x.Name nZ with
    | true=>rfl
    | false =>
     have hname:∀ y∈p.Rules,y.Name≠rZ.Name:=fun y hy e=>by
      have:=(List.any_eq_false.1 hnm) y hy
      rw[e,io_seq] at this
      simp at this
     have hvq:zv0 ⟨p.Rules.set w (jx0 r zs)++[rZ]⟩=true:=valid_one hr hv f1 (by omega) zs2 rfl (by decide +kernel) hname
     obtain⟨A,B,za,zb⟩:=zones_one hr zs (x:=rZ) rfl
     have hPG:PG ⟨p.Rules.set w (jx0 r zs)++[rZ]⟩:=by
      rcases zs4 with ⟨z0,rfl⟩ | ⟨z1,h,zh,zl,h1,h2,h3⟩
      ·refine PG_few hvq ?_
       rw[zb];rw[za,z0] at hz10;exact hz10
      ·refine PG_two hvq ?_ (h:=A.length+h) (zh:=zh) (zl:=zl) ?_ ?_ h3
       ·rw[zb];rw[za] at hz10
        simp only[List.length_append] at hz10 ⊢
        omega
       ·rw[zb,List.append_assoc,List.getElem?_append_right (by omega),Nat.add_sub_cancel_left,List.getElem?_append_left (List.getElem?_eq_some_iff.1 h1).1];exact h1
       ·rw[zb,List.append_assoc,List.getElem?_append_right (by omega),show A.length+h+1 - A.length=h+1 by omega,List.getElem?_append_left (List.getElem?_eq_some_iff.1 h2).1];exact h2
     have hbt:zy0 ⟨p.Rules.set w (jx0 r zs)++[rZ]⟩=zy0 p:=kc0 (ww0 p).1 fun g hg=>by
      rw[(ww0 p).2 g hg,decS_one hr (zs3 _) rZ rfl]
     obtain⟨n1,n2⟩:=jy0 G
     have hs:=Same_tab (zy0 p) (zy0 p) (vu0 G) n1 (by omega)
     simp only[kq0 hPG hvq,hbt,Bool.false_eq_true,if_false,orR,Option.bind_some,cond_true,decide_true,hs]
end Go.SX.Td
