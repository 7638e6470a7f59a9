/- Parts of the proof. -/
import Derived.Test.YtllbabjgpdmblaaDoorZTdFew
import Derived.Test.YtllbabjgpdmblaaDoorZTd12d
set_option linter.unusedSimpArgs false
set_option linter.unusedVariables false
set_option linter.unusedSectionVars false
namespace Go.SX.Td
open Go Go.SX Tb
theorem rem_okB {a:Int}(h:0≤a∧a≤255){m:Nat}(hm:0<m):∃ i:Nat,i<m∧(IntKind.i64.wrap a).tmod (m:Int)=(i:Int):=by
 refine⟨(a.tmod m).toNat,?_,?_⟩
 ·have h3:=Int.tmod_lt_of_pos a (show (0:Int)<m by omega)
  have h4:=Int.tmod_nonneg (m:Int) h.1
  omega
 ·have h4:=Int.tmod_nonneg (m:Int) h.1
  rw[sn0 (by omega) (by omega)];omega
theorem kidx_hit : ∀ {C:List Int}{lo hi:Int}{i:Nat},lo≤hi→Asc lo hi C→i≤C.length→∃ v,lo≤v∧v≤hi∧wo0 C v=i
 | C,lo,hi,0,h,ha,_=>⟨lo,Int.le_refl _,h,vq0 C lo hi lo ha (Int.le_refl _)⟩
 | [],_,_,i+1,_,_,hi=>by simp at hi
 | c::C,lo,hi,i+1,h,ha,hl=>by
  obtain⟨h1,h2,h3⟩:=ha
  obtain⟨v,v1,v2,v3⟩:=kidx_hit h2 h3 (i:=i) (by simpa using hl)
  exact⟨v,by omega,v2,by simp only[wo0];rw[if_pos v1,v3]⟩
theorem walk_all {kids:Nat→List Nat}(Pr:Nat→Prop)(hs:∀ z,Pr z→∀ k∈kids z,Pr k):∀ (n x:Nat)(o:List Nat),Pr x→∀ y∈walk kids n x o,y∈o∨Pr y
 | 0,_,_,_,y,hy=>.inl hy
 | n+1,x,o,hx,y,hy=>by
  simp only[walk] at hy
  split at hy
  ·exact .inl hy
  ·have fold:∀ (l o:List Nat),(∀ k∈l,Pr k)→∀ y∈l.foldl (fun o k=>walk kids n k o) o,y∈o∨Pr y:=by
    intro l
    induction l with
    | nil=>exact fun o _ y hy=>.inl hy
    | cons k l ih =>
     intro o hl y hy
     rcases ih (walk kids n k o) (fun k hk=>hl k (List.mem_cons_of_mem _ hk)) y hy with h | h
     ·exact walk_all Pr hs n k o (hl k (by simp)) y h
     ·exact .inr h
   rcases fold (kids x) (o++[x]) (hs x hx) y hy with h | h
   ·rcases List.mem_append.1 h with h | h
    ·exact .inl h
    ·simp only[List.mem_singleton] at h;subst h;exact .inr hx
   ·exact .inr h
theorem reach {t:Tab Decision}(c:t.Canon zq0){y:Nat}(hy:y<t.ns.length):∃ g,zq0.In g∧t.val g 0=t.val g y:=by
 have key:=walk_all (kids:=zu0 t) (fun z=>z<t.ns.length∧∃ g0,zq0.In g0∧∀ g,(∀ j,j<lev (t.nd z)→j<10→g j=g0 j)→t.val g 0=t.val g z) (fun z ⟨hz,g0,h1,h2⟩ k hk=>by
  have hkz:k∈(t.nd z).kids:=hk
  obtain⟨i,hi⟩:=List.getElem?_of_mem hkz
  have hne:(t.nd z).kids≠[]:=List.ne_nil_of_mem hkz
  obtain⟨f1,f2,f3,f4,f5⟩:=(c.ok.fine z hz).inner hne
  obtain⟨k1,k2⟩:=wn0 c.ok hz k hkz
  have hil:=(List.getElem?_eq_some_iff.1 hi).1
  obtain⟨v,v1,v2,v3⟩:=kidx_hit (kj0 _) f5 (i:=i) (by omega)
  have hlev:lev (t.nd z)=(t.nd z).attr:=by unfold lev;rw[if_neg hne]
  refine⟨k1,upd g0 (t.nd z).attr v,upd_in h1 v1 v2,fun g hg=>?_⟩
  have hga:g (t.nd z).attr=v:=by rw[hg _ (by omega) f1];unfold upd;rw[if_pos rfl]
  rw[h2 g (fun j hj hj10=>by rw[hg j (by omega) hj10];unfold upd;rw[if_neg (by omega)]),fj0 c.ok hz hne,hga,v3,List.getD_eq_getElem?_getD,hi]
  rfl) 11 0 [] ⟨c.pos,fun a=>zq0.lo a,fun j _=>⟨Int.le_refl _,kj0 j⟩,fun g _=>rfl⟩ y (by rw[c.walk];exact List.mem_range.2 hy)
 rcases key with h | ⟨_,g0,h1,h2⟩
 ·simp at h
 ·exact⟨g0,h1,h2 g0 fun _ _ _=>rfl⟩
theorem leaf_node {t:Tab Decision}(c:t.Canon zq0){k:Nat}(hk:k<t.ls.length):∃ y,y<t.ns.length∧(t.nd y).kids=[]∧(t.nd y).leaf=k:=by
 have hall:=c.all
 obtain⟨x,h1,h2,h3⟩:=gm0 (fun n:Nd=>n.kids.isEmpty) t.ns k (by rw[← hall];exact hk)
 have e:t.ns[x]=t.nd x:=by unfold Tab.nd;rw[List.getD_eq_getElem?_getD,List.getElem?_eq_getElem h1];rfl
 rw[e] at h2
 have hke:(t.nd x).kids=[]:=by simpa using h2
 exact⟨x,h1,hke,(c.leaf x h1 hke).trans h3⟩
theorem leaf_met {t:Tab Decision}(c:t.Canon zq0){k:Nat}(hk:k<t.ls.length):∃ g,zq0.In g∧t.val g 0=t.ls.getD k default:=by
 obtain⟨y,y1,y2,rfl⟩:=leaf_node c hk
 obtain⟨g,g1,g2⟩:=reach c y1
 exact⟨g,g1,by rw[g2,kt0 y2]⟩
theorem met_leaf {ns:List Nd}{ls:List Decision}(h:(⟨ns,ls⟩:Tab Decision).Ok zq0)(g:Fa):∀ (n x:Nat),x<ns.length→10<n+lev ((⟨ns,ls⟩:Tab Decision).nd x) →
  ∃ j,j<ls.length∧(⟨ns,ls⟩:Tab Decision).ua0 g n x=ls.getD j default∧∀ ls':List Decision,(⟨ns,ls'⟩:Tab Decision).ua0 g n x=ls'.getD j default
 | 0,x,hx,hl=>by have:=ye0 h hx;omega
 | n+1,x,hx,hl=>by
  by_cases hk:((⟨ns,ls⟩:Tab Decision).nd x).kids=[]
  ·refine⟨_,((h.fine x hx).leaf hk).2.2,by simp only[Tab.ua0];rw[if_pos hk],fun ls'=>?_⟩
   have hk':((⟨ns,ls'⟩:Tab Decision).nd x).kids=[]:=hk
   simp only[Tab.ua0];rw[if_pos hk'];rfl
  ·obtain⟨_,hm⟩:=jj0 h hx hk (g ((⟨ns,ls⟩:Tab Decision).nd x).attr)
   obtain⟨k1,k2⟩:=wn0 h hx _ hm
   obtain⟨j,j1,j2,j3⟩:=met_leaf h g n _ k1 (by omega)
   refine⟨j,j1,by simp only[Tab.ua0];rw[if_neg hk];exact j2,fun ls'=>?_⟩
   have hk':¬ ((⟨ns,ls'⟩:Tab Decision).nd x).kids=[]:=hk
   simp only[Tab.ua0];rw[if_neg hk'];exact j3 ls'
theorem met {ns:List Nd}{ls:List Decision}(c:(⟨ns,ls⟩:Tab Decision).Canon zq0)(g:Fa):∃ j,j<ls.length∧(⟨ns,ls⟩:Tab Decision).val g 0=ls.getD j default∧∀ ls':List Decision,(⟨ns,ls'⟩:Tab Decision).val g 0=ls'.getD j default :=
 met_leaf c.ok g 11 0 c.pos (by omega)
theorem nh0 {p:Policy}(hv:zv0 p=true)(f:A10 Int):0≤(kv0 p f).Price:=by
 have hN:∀ r∈p.Rules,r.Kind=3→0≤r.N:=fun r hr hk=>by
  obtain⟨k,hk'⟩:=List.getElem?_of_mem hr
  have:=jb0 hv hk'
  simp only[jo0,Bool.and_eq_true] at this
  have h1:=this.1
  unfold ka0 at h1
  rw[if_neg (by omega),if_pos hk] at h1
  simp only[Bool.and_eq_true,decide_eq_true_eq] at h1
  exact h1.1
 have key:∀ (l:List Rule)(s:JS×Nat),(∀ r∈l,r.Kind=3→0≤r.N)→0≤s.1.price→0≤(l.foldl (stepJ f) s).1.price:=by
  intro l
  induction l with
  | nil=>exact fun s _ h=>h
  | cons r l ih =>
   intro s hl hs
   rw[List.foldl_cons]
   refine ih _ (fun r hr=>hl r (List.mem_cons_of_mem _ hr)) ?_
   have h3:=hl r (by simp)
   unfold stepJ
   simp only
   split
   ·unfold note
    repeat' split
    all_goals first | exact hs | (simp only;exact h3 (by assumption))
   ·exact hs
 exact key p.Rules (J0,0) hN (by decide)
open Classical in
theorem di0 {p:Policy}(hp:LenP p){a:Int}(ha:0≤a∧a≤255)(f:A10 Int):law15_VerifyChanges_g p a f=some true:=by
 obtain⟨bb,hb,hfew⟩:=Few_eq hp
 unfold law15_VerifyChanges_g
 simp only[ku0,Option.bind_some,hb,Within_eq]
 cases bb with
 | false=>simp only[zd0,Bool.not_false,cond_true,Option.bind_some]
 | true =>
  have hf:=hfew rfl
  simp only[zd0,Bool.not_true,cond_false]
  by_cases hin:zq0.In (toF f)
  ·rw[decide_eq_true hin]
   simp only[Option.bind_some,Bool.not_true,cond_false,zl0,qj0]
   cases hv:zv0 p with
   | false=>simp only[ge0 hv,Option.bind_some];rfl
   | true =>
    have G:=PG_few hv (pb0 hv hf)
    obtain⟨n1,n2⟩:=jy0 G
    have hB:=vu0 G
    have c:=(ww0 p).1
    have hval:∀ f:A10 Int,zq0.In (toF f)→(zy0 p).val (toF f) 0=kv0 p f:=fun f h=>by rw[(ww0 p).2 _ h,fx0]
    have hvalg:∀ g:Fa,zq0.In g→(zy0 p).val g 0=kv0 p (toA g):=(ww0 p).2
    rw[kq0 G hv]
    generalize zy0 p=t at c hB n1 n2 hval hvalg
    obtain⟨ns,ls⟩:=t
    have n1:ns.length≤20000:=n1
    have n2:ls.length≤20000:=n2
    have hll:(ze0 ⟨ns,ls⟩).Leaves=ls:=rfl
    have hnn:(ze0 ⟨ns,ls⟩).Nodes=ns.map zz0:=rfl
    have hpos:0<ls.length:=by
     obtain⟨j,j1,-⟩:=met c (fun a=>zq0.lo a)
     omega
    have hl0:¬ ((ls.length:Nat):Int)=0:=by omega
    obtain⟨k,hk,ek⟩:=rem_okB ha hpos
    have hdiv:divG ((ls.length:Nat):Int)=some ():=by unfold divG;rw[if_neg hl0]
    have hx:ls[k]?=some ls[k]:=by simp[hk]
    have hd:ls.getD k default=ls[k]:=by rw[List.getD_eq_getElem?_getD,hx];rfl
    generalize ls[k]=d at hx hd
    obtain⟨d',hd'⟩:∃ d',d'=Decision.mk d.Allowed d.Together d.Single d.Limit (-1) d.Fee d.Tax d.Cap d.Share d.Refund d.By:=⟨_,rfl⟩
    have hdp:d'.Price=-1:=by rw[hd']
    have hprice:∀ j,j<ls.length→0≤(ls.getD j default).Price:=fun j hj=>by
     obtain⟨g,g1,g2⟩:=leaf_met c hj
     have g2':(⟨ns,ls⟩:Tab Decision).val g 0=ls.getD j default:=g2
     rw[← g2',hvalg g g1];exact nh0 hv _
    have hset:∀ j,(ls.set k d').getD j default=if j=k then d' else ls.getD j default:=fun j=>by
     rw[List.getD_eq_getElem?_getD,List.getElem?_set]
     by_cases h:j=k
     ·subst h;simp[hk]
     ·rw[if_neg (Ne.symm h),if_neg h,List.getD_eq_getElem?_getD]
    have c':(⟨ns,ls.set k d'⟩:Tab Decision).Canon zq0:=by
     refine⟨⟨fun x hx=>?_,c.ok.nodup,?_⟩,c.pos,c.walk,c.leaf,?_⟩
     ·have:=c.ok.fine x hx
      exact⟨fun h=>⟨(this.leaf h).1,(this.leaf h).2.1,by rw[List.length_set];exact(this.leaf h).2.2⟩,this.inner,this.kid,this.adj⟩
     ·show (ls.set k d').Nodup
      rw[List.nodup_iff_pairwise_ne,List.pairwise_iff_getElem]
      intro i j hi hj hij he
      rw[List.length_set] at hi hj
      have e1:(ls.set k d').getD i default=(ls.set k d')[i]'(by simpa using hi):=by rw[List.getD_eq_getElem?_getD,List.getElem?_eq_getElem (by simpa using hi)];rfl
      have e2:(ls.set k d').getD j default=(ls.set k d')[j]'(by simpa using hj):=by rw[List.getD_eq_getElem?_getD,List.getElem?_eq_getElem (by simpa using hj)];rfl
      rw[← e1,← e2,hset,hset] at he
      have p1:=hprice i hi
      have p2:=hprice j hj
      split at he
      ·rename_i h1
       rw[if_neg (by omega)] at he
       rw[← he,hdp] at p2;omega
      ·split at he
       ·rw[he,hdp] at p1;omega
       ·have:=getD_inj c.ok.ldup hi hj he
        omega
     ·rw[List.length_set];exact c.all
    have a1:appG ([]:List Decision) ls=some ls:=by rw[qu0 (by simp;omega)];rfl
    have hrix:rixG ls (k:Int)=some k:=by unfold rixG;rw[if_pos (by omega)];simp
    have hupd:updG ls k (fun y10=>Decision.mk y10.Allowed y10.Together y10.Single y10.Limit (-1) y10.Fee y10.Tax y10.Cap y10.Share y10.Refund y10.By)=some (ls.set k d'):=by unfold updG;rw[hx,hd']
    have hB':∀ n∈(⟨ns,ls.set k d'⟩:Tab Decision).ns,Bd n:=hB
    obtain⟨g,b,e1,H⟩:=jt0 G (by omega) (uq0 hv) hv c' hB' n1 (by show (ls.set k d').length≤_;rw[List.length_set];omega)
    have e1':verify_Differ_g p (Table.mk (ns.map zz0) (ls.set k d'))=some (g,b):=e1
    have hsome:b=true:=by
     cases b with
     | true=>rfl
     | false =>
      obtain⟨q,q1,q2⟩:=leaf_met c' (k:=k) (by show k<(ls.set k d').length;rw[List.length_set];exact hk)
      have q3:zq0.In (toF (toA q)):=fun j hj=>by rw[zk0 _ hj,jq0 q j hj];exact q1 j hj
      have q4:=(H.no rfl).2 (toA q) q3
      have q5:(⟨ns,ls.set k d'⟩:Tab Decision).val (toF (toA q)) 0=(⟨ns,ls.set k d'⟩:Tab Decision).val q 0:=val_congr c'.ok 11 0 c'.pos (by omega) fun a _ ha=>by rw[zk0 _ ha,jq0 q a ha]
      have q2':(⟨ns,ls.set k d'⟩:Tab Decision).val q 0=(ls.set k d').getD k default:=q2
      rw[q5,q2',hset,if_pos rfl] at q4
      have:=nh0 hv (toA q)
      rw[q4,hdp] at this;omega
    subst hsome
    obtain⟨h1,h2,h3⟩:=H.yes rfl
    obtain⟨j,j1,j2,j3⟩:=met c (toF g)
    have hjk:j=k:=by
     refine Classical.byContradiction fun hne=>h2 ?_
     rw[j3,hset,if_neg hne,← j2,hval g h1]
    subst hjk
    have L1:table_Lookup_g (ze0 ⟨ns,ls⟩) g=some d:=by rw[ga0 c hB n1 (by show ls.length≤_;omega),j2,hd]
    have L2:table_Lookup_g (Table.mk (ns.map zz0) (ls.set j d')) g=some d':=by
     have:=ga0 c' hB' n1 (by show (ls.set j d').length≤_;rw[List.length_set];omega) g
     rw[j3,hset,if_pos rfl] at this
     exact this
    have gx:idxG (ls.set j d') (j:Int)=some d':=qz0 (by simp[hk])
    obtain⟨bl,e3,hbl⟩:=Less_eq f g
    have L3:=ga0 c hB n1 (by show ls.length≤_;omega) f
    simp only[Option.bind_some,decide_true,Bool.not_true,cond_false,hll,hnn,decide_eq_false hl0,hdiv,a1,io_rem,io_wrap,ek,hrix,hupd,e1',L1,L2,L3,qz0 hx,gx,vc0,cond_true,e3]
    cases bl with
    | false=>rfl
    | true =>
     simp only[Bool.not_true,cond_false]
     have hne:(⟨ns,ls⟩:Tab Decision).val (toF f) 0≠d:=fun e=>by
      obtain⟨i,i1,i2,i3⟩:=met c (toF f)
      rw[i2,← hd] at e
      have hij:=getD_inj c.ok.ldup i1 hk e
      subst hij
      have h4:=h3 f hin (hbl.1 rfl)
      rw[i3,hset,if_pos rfl] at h4
      have:=nh0 hv f
      rw[h4,hdp] at this;omega
     rw[decide_eq_false hne];rfl
  ·rw[decide_eq_false hin]
   simp only[Option.bind_some,Bool.not_false,cond_true]
end Go.SX.Td
