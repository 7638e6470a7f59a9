/- Parts of the proof. -/
import Derived.Test.YtllbabjgpdmblaaGreatDoorZTzP2
import Derived.Test.YtllbabjgpdmblaaGreatDoorZTdP4
import Derived.Test.YtllbabjgpdmblaaGreatDoorZTdV1
import Derived.Test.YtllbabjgpdmblaaGreatDoorZTzP8
import Derived.Test.YtllbabjgpdmblaaGreatDoorZTz13
set_option linter.unusedSimpArgs false
set_option linter.unusedVariables false
set_option linter.unusedSectionVars false
namespace Go.SX.Td
open Go Go.SX Tb
theorem nq0 (p:au){f:aF Int}(h:bn.In (fF f)):(wG p).val (fF f) 0=kX p f:=by
 rw[(Xz p).2 _ h,Ru]
theorem qg2 {p:au}{t:Tab Decision}(ok:VU (wG p) t):yV p t (Gz (wG p) t startA).1 (Gz (wG p) t startA).2:=by
 have hg:GInv (wG p) t (GL (wG p) t):=by
  refine⟨⟨by simp[GL],fun r hr=>by rw[List.eq_of_mem_replicate hr];simp⟩,fun x y hx hy h=>?_⟩;simp[grd,GL,hx,hy] at h
 have L:=yj2 ok.a ok.b ok.bA ok.bB 11 0 0 0 startA (GL (wG p) t) ok.lA.1 ok.lB.1 (Nat.zero_le _) (by omega) (fun j _ hj=>Qn hj) hg;unfold Gz;generalize oM (wG p) t 11 0 0 startA (GL (wG p) t)=r at L;by_cases hr:r.2.1=true
 ·rw[if_pos hr];have F:=L.yes hr;have hin:bn.In (fF r.1):=fun j hj=>F.win j (Nat.zero_le _) hj
  refine⟨fun _=>⟨hin,?_,fun f hf hl=>?_⟩,fun h=>by cases h⟩
  ·have:=F.dif;unfold FM at this
   rwa [nq0 p hin] at this
  ·have:=F.least (fF f) (WH hf) hl;unfold FM at this;rw[nq0 p hf] at this;exact Classical.not_not.1 this
 ·rw[if_neg hr];refine⟨fun h=>(by cases h),fun _=>⟨rfl,fun f hf=>?_⟩⟩;have:=(L.no (by simpa using hr)).2 (fF f) (WH hf);unfold FM at this;rw[nq0 p hf] at this;exact Classical.not_not.1 this
theorem al1 {p:au}(hv:mG p=true)(hz:(dM p).length<=10){t:Tab Decision}(c:t.Canon bn)(hb:∀ n∈t.ns,Bd n)(hN:t.ns.length<=60)(ht:Cm (dZ t)=some true) :
  ∃ g b,H6 p (dZ t)=some (g,b)/\yV p t g b:=by
 have G:=Yi hv hz;have ok:VU (wG p) t:=⟨(Xz p).1.ok,c.ok,td1 G,hb,⟨(Xz p).1.pos,(ow0 G).1⟩,⟨c.pos,by omega⟩⟩;have hex:∃ A B:Tab Decision,Je p=some (dZ A,0)/\dZ t=dZ B/\VU A B:=⟨_,_,yr1 hv hz,rfl,ok⟩;have hR:=qg2 ok;unfold H6;rw[Zx,hv,qC,cond_true,ht,qC,cond_true,dif_pos hex];obtain⟨q1,q2,-⟩:=hex.choose_spec.choose_spec;generalize hex.choose_spec.choose=B at q2;generalize hex.choose=A at q1;rw[yr1 hv hz] at q1;obtain rfl:=ue1 (congrArg Prod.fst (Option.some.inj q1));obtain rfl:=ue1 q2;exact⟨_,_,rfl,hR⟩
theorem tz0 {p:au}{T:Table}(h:mG p=false\/Cm T=some false):H6 p T=some (A0,true):=by
 unfold H6;rw[Zx,qC]
 cases hv:mG p with
 |false=>rfl
 |true =>
  rcases h with h|h
  ·rw[hv] at h;cases h
  ·rw[cond_true,h];rfl
theorem bk0 {p:au}(hp:Xi p){T:Table}(hT:Zc T):V6 p T=some true:=by
 unfold V6;rcases tz1 hp hT with h|⟨h,hf,S⟩
 ·simp only[lt0,h,qC,vX,Bool.not_false,cond_true]
 ·have fin:∀ x:aF Int×Bool,uj p T=some x->H6 p T=some x->(Option.bind (uj p T) fun v3=>Option.bind (H6 p T) fun v4=>bif true then (bif (Ea v3.1 v4.1) then some (io.beq false v3.2 v4.2) else some false) else some false)=some true:=fun x h1 h2=>by
   rw[h1,h2,qC,qC,WY,qM rfl];simp[yw2]
  simp only[lt0,h,qC,vX,Bool.not_true,cond_false];have hvr:=ac1 S;rcases vh1 S with hv|⟨t,rfl,hb,c,e,n1,n2⟩
  ·exact fin (A0,true) (nk0 (.inr hv) ⟨_,hv⟩) (tz0 (.inr (hvr.trans hv)))
  ·cases hvp:mG p with
   |false=>exact fin (A0,true) (nk0 (.inl hvp) ⟨_,e⟩) (tz0 (.inl hvp))
   |true =>
    have hz:=tq1 hvp hf;have G:=Yi hvp hz;obtain⟨g,b,e1,H⟩:=Rn G (by omega) (vq1 hvp) hvp c hb (by omega) (by omega);obtain⟨g',b',e2,H'⟩:=al1 hvp hz c hb n1 (hvr.trans e);obtain⟨rfl,rfl⟩:=H.unique H' fun f _=>rfl
    exact fin _ e1 e2
end Go.SX.Td
