/- Parts of the proof. -/
import Derived.Test.YtllbabjgpdmblaaGreatDoorZTzL1
import Derived.Deep.CutBlock
set_option linter.unusedSimpArgs false
set_option linter.unusedVariables false
set_option linter.unusedSectionVars false
namespace Go.SX.Td
open Go Go.SX Go.Proofs Go.RowKit Tb
attribute [local go_sem ↓] Go.wp_at_zero Go.wp_at_succ
set_option maxHeartbeats 4000000 in
set_option maxRecDepth 100000 in
theorem py1 {c:Cx}{w0:World}(S:Sat c [] w0){A B:Tab Decision}(hA:A.Ok bn)(hB:B.Ok bn)(dA:∀ n∈A.ns,Bd n)(dB:∀ n∈B.ns,Bd n){nA l1 nB l2:Value}
  (rA:Rep c.F nA (.sl (W bC (A.ns.map bD)))) (sA:Rep c.F l1 (.sl (W bJ A.ls))) (rB:Rep c.F nB (.sl (W bC (B.ns.map bD)))) (sB:Rep c.F l2 (.sl (W bJ B.ls)))
  {Bk:Nat} {bs cs:Nat->Nat} {N M cap:Nat} (eN:A.ns.length=N) (eM:B.ns.length=M) (hN:N<=20000) (hM:M<=20000) {d:Nat}
  (IH:∀ (W:World)(g:Gr)(u v:Nat)(f:aF Int),Below w0.heap.size w0 W->gG w0.heap.size Bk bs cs N M W g->u<N->v<M->10<d+min (aT (A.nd u)) (aT (B.nd v)) ->
   Calls Tryz.prog 26 #[.agg #[nA,l1],.agg #[nB,l2],.int .i64 u,.int .i64 v,fV f,.slice (some ⟨Bk,0,none⟩) N cap] W (Pz w0.heap.size Bk bs cs N M W (oM A B d u v f g)))
  {w:World} {g:Gr} (hw0:Below w0.heap.size w0 w) (hG:gG w0.heap.size Bk bs cs N M w g) {x y:Nat} (hx:x<N) (hy:y<M) (U2:min (aT (A.nd x)) (aT (B.nd y))<10) (tu:10<d+1+min (aT (A.nd x)) (aT (B.nd y))) (f:aF Int) (hd:grd g x y=false) :
  Calls Tryz.prog 26 #[.agg #[nA,l1],.agg #[nB,l2],.int .i64 x,.int .i64 y,fV f,.slice (some ⟨Bk,0,none⟩) N cap] w (Pz w0.heap.size Bk bs cs N M w (oM A B (d+1) x y f g)):=by
 have b1:(0:Int)<=(x:Int):=by omega
 have b2:(x:Int)<(N:Int):=by omega
 have b3:(0:Int)<=(y:Int):=by omega
 have b4:(y:Int)<(M:Int):=by omega
 have xA:A.ns[x]?=some (A.nd x):=by unfold Tab.nd;rw[qI,qD (by omega)];rfl
 have xB:B.ns[y]?=some (B.nd y):=by unfold Tab.nd;rw[qI,qD (by omega)];rfl
 obtain⟨bA,oA,cA,u1,u2,eA,pA,hm,m0,m1,m2,m3⟩:=Yu S.le rA xA;obtain⟨bB,oB,cB,u3,u4,eB,pB,hn,n0,n1,n2,n3⟩:=Yu S.le rB xB;rw[eN] at eA;rw[eM] at eB;subst eA eB;obtain⟨m,em⟩:∃ m,A.nd x=m:=⟨_,rfl⟩;obtain⟨n,en⟩:∃ n,B.nd y=n:=⟨_,rfl⟩;rw[em] at hm m0 m3;rw[en] at hn n0 n3;obtain⟨a1,k1,c1,hu1⟩:=wU hm.cuts;obtain⟨a2,k2,c2,hu2⟩:=wU hm.kids;obtain⟨a3,k3,c3,hu3⟩:=wU hn.cuts;obtain⟨a4,k4,c4,hu4⟩:=wU hn.kids;subst hu1 hu2 hu3 hu4;obtain⟨la,lk,lc,hl1⟩:=wU sA;obtain⟨lb,ll,ld,hl2⟩:=wU sB;subst hl1 hl2;unfold fV fA
 go_enter Tryz.func26,Tryz.ntmps26
 go_upto_region 1 with (fail)
 obtain⟨w1,hw1,hB1,h6,h7,h10,h12⟩:=four (w:=w) #[.slice (some ⟨bA,oA,none⟩) N cA,.slice la lk lc] #[.slice (some ⟨bB,oB,none⟩) M cB,.slice lb ll ld] (fA f) (fA ⟨0,0,0,0,0,0,0,0,0,0⟩) 28 28 32 32;unfold fA at hw1;rw[hw1];clear hw1;have hG1:=hG.below hB1;have g1:=hG1.outer hx;obtain⟨g2,g3⟩:=hG1.inner hx hy;rw[hd] at g2;have hW1:=qc hw0 hB1;have M0:=(hW1.cell (p:=⟨bA,oA+x * 4,none⟩) pA).trans m0;have M1:=(hW1.cell (p:=⟨bA,oA+x * 4+1,none⟩) pA).trans m1;have M2:=(hW1.cell (p:=⟨bA,oA+x * 4+2,none⟩) pA).trans m2;have M3:=(hW1.cell (p:=⟨bA,oA+x * 4+3,none⟩) pA).trans m3;have N0:=(hW1.cell (p:=⟨bB,oB+y * 4,none⟩) pB).trans n0;have N1:=(hW1.cell (p:=⟨bB,oB+y * 4+1,none⟩) pB).trans n1;have N2:=(hW1.cell (p:=⟨bB,oB+y * 4+2,none⟩) pB).trans n2;have N3:=(hW1.cell (p:=⟨bB,oB+y * 4+3,none⟩) pB).trans n3;have e6:=h6.cell 0;have e7:=h7.cell 0;simp only[List.getElem?_toArray,List.getElem?_cons_zero] at e6 e7
 go_upto_region 3 with (fail)
 clear g1 g2 g3
 go_cut [14,15] (fun s14 s15 w2=>∃ b14 b15:Nat,s14=.pointer (some ⟨b14,0,none⟩)/\s15=.pointer (some ⟨b15,0,none⟩)/\b14≠b15/\w1.heap.size<=b14/\w1.heap.size<=b15/\eG w2 b14 (oK m (.slice a1 k1 c1) (.slice a2 k2 c2)) 50/\eG w2 b15 (oK n (.slice a3 k3 c3) (.slice a4 k4 c4)) 50/\Below w1.heap.size w1 w2)
 case first =>
  go_region_held3 (fun w'=>w'.cell? ⟨w.heap.size,0,none⟩=some (.slice (some ⟨bA,oA,none⟩) N cA)/\w'.cell? ⟨w.heap.size+1,0,none⟩=some (.slice (some ⟨bB,oB,none⟩) M cB)/\w'.cell? ⟨bA,oA+x * 4,none⟩=some (.int .i64 (m.attr:Int))/\w'.cell? ⟨bA,oA+x * 4+1,none⟩=some (.slice a1 k1 c1)/\w'.cell? ⟨bA,oA+x * 4+2,none⟩=some (.slice a2 k2 c2)/\w'.cell? ⟨bA,oA+x * 4+3,none⟩=some (.int .i64 (m.leaf:Int)) /\
   w'.cell? ⟨bB,oB+y * 4,none⟩=some (.int .i64 (n.attr:Int))/\w'.cell? ⟨bB,oB+y * 4+1,none⟩=some (.slice a3 k3 c3)/\w'.cell? ⟨bB,oB+y * 4+2,none⟩=some (.slice a4 k4 c4)/\w'.cell? ⟨bB,oB+y * 4+3,none⟩=some (.int .i64 (n.leaf:Int))) (go_keep) (fail)
  all_goals (go_wp2_with fail;go_meet)
  all_goals (first|exact⟨w1.heap.size,w1.heap.size+1,rfl,rfl,by omega,by omega,by omega,(two _ _ _ _ _).1,(two _ _ _ _ _).2.1,(two _ _ _ _ _).2.2⟩|exact⟨w1.heap.size+1,w1.heap.size,rfl,rfl,by omega,by omega,by omega,(two _ _ _ _ _).2.1,(two _ _ _ _ _).1,(two _ _ _ _ _).2.2⟩)
 case rest =>
  obtain⟨w2,rfl⟩:∃ W,W=wc:=⟨wc,rfl⟩;obtain⟨b14,b15,rfl,rfl,U1,Fb,E8,AY,h15,hB2⟩:=hcut;have e14:=AY.cell;have e15:=h15.cell;unfold oK at e14 e15;have hW2:Below w0.heap.size w0 w2:=qc hw0 (qc hB1 hB2);have hL2:zk w0 w Bk bs cs N M b14 b15 #[.slice (some ⟨bA,oA,none⟩) N cA,.slice la lk lc] #[.slice (some ⟨bB,oB,none⟩) M cB,.slice lb ll ld] (fA f) (oK m (.slice a1 k1 c1) (.slice a2 k2 c2)) (oK n (.slice a3 k3 c3) (.slice a4 k4 c4)) w2 g :=
   ⟨hW2,h6.below hB2,h7.below hB2,h10.below hB2,h12.below hB2,AY,h15,(Kp.of hB1).trans (Kp.of hB2),hG1.below hB2,fun j hj=>hG.lt.2 j hj,by have:=hB1.size;omega,by have:=hB1.size;omega⟩
  clear M0 M1 M2 M3 N0 N1 N2 N3 e6 e7 h6 h7 h10 h12 hG1 Fb E8
  go_upto_region 4 with (fail)
  have Ap:=AY.lt;have l15:=h15.lt;have aM:=fun W hW=>YA (w:=W) S hW hm
  have aN:=fun W hW=>YA (w:=W) S hW hn
  obtain⟨k,ek⟩:∃ k,min (aT m) (aT n)=k:=⟨_,rfl⟩
  go_cut [16] (fun s16 wy=>s16=.int .i64 (k:Int)/\Below w2.heap.size w2 wy)
  case first =>
   go_region_held3 (fun w'=>w'.cell? ⟨b14,0,none⟩=some (.int .i64 (m.attr:Int))/\w'.cell? ⟨b14,1,none⟩=some (.slice a1 k1 c1)/\w'.cell? ⟨b14,2,none⟩=some (.slice a2 k2 c2)/\w'.cell? ⟨b14,3,none⟩=some (.int .i64 (m.leaf:Int))/\w'.cell? ⟨b15,0,none⟩=some (.int .i64 (n.attr:Int))/\w'.cell? ⟨b15,1,none⟩=some (.slice a3 k3 c3)/\w'.cell? ⟨b15,2,none⟩=some (.slice a4 k4 c4)/\w'.cell? ⟨b15,3,none⟩=some (.int .i64 (n.leaf:Int)))
    (go_keep) (first|(go_at_call 57;refine(aM _ (by first|exact hW2|exact qj hW2|exact Dy hW2 _|exact IG)).mono ?_;rintro e wp ⟨rfl,hbp⟩;have FH:=eG.below (by first|exact AY|exact AX) hbp;have FD:=eG.below (by first|exact h15|exact AV) hbp;have NK:=FH.cell;have NI:=FD.cell;unfold oK at NK NI;have IG:=qc (by first|exact qj hW2|exact Dy hW2 _|exact UU|exact qj UU) hbp;have UW:=qc (by first|exact qj (Below.refl _ w2)|exact Nc|exact qj Nc) hbp)|(go_at_call 57;refine(aN _ (by first|exact hW2|exact qj hW2|exact Dy hW2 _|exact IG)).mono ?_;rintro e wq ⟨rfl,hbq⟩;have AX:=eG.below (by first|exact AY|exact FH) hbq;have AV:=eG.below (by first|exact h15|exact FD) hbq;have FV:=AX.cell;have FU:=AV.cell;unfold oK at FV FU;have UU:=qc (by first|exact qj hW2|exact Dy hW2 _|exact IG|exact qj IG) hbq;have Nc:=qc (by first|exact qj (Below.refl _ w2)|exact UW|exact qj UW) hbq))
   all_goals (go_wp2_with fail;go_meet;exact⟨(by rw[<- ek];go_num),Nc⟩)
  case rest =>
   obtain⟨w3,rfl⟩:∃ W,W=wc:=⟨wc,rfl⟩;obtain⟨rfl,hB3⟩:=hcut;have hL:=hL2.below hB3;clear hL2 hB3 hW2 AY h15 e14 e15 Ap l15 hB2 hB1 hW1;have hk10:k<=10:=by rw[<- ek,<- em];have:=xG hA (x:=x) (by omega);omega
   rw[em,en,ek] at tu;have h10:¬ k=10:=by rw[<- ek,<- em,<- en];omega
   have hk:k<10:=by omega
   clear h10 hk10
   go_upto_region 9 with (fail)
   have hW3:=hL.bel
   go_cut [17] (fun Rq wx=>wx.ownsRow w3.heap.size 3 1 Rq 1 [.int .i64 (bn.lo k)]/\Below w3.heap.size w3 wx)
   case first =>
    obtain⟨i0,hi,hz0,hz1,hz2⟩:=info_parts info3;have hlim:∀ w1,Below w0.heap.size w0 w1->Calls Tryz.prog 20 #[] w1 fun e w'=>e=.returned (.agg zV)/\Below w1.heap.size w1 w':=fun w1 h=>rx1 S h
    clear ek tu IH hA hB dA dB rA rB sA sB hL m0 m1 m2 m3 n0 n1 n2 n3 hm hn xA xB
    go_wp2_with (first|(rw[nh1 _ hk])|(rw[nf1])|(go_at_call 20;refine(hlim _ hW3).mono ?_;rintro e w4 ⟨rfl,hb4⟩)|(at_builtin;refine wpList_append_own _ rfl _ _ 48 rfl w3.heap.size 3 i0 (.int .i64 0) 1 8 Tryz.underlying48 hi hz0 hz1 hz2 rfl (by decide) _ _ _ rfl (World.ownsRow_nil _ _ _ _) ⟨w4.heap.size,0,none⟩ 1 1 [_] rfl rfl (or1 (ql2 _ _ _)) (kx2 rfl) (by unfold maxLen;omega) (by omega) (gj1 hb4.size) ?_;intro v' w5 hown' hgrow _))
    go_meet
    exact⟨hown',pg0 (hb4.alloc hb4.size _) (gj1 hb4.size) hgrow fun b hb=>(by cases hb)⟩
   case rest =>
    obtain⟨w4,rfl⟩:∃ W,W=wc:=⟨wc,rfl⟩;obtain⟨hrow,hB4⟩:=hcut;have hL4:=hL.below hB4;have Au:=hB4.size;obtain⟨g0,cap0,rfl,-⟩:=row_block hrow (by omega);obtain⟨L1,Vl⟩:∃ L,(bn.lo k::if aT m=k then m.cuts else [])=L:=⟨_,rfl⟩;obtain⟨L2,Vk⟩:∃ L,L1++(if aT n=k then n.cuts else [])=L:=⟨_,rfl⟩;have cm:m.cuts.length<=100000:=(dA m (by rw[<- em];unfold Tab.nd;rw[qI,qD (by omega)];exact zA _)).cuts;have cn:n.cuts.length<=100000:=(dB n (by rw[<- en];unfold Tab.nd;rw[qI,qD (by omega)];exact zA _)).cuts;have hL1:0<L1.length/\L1.length<=100001:=by
     rw[<- Vl];split<;>simp;omega
    have hL2:L2≠[]/\L2.length<=200001:=by
     rw[<- Vk,qN];refine⟨fun e=>?_,by split<;>(try simp only[List.length_nil])<;>omega⟩;have:=congrArg List.length e;rw[qN,List.length_nil] at this;omega
    have e14:=hL4.b14.cell;unfold oK at e14
    go_upto_if 86 with (first|(go_at_call 57;refine(aM _ hL4.bel).mono ?_;rintro e w5 ⟨rfl,hb5⟩))
    go_cut [17] (fun Rq wx=>wx.ownsRow w3.heap.size 3 1 Rq L1.length (L1.map (Value.int .i64))/\Below w3.heap.size w3 wx)
    case first =>
     have uJ:=own_below hrow hb5;have AU:=ta1 hB4 Au hb5;have hL5:=hL4.below hb5;have hsz5:=hb5.size;have NM:=hL5.b14.cell;unfold oK at NM;by_cases hl:aT m=k
     ·have hne:m.cuts≠[]:=by have:=(hA.fine x (by omega));rw[em] at this;exact(this.inner (fun h0=>by unfold aT at hl;rw[if_pos h0] at hl;omega)).2.2.2.1
      obtain⟨bc,oc,cc,ec,-,pc,hc⟩:=ints_at S.le hm.cuts hne;cases ec;obtain⟨i0,hi,hz0,hz1,hz2⟩:=info_parts info3;have hnews:∀ j u,(m.cuts.map (Value.int .i64))[j]?=some u->w5.cell? ((⟨bc,oc,none⟩:Addr).add j)=some u:=fun j u hu=>by
       rw[qF,Option.map_eq_some_iff] at hu;obtain⟨z,hz,rfl⟩:=hu;rw[Addr.add_mid];exact(hL5.bel.cell (p:=⟨bc,oc+j,none⟩) pc).trans (hc j z hz)
      have hone:∀ v∈m.cuts.map (Value.int .i64),v.oneCell'=true:=fun v hv=>by obtain⟨z,_,rfl⟩:=zJ.1 hv;rfl
      have hlen:(m.cuts.map (Value.int .i64)).length=m.cuts.length * 1:=by simp
      have hkk:((aT m:Int) == (k:Int))=true:=by rw[hl];simp
      have hq:(aT m:Int)=(k:Int):=by rw[hl]
      clear ek tu IH
      go_wp2_with (first|(at_builtin;refine wpList_append_own _ rfl _ _ 48 rfl w3.heap.size 3 i0 (.int .i64 0) 1 8 Tryz.underlying48 hi hz0 hz1 hz2 rfl (by decide) _ _ _ rfl uJ ⟨bc,oc,none⟩ m.cuts.length _ _ rfl hlen hnews hone (by unfold maxLen;omega) (by omega) (by omega) ?_;intro v' w6 hown' hgrow _))
      go_meet
      rw[<- Vl,if_pos hl];exact⟨by simpa [Nat.add_comm] using hown',pg0 AU (by omega) hgrow fun b hb=>(uJ.lt b hb).1⟩
     ·have hkk:((aT m:Int) == (k:Int))=false:=by simp;omega
      have hq:¬ (aT m:Int)=(k:Int):=by omega
      clear ek tu IH
      go_wp2_with fail
      go_meet
      rw[<- Vl,if_neg hl];exact⟨by simpa using uJ,AU⟩
    case rest =>
     obtain⟨w7,rfl⟩:∃ W,W=wc:=⟨wc,rfl⟩;clear hrow hB4 hL4 Au e14 hb5;obtain⟨hrow,hB4⟩:=hcut;have hL4:=hL.below hB4;have Au:=hB4.size;obtain⟨g1,cap1,rfl,-⟩:=row_block hrow hL1.1;have e15:=hL4.b15.cell;unfold oK at e15
     go_upto_if 94 with (first|(go_at_call 57;refine(aN _ hL4.bel).mono ?_;rintro e w5 ⟨rfl,hb5⟩))
     go_cut [17] (fun Rq wx=>wx.ownsRow w3.heap.size 3 1 Rq L2.length (L2.map (Value.int .i64))/\Below w3.heap.size w3 wx)
     case first =>
      have uJ:=own_below hrow hb5;have AU:=ta1 hB4 Au hb5;have hL5:=hL4.below hb5;have hsz5:=hb5.size;have NJ:=hL5.b15.cell;unfold oK at NJ;by_cases hl:aT n=k
      ·have hne:n.cuts≠[]:=by have:=(hB.fine y (by omega));rw[en] at this;exact(this.inner (fun h0=>by unfold aT at hl;rw[if_pos h0] at hl;omega)).2.2.2.1
       obtain⟨bc,oc,cc,ec,-,pc,hc⟩:=ints_at S.le hn.cuts hne;cases ec;obtain⟨i0,hi,hz0,hz1,hz2⟩:=info_parts info3;have hnews:∀ j u,(n.cuts.map (Value.int .i64))[j]?=some u->w5.cell? ((⟨bc,oc,none⟩:Addr).add j)=some u:=fun j u hu=>by
        rw[qF,Option.map_eq_some_iff] at hu;obtain⟨z,hz,rfl⟩:=hu;rw[Addr.add_mid];exact(hL5.bel.cell (p:=⟨bc,oc+j,none⟩) pc).trans (hc j z hz)
       have hone:∀ v∈n.cuts.map (Value.int .i64),v.oneCell'=true:=fun v hv=>by obtain⟨z,_,rfl⟩:=zJ.1 hv;rfl
       have hlen:(n.cuts.map (Value.int .i64)).length=n.cuts.length * 1:=by simp
       have hkk:((aT n:Int) == (k:Int))=true:=by rw[hl];simp
       have hq:(aT n:Int)=(k:Int):=by rw[hl]
       clear ek tu IH
       go_wp2_with (first|(at_builtin;refine wpList_append_own _ rfl _ _ 48 rfl w3.heap.size 3 i0 (.int .i64 0) 1 8 Tryz.underlying48 hi hz0 hz1 hz2 rfl (by decide) _ _ _ rfl uJ ⟨bc,oc,none⟩ n.cuts.length _ _ rfl hlen hnews hone (by unfold maxLen;omega) (by omega) (by omega) ?_;intro v' w6 hown' hgrow _))
       go_meet
       rw[<- Vk,if_pos hl];exact⟨by simpa [Nat.add_comm] using hown',pg0 AU (by omega) hgrow fun b hb=>(uJ.lt b hb).1⟩
      ·have hkk:((aT n:Int) == (k:Int))=false:=by simp;omega
       have hq:¬ (aT n:Int)=(k:Int):=by omega
       clear ek tu IH
       go_wp2_with fail
       go_meet
       rw[<- Vk,if_neg hl];exact⟨by simpa using uJ,AU⟩
     case rest =>
      obtain⟨w7,rfl⟩:∃ W,W=wc:=⟨wc,rfl⟩;clear hrow hB4 hL4 Au e15 hb5;obtain⟨hrow,hB4⟩:=hcut;have hL4:=hL.below hB4;have Au:=hB4.size;obtain⟨V,eV⟩:∃ V,lvals A B x y=V:=⟨_,rfl⟩;obtain⟨v1,v2,v3,v4⟩:=la1 hA hB (x:=x) (y:=y) (by omega) (by omega) (by rw[em];exact cm) (by rw[en];exact cn);rw[eV] at v1 v2 v3 v4;rw[em,en,ek] at v1;rw[Vl,Vk] at v1;have hV0:V≠[]:=fun e=>by have:=(v4 _).2 (.inl rfl);rw[e] at this;cases this
      obtain⟨R,eR⟩:∃ R,Ai (oM A B d) A B k x y f V g=R:=⟨_,rfl⟩;have hval:=on1 (A:=A) (B:=B) (d:=d) (f:=f) hd (by rw[em,en,ek]) (by omega) (r:=R) (by rw[eV,eR]);have hst:=yz1 S hL4.bel (n:=w3.heap.size) hW3.size Au hrow hL2.1 v1 hV0;clear v3 v4 eV
      go_wp2_with (first|(go_at_call 58;refine hst.mono ?_;rintro e w8 ⟨bv,ov,cv,rfl,hbv,hbl,hcv,hb8⟩))
      have hL8:=hL4.below hb8;clear hrow hB4 hL4 hst Vl Vk hL1 hL2 v1 g0 cap0 g1 cap1
      go_loopw [18] (fun i wr=>∃ (j:Nat)(g':Gr),i=.int .i64 (j:Int)/\j<=V.length/\zk w0 w Bk bs cs N M b14 b15 #[.slice (some ⟨bA,oA,none⟩) N cA,.slice la lk lc] #[.slice (some ⟨bB,oB,none⟩) M cB,.slice lb ll ld] (fA f) (oK m (.slice a1 k1 c1) (.slice a2 k2 c2)) (oK n (.slice a3 k3 c3) (.slice a4 k4 c4)) wr g' /\
        Ai (oM A B d) A B k x y f (V.drop j) g'=R/\(∀ i z,V[i]?=some z->wr.cell? ⟨bv,ov+i,none⟩=some (.int .i64 z))/\w8.heap.size<=wr.heap.size)
       (fun i _=>V.length - (RowKit.intOf i).toNat)
      case atStart=>exact⟨0,g,rfl,Nat.zero_le _,hL8,by rw[List.drop_zero];exact eR,hcv,qR _⟩
      case round =>
       obtain⟨j,g',rfl,hj,hLr,hR,hcr,hsr⟩:=hrel;clear eR hcv hL8 hb8;by_cases hlt:j<V.length
       ·
        obtain⟨z,hz⟩:∃ z,V[j]?=some z:=⟨_,qD hlt⟩;have hcz:=hcr j z hz;have hdr:V.drop j=z::V.drop (j+1):=by
         rw[List.drop_eq_getElem_cons hlt];congr 1;rw[qD hlt] at hz;exact Option.some.inj hz
        rw[hdr] at hR;simp only[Ai] at hR;have j1:(0:Int)<=(j:Int):=by omega
        have j2:(j:Int)<(V.length:Int):=by omega
        have e14:=hLr.b14.cell;unfold oK at e14
        go_upto_if 112 with (first|(go_at_call 57;refine(aM _ hLr.bel).mono ?_;rintro e w5 ⟨rfl,hb5⟩))
        go_cut [19] (fun s19 wx=>s19=.int .i64 ((fG A k x z:Nat):Int)/\Below wr.heap.size wr wx)
        case first =>
         have MN:bv<w5.heap.size:=by have:=hb5.size;omega
         have hL5:=hLr.below hb5;have MZ:=(hb5.cell (p:=⟨bv,ov+j,none⟩) (by show bv<wr.heap.size;omega)).trans hcz;by_cases hl:aT m=k
         ·have hkk:((aT m:Int) == (k:Int))=true:=by rw[hl];simp
          have hq:(aT m:Int)=(k:Int):=by rw[hl]
          have Dk:Oy (bD m) z=some ((fG A k x z:Nat):Int):=by rw[<- em];exact yk2 hA (by omega) (by rw[em];exact dA m (by rw[<- em];unfold Tab.nd;rw[qI,qD (by omega)];exact zA _)) hk (by rw[em];exact hl) z
          have hcall:∀ w1,Below w0.heap.size w0 w1->Calls Tryz.prog 59 #[.agg #[.int .i64 (m.attr:Int),.slice a1 k1 c1,.slice a2 k2 c2,.int .i64 (m.leaf:Int)],.int .i64 z] w1 fun e w'=>e=.returned (.int .i64 ((fG A k x z:Nat):Int))/\Below w1.heap.size w1 w':=fun w1 h =>
           Sz (us:=[_,_]) (ra0 rfl (bD m) z _ Dk) S h (.cons hm.rel (.cons (.d (.val _ rfl)) .nil))
          have NM:=hL5.b14.cell;unfold oK at NM;have Nb:=hL5.bel;clear tu IH ek hR hval e14
          go_upto_region 21 with (fail)
          go_region_held3 (fun w'=>w'.cell? ⟨b14,0,none⟩=some (.int .i64 (m.attr:Int))/\w'.cell? ⟨b14,1,none⟩=some (.slice a1 k1 c1)/\w'.cell? ⟨b14,2,none⟩=some (.slice a2 k2 c2)/\w'.cell? ⟨b14,3,none⟩=some (.int .i64 (m.leaf:Int))/\w'.cell? ⟨bv,ov+j,none⟩=some (.int .i64 z)) (go_keep) (first|(go_at_call 59;refine(hcall _ (by first|exact Nb|exact qj Nb|exact Dy Nb _)).mono ?_;rintro e wq ⟨rfl,hbq⟩;have AX:=eG.below (by exact hL5.b14) hbq;have FV:=AX.cell;unfold oK at FV;have hczq:=(hbq.cell (p:=⟨bv,ov+j,none⟩) (by exact MN)).trans (by exact MZ);have hBq:=qc (by first|exact qj hb5|exact Dy hb5 _) hbq))
          all_goals (go_wp2_with fail;go_meet;exact⟨rfl,hBq⟩)
         ·have hkk:((aT m:Int) == (k:Int))=false:=by simp;omega
          have hq:¬ (aT m:Int)=(k:Int):=by omega
          clear ek tu IH
          go_wp2_with fail
          go_meet
          exact⟨by rw[bt1 hk (by rw[em];exact hl)],hb5⟩
        case rest =>
         obtain⟨w7,rfl⟩:∃ W,W=wc:=⟨wc,rfl⟩;obtain⟨rfl,hb7⟩:=hcut;have hL7:=hLr.below hb7;clear e14;have e15:=hL7.b15.cell;unfold oK at e15;have hcz7:=(hb7.cell (p:=⟨bv,ov+j,none⟩) (by show bv<wr.heap.size;omega)).trans hcz
         go_upto_if 122 with (first|(go_at_call 57;refine(aN _ hL7.bel).mono ?_;rintro e w5 ⟨rfl,hb5⟩))
         go_cut [20] (fun s20 wx=>s20=.int .i64 ((fG B k y z:Nat):Int)/\Below wr.heap.size wr wx)
         case first =>
          have AU:=qc hb7 hb5;have MN:bv<w5.heap.size:=by have:=AU.size;omega
          have hL5:=hL7.below hb5;have MZ:=(AU.cell (p:=⟨bv,ov+j,none⟩) (by show bv<wr.heap.size;omega)).trans hcz;by_cases hl:aT n=k
          ·have hkk:((aT n:Int) == (k:Int))=true:=by rw[hl];simp
           have hq:(aT n:Int)=(k:Int):=by rw[hl]
           have Dk:Oy (bD n) z=some ((fG B k y z:Nat):Int):=by rw[<- en];exact yk2 hB (by omega) (by rw[en];exact dB n (by rw[<- en];unfold Tab.nd;rw[qI,qD (by omega)];exact zA _)) hk (by rw[en];exact hl) z
           have hcall:∀ w1,Below w0.heap.size w0 w1->Calls Tryz.prog 59 #[.agg #[.int .i64 (n.attr:Int),.slice a3 k3 c3,.slice a4 k4 c4,.int .i64 (n.leaf:Int)],.int .i64 z] w1 fun e w'=>e=.returned (.int .i64 ((fG B k y z:Nat):Int))/\Below w1.heap.size w1 w':=fun w1 h =>
            Sz (us:=[_,_]) (ra0 rfl (bD n) z _ Dk) S h (.cons hn.rel (.cons (.d (.val _ rfl)) .nil))
           have NJ:=hL5.b15.cell;unfold oK at NJ;have Nb:=hL5.bel;clear tu IH ek hR hval e15
           go_upto_region 23 with (fail)
           go_region_held3 (fun w'=>w'.cell? ⟨b15,0,none⟩=some (.int .i64 (n.attr:Int))/\w'.cell? ⟨b15,1,none⟩=some (.slice a3 k3 c3)/\w'.cell? ⟨b15,2,none⟩=some (.slice a4 k4 c4)/\w'.cell? ⟨b15,3,none⟩=some (.int .i64 (n.leaf:Int))/\w'.cell? ⟨bv,ov+j,none⟩=some (.int .i64 z)) (go_keep) (first|(go_at_call 59;refine(hcall _ (by first|exact Nb|exact qj Nb|exact Dy Nb _)).mono ?_;rintro e wq ⟨rfl,hbq⟩;have AV:=eG.below (by exact hL5.b15) hbq;have FU:=AV.cell;unfold oK at FU;have hczq:=(hbq.cell (p:=⟨bv,ov+j,none⟩) (by exact MN)).trans (by exact MZ);have hBq:=qc (by first|exact qj AU|exact Dy AU _) hbq))
           all_goals (go_wp2_with fail;go_meet;exact⟨rfl,hBq⟩)
          ·have hkk:((aT n:Int) == (k:Int))=false:=by simp;omega
           have hq:¬ (aT n:Int)=(k:Int):=by omega
           clear ek tu IH
           go_wp2_with fail
           go_meet
           exact⟨by rw[bt1 hk (by rw[en];exact hl)],AU⟩
         case rest =>
          obtain⟨w10,rfl⟩:∃ W,W=wc:=⟨wc,rfl⟩;obtain⟨rfl,Dl⟩:=hcut;have Nh:=hLr.below Dl;clear e15 hL7 hcz7 hb7;have UL:=(Dl.cell (p:=⟨bv,ov+j,none⟩) (by show bv<wr.heap.size;omega)).trans hcz;have e10:=Nh.b10.cell;unfold fA at e10
          go_upto_region 25 with (fail)
          obtain⟨WE,EM⟩:∃ W,W=w10.alloc (.cells (fA f) 32):=⟨_,rfl⟩;have h21:eG WE w10.heap.size (fA f) 32:=by rw[EM];exact zM _ _
          have Na:Below w10.heap.size w10 WE:=by rw[EM];exact(Below.refl _ _).alloc (qR _) _
          unfold fA at EM;rw[<- EM];clear EM e10;have hL11:=Nh.below Na;have Np:=qc Dl Na;have UK:=(Np.cell (p:=⟨bv,ov+j,none⟩) (by show bv<wr.heap.size;omega)).trans hcz;have kk1:(0:Int)<=(k:Int):=by omega
          have kk2:(k:Int)<10:=by omega
          have h10b:=Dl.size;obtain⟨u21,hu21⟩:∃ u,WE.cell? ⟨w10.heap.size,k,none⟩=some u:=by rw[h21.cell];exact⟨_,Array.getElem?_eq_getElem (show k<10 from hk)⟩
          have z21:=h21.frozen k;clear UL Nh
          go_upto_region 26 with (fail)
          obtain⟨w12,Ir⟩:∃ W,W=WE.setCell ⟨w10.heap.size,k,none⟩ (.int .i64 z):=⟨_,rfl⟩;have h12:eG w12 w10.heap.size (fA (f.put k z)) 32:=by rw[Ir,<- ob1 f hk z];exact h21.set k _
          have Nl:Below wr.heap.size wr w12:=Np.trans (by rw[Ir];exact(kY.set _ _ _ _).below h10b);rw[<- Ir];clear Ir hu21 z21 h21 Np hL11 UK Na;have FB:=hLr.below Nl;have dA1:=TA hA (x:=x) (by omega) (show k<=aT (A.nd x) by rw[em,<- ek];exact Nat.min_le_left _ _) hk z;have dB1:=TA hB (x:=y) (by omega) (show k<=aT (B.nd y) by rw[en,<- ek];exact Nat.min_le_right _ _) hk z;have IH1:=IH w12 g' (fG A k x z) (fG B k y z) (f.put k z) FB.bel FB.gr (by omega) (by omega) (by have:=Nat.le_min.2 ⟨dA1.2,dB1.2⟩;omega);generalize oM A B d (fG A k x z) (fG B k y z) (f.put k z) g'=r at IH1 hR;unfold Pz fV fA at IH1;have hwr:=hLr.kp.size;have hlo:=hLr.lo;have e6:=FB.b6.cell;have e7:=FB.b7.cell;have e21:=h12.cell;unfold fA at e21;clear IH
          go_upto_region 27 with (first|(go_at_call 26;go_loud (refine IH1.mono ?_;rintro e w13 ⟨rfl,IB,hg13⟩;have h13:=eG.kp h12 IB hlo (by omega);have e13:=h13.cell;have z13:=h13.frozen;unfold fA at e13)))
          obtain⟨w14,Ud,AY,MS⟩:=Za h13 r.1;rw[Ud];clear Ud e13 z13 e21 e6 e7;have hL13:=FB.sub IB hg13;have hs12:=Nl.size;have hnv:∀ i,i<N->bv≠bs i:=fun i hi e=>by
           have h1:=hlo i hi;have h2:=(hG.ge.2 i hi).1;have h3:=hL.kp.size;rcases hbv with h|h<;>omega
          have hs13:=IB.size;have wZ:=hL13.in1 MS (by have:=hLr.b12.lt;omega) (by have:=hLr.b14.lt;omega) (by have:=hLr.b15.lt;omega) hG.lt.1 hw0.size;cases hr:r.2.1
          ·rw[if_neg (by rw[hr];simp)] at hR
           go_wp2_with fail
           go_roundw
           case rel=>exact⟨j+1,r.2.2,by go_num,by omega,wZ,hR,fun i q hq=>(by
            have hne:bv≠w10.heap.size:=by omega
            show w14.cell? ⟨bv,ov+i,none⟩=_;rw[eq0 (MS.block bv hne),eq0 (IB.block bv (by omega) (hnv)),eq0 (Nl.block bv (by omega))];exact hcr i q hq),by rw[MS.size];omega⟩
           case measure=>simp[RowKit.intOf];omega
          ·rw[if_pos hr] at hR;subst hR;rw[if_pos hr] at hval;have e21:=AY.cell;have e12:=wZ.b12.cell;have z12:=wZ.b12.frozen;unfold fA at e21 e12
           go_wp2_with fail
           obtain⟨w6,hw6,h2,h3⟩:=ten wZ.b12 r.1;rw[hw6];have e2:=h2.cell;unfold fA at e2;clear e21 e12 z12 hw6;exact bodyPost_ret (v:=.tuple #[fV r.1,.bool true]) (by simp[results,Tryz.results26,go_sem,e2,fV,fA]) rfl ⟨by first|rfl|rw[hr]|rw[hval,hr],wZ.kp.in1 h3 (by omega),by first|exact wZ.gr.in1 h3 (by have:=hG.lt.1;omega) (fun j hj=>by have:=wZ.lo j hj;omega)|(rw[hval];exact wZ.gr.in1 h3 (by have:=hG.lt.1;omega) (fun j hj=>by have:=wZ.lo j hj;omega))⟩
       ·have hje:j=V.length:=by omega
        subst hje;rw[List.drop_length] at hR;simp only[Ai] at hR;subst hR;rw[if_neg (by simp)] at hval;have g1:=hLr.gr.outer hx;obtain⟨g2,g3⟩:=hLr.gr.inner hx hy
        go_upto_region 30 with (fail)
        have J9:=hLr.store hx hy true;obtain⟨w9,Iq⟩:∃ W,W=wr.setCell ⟨bs x,y,none⟩ (.bool true):=⟨_,rfl⟩;rw[<- Iq] at J9 ⊢;clear Iq g1 g2 g3 hLr;have e10:=J9.b10.cell;have e12:=J9.b12.cell;have z12:=J9.b12.frozen;unfold fA at e10 e12
        go_wp2_with fail
        obtain⟨w6,hw6,h2,h3⟩:=ten J9.b12 f;rw[hw6];have e2:=h2.cell;unfold fA at e2;clear e10 e12 z12 hw6;exact bodyPost_ret (v:=.tuple #[fV f,.bool false]) (by simp[results,Tryz.results26,go_sem,e2,fV,fA]) rfl ⟨rfl,J9.kp.in1 h3 (by omega),J9.gr.in1 h3 (by have:=hG.lt.1;omega) (fun j hj=>by have:=J9.lo j hj;omega)⟩
end Go.SX.Td
