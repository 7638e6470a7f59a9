/- Parts of the proof. -/
import Derived.Test.YtllbabjgpdmblaaGreatDoorZTzP8
import Derived.Test.YtllbabjgpdmblaaGreatDoorZTd49
import Derived.Maps.AppendAt
import Derived.Deep.RegionHeld3
import Derived.Deep.DrawnRows
import Derived.BigQuiet
import Derived.OneCell
import Derived.WalkKit
import Derived.Deep.DeepCutAuto
import Derived.StillTailTactics
import Derived.Deep.MidRow
import Derived.Deep.CutBlock
set_option linter.unusedSimpArgs false
set_option linter.unusedVariables false
set_option linter.unusedSectionVars false
namespace Go.SX.Td
open Go Go.SX Go.Proofs Go.RowKit Tb
theorem Zr {P:Program}{f:FuncId}{ss:List SV}{s:SV}(h:Fn1 P f ss s){c:Cx}{w0 w:World}{us:List Value}(hS:Sat c [] w0)(hb:Below w0.heap.size w0 w)(hr:dP c ss us) :
  Calls P f us.toArray w fun e w'=>∃ v c',e=.returned v/\Rel c' s v/\(∀ b o,c'.F b=some o->w'.heap[b]?=some o)/\Below w.heap.size w w':=by
 have hS':Sat c [] w:=hS.on (.refl c) rfl hS.one (fun b hb'=>hb.block b hb') (fun b o hb'=>by rw[hb.block b (hS.wI hb')];exact hS.le b o hb') (fun b hb'=>.inl hb');refine(h.2 c w us hS' hr).mono ?_;rintro e w' ⟨c',own',sv,u,rfl,h1,h2,h3,h4,rfl⟩;exact⟨u,c',rfl,h1,h2.le,⟨h4.os,h4.tape,h4.output,h4.size,fun b hb'=>h4.keep b hb' (fun ⟨r,x,hx,_⟩=>by cases hx)⟩⟩
theorem Sz {P:Program}{f:FuncId}{ss:List SV}{v:Value}(h:Fn1 P f ss (.d (.val v))){c:Cx}{w0 w:World}{us:List Value}(hS:Sat c [] w0)(hb:Below w0.heap.size w0 w)(hr:dP c ss us) :
  Calls P f us.toArray w fun e w'=>e=.returned v/\Below w.heap.size w w':=by
 refine(Zr h hS hb hr).mono ?_;rintro e w' ⟨u,c',rfl,h1,-,h2⟩;obtain rfl:=h1.gB;exact⟨rfl,h2⟩
def qz3 (N:Nd)(u1 u2:Value):Value:=.agg #[.int .i64 (N.attr:Int),u1,u2,.int .i64 (N.leaf:Int)]
structure xk (F:Fz)(N:Nd)(u1 u2:Value):Prop where
 cuts:Rep F u1 (.sl (W aH N.cuts))
 kids:Rep F u2 (.sl (W aH (ints N.kids)))
theorem xk.rel {c:Cx}{N:Nd}{u1 u2:Value}(h:xk c.F N u1 u2):Rel c (La (bD N)) (qz3 N u1 u2):=by
 refine .agg rfl fun i s u h1 h2=>?_
 have hi:i<4:=(qA.1 h1).1
 match i,hi with
 |0,_=>cases h1;cases h2;exact .d (.val _ rfl)
 |1,_=>cases h1;cases h2;exact .d h.cuts
 |2,_=>cases h1;cases h2;exact .d h.kids
 |3,_=>cases h1;cases h2;exact .d (.val _ rfl)
theorem Yu {F:Fz}{w:World}{v:Value}{l:List Nd}(hF:∀ b o,F b=some o->w.heap[b]?=some o)(h:Rep F v (.sl (W bC (l.map bD)))){x:Nat}{N:Nd}(hx:l[x]?=some N) :
  ∃ b off cap u1 u2,v=.slice (some ⟨b,off,none⟩) l.length cap/\b<w.heap.size/\xk F N u1 u2/\w.cell? ⟨b,off+x * 4,none⟩=some (.int .i64 (N.attr:Int))/\w.cell? ⟨b,off+x * 4+1,none⟩=some u1 /\
   w.cell? ⟨b,off+x * 4+2,none⟩=some u2/\w.cell? ⟨b,off+x * 4+3,none⟩=some (.int .i64 (N.leaf:Int)):=by
 have hi:(W bC (l.map bD))[x]?=some (bC (bD N)):=by rw[og,qF,qF,hx];rfl
 obtain⟨b,off,cap,cs,e,fr,rfl,hb,hc⟩:=h.nj1 hi;have hw:=hF b _ hb;have hl:(bC (bD N)).length=4:=rfl;rw[hl] at hc;have cell:∀ k,w.cell? ⟨b,k,none⟩=cs[k]?:=fun k=>by rw[cell_of_row w b k cs e fr hw]
 obtain⟨v0,c0,r0⟩:=hc 0 _ rfl;obtain⟨v1,c1,r1⟩:=hc 1 _ rfl;obtain⟨v2,c2,r2⟩:=hc 2 _ rfl;obtain⟨v3,c3,r3⟩:=hc 3 _ rfl;obtain⟨rfl,_⟩:=Rep.BD.1 r0;obtain⟨rfl,_⟩:=Rep.BD.1 r3;refine⟨b,off,cap,v1,v2,by rw[rX,qY],(qB.1 hw).1,⟨r1,r2⟩,?_,?_,?_,?_⟩
 ·rw[cell];exact c0
 ·rw[cell];exact c1
 ·rw[cell];exact c2
 ·rw[cell];exact c3
structure gG (n0 Bk:Nat)(bs cs:Nat->Nat)(N M:Nat)(w:World)(g:Gr):Prop where
 ok:Qz N M g
 out:∃ us:Array Value,w.heap[Bk]?=some (.cells us 69 (0,0))/\∀ j,j<N->us[j]?=some (.slice (some ⟨bs j,0,none⟩) M (cs j))
 row:∀ j,j<N->∃ us:Array Value,w.heap[bs j]?=some (.cells us 4 (0,0))/\∀ i,i<M->us[i]?=some (.bool (grd g j i))
 inj:∀ j j',j<N->j'<N->bs j=bs j'->j=j'
 ge:n0<=Bk/\∀ j,j<N->n0<=bs j/\bs j≠Bk
structure Kp (bs:Nat->Nat)(N:Nat)(w w':World):Prop where
 os:w'.os=w.os
 tape:w'.tape=w.tape
 output:w'.output=w.output
 size:w.heap.size<=w'.heap.size
 block:∀ b,b<w.heap.size->(∀ j,j<N->b≠bs j)->w'.heap[b]?=w.heap[b]?
section
variable {n0 Bk:Nat}{bs cs:Nat->Nat}{N M:Nat}{w w':World}{g:Gr}
theorem Kp.of (h:Below w.heap.size w w'):Kp bs N w w':=⟨h.os,h.tape,h.output,h.size,fun b hb _=>h.block b hb⟩
theorem Kp.trans {w2:World}(h:Kp bs N w w')(k:Kp bs N w' w2):Kp bs N w w2 :=
 ⟨k.os.trans h.os,k.tape.trans h.tape,k.output.trans h.output,Nat.le_trans h.size k.size,fun b hb hn=>by rw[k.block b (zL hb h.size) hn,h.block b hb hn]⟩
theorem gG.lt (h:gG n0 Bk bs cs N M w g):Bk<w.heap.size/\∀ j,j<N->bs j<w.heap.size:=by
 obtain⟨us,h1,_⟩:=h.out;refine⟨(qB.1 h1).1,fun j hj=>?_⟩;obtain⟨us,h2,_⟩:=h.row j hj;exact(qB.1 h2).1
theorem gG.on (h:gG n0 Bk bs cs N M w g)(hB:w'.heap[Bk]?=w.heap[Bk]?)(hr:∀ j,j<N->w'.heap[bs j]?=w.heap[bs j]?):gG n0 Bk bs cs N M w' g where
 ok:=h.ok
 out:=by rw[hB];exact h.out
 row j hj:=by rw[hr j hj];exact h.row j hj
 inj:=h.inj
 ge:=h.ge
theorem gG.below (h:gG n0 Bk bs cs N M w g)(hb:Below w.heap.size w w'):gG n0 Bk bs cs N M w' g :=
 h.on (hb.block _ h.lt.1) fun j hj=>hb.block _ (h.lt.2 j hj)
theorem gG.outer (h:gG n0 Bk bs cs N M w g){x:Nat}(hx:x<N):w.cell? ⟨Bk,x,none⟩=some (.slice (some ⟨bs x,0,none⟩) M (cs x)):=by
 obtain⟨us,h1,h2⟩:=h.out;rw[cell_of_row w Bk x us 69 (0,0) h1];exact h2 x hx
theorem gG.inner (h:gG n0 Bk bs cs N M w g){x y:Nat}(hx:x<N)(hy:y<M):w.cell? ⟨bs x,y,none⟩=some (.bool (grd g x y))/\w.frozen? ⟨bs x,y,none⟩=false:=by
 obtain⟨us,h1,h2⟩:=h.row x hx;exact⟨by rw[cell_of_row w (bs x) y us 4 (0,0) h1];exact h2 y hy,frozen_of_row w (bs x) y us 4 h1⟩
theorem gG.store (h:gG n0 Bk bs cs N M w g){x y:Nat}(hx:x<N)(hy:y<M)(b:Bool) :
  gG n0 Bk bs cs N M (w.setCell ⟨bs x,y,none⟩ (.bool b)) (DY g x y b)/\Kp bs N w (w.setCell ⟨bs x,y,none⟩ (.bool b)):=by
 have other:∀ k,k≠bs x->(w.setCell ⟨bs x,y,none⟩ (.bool b)).heap[k]?=w.heap[k]?:=fun k hk=>heap_setCell_other w ⟨bs x,y,none⟩ k _ hk
 refine⟨⟨h.ok.set hx b,?_,fun j hj=>?_,h.inj,h.ge⟩,⟨rfl,rfl,rfl,by simp,fun k _ hk=>other k (hk x hx)⟩⟩
 ·rw[other Bk (fun e=>(h.ge.2 x hx).2 e.symm)];exact h.out
 ·obtain⟨us,h1,h2⟩:=h.row j hj;by_cases hjx:j=x
  ·subst hjx;refine⟨_,heap_setCell_same w (bs j) y us 4 _ h1,fun i hi=>?_⟩;rw[VZ h.ok hx hy b];by_cases hiy:i=y
   ·subst hiy;have:=(qB.1 (h2 i hi)).1;simp[this]
   ·have hne:¬ (j=j/\i=y):=fun e=>hiy e.2
    rw[if_neg hne,Array.getElem?_setIfInBounds_ne (fun e=>hiy e.symm)];exact h2 i hi
  ·rw[other (bs j) (fun e=>hjx (h.inj j x hj hx e))];refine⟨us,h1,fun i hi=>?_⟩;rw[VZ h.ok hx hy b,if_neg (fun e=>hjx e.1)];exact h2 i hi
end
end Go.SX.Td
namespace Go.SX.Td
open Go Go.SX Go.Proofs Go.RowKit Tb
attribute [local go_sem ↓] Go.wp_at_zero Go.wp_at_succ
def fA (f:aF Int):Array Value:=#[.int .i64 f.a0,.int .i64 f.a1,.int .i64 f.a2,.int .i64 f.a3,.int .i64 f.a4,.int .i64 f.a5,.int .i64 f.a6,.int .i64 f.a7,.int .i64 f.a8,.int .i64 f.a9]
def fV (f:aF Int):Value:=.agg (fA f)
def Pz (n0 Bk:Nat)(bs cs:Nat->Nat)(N M:Nat)(w:World)(r:aF Int×Bool×Gr)(e:Ending)(w':World):Prop :=
 e=.returned (.tuple #[fV r.1,.bool r.2.1])/\Kp bs N w w'/\gG n0 Bk bs cs N M w' r.2.2
def eG (w:World)(b:Nat)(us:Array Value)(t:TypeId):Prop:=w.heap[b]?=some (.cells us t (0,0))
theorem eG.cell {w:World}{b:Nat}{us:Array Value}{t:TypeId}(h:eG w b us t)(o:Nat):w.cell? ⟨b,o,none⟩=us[o]?:=cell_of_row w b o us t (0,0) h
theorem eG.frozen {w:World}{b:Nat}{us:Array Value}{t:TypeId}(h:eG w b us t)(o:Nat):w.frozen? ⟨b,o,none⟩=false:=frozen_of_row w b o us t h
theorem eG.below {w w':World}{b:Nat}{us:Array Value}{t:TypeId}(h:eG w b us t)(hb:Below w.heap.size w w'):eG w' b us t:=by
 unfold eG at *;rw[hb.block b (qB.1 h).1];exact h
theorem four {w:World}(A B C D:Array Value)(s t u v:TypeId):∃ w1,(((w.alloc (.cells A s)).alloc (.cells B t)).alloc (.cells C u)).alloc (.cells D v)=w1/\Below w.heap.size w w1/\eG w1 w.heap.size A s/\eG w1 (w.heap.size+1) B t/\eG w1 (w.heap.size+1+1) C u/\eG w1 (w.heap.size+1+1+1) D v:=by
 refine⟨_,rfl,((((Below.refl _ _).alloc (qR _) _).alloc (by simp) _).alloc (by simp;omega) _).alloc (by simp;omega) _,?_,?_,?_,?_⟩
 ·unfold eG;rw[heap_alloc_old _ _ (by simp;omega),heap_alloc_old _ _ (by simp;omega),heap_alloc_old _ _ (by simp)];exact zM w _
 ·unfold eG;rw[heap_alloc_old _ _ (by simp),heap_alloc_old _ _ (by simp)];have:=zM (w.alloc (.cells A s)) (.cells B t);simpa using this
 ·unfold eG;rw[heap_alloc_old _ _ (by simp)];have:=zM ((w.alloc (.cells A s)).alloc (.cells B t)) (.cells C u);simpa using this
 ·unfold eG;have:=zM (((w.alloc (.cells A s)).alloc (.cells B t)).alloc (.cells C u)) (.cells D v);simpa using this
structure kY (b:Nat)(w w':World):Prop where
 os:w'.os=w.os
 tape:w'.tape=w.tape
 output:w'.output=w.output
 size:w'.heap.size=w.heap.size
 block:∀ k,k≠b->w'.heap[k]?=w.heap[k]?
theorem kY.set (w:World)(b i:Nat)(v:Value):kY b w (w.setCell ⟨b,i,none⟩ v):=⟨rfl,rfl,rfl,by simp,fun k hk=>heap_setCell_other w ⟨b,i,none⟩ k v hk⟩
theorem kY.trans {b:Nat}{w w1 w2:World}(h:kY b w w1)(k:kY b w1 w2):kY b w w2 :=
 ⟨k.os.trans h.os,k.tape.trans h.tape,k.output.trans h.output,k.size.trans h.size,fun c hc=>(k.block c hc).trans (h.block c hc)⟩
theorem eG.set {w:World}{b:Nat}{us:Array Value}{t:TypeId}(h:eG w b us t)(i:Nat)(v:Value):eG (w.setCell ⟨b,i,none⟩ v) b (us.setIfInBounds i v) t:=heap_setCell_same w b i us t v h
theorem ten {w:World}{b:Nat}(h:eG w b (fA ⟨0,0,0,0,0,0,0,0,0,0⟩) 32)(f:aF Int):∃ w',((((((((((w.setCell ⟨b,0,none⟩ (.int .i64 f.a0)).setCell ⟨b,1,none⟩ (.int .i64 f.a1)).setCell ⟨b,2,none⟩ (.int .i64 f.a2)).setCell ⟨b,3,none⟩ (.int .i64 f.a3)).setCell ⟨b,4,none⟩ (.int .i64 f.a4)).setCell ⟨b,5,none⟩ (.int .i64 f.a5)).setCell ⟨b,6,none⟩ (.int .i64 f.a6)).setCell ⟨b,7,none⟩ (.int .i64 f.a7)).setCell ⟨b,8,none⟩ (.int .i64 f.a8)).setCell ⟨b,9,none⟩ (.int .i64 f.a9))=w'/\eG w' b (fA f) 32/\kY b w w':=by
 have hb:=(((((((((h.set 0 (.int .i64 f.a0)).set 1 (.int .i64 f.a1)).set 2 (.int .i64 f.a2)).set 3 (.int .i64 f.a3)).set 4 (.int .i64 f.a4)).set 5 (.int .i64 f.a5)).set 6 (.int .i64 f.a6)).set 7 (.int .i64 f.a7)).set 8 (.int .i64 f.a8)).set 9 (.int .i64 f.a9);have hi:=(((((((((kY.set w b 0 (.int .i64 f.a0)).trans (kY.set _ b 1 (.int .i64 f.a1))).trans (kY.set _ b 2 (.int .i64 f.a2))).trans (kY.set _ b 3 (.int .i64 f.a3))).trans (kY.set _ b 4 (.int .i64 f.a4))).trans (kY.set _ b 5 (.int .i64 f.a5))).trans (kY.set _ b 6 (.int .i64 f.a6))).trans (kY.set _ b 7 (.int .i64 f.a7))).trans (kY.set _ b 8 (.int .i64 f.a8))).trans (kY.set _ b 9 (.int .i64 f.a9));refine⟨_,rfl,?_,hi⟩;unfold eG at *;rw[hb];simp[fA]
section
variable {n0 Bk:Nat}{bs cs:Nat->Nat}{N M:Nat}{w w1 w':World}{g:Gr}
theorem gG.in1 (h:gG n0 Bk bs cs N M w g){b:Nat}(k:kY b w w')(h1:b≠Bk)(h2:∀ j,j<N->b≠bs j):gG n0 Bk bs cs N M w' g :=
 h.on (k.block _ (Ne.symm h1)) fun j hj=>k.block _ (Ne.symm (h2 j hj))
theorem Kp.in1 (h:Kp bs N w w1){b:Nat}(k:kY b w1 w')(hb:w.heap.size<=b):Kp bs N w w' :=
 ⟨k.os.trans h.os,k.tape.trans h.tape,k.output.trans h.output,by rw[k.size];exact h.size,fun c hc hn=>by rw[k.block c (by omega),h.block c hc hn]⟩
end
set_option maxHeartbeats 4000000 in
set_option maxRecDepth 100000 in
theorem pb1 {n0 Bk:Nat}{bs cs:Nat->Nat}{N M cap:Nat}{w:World}{g:Gr}(hG:gG n0 Bk bs cs N M w g){x y:Nat}(hx:x<N)(hy:y<M)(hN:N<=20000)(hM:M<=20000)(f:aF Int)(hd:grd g x y=true)
  (n1 n2 l1 l2:Value) (q1:n1.oneCell'=true) (q2:n2.oneCell'=true) (q3:l1.oneCell'=true) (q4:l2.oneCell'=true) :
  Calls Tryz.prog 26 #[.agg #[n1,l1],.agg #[n2,l2],.int .i64 x,.int .i64 y,fV f,.slice (some ⟨Bk,0,none⟩) N cap] w (Pz n0 Bk bs cs N M w (f,false,g)):=by
 have b1:(0:Int)<=(x:Int):=by omega
 have b2:(x:Int)<(N:Int):=by omega
 have b3:(0:Int)<=(y:Int):=by omega
 have b4:(y:Int)<(M:Int):=by omega
 unfold fV fA
 go_enter Tryz.func26,Tryz.ntmps26
 go_upto_region 1 with (fail)
 obtain⟨w1,hw1,hB1,h6,h7,h10,h12⟩:=four (w:=w) #[n1,l1] #[n2,l2] (fA f) (fA ⟨0,0,0,0,0,0,0,0,0,0⟩) 28 28 32 32;unfold fA at hw1;rw[hw1];clear hw1;have hG1:=hG.below hB1;have g1:=hG1.outer hx;obtain⟨g2,g3⟩:=hG1.inner hx hy;rw[hd] at g2;have e10:=h10.cell;have e12:=h12.cell;have z12:=h12.frozen;unfold fA at e10 e12
 go_wp2_with fail
 obtain⟨w2,hw2,h2,hi⟩:=ten h12 f;rw[hw2];have hl:=hG.lt;have e2:=h2.cell;unfold fA at e2;clear e12 z12 e10;exact bodyPost_ret (v:=.tuple #[fV f,.bool false]) (by simp[results,Tryz.results26,go_sem,e2,fV,fA]) rfl ⟨rfl,(Kp.of hB1).in1 hi (by omega),hG1.in1 hi (by omega) (fun j hj=>by have:=hl.2 j hj;omega)⟩
end Go.SX.Td
namespace Go.SX.Td
open Go Go.SX Go.Proofs Go.RowKit Tb
theorem px1 {step:Int->Option (Int ⊕ Int)}(C:List Int)(v:Int)
  (hs:∀ k:Nat,k<C.length->(step k=some (.inl ((k+1:Nat):Int))/\∃ x,C[k]?=some x/\x<=v)\/(step k=some (.inr (k:Int))/\∃ x,C[k]?=some x/\¬ x<=v))
  (he:step C.length=some (.inr (C.length:Int))):∃ r,dw step 0=some r/\r=((iK C v:Nat):Int):=by
 obtain⟨r,h1,h2⟩:=sU (step:=step) (fun (_:Unit) i=>i) C.length
  (fun k _=>iK C v=k+iK (C.drop k) v) (fun r=>r=((iK C v:Nat):Int)) (fun k s hk hI=>by
  rw[List.drop_eq_getElem_cons hk] at hI;simp only[iK] at hI;have hx:C[k]?=some C[k]:=by simp[hk]
  rcases hs k hk with ⟨h1,x,h2,h3⟩|⟨h1,x,h2,h3⟩
  ·rw[hx] at h2;rw[Option.some.inj h2] at hI;rw[if_pos h3] at hI;exact .inl ⟨(),h1,by omega⟩
  ·rw[hx] at h2;rw[Option.some.inj h2] at hI;rw[if_neg h3] at hI;exact .inr ⟨_,h1,by rw[hI];rfl⟩) (fun s hI=>by
  rw[List.drop_length] at hI;simp only[iK] at hI;exact⟨_,he,by rw[hI];rfl⟩) () (by simp)
 exact⟨r,h1,h2⟩
theorem ou1 (n:Nd)(v:Int)(hC:n.cuts.length<=100000):dw (OG (bD n) v) 0=some ((iK n.cuts v:Nat):Int):=by
 have hcu:(bD n).aI=n.cuts:=rfl;obtain⟨r,h1,rfl⟩:=px1 (step:=OG (bD n) v) n.cuts v (fun k hk=>by
  have hx:n.cuts[k]?=some n.cuts[k]:=by simp[hk]
  generalize n.cuts[k]=x at hx;have hlt:(k:Int)<n.cuts.length:=by omega
  simp only[OG,bV,dF,hcu,hlt,decide_true,cond_true,fB hx,qC,nY,iD,gI (k:=k) (by omega)];by_cases h:x<=v
  ·exact .inl ⟨by rw[qM h];rfl,x,hx,h⟩
  ·exact .inr ⟨by rw[qJ h];rfl,x,hx,h⟩) (by
  have hlt:¬ ((n.cuts.length:Int)<n.cuts.length):=by omega
  simp only[OG,bV,dF,hcu,hlt,decide_false,cond_false,qC])
 exact h1
theorem yk2 {t:Tab Decision}(h:t.Ok bn){x:Nat}(hx:x<t.ns.length)(hb:Bd (t.nd x)){k:Nat}(hk:k<10)(hl:aT (t.nd x)=k)(v:Int):Oy (bD (t.nd x)) v=some ((fG t k x v:Nat):Int):=by
 have hkn:(t.nd x).kids≠[]:=fun h0=>by unfold aT at hl;rw[if_pos h0] at hl;omega
 have ha:(t.nd x).attr=k:=by unfold aT at hl;rw[if_neg hkn] at hl;exact hl
 obtain⟨h1,_⟩:=FI h hx hkn v;unfold Oy fG;rw[ou1 _ v hb.cuts,qC,if_pos ⟨hkn,ha⟩];have h2:(bD (t.nd x)).Kids[iK (t.nd x).cuts v]?=some (((t.nd x).kids.getD (iK (t.nd x).cuts v) 0:Nat):Int):=by
  show (ints (t.nd x).kids)[_]?=_;unfold ints;rw[qF,h1];rfl
 rw[fB h2];rfl
theorem bt1 {t:Tab Decision}{x k:Nat}(hk:k<10)(hl:aT (t.nd x)≠k)(v:Int):fG t k x v=x:=by
 unfold fG;rw[if_neg];rintro ⟨h0,h1⟩;exact hl (by unfold aT;rw[if_neg h0];exact h1)
def He (d:Decision):List Value:=[.bool d.Allowed,.bool d.Together,.bool d.Single,.int .i64 d.Limit,.int .i64 d.Price,.int .i64 d.pG.Num,.int .i64 d.pG.Den,.int .i64 d.oQ.Num,.int .i64 d.oQ.Den,.int .i64 d.Cap.Num,.int .i64 d.Cap.Den,.int .i64 d.eF.Num,.int .i64 d.eF.Den,.int .i64 d.dH.Num,.int .i64 d.dH.Den,.int .i64 d.By]
theorem jg1 {F:Fz}{w:World}{v:Value}{l:List Decision}(hF:∀ b o,F b=some o->w.heap[b]?=some o)(h:Rep F v (.sl (W bJ l))){x:Nat}{d:Decision}(hx:l[x]?=some d) :
  ∃ b off cap,v=.slice (some ⟨b,off,none⟩) l.length cap/\b<w.heap.size/\∀ i u,(He d)[i]?=some u->w.cell? ⟨b,off+x * 16+i,none⟩=some u:=by
 have hi:(W bJ l)[x]?=some (bJ d):=by rw[og,qF,hx];rfl
 obtain⟨b,off,cap,cs,e,fr,rfl,hb,hc⟩:=h.nj1 hi;have hw:=hF b _ hb;have hl:(bJ d).length=16:=rfl;rw[hl] at hc;refine⟨b,off,cap,by rw[rX],(qB.1 hw).1,fun i u hu=>?_⟩;have hi:i<16:=(qA.1 hu).1;have he:(bJ d)[i]?=some (.val u):=by
  match i,hi with
  |0,_|1,_|2,_|3,_|4,_|5,_|6,_|7,_|8,_|9,_|10,_|11,_|12,_|13,_|14,_|15,_=>cases hu;rfl
 obtain⟨v0,c0,r0⟩:=hc i _ he;obtain⟨rfl,_⟩:=Rep.BD.1 r0;rw[cell_of_row w b _ cs e fr hw];exact c0
structure zk (w0 w:World)(Bk:Nat)(bs cs:Nat->Nat)(N M Ak Aj:Nat)(A6 A7 aF KF KE:Array Value)(wr:World)(g:Gr):Prop where
 bel:Below w0.heap.size w0 wr
 b6:eG wr w.heap.size A6 28
 b7:eG wr (w.heap.size+1) A7 28
 b10:eG wr (w.heap.size+1+1) aF 32
 b12:eG wr (w.heap.size+1+1+1) (fA ⟨0,0,0,0,0,0,0,0,0,0⟩) 32
 b14:eG wr Ak KF 50
 b15:eG wr Aj KE 50
 kp:Kp bs N w wr
 gr:gG w0.heap.size Bk bs cs N M wr g
 lo:∀ j,j<N->bs j<w.heap.size
 Ap:w.heap.size<=Ak
 l15:w.heap.size<=Aj
section
variable {w0 w:World}{Bk:Nat}{bs cs:Nat->Nat}{N M Ak Aj:Nat}{A6 A7 aF KF KE:Array Value}{wr w':World}{g g':Gr}
theorem eG.lt' {w:World}{b:Nat}{us:Array Value}{t:TypeId}(h:eG w b us t):b<w.heap.size:=(qB.1 h).1
theorem eG.kp {b:Nat}{us:Array Value}{t:TypeId}(h:eG wr b us t)(hk:Kp bs N wr w')(hn:∀ j,j<N->bs j<w.heap.size)(hb:w.heap.size<=b):eG w' b us t:=by
 have hl:=h.lt';unfold eG at *;rw[hk.block b hl (fun j hj e=>by have:=hn j hj;omega)];exact h
theorem zk.sub (h:zk w0 w Bk bs cs N M Ak Aj A6 A7 aF KF KE wr g)(hk:Kp bs N wr w')(hg:gG w0.heap.size Bk bs cs N M w' g'):zk w0 w Bk bs cs N M Ak Aj A6 A7 aF KF KE w' g' where
 bel:=h.bel.trans ⟨hk.os,hk.tape,hk.output,hk.size,fun b hb=>hk.block b (zL hb h.bel.size) fun j hj e=>by have:=(h.gr.ge.2 j hj).1;omega⟩
 b6:=h.b6.kp hk h.lo (qR _)
 b7:=h.b7.kp hk h.lo (by omega)
 b10:=h.b10.kp hk h.lo (by omega)
 b12:=h.b12.kp hk h.lo (by omega)
 b14:=h.b14.kp hk h.lo h.Ap
 b15:=h.b15.kp hk h.lo h.l15
 kp:=h.kp.trans hk
 gr:=hg
 lo:=h.lo
 Ap:=h.Ap
 l15:=h.l15
theorem zk.below (h:zk w0 w Bk bs cs N M Ak Aj A6 A7 aF KF KE wr g)(hb:Below wr.heap.size wr w'):zk w0 w Bk bs cs N M Ak Aj A6 A7 aF KF KE w' g :=
 h.sub (Kp.of hb) (h.gr.below hb)
theorem zk.store (h:zk w0 w Bk bs cs N M Ak Aj A6 A7 aF KF KE wr g){x y:Nat}(hx:x<N)(hy:y<M)(b:Bool):zk w0 w Bk bs cs N M Ak Aj A6 A7 aF KF KE (wr.setCell ⟨bs x,y,none⟩ (.bool b)) (DY g x y b) :=
 h.sub (h.gr.store hx hy b).2 (h.gr.store hx hy b).1
end
theorem ob1 (f:aF Int){k:Nat}(hk:k<10)(v:Int):(fA f).setIfInBounds k (.int .i64 v)=fA (f.put k v):=by
 match k,hk with
 |0,_|1,_|2,_|3,_|4,_|5,_|6,_|7,_|8,_|9,_=>rfl
end Go.SX.Td
namespace Go.SX.Td
open Go Go.SX Go.Proofs Go.RowKit Tb
attribute [local go_sem ↓] Go.wp_at_zero Go.wp_at_succ
theorem vl2 (N:Nd):X8 (bD N)=some (aT N:Int):=by
 unfold X8;simp only[mX,dF];by_cases h:N.kids=[]
 ·have h':(((bD N).Kids.length:Nat):Int)=0:=by simp[bD,ints,h]
  rw[qM h',cond_true];unfold aT;rw[if_pos h];rfl
 ·have h':¬ (((bD N).Kids.length:Nat):Int)=0:=by
   have:N.kids.length≠0:=by simpa using h
   simp[bD,jg];omega
  rw[qJ h',cond_false];unfold aT;rw[if_neg h];rfl
theorem qc {w wr w':World}(h:Below w.heap.size w wr)(h':Below wr.heap.size wr w'):Below w.heap.size w w' :=
 h.trans ⟨h'.os,h'.tape,h'.output,h'.size,fun b hb=>h'.block b (zL hb h.size)⟩
theorem qj {B:Nat}{w w':World}(h:Below B w w'):Below B w w'.drew:=⟨h.os,h.tape,h.output,h.size,h.block⟩
theorem Dy {B:Nat}{w w':World}(h:Below B w w')(k:Nat):Below B w (w'.drewN k):=⟨h.os,h.tape,h.output,h.size,h.block⟩
theorem eG.lt {w:World}{b:Nat}{us:Array Value}{t:TypeId}(h:eG w b us t):b<w.heap.size:=(qB.1 h).1
theorem wU {F:Fz}{u:Value}{es:List (List D)}(h:Rep F u (.sl es)):∃ a k c,u=.slice a k c:=by
 cases h with
 |nil a cap _=>exact⟨_,_,_,rfl⟩
 |sl=>exact⟨_,_,_,rfl⟩
def oK (N:Nd)(u1 u2:Value):Array Value:=#[.int .i64 (N.attr:Int),u1,u2,.int .i64 (N.leaf:Int)]
theorem YA {c:Cx}{w0 w:World}(hS:Sat c [] w0)(hb:Below w0.heap.size w0 w){N:Nd}{u1 u2:Value}(h:xk c.F N u1 u2) :
  Calls Tryz.prog 57 #[.agg #[.int .i64 (N.attr:Int),u1,u2,.int .i64 (N.leaf:Int)]] w fun e w'=>e=.returned (.int .i64 (aT N:Int))/\Below w.heap.size w w' :=
 Sz (us:=[_]) (yl1 rfl (bD N) _ (vl2 N)) hS hb (.cons h.rel .nil)
theorem two (w:World)(A B:Array Value)(s t:TypeId):eG ((w.alloc (.cells A s)).alloc (.cells B t)).drew w.heap.size A s/\eG ((w.alloc (.cells A s)).alloc (.cells B t)).drew (w.heap.size+1) B t/\Below w.heap.size w ((w.alloc (.cells A s)).alloc (.cells B t)).drew:=by
 have hb:Below w.heap.size w ((w.alloc (.cells A s)).alloc (.cells B t)):=((Below.refl _ _).alloc (qR _) _).alloc (by simp) _;refine⟨?_,?_,⟨hb.os,hb.tape,hb.output,hb.size,hb.block⟩⟩
 ·show ((w.alloc (.cells A s)).alloc (.cells B t)).heap[w.heap.size]?=_;rw[heap_alloc_old _ _ (by simp)];exact zM w _
 ·show ((w.alloc (.cells A s)).alloc (.cells B t)).heap[w.heap.size+1]?=_;have:=zM (w.alloc (.cells A s)) (.cells B t);simpa using this
def Z8 : List CK:=[.bool,.bool,.bool,.int,.int,.int,.int,.int,.int,.int,.int,.int,.int,.int,.int,.int]
theorem gl2 (a b:Decision):nZ Z8 (He a) (He b)=some (decide (a=b)):=by
 obtain⟨a1,a2,a3,a4,a5,⟨a6,a7⟩,⟨a8,a9⟩,⟨a10,a11⟩,⟨a12,Aa⟩,⟨AZ,a15⟩,a16⟩:=a;obtain⟨b1,b2,b3,b4,b5,⟨b6,b7⟩,⟨b8,b9⟩,⟨b10,b11⟩,⟨b12,b13⟩,⟨b14,b15⟩,b16⟩:=b;simp only[Z8,He,nZ,yB,if_true,Decision.mk.injEq,Ratio.mk.injEq,zI];rw[Bool.eq_iff_iff];simp[and_assoc]
theorem qy2 {w:World}{o:Oper}{a:Act}{x y:Operand}{p:TypeId}(ho:o.op=.binOp .eql 44 x y p){d e:Decision}(h1:a.eval x=.agg (He d).toArray)(h2:a.eval y=.agg (He e).toArray) :
  (execOp a.eval o).run Tryz.prog w=.ok (.value (.bool (decide (d=e)))) w:=by
 have key:(Op.equal 44 (.agg (He d).toArray) (.agg (He e).toArray)).run Tryz.prog w=.ok (decide (d=e)) w:=mh0 (d:=100) (ks:=Z8) (by decide) (by kernel_rfl) (by kernel_rfl) (gl2 d e);unfold execOp;rw[ho];show (do pure (Next.value (<- (do eqGuard .eql 44 x y (a.eval x) (a.eval y);binOp .eql 44 (a.eval x) (a.eval y):Sem Value))):Sem Next).run Tryz.prog w=_;rw[h1,h2,qG,qG,run_eqGuard_agg w _ 44 x y _ _ (by kernel_rfl)];simp only[binOp,qE,qG,key,Sem.run_pure]
theorem ib1 {w:World}{ops rest:List Oper}{o:Oper}{a:Act}{x y:Operand}{p:TypeId}{Q:Act->Prop}(ho:o.op=.binOp .eql 44 x y p)(hg:o.guard=none){d e:Decision}(h1:a.eval x=.agg (He d).toArray)(h2:a.eval y=.agg (He e).toArray)
  (h:wpStill Tryz.prog ops.toArray w Q rest (a.put o.dst (.bool (decide (d=e))))):wpStill Tryz.prog ops.toArray w Q (o::rest) a:=by
 refine wpStill_step fun K hK=>?_
 have hw:Region.wanted o (yielded ops.toArray a.tmps)=true:=by unfold Region.wanted;rw[hg]
 rw[if_pos hw];unfold Oper.still;rw[qy2 ho h1 h2];exact⟨rfl,hK _ h⟩
def fL (f:aF Int):List Value:=[.int .i64 f.a0,.int .i64 f.a1,.int .i64 f.a2,.int .i64 f.a3,.int .i64 f.a4,.int .i64 f.a5,.int .i64 f.a6,.int .i64 f.a7,.int .i64 f.a8,.int .i64 f.a9]
theorem ZE (f:aF Int):(fL f).length=10:=rfl
theorem yc2 (f:aF Int):∀ v∈fL f,v.oneCell'=true:=fun v hv=>by
 simp only[fL,List.mem_cons,List.not_mem_nil,or_false] at hv;rcases hv with rfl|rfl|rfl|rfl|rfl|rfl|rfl|rfl|rfl|rfl<;>rfl
theorem uv2 : Tryz.prog.underlying 32=some (.array 10 3):=by kernel_rfl
theorem gp2 (f:aF Int):(Tryz.prog.info? 32).map (·.size)=some (fL f).length:=by rw[ZE];kernel_rfl
theorem eG.range {w:World}{b:Nat}{us:Array Value}{t:TypeId}(h:eG w b us t):w.rangeAt b 0 us.toList:=fun j v hv=>by
 rw[Nat.zero_add,h.cell];simpa using hv
theorem eG.there {w:World}{b:Nat}{us:Array Value}{t:TypeId}(h:eG w b us t):w.there b 0 us.size:=fun j hj=>by
 rw[Nat.zero_add,h.cell,h.frozen];exact⟨by simp[hj],rfl⟩
theorem qb3 {w0 w:World}{Bk:Nat}{bs cs:Nat->Nat}{N M Ak Aj:Nat}{X6 X7 YF YE YD:Array Value}{wr:World}{g:Gr}(h:zk w0 w Bk bs cs N M Ak Aj X6 X7 YF YE YD wr g)(hb:Bk<w.heap.size)(f:aF Int) :
  ∃ W,wr.setCells (w.heap.size+1+1+1) 0 (fL f)=W/\eG W (w.heap.size+1+1+1) (fA f) 32/\Kp bs N w W/\gG w0.heap.size Bk bs cs N M W g:=by
 obtain⟨w',h1,h2,h3⟩:=ten h.b12 f;exact⟨w',h1,h2,h.kp.in1 h3 (by omega),h.gr.in1 h3 (by omega) (fun j hj=>by have:=h.lo j hj;omega)⟩
end Go.SX.Td
namespace Go.SX.Td
open Go Go.SX Go.Proofs Go.RowKit Tb
theorem info3 : (Tryz.prog.info? 3).map (fun i=>(i.zero,i.size,i.bytes))=some (some (.int .i64 0),1,8):=by kernel_rfl
theorem or1 {w:World}{b:Nat}{u:Value}(h:w.cell? ⟨b,0,none⟩=some u):∀ j x,[u][j]?=some x->w.cell? ((⟨b,0,none⟩:Addr).add j)=some x
 |0,x,hx=>by cases hx;exact h
 |j+1,x,hx=>by simp at hx
theorem kx2 {u:Value}(h:u.oneCell'=true):∀ x∈[u],x.oneCell'=true:=fun x hx=>by rw[zE.1 hx];exact h
theorem ql2 (w:World)(u:Value)(e:TypeId):(w.alloc (.cells #[u] e)).cell? ⟨w.heap.size,0,none⟩=some u:=cell_of_one (zM w (.cells #[u] e))
theorem gj1 {B:Nat}{w:World}{o:Obj}(h:B<=w.heap.size):B<=(w.alloc o).heap.size:=by simp;omega
theorem pg0 {n:Nat}{w0 w w1:World}{row:Option Nat}(hn:Below n w0 w)(hs:n<=w.heap.size)(hg:w.grownBy w1 row)(hr:∀ b,row=some b->n<=b):Below n w0 w1 :=
 hn.trans ⟨hg.os,hg.tape,hg.output,hg.size,fun b hb=>hg.block b (by omega) fun e=>by have:=hr b e.symm;omega⟩
def Vy (c:Cx)(n:Nat)(w':World):Cx:=⟨c.θ,fun b=>if n<=b then w'.heap[b]? else c.F b,c.N⟩
theorem cj1 {c:Cx}{n:Nat}{w':World}{b:Nat}(h:(Vy c n w').F b≠none):c.F b≠none\/n<=b:=by
 have h:(if n<=b then w'.heap[b]? else c.F b)≠none:=h;split at h
 ·exact .inr (by assumption)
 ·exact .inl h
theorem jl2 {c:Cx}{w0 W:World}(S:Sat c [] w0)(hb:Below w0.heap.size w0 W){n:Nat}(hn:w0.heap.size<=n):Sat (Vy c n W) [] W :=
 S.on ⟨qR _,fun _ _=>rfl,fun b o hb'=>by
  show (if n<=b then W.heap[b]? else c.F b)=some o;rw[if_neg (by have:=S.wI hb';omega)];exact hb'⟩ rfl S.one (fun b hb'=>hb.block b hb') (fun b o hb'=>by
  have hb':(if n<=b then W.heap[b]? else c.F b)=some o:=hb';split at hb'
  ·exact hb'
  ·rw[hb.block b (S.wI hb')];exact S.le b o hb') (fun b hb'=>(cj1 hb').imp id fun h=>by omega)
theorem WT {c:Cx}{n:Nat}{w1:World}{v:Value}{l:List Int}(h:w1.ownsRow n 3 1 v l.length (l.map (Value.int .i64)))(hl:l≠[]):Rep (Vy c n w1).F v (.sl (W aH l)):=by
 obtain⟨e1,e2⟩:=h;rcases e2 with ⟨_,e0⟩|⟨b,cap,cur,rfl,hb,hcur,hcap,_,_,htake⟩
 ·exact absurd (List.eq_nil_of_length_eq_zero e0) hl
 ·have hF:(Vy c n w1).F b=some (.cells cur 3 (0,0)):=by
   show (if n<=b then w1.heap[b]? else c.F b)=_;rw[if_pos hb];exact hcur
  rw[og];have hat:∀ (i:Nat)(ds:List D),(l.map aH)[i]?=some ds->∃ x,l[i]?=some x/\ds=[.val (.int .i64 x)]:=fun i ds hi=>by
   rw[qF,Option.map_eq_some_iff] at hi;obtain⟨x,hx,rfl⟩:=hi;exact⟨x,hx,rfl⟩
  have:=Rep.sl (F:=(Vy c n w1).F) b 0 cap cur 3 (0,0) (l.map aH) 1 (fun i _=>.int .i64 (l.getD i 0)) hF (by simpa using hcap) (fun i ds hi=>by
   obtain⟨x,_,rfl⟩:=hat i ds hi;rfl) (fun i ds j d hi hj=>by
   obtain⟨x,hx,rfl⟩:=hat i ds hi;have hj0:j=0:=by have:=(qA.1 hj).1;simp at this;omega
   subst hj0;have hil:=(qA.1 hx).1;have e3:(cur.toList.take (l.length * 1))[i]?=some (.int .i64 x):=by rw[htake,qF,hx];rfl
   rw[List.getElem?_take_of_lt (by omega)] at e3;have e4:l.getD i 0=x:=by rw[qI,hx];rfl
   rw[e4]
   simpa using e3) (fun i ds j d hi hj=>by
   obtain⟨x,hx,rfl⟩:=hat i ds hi;have hj0:j=0:=by have:=(qA.1 hj).1;simp at this;omega
   subst hj0;cases hj;have e4:l.getD i 0=x:=by rw[qI,hx];rfl
   rw[e4];exact .val _ rfl)
  simpa using this
theorem ints_at {F:Fz}{w:World}{v:Value}{l:List Int}(hF:∀ b o,F b=some o->w.heap[b]?=some o)(h:Rep F v (.sl (W aH l)))(hl:l≠[]) :
  ∃ b off cap,v=.slice (some ⟨b,off,none⟩) l.length cap/\F b≠none/\b<w.heap.size/\∀ j x,l[j]?=some x->w.cell? ⟨b,off+j,none⟩=some (.int .i64 x):=by
 rw[og] at h;generalize hes:l.map aH=es at h;have hne:es≠[]:=by subst hes;simpa using hl
 have hlen:es.length=l.length:=by subst hes;simp
 cases h with
 |nil=>exact absurd rfl hne
 |sl b off cap cs e fr _ sz g hf hcap hsz hc hr =>
  have hw:=hF b _ hf;refine⟨b,off,cap,by rw[hlen],by rw[hf];simp,(qB.1 hw).1,fun j x hx=>?_⟩;have hi:es[j]?=some [.val (.int .i64 x)]:=by subst hes;rw[qF,hx];rfl
  have h1:=hsz j _ hi;simp only[zF] at h1;subst h1;have h2:=hc j _ 0 _ hi rfl;obtain⟨h3,_⟩:=Rep.BD.1 (hr j _ 0 _ hi rfl);rw[h3] at h2;rw[cell_of_row w b _ cs e fr hw]
  simpa using h2
theorem yz1 {c:Cx}{w0 w1:World}(S:Sat c [] w0)(hb:Below w0.heap.size w0 w1){n:Nat}(hn:w0.heap.size<=n)(hn1:n<=w1.heap.size){v:Value}{l r:List Int}(hrow:w1.ownsRow n 3 1 v l.length (l.map (Value.int .i64)))(hl:l≠[])(hg:KJ l=some r)(hr:r≠[]) :
  Calls Tryz.prog 58 #[v] w1 fun e w'=>∃ b off cap,e=.returned (.slice (some ⟨b,off,none⟩) r.length cap)/\(b<w0.heap.size\/n<=b)/\b<w'.heap.size/\(∀ j x,r[j]?=some x->w'.cell? ⟨b,off+j,none⟩=some (.int .i64 x))/\Below w1.heap.size w1 w':=by
 have hS:=jl2 S hb hn;refine((ea0 (P:=Tryz.prog) rfl l r hg).2 _ w1 [v] hS (.cons (.d (WT hrow hl)) .nil)).mono ?_;rintro e w' ⟨c',own',sv,u,rfl,h1,h2,h3,h4,rfl⟩;have h1':Rep c'.F u (.sl (W aH r)):=by cases h1 with|d h=>exact h
 obtain⟨b,off,cap,rfl,k1,k2,k3⟩:=ints_at h2.le h1' hr;refine⟨b,off,cap,rfl,?_,k2,k3,⟨h4.os,h4.tape,h4.output,h4.size,fun b hb'=>h4.keep b hb' (fun ⟨r,x,hx,_⟩=>by cases hx)⟩⟩;rcases h4.newF b k1 with h|h|⟨_,_,hx,_⟩
 ·rcases cj1 h with h|h
  ·cases hq:c.F b with
   |none=>exact absurd hq h
   |some o=>exact .inl (S.wI hq)
  ·exact .inr h
 ·exact .inr (by omega)
 ·cases hx
theorem gn1 {c:Cx}{vs:List Value}{u:Value}(h:Rel c (.agg (vs.map fun v=>.d (.val v))) u):u=.agg vs.toArray:=by
 obtain⟨us,rfl,h1,h2⟩:=Rel.tH.1 h;have:us=vs:=List.ext_getElem? fun i=>by
  rw[qY] at h1;by_cases hi:i<vs.length
  ·have e1:us[i]?=some (us[i]'(by omega)):=qD _;have e2:vs[i]?=some vs[i]:=qD _;have:=h2 i (.d (.val vs[i])) _ (by rw[qF,e2];rfl) e1;rw[e1,e2,this.gB]
  ·rw[qT (by omega),qT (by omega)]
 rw[this]
theorem own_below {w1 w':World}{n e sz k:Nat}{v:Value}{xs:List Value}(h:w1.ownsRow n e sz v k xs)(hb:Below w1.heap.size w1 w'):w'.ownsRow n e sz v k xs :=
 h.kept (row:=none) ⟨hb.os,hb.tape,hb.output,hb.size,fun b hb' _=>hb.block b hb'⟩ (by cases v.ownBlock<;>simp)
theorem ta1 {n:Nat}{w3 w1 w':World}(h:Below n w3 w1)(hn:n<=w1.heap.size)(hb:Below w1.heap.size w1 w'):Below n w3 w' :=
 h.trans ⟨hb.os,hb.tape,hb.output,hb.size,fun b hb'=>hb.block b (by omega)⟩
theorem row_block {w1:World}{n e sz k:Nat}{v:Value}{xs:List Value}(h:w1.ownsRow n e sz v k xs)(hk:0<k):∃ g cap,v=.slice (some ⟨g,0,none⟩) k cap/\n<=g:=by
 rcases h.2 with ⟨_,h0⟩|⟨g,cap,cur,rfl,hb,_⟩
 ·omega
 ·exact⟨g,cap,rfl,hb⟩
def zV : Array Value:=#[.int .i64 (bn.lo 0),.int .i64 (bn.hi 0),.int .i64 (bn.lo 1),.int .i64 (bn.hi 1),.int .i64 (bn.lo 2),.int .i64 (bn.hi 2),.int .i64 (bn.lo 3),.int .i64 (bn.hi 3),.int .i64 (bn.lo 4),.int .i64 (bn.hi 4),.int .i64 (bn.lo 5),.int .i64 (bn.hi 5),.int .i64 (bn.lo 6),.int .i64 (bn.hi 6),.int .i64 (bn.lo 7),.int .i64 (bn.hi 7),.int .i64 (bn.lo 8),.int .i64 (bn.hi 8),.int .i64 (bn.lo 9),.int .i64 (bn.hi 9)]
theorem rx1 {c:Cx}{w0 w1:World}(S:Sat c [] w0)(hb:Below w0.heap.size w0 w1):Calls Tryz.prog 20 #[] w1 fun e w'=>e=.returned (.agg zV)/\Below w1.heap.size w1 w':=by
 refine(Zr (us:=[]) (Jb (P:=Tryz.prog) rfl dW LY) S hb .nil).mono ?_;rintro e w' ⟨u,c',rfl,h1,-,h2⟩;refine⟨?_,h2⟩;rw[gn1 (vs:=zV.toList) h1]
theorem ol2 : Tryz.prog.underlying 54=some (.array 10 52):=by kernel_rfl
set_option maxRecDepth 100000 in
theorem nh1 (w:World){k:Nat}(hk:k<10):(Instr.index 54 (.agg zV) (.int .i64 (k:Int))).run Tryz.prog w=.ok (.agg #[.int .i64 (bn.lo k),.int .i64 (bn.hi k)]) w:=by
 simp only[Instr.index,asIntOf,qG,Sem.run_pure,qE,run_underlying ol2];rw[if_pos (by omega),qG,SX.run_sizeOf (s:=2) (by kernel_rfl),qE];have h:=KR (P:=Tryz.prog) w (t:=52) (d:=100) (off:=k * 2) (ks:=[.int,.int]) (xs:=zV.toList) (by kernel_rfl) (by kernel_rfl) (by kernel_rfl) (by show k * 2+2<=20;omega);rw[show zV.toList.toArray=zV from rfl] at h;rw[Int.toNat_natCast,h];have hv:∀ zs,rV Tryz.prog 52 zs=.agg zs.toArray:=fun zs=>by
  unfold rV;rw[show Tryz.prog.underlying 52=some _ from Tryz.underlying52]
 rw[hv]
 match k,hk with
 |0,_|1,_|2,_|3,_|4,_|5,_|6,_|7,_|8,_|9,_=>rfl
theorem ot2 : ∃ fs f,Tryz.prog.underlying 52=some (.struct fs)/\fs[0]?=some f/\f.type=3/\f.offset=0:=⟨_,_,Tryz.underlying52,rfl,rfl,rfl⟩
theorem nf1 (w:World)(a b:Int):(Instr.field 52 (.agg #[.int .i64 a,.int .i64 b]) 0).run Tryz.prog w=.ok (.int .i64 a) w:=by
 obtain⟨fs,f,h1,h2,h3,h4⟩:=ot2;simp only[Instr.field,qG,run_underlying h1,qE,h2,h3,h4,asAgg,Sem.run_pure];have h:=KR (P:=Tryz.prog) w (t:=3) (d:=100) (off:=0) (ks:=[.int]) (xs:=[.int .i64 a,.int .i64 b]) (by kernel_rfl) (by kernel_rfl) (by kernel_rfl) (by simp);rw[h];unfold rV;rw[show Tryz.prog.underlying 3=some _ from Tryz.underlying3];rfl
theorem Za {w1:World}{b:Nat}{f0:aF Int}(h:eG w1 b (fA f0) 32)(f:aF Int):∃ w',((((((((((w1.setCell ⟨b,0,none⟩ (.int .i64 f.a0)).setCell ⟨b,1,none⟩ (.int .i64 f.a1)).setCell ⟨b,2,none⟩ (.int .i64 f.a2)).setCell ⟨b,3,none⟩ (.int .i64 f.a3)).setCell ⟨b,4,none⟩ (.int .i64 f.a4)).setCell ⟨b,5,none⟩ (.int .i64 f.a5)).setCell ⟨b,6,none⟩ (.int .i64 f.a6)).setCell ⟨b,7,none⟩ (.int .i64 f.a7)).setCell ⟨b,8,none⟩ (.int .i64 f.a8)).setCell ⟨b,9,none⟩ (.int .i64 f.a9))=w'/\eG w' b (fA f) 32/\kY b w1 w':=by
 have hb:=(((((((((h.set 0 (.int .i64 f.a0)).set 1 (.int .i64 f.a1)).set 2 (.int .i64 f.a2)).set 3 (.int .i64 f.a3)).set 4 (.int .i64 f.a4)).set 5 (.int .i64 f.a5)).set 6 (.int .i64 f.a6)).set 7 (.int .i64 f.a7)).set 8 (.int .i64 f.a8)).set 9 (.int .i64 f.a9);have hi:=(((((((((kY.set w1 b 0 (.int .i64 f.a0)).trans (kY.set _ b 1 (.int .i64 f.a1))).trans (kY.set _ b 2 (.int .i64 f.a2))).trans (kY.set _ b 3 (.int .i64 f.a3))).trans (kY.set _ b 4 (.int .i64 f.a4))).trans (kY.set _ b 5 (.int .i64 f.a5))).trans (kY.set _ b 6 (.int .i64 f.a6))).trans (kY.set _ b 7 (.int .i64 f.a7))).trans (kY.set _ b 8 (.int .i64 f.a8))).trans (kY.set _ b 9 (.int .i64 f.a9));refine⟨_,rfl,?_,hi⟩;unfold eG at *;rw[hb];simp[fA]
theorem kY.below {w1 w':World}{b n:Nat}(h:kY b w1 w')(hb:n<=b):Below n w1 w':=⟨h.os,h.tape,h.output,by rw[h.size];exact qR _,fun k hk=>h.block k (by omega)⟩
theorem on1 {A B:Tab Decision}{d x y k:Nat}{f:aF Int}{g:Gr}(hd:grd g x y=false)(hk:min (aT (A.nd x)) (aT (B.nd y))=k)(h10:k≠10){r:aF Int×Bool×Gr}(hr:Ai (oM A B d) A B k x y f (lvals A B x y) g=r) :
  oM A B (d+1) x y f g=if r.2.1=true then r else (f,false,DY r.2.2 x y true):=by
 simp only[oM];rw[if_neg (by rw[hd];simp),hk,if_neg h10,hr]
theorem eq0 {w1 w':World}{b:Nat}(h:w'.heap[b]?=w1.heap[b]?){o:Nat}:w'.cell? ⟨b,o,none⟩=w1.cell? ⟨b,o,none⟩:=by
 simp only[World.cell?,h]
theorem eG.in1 {w1 w':World}{b p:Nat}{us:Array Value}{t:TypeId}(h:eG w1 b us t)(k:kY p w1 w')(hp:b≠p):eG w' b us t:=by
 unfold eG at *;rw[k.block b hp];exact h
theorem zk.in1 {w0 w:World}{Bk:Nat}{bs cs:Nat->Nat}{N M Ak Aj:Nat}{X6 X7 YF YE YD:Array Value}{wr w':World}{g:Gr}(h:zk w0 w Bk bs cs N M Ak Aj X6 X7 YF YE YD wr g){b:Nat}(k:kY b wr w')
  (hb:w.heap.size+1+1+1<b) (h1:Ak≠b) (h2:Aj≠b) (hBk:Bk<w.heap.size) (hw:w0.heap.size<=w.heap.size):zk w0 w Bk bs cs N M Ak Aj X6 X7 YF YE YD w' g where
 bel:=h.bel.trans (k.below (by omega))
 b6:=h.b6.in1 k (by omega)
 b7:=h.b7.in1 k (by omega)
 b10:=h.b10.in1 k (by omega)
 b12:=h.b12.in1 k (by omega)
 b14:=h.b14.in1 k h1
 b15:=h.b15.in1 k h2
 kp:=h.kp.in1 k (by omega)
 gr:=h.gr.in1 k (by omega) (fun j hj=>by have:=h.lo j hj;omega)
 lo:=h.lo
 Ap:=h.Ap
 l15:=h.l15
end Go.SX.Td
namespace Go.SX.Td
open Go Go.SX Go.Proofs Go.RowKit Tb
attribute [local go_sem ↓] Go.wp_at_zero Go.wp_at_succ
set_option maxHeartbeats 4000000 in
set_option maxRecDepth 100000 in
theorem rk1 {c:Cx}{w0:World}(S:Sat c [] w0){A B:Tab Decision}(hA:A.Ok bn)(hB:B.Ok bn)(dA:∀ n∈A.ns,Bd n)(dB:∀ n∈B.ns,Bd n){nA l1 nB l2:Value}
  (rA:Rep c.F nA (.sl (W bC (A.ns.map bD)))) (sA:Rep c.F l1 (.sl (W bJ A.ls))) (rB:Rep c.F nB (.sl (W bC (B.ns.map bD)))) (sB:Rep c.F l2 (.sl (W bJ B.ls)))
  {Bk:Nat} {bs cs:Nat->Nat} {N M cap:Nat} (eN:A.ns.length=N) (eM:B.ns.length=M) (hN:N<=20000) (hM:M<=20000) {d:Nat}
  {w:World} {g:Gr} (hw0:Below w0.heap.size w0 w) (hG:gG w0.heap.size Bk bs cs N M w g) {x y:Nat} (hx:x<N) (hy:y<M) (U2:min (aT (A.nd x)) (aT (B.nd y))=10) (tu:10<d+1+min (aT (A.nd x)) (aT (B.nd y))) (f:aF Int) (hd:grd g x y=false) :
  Calls Tryz.prog 26 #[.agg #[nA,l1],.agg #[nB,l2],.int .i64 x,.int .i64 y,fV f,.slice (some ⟨Bk,0,none⟩) N cap] w (Pz w0.heap.size Bk bs cs N M w (oM A B (d+1) x y f g)):=by
 have b1:(0:Int)<=(x:Int):=by omega
 have b2:(x:Int)<(N:Int):=by omega
 have b3:(0:Int)<=(y:Int):=by omega
 have b4:(y:Int)<(M:Int):=by omega
 have xA:A.ns[x]?=some (A.nd x):=by unfold Tab.nd;rw[qI,qD (by omega)];rfl
 have xB:B.ns[y]?=some (B.nd y):=by unfold Tab.nd;rw[qI,qD (by omega)];rfl
 obtain⟨bA,oA,cA,u1,u2,eA,pA,hm,m0,m1,m2,m3⟩:=Yu S.le rA xA;obtain⟨bB,oB,cB,u3,u4,eB,pB,hn,n0,n1,n2,n3⟩:=Yu S.le rB xB;rw[eN] at eA;rw[eM] at eB;subst eA eB;obtain⟨m,em⟩:∃ m,A.nd x=m:=⟨_,rfl⟩;obtain⟨n,en⟩:∃ n,B.nd y=n:=⟨_,rfl⟩;rw[em] at hm m0 m3;rw[en] at hn n0 n3;obtain⟨a1,k1,c1,hu1⟩:=wU hm.cuts;obtain⟨a2,k2,c2,hu2⟩:=wU hm.kids;obtain⟨a3,k3,c3,hu3⟩:=wU hn.cuts;obtain⟨a4,k4,c4,hu4⟩:=wU hn.kids;subst hu1 hu2 hu3 hu4;obtain⟨la,lk,lc,hl1⟩:=wU sA;obtain⟨lb,ll,ld,hl2⟩:=wU sB;subst hl1 hl2;unfold fV fA
 go_enter Tryz.func26,Tryz.ntmps26
 go_upto_region 1 with (fail)
 obtain⟨w1,hw1,hB1,h6,h7,h10,h12⟩:=four (w:=w) #[.slice (some ⟨bA,oA,none⟩) N cA,.slice la lk lc] #[.slice (some ⟨bB,oB,none⟩) M cB,.slice lb ll ld] (fA f) (fA ⟨0,0,0,0,0,0,0,0,0,0⟩) 28 28 32 32;unfold fA at hw1;rw[hw1];clear hw1;have hG1:=hG.below hB1;have g1:=hG1.outer hx;obtain⟨g2,g3⟩:=hG1.inner hx hy;rw[hd] at g2;have hW1:=qc hw0 hB1;have M0:=(hW1.cell (p:=⟨bA,oA+x * 4,none⟩) pA).trans m0;have M1:=(hW1.cell (p:=⟨bA,oA+x * 4+1,none⟩) pA).trans m1;have M2:=(hW1.cell (p:=⟨bA,oA+x * 4+2,none⟩) pA).trans m2;have M3:=(hW1.cell (p:=⟨bA,oA+x * 4+3,none⟩) pA).trans m3;have N0:=(hW1.cell (p:=⟨bB,oB+y * 4,none⟩) pB).trans n0;have N1:=(hW1.cell (p:=⟨bB,oB+y * 4+1,none⟩) pB).trans n1;have N2:=(hW1.cell (p:=⟨bB,oB+y * 4+2,none⟩) pB).trans n2;have N3:=(hW1.cell (p:=⟨bB,oB+y * 4+3,none⟩) pB).trans n3;have e6:=h6.cell 0;have e7:=h7.cell 0;simp only[List.getElem?_toArray,List.getElem?_cons_zero] at e6 e7
 go_upto_region 3 with (fail)
 clear g1 g2 g3
 go_cut [14,15] (fun s14 s15 w2=>∃ b14 b15:Nat,s14=.pointer (some ⟨b14,0,none⟩)/\s15=.pointer (some ⟨b15,0,none⟩)/\b14≠b15/\w1.heap.size<=b14/\w1.heap.size<=b15/\eG w2 b14 (oK m (.slice a1 k1 c1) (.slice a2 k2 c2)) 50/\eG w2 b15 (oK n (.slice a3 k3 c3) (.slice a4 k4 c4)) 50/\Below w1.heap.size w1 w2)
 case first =>
  go_region_held3 (fun w'=>w'.cell? ⟨w.heap.size,0,none⟩=some (.slice (some ⟨bA,oA,none⟩) N cA)/\w'.cell? ⟨w.heap.size+1,0,none⟩=some (.slice (some ⟨bB,oB,none⟩) M cB)/\w'.cell? ⟨bA,oA+x * 4,none⟩=some (.int .i64 (m.attr:Int))/\w'.cell? ⟨bA,oA+x * 4+1,none⟩=some (.slice a1 k1 c1)/\w'.cell? ⟨bA,oA+x * 4+2,none⟩=some (.slice a2 k2 c2)/\w'.cell? ⟨bA,oA+x * 4+3,none⟩=some (.int .i64 (m.leaf:Int)) /\
   w'.cell? ⟨bB,oB+y * 4,none⟩=some (.int .i64 (n.attr:Int))/\w'.cell? ⟨bB,oB+y * 4+1,none⟩=some (.slice a3 k3 c3)/\w'.cell? ⟨bB,oB+y * 4+2,none⟩=some (.slice a4 k4 c4)/\w'.cell? ⟨bB,oB+y * 4+3,none⟩=some (.int .i64 (n.leaf:Int))) (go_keep) (fail)
  all_goals (go_wp2_with fail;go_meet)
  all_goals (first|exact⟨w1.heap.size,w1.heap.size+1,rfl,rfl,by omega,by omega,by omega,(two _ _ _ _ _).1,(two _ _ _ _ _).2.1,(two _ _ _ _ _).2.2⟩|exact⟨w1.heap.size+1,w1.heap.size,rfl,rfl,by omega,by omega,by omega,(two _ _ _ _ _).2.1,(two _ _ _ _ _).1,(two _ _ _ _ _).2.2⟩)
 case rest =>
  obtain⟨w2,rfl⟩:∃ W,W=wc:=⟨wc,rfl⟩;obtain⟨b14,b15,rfl,rfl,U1,Fb,E8,AY,h15,hB2⟩:=hcut;have e14:=AY.cell;have e15:=h15.cell;unfold oK at e14 e15;have hW2:Below w0.heap.size w0 w2:=qc hw0 (qc hB1 hB2);have hL2:zk w0 w Bk bs cs N M b14 b15 #[.slice (some ⟨bA,oA,none⟩) N cA,.slice la lk lc] #[.slice (some ⟨bB,oB,none⟩) M cB,.slice lb ll ld] (fA f) (oK m (.slice a1 k1 c1) (.slice a2 k2 c2)) (oK n (.slice a3 k3 c3) (.slice a4 k4 c4)) w2 g :=
   ⟨hW2,h6.below hB2,h7.below hB2,h10.below hB2,h12.below hB2,AY,h15,(Kp.of hB1).trans (Kp.of hB2),hG1.below hB2,fun j hj=>hG.lt.2 j hj,by have:=hB1.size;omega,by have:=hB1.size;omega⟩
  clear M0 M1 M2 M3 N0 N1 N2 N3 e6 e7 h6 h7 h10 h12 hG1 Fb E8
  go_upto_region 4 with (fail)
  have Ap:=AY.lt;have l15:=h15.lt;have aM:=fun W hW=>YA (w:=W) S hW hm
  have aN:=fun W hW=>YA (w:=W) S hW hn
  obtain⟨k,ek⟩:∃ k,min (aT m) (aT n)=k:=⟨_,rfl⟩
  go_cut [16] (fun s16 wy=>s16=.int .i64 (k:Int)/\Below w2.heap.size w2 wy)
  case first =>
   go_region_held3 (fun w'=>w'.cell? ⟨b14,0,none⟩=some (.int .i64 (m.attr:Int))/\w'.cell? ⟨b14,1,none⟩=some (.slice a1 k1 c1)/\w'.cell? ⟨b14,2,none⟩=some (.slice a2 k2 c2)/\w'.cell? ⟨b14,3,none⟩=some (.int .i64 (m.leaf:Int))/\w'.cell? ⟨b15,0,none⟩=some (.int .i64 (n.attr:Int))/\w'.cell? ⟨b15,1,none⟩=some (.slice a3 k3 c3)/\w'.cell? ⟨b15,2,none⟩=some (.slice a4 k4 c4)/\w'.cell? ⟨b15,3,none⟩=some (.int .i64 (n.leaf:Int)))
    (go_keep) (first|(go_at_call 57;refine(aM _ (by first|exact hW2|exact qj hW2|exact Dy hW2 _|exact IG)).mono ?_;rintro e wp ⟨rfl,hbp⟩;have FH:=eG.below (by first|exact AY|exact AX) hbp;have FD:=eG.below (by first|exact h15|exact AV) hbp;have NK:=FH.cell;have NI:=FD.cell;unfold oK at NK NI;have IG:=qc (by first|exact qj hW2|exact Dy hW2 _|exact UU|exact qj UU) hbp;have UW:=qc (by first|exact qj (Below.refl _ w2)|exact Nc|exact qj Nc) hbp)|(go_at_call 57;refine(aN _ (by first|exact hW2|exact qj hW2|exact Dy hW2 _|exact IG)).mono ?_;rintro e wq ⟨rfl,hbq⟩;have AX:=eG.below (by first|exact AY|exact FH) hbq;have AV:=eG.below (by first|exact h15|exact FD) hbq;have FV:=AX.cell;have FU:=AV.cell;unfold oK at FV FU;have UU:=qc (by first|exact qj hW2|exact Dy hW2 _|exact IG|exact qj IG) hbq;have Nc:=qc (by first|exact qj (Below.refl _ w2)|exact UW|exact qj UW) hbq))
   all_goals (go_wp2_with fail;go_meet;exact⟨(by rw[<- ek];go_num),Nc⟩)
  case rest =>
   obtain⟨w3,rfl⟩:∃ W,W=wc:=⟨wc,rfl⟩;obtain⟨rfl,hB3⟩:=hcut;have hL:=hL2.below hB3;clear hL2 hB3 hW2 AY h15 e14 e15 Ap l15 hB2 hB1 hW1;have hk10:k<=10:=by rw[<- ek,<- em];have:=xG hA (x:=x) (by omega);omega
   rw[em,en,ek] at tu;have h10:k=10:=by rw[<- ek,<- em,<- en];exact U2
   have kx:=OQ hA (x:=x) (by omega) (by rw[em];omega);have ky:=OQ hB (x:=y) (by omega) (by rw[en];omega);obtain⟨-,-,lx⟩:=(hA.fine x (by omega)).leaf kx;obtain⟨-,-,ly⟩:=(hB.fine y (by omega)).leaf ky;rw[em] at lx;rw[en] at ly;have dx:A.ls[m.leaf]?=some (A.ls.getD m.leaf default):=by rw[qI,qD lx];rfl
   have dy:B.ls[n.leaf]?=some (B.ls.getD n.leaf default):=by rw[qI,qD ly];rfl
   have hval:oM A B (d+1) x y f g=(f,!decide (A.ls.getD m.leaf default=B.ls.getD n.leaf default),DY g x y (decide (A.ls.getD m.leaf default=B.ls.getD n.leaf default))):=by
    simp only[oM];rw[if_neg (by rw[hd];simp),em,en,if_pos (by omega)]
   generalize A.ls.getD m.leaf default=ka at dx hval;generalize B.ls.getD n.leaf default=kb at dy hval;obtain⟨bla,yu,cla,ea,ha⟩:=jg1 S.le sA dx;obtain⟨xW,yt,clb,eb,hb⟩:=jg1 S.le sB dy;cases ea;cases eb;have ek0:(k:Int)=10:=by omega
   rw[ek0];have zU:bla<w0.heap.size:=ha.1;have plb:xW<w0.heap.size:=hb.1
   replace ha:=ha.2
   replace hb:=hb.2
   go_upto_region 6 with (fail)
   go_cut [66] (fun s66 wx=>zk w0 w Bk bs cs N M b14 b15 #[.slice (some ⟨bA,oA,none⟩) N cA,.slice (some ⟨bla,yu,none⟩) A.ls.length lc] #[.slice (some ⟨bB,oB,none⟩) M cB,.slice (some ⟨xW,yt,none⟩) B.ls.length ld] (fA f) (oK m (.slice a1 k1 c1) (.slice a2 k2 c2)) (oK n (.slice a3 k3 c3) (.slice a4 k4 c4)) wx (DY g x y (decide (ka=kb))))
   case first =>
    have hW3:=hL.bel;have x0:w3.cell? ⟨bla,yu+m.leaf * 16,none⟩=some (.bool ka.Allowed):=(hW3.cell (by exact zU)).trans (ha 0 _ rfl);have x1:w3.cell? ⟨bla,yu+m.leaf * 16+1,none⟩=some (.bool ka.Together):=(hW3.cell (by exact zU)).trans (ha 1 _ rfl);have x2:w3.cell? ⟨bla,yu+m.leaf * 16+2,none⟩=some (.bool ka.Single):=(hW3.cell (by exact zU)).trans (ha 2 _ rfl);have x3:w3.cell? ⟨bla,yu+m.leaf * 16+3,none⟩=some (.int .i64 ka.Limit):=(hW3.cell (by exact zU)).trans (ha 3 _ rfl);have x4:w3.cell? ⟨bla,yu+m.leaf * 16+4,none⟩=some (.int .i64 ka.Price):=(hW3.cell (by exact zU)).trans (ha 4 _ rfl);have x5:w3.cell? ⟨bla,yu+m.leaf * 16+5,none⟩=some (.int .i64 ka.pG.Num):=(hW3.cell (by exact zU)).trans (ha 5 _ rfl);have x6:w3.cell? ⟨bla,yu+m.leaf * 16+6,none⟩=some (.int .i64 ka.pG.Den):=(hW3.cell (by exact zU)).trans (ha 6 _ rfl);have x7:w3.cell? ⟨bla,yu+m.leaf * 16+7,none⟩=some (.int .i64 ka.oQ.Num):=(hW3.cell (by exact zU)).trans (ha 7 _ rfl);have x8:w3.cell? ⟨bla,yu+m.leaf * 16+8,none⟩=some (.int .i64 ka.oQ.Den):=(hW3.cell (by exact zU)).trans (ha 8 _ rfl);have x9:w3.cell? ⟨bla,yu+m.leaf * 16+9,none⟩=some (.int .i64 ka.Cap.Num):=(hW3.cell (by exact zU)).trans (ha 9 _ rfl);have x10:w3.cell? ⟨bla,yu+m.leaf * 16+10,none⟩=some (.int .i64 ka.Cap.Den):=(hW3.cell (by exact zU)).trans (ha 10 _ rfl);have x11:w3.cell? ⟨bla,yu+m.leaf * 16+11,none⟩=some (.int .i64 ka.eF.Num):=(hW3.cell (by exact zU)).trans (ha 11 _ rfl);have x12:w3.cell? ⟨bla,yu+m.leaf * 16+12,none⟩=some (.int .i64 ka.eF.Den):=(hW3.cell (by exact zU)).trans (ha 12 _ rfl);have mF:w3.cell? ⟨bla,yu+m.leaf * 16+13,none⟩=some (.int .i64 ka.dH.Num):=(hW3.cell (by exact zU)).trans (ha 13 _ rfl);have x14:w3.cell? ⟨bla,yu+m.leaf * 16+14,none⟩=some (.int .i64 ka.dH.Den):=(hW3.cell (by exact zU)).trans (ha 14 _ rfl);have x15:w3.cell? ⟨bla,yu+m.leaf * 16+15,none⟩=some (.int .i64 ka.By):=(hW3.cell (by exact zU)).trans (ha 15 _ rfl);have y0:w3.cell? ⟨xW,yt+n.leaf * 16,none⟩=some (.bool kb.Allowed):=(hW3.cell (by exact plb)).trans (hb 0 _ rfl);have y1:w3.cell? ⟨xW,yt+n.leaf * 16+1,none⟩=some (.bool kb.Together):=(hW3.cell (by exact plb)).trans (hb 1 _ rfl);have y2:w3.cell? ⟨xW,yt+n.leaf * 16+2,none⟩=some (.bool kb.Single):=(hW3.cell (by exact plb)).trans (hb 2 _ rfl);have y3:w3.cell? ⟨xW,yt+n.leaf * 16+3,none⟩=some (.int .i64 kb.Limit):=(hW3.cell (by exact plb)).trans (hb 3 _ rfl);have y4:w3.cell? ⟨xW,yt+n.leaf * 16+4,none⟩=some (.int .i64 kb.Price):=(hW3.cell (by exact plb)).trans (hb 4 _ rfl);have y5:w3.cell? ⟨xW,yt+n.leaf * 16+5,none⟩=some (.int .i64 kb.pG.Num):=(hW3.cell (by exact plb)).trans (hb 5 _ rfl);have y6:w3.cell? ⟨xW,yt+n.leaf * 16+6,none⟩=some (.int .i64 kb.pG.Den):=(hW3.cell (by exact plb)).trans (hb 6 _ rfl);have y7:w3.cell? ⟨xW,yt+n.leaf * 16+7,none⟩=some (.int .i64 kb.oQ.Num):=(hW3.cell (by exact plb)).trans (hb 7 _ rfl);have y8:w3.cell? ⟨xW,yt+n.leaf * 16+8,none⟩=some (.int .i64 kb.oQ.Den):=(hW3.cell (by exact plb)).trans (hb 8 _ rfl);have y9:w3.cell? ⟨xW,yt+n.leaf * 16+9,none⟩=some (.int .i64 kb.Cap.Num):=(hW3.cell (by exact plb)).trans (hb 9 _ rfl);have y10:w3.cell? ⟨xW,yt+n.leaf * 16+10,none⟩=some (.int .i64 kb.Cap.Den):=(hW3.cell (by exact plb)).trans (hb 10 _ rfl);have y11:w3.cell? ⟨xW,yt+n.leaf * 16+11,none⟩=some (.int .i64 kb.eF.Num):=(hW3.cell (by exact plb)).trans (hb 11 _ rfl);have y12:w3.cell? ⟨xW,yt+n.leaf * 16+12,none⟩=some (.int .i64 kb.eF.Den):=(hW3.cell (by exact plb)).trans (hb 12 _ rfl);have y13:w3.cell? ⟨xW,yt+n.leaf * 16+13,none⟩=some (.int .i64 kb.dH.Num):=(hW3.cell (by exact plb)).trans (hb 13 _ rfl);have y14:w3.cell? ⟨xW,yt+n.leaf * 16+14,none⟩=some (.int .i64 kb.dH.Den):=(hW3.cell (by exact plb)).trans (hb 14 _ rfl);have Wy:w3.cell? ⟨xW,yt+n.leaf * 16+15,none⟩=some (.int .i64 kb.By):=(hW3.cell (by exact plb)).trans (hb 15 _ rfl);have g1:=hL.gr.outer hx;obtain⟨g2,g3⟩:=hL.gr.inner hx hy;have e6:=hL.b6.cell;have e7:=hL.b7.cell;have e14:=hL.b14.cell;have e15:=hL.b15.cell;unfold oK at e14 e15;have b5:(0:Int)<=(m.leaf:Int):=by omega
    have b6:(m.leaf:Int)<(A.ls.length:Int):=by omega
    have b7:(0:Int)<=(n.leaf:Int):=by omega
    have b8:(n.leaf:Int)<(B.ls.length:Int):=by omega
    go_still_tail 19,(by kernel_rfl)
    refine ib1 (d:=ka) (e:=kb) rfl rfl rfl rfl ?_
    repeat still_step
    refine wpStill_nil ?_
    change wpList _ _ _ _ _ w3.drew
    have hL4:=hL.below (qj (Below.refl _ w3));obtain⟨w4,hw4⟩:∃ W,W=w3.drew:=⟨_,rfl⟩;rw[<- hw4] at hL4 ⊢;obtain⟨g2,g3⟩:=hL4.gr.inner hx hy;clear hw4 x0 x1 x2 x3 x4 x5 x6 x7 x8 x9 x10 x11 x12 mF x14 x15 y0 y1 y2 y3 y4 y5 y6 y7 y8 y9 y10 y11 y12 y13 y14 Wy
    go_wp2_with fail
    go_meet
    exact hL4.store hx hy (decide (ka=kb))
   case rest =>
    obtain⟨w5,rfl⟩:∃ W,W=wc:=⟨wc,rfl⟩;have hL5:=hcut;clear hL hcut ha hb;have g1:=hL5.gr.outer hx;obtain⟨g2,g3⟩:=hL5.gr.inner hx hy;rw[VZ hG.ok hx hy,if_pos ⟨rfl,rfl⟩] at g2;have h10:=hL5.b10.range;have h12:=hL5.b12.there;rw[show (fA f).toList=fL f from rfl] at h10;rw[show (fA ⟨0,0,0,0,0,0,0,0,0,0⟩).size=10 from rfl] at h12;have hlo:=hL5.lo x hx;have hBk:=hG.lt.1;have Ue:=uv2;have UC:=gp2 f;have hlen:=ZE f;have hone:=yc2 f;clear g3
    go_upto_region 7 with (fail)
    go_region_held3 (fun w'=>w'.cell? ⟨Bk,x,none⟩=some (.slice (some ⟨bs x,0,none⟩) M (cs x))/\w'.cell? ⟨bs x,y,none⟩=some (.bool (decide (ka=kb)))/\w'.rangeAt (w.heap.size+1+1) 0 (fL f)/\w'.there (w.heap.size+1+1+1) 0 10) (first|go_keep|exact⟨by rw[World.cell?_setCells_out _ _ _ _ _ (fun e=>absurd e (by show Bk≠_;omega))];assumption,by rw[World.cell?_setCells_out _ _ _ _ _ (fun e=>absurd e (by show bs x≠_;omega))];assumption,World.rangeAt_setCells_apart (by assumption) _ _ _ (.inl (by omega)),World.there_setCells (by assumption) _ _ _⟩) (fail)
    have hL6:=hL5.below (qj (Below.refl _ w5));obtain⟨w6,hw6,h1,h2,h3⟩:=qb3 hL6 hG.lt.1 f;rw[hw6];have e2:=h1.cell;unfold fA at e2;clear hL5 hL6 hw6 h10 h12 UC Ue g1 g2
    go_wp2_with fail
    exact bodyPost_ret (v:=.tuple #[fV f,.bool (!decide (ka=kb))]) (by simp[results,Tryz.results26,go_sem,e2,fV,fA]) rfl ⟨by rw[hval],h2,by rw[hval];exact h3⟩
end Go.SX.Td
