/- Parts of the proof. -/
import Derived.Test.YtllbabjgpdmblaaGreatDoorZTzP8
import Derived.Test.YtllbabjgpdmblaaGreatDoorZTdR1
import Derived.Test.YtllbabjgpdmblaaGreatDoorZTzwnode
import Derived.Test.YtllbabjgpdmblaaGreatDoorZTd17d
import Derived.Test.YtllbabjgpdmblaaGreatDoorZTd49
set_option linter.unusedSimpArgs false
set_option linter.unusedVariables false
set_option linter.unusedSectionVars false
namespace Go.SX.Td
open Go Go.SX Tb
theorem ba1 (O:List Nat)(hO:O.length≤20000):qw0 (yn0 (ints O)) 0=some (if O=List.range O.length then .inl () else .inr false):=by
 have h:=xq0 (step:=yn0 (ints O)) O.length (fun k=>!decide (O[k]?=some k)) (.inr false) (.inl ()) (fun k hk=>by
  obtain⟨y,hy⟩:∃ y,O[k]?=some y:=⟨_,qD hk⟩;have hlt:(k:Int)<(ints O).length:=by rw[qg0];omega
  have hr:gq0 (ints O) (k:Int)=some k:=by
   unfold gq0;rw[if_pos ⟨by omega,hlt⟩];simp
  simp only[yn0,qm0,qv0,hlt,decide_true,cond_true,hr,qC,wm0 hy,wu0,wv0,qr0,zc0 (k:=k) (by omega),hy];by_cases h:y=k
  ·simp[h]
  ·have h':¬ (y:Int)=(k:Int):=by omega
   simp[h,h']) (by
  have hlt:¬ ((O.length:Int)<(ints O).length):=by rw[qg0];omega
  simp only[yn0,qm0,qv0,hlt,decide_false,cond_false])
 rw[h];have iff:(List.range O.length).any (fun k=>!decide (O[k]?=some k))=false↔O=List.range O.length:=by
  rw[List.any_eq_false]
  constructor
  ·intro hb;apply List.ext_getElem?;intro k;by_cases hk:k<O.length
   ·have:=hb k (List.mem_range.2 hk);rw[List.getElem?_range hk]
    simpa using this
   ·rw[qY (by omega),qY (by simp;omega)]
  ·intro e k hk;have hk:=List.mem_range.1 hk;have:O[k]?=some k:=by rw[e,List.getElem?_range hk]
   simp[this]
 cases ha:(List.range O.length).any (fun k=>!decide (O[k]?=some k)) with
 | false=>rw[if_neg (by simp),if_pos (iff.1 ha)]
 | true=>rw[if_pos rfl,if_neg (fun e=>by rw[iff.2 e] at ha;cases ha)]
theorem iy0 (t:Tab Decision)(k:Nat):rlv (kb0 t) k=xb0 t k:=by
 rw[rlv,xb0,kb0];show ((t.ns.map zq0).take k |>.filter _).length=_;rw[← List.map_take,List.filter_map,qW];congr 1;apply List.filter_congr;intro n _;simp only[Function.comp,zq0];cases n.kids<;>rfl
theorem ab1 {t:Tab Decision}(hb:∀ n∈t.ns,Bd n)(hN:t.ns.length≤60):ROk (kb0 t) t.ns.length↔(∀ x,x<t.ns.length→Fine wy0 t.ns.length t.ls.length t.nd (t.nd x))∧t.ns.Nodup∧∀ x,x<t.ns.length→(t.nd x).kids=[]→(t.nd x).leaf=xb0 t x:=by
 have hmem:∀ x,x<t.ns.length→t.nd x∈t.ns:=fun x hx=>by unfold Tab.nd;rw[qM,qD hx];exact zJ _
 have hget:∀ x,x<t.ns.length→(kb0 t).Nodes[x]?=some (zq0 (t.nd x)):=fun x hx=>kw0 hx
 have hk0:∀ n:Nd,(zq0 n).Kids=[]↔n.kids=[]:=fun n=>by simp[zq0,ints]
 constructor
 ·intro h;refine⟨fun x hx=>?_,mh0 fun i j a hi hj=>?_,fun x hx hk=>?_⟩
  ·obtain⟨b,h1,h2⟩:=rd0 t (hb _ (hmem x hx)) (by omega);have:=(h x _ hx (hget x hx)).1;rw[h1] at this;cases this;exact h2.1 rfl
  ·have hil:=(qA.1 hi).1;have hjl:=(qA.1 hj).1;have ei:(kb0 t).Nodes[i]?=some (zq0 a):=by show (t.ns.map zq0)[i]?=_;rw[qH,hi];rfl
   have ej:(kb0 t).Nodes[j]?=some (zq0 a):=by show (t.ns.map zq0)[j]?=_;rw[qH,hj];rfl
   rcases Nat.lt_trichotomy i j with hlt | heq | hlt
   ·exact absurd rfl ((h j _ hjl ej).2.1 i _ hlt ei)
   ·exact heq
   ·exact absurd rfl ((h i _ hil ei).2.1 j _ hlt ej)
  ·have:=(h x _ hx (hget x hx)).2.2 ((hk0 _).2 hk);rw[iy0] at this;have e:(zq0 (t.nd x)).Leaf=((t.nd x).leaf:Int):=rfl;omega
 ·rintro ⟨h1,h2,h3⟩ j N hj hN';rw[hget j hj] at hN';cases hN';obtain⟨b,e1,e2⟩:=rd0 t (hb _ (hmem j hj)) (by omega);refine⟨by rw[e1,e2.2 (h1 j hj)],fun i M hi hM e=>?_,fun hk=>?_⟩
  ·rw[hget i (by omega)] at hM;cases hM;have e:=np0 e;have:=fy0 h2 (i:=i) (j:=j) (a:=t.nd j) (by rw[← e];unfold Tab.nd;rw[qM,qD (show i<t.ns.length by omega)];rfl) (by unfold Tab.nd;rw[qM,qD hj];rfl);omega
  ·rw[iy0];have e:(zq0 (t.nd j)).Leaf=((t.nd j).leaf:Int):=rfl;have:=h3 j hj ((hk0 _).1 hk);omega
theorem fk1 {t:Tab Decision}(hb:∀ n∈t.ns,Bd n)(S:SmallT (kb0 t)):∃ b,wn0 (kb0 t)=some b∧(b=true↔t.Canon wy0):=by
 have hnl:(kb0 t).Nodes.length=t.ns.length:=by simp[kb0]
 have hll:(kb0 t).Leaves.length=t.ls.length:=rfl;have hN:t.ns.length≤60:=by have:=S.nodes;omega
 unfold wn0;simp only[qm0,qv0,hnl,hll,wv0];by_cases h1:t.ns.length<1
 ·have:((t.ns.length:Nat):Int)<1:=by omega
  rw[qL this];exact⟨false,rfl,⟨fun h=>(by cases h),fun h=>by have:=h.pos;omega⟩⟩
 ·have h1':¬ ((t.ns.length:Nat):Int)<1:=by omega
  have h2':¬ (20000:Int)<((t.ns.length:Nat):Int):=by omega
  rw[qI h1',cond_false,qI h2',qC,cond_false];have hc:=wd1 (t:=t) (by omega);obtain⟨r,e,hr⟩:=bp0 S;rw[e];rw[hnl] at hr;rcases hr with ⟨rfl,hok⟩ | ⟨rfl,hno⟩
  ·obtain⟨f1,f2,f3⟩:=(ab1 hb hN).1 hok;obtain⟨r2,e2,hr2⟩:=zq1 S gg0;have hls:(kb0 t).Leaves=t.ls:=rfl;rw[hls] at hr2;rcases hr2 with ⟨rfl,hnd⟩ | ⟨rfl,hnd⟩
   ·have hlv:∀ x,x<t.ns.length→lev (t.nd x)≤10:=fun x hx=>by
     unfold lev;split
     ·exact qV _
     ·rename_i hk;have:=((f1 x hx).inner hk).1;omega
    have hkl:∀ x,x<t.ns.length→∀ k∈(t.nd x).kids,k<t.ns.length∧lev (t.nd x)<lev (t.nd k):=fun x hx k hk=>by
     have hne:(t.nd x).kids≠[]:=fun e=>by rw[e] at hk;cases hk
     have:=(f1 x hx).kid k hk;refine⟨this.1,?_⟩;rw[show lev (t.nd x)=(t.nd x).attr from by unfold lev;rw[if_neg hne]];exact this.2
    have hO:=ay1 hkl hlv hb (by omega) (by omega);have hIn:kk0 [] 0=some false:=tt1 [] 0 (by simp);have hap:appG ([]:List Int) [0]=some [0]:=qo0 (by simp);simp only[e2,orR,hIn,qC,cond_false,hap,hO];obtain⟨w1,-⟩:=xg0 (kids:=qi0 t) (lv:=fun x=>lev (t.nd x)) (N:=t.ns.length) hkl 11 0 [] (by omega) (by omega) (hlv 0 (by omega)) hlv;have hOn:(walk (qi0 t) 11 0 []).Nodup:=w1.nod List.nodup_nil;have hOlt:∀ y∈walk (qi0 t) 11 0 [],y<t.ns.length:=fun y hy=>(w1.lt y hy).elim (fun h=>by cases h) id
    clear w1 hO;generalize walk (qi0 t) 11 0 []=O at *;have hOl:O.length≤t.ns.length:=by
     have:=rw0 (l:=O) (m:=List.range t.ns.length) hOn fun y hy=>List.mem_range.2 (hOlt y hy)
     simpa using this
    rw[ba1 O (by omega)];by_cases hO':O=List.range O.length
    ·rw[if_pos hO'];refine⟨decide (O.length=t.ns.length)&&decide (xb0 t t.ns.length=t.ls.length),?_,?_⟩
     ·simp only[qg0,iy0];by_cases q1:O.length=t.ns.length
      ·have q1':((O.length:Nat):Int)=((t.ns.length:Nat):Int):=by omega
       rw[qL q1',cond_true,qL q1,Bool.true_and];show some _=some _;exact congrArg some (decide_eq_decide.2 (by omega))
      ·have q1':¬ ((O.length:Nat):Int)=((t.ns.length:Nat):Int):=by omega
       rw[qI q1',cond_false,qI q1,Bool.false_and];rfl
     ·rw[qJ,qZ,qZ,hc]
      constructor
      ·rintro ⟨q1,q2⟩;exact⟨⟨f1,f2,f3,by rw[q2,zC];exact hnd⟩,by rw[← q1];exact hO',q2⟩
      ·rintro ⟨_,q1,q2⟩;exact⟨by rw[q1,List.length_range],q2⟩
    ·rw[if_neg hO'];refine⟨false,rfl,⟨fun h=>(by cases h),fun c=>?_⟩⟩;have q1:=(hc.1 c).2.1;exact absurd (by rw[q1,List.length_range]) hO'
   ·simp only[e2,orR,qC];exact⟨false,rfl,⟨fun h=>(by cases h),fun c=>absurd c.ok.ldup hnd⟩⟩
  ·refine⟨false,rfl,⟨fun h=>(by cases h),fun c=>?_⟩⟩;have F:=(hc.1 c).1;exact absurd ((ab1 hb hN).2 ⟨F.fine,F.nodup,F.leaf⟩) hno
theorem ej0 {T:Table}(S:SmallT T):wn0 T=qu0 T:=by
 have hnn:=S.nodes;by_cases hok:∀ N∈T.Nodes,tb1 N
 ·obtain⟨t,rfl,hb⟩:=sh1 hok;have hll:(kb0 t).Leaves.length=t.ls.length:=rfl;have hnl:(kb0 t).Nodes.length=t.ns.length:=by simp[kb0]
  obtain⟨b,e,hv⟩:=lb0 hb (by have:=S.leaves;omega);obtain⟨b',e',hv'⟩:=fk1 hb S;rw[e,e'];congr 1;rw[Bool.eq_iff_iff,hv,hv'];exact⟨fun h=>⟨h,by omega⟩,fun h=>h.1⟩
 ·have hf:qu0 T=some false:=by
   rcases tw0 S with h | ⟨t,rfl,hb,_,_⟩
   ·exact h
   ·exact absurd (fun N hN=>by
     obtain⟨n,hn,rfl⟩:=List.mem_map.1 hN;exact⟨n,rfl,hb n hn⟩) hok
  rw[hf];obtain⟨N,hN,hbad⟩:∃ N∈T.Nodes,¬ tb1 N:=Classical.byContradiction fun hno=>hok fun N hN=>Classical.byContradiction fun h=>hno ⟨N,hN,h⟩
  obtain⟨k,hk⟩:=List.getElem?_of_mem hN;have hlt:=(qA.1 hk).1;obtain⟨r,e,hr⟩:=bp0 S;rcases hr with ⟨rfl,hR⟩ | ⟨rfl,_⟩
  ·obtain⟨b,h1,h2⟩:=mj0 S (S.node N hN);have h3:=(hR k N hlt hk).1;rw[h1] at h3;cases h3;exact absurd (h2 rfl).1 hbad
  ·unfold wn0;have h1':¬ ((T.Nodes.length:Nat):Int)<1:=by omega
   have h2':¬ (20000:Int)<((T.Nodes.length:Nat):Int):=by omega
   simp only[qm0,qv0,h1',h2',decide_false,cond_false,qC,e,orR]
end Go.SX.Td
namespace Go.SX.Td
open Go Go.SX Tb
theorem gr1 (N:Node)(f:A10 Int){a:Nat}(hN:N.Attr=(a:Int))(ha:a<10)(hC:N.Cuts.length≤100000):qw0 (kz0 N f) 0=some ((ux0 N.Cuts (f.get a):Nat):Int):=by
 obtain⟨r,h1,rfl⟩:=yq0 (step:=kz0 N f) (fun (_:Unit) i=>i) N.Cuts.length
  (fun k _=>ux0 N.Cuts (f.get a)=k+ux0 (N.Cuts.drop k) (f.get a)) (fun r=>r=((ux0 N.Cuts (f.get a):Nat):Int)) (fun k s hk hI=>by
  have hx:N.Cuts[k]?=some N.Cuts[k]:=by simp[hk]
  rw[List.drop_eq_getElem_cons hk] at hI;generalize N.Cuts[k]=x at hx hI;have hlt:(k:Int)<N.Cuts.length:=by omega
  simp only[kz0,qm0,xx0,qv0,hlt,decide_true,cond_true,qx0 hx,hN,zm0 ha,qC,qr0,zc0 (k:=k) (by omega)];by_cases h:x≤f.get a
  ·simp only[ux0] at hI;rw[if_pos h] at hI;exact .inl ⟨(),by rw[qL h];rfl,by omega⟩
  ·simp only[ux0] at hI;rw[if_neg h] at hI;refine .inr ⟨(k:Int),by rw[qI h];rfl,?_⟩;rw[hI,Nat.add_zero]) (fun s hI=>by
  have hlt:¬ ((N.Cuts.length:Int)<N.Cuts.length):=by omega
  refine⟨(N.Cuts.length:Int),by simp only[kz0,qm0,qv0,hlt,decide_false,cond_false,qC],?_⟩;rw[List.drop_length] at hI;simp only[ux0] at hI;rw[hI,Nat.add_zero]) () (by simp)
 exact h1
theorem ci0 {t:Tab Decision}(h:t.Ok wy0)(hb:∀ n∈t.ns,Bd n)(f:A10 Int):∀ (n x:Nat),x<t.ns.length→10<n+lev (t.nd x) →
  ∃ y:Nat,qw0 (kj0 (kb0 t) f) (x:Int)=some (y:Int)∧y<t.ns.length∧(t.nd y).kids=[]∧t.nq0 (toF f) n x=t.ls.getD (t.nd y).leaf default
 | 0,x,hx,hl=>by have:=xz0 h hx;omega
 | n+1,x,hx,hl=>by
  have hmem:t.nd x∈t.ns:=by unfold Tab.nd;rw[qM,qD hx];exact zJ _
  have hbx:=hb _ hmem;have hgx:zf0 (kb0 t).Nodes (x:Int)=some (zq0 (t.nd x)):=qx0 (kw0 hx);have hkl:((zq0 (t.nd x)).Kids.length:Int)=((t.nd x).kids.length:Nat):=by simp[zq0,qg0]
  by_cases hk:(t.nd x).kids=[]
  ·refine⟨x,?_,hx,hk,by simp only[Tab.nq0,if_pos hk]⟩;rw[zg0];have h0:¬ ((0:Int)<((t.nd x).kids.length:Nat)):=by rw[hk];simp
   simp only[kj0,hgx,qC,qm0,qv0,hkl,qI h0,cond_false]
  ·obtain⟨k1,k2⟩:=ga0 h hx hk (toF f (t.nd x).attr);obtain⟨f1,f2,f3,f4,f5⟩:=(h.fine x hx).inner hk;rw[ni0 f f1] at k1 k2;generalize hi:ux0 (t.nd x).cuts (f.get (t.nd x).attr)=i at k1 k2;obtain⟨l1,l2⟩:=kt0 h hx _ k2;generalize hz:(t.nd x).kids.getD i 0=z at k1 k2 l1 l2;obtain⟨y,d1,d2,d3,d4⟩:=ci0 h hb f n z l1 (by omega);refine⟨y,?_,d2,d3,?_⟩
   ·rw[zg0];have h0:(0:Int)<((t.nd x).kids.length:Nat):=by
     have:(t.nd x).kids.length≠0:=by simpa using hk
     omega
    have hgk:zf0 (zq0 (t.nd x)).Kids (i:Int)=some (z:Int):=qx0 (wm0 k1);have hloop:=gr1 (zq0 (t.nd x)) f rfl f1 hbx.cuts;rw[show (zq0 (t.nd x)).Cuts=(t.nd x).cuts from rfl,hi] at hloop;simp only[kj0,hgx,qC,qm0,qv0,hkl,qL h0,cond_true,hloop,hgk];exact d1
   ·simp only[Tab.nq0,if_neg hk];rw[ni0 f f1,hi,hz];exact d4
theorem jy1 {T:Table}(S:SmallT T)(f:A10 Int):∃ d,zn0 T f=some d∧yg0 T f=some d:=by
 have hr:=ej0 S;rcases tw0 S with h | ⟨t,rfl,hb,c,h⟩
 ·rw[h] at hr;exact⟨Decision.mk false false false 0 0 (Ratio.mk 0 0) (Ratio.mk 0 0) (Ratio.mk 0 0) (Ratio.mk 0 0) (Ratio.mk 0 0) 0,by unfold zn0;simp only[h,qC,wu0,Bool.not_false,cond_true],by unfold yg0;simp only[hr,qC,wu0,Bool.not_false,cond_true]⟩
 ·rw[h] at hr;have hN:t.ns.length≤60:=by have:=S.nodes;simpa [kb0] using this
  have hL:t.ls.length≤60:=S.leaves;refine⟨_,wi1 c hb (by omega) (by omega) f,?_⟩;obtain⟨y,d1,d2,d3,d4⟩:=ci0 c.ok hb f 11 0 c.pos (by omega);have hl:=((c.ok.fine y d2).leaf d3).2.2;have hgy:zf0 (kb0 t).Nodes (y:Int)=some (zq0 (t.nd y)):=qx0 (kw0 d2);have hg:zf0 (kb0 t).Leaves (zq0 (t.nd y)).Leaf=some (t.ls.getD (t.nd y).leaf default):=by
   refine qx0 (k:=(t.nd y).leaf) ?_;show t.ls[_]?=_;rw[qM,qD hl];rfl
  have d1':qw0 (kj0 (kb0 t) f) 0=some (y:Int):=d1;unfold yg0 gb0;simp only[hr,qC,wu0,Bool.not_true,cond_false,d1',hgy,hg];rw[← d4];rfl
end Go.SX.Td
namespace Go.SX.Td
open Go Go.SX Tb
theorem it1 (kind:Int)(name:ByteArray)(n:Int)(z:A10 Range):kd0 kind name n z=some (rl kind name n z):=rfl
theorem all_eq {a:Nat}(ha:a<10)(r:Range):kl0 (a:Int) r=some (wo0.put a r):=by
 unfold kl0;simp only[uu0,qC,zm0 ha]
def rAxq : Rule:=rl 1 nA 0 wo0
def rA2 : Rule:=rl 1 nA 0 (wo0.put 2 ⟨1,1⟩)
def rP : Rule:=rl 3 nP 100 wo0
def rDxq : Rule:=rl 2 nD 0 (wo0.put 1 ⟨0,17⟩)
theorem v1 : wl0 ⟨[rAxq,rP]⟩=true:=by decide +kernel
theorem v2 : wl0 ⟨[rA2,rP]⟩=true:=by decide +kernel
theorem v3 : wl0 ⟨[rA2,rP,rDxq]⟩=true:=by decide +kernel
theorem v4 : wl0 ⟨[⟨0,⟨#[]⟩,[],0,⟨0,0⟩,⟨0,0⟩⟩]⟩=false:=by decide +kernel
def dP : Decision:=jd [(true,rAxq),(true,rP)]
def dA : Decision:=jd [(false,rA2),(true,rP)]
def dB : Decision:=jd [(true,rA2),(true,rP)]
theorem b0 : vq0 ⟨[]⟩=t1 (jd []):=lv0 (vw1 _) fun g hg=>by rw[og0];rfl
theorem b1 : vq0 ⟨[rAxq,rP]⟩=t1 dP:=lv0 (vw1 _) fun g hg=>by
 rw[og0];simp only[qX,zI,rAxq,rP,ov0,ji1 hg];rfl
theorem b2 : vq0 ⟨[rA2,rP]⟩=t3 dA dB:=lv0 (bg1 (by decide +kernel)) fun g hg=>by
 rw[og0,cd1];simp only[qX,zI,rA2,rP,ov0,ji1 hg,je1 hg (show 2<10 by decide)];have:=(hg 2 (by decide)).2;have e:wy0.hi 2=1:=rfl;by_cases h:1≤g 2
 ·rw[if_pos h,qL ⟨h,by omega⟩];rfl
 ·rw[if_neg h,qI (by omega)];rfl
def dC : Decision:=jd [(true,rA2),(true,rP),(true,rDxq)]
def dE : Decision:=jd [(false,rA2),(true,rP),(false,rDxq)]
def dF : Decision:=jd [(true,rA2),(true,rP),(false,rDxq)]
theorem b3 : vq0 ⟨[rA2,rP,rDxq]⟩=t5 dC dE dF:=lv0 (by1 (by decide +kernel) (by decide +kernel) (by decide +kernel)) fun g hg=>by
 rw[og0,cc1];simp only[qX,zI,rA2,rP,rDxq,ov0,ji1 hg,je1 hg (show 2<10 by decide),je1 hg (show 1<10 by decide)];have h2:=(hg 2 (by decide)).2;have h1:=(hg 1 (by decide)).1;have e:wy0.hi 2=1:=rfl;have e':wy0.lo 1=0:=rfl;by_cases h:18≤g 1
 ·rw[if_pos h,qI (p:=0≤g 1∧g 1≤17) (by omega)];by_cases h':1≤g 2
  ·rw[if_pos h',qL (p:=1≤g 2∧g 2≤1) ⟨h',by omega⟩];rfl
  ·rw[if_neg h',qI (p:=1≤g 2∧g 2≤1) (by omega)];rfl
 ·rw[if_neg h,qL (p:=0≤g 1∧g 1≤17) ⟨by omega,by omega⟩];by_cases h':1≤g 2
  ·rw[qL (p:=1≤g 2∧g 2≤1) ⟨h',by omega⟩];rfl
  ·rw[qI (p:=1≤g 2∧g 2≤1) (by omega)];rfl
theorem g1 : PG ⟨[rAxq,rP]⟩:=PG0 v1 (by show 2≤10;decide)
theorem g2 : PG ⟨[rA2,rP]⟩:=PG0 v2 (by show 2≤10;decide)
theorem g3 : PG ⟨[rA2,rP,rDxq]⟩:=PG0 v3 (by show 3≤10;decide)
theorem head_eq : uj0=some true:=by
 have e0:=lp0 g0 v0;have e1:=lp0 g1 v1;have e2:=lp0 g2 v2;have e3:=lp0 g3 v3;have e4:=yx1 v4;have k2:=mc0 g2 (A10.mk 0 0 0 0 0 0 0 0 0 0);have k3:=mc0 g3 (A10.mk 0 30 1 0 0 0 0 0 1 0);have k4:=kg1 g3;rw[b0] at e0;rw[b1] at e1;rw[b2] at e2 k2;rw[b3] at e3 k3 k4;rw[cd1] at k2;rw[cc1] at k3;have i1:io.eq ((0:Int)) 0=true:=by rw[wv0];rfl
 have i2:io.eq ((1:Int)) 1=true:=by rw[wv0];rfl
 have a2:kl0 2 (Range.mk 1 1)=some (wo0.put 2 ⟨1,1⟩):=all_eq (a:=2) (by decide) _;have a1:kl0 1 (Range.mk 0 17)=some (wo0.put 1 ⟨0,17⟩):=all_eq (a:=1) (by decide) _;have q1:rl 1 (⟨#[97]⟩) 0 (wo0.put 2 ⟨1,1⟩)=rA2:=rfl;have q2:rl 3 (⟨#[112]⟩) 100 wo0=rP:=rfl;have q3:rl 2 (⟨#[100]⟩) 0 (wo0.put 1 ⟨0,17⟩)=rDxq:=rfl;have q4:rl 1 (⟨#[97]⟩) 0 wo0=rAxq:=rfl;have x0:zf0 (kb0 (t1 (jd []))).Leaves 0=some (jd []):=rfl;have x1:zf0 (kb0 (t1 dP)).Leaves 0=some dP:=rfl;have x2:zf0 (kb0 (t3 dA dB)).Nodes 0=some (Node.mk 2 [1] [1,2] 0):=rfl;have x3:zf0 (kb0 (t5 dC dE dF)).Nodes 0=some (Node.mk 1 [18] [1,2] 0):=rfl;have y0:(jd []).Allowed=false:=rfl;have y1:dP.Allowed=true:=rfl;have y2:dP.Price=100:=rfl;have y3:((if (1:Int)≤toF (A10.mk 0 0 0 0 0 0 0 0 0 0) 2 then dB else dA)).Allowed=false:=rfl;have y4:((if (18:Int)≤toF (A10.mk 0 30 1 0 0 0 0 0 1 0) 1 then (if (1:Int)≤toF (A10.mk 0 30 1 0 0 0 0 0 1 0) 2 then dF else dE) else dC)).Allowed=true:=rfl;have n0:((kb0 (t1 (jd []))).Nodes.length:Int)=1:=rfl;have n1:((kb0 (t1 dP)).Nodes.length:Int)=1:=rfl;have n2:((kb0 (t3 dA dB)).Nodes.length:Int)=3:=rfl;have n3:((kb0 (t5 dC dE dF)).Nodes.length:Int)=5:=rfl;have q2':=nl0 (Node.mk 2 [1] [1,2] 0) (Node.mk 2 [1] [1,2] 0) (by simp) (by simp);have q3':=nl0 (Node.mk 1 [18] [1,2] 0) (Node.mk 1 [18] [1,2] 0) (by simp) (by simp);unfold uj0;simp only[uu0,qC,a1,a2,it1,q1,q2,q3,q4,e0,e1,e2,e3,e4,wv0,qv0,n0,n1,n2,n3,decide_true,Bool.not_true,cond_false,x0,x1,x2,x3,y0,y1,y2,Bool.not_false,cond_true,wu0,q2',q3',k2,k3,k4,y3,y4,ky1]
end Go.SX.Td
namespace Go.SX.Td
open Go Go.SX Tb
def cl1 (l:List Rule):Int:=l.foldl (fun s r=>IntKind.i64.wrap (s+r.Zones.length)) 0
def sd3 (p:Policy):Prop:=p.Rules.length≤9223372036854775807
theorem bu2 {p:Policy}(hp:sd3 p):∃ b,un0 p=some b∧(b=true→p.Rules.length≤8∧cl1 p.Rules≤10):=by
 unfold sd3 at hp;obtain⟨r,h1,h2⟩:=yq0 (step:=uq0 p) (fun (s:Int) i=>(s,i)) p.Rules.length
  (fun k s=>s=cl1 (p.Rules.take k)) (fun r=>r=.inr false∨r=.inl (cl1 p.Rules)) (fun k s hk hI=>by
  subst hI;have hx:p.Rules[k]?=some p.Rules[k]:=by simp[hk]
  rw[qS,hx,zB];generalize p.Rules[k]=x at hx;have hlt:(k:Int)<p.Rules.length:=by omega
  simp only[uq0,qm0,qv0,hlt,decide_true,cond_true,qx0 hx,qC,yz2,qr0,zc0 (k:=k) (by omega)];by_cases h:(60:Int)<(x.Name.size:Int)
  ·exact .inr ⟨.inr false,by rw[qL h];rfl,.inl rfl⟩
  ·exact .inl ⟨_,by rw[qI h];rfl,by unfold cl1;rw[List.foldl_append];rfl⟩) (fun s hI=>by
  subst hI;have hlt:¬ ((p.Rules.length:Int)<p.Rules.length):=by omega
  exact⟨_,by simp only[uq0,qm0,qv0,hlt,decide_false,cond_false];rfl,.inr (by rw[zC])⟩) 0 (by simp[cl1])
 unfold un0;rw[h1];rcases h2 with rfl | rfl
 ·exact⟨false,rfl,fun h=>by cases h⟩
 ·simp only[orR,qC,xx0,qv0];by_cases h:(p.Rules.length:Int)≤8
  ·exact⟨decide (cl1 p.Rules≤10),by rw[qL h];rfl,fun hb=>⟨by omega,by simpa using hb⟩⟩
  ·exact⟨false,by rw[qI h];rfl,fun h=>by cases h⟩
theorem yf1 {p:Policy}(hv:wl0 p=true):∀ r∈p.Rules,r.Zones.length≤200:=fun r hr=>by
 obtain⟨k,hk⟩:=List.getElem?_of_mem hr;have:=px0 hv hk;simp only[gc0,qJ,qZ] at this;exact this.2.1
theorem sc1 : ∀ {l:List Rule},l.length≤8→(∀ r∈l,r.Zones.length≤200)→∀ s:Int,0≤s→s+l.length * 200≤10000→l.foldl (fun s r=>IntKind.i64.wrap (s+r.Zones.length)) s=s+((l.flatMap (·.Zones)).length:Nat)
 | [],_,_,s,_,_=>by simp
 | r::l,hl,hz,s,h0,hs=>by
  have h1:=hz r (by simp);rw[zD] at hs hl;rw[qT,nt0 (by omega) (by omega),sc1 (by omega) (fun r hr=>hz r (by simp[hr])) _ (by omega) (by omega),List.flatMap_cons,qN];omega
theorem lt1 {p:Policy}(hv:wl0 p=true)(h:p.Rules.length≤8∧cl1 p.Rules≤10):(qh0 p).length≤10:=by
 have:=sc1 h.1 (yf1 hv) 0 (by omega) (by omega);have h2:=h.2;unfold cl1 at h2;rw[this] at h2;show (p.Rules.flatMap (·.Zones)).length≤10;omega
end Go.SX.Td
namespace Go.SX.Td
open Go Go.SX Tb
theorem qs1 (T:Table)(h1:T.Nodes.length≤1000000000)(h2:T.Leaves.length≤1000000000)(h3:∀ n∈T.Nodes,n.Cuts.length≤1000000000∧n.Kids.length≤1000000000):jf0 T T=some true:=by
 rw[ql2 T T h1 h2 h3,qL rfl]
theorem tp0 {p:Policy}(hp:sd3 p){T:Table}(hT:bt2 T)(f:A10 Int):zu0 p T f=some true:=by
 obtain⟨b,hb,hfew⟩:=bu2 hp;obtain⟨b2,hb2,h2⟩:=ro1 hT.1;unfold zu0;simp only[head_eq,qC,hb,hb2]
 cases b with
 | false=>simp only[wu0,Bool.not_false,cond_true,qC]
 | true =>
  cases b2 with
  | false=>simp only[wu0,Bool.not_true,Bool.not_false,cond_true,cond_false,qC]
  | true =>
   obtain⟨s1,s2,s3⟩:=h2 rfl;have S:SmallT T:=⟨s1,s2,fun N hN=>⟨(s3 N hN).1,(s3 N hN).2,(hT.2 N hN).1,(hT.2 N hN).2.1,(hT.2 N hN).2.2.1,(hT.2 N hN).2.2.2⟩⟩;obtain⟨d,l1,l2⟩:=jy1 S f;have hvr:=ej0 S;obtain⟨v,hvv⟩:∃ v,qu0 T=some v:=by
    rcases tw0 S with h | ⟨_,_,_,_,h⟩<;>exact⟨_,h⟩
   rw[hvv] at hvr;have fin:(Option.bind (qu0 T) fun v8=>Option.bind (wn0 T) fun v9=>bif (io.beq false v8 v9) then (Option.bind (zn0 T f) fun v10=>Option.bind (yg0 T f) fun v11=>some (jb0 v10 v11)) else some false)=some true:=by
    simp only[hvv,hvr,qC,ex1,l1,l2,gg0,beq_self_eq_true,cond_true,decide_true]
   simp only[wu0,Bool.not_true,cond_false,qC]
   cases hv:wl0 p with
   | false =>
    have hs:jf0 ⟨[],[]⟩ ⟨[],[]⟩=some true:=qs1 _ (by simp) (by simp) (fun n hn=>by cases hn);simp only[yx1 hv,fb1 hv,qC,wv0,decide_true,cond_true,hs];exact fin
   | true =>
    have hz:=lt1 hv (hfew rfl);have G:=mt1 hv hz;obtain⟨n1,n2⟩:=si0 G;have hs:jf0 (kb0 (vq0 p)) (kb0 (vq0 p))=some true:=qs1 _ (by simp[kb0];omega) (by simp[kb0];omega) (fun n hn=>by
     obtain⟨m,hm,rfl⟩:=List.mem_map.1 hn;have:=tj0 G m hm;exact⟨by have:=this.cuts;show m.cuts.length≤_;omega,by have:=this.kids;show (ints m.kids).length≤_;rw[qg0];omega⟩)
    simp only[lp0 G hv,as1 hv hz,qC,wv0,decide_true,cond_true,hs];exact fin
end Go.SX.Td
