/- Parts of the proof. -/
import Derived.Test.YtllbabjgpdmblaaDoorZTdFew
import Derived.Test.YtllbabjgpdmblaaDoorZTd52d
set_option linter.unusedSimpArgs false
set_option linter.unusedVariables false
set_option linter.unusedSectionVars false
namespace Go.SX.Td
open Go Go.SX Tb
theorem rule_eq (kind:Int)(name:ByteArray)(n:Int)(z:A10 Range):law14_rule_g kind name n z=some (rl kind name n z):=rfl
theorem all_eq {a:Nat}(ha:a<10)(r:Range):law14_all_g (a:Int) r=some (zj0.put a r):=by
 unfold law14_all_g;simp only[jl0,Option.bind_some,qn0 ha]
def rA : Rule:=rl 1 nA 0 zj0
def rA2 : Rule:=rl 1 nA 0 (zj0.put 2 ⟨1,1⟩)
def rP : Rule:=rl 3 nP 100 zj0
def rD : Rule:=rl 2 nD 0 (zj0.put 1 ⟨0,17⟩)
theorem v1 : zv0 ⟨[rA,rP]⟩=true:=by decide +kernel
theorem v2 : zv0 ⟨[rA2,rP]⟩=true:=by decide +kernel
theorem v3 : zv0 ⟨[rA2,rP,rD]⟩=true:=by decide +kernel
theorem v4 : zv0 ⟨[⟨0,⟨#[]⟩,[],0,⟨0,0⟩,⟨0,0⟩⟩]⟩=false:=by decide +kernel
def dP : Decision:=jd [(true,rA),(true,rP)]
def dA : Decision:=jd [(false,rA2),(true,rP)]
def dB : Decision:=jd [(true,rA2),(true,rP)]
theorem b0 : zy0 ⟨[]⟩=t1 (jd []):=kc0 (sq0 _) fun g hg=>by rw[fs0];rfl
theorem b1 : zy0 ⟨[rA,rP]⟩=t1 dP:=kc0 (sq0 _) fun g hg=>by
 rw[fs0]
 simp only[List.map_cons,List.map_nil,rA,rP,by0,bw0 hg]
 rfl
theorem b2 : zy0 ⟨[rA2,rP]⟩=t3 dA dB:=kc0 (t3_canon (by decide +kernel)) fun g hg=>by
 rw[fs0,t3_val]
 simp only[List.map_cons,List.map_nil,rA2,rP,by0,bw0 hg,inZ_put hg (show 2<10 by decide)]
 have:=(hg 2 (by decide)).2
 have e:zq0.hi 2=1:=rfl
 by_cases h:1≤g 2
 ·rw[if_pos h,decide_eq_true ⟨h,by omega⟩];rfl
 ·rw[if_neg h,decide_eq_false (by omega)];rfl
def dC : Decision:=jd [(true,rA2),(true,rP),(true,rD)]
def dE : Decision:=jd [(false,rA2),(true,rP),(false,rD)]
def dF : Decision:=jd [(true,rA2),(true,rP),(false,rD)]
theorem b3 : zy0 ⟨[rA2,rP,rD]⟩=t5 dC dE dF:=kc0 (t5_canon (by decide +kernel) (by decide +kernel) (by decide +kernel)) fun g hg=>by
 rw[fs0,t5_val]
 simp only[List.map_cons,List.map_nil,rA2,rP,rD,by0,bw0 hg,inZ_put hg (show 2<10 by decide),inZ_put hg (show 1<10 by decide)]
 have h2:=(hg 2 (by decide)).2
 have h1:=(hg 1 (by decide)).1
 have e:zq0.hi 2=1:=rfl
 have e':zq0.lo 1=0:=rfl
 by_cases h:18≤g 1
 ·rw[if_pos h,decide_eq_false (p:=0≤g 1∧g 1≤17) (by omega)]
  by_cases h':1≤g 2
  ·rw[if_pos h',decide_eq_true (p:=1≤g 2∧g 2≤1) ⟨h',by omega⟩];rfl
  ·rw[if_neg h',decide_eq_false (p:=1≤g 2∧g 2≤1) (by omega)];rfl
 ·rw[if_neg h,decide_eq_true (p:=0≤g 1∧g 1≤17) ⟨by omega,by omega⟩]
  by_cases h':1≤g 2
  ·rw[decide_eq_true (p:=1≤g 2∧g 2≤1) ⟨h',by omega⟩];rfl
  ·rw[decide_eq_false (p:=1≤g 2∧g 2≤1) (by omega)];rfl
theorem g1 : PG ⟨[rA,rP]⟩:=PG0 v1 (by show 2≤10;decide)
theorem g2 : PG ⟨[rA2,rP]⟩:=PG0 v2 (by show 2≤10;decide)
theorem g3 : PG ⟨[rA2,rP,rD]⟩:=PG0 v3 (by show 3≤10;decide)
theorem head_eq : law14_head_g=some true:=by
 have e0:=kq0 g0 v0
 have e1:=kq0 g1 v1
 have e2:=kq0 g2 v2
 have e3:=kq0 g3 v3
 have e4:=ge0 v4
 have k2:=dc0 g2 (A10.mk 0 0 0 0 0 0 0 0 0 0)
 have k3:=dc0 g3 (A10.mk 0 30 1 0 0 0 0 0 1 0)
 have k4:=pm0 g3
 rw[b0] at e0
 rw[b1] at e1
 rw[b2] at e2 k2
 rw[b3] at e3 k3 k4
 rw[t3_val] at k2
 rw[t5_val] at k3
 have i1:io.eq ((0:Int)) 0=true:=by rw[zl0];rfl
 have i2:io.eq ((1:Int)) 1=true:=by rw[zl0];rfl
 have a2:law14_all_g 2 (Range.mk 1 1)=some (zj0.put 2 ⟨1,1⟩):=all_eq (a:=2) (by decide) _
 have a1:law14_all_g 1 (Range.mk 0 17)=some (zj0.put 1 ⟨0,17⟩):=all_eq (a:=1) (by decide) _
 have q1:rl 1 (⟨#[97]⟩) 0 (zj0.put 2 ⟨1,1⟩)=rA2:=rfl
 have q2:rl 3 (⟨#[112]⟩) 100 zj0=rP:=rfl
 have q3:rl 2 (⟨#[100]⟩) 0 (zj0.put 1 ⟨0,17⟩)=rD:=rfl
 have q4:rl 1 (⟨#[97]⟩) 0 zj0=rA:=rfl
 have x0:idxG (ze0 (t1 (jd []))).Leaves 0=some (jd []):=rfl
 have x1:idxG (ze0 (t1 dP)).Leaves 0=some dP:=rfl
 have x2:idxG (ze0 (t3 dA dB)).Nodes 0=some (Node.mk 2 [1] [1,2] 0):=rfl
 have x3:idxG (ze0 (t5 dC dE dF)).Nodes 0=some (Node.mk 1 [18] [1,2] 0):=rfl
 have y0:(jd []).Allowed=false:=rfl
 have y1:dP.Allowed=true:=rfl
 have y2:dP.Price=100:=rfl
 have y3:((if (1:Int)≤toF (A10.mk 0 0 0 0 0 0 0 0 0 0) 2 then dB else dA)).Allowed=false:=rfl
 have y4:((if (18:Int)≤toF (A10.mk 0 30 1 0 0 0 0 0 1 0) 1 then (if (1:Int)≤toF (A10.mk 0 30 1 0 0 0 0 0 1 0) 2 then dF else dE) else dC)).Allowed=true:=rfl
 have n0:((ze0 (t1 (jd []))).Nodes.length:Int)=1:=rfl
 have n1:((ze0 (t1 dP)).Nodes.length:Int)=1:=rfl
 have n2:((ze0 (t3 dA dB)).Nodes.length:Int)=3:=rfl
 have n3:((ze0 (t5 dC dE dF)).Nodes.length:Int)=5:=rfl
 have q2':=rz0 (Node.mk 2 [1] [1,2] 0) (Node.mk 2 [1] [1,2] 0) (by simp) (by simp)
 have q3':=rz0 (Node.mk 1 [18] [1,2] 0) (Node.mk 1 [18] [1,2] 0) (by simp) (by simp)
 unfold law14_head_g
 simp only[jl0,Option.bind_some,a1,a2,rule_eq,q1,q2,q3,q4,e0,e1,e2,e3,e4,zl0,qj0,n0,n1,n2,n3,decide_true,Bool.not_true,cond_false,x0,x1,x2,x3,y0,y1,y2,Bool.not_false,cond_true,zd0,q2',q3',k2,k3,k4,y3,y4,ud0]
end Go.SX.Td
