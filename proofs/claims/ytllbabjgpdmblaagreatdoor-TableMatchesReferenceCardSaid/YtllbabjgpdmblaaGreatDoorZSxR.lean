/- Parts of the proof. -/
import Derived.Test.YtllbabjgpdmblaaGreatDoorZSxN
set_option linter.unusedSimpArgs false
set_option linter.unusedVariables false
set_option linter.unusedSectionVars false
namespace Go.SX
open Go
variable [Tabs]
structure IOps where
 lt:Int→Int→Bool
 le:Int→Int→Bool
 eq:Int→Int→Bool
 ar:BinOp→IntKind→Int→Int→Int
 shl:IntKind→Int→Int→Int
 shr:IntKind→Int→Int→Int
 neg:IntKind→Int→Int
 wrap:IntKind→Int→Int
 mm:Bool→Int→Int→Int
 quo:IntKind→Int→Int→Int
 rem:Int→Int→Int
 beq:Bool→Bool→Bool→Bool
 not:Bool→Bool
 and:Bool→Bool→Bool
 seq:ByteArray→ByteArray→Bool
 slt:ByteArray→ByteArray→Bool
 ssz:ByteArray→Int
 ssub:ByteArray→Int→Int→ByteArray
 len:List (List D)→Int
 app:List (List D)→List (List D)→List (List D)
 sub:List (List D)→Int→Int→List (List D)
 set:List (List D)→Nat→List D→List (List D)
 rep:Int→List D→List (List D)
 take:List (List D)→Int→List (List D)
 clr:List (List D)→Nat→List D→List (List D)
 nat:Int→Nat
 natp:Nat→Int→Nat
 lenR:List (List D)→Nat→Int
 ir0:List (Value×List D)→Value→List D→List (Value×List D)
def sy3 (op:BinOp)(k:IntKind)(a b:Int):Int :=
 match op with
 | .add=>k.wrap (a+b)
 | .sub=>k.wrap (a - b)
 | .mul=>k.wrap (a * b)
 | .and=>k.wrap (BitVec.ofInt k.bits a &&& BitVec.ofInt k.bits b).toNat
 | .or=>k.wrap (BitVec.ofInt k.bits a ||| BitVec.ofInt k.bits b).toNat
 | .xor=>k.wrap (BitVec.ofInt k.bits a ^^^ BitVec.ofInt k.bits b).toNat
 | .andNot=>k.wrap (BitVec.ofInt k.bits a &&& ~~~BitVec.ofInt k.bits b).toNat
 | _=>0
def vt0 : IOps where
 lt a b:=decide (a<b)
 le a b:=decide (a≤b)
 eq a b:=decide (a=b)
 ar:=sy3
 shl k a b:=k.wrap (a * 2 ^ min b.toNat k.bits)
 shr k a b:=a.fdiv (2 ^ min b.toNat k.bits)
 neg k a:=k.wrap (0 - a)
 wrap k a:=k.wrap a
 mm mx a b:=if mx then max a b else min a b
 quo k a b:=k.wrap (a.tdiv b)
 rem a b:=a.tmod b
 beq n a b:=n ^^ (a == b)
 not b:=!b
 and a b:=a&&b
 seq a b:=a.toList == b.toList
 slt a b:=Op.bytesLess a.toList b.toList
 ssz s:=s.size
 ssub s l h:=s.extract l.toNat h.toNat
 len es:=es.length
 app a b:=a++b
 sub es l h:=(es.take h.toNat).drop l.toNat
 set es i d:=es.set i d
 rep n zs:=List.replicate n.toNat zs
 take es h:=es.take h.toNat
 clr es i zs:=es.take i++List.replicate (es.length - i) zs
 nat n:=n.toNat
 natp i n:=i+n.toNat
 lenR es i:=((es.length - i:Nat):Int)
 ir0:=Go.SX.ir0
theorem yw1 : Nonempty { f:IOps // f=vt0 }:=⟨⟨vt0,rfl⟩⟩
noncomputable def io : IOps:=(Classical.choice yw1).1
theorem wr0 : io=vt0:=(Classical.choice yw1).2
theorem mn0 : (Classical.choice yw1).1=vt0:=wr0
theorem x_lt (a b:Int):(Classical.choice yw1).1.lt a b=decide (a<b):=by rw[mn0];rfl
theorem x_eq (a b:Int):(Classical.choice yw1).1.eq a b=decide (a=b):=by rw[mn0];rfl
theorem gz1 (k:IntKind)(a b:Int):(Classical.choice yw1).1.ar .add k a b=k.wrap (a+b):=by rw[mn0];rfl
theorem mg0 (k:IntKind)(a b:Int):(Classical.choice yw1).1.ar .sub k a b=k.wrap (a - b):=by rw[mn0];rfl
theorem zd2 (b:Bool):(Classical.choice yw1).1.not b=!b:=by rw[mn0];rfl
theorem x_len (es:List (List D)):(Classical.choice yw1).1.len es=es.length:=by rw[mn0];rfl
theorem rc2 (es:List (List D))(i:Nat)(d:List D):(Classical.choice yw1).1.set es i d=es.set i d:=by rw[mn0];rfl
theorem zc2 (es:List (List D))(h:Int):(Classical.choice yw1).1.take es h=es.take h.toNat:=by rw[mn0];rfl
theorem zl2 (es:List (List D))(i:Nat)(zs:List D):(Classical.choice yw1).1.clr es i zs=es.take i++List.replicate (es.length - i) zs:=by rw[mn0];rfl
theorem cg0 (i:Nat)(n:Int):(Classical.choice yw1).1.natp i n=i+n.toNat:=by rw[mn0];rfl
theorem cw1 (es:List (List D))(i:Nat):(Classical.choice yw1).1.lenR es i=((es.length - i:Nat):Int):=by rw[mn0];rfl
theorem fj0 (n:Int):(Classical.choice yw1).1.nat n=n.toNat:=by rw[mn0];rfl
noncomputable def bt1 (op:BinOp):SV→SV→Option SV
 | .d (.val (.int k a)),.d (.val (.int k' b)) =>
  match op with
  | .shl=>(match b with | .ofNat n=>some (.d (.val (.int k (io.shl k a (.ofNat n))))) | .negSucc _=>none)
  | .shr=>(match b with | .ofNat n=>some (.d (.val (.int k (io.shr k a (.ofNat n))))) | .negSucc _=>none)
  | op =>
   match decide (k=k') with
   | false=>none
   | true =>
   match op with
   | .add=>some (.d (.val (.int k (io.ar .add k a b))))
   | .sub=>some (.d (.val (.int k (io.ar .sub k a b))))
   | .mul=>some (.d (.val (.int k (io.ar .mul k a b))))
   | .and=>some (.d (.val (.int k (io.ar .and k a b))))
   | .or=>some (.d (.val (.int k (io.ar .or k a b))))
   | .xor=>some (.d (.val (.int k (io.ar .xor k a b))))
   | .andNot=>some (.d (.val (.int k (io.ar .andNot k a b))))
   | .eql=>some (.d (.val (.bool (io.eq a b))))
   | .neq=>some (.d (.val (.bool (io.not (io.eq a b)))))
   | .lss=>some (.d (.val (.bool (io.lt a b))))
   | .leq=>some (.d (.val (.bool (io.le a b))))
   | .gtr=>some (.d (.val (.bool (io.lt b a))))
   | .geq=>some (.d (.val (.bool (io.le b a))))
   | _=>none
 | .d (.val (.string a)),.d (.val (.string b)) =>
  match op with
  | .eql=>some (.d (.val (.bool (io.seq a b))))
  | .neq=>some (.d (.val (.bool (io.not (io.seq a b)))))
  | .lss=>some (.d (.val (.bool (io.slt a b))))
  | .leq=>some (.d (.val (.bool (match io.slt a b with | true=>true | false=>io.seq a b))))
  | .gtr=>some (.d (.val (.bool (io.not (match io.slt a b with | true=>true | false=>io.seq a b)))))
  | .geq=>some (.d (.val (.bool (io.not (io.slt a b)))))
  | _=>none
 | _,_=>none
theorem vm1 (op:BinOp)(x y:SV):bt1 op x y=bs1 op x y:=by
 unfold bt1 bs1;split
 ·rename_i k a k' b;split
  ·rw[wr0]
   cases b with
   | ofNat n=>exact(if_neg (show ¬ (Int.ofNat n<0) by simp)).symm
   | negSucc n=>exact(if_pos (Int.negSucc_lt_zero n)).symm
  ·rw[wr0]
   cases b with
   | ofNat n=>exact(if_neg (show ¬ (Int.ofNat n<0) by simp)).symm
   | negSucc n=>exact(if_pos (Int.negSucc_lt_zero n)).symm
  ·by_cases hk:k=k'
   ·subst hk;simp only[decide_true,ne_eq,not_true_eq_false,if_false];rw[wr0];cases op<;>rfl
   ·simp[hk]
 ·rename_i a b;rw[wr0];cases op<;>first | rfl | (simp only[vt0];cases Op.bytesLess a.toList b.toList<;>rfl)
 ·rename_i h1 h2;split
  ·exact(h1 _ _ _ _ rfl rfl).elim
  ·exact(h2 _ _ rfl rfl).elim
  ·rfl
noncomputable def rc1 : CK→Value→Value→Option Bool
 | .int,.int k a,.int k' b=>(match decide (k=k') with | true=>some (io.eq a b) | false=>none)
 | .bool,.bool a,.bool b=>some (io.beq false a b)
 | .str,.string a,.string b=>some (io.seq a b)
 | _,_,_=>none
theorem rm1 (k:CK)(u v:Value):rc1 k u v=yb1 k u v:=by
 unfold rc1 yb1;rw[wr0];split
 ·rename_i k a k' b;by_cases hk:k=k'
  ·simp[hk,vt0]
  ·simp[hk]
 ·simp[vt0]
 ·rfl
 ·rename_i h1 h2 h3;split
  ·exact(h1 _ _ _ _ rfl rfl rfl).elim
  ·exact(h2 _ _ rfl rfl rfl).elim
  ·exact(h3 _ _ rfl rfl rfl).elim
  ·rfl
noncomputable def ib1 : List CK→List SV→List SV→Option Bool:=tr0 rc1 io.and
theorem bm1 (ks:List CK)(l l':List SV):ib1 ks l l'=az1 ks l l':=by
 have e:rc1=yb1:=funext fun k=>funext fun u=>funext fun v=>rm1 k u v
 have e2:io.and=and:=by rw[wr0];funext a b;rfl
 unfold ib1 az1;rw[e,e2]
noncomputable def bn1 (neg:Bool)(ks:List CK):SV→SV→Option SV
 | .d (.val (.bool a)),.d (.val (.bool b))=>(match ks with | []=>some (.d (.val (.bool (io.beq neg a b)))) | _=>none)
 | .agg cs,.agg cs'=>(match ib1 ks cs cs' with | some b=>some (.d (.val (.bool (match neg with | true=>io.not b | false=>b)))) | none=>none)
 | _,_=>none
theorem vc1 (n:Bool)(ks:List CK)(x y:SV):bn1 n ks x y=ce1 n ks x y:=by
 unfold bn1 ce1;simp only[bm1,wr0,vt0];cases n<;>simp<;>rfl
noncomputable def rj2 (op:UnOp):SV→Option SV
 | .d (.val (.bool b))=>(match op with | .not=>some (.d (.val (.bool (io.not b)))) | _=>none)
 | .d (.val (.int k a))=>(match op with | .neg=>some (.d (.val (.int k (io.neg k a)))) | _=>none)
 | _=>none
theorem sm1 (op:UnOp)(x:SV):rj2 op x=sun op x:=by unfold rj2 sun;rw[wr0];rfl
noncomputable def bp1 (own:List Res)(str:Bool):SV→Option SV
 | .d (.sl es)=>(match str with | true=>none | false=>some (.d (.val (.int .i64 (io.len es)))))
 | .d (.val (.slice _ n _))=>(match str with | true=>none | false=>some (.d (.val (.int .i64 (.ofNat n)))))
 | .d (.val (.string s))=>(match str with | true=>some (.d (.val (.int .i64 (io.ssz s)))) | false=>none)
 | .hd r=>(match str with
  | true=>none
  | false=>match ze0 own r with
   | .row _ _ es=>some (.d (.val (.int .i64 (io.len es))))
   | _=>none)
 | .rs r _ i=>(match str with
  | true=>none
  | false=>match ze0 own r with
   | .row _ _ es=>some (.d (.val (.int .i64 (io.lenR es i))))
   | _=>none)
 | _=>none
theorem vg1 (own:List Res)(str:Bool)(x:SV):bp1 own str x=slen own str x:=by unfold bp1 slen;rw[wr0];cases str<;>rfl
noncomputable def zv2 (mx:Bool):SV→List SV→Option SV
 | v,[]=>(match v with | .d (.val (.int k a))=>some (.d (.val (.int k a))) | _=>none)
 | .d (.val (.int k a)),.d (.val (.int _ b))::l=>zv2 mx (.d (.val (.int k (io.mm mx a b)))) l
 | _,_=>none
theorem si1 (mx:Bool)(l:List SV):∀ x,zv2 mx x l=smm mx x l:=by
 induction l with
 | nil=>intro x;unfold zv2 smm;rfl
 | cons y l ih =>
  intro x;unfold zv2 smm;split<;>simp_all [wr0,vt0]
noncomputable def bl1 (k:IntKind):SV→Option SV
 | .d (.val (.int _ n))=>some (.d (.val (.int k (io.wrap k n))))
 | _=>none
theorem vf1 (k:IntKind)(x:SV):bl1 k x=if1 k x:=by unfold bl1 if1;rw[wr0];rfl
structure IdxS (es:List (List D))(n:Int)(sz:Nat)(K:SV→Prop):Prop where
 lo:0≤n
 hi:n<es.length
 k:∀ ds,es[n.toNat]?=some ds→ds.length=sz∧K (.fp ds)
theorem tn1 (es:List (List D))(n:Int)(sz:Nat)(K:SV→Prop):IdxS es n sz K=(0≤n∧n<es.length∧∀ ds,es[n.toNat]?=some ds→ds.length=sz∧K (.fp ds)):=propext ⟨fun h=>⟨h.1,h.2,h.3⟩,fun h=>⟨h.1,h.2.1,h.2.2⟩⟩
structure RixS (es:List (List D))(n:Int)(K:Unit→Prop):Prop where
 lo:0≤n
 hi:n<es.length
 k:K ()
theorem ub1 (es:List (List D))(n:Int)(K:Unit→Prop):RixS es n K=(0≤n∧n<es.length∧K ()):=propext ⟨fun h=>⟨h.1,h.2,h.3⟩,fun h=>⟨h.1,h.2.1,h.2.2⟩⟩
structure RisS (es:List (List D))(i:Nat)(n:Int)(K:Unit→Prop):Prop where
 lo:0≤n
 hi:i+n<es.length
 k:K ()
theorem tv1 (es:List (List D))(i:Nat)(n:Int)(K:Unit→Prop):RisS es i n K=(0≤n∧i+n<es.length∧K ()):=propext ⟨fun h=>⟨h.1,h.2,h.3⟩,fun h=>⟨h.1,h.2.1,h.2.2⟩⟩
structure RowS (es:List (List D))(i:Nat)(K:List D→Prop):Prop where
 hi:i<es.length
 k:∀ ds,es[i]?=some ds→K ds
theorem ot0 (es:List (List D))(i:Nat)(K:List D→Prop):RowS es i K=(i<es.length∧∀ ds,es[i]?=some ds→K ds):=propext ⟨fun h=>⟨h.1,h.2⟩,fun h=>⟨h.1,h.2⟩⟩
structure DivS (b:Int)(K:Unit→Prop):Prop where
 ne:b≠0
 k:K ()
theorem tu1 (b:Int)(K:Unit→Prop):DivS b K=(b≠0∧K ()):=propext ⟨fun h=>⟨h.1,h.2⟩,fun h=>⟨h.1,h.2⟩⟩
structure AppS (xs ys:List (List D))(sz bytes:Nat)(K:Unit→Prop):Prop where
 sz:∀ ds∈ys,ds.length=sz
 b:(xs.length+ys.length) * bytes≤140737488355328
 l:xs.length+ys.length≤maxLen
 k:K ()
theorem uu1 (xs ys:List (List D))(sz bytes:Nat)(K:Unit→Prop):AppS xs ys sz bytes K=((∀ ds∈ys,ds.length=sz)∧(xs.length+ys.length) * bytes≤140737488355328∧xs.length+ys.length≤maxLen∧K ()):=propext ⟨fun h=>⟨h.1,h.2,h.3,h.4⟩,fun h=>⟨h.1,h.2.1,h.2.2.1,h.2.2.2⟩⟩
structure SlcS (es:List (List D))(l h:Int)(sz:Nat)(K:Unit→Prop):Prop where
 lo:0≤l
 le:l≤h
 hi:h≤es.length
 sz:∀ ds∈es,ds.length=sz
 k:K ()
theorem ux1 (es:List (List D))(l h:Int)(sz:Nat)(K:Unit→Prop):SlcS es l h sz K=(0≤l∧l≤h∧h≤es.length∧(∀ ds∈es,ds.length=sz)∧K ()):=propext ⟨fun h=>⟨h.1,h.2,h.3,h.4,h.5⟩,fun h=>⟨h.1,h.2.1,h.2.2.1,h.2.2.2.1,h.2.2.2.2⟩⟩
structure SubS (s:ByteArray)(l h:Int)(K:Unit→Prop):Prop where
 lo:0≤l
 le:l≤h
 hi:h≤s.size
 k:K ()
theorem uq1 (s:ByteArray)(l h:Int)(K:Unit→Prop):SubS s l h K=(0≤l∧l≤h∧h≤s.size∧K ()):=propext ⟨fun h=>⟨h.1,h.2,h.3,h.4⟩,fun h=>⟨h.1,h.2.1,h.2.2.1,h.2.2.2⟩⟩
structure MksS (n m:Int)(bytes:Nat)(K:Unit→Prop):Prop where
 lo:0≤n
 eq:n=m
 b:n.toNat * bytes≤140737488355328
 l:n≤maxLen
 k:K ()
theorem um1 (n m:Int)(bytes:Nat)(K:Unit→Prop):MksS n m bytes K=(0≤n∧n=m∧n.toNat * bytes≤140737488355328∧n≤maxLen∧K ()):=propext ⟨fun h=>⟨h.1,h.2,h.3,h.4,h.5⟩,fun h=>⟨h.1,h.2.1,h.2.2.1,h.2.2.2.1,h.2.2.2.2⟩⟩
structure PixS (n:Int)(len:Nat)(K:Unit→Prop):Prop where
 lo:0≤n
 hi:n<len
 k:K ()
theorem ug1 (n:Int)(len:Nat)(K:Unit→Prop):PixS n len K=(0≤n∧n<len∧K ()):=propext ⟨fun h=>⟨h.1,h.2,h.3⟩,fun h=>⟨h.1,h.2.1,h.2.2⟩⟩
structure CallS (P:Program)(f:FuncId)(own:List Res)(args:List SV)(K:SV→List Res→Prop):Prop where
 k:mo0 P f own args K
theorem yj1 (P:Program)(f:FuncId)(own:List Res)(args:List SV)(K:SV→List Res→Prop):CallS P f own args K=mo0 P f own args K:=propext ⟨fun h=>h.1,fun h=>⟨h⟩⟩
structure FCallS (P:Program)(f:FuncId)(own:List Res)(args:List SV)(K:SV→Prop):Prop where
 k:ea0 P f own args K
theorem er0 (P:Program)(f:FuncId)(own:List Res)(args:List SV)(K:SV→Prop):FCallS P f own args K=ea0 P f own args K:=propext ⟨fun h=>h.1,fun h=>⟨h⟩⟩
structure LoopS (n0:Nat)(body:List SV→List Res→(DX→List SV→List Res→Prop)→Prop)(env:List SV)(own:List Res)(K:DX→List SV→List Res→Prop):Prop where
 k:LoopN n0 body env own K
theorem wa1 (n0:Nat)(body:List SV→List Res→(DX→List SV→List Res→Prop)→Prop)(env:List SV)(own:List Res)(K:DX→List SV→List Res→Prop):LoopS n0 body env own K=LoopN n0 body env own K:=propext ⟨fun h=>h.1,fun h=>⟨h⟩⟩
noncomputable def bo2 (own:List Res)(sz:Nat)(x i:SV)(K:SV→Prop):Prop :=
 match x,i with
 | .d (.sl es),.d (.val (.int _ n))=>IdxS es n sz K
 | .hd r,.d (.val (.int _ n))=>(match ze0 own r with | .row _ s es=>(match Nat.beq s sz with | true=>RixS es n (fun _=>K (.rp r s (io.nat n) 0)) | false=>False) | _=>False)
 | .rs r s i,.d (.val (.int _ n))=>(match ze0 own r with
  | .row _ s' es=>(match Nat.beq s sz&&Nat.beq s' sz with | true=>RisS es i n (fun _=>K (.rp r s' (io.natp i n) 0)) | false=>False)
  | _=>False)
 | _,_=>False
theorem oq1 (a b:Nat):(Nat.beq a b=true)=(a=b):=by simp[Nat.beq_eq]
theorem oa0 (own:List Res)(sz:Nat)(x i:SV):bo2 own sz x i=da1 own sz x i:=by
 funext K;unfold bo2 da1;simp only[tn1,ub1,tv1];split
 ·rfl
 ·rename_i r k n;simp only[wr0];split
  ·rename_i ty s es hg;cases h:Nat.beq s sz
   ·have:¬ s=sz:=fun e=>by rw[(oq1 s sz).mpr e] at h;cases h
    simp[this,hg]
   ·rw[oq1] at h;simp[h,hg,vt0]
  ·rename_i hg;split<;>simp_all
 ·rename_i r s i0 k n;simp only[wr0];split
  ·rename_i ty s' es hg;cases h:Nat.beq s sz
   ·have:¬ s=sz:=fun e=>by rw[(oq1 s sz).mpr e] at h;cases h
    simp[this,hg]
   ·cases h':Nat.beq s' sz
    ·have:¬ s'=sz:=fun e=>by rw[(oq1 s' sz).mpr e] at h';cases h'
     simp[this,hg]
    ·rw[oq1] at h h';simp[h,h',hg,vt0]
  ·rename_i hg;split<;>simp_all
 ·rename_i h1 h2 h3;split
  ·exact(h1 _ _ _ rfl rfl).elim
  ·exact(h2 _ _ _ rfl rfl).elim
  ·exact(h3 _ _ _ _ _ rfl rfl).elim
  ·rfl
noncomputable def td1 (own:List Res)(sz:Nat)(agg:Bool)(x:SV)(K:SV→Prop):Prop :=
 match x with
 | .rp r s i j=>(match ze0 own r with
  | .row _ s' es=>(match Nat.beq s s' with
   | true=>RowS es i (fun ds=>zb0 (pp0 own sz agg (.fp (ds.drop j))) K)
   | false=>False)
  | _=>False)
 | x=>zb0 (pp0 own sz agg x) K
theorem xt1 {a b:Nat}(h:Nat.beq a b=false):¬ a=b:=fun e=>by rw[(oq1 a b).mpr e] at h;cases h
theorem ck0 {a b:Nat}(h:Nat.beq a b=true):a=b:=(oq1 a b).mp h
theorem ul1 (own:List Res)(sz:Nat)(agg:Bool)(x:SV):td1 own sz agg x=tc0 own sz agg x:=by
 funext K;unfold td1 tc0;simp only[ot0];split
 ·rename_i r s i j;split
  ·rename_i ty s' es hg;cases h:Nat.beq s s'
   ·simp[xt1 h,hg]
   ·simp[ck0 h,hg]
  ·rename_i hg;split<;>simp_all
 ·rename_i h;split
  ·exact(h _ _ _ _ rfl).elim
  ·rfl
noncomputable def rp2 (op:BinOp)(x y:SV)(K:SV→Prop):Prop :=
 match x,y with
 | .d (.val (.int k a)),.d (.val (.int k' b))=>(match decide (k=k') with
  | true=>DivS b (fun _=>K (match op with | .quo=>.d (.val (.int k (io.quo k a b))) | _=>.d (.val (.int k (io.rem a b)))))
  | false=>False)
 | _,_=>False
theorem np1 (op:BinOp)(x y:SV):rp2 op x y=ei1 op x y:=by
 funext K;unfold rp2 ei1;simp only[tu1];split
 ·rename_i k a k' b;simp only[wr0];by_cases hk:k=k'
  ·simp only[hk,decide_true,true_and,vt0];cases op<;>rfl
  ·simp[hk]
 ·rename_i h;split
  ·exact(h _ _ _ _ rfl rfl).elim
  ·rfl
noncomputable def uj1 (own:List Res)(sz:Nat)(x v:SV)(K:List Res→Prop):Prop :=
 match x with
 | .ptr r k=>(match ze0 own r with
  | .cells cs ty=>(match v.flat&&(Nat.beq v.cells.length sz&&(v.cells.all SV.one&&Nat.ble (k+sz) cs.length)) with
   | true=>K (su0 own r (.cells (splice k v.cells cs) ty))
   | false=>False)
  | _=>False)
 | .rp r s i j=>(match ze0 own r with
  | .row ty s' es=>(match Nat.beq s s'&&(v.flat&&(Nat.beq v.cells.length sz&&Nat.ble (j+sz) s)) with
   | true=>(match so0 own v.cells with
    | some ds'=>RowS es i (fun ds=>K (su0 own r (.row ty s (io.set es i (splice j ds' ds)))))
    | none=>False)
   | false=>False)
  | _=>False)
 | _=>False
theorem wr1 (own:List Res)(sz:Nat)(x v:SV):uj1 own sz x v=et0 own sz x v:=by
 funext K;unfold uj1 et0;simp only[ot0]
 cases x with
 | ptr r k =>
  simp only
  cases ze0 own r with
  | cells cs ty =>
   simp only;cases h1:v.flat<;>simp;cases h2:Nat.beq v.cells.length sz
   ·simp[xt1 h2]
   ·simp only[ck0 h2,true_and];cases h3:v.cells.all SV.one
    ·simp at h3;simp;intro h;obtain⟨x,m1,m2⟩:=h3;exact absurd (h x m1) (by simp[m2])
    ·simp at h3;cases h4:Nat.ble (k+sz) cs.length
     ·have:¬ k+sz≤cs.length:=fun e=>by rw[Nat.ble_eq_true_of_le e] at h4;cases h4
      simp[this]
     ·have:=Nat.le_of_ble_eq_true h4;simp[this];exact fun _=>h3
  | _=>rfl
 | rp r s i j =>
  simp only
  cases ze0 own r with
  | row ty s' es =>
   simp only[wr0,vt0];cases h0:Nat.beq s s'
   ·simp[xt1 h0]
   cases h1:v.flat<;>simp;cases h2:Nat.beq v.cells.length sz
   ·simp[xt1 h2]
   cases h4:Nat.ble (j+sz) s
   ·have:¬ j+sz≤s:=fun e=>by rw[Nat.ble_eq_true_of_le e] at h4;cases h4
    simp[this]
   ·have:=Nat.le_of_ble_eq_true h4;obtain rfl:=ck0 h0;simp only[ck0 h2,true_and,this]
    cases so0 own v.cells with
    | none=>simp
    | some ds'=>simp
  | _=>rfl
 | _=>rfl
noncomputable def rh2 (own:List Res)(ty:TypeId)(s:SV)(K:SV→List Res→Prop):Prop :=
 match s.flat&&s.cells.all SV.one with
 | true=>K (.ptr own.length 0) (own++[.cells s.cells ty])
 | false=>False
theorem zq2 (own:List Res)(ty:TypeId)(s:SV):rh2 own ty s=rz2 own ty s:=by
 funext K;unfold rh2 rz2;cases h1:s.flat<;>simp;cases h3:s.cells.all SV.one
 ·simp at h3;simp;intro h;obtain⟨x,m1,m2⟩:=h3;exact absurd (h x m1) (by simp[m2])
 ·simp at h3;simp;exact fun _=>h3
noncomputable def oi0 (own:List Res)(ty sz n:Nat)(es:Option (List (List D)))(K:SV→List Res→Prop):Prop :=
 match es with
 | some es=>(match Nat.beq es.length n&&Nat.ble (n * sz) 16777216 with | true=>K (.hd own.length) (own++[.row ty sz es]) | false=>False)
 | none=>False
theorem bool2 {a b c d:Nat}{X:Prop}:(match Nat.beq a b&&Nat.ble c d with | true=>X | false=>False)=(a=b∧c≤d∧X):=by
 cases h1:Nat.beq a b
 ·simp[xt1 h1]
 ·cases h2:Nat.ble c d
  ·have:¬ c≤d:=fun e=>by rw[Nat.ble_eq_true_of_le e] at h2;cases h2
   simp[this]
  ·simp[ck0 h1,Nat.le_of_ble_eq_true h2]
theorem ee0 (own:List Res)(ty sz n:Nat)(es:Option (List (List D))):oi0 own ty sz n es=sx0 own ty sz n es:=by
 funext K;unfold oi0 sx0
 cases es with
 | none=>rfl
 | some es=>exact bool2
noncomputable def nc0 (sz n:Nat)(es:Option (List (List D)))(R:SV→Prop):Prop :=
 match es with
 | some es=>(match Nat.beq es.length n&&Nat.ble (n * sz) 16777216 with | true=>R (.d (.sl es)) | false=>False)
 | none=>False
noncomputable def rm2 (own:List Res)(ty sz bytes:Nat)(x:SV)(ys:Option (List (List D)))(K:SV→List Res→Prop):Prop :=
 match ys with
 | none=>False
 | some ys =>
  match x with
  | .d (.val (.slice none 0 0))=>AppS [] ys sz bytes (fun _=>K (.hd own.length) (own++[.row ty sz ys]))
  | .hd r=>(match ze0 own r with
   | .row ty' sz' xs=>(match Nat.beq ty' ty&&Nat.beq sz' sz with
    | true=>AppS xs ys sz bytes (fun _=>K (.hd own.length) (su0 own r .gone++[.row ty sz (io.app xs ys)]))
    | false=>False)
   | _=>False)
  | _=>False
theorem nl1 (own:List Res)(ty sz bytes:Nat)(x:SV)(ys:Option (List (List D))):rm2 own ty sz bytes x ys=zz2 own ty sz bytes x ys:=by
 funext K;unfold rm2 zz2;simp only[uu1,List.length_nil,Nat.zero_add]
 cases ys with
 | none=>rfl
 | some ys =>
  simp only;split
  ·rfl
  ·rename_i r;dsimp only
   cases ze0 own r with
   | row ty' sz' xs =>
    simp only[wr0,vt0];cases h1:Nat.beq ty' ty
    ·simp[xt1 h1]
    ·cases h2:Nat.beq sz' sz
     ·simp[xt1 h2]
     ·simp[ck0 h1,ck0 h2]
   | _=>rfl
  ·split
   ·rename_i h1 h2;exact(h1 rfl).elim
   ·rename_i h1 h2;exact(h2 _ rfl).elim
   ·rfl
noncomputable def ry2 (es:List (List D)):Option SV→Option Int
 | none=>some (io.len es)
 | some (.d (.val (.int _ n)))=>some n
 | some _=>none
noncomputable def zf2 (sz:Nat)(x:SV)(lo hi:Option SV)(K:SV→Prop):Prop :=
 match x with
 | .d (.sl es)=>(match bnd (.ofNat 0) lo,ry2 es hi with
  | some l,some h=>SlcS es l h sz (fun _=>K (.d (.sl (io.sub es l h))))
  | _,_=>False)
 | _=>False
theorem ol0 (sz:Nat)(x:SV)(lo hi:Option SV):zf2 sz x lo hi=uw1 sz x lo hi:=by
 funext K;unfold zf2 uw1;simp only[ux1];split
 ·rename_i es;have:ry2 es hi=bnd es.length hi:=by unfold ry2 bnd;rw[wr0];rfl
  rw[this,wr0];rfl
 ·split<;>simp_all
noncomputable def rw2 (s:ByteArray):Option SV→Option Int
 | none=>some (io.ssz s)
 | some (.d (.val (.int _ n)))=>some n
 | some _=>none
noncomputable def md1 (x:SV)(lo hi:Option SV)(K:SV→Prop):Prop :=
 match x with
 | .d (.val (.string s))=>(match bnd (.ofNat 0) lo,rw2 s hi with
  | some l,some h=>SubS s l h (fun _=>K (.d (.val (.string (io.ssub s l h)))))
  | _,_=>False)
 | _=>False
theorem nf0 (x:SV)(lo hi:Option SV):md1 x lo hi=od0 x lo hi:=by
 funext K;unfold md1 od0;simp only[uq1];split
 ·rename_i s;have:rw2 s hi=bnd s.size hi:=by unfold rw2 bnd;rw[wr0];rfl
  rw[this,wr0];rfl
 ·split<;>simp_all
noncomputable def ba2 (own:List Res)(ty sz bytes:Nat)(zs:Option (List D))(l k:SV)(K:SV→List Res→Prop):Prop :=
 match zs,l,k with
 | some zs,.d (.val (.int .i64 n)),.d (.val (.int .i64 m))=>(match Nat.beq zs.length sz with
  | true=>MksS n m bytes (fun _=>K (.hd own.length) (own++[.row ty sz (io.rep n zs)]))
  | false=>False)
 | _,_,_=>False
theorem mo1 (own:List Res)(ty sz bytes:Nat)(zs:Option (List D))(l k:SV):ba2 own ty sz bytes zs l k=tp1 own ty sz bytes zs l k:=by
 funext K;unfold ba2 tp1;simp only[um1];split
 ·rename_i zs n m;rw[wr0];cases h1:Nat.beq zs.length sz
  ·simp[xt1 h1]
  ·simp[ck0 h1,vt0]
 ·split<;>simp_all
noncomputable def nv1 (len sz:Nat)(x i:SV)(K:SV→Prop):Prop :=
 match x,i with
 | .ptr r k,.d (.val (.int _ n))=>PixS n len (fun _=>K (.ptr r (k+io.nat n * sz)))
 | .fp ds,.d (.val (.int _ n))=>PixS n len (fun _=>K (.fp (ds.drop (io.nat n * sz))))
 | _,_=>False
theorem nm0 (len sz:Nat)(x i:SV):nv1 len sz x i=or0 len sz x i:=by
 funext K;unfold nv1 or0;simp only[ug1,wr0];split
 ·rfl
 ·rfl
 ·rename_i h1 h2;split
  ·exact(h1 _ _ _ _ rfl rfl).elim
  ·exact(h2 _ _ _ rfl rfl).elim
  ·rfl
noncomputable def nm1 (P:Program)(x:SV)(own:List Res)(args:List SV)(K:SV→List Res→Prop):Prop :=
 match x with
 | .clo (.func f) first cap=>CallS P f own (first++args++cap) K
 | _=>False
theorem nf1 (P:Program)(x:SV)(own:List Res)(args:List SV)(K:SV→List Res→Prop):nm1 P x own args K=yz1 P x own args K:=by
 cases x with
 | clo fn a b=>cases fn<;>simp only[nm1,yz1,yj1]
 | _=>rfl
noncomputable def kr1 (P:Program)(x:SV)(own:List Res)(args:List SV)(K:SV→Prop):Prop :=
 match x with
 | .clo (.func f) first cap=>FCallS P f own (first++args++cap) K
 | _=>False
theorem dm1 (P:Program)(x:SV)(own:List Res)(args:List SV)(K:SV→Prop):kr1 P x own args K=ng1 P x own args K:=by
 cases x with
 | clo fn a b=>cases fn<;>simp only[kr1,ng1,er0]
 | _=>rfl
structure OrS (A B:Unit→Prop):Prop where
 h:A ()∨B ()
theorem mr1 (A B:Unit→Prop):OrS A B=(A ()∨B ()):=propext ⟨fun h=>h.1,fun h=>⟨h⟩⟩
theorem OrS.data {A B:Unit→Prop}(h:A ()):OrS A B:=⟨.inl h⟩
theorem OrS.own {A B:Unit→Prop}(h:B ()):OrS A B:=⟨.inr h⟩
structure HeadS (es:List (List D))(h:Int)(K:Unit→Prop):Prop where
 lo:0≤h
 hi:h≤es.length
 k:K ()
theorem wu1 (es:List (List D))(h:Int)(K:Unit→Prop):HeadS es h K=(0≤h∧h≤es.length∧K ()):=propext ⟨fun h=>⟨h.1,h.2,h.3⟩,fun h=>⟨h.1,h.2.1,h.2.2⟩⟩
structure NilS (es:List (List D))(K:Bool→Prop):Prop where
 t:es=[]→K true
 f:K false
theorem tw1 (es:List (List D))(K:Bool→Prop):NilS es K=((es=[]→K true)∧K false):=propext ⟨fun h=>⟨h.1,h.2⟩,fun h=>⟨h.1,h.2⟩⟩
def sm3 (own:List Res)(x:SV)(K:Bool→Prop):Prop:=sh3 NilS own x K
theorem qt2 (own:List Res)(x:SV):sm3 own x=br2 own x:=by
 funext K;unfold sm3 br2;rw[show NilS=(fun es K=>(es=[]→K true)∧K false) from funext fun es=>funext fun K=>tw1 es K]
noncomputable def dh1 (own:List Res)(sz:Nat)(x:SV)(lo hi:Option SV)(K:SV→List Res→Prop):Prop :=
 match x with
 | .hd r=>(match ze0 own r with
  | .row ty s es=>(match lo,hi with
   | none,some (.d (.val (.int _ h)))=>HeadS es h (fun _=>K (.hd own.length) (su0 own r .gone++[.row ty s (io.take es h)]))
   | some (.d (.val (.int _ l))),none=>(match Nat.beq s sz with | true=>HeadS es l (fun _=>K (.rs r s (io.nat l)) own) | false=>False)
   | _,_=>False)
  | _=>False)
 | .d d=>tf0 own d lo hi K
 | _=>False
theorem uv1 (own:List Res)(sz:Nat)(x:SV)(lo hi:Option SV)(K:SV→List Res→Prop):dh1 own sz x lo hi K=cv0 own sz x lo hi K:=by
 unfold dh1 cv0;simp only[wu1,wr0]
 cases x with
 | hd r =>
  dsimp only
  cases ze0 own r with
  | row ty s es =>
   dsimp only;split
   ·rfl
   ·rename_i kk l;cases h:Nat.beq s sz
    ·simp[xt1 h]
    ·simp[ck0 h,vt0]
   ·rename_i h1 h2;split
    ·exact(h1 _ _ rfl rfl).elim
    ·exact(h2 _ _ rfl rfl).elim
    ·rfl
  | _=>rfl
 | d d=>rfl
 | _=>rfl
structure ClrS (es:List (List D))(i:Nat)(K:Unit→Prop):Prop where
 hi:i≤es.length
 k:K ()
theorem cz1 (es:List (List D))(i:Nat)(K:Unit→Prop):ClrS es i K=(i≤es.length∧K ()):=propext ⟨fun h=>⟨h.1,h.2⟩,fun h=>⟨h.1,h.2⟩⟩
noncomputable def st3 (own:List Res)(sz:Nat)(zs:Option (List D))(x:SV)(K:List Res→Prop):Prop :=
 match x with
 | .rs r s i=>(match ze0 own r,zs with
  | .row ty s' es,some zs=>(match Nat.beq s sz&&(Nat.beq s' sz&&Nat.beq zs.length sz) with
   | true=>ClrS es i (fun _=>K (su0 own r (.row ty s' (io.clr es i zs))))
   | false=>False)
  | _,_=>False)
 | _=>False
theorem qu2 (own:List Res)(sz:Nat)(zs:Option (List D))(x:SV)(K:List Res→Prop):st3 own sz zs x K=rq2 own sz zs x K:=by
 unfold st3 rq2;simp only[cz1,wr0]
 cases x with
 | rs r s i =>
  dsimp only
  cases ze0 own r with
  | row ty s' es =>
   cases zs with
   | none=>rfl
   | some zs =>
    dsimp only;cases h1:Nat.beq s sz
    ·simp[xt1 h1]
    ·cases h2:Nat.beq s' sz
     ·simp[xt1 h2]
     ·cases h3:Nat.beq zs.length sz
      ·simp[xt1 h3]
      ·simp[ck0 h1,ck0 h2,ck0 h3,vt0]
  | _=>rfl
 | _=>rfl
structure LookS (es:List (Value×List D))(x:Value)(A:List D→Prop)(B:Unit→Prop):Prop where
 yes:∀ ds,fo0 es x=some ds→A ds
 no:fo0 es x=none→B ()
theorem mu1 (es:List (Value×List D))(x:Value)(A:List D→Prop)(B:Unit→Prop):LookS es x A B=((∀ ds,fo0 es x=some ds→A ds)∧(fo0 es x=none→B ())):=propext ⟨fun h=>⟨h.1,h.2⟩,fun h=>⟨h.1,h.2⟩⟩
noncomputable def lk1 : Value→Value→Bool
 | .int k a,.int k' b=>(match decide (k=k') with | true=>io.eq a b | false=>false)
 | x,y=>xw0 x y
theorem lx1 (x y:Value):lk1 x y=xw0 x y:=by
 unfold lk1;rw[wr0];split
 ·rename_i k a k' b;simp only[xw0,vt0];cases decide (k=k')<;>simp
 ·rfl
noncomputable def nz1 : List (Value×SV)→Value→(SV→Prop)→(Unit→Prop)→Prop
 | [],_,_,B=>B ()
 | (k,s)::l,x,A,B=>(match lk1 x k with | true=>A s | false=>nz1 l x A B)
theorem ud1 (x:Value)(A:SV→Prop)(B:Unit→Prop):∀ es:List (Value×SV),nz1 es x A B=((∀ s,fo0 es x=some s→A s)∧(fo0 es x=none→B ()))
 | []=>by simp[nz1,fo0]
 | (k,s)::l=>by
  unfold nz1 fo0;rw[lx1,ud1 x A B l];cases xw0 x k<;>simp
noncomputable def tg1 (own:List Res)(mk:MK)(agg:Bool)(x k v:SV)(K:List Res→Prop):Prop :=
 match x,k with
 | .hd r,.d (.val kv)=>(match ze0 own r with
  | .mp mk' agg' es=>(match decide (mk'=mk)&&((agg' == agg)&&(mk.ok kv&&(v.flat&&(v.isAgg == agg)))) with
   | true=>(match so0 own v.cells with | some ds=>K (su0 own r (.mp mk agg (io.ir0 es kv ds))) | none=>False)
   | false=>False)
  | .mpf mk' es=>(match decide (mk'=mk)&&((false == agg)&&(mk.ok kv&&v.ry1)) with | true=>K (su0 own r (.mpf mk (ir0 es kv v))) | false=>False)
  | _=>False)
 | _,_=>False
theorem uf1 (own:List Res)(mk:MK)(agg:Bool)(x k v:SV)(K:List Res→Prop):tg1 own mk agg x k v K=df1 own mk agg x k v K:=by
 unfold tg1 df1;simp only[wr0,vt0]
 cases x with
 | hd r =>
  cases k with
  | d dd =>
   cases dd with
   | val kv =>
    dsimp only
    cases ze0 own r with
    | mp mk' agg' es =>
     dsimp only
     cases hb:(decide (mk'=mk)&&((agg' == agg)&&(mk.ok kv&&(v.flat&&(v.isAgg == agg))))) with
     | false =>
      simp only[eq_iff_iff,false_iff];rintro ⟨h1,h2,h3,h4,h5,_⟩;simp[h1,h2,h3,h4,h5] at hb
     | true =>
      simp only[qJ,qZ,beq_iff_eq] at hb;obtain⟨h1,h2,h3,h4,h5⟩:=hb;simp only[h1,h2,h3,h4,h5,true_and]
      cases so0 own v.cells with
      | none=>simp
      | some ds=>simp
    | mpf mk' es =>
     dsimp only
     cases hb:(decide (mk'=mk)&&((false == agg)&&(mk.ok kv&&v.ry1))) with
     | false =>
      simp only[eq_iff_iff,false_iff];rintro ⟨h1,h2,h3,h4,_⟩;simp[h1,h2,h3,h4] at hb
     | true =>
      simp only[qJ,qZ,beq_iff_eq] at hb;obtain⟨h1,h2,h3,h4⟩:=hb;simp only[h1,← h2,h3,h4,true_and]
    | _=>rfl
   | sl es=>rfl
  | _=>rfl
 | _=>rfl
noncomputable def tc1 (own:List Res)(mk:MK)(agg ok:Bool)(z x k:SV)(K:SV→Prop):Prop :=
 match k with
 | .d (.val kv)=>(match x with
  | .hd r=>(match ze0 own r with
   | .mp mk' agg' es=>(match decide (mk'=mk)&&((agg' == agg)&&mk.ok kv) with
    | true=>LookS es kv (fun ds=>K (yv1 ok (dsv agg ds) true)) (fun _=>K (yv1 ok z false))
    | false=>False)
   | .mpf mk' es=>(match decide (mk'=mk)&&((false == agg)&&mk.ok kv) with | true=>nz1 es kv (fun s=>K (yv1 ok s true)) (fun _=>K (yv1 ok z false)) | false=>False)
   | _=>False)
  | .d (.val (.map none))=>(match mk.ok kv with | true=>K (yv1 ok z false) | false=>False)
  | _=>False)
 | _=>False
theorem uc1 (own:List Res)(mk:MK)(agg ok:Bool)(z x k:SV)(K:SV→Prop):tc1 own mk agg ok z x k K=tm0 own mk agg ok z x k K:=by
 unfold tc1 tm0;simp only[mu1]
 cases k with
 | d dd =>
  cases dd with
  | val kv =>
   dsimp only
   cases x with
   | hd r =>
    dsimp only
    cases ze0 own r with
    | mp mk' agg' es =>
     dsimp only
     cases hb:(decide (mk'=mk)&&((agg' == agg)&&mk.ok kv)) with
     | false =>
      simp only[eq_iff_iff,false_iff];rintro ⟨h1,h2,h3,_⟩;simp[h1,h2,h3] at hb
     | true =>
      simp only[qJ,qZ,beq_iff_eq] at hb;obtain⟨h1,h2,h3⟩:=hb;simp only[h1,h2,h3,true_and]
    | mpf mk' es =>
     dsimp only
     cases hb:(decide (mk'=mk)&&((false == agg)&&mk.ok kv)) with
     | false =>
      simp only[eq_iff_iff,false_iff];rintro ⟨h1,h2,h3,_⟩;simp[h1,h2,h3] at hb
     | true =>
      simp only[qJ,qZ,beq_iff_eq] at hb;obtain⟨h1,h2,h3⟩:=hb;simp only[h1,← h2,h3,true_and,ud1]
    | _=>rfl
   | d dx =>
    cases dx with
    | sl es=>rfl
    | val u =>
     cases u with
     | map m =>
      cases m with
      | none=>dsimp only;cases mk.ok kv<;>simp
      | some b=>rfl
     | _=>rfl
   | _=>rfl
  | sl es=>rfl
 | _=>rfl
noncomputable def opC (P:Program)(d:DOp)(env:List SV)(own:List Res)(K:SV→List Res→Prop):Prop :=
 match d with
 | .mv x=>K (evn own env x) own
 | .pick c a b=>zb0 (yl1 (evn own env c) (evn own env a) (evn own env b)) (fun sv=>K sv own)
 | .bin op x y=>zb0 (bt1 op (evn own env x) (evn own env y)) (fun sv=>K sv own)
 | .beq n ks x y=>zb0 (bn1 n ks (evn own env x) (evn own env y)) (fun sv=>K sv own)
 | .fnil n x y=>zb0 (yr1 n (evn own env x) (evn own env y)) (fun sv=>K sv own)
 | .snl n x=>sm3 own (evn own env x) (fun b=>K (.d (.val (.bool (match n with | true=>io.not b | false=>b)))) own)
 | .capn x=>zb0 (scap (evn own env x)) (fun sv=>K sv own)
 | .nope=>False
 | .idxV n sz agg x i=>cy0 n sz agg (evn own env x) (evn own env i) (fun sv=>K sv own)
 | .idxS x i=>ax0 (evn own env x) (evn own env i) (fun sv=>K sv own)
 | .b2s x=>no1 (src own (evn own env x)) (fun sv=>K sv own)
 | .un op x=>zb0 (rj2 op (evn own env x)) (fun sv=>K sv own)
 | .cvi k x=>zb0 (bl1 k (evn own env x)) (fun sv=>K sv own)
 | .fadd off x=>zb0 (tn0 off (evn own env x)) (fun sv=>K sv own)
 | .fld off sz agg x=>zb0 (nt1 off sz agg (evn own env x)) (fun sv=>K sv own)
 | .len s x=>zb0 (bp1 own s (evn own env x)) (fun sv=>K sv own)
 | .ext x i=>zb0 (cr1 i (evn own env x)) (fun sv=>K sv own)
 | .mkfn fn fs cs=>K (.clo fn (fs.map (evn own env)) (cs.map (evn own env))) own
 | .mm mx x xs=>zb0 (zv2 mx (evn own env x) (xs.map (evn own env))) (fun sv=>K sv own)
 | .nilck x=>zb0 (se1 (evn own env x)) (fun sv=>K sv own)
 | .build z ps=>zb0 (bw0 (cval z) (ps.map fun p=>(p.1,evn own env p.2))) (fun sv=>K sv own)
 | .load sz agg x=>td1 own sz agg (evn own env x) (fun sv=>K sv own)
 | .div op x y=>rp2 op (evn own env x) (evn own env y) (fun sv=>K sv own)
 | .idxA sz x i=>bo2 own sz (evn own env x) (evn own env i) (fun sv=>K sv own)
 | .idxP n sz x i=>nv1 n sz (evn own env x) (evn own env i) (fun sv=>K sv own)
 | .store sz x v=>uj1 (ey1 own (evn own env x) (evn own env v)) sz (evn own env x) (evn (ey1 own (evn own env x) (evn own env v)) env v) (fun own'=>K (.tup []) own')
 | .alloc ty z=>rh2 own ty (cval z) K
 | .box ty x=>rh2 own ty (evn own env x) K
 | .bslice ty sz n _ ps=>oi0 (sr0 own (ps.map fun p=>evn own env p.2)) ty sz n (bsl (sr0 own (ps.map fun p=>evn own env p.2)) sz 0 (ps.map fun p=>(p.1,evn own env p.2))) K
 | .app ty sz bytes _ x y=>rm2 own ty sz bytes (evn own env x) (src own (evn own env y)) K
 | .slc sz x lo hi=>(match evn own env x with
  | .hd r=>OrS (fun _=>zf2 sz (evn (ai0 own (evn own env x)) env x) (lo.map (evn own env)) (hi.map (evn own env)) (fun sv=>K sv (ai0 own (evn own env x)))) (fun _=>dh1 own sz (.hd r) (lo.map (evn own env)) (hi.map (evn own env)) K)
  | .d (.val (.slice none 0 0))=>dh1 own sz (.d (.val (.slice none 0 0))) (lo.map (evn own env)) (hi.map (evn own env)) K
  | _=>zf2 sz (evn (ai0 own (evn own env x)) env x) (lo.map (evn own env)) (hi.map (evn own env)) (fun sv=>K sv (ai0 own (evn own env x))))
 | .slcS x lo hi=>md1 (evn own env x) (lo.map (evn own env)) (hi.map (evn own env)) (fun sv=>K sv own)
 | .appz ty sz bytes z x n=>nk1 (evn own env x) (ba2 own ty sz bytes (so0 own (cval z).cells) (evn own env n) (evn own env n) K)
 | .mks ty sz bytes z l k=>ba2 own ty sz bytes (so0 own (cval z).cells) (evn own env l) (evn own env k) K
 | .call f args=>CallS P f own (args.map (evn own env)) K
 | .callv x args=>nm1 P (evn own env x) own (args.map (evn own env)) K
 | .clr sz z x=>st3 own sz (so0 own (cval z).cells) (evn own env x) (fun own'=>K (.tup []) own')
 | .mkm mk agg=>K (.hd own.length) (own++[.mp mk agg []])
 | .mkf mk=>K (.hd own.length) (own++[.mpf mk []])
 | .mset mk agg x k v=>tg1 (ai0 own (evn own env v)) mk agg (evn own env x) (kvS (evn own env k)) (evn (ai0 own (evn own env v)) env v) (fun own'=>K (.tup []) own')
 | .fo0 mk agg ok z x k=>tc1 own mk agg ok (cval z) (evn own env x) (kvS (evn own env k)) (fun sv=>K sv own)
theorem qm1 (env:List SV)(own:List Res)(sz:Nat)(x:Operand)(lo hi:Option SV)(K:SV→List Res→Prop) :
  (match evn own env x with
  | .hd r=>(uw1 sz (evn (ai0 own (evn own env x)) env x) lo hi (fun sv=>K sv (ai0 own (evn own env x)))∨cv0 own sz (.hd r) lo hi K)
  | .d (.val (.slice none 0 0))=>cv0 own sz (.d (.val (.slice none 0 0))) lo hi K
  | _=>uw1 sz (evn (ai0 own (evn own env x)) env x) lo hi (fun sv=>K sv (ai0 own (evn own env x))))=(uw1 sz (evn (ai0 own (evn own env x)) env x) lo hi (fun sv=>K sv (ai0 own (evn own env x)))∨cv0 own sz (evn own env x) lo hi K):=by
 generalize hv:evn own env x=v;split
 ·rfl
 ·have:evn (ai0 own (.d (.val (.slice none 0 0)))) env x=.d (.val (.slice none 0 0)):=hv;rw[this];simp[uw1]
 ·rename_i h1 h2;have:cv0 own sz v lo hi K=False:=by
   unfold cv0;split
   ·exact(h1 _ rfl).elim
   ·unfold tf0;split
    ·exact(h2 rfl).elim
    ·rfl
   ·rfl
  rw[this,or_false]
theorem ai1 (P:Program)(d:DOp)(env:List SV)(own:List Res)(K:SV→List Res→Prop):opC P d env own K=opN P d env own K:=by
 cases d<;>simp only[opC,opN,vm1,vc1,sm1,vf1,vg1,si1,ul1,np1,oa0,wr1,zq2,ee0,nl1,ol0,nf0,mo1,nm0,uf1,uc1,sc3,yj1,nf1,qu2,mr1,uv1,qt2]
 case snl n x =>
  congr 1;funext b;cases n<;>cases b<;>simp[wr0,vt0]
 case slc sz x lo hi=>exact qm1 _ _ _ _ _ _ _
noncomputable def fnC (P:Program)(d:DOp)(env:List SV)(own:List Res)(R:SV→Prop):Prop :=
 match d with
 | .mv x=>R (evn own env x)
 | .pick c a b=>zb0 (yl1 (evn own env c) (evn own env a) (evn own env b)) R
 | .bin op x y=>zb0 (bt1 op (evn own env x) (evn own env y)) R
 | .beq n ks x y=>zb0 (bn1 n ks (evn own env x) (evn own env y)) R
 | .fnil n x y=>zb0 (yr1 n (evn own env x) (evn own env y)) R
 | .capn x=>zb0 (scap (evn own env x)) R
 | .idxV n sz agg x i=>cy0 n sz agg (evn own env x) (evn own env i) R
 | .idxS x i=>ax0 (evn own env x) (evn own env i) R
 | .b2s x=>no1 (src own (evn own env x)) R
 | .un op x=>zb0 (rj2 op (evn own env x)) R
 | .cvi k x=>zb0 (bl1 k (evn own env x)) R
 | .fadd off x=>zb0 (tn0 off (evn own env x)) R
 | .fld off sz agg x=>zb0 (nt1 off sz agg (evn own env x)) R
 | .len s x=>zb0 (bp1 own s (evn own env x)) R
 | .ext x i=>zb0 (cr1 i (evn own env x)) R
 | .mkfn fn fs cs=>R (.clo fn (fs.map (evn own env)) (cs.map (evn own env)))
 | .mm mx x xs=>zb0 (zv2 mx (evn own env x) (xs.map (evn own env))) R
 | .nilck x=>zb0 (se1 (evn own env x)) R
 | .build z ps=>zb0 (bw0 (cval z) (ps.map fun p=>(p.1,evn own env p.2))) R
 | .load sz agg x=>td1 own sz agg (evn own env x) R
 | .div op x y=>rp2 op (evn own env x) (evn own env y) R
 | .idxA sz x i=>bo2 own sz (evn own env x) (evn own env i) R
 | .idxP n sz x i=>nv1 n sz (evn own env x) (evn own env i) R
 | .slc sz x lo hi=>zf2 sz (evn own env x) (lo.map (evn own env)) (hi.map (evn own env)) R
 | .slcS x lo hi=>md1 (evn own env x) (lo.map (evn own env)) (hi.map (evn own env)) R
 | .call f args=>FCallS P f own (args.map (evn own env)) R
 | .callv x args=>kr1 P (evn own env x) own (args.map (evn own env)) R
 | .bslice _ sz n _ ps=>nc0 sz n (bsl own sz 0 (ps.map fun p=>(p.1,evn own env p.2))) R
 | .fo0 mk agg ok z x k=>tc1 own mk agg ok (cval z) (evn own env x) (kvS (evn own env k)) R
 | _=>False
theorem ep1 (P:Program)(d:DOp)(env:List SV)(own:List Res)(R:SV→Prop):fnC P d env own R=fnN P d env own R:=by
 cases d<;>simp only[fnC,fnN,vm1,vc1,sm1,vf1,vg1,si1,ul1,np1,oa0,ol0,nf0,nm0,uc1,er0,dm1,ea0]
 case bslice ty sz n z ps =>
  unfold nc0
  cases bsl own sz 0 (ps.map fun p=>(p.1,evn own env p.2)) with
  | none=>rfl
  | some es=>exact bool2
 case callv=>rfl
noncomputable def td0 (g:Option (Nat×Bool))(env:List SV)(A B:List SV→Prop):Prop :=
 match g with
 | none=>A env
 | some (s,want) =>
  match jh0 env s with
  | .d (.val (.bool b))=>(match want with
   | true=>(match b with | true=>A (ix0 env s (.d (.val (.bool true)))) | false=>B (ix0 env s (.d (.val (.bool false)))))
   | false=>(match b with | true=>B (ix0 env s (.d (.val (.bool true)))) | false=>A (ix0 env s (.d (.val (.bool false))))))
  | .tup []=>B env
  | _=>False
theorem sj0 (g:Option (Nat×Bool))(env:List SV)(A B:List SV→Prop):td0 g env A B=jc0 g env A B:=by
 cases g with
 | none=>rfl
 | some g =>
  obtain⟨s,want⟩:=g;simp only[td0,jc0];generalize jh0 env s=v;split
  ·rename_i b;cases want<;>cases b<;>simp
  ·rfl
  ·rename_i h1 h2;split
   ·exact(h1 _ rfl).elim
   ·exact(h2 rfl).elim
   ·rfl
noncomputable def zo2 (P:Program):List GOp→List SV→List Res→(List SV→List Res→Prop)→Prop
 | [],env,own,K=>K env own
 | g::l,env,own,K =>
  td0 g.guard env (fun env=>opC P g.op env own (fun sv own'=>zo2 P l (fi0 env g.dst sv) own' K)) (fun env=>zo2 P l (fi0 env g.dst (.tup [])) own K)
theorem il1 (P:Program)(l:List GOp):∀ (env:List SV)(own:List Res)(K:List SV→List Res→Prop),zo2 P l env own K=run P l env own K:=by
 induction l with
 | nil=>intro env own K;rfl
 | cons g l ih=>intro env own K;simp only[zo2,run,sj0,ai1,ih]
noncomputable def gd1 (P:Program):List GOp→List SV→List Res→(List SV→Prop)→Prop
 | [],env,_,K=>K env
 | g::l,env,own,K =>
  td0 g.guard env (fun env=>fnC P g.op env own (fun sv=>gd1 P l (fi0 env g.dst sv) own K)) (fun env=>gd1 P l (fi0 env g.dst (.tup [])) own K)
theorem be1 (P:Program)(l:List GOp):∀ (env:List SV)(own:List Res)(K:List SV→Prop),gd1 P l env own K=yk1 P l env own K:=by
 induction l with
 | nil=>intro env own K;rfl
 | cons g l ih=>intro env own K;simp only[gd1,yk1,sj0,ep1,ih]
noncomputable def cq1 (c:SV)(A B:Unit→Prop):Prop :=
 match c with
 | .d (.val (.bool b))=>(match b with | true=>A () | false=>B ())
 | _=>False
theorem ue1 (c:SV)(A B:Unit→Prop):cq1 c A B=dl1 c (A ()) (B ()):=by
 unfold cq1 dl1;split
 ·rename_i b;cases b<;>simp
 ·rename_i h;split
  ·exact(h _ rfl).elim
  ·rfl
noncomputable def wpC (P:Program)(n0:Nat):DC→List SV→List Res→(DX→List SV→List Res→Prop)→Prop
 | .skip,env,own,K=>K .normal env own
 | .reg gs,env,own,K=>zo2 P gs env own (fun env own=>K .normal env own)
 | .par _ _ _ _ gs,env,own,K=>(match gs.any GOp.uk0 with
  | true=>(match kr0 env.length gs with
   | true=>gd1 P (gs.map GOp.blank) env own (fun env'=>ws1 gs env' own gs env' own (fun env own=>K .normal env own))
   | false=>False)
  | false=>gd1 P gs env own (fun env=>K .normal env own))
 | .seq a b,env,own,K=>wpC P n0 a env own (fun e env' own'=>match e with | .normal=>wpC P n0 b env' own' K | e=>K e env' own')
 | .cond c x y,env,own,K=>cq1 (evn own env c) (fun _=>wpC P n0 x env own K) (fun _=>wpC P n0 y env own K)
 | .block id c,env,own,K=>wpC P n0 c env own (fun e env' own'=>match e with | .exit id'=>(match Nat.beq id' id with | true=>K .normal env' own' | false=>K (.exit id') env' own') | e=>K e env' own')
 | .loop c,env,own,K=>LoopS n0 (wpC P n0 c) env own K
 | .exit id,env,own,K=>K (.exit id) env own
 | .ret,env,own,K=>K .ret env own
theorem zn2 (P:Program)(n0:Nat)(c:DC):wpC P n0 c=wpD P n0 c:=by
 induction c with
 | skip=>rfl
 | reg gs=>funext env own K;simp only[wpC,wpD,il1]
 | par hy hl hs tl gs =>
  funext env own K;simp only[wpC,wpD,be1]
  cases gs.any GOp.uk0 with
  | false=>rfl
  | true =>
   cases kr0 env.length gs with
   | false=>rfl
   | true=>rfl
 | seq a b iha ihb =>
  funext env own K;simp only[wpC,wpD,iha,ihb];congr 1
 | cond c x y ihx ihy=>funext env own K;simp only[wpC,wpD,ue1,ihx,ihy]
 | block id c ih =>
  funext env own K;simp only[wpC,wpD,ih];congr 1;funext e env' own'
  cases e with
  | exit id' =>
   simp only;cases h:Nat.beq id' id
   ·simp[xt1 h]
   ·simp[ck0 h]
  | _=>rfl
 | loop c ih=>funext env own K;simp only[wpC,wpD,ih,wa1]
 | exit id=>rfl
 | ret=>rfl
theorem cr0 {P:Program}{f:FuncId}{df:DFn}{own:List Res}{args:List SV}{K:SV→List Res→Prop}(hf:zv0 P f=some df)
  (h:wpC P own.length df.code (pad df.ntmps args) own (dc1 df.res K)):qe0 P f own args K:=gh1 hf (by rw[← zn2];exact h)
theorem brk {b:Bool}{A B:Prop}:(b=true→A)→(b=false→B)→(match b with | true=>A | false=>B):=by
 cases b
 ·exact fun _ h=>h rfl
 ·exact fun h _=>h rfl
theorem qe0.walk {P:Program}{f:FuncId}{df:DFn}{args:List SV}{K0:SV→List Res→Prop}(hf:zv0 P f=some df)
  (h:∀ K:SV→List Res→Prop,(∀ sv own',K0 sv own'→K sv own')→wpC P 0 df.code (pad df.ntmps args) [] (dc1 df.res K)):qe0 P f [] args K0:=cr0 hf (h K0 fun _ _ h=>h)
def Fn1 (P:Program)(f:FuncId)(args:List SV)(s:SV):Prop:=qe0 P f [] args (fun sv _=>sv=s)
theorem Fn1.walk {P:Program}{f:FuncId}{df:DFn}{args:List SV}{s:SV}(hf:zv0 P f=some df)
  (h:∀ K:SV→List Res→Prop,(∀ sv own',sv=s→K sv own')→wpC P 0 df.code (pad df.ntmps args) [] (dc1 df.res K)):Fn1 P f args s:=qe0.walk hf h
theorem IdxS.map {α:Type}{enc:α→List D}{xs:List α}{es:List (List D)}{n:Int}{sz:Nat}{K:SV→Prop}(he:es=xs.map enc)(h0:0≤n)(h1:n<xs.length)(hsz:∀ x,(enc x).length=sz)
  (hk:∀ x,xs[n.toNat]?=some x→K (.fp (enc x))):IdxS es n sz K:=by
 subst he;refine⟨h0,by simpa using h1,fun ds hd=>?_⟩;rw[qH,Option.map_eq_some_iff] at hd;obtain⟨x,hx,rfl⟩:=hd;exact⟨hsz x,hk x hx⟩
theorem RowS.map {α:Type}{enc:α→List D}{xs:List α}{es:List (List D)}{i:Nat}{K:List D→Prop}(he:es=xs.map enc)(h1:i<xs.length)
  (hk:∀ x,xs[i]?=some x→K (enc x)):RowS es i K:=by
 subst he;refine⟨by simpa using h1,fun ds hd=>?_⟩;rw[qH,Option.map_eq_some_iff] at hd;obtain⟨x,hx,rfl⟩:=hd;exact hk x hx
theorem CallS.own {P:Program}{f:FuncId}{own:List Res}{args:List SV}{K K0:SV→List Res→Prop}(h:qe0 P f own args K0)(hK:∀ sv own',K0 sv own'→K sv own'):CallS P f own args K:=⟨.own (h.mono hK)⟩
theorem CallS.fn {P:Program}{f:FuncId}{own:List Res}{args:List SV}{K:SV→List Res→Prop}{sv:SV}(h:qe0 P f own args (fun sv' own'=>sv'=sv∧own'=own))(hK:K sv own):CallS P f own args K:=⟨.fn h hK⟩
theorem FCallS.fn {P:Program}{f:FuncId}{own:List Res}{args:List SV}{R:SV→Prop}{sv:SV}(h:qe0 P f own args (fun sv' own'=>sv'=sv∧own'=own))(hR:R sv):FCallS P f own args R:=⟨.mk h hR⟩
theorem CallS.f1 {P:Program}{f:FuncId}{own:List Res}{args:List SV}{K:SV→List Res→Prop}{s:SV}(h:Fn1 P f args s)(ha:kv0 args=true)(hs:s.closed=true)(hK:K s own):CallS P f own args K:=.fn (h.fn ha hs) hK
theorem FCallS.f1 {P:Program}{f:FuncId}{own:List Res}{args:List SV}{R:SV→Prop}{s:SV}(h:Fn1 P f args s)(ha:kv0 args=true)(hs:s.closed=true)(hR:R s):FCallS P f own args R:=.fn (h.fn ha hs) hR
theorem Sat.od1 {c:Cx}{own:List Res}{w:World}(h:Sat c own w){r:Nat}{ty:TypeId}{cs:List SV}{ds:List D}(hx:own[r]?=some (.cells cs ty))(hd:so0 own cs=some ds):Ons c own w (own.set r (.fzc ds)):=by
 have hrlt:r<own.length:=(qA.1 hx).1;have hget:∀ (s:Nat) y,(own.set r (.fzc ds))[s]?=some y→y.live=true→s≠r∧own[s]?=some y:=fun s y hy hl=>by
  rw[List.getElem?_set] at hy;split at hy
  ·rename_i e;subst e;simp[] at hy;subst hy;simp[Res.live] at hl
  ·rename_i e;exact⟨fun e'=>e e'.symm,hy⟩
 have hget2:∀ (s:Nat) y,(own.set r (.fzc ds))[s]?=some y→(s=r∧y=.fzc ds)∨own[s]?=some y:=fun s y hy=>by
  rw[List.getElem?_set] at hy;split at hy
  ·rename_i e;subst e;simp[] at hy;exact .inl ⟨rfl,hy.symm⟩
  ·exact .inr hy
 obtain⟨b,us,hv,hb,hs,hc⟩:=h.res r _ hx;have hblk:yc0 (c.θ r)=some b:=by rw[hv];rfl
 have hnF:c.F b=none:=h.notF r _ b hx rfl hblk;have hcle:c.le (c.frz b (.cells us ty (0,0))):=Cx.ly1 hnF;have hown:Own c own b:=⟨r,_,hx,rfl,hblk⟩;have hrel:we0 c cs us.toList:=⟨by simpa using hs,fun i s u h1 h2=>by
  obtain⟨u',k1,_,k3⟩:=hc i s h1;simp only[Array.getElem?_toList] at h2;rw[k1] at h2;cases h2;exact k3⟩
 obtain⟨_,hds⟩:=fs0 h cs hrel hd;have hrep:Rel (c.frz b (.cells us ty (0,0))) (.fp ds) (c.θ r):=by
  rw[hv];refine .fp (cs:=us) (e:=ty) (fr:=(0,0)) (by simp[Cx.frz]) fun j d hj=>?_
  obtain⟨u,h1,h2⟩:=hds j d hj;exact⟨u,by simpa using h1,h2.mono hcle.f⟩
 refine⟨c.frz b (.cells us ty (0,0)),⟨by simp[h.n,Cx.frz],fun s y hy=>?_,fun s t y z k hy hz hly hlz hk hk'=>?_,fun s y k hy hly hk=>?_,?_,h.one,Tabs.mono hcle.f h.tab⟩,hcle,
  ⟨rfl,rfl,rfl,qV _,fun _ _ _=>rfl,?_,?_,hcle.f⟩⟩
 ·rcases hget2 s y hy with ⟨rfl,rfl⟩ | hy
  ·exact hrep
  ·exact(h.res s y hy).keep hcle (fun _ _ _=>rfl)
 ·exact h.apart s t y z k (hget s y hy hly).2 (hget t z hz hlz).2 hly hlz hk hk'
 ·obtain⟨hne,hy'⟩:=hget s y hy hly;simp only[Cx.frz];split
  ·rename_i e;subst e;exact absurd (h.apart s r y _ k hy' hx hly rfl hk hblk) hne
  ·exact h.notF s y k hy' hly hk
 ·intro k o hk;simp only[Cx.frz] at hk;split at hk
  ·rename_i e;subst e;cases hk;exact hb
  ·exact h.le k o hk
 ·intro k hk;simp only[Cx.frz] at hk;split at hk
  ·rename_i e;subst e;exact .inr (.inr hown)
  ·exact .inl hk
 ·rintro k ⟨s,y,hy,hly,hk⟩;exact .inl ⟨s,y,(hget s y hy hly).2,hly,hk⟩
theorem dx1 {own:List Res}{r:Nat}{cs:List SV}{ty:TypeId}(h:ze0 own r=.cells cs ty)(s:SV):ze0 (oc1 own s) r=.cells cs ty:=by
 unfold oc1;split
 ·rename_i q;split
  ·rename_i hq;by_cases e:q=r
   ·subst e;rw[h] at hq;cases hq
   ·rw[vj0,wd0,List.getElem?_set_ne e,← wd0];exact h
  ·exact h
 ·exact h
theorem kz1 {r:Nat}{cs:List SV}{ty:TypeId}(l:List SV):∀ {own:List Res},ze0 own r=.cells cs ty→ze0 (kj1 own l) r=.cells cs ty:=by
 induction l with
 | nil=>intro own h;exact h
 | cons s l ih=>intro own h;exact ih (dx1 h s)
def zp2 (own:List Res)(r:Nat):List Res :=
 match ze0 own r with
 | .cells cs _=>(match so0 (kj1 own cs) cs with | some ds=>su0 (kj1 own cs) r (.fzc ds) | none=>own)
 | _=>own
theorem om1 (own:List Res)(r:Nat):lg0 own (zp2 own r):=fun c w hS=>by
 unfold zp2;split
 ·rename_i cs ty hg;split
  ·rename_i ds hd;refine(xm1 cs hS).trans fun c1 h1=>?_
   have hg:=kz1 cs hg;rw[wd0] at hg
   cases hx:(kj1 own cs)[r]? with
   | none=>simp[hx] at hg
   | some y =>
    simp[hx] at hg;subst hg;rw[vj0];exact h1.od1 hx hd
  ·exact .refl hS
 ·exact .refl hS
def rc0 (own:List Res):List Nat→List Res
 | []=>own
 | r::l=>rc0 (zp2 own r) l
theorem lg0.trans {a b c:List Res}(h:lg0 a b)(k:lg0 b c):lg0 a c:=fun c0 w hS=>(h c0 w hS).trans fun c1 h1=>k c1 w h1
theorem sn0 (l:List Nat):∀ own:List Res,lg0 own (rc0 own l):=by
 induction l with
 | nil=>intro own c w hS;exact .refl hS
 | cons r l ih=>intro own;exact(om1 own r).trans (ih _)
def co1 : SV→SV
 | .d (.val (.slice none 0 0))=>.d (.sl [])
 | s=>s
theorem nx0 {c:Cx}{s:SV}{u:Value}(h:Rel c s u):Rel c (co1 s) u:=by
 unfold co1;split
 ·rw[h.zz0];exact .d (.nil _ _ (fun _=>rfl))
 ·exact h
theorem qe0.arg {P:Program}{f:FuncId}{own:List Res}{args args1:List SV}{K:SV→List Res→Prop}(h:qe0 P f own args1 K)(ha:tl0 own args args1):qe0 P f own args K :=
 ⟨h.1,fun c w us hS hr=>h.2 c w us hS (ha c w us hS hr)⟩
theorem qe0.z {P:Program}{f:FuncId}{own:List Res}{args:List SV}{K:SV→List Res→Prop}(h:qe0 P f own (args.map co1) K):qe0 P f own args K:=h.arg (.map _ fun _ _ _ _ _ h=>nx0 h)
def ci1 (own:List Res):SV→SV
 | .clo fn fs cs=>.clo fn (fs.map (nrm own)) (cs.map (nrm own))
 | s=>co1 (nrm own s)
theorem it0 {c:Cx}{own:List Res}{w:World}(hS:Sat c own w){s:SV}{u:Value}(h:Rel c s u):Rel c (ci1 own s) u:=by
 unfold ci1;split
 ·obtain⟨us,vs,rfl,h2,h3⟩:=Rel.vm0.1 h;exact Rel.vm0.2 ⟨us,vs,rfl,tl0.nrm own _ c w us hS h2,tl0.nrm own _ c w vs hS h3⟩
 ·exact nx0 (km0 hS h)
theorem CallS.zp2 {P:Program}{f:FuncId}{own:List Res}{args:List SV}{K K0:SV→List Res→Prop}(rs:List Nat)(h:qe0 P f (rc0 (sr0 own args) rs) (args.map (ci1 (rc0 (sr0 own args) rs))) K0)(hK:∀ sv own',K0 sv own'→K sv own'):CallS P f own args K :=
 ⟨⟨_,_,lg0.trans (fun _ _ hS=>xl0 args hS) (sn0 rs _),.map _ fun _ _ _ _ hS h=>it0 hS h,h.mono hK⟩⟩
theorem CallS.frz {P:Program}{f:FuncId}{own:List Res}{args:List SV}{K K0:SV→List Res→Prop}(h:qe0 P f (sr0 own args) (args.map (ci1 (sr0 own args))) K0)(hK:∀ sv own',K0 sv own'→K sv own'):CallS P f own args K :=
 .zp2 [] h hK
end Go.SX
