/- Parts of the proof. -/
import Derived.Test.YtllbabjgpdmblaaGreatDoorZSxN
set_option linter.unusedSimpArgs false
set_option linter.unusedVariables false
set_option linter.unusedSectionVars false
namespace Go.SX
open Go
variable [Tabs]
structure Ob where
 lt:Int->Int->Bool
 le:Int->Int->Bool
 eq:Int->Int->Bool
 ar:BinOp->IntKind->Int->Int->Int
 shl:IntKind->Int->Int->Int
 shr:IntKind->Int->Int->Int
 neg:IntKind->Int->Int
 wrap:IntKind->Int->Int
 mm:Bool->Int->Int->Int
 quo:IntKind->Int->Int->Int
 rem:Int->Int->Int
 beq:Bool->Bool->Bool->Bool
 not:Bool->Bool
 and:Bool->Bool->Bool
 seq:ByteArray->ByteArray->Bool
 slt:ByteArray->ByteArray->Bool
 Rh:ByteArray->Int
 Ri:ByteArray->Int->Int->ByteArray
 len:List (List D)->Int
 app:List (List D)->List (List D)->List (List D)
 sub:List (List D)->Int->Int->List (List D)
 set:List (List D)->Nat->List D->List (List D)
 rep:Int->List D->List (List D)
 take:List (List D)->Int->List (List D)
 IU:List (List D)->Nat->List D->List (List D)
 nat:Int->Nat
 Ih:Nat->Int->Nat
 LW:List (List D)->Nat->Int
 wW:List (Value×List D)->Value->List D->List (Value×List D)
def nx3 (op:BinOp)(k:IntKind)(a b:Int):Int :=
 match op with
 | .add=>k.wrap (a+b)
 | .sub=>k.wrap (a - b)
 | .mul=>k.wrap (a * b)
 | .and=>k.wrap (BitVec.ofInt k.bits a &&& BitVec.ofInt k.bits b).toNat
 | .or=>k.wrap (BitVec.ofInt k.bits a ||| BitVec.ofInt k.bits b).toNat
 | .xor=>k.wrap (BitVec.ofInt k.bits a ^^^ BitVec.ofInt k.bits b).toNat
 | .andNot=>k.wrap (BitVec.ofInt k.bits a &&& ~~~BitVec.ofInt k.bits b).toNat
 |_=>0
def nX : Ob where
 lt a b:=decide (a<b)
 le a b:=decide (a<=b)
 eq a b:=decide (a=b)
 ar:=nx3
 shl k a b:=k.wrap (a * 2 ^ min b.toNat k.bits)
 shr k a b:=a.fdiv (2 ^ min b.toNat k.bits)
 neg k a:=k.wrap (0 - a)
 wrap k a:=k.wrap a
 mm mx a b:=if mx then max a b else min a b
 quo k a b:=k.wrap (a.tdiv b)
 rem a b:=a.tmod b
 beq n a b:=n ^^ (a == b)
 not b:=!b
 and a b:=a&&b
 seq a b:=a.toList == b.toList
 slt a b:=Op.bytesLess a.toList b.toList
 Rh s:=s.size
 Ri s l h:=s.extract l.toNat h.toNat
 len es:=es.length
 app a b:=a++b
 sub es l h:=(es.take h.toNat).drop l.toNat
 set es i d:=es.set i d
 rep n zs:=List.replicate n.toNat zs
 take es h:=es.take h.toNat
 IU es i zs:=es.take i++List.replicate (es.length - i) zs
 nat n:=n.toNat
 Ih i n:=i+n.toNat
 LW es i:=((es.length - i:Nat):Int)
 wW:=Go.SX.wW
theorem zW : Nonempty { f:Ob // f=nX }:=⟨⟨nX,rfl⟩⟩
noncomputable def io : Ob:=(Classical.choice zW).1
theorem jq : io=nX:=(Classical.choice zW).2
theorem D5 : (Classical.choice zW).1=nX:=jq
theorem x_lt (a b:Int):(Classical.choice zW).1.lt a b=decide (a<b):=by rw[D5];rfl
theorem x_eq (a b:Int):(Classical.choice zW).1.eq a b=decide (a=b):=by rw[D5];rfl
theorem OT (k:IntKind)(a b:Int):(Classical.choice zW).1.ar .add k a b=k.wrap (a+b):=by rw[D5];rfl
theorem JE (k:IntKind)(a b:Int):(Classical.choice zW).1.ar .sub k a b=k.wrap (a - b):=by rw[D5];rfl
theorem xe2 (b:Bool):(Classical.choice zW).1.not b=!b:=by rw[D5];rfl
theorem x_len (es:List (List D)):(Classical.choice zW).1.len es=es.length:=by rw[D5];rfl
theorem of2 (es:List (List D))(i:Nat)(d:List D):(Classical.choice zW).1.set es i d=es.set i d:=by rw[D5];rfl
theorem xa2 (es:List (List D))(h:Int):(Classical.choice zW).1.take es h=es.take h.toNat:=by rw[D5];rfl
theorem xi2 (es:List (List D))(i:Nat)(zs:List D):(Classical.choice zW).1.IU es i zs=es.take i++List.replicate (es.length - i) zs:=by rw[D5];rfl
theorem Qb (i:Nat)(n:Int):(Classical.choice zW).1.Ih i n=i+n.toNat:=by rw[D5];rfl
theorem wb2 (es:List (List D))(i:Nat):(Classical.choice zW).1.LW es i=((es.length - i:Nat):Int):=by rw[D5];rfl
theorem wO (n:Int):(Classical.choice zW).1.nat n=n.toNat:=by rw[D5];rfl
noncomputable def XE (op:BinOp):SV->SV->Option SV
 | .d (.val (.int k a)),.d (.val (.int k' b)) =>
  match op with
  | .shl=>(match b with | .ofNat n=>some (.d (.val (.int k (io.shl k a (.ofNat n))))) | .negSucc _=>none)
  | .shr=>(match b with | .ofNat n=>some (.d (.val (.int k (io.shr k a (.ofNat n))))) | .negSucc _=>none)
  |op =>
   match decide (k=k') with
   |false=>none
   |true =>
   match op with
   | .add=>some (.d (.val (.int k (io.ar .add k a b))))
   | .sub=>some (.d (.val (.int k (io.ar .sub k a b))))
   | .mul=>some (.d (.val (.int k (io.ar .mul k a b))))
   | .and=>some (.d (.val (.int k (io.ar .and k a b))))
   | .or=>some (.d (.val (.int k (io.ar .or k a b))))
   | .xor=>some (.d (.val (.int k (io.ar .xor k a b))))
   | .andNot=>some (.d (.val (.int k (io.ar .andNot k a b))))
   | .eql=>some (.d (.val (.bool (io.eq a b))))
   | .neq=>some (.d (.val (.bool (io.not (io.eq a b)))))
   | .lss=>some (.d (.val (.bool (io.lt a b))))
   | .leq=>some (.d (.val (.bool (io.le a b))))
   | .gtr=>some (.d (.val (.bool (io.lt b a))))
   | .geq=>some (.d (.val (.bool (io.le b a))))
   |_=>none
 | .d (.val (.string a)),.d (.val (.string b)) =>
  match op with
  | .eql=>some (.d (.val (.bool (io.seq a b))))
  | .neq=>some (.d (.val (.bool (io.not (io.seq a b)))))
  | .lss=>some (.d (.val (.bool (io.slt a b))))
  | .leq=>some (.d (.val (.bool (match io.slt a b with|true=>true|false=>io.seq a b))))
  | .gtr=>some (.d (.val (.bool (io.not (match io.slt a b with|true=>true|false=>io.seq a b)))))
  | .geq=>some (.d (.val (.bool (io.not (io.slt a b)))))
  |_=>none
 |_,_=>none
theorem gy1 (op:BinOp)(x y:SV):XE op x y=Il op x y:=by
 unfold XE Il;split
 ·rename_i k a k' b;split
  ·rw[jq]
   cases b with
   |ofNat n=>exact(if_neg (show ¬ (Int.ofNat n<0) by simp)).symm
   |negSucc n=>exact(if_pos (Int.negSucc_lt_zero n)).symm
  ·rw[jq]
   cases b with
   |ofNat n=>exact(if_neg (show ¬ (Int.ofNat n<0) by simp)).symm
   |negSucc n=>exact(if_pos (Int.negSucc_lt_zero n)).symm
  ·by_cases hk:k=k'
   ·subst hk;simp only[decide_true,ne_eq,not_true_eq_false,if_false];rw[jq];cases op<;>rfl
   ·simp[hk]
 ·rename_i a b;rw[jq];cases op<;>first|rfl|(simp only[nX];cases Op.bytesLess a.toList b.toList<;>rfl)
 ·rename_i h1 h2;split
  ·exact(h1 _ _ _ _ rfl rfl).elim
  ·exact(h2 _ _ rfl rfl).elim
  ·rfl
noncomputable def Xb : CK->Value->Value->Option Bool
 | .int,.int k a,.int k' b=>(match decide (k=k') with|true=>some (io.eq a b)|false=>none)
 | .bool,.bool a,.bool b=>some (io.beq false a b)
 | .str,.string a,.string b=>some (io.seq a b)
 |_,_,_=>none
theorem qm2 (k:CK)(u v:Value):Xb k u v=yB k u v:=by
 unfold Xb yB;rw[jq];split
 ·rename_i k a k' b;by_cases hk:k=k'
  ·simp[hk,nX]
  ·simp[hk]
 ·simp[nX]
 ·rfl
 ·rename_i h1 h2 h3;split
  ·exact(h1 _ _ _ _ rfl rfl rfl).elim
  ·exact(h2 _ _ rfl rfl rfl).elim
  ·exact(h3 _ _ rfl rfl rfl).elim
  ·rfl
noncomputable def jm2 : List CK->List SV->List SV->Option Bool:=GX Xb io.and
theorem il1 (ks:List CK)(l l':List SV):jm2 ks l l'=Ep ks l l':=by
 have e:Xb=yB:=funext fun k=>funext fun u=>funext fun v=>qm2 k u v
 have e2:io.and=and:=by rw[jq];funext a b;rfl
 unfold jm2 Ep;rw[e,e2]
noncomputable def XM (neg:Bool)(ks:List CK):SV->SV->Option SV
 | .d (.val (.bool a)),.d (.val (.bool b))=>(match ks with|[]=>some (.d (.val (.bool (io.beq neg a b))))|_=>none)
 | .agg cs,.agg cs'=>(match jm2 ks cs cs' with|some b=>some (.d (.val (.bool (match neg with|true=>io.not b|false=>b))))|none=>none)
 |_,_=>none
theorem gb1 (n:Bool)(ks:List CK)(x y:SV):XM n ks x y=Jj n ks x y:=by
 unfold XM Jj;simp only[il1,jq,nX];cases n<;>simp<;>rfl
noncomputable def XI (op:UnOp):SV->Option SV
 | .d (.val (.bool b))=>(match op with | .not=>some (.d (.val (.bool (io.not b))))|_=>none)
 | .d (.val (.int k a))=>(match op with | .neg=>some (.d (.val (.int k (io.neg k a))))|_=>none)
 |_=>none
theorem mt1 (op:UnOp)(x:SV):XI op x=LD op x:=by unfold XI LD;rw[jq];rfl
noncomputable def XJ (own:List ak)(str:Bool):SV->Option SV
 | .d (.sl es)=>(match str with|true=>none|false=>some (.d (.val (.int .i64 (io.len es)))))
 | .d (.val (.slice _ n _))=>(match str with|true=>none|false=>some (.d (.val (.int .i64 (.ofNat n)))))
 | .d (.val (.string s))=>(match str with|true=>some (.d (.val (.int .i64 (io.Rh s))))|false=>none)
 | .hd r=>(match str with
  |true=>none
  |false=>match bG own r with
   | .row _ _ es=>some (.d (.val (.int .i64 (io.len es))))
   |_=>none)
 | .rs r _ i=>(match str with
  |true=>none
  |false=>match bG own r with
   | .row _ _ es=>some (.d (.val (.int .i64 (io.LW es i))))
   |_=>none)
 |_=>none
theorem gz1 (own:List ak)(str:Bool)(x:SV):XJ own str x=slen own str x:=by unfold XJ slen;rw[jq];cases str<;>rfl
noncomputable def OA (mx:Bool):SV->List SV->Option SV
 |v,[]=>(match v with | .d (.val (.int k a))=>some (.d (.val (.int k a)))|_=>none)
 | .d (.val (.int k a)),.d (.val (.int _ b))::l=>OA mx (.d (.val (.int k (io.mm mx a b)))) l
 |_,_=>none
theorem nz1 (mx:Bool)(l:List SV):∀ x,OA mx x l=Gt mx x l:=by
 induction l with
 |nil=>intro x;unfold OA Gt;rfl
 |cons y l ih =>
  intro x;unfold OA Gt;split<;>simp_all [jq,nX]
noncomputable def XD (k:IntKind):SV->Option SV
 | .d (.val (.int _ n))=>some (.d (.val (.int k (io.wrap k n))))
 |_=>none
theorem gw1 (k:IntKind)(x:SV):XD k x=MB k x:=by unfold XD MB;rw[jq];rfl
structure xq (es:List (List D))(n:Int)(sz:Nat)(K:SV->Prop):Prop where
 lo:0<=n
 hi:n<es.length
 k:∀ ds,es[n.toNat]?=some ds->ds.length=sz/\K (.fp ds)
theorem zt2 (es:List (List D))(n:Int)(sz:Nat)(K:SV->Prop):xq es n sz K=(0<=n/\n<es.length/\∀ ds,es[n.toNat]?=some ds->ds.length=sz/\K (.fp ds)):=propext ⟨fun h=>⟨h.1,h.2,h.3⟩,fun h=>⟨h.1,h.2.1,h.2.2⟩⟩
structure VN (es:List (List D))(n:Int)(K:Unit->Prop):Prop where
 lo:0<=n
 hi:n<es.length
 k:K ()
theorem dy1 (es:List (List D))(n:Int)(K:Unit->Prop):VN es n K=(0<=n/\n<es.length/\K ()):=propext ⟨fun h=>⟨h.1,h.2,h.3⟩,fun h=>⟨h.1,h.2.1,h.2.2⟩⟩
structure NW (es:List (List D))(i:Nat)(n:Int)(K:Unit->Prop):Prop where
 lo:0<=n
 hi:i+n<es.length
 k:K ()
theorem zv2 (es:List (List D))(i:Nat)(n:Int)(K:Unit->Prop):NW es i n K=(0<=n/\i+n<es.length/\K ()):=propext ⟨fun h=>⟨h.1,h.2,h.3⟩,fun h=>⟨h.1,h.2.1,h.2.2⟩⟩
structure A8 (es:List (List D))(i:Nat)(K:List D->Prop):Prop where
 hi:i<es.length
 k:∀ ds,es[i]?=some ds->K ds
theorem YU (es:List (List D))(i:Nat)(K:List D->Prop):A8 es i K=(i<es.length/\∀ ds,es[i]?=some ds->K ds):=propext ⟨fun h=>⟨h.1,h.2⟩,fun h=>⟨h.1,h.2⟩⟩
structure I8 (b:Int)(K:Unit->Prop):Prop where
 ne:b≠0
 k:K ()
theorem zo2 (b:Int)(K:Unit->Prop):I8 b K=(b≠0/\K ()):=propext ⟨fun h=>⟨h.1,h.2⟩,fun h=>⟨h.1,h.2⟩⟩
structure Gl (xs ys:List (List D))(sz bytes:Nat)(K:Unit->Prop):Prop where
 sz:∀ ds∈ys,ds.length=sz
 b:(xs.length+ys.length) * bytes<=140737488355328
 l:xs.length+ys.length<=maxLen
 k:K ()
theorem du1 (xs ys:List (List D))(sz bytes:Nat)(K:Unit->Prop):Gl xs ys sz bytes K=((∀ ds∈ys,ds.length=sz)/\(xs.length+ys.length) * bytes<=140737488355328/\xs.length+ys.length<=maxLen/\K ()):=propext ⟨fun h=>⟨h.1,h.2,h.3,h.4⟩,fun h=>⟨h.1,h.2.1,h.2.2.1,h.2.2.2⟩⟩
structure VL (es:List (List D))(l h:Int)(sz:Nat)(K:Unit->Prop):Prop where
 lo:0<=l
 le:l<=h
 hi:h<=es.length
 sz:∀ ds∈es,ds.length=sz
 k:K ()
theorem dz1 (es:List (List D))(l h:Int)(sz:Nat)(K:Unit->Prop):VL es l h sz K=(0<=l/\l<=h/\h<=es.length/\(∀ ds∈es,ds.length=sz)/\K ()):=propext ⟨fun h=>⟨h.1,h.2,h.3,h.4,h.5⟩,fun h=>⟨h.1,h.2.1,h.2.2.1,h.2.2.2.1,h.2.2.2.2⟩⟩
structure VK (s:ByteArray)(l h:Int)(K:Unit->Prop):Prop where
 lo:0<=l
 le:l<=h
 hi:h<=s.size
 k:K ()
theorem fi1 (s:ByteArray)(l h:Int)(K:Unit->Prop):VK s l h K=(0<=l/\l<=h/\h<=s.size/\K ()):=propext ⟨fun h=>⟨h.1,h.2,h.3,h.4⟩,fun h=>⟨h.1,h.2.1,h.2.2.1,h.2.2.2⟩⟩
structure I4 (n m:Int)(bytes:Nat)(K:Unit->Prop):Prop where
 lo:0<=n
 eq:n=m
 b:n.toNat * bytes<=140737488355328
 l:n<=maxLen
 k:K ()
theorem df1 (n m:Int)(bytes:Nat)(K:Unit->Prop):I4 n m bytes K=(0<=n/\n=m/\n.toNat * bytes<=140737488355328/\n<=maxLen/\K ()):=propext ⟨fun h=>⟨h.1,h.2,h.3,h.4,h.5⟩,fun h=>⟨h.1,h.2.1,h.2.2.1,h.2.2.2.1,h.2.2.2.2⟩⟩
structure NZ (n:Int)(len:Nat)(K:Unit->Prop):Prop where
 lo:0<=n
 hi:n<len
 k:K ()
theorem db1 (n:Int)(len:Nat)(K:Unit->Prop):NZ n len K=(0<=n/\n<len/\K ()):=propext ⟨fun h=>⟨h.1,h.2,h.3⟩,fun h=>⟨h.1,h.2.1,h.2.2⟩⟩
structure dV (P:Program)(f:FuncId)(own:List ak)(args:List SV)(K:SV->List ak->Prop):Prop where
 k:D6 P f own args K
theorem ki1 (P:Program)(f:FuncId)(own:List ak)(args:List SV)(K:SV->List ak->Prop):dV P f own args K=D6 P f own args K:=propext ⟨fun h=>h.1,fun h=>⟨h⟩⟩
structure iW (P:Program)(f:FuncId)(own:List ak)(args:List SV)(K:SV->Prop):Prop where
 k:O9 P f own args K
theorem oh0 (P:Program)(f:FuncId)(own:List ak)(args:List SV)(K:SV->Prop):iW P f own args K=O9 P f own args K:=propext ⟨fun h=>h.1,fun h=>⟨h⟩⟩
structure uY (n0:Nat)(body:List SV->List ak->(DX->List SV->List ak->Prop)->Prop)(env:List SV)(own:List ak)(K:DX->List SV->List ak->Prop):Prop where
 k:LoopN n0 body env own K
theorem kl1 (n0:Nat)(body:List SV->List ak->(DX->List SV->List ak->Prop)->Prop)(env:List SV)(own:List ak)(K:DX->List SV->List ak->Prop):uY n0 body env own K=LoopN n0 body env own K:=propext ⟨fun h=>h.1,fun h=>⟨h⟩⟩
noncomputable def TT (own:List ak)(sz:Nat)(x i:SV)(K:SV->Prop):Prop :=
 match x,i with
 | .d (.sl es),.d (.val (.int _ n))=>xq es n sz K
 | .hd r,.d (.val (.int _ n))=>(match bG own r with | .row _ s es=>(match Nat.beq s sz with|true=>VN es n (fun _=>K (.rp r s (io.nat n) 0))|false=>False)|_=>False)
 | .rs r s i,.d (.val (.int _ n))=>(match bG own r with
  | .row _ s' es=>(match Nat.beq s sz&&Nat.beq s' sz with|true=>NW es i n (fun _=>K (.rp r s' (io.Ih i n) 0))|false=>False)
  |_=>False)
 |_,_=>False
theorem L8 (a b:Nat):(Nat.beq a b=true)=(a=b):=by simp[Nat.beq_eq]
theorem V4 (own:List ak)(sz:Nat)(x i:SV):TT own sz x i=DK own sz x i:=by
 funext K;unfold TT DK;simp only[zt2,dy1,zv2];split
 ·rfl
 ·rename_i r k n;simp only[jq];split
  ·rename_i ty s es hg;cases h:Nat.beq s sz
   ·have:¬ s=sz:=fun e=>by rw[(L8 s sz).mpr e] at h;cases h
    simp[this,hg]
   ·rw[L8] at h;simp[h,hg,nX]
  ·rename_i hg;split<;>simp_all
 ·rename_i r s i0 k n;simp only[jq];split
  ·rename_i ty s' es hg;cases h:Nat.beq s sz
   ·have:¬ s=sz:=fun e=>by rw[(L8 s sz).mpr e] at h;cases h
    simp[this,hg]
   ·cases h':Nat.beq s' sz
    ·have:¬ s'=sz:=fun e=>by rw[(L8 s' sz).mpr e] at h';cases h'
     simp[this,hg]
    ·rw[L8] at h h';simp[h,h',hg,nX]
  ·rename_i hg;split<;>simp_all
 ·rename_i h1 h2 h3;split
  ·exact(h1 _ _ _ rfl rfl).elim
  ·exact(h2 _ _ _ rfl rfl).elim
  ·exact(h3 _ _ _ _ _ rfl rfl).elim
  ·rfl
noncomputable def Wv (own:List ak)(sz:Nat)(agg:Bool)(x:SV)(K:SV->Prop):Prop :=
 match x with
 | .rp r s i j=>(match bG own r with
  | .row _ s' es=>(match Nat.beq s s' with
   |true=>A8 es i (fun ds=>fK (BH own sz agg (.fp (ds.drop j))) K)
   |false=>False)
  |_=>False)
 |x=>fK (BH own sz agg x) K
theorem BX {a b:Nat}(h:Nat.beq a b=false):¬ a=b:=fun e=>by rw[(L8 a b).mpr e] at h;cases h
theorem vY {a b:Nat}(h:Nat.beq a b=true):a=b:=(L8 a b).mp h
theorem dl1 (own:List ak)(sz:Nat)(agg:Bool)(x:SV):Wv own sz agg x=FT own sz agg x:=by
 funext K;unfold Wv FT;simp only[YU];split
 ·rename_i r s i j;split
  ·rename_i ty s' es hg;cases h:Nat.beq s s'
   ·simp[BX h,hg]
   ·simp[vY h,hg]
  ·rename_i hg;split<;>simp_all
 ·rename_i h;split
  ·exact(h _ _ _ _ rfl).elim
  ·rfl
noncomputable def Xh (op:BinOp)(x y:SV)(K:SV->Prop):Prop :=
 match x,y with
 | .d (.val (.int k a)),.d (.val (.int k' b))=>(match decide (k=k') with
  |true=>I8 b (fun _=>K (match op with | .quo=>.d (.val (.int k (io.quo k a b)))|_=>.d (.val (.int k (io.rem a b)))))
  |false=>False)
 |_,_=>False
theorem eg1 (op:BinOp)(x y:SV):Xh op x y=Jd op x y:=by
 funext K;unfold Xh Jd;simp only[zo2];split
 ·rename_i k a k' b;simp only[jq];by_cases hk:k=k'
  ·simp only[hk,decide_true,true_and,nX];cases op<;>rfl
  ·simp[hk]
 ·rename_i h;split
  ·exact(h _ _ _ _ rfl rfl).elim
  ·rfl
noncomputable def Yh (own:List ak)(sz:Nat)(x v:SV)(K:List ak->Prop):Prop :=
 match x with
 | .ptr r k=>(match bG own r with
  | .cells cs ty=>(match v.flat&&(Nat.beq v.cells.length sz&&(v.cells.all SV.one&&Nat.ble (k+sz) cs.length)) with
   |true=>K (nC own r (.cells (splice k v.cells cs) ty))
   |false=>False)
  |_=>False)
 | .rp r s i j=>(match bG own r with
  | .row ty s' es=>(match Nat.beq s s'&&(v.flat&&(Nat.beq v.cells.length sz&&Nat.ble (j+sz) s)) with
   |true=>(match nD own v.cells with
    |some ds'=>A8 es i (fun ds=>K (nC own r (.row ty s (io.set es i (splice j ds' ds)))))
    |none=>False)
   |false=>False)
  |_=>False)
 |_=>False
theorem kc1 (own:List ak)(sz:Nat)(x v:SV):Yh own sz x v=Hg own sz x v:=by
 funext K;unfold Yh Hg;simp only[YU]
 cases x with
 |ptr r k =>
  simp only
  cases bG own r with
  |cells cs ty =>
   simp only;cases h1:v.flat<;>simp;cases h2:Nat.beq v.cells.length sz
   ·simp[BX h2]
   ·simp only[vY h2,true_and];cases h3:v.cells.all SV.one
    ·simp at h3;simp;intro h;obtain⟨x,m1,m2⟩:=h3;exact absurd (h x m1) (by simp[m2])
    ·simp at h3;cases h4:Nat.ble (k+sz) cs.length
     ·have:¬ k+sz<=cs.length:=fun e=>by rw[Nat.ble_eq_true_of_le e] at h4;cases h4
      simp[this]
     ·have:=Nat.le_of_ble_eq_true h4;simp[this];exact fun _=>h3
  |_=>rfl
 |rp r s i j =>
  simp only
  cases bG own r with
  |row ty s' es =>
   simp only[jq,nX];cases h0:Nat.beq s s'
   ·simp[BX h0]
   cases h1:v.flat<;>simp;cases h2:Nat.beq v.cells.length sz
   ·simp[BX h2]
   cases h4:Nat.ble (j+sz) s
   ·have:¬ j+sz<=s:=fun e=>by rw[Nat.ble_eq_true_of_le e] at h4;cases h4
    simp[this]
   ·have:=Nat.le_of_ble_eq_true h4;obtain rfl:=vY h0;simp only[vY h2,true_and,this]
    cases nD own v.cells with
    |none=>simp
    |some ds'=>simp
  |_=>rfl
 |_=>rfl
noncomputable def Xu (own:List ak)(ty:TypeId)(s:SV)(K:SV->List ak->Prop):Prop :=
 match s.flat&&s.cells.all SV.one with
 |true=>K (.ptr own.length 0) (own++[.cells s.cells ty])
 |false=>False
theorem xv2 (own:List ak)(ty:TypeId)(s:SV):Xu own ty s=TW own ty s:=by
 funext K;unfold Xu TW;cases h1:s.flat<;>simp;cases h3:s.cells.all SV.one
 ·simp at h3;simp;intro h;obtain⟨x,m1,m2⟩:=h3;exact absurd (h x m1) (by simp[m2])
 ·simp at h3;simp;exact fun _=>h3
noncomputable def WC (own:List ak)(ty sz n:Nat)(es:Option (List (List D)))(K:SV->List ak->Prop):Prop :=
 match es with
 |some es=>(match Nat.beq es.length n&&Nat.ble (n * sz) 16777216 with|true=>K (.hd own.length) (own++[.row ty sz es])|false=>False)
 |none=>False
theorem bool2 {a b c d:Nat}{X:Prop}:(match Nat.beq a b&&Nat.ble c d with|true=>X|false=>False)=(a=b/\c<=d/\X):=by
 cases h1:Nat.beq a b
 ·simp[BX h1]
 ·cases h2:Nat.ble c d
  ·have:¬ c<=d:=fun e=>by rw[Nat.ble_eq_true_of_le e] at h2;cases h2
   simp[this]
  ·simp[vY h1,Nat.le_of_ble_eq_true h2]
theorem om0 (own:List ak)(ty sz n:Nat)(es:Option (List (List D))):WC own ty sz n es=Ju own ty sz n es:=by
 funext K;unfold WC Ju
 cases es with
 |none=>rfl
 |some es=>exact bool2
noncomputable def Yy (sz n:Nat)(es:Option (List (List D)))(R:SV->Prop):Prop :=
 match es with
 |some es=>(match Nat.beq es.length n&&Nat.ble (n * sz) 16777216 with|true=>R (.d (.sl es))|false=>False)
 |none=>False
noncomputable def Xr (own:List ak)(ty sz bytes:Nat)(x:SV)(ys:Option (List (List D)))(K:SV->List ak->Prop):Prop :=
 match ys with
 |none=>False
 |some ys =>
  match x with
  | .d (.val (.slice none 0 0))=>Gl [] ys sz bytes (fun _=>K (.hd own.length) (own++[.row ty sz ys]))
  | .hd r=>(match bG own r with
   | .row ty' sz' xs=>(match Nat.beq ty' ty&&Nat.beq sz' sz with
    |true=>Gl xs ys sz bytes (fun _=>K (.hd own.length) (nC own r .gone++[.row ty sz (io.app xs ys)]))
    |false=>False)
   |_=>False)
  |_=>False
theorem ed1 (own:List ak)(ty sz bytes:Nat)(x:SV)(ys:Option (List (List D))):Xr own ty sz bytes x ys=KN own ty sz bytes x ys:=by
 funext K;unfold Xr KN;simp only[du1,List.length_nil,Nat.zero_add]
 cases ys with
 |none=>rfl
 |some ys =>
  simp only;split
  ·rfl
  ·rename_i r;dsimp only
   cases bG own r with
   |row ty' sz' xs =>
    simp only[jq,nX];cases h1:Nat.beq ty' ty
    ·simp[BX h1]
    ·cases h2:Nat.beq sz' sz
     ·simp[BX h2]
     ·simp[vY h1,vY h2]
   |_=>rfl
  ·split
   ·rename_i h1 h2;exact(h1 rfl).elim
   ·rename_i h1 h2;exact(h2 _ rfl).elim
   ·rfl
noncomputable def Xp (es:List (List D)):Option SV->Option Int
 |none=>some (io.len es)
 |some (.d (.val (.int _ n)))=>some n
 |some _=>none
noncomputable def Oq (sz:Nat)(x:SV)(lo hi:Option SV)(K:SV->Prop):Prop :=
 match x with
 | .d (.sl es)=>(match bnd (.ofNat 0) lo,Xp es hi with
  |some l,some h=>VL es l h sz (fun _=>K (.d (.sl (io.sub es l h))))
  |_,_=>False)
 |_=>False
theorem V5 (sz:Nat)(x:SV)(lo hi:Option SV):Oq sz x lo hi=BZ sz x lo hi:=by
 funext K;unfold Oq BZ;simp only[dz1];split
 ·rename_i es;have:Xp es hi=bnd es.length hi:=by unfold Xp bnd;rw[jq];rfl
  rw[this,jq];rfl
 ·split<;>simp_all
noncomputable def Xf (s:ByteArray):Option SV->Option Int
 |none=>some (io.Rh s)
 |some (.d (.val (.int _ n)))=>some n
 |some _=>none
noncomputable def VB (x:SV)(lo hi:Option SV)(K:SV->Prop):Prop :=
 match x with
 | .d (.val (.string s))=>(match bnd (.ofNat 0) lo,Xf s hi with
  |some l,some h=>VK s l h (fun _=>K (.d (.val (.string (io.Ri s l h)))))
  |_,_=>False)
 |_=>False
theorem Yp (x:SV)(lo hi:Option SV):VB x lo hi=Hy x lo hi:=by
 funext K;unfold VB Hy;simp only[fi1];split
 ·rename_i s;have:Xf s hi=bnd s.size hi:=by unfold Xf bnd;rw[jq];rfl
  rw[this,jq];rfl
 ·split<;>simp_all
noncomputable def TV (own:List ak)(ty sz bytes:Nat)(zs:Option (List D))(l k:SV)(K:SV->List ak->Prop):Prop :=
 match zs,l,k with
 |some zs,.d (.val (.int .i64 n)),.d (.val (.int .i64 m))=>(match Nat.beq zs.length sz with
  |true=>I4 n m bytes (fun _=>K (.hd own.length) (own++[.row ty sz (io.rep n zs)]))
  |false=>False)
 |_,_,_=>False
theorem cn1 (own:List ak)(ty sz bytes:Nat)(zs:Option (List D))(l k:SV):TV own ty sz bytes zs l k=Hz own ty sz bytes zs l k:=by
 funext K;unfold TV Hz;simp only[df1];split
 ·rename_i zs n m;rw[jq];cases h1:Nat.beq zs.length sz
  ·simp[BX h1]
  ·simp[vY h1,nX]
 ·split<;>simp_all
noncomputable def Vf (len sz:Nat)(x i:SV)(K:SV->Prop):Prop :=
 match x,i with
 | .ptr r k,.d (.val (.int _ n))=>NZ n len (fun _=>K (.ptr r (k+io.nat n * sz)))
 | .fp ds,.d (.val (.int _ n))=>NZ n len (fun _=>K (.fp (ds.drop (io.nat n * sz))))
 |_,_=>False
theorem Yn (len sz:Nat)(x i:SV):Vf len sz x i=Hw len sz x i:=by
 funext K;unfold Vf Hw;simp only[db1,jq];split
 ·rfl
 ·rfl
 ·rename_i h1 h2;split
  ·exact(h1 _ _ _ _ rfl rfl).elim
  ·exact(h2 _ _ _ rfl rfl).elim
  ·rfl
noncomputable def em1 (P:Program)(x:SV)(own:List ak)(args:List SV)(K:SV->List ak->Prop):Prop :=
 match x with
 | .clo (.func f) first cap=>dV P f own (first++args++cap) K
 |_=>False
theorem ef1 (P:Program)(x:SV)(own:List ak)(args:List SV)(K:SV->List ak->Prop):em1 P x own args K=Tj P x own args K:=by
 cases x with
 |clo fn a b=>cases fn<;>simp only[em1,Tj,ki1]
 |_=>rfl
noncomputable def Zo (P:Program)(x:SV)(own:List ak)(args:List SV)(K:SV->Prop):Prop :=
 match x with
 | .clo (.func f) first cap=>iW P f own (first++args++cap) K
 |_=>False
theorem lv1 (P:Program)(x:SV)(own:List ak)(args:List SV)(K:SV->Prop):Zo P x own args K=eb1 P x own args K:=by
 cases x with
 |clo fn a b=>cases fn<;>simp only[Zo,eb1,oh0]
 |_=>rfl
structure N7 (A B:Unit->Prop):Prop where
 h:A ()\/B ()
theorem cm1 (A B:Unit->Prop):N7 A B=(A ()\/B ()):=propext ⟨fun h=>h.1,fun h=>⟨h⟩⟩
theorem N7.data {A B:Unit->Prop}(h:A ()):N7 A B:=⟨.inl h⟩
theorem N7.own {A B:Unit->Prop}(h:B ()):N7 A B:=⟨.inr h⟩
structure Cc (es:List (List D))(h:Int)(K:Unit->Prop):Prop where
 lo:0<=h
 hi:h<=es.length
 k:K ()
theorem ks1 (es:List (List D))(h:Int)(K:Unit->Prop):Cc es h K=(0<=h/\h<=es.length/\K ()):=propext ⟨fun h=>⟨h.1,h.2,h.3⟩,fun h=>⟨h.1,h.2.1,h.2.2⟩⟩
structure F6 (es:List (List D))(K:Bool->Prop):Prop where
 t:es=[]->K true
 f:K false
theorem zw2 (es:List (List D))(K:Bool->Prop):F6 es K=((es=[]->K true)/\K false):=propext ⟨fun h=>⟨h.1,h.2⟩,fun h=>⟨h.1,h.2⟩⟩
def nb3 (own:List ak)(x:SV)(K:Bool->Prop):Prop:=ny3 F6 own x K
theorem va2 (own:List ak)(x:SV):nb3 own x=TR own x:=by
 funext K;unfold nb3 TR;rw[show F6=(fun es K=>(es=[]->K true)/\K false) from funext fun es=>funext fun K=>zw2 es K]
noncomputable def PD (own:List ak)(sz:Nat)(x:SV)(lo hi:Option SV)(K:SV->List ak->Prop):Prop :=
 match x with
 | .hd r=>(match bG own r with
  | .row ty s es=>(match lo,hi with
   |none,some (.d (.val (.int _ h)))=>Cc es h (fun _=>K (.hd own.length) (nC own r .gone++[.row ty s (io.take es h)]))
   |some (.d (.val (.int _ l))),none=>(match Nat.beq s sz with|true=>Cc es l (fun _=>K (.rs r s (io.nat l)) own)|false=>False)
   |_,_=>False)
  |_=>False)
 | .d d=>Vj own d lo hi K
 |_=>False
theorem dx1 (own:List ak)(sz:Nat)(x:SV)(lo hi:Option SV)(K:SV->List ak->Prop):PD own sz x lo hi K=GH own sz x lo hi K:=by
 unfold PD GH;simp only[ks1,jq]
 cases x with
 |hd r =>
  dsimp only
  cases bG own r with
  |row ty s es =>
   dsimp only;split
   ·rfl
   ·rename_i kk l;cases h:Nat.beq s sz
    ·simp[BX h]
    ·simp[vY h,nX]
   ·rename_i h1 h2;split
    ·exact(h1 _ _ rfl rfl).elim
    ·exact(h2 _ _ rfl rfl).elim
    ·rfl
  |_=>rfl
 |d d=>rfl
 |_=>rfl
structure VW (es:List (List D))(i:Nat)(K:Unit->Prop):Prop where
 hi:i<=es.length
 k:K ()
theorem wx2 (es:List (List D))(i:Nat)(K:Unit->Prop):VW es i K=(i<=es.length/\K ()):=propext ⟨fun h=>⟨h.1,h.2⟩,fun h=>⟨h.1,h.2⟩⟩
noncomputable def np3 (own:List ak)(sz:Nat)(zs:Option (List D))(x:SV)(K:List ak->Prop):Prop :=
 match x with
 | .rs r s i=>(match bG own r,zs with
  | .row ty s' es,some zs=>(match Nat.beq s sz&&(Nat.beq s' sz&&Nat.beq zs.length sz) with
   |true=>VW es i (fun _=>K (nC own r (.row ty s' (io.IU es i zs))))
   |false=>False)
  |_,_=>False)
 |_=>False
theorem xk2 (own:List ak)(sz:Nat)(zs:Option (List D))(x:SV)(K:List ak->Prop):np3 own sz zs x K=TQ own sz zs x K:=by
 unfold np3 TQ;simp only[wx2,jq]
 cases x with
 |rs r s i =>
  dsimp only
  cases bG own r with
  |row ty s' es =>
   cases zs with
   |none=>rfl
   |some zs =>
    dsimp only;cases h1:Nat.beq s sz
    ·simp[BX h1]
    ·cases h2:Nat.beq s' sz
     ·simp[BX h2]
     ·cases h3:Nat.beq zs.length sz
      ·simp[BX h3]
      ·simp[vY h1,vY h2,vY h3,nX]
  |_=>rfl
 |_=>rfl
structure iO (es:List (Value×List D))(x:Value)(A:List D->Prop)(B:Unit->Prop):Prop where
 yes:∀ ds,lI es x=some ds->A ds
 no:lI es x=none->B ()
theorem ci1 (es:List (Value×List D))(x:Value)(A:List D->Prop)(B:Unit->Prop):iO es x A B=((∀ ds,lI es x=some ds->A ds)/\(lI es x=none->B ())):=propext ⟨fun h=>⟨h.1,h.2⟩,fun h=>⟨h.1,h.2⟩⟩
noncomputable def ZP : Value->Value->Bool
 | .int k a,.int k' b=>(match decide (k=k') with|true=>io.eq a b|false=>false)
 |x,y=>pK x y
theorem rf1 (x y:Value):ZP x y=pK x y:=by
 unfold ZP;rw[jq];split
 ·rename_i k a k' b;simp only[pK,nX];cases decide (k=k')<;>simp
 ·rfl
noncomputable def VD : List (Value×SV)->Value->(SV->Prop)->(Unit->Prop)->Prop
 |[],_,_,B=>B ()
 |(k,s)::l,x,A,B=>(match ZP x k with|true=>A s|false=>VD l x A B)
theorem dc1 (x:Value)(A:SV->Prop)(B:Unit->Prop):∀ es:List (Value×SV),VD es x A B=((∀ s,lI es x=some s->A s)/\(lI es x=none->B ()))
 |[]=>by simp[VD,lI]
 |(k,s)::l=>by
  unfold VD lI;rw[rf1,dc1 x A B l];cases pK x k<;>simp
noncomputable def Wx (own:List ak)(mk:MK)(agg:Bool)(x k v:SV)(K:List ak->Prop):Prop :=
 match x,k with
 | .hd r,.d (.val kv)=>(match bG own r with
  | .mp mk' agg' es=>(match decide (mk'=mk)&&((agg' == agg)&&(mk.ok kv&&(v.flat&&(v.isAgg == agg)))) with
   |true=>(match nD own v.cells with|some ds=>K (nC own r (.mp mk agg (io.wW es kv ds)))|none=>False)
   |false=>False)
  | .kC mk' es=>(match decide (mk'=mk)&&((false == agg)&&(mk.ok kv&&v.WS)) with|true=>K (nC own r (.kC mk (wW es kv v)))|false=>False)
  |_=>False)
 |_,_=>False
theorem dh1 (own:List ak)(mk:MK)(agg:Bool)(x k v:SV)(K:List ak->Prop):Wx own mk agg x k v K=Py own mk agg x k v K:=by
 unfold Wx Py;simp only[jq,nX]
 cases x with
 |hd r =>
  cases k with
  |d dd =>
   cases dd with
   |val kv =>
    dsimp only
    cases bG own r with
    |mp mk' agg' es =>
     dsimp only
     cases hb:(decide (mk'=mk)&&((agg' == agg)&&(mk.ok kv&&(v.flat&&(v.isAgg == agg))))) with
     |false =>
      simp only[eq_iff_iff,false_iff];rintro ⟨h1,h2,h3,h4,h5,_⟩;simp[h1,h2,h3,h4,h5] at hb
     |true =>
      simp only[qK,qX,beq_iff_eq] at hb;obtain⟨h1,h2,h3,h4,h5⟩:=hb;simp only[h1,h2,h3,h4,h5,true_and]
      cases nD own v.cells with
      |none=>simp
      |some ds=>simp
    |kC mk' es =>
     dsimp only
     cases hb:(decide (mk'=mk)&&((false == agg)&&(mk.ok kv&&v.WS))) with
     |false =>
      simp only[eq_iff_iff,false_iff];rintro ⟨h1,h2,h3,h4,_⟩;simp[h1,h2,h3,h4] at hb
     |true =>
      simp only[qK,qX,beq_iff_eq] at hb;obtain⟨h1,h2,h3,h4⟩:=hb;simp only[h1,<- h2,h3,h4,true_and]
    |_=>rfl
   |sl es=>rfl
  |_=>rfl
 |_=>rfl
noncomputable def V9 (own:List ak)(mk:MK)(agg ok:Bool)(z x k:SV)(K:SV->Prop):Prop :=
 match k with
 | .d (.val kv)=>(match x with
  | .hd r=>(match bG own r with
   | .mp mk' agg' es=>(match decide (mk'=mk)&&((agg' == agg)&&mk.ok kv) with
    |true=>iO es kv (fun ds=>K (zX ok (Yf agg ds) true)) (fun _=>K (zX ok z false))
    |false=>False)
   | .kC mk' es=>(match decide (mk'=mk)&&((false == agg)&&mk.ok kv) with|true=>VD es kv (fun s=>K (zX ok s true)) (fun _=>K (zX ok z false))|false=>False)
   |_=>False)
  | .d (.val (.map none))=>(match mk.ok kv with|true=>K (zX ok z false)|false=>False)
  |_=>False)
 |_=>False
theorem dm1 (own:List ak)(mk:MK)(agg ok:Bool)(z x k:SV)(K:SV->Prop):V9 own mk agg ok z x k K=FQ own mk agg ok z x k K:=by
 unfold V9 FQ;simp only[ci1]
 cases k with
 |d dd =>
  cases dd with
  |val kv =>
   dsimp only
   cases x with
   |hd r =>
    dsimp only
    cases bG own r with
    |mp mk' agg' es =>
     dsimp only
     cases hb:(decide (mk'=mk)&&((agg' == agg)&&mk.ok kv)) with
     |false =>
      simp only[eq_iff_iff,false_iff];rintro ⟨h1,h2,h3,_⟩;simp[h1,h2,h3] at hb
     |true =>
      simp only[qK,qX,beq_iff_eq] at hb;obtain⟨h1,h2,h3⟩:=hb;simp only[h1,h2,h3,true_and]
    |kC mk' es =>
     dsimp only
     cases hb:(decide (mk'=mk)&&((false == agg)&&mk.ok kv)) with
     |false =>
      simp only[eq_iff_iff,false_iff];rintro ⟨h1,h2,h3,_⟩;simp[h1,h2,h3] at hb
     |true =>
      simp only[qK,qX,beq_iff_eq] at hb;obtain⟨h1,h2,h3⟩:=hb;simp only[h1,<- h2,h3,true_and,dc1]
    |_=>rfl
   |d dx =>
    cases dx with
    |sl es=>rfl
    |val u =>
     cases u with
     |map m =>
      cases m with
      |none=>dsimp only;cases mk.ok kv<;>simp
      |some b=>rfl
     |_=>rfl
   |_=>rfl
  |sl es=>rfl
 |_=>rfl
noncomputable def opC (P:Program)(d:jO)(env:List SV)(own:List ak)(K:SV->List ak->Prop):Prop :=
 match d with
 | .mv x=>K (aA own env x) own
 | .pick c a b=>fK (Ld (aA own env c) (aA own env a) (aA own env b)) (fun sv=>K sv own)
 | .bin op x y=>fK (XE op (aA own env x) (aA own env y)) (fun sv=>K sv own)
 | .beq n ks x y=>fK (XM n ks (aA own env x) (aA own env y)) (fun sv=>K sv own)
 | .wB n x y=>fK (Lj n (aA own env x) (aA own env y)) (fun sv=>K sv own)
 | .OV n x=>nb3 own (aA own env x) (fun b=>K (.d (.val (.bool (match n with|true=>io.not b|false=>b)))) own)
 | .yU x=>fK (scap (aA own env x)) (fun sv=>K sv own)
 | .Es=>False
 | .lD n sz agg x i=>Gy n sz agg (aA own env x) (aA own env i) (fun sv=>K sv own)
 | .uH x i=>Ho (aA own env x) (aA own env i) (fun sv=>K sv own)
 | .FY x=>GY (src own (aA own env x)) (fun sv=>K sv own)
 | .un op x=>fK (XI op (aA own env x)) (fun sv=>K sv own)
 | .KC k x=>fK (XD k (aA own env x)) (fun sv=>K sv own)
 | .aj off x=>fK (GU off (aA own env x)) (fun sv=>K sv own)
 | .GN off sz agg x=>fK (GR off sz agg (aA own env x)) (fun sv=>K sv own)
 | .len s x=>fK (XJ own s (aA own env x)) (fun sv=>K sv own)
 | .ext x i=>fK (Jl i (aA own env x)) (fun sv=>K sv own)
 | .jE fn fs cs=>K (.clo fn (fs.map (aA own env)) (cs.map (aA own env))) own
 | .mm mx x xs=>fK (OA mx (aA own env x) (xs.map (aA own env))) (fun sv=>K sv own)
 | .aO x=>fK (Ew (aA own env x)) (fun sv=>K sv own)
 | .build z ps=>fK (LK (cval z) (ps.map fun p=>(p.1,aA own env p.2))) (fun sv=>K sv own)
 | .load sz agg x=>Wv own sz agg (aA own env x) (fun sv=>K sv own)
 | .div op x y=>Xh op (aA own env x) (aA own env y) (fun sv=>K sv own)
 | .aQ sz x i=>TT own sz (aA own env x) (aA own env i) (fun sv=>K sv own)
 | .eH n sz x i=>Vf n sz (aA own env x) (aA own env i) (fun sv=>K sv own)
 | .store sz x v=>Yh (Ib own (aA own env x) (aA own env v)) sz (aA own env x) (aA (Ib own (aA own env x) (aA own env v)) env v) (fun own'=>K (.dO []) own')
 | .alloc ty z=>Xu own ty (cval z) K
 | .box ty x=>Xu own ty (aA own env x) K
 | .aU ty sz n _ ps=>WC (mV own (ps.map fun p=>aA own env p.2)) ty sz n (wF (mV own (ps.map fun p=>aA own env p.2)) sz 0 (ps.map fun p=>(p.1,aA own env p.2))) K
 | .app ty sz bytes _ x y=>Xr own ty sz bytes (aA own env x) (src own (aA own env y)) K
 | .slc sz x lo hi=>(match aA own env x with
  | .hd r=>N7 (fun _=>Oq sz (aA (oq own (aA own env x)) env x) (lo.map (aA own env)) (hi.map (aA own env)) (fun sv=>K sv (oq own (aA own env x)))) (fun _=>PD own sz (.hd r) (lo.map (aA own env)) (hi.map (aA own env)) K)
  | .d (.val (.slice none 0 0))=>PD own sz (.d (.val (.slice none 0 0))) (lo.map (aA own env)) (hi.map (aA own env)) K
  |_=>Oq sz (aA (oq own (aA own env x)) env x) (lo.map (aA own env)) (hi.map (aA own env)) (fun sv=>K sv (oq own (aA own env x))))
 | .uf x lo hi=>VB (aA own env x) (lo.map (aA own env)) (hi.map (aA own env)) (fun sv=>K sv own)
 | .FZ ty sz bytes z x n=>Vh (aA own env x) (TV own ty sz bytes (nD own (cval z).cells) (aA own env n) (aA own env n) K)
 | .Pq ty sz bytes z l k=>TV own ty sz bytes (nD own (cval z).cells) (aA own env l) (aA own env k) K
 | .call f args=>dV P f own (args.map (aA own env)) K
 | .fZ x args=>em1 P (aA own env x) own (args.map (aA own env)) K
 | .IU sz z x=>np3 own sz (nD own (cval z).cells) (aA own env x) (fun own'=>K (.dO []) own')
 | .DI mk agg=>K (.hd own.length) (own++[.mp mk agg []])
 | .Si mk=>K (.hd own.length) (own++[.kC mk []])
 | .lq mk agg x k v=>Wx (oq own (aA own env v)) mk agg (aA own env x) (Aq (aA own env k)) (aA (oq own (aA own env v)) env v) (fun own'=>K (.dO []) own')
 | .lI mk agg ok z x k=>V9 own mk agg ok (cval z) (aA own env x) (Aq (aA own env k)) (fun sv=>K sv own)
theorem yx1 (env:List SV)(own:List ak)(sz:Nat)(x:Operand)(lo hi:Option SV)(K:SV->List ak->Prop) :
  (match aA own env x with
  | .hd r=>(BZ sz (aA (oq own (aA own env x)) env x) lo hi (fun sv=>K sv (oq own (aA own env x)))\/GH own sz (.hd r) lo hi K)
  | .d (.val (.slice none 0 0))=>GH own sz (.d (.val (.slice none 0 0))) lo hi K
  |_=>BZ sz (aA (oq own (aA own env x)) env x) lo hi (fun sv=>K sv (oq own (aA own env x))))=(BZ sz (aA (oq own (aA own env x)) env x) lo hi (fun sv=>K sv (oq own (aA own env x)))\/GH own sz (aA own env x) lo hi K):=by
 generalize hv:aA own env x=v;split
 ·rfl
 ·have:aA (oq own (.d (.val (.slice none 0 0)))) env x=.d (.val (.slice none 0 0)):=hv;rw[this];simp[BZ]
 ·rename_i h1 h2;have:GH own sz v lo hi K=False:=by
   unfold GH;split
   ·exact(h1 _ rfl).elim
   ·unfold Vj;split
    ·exact(h2 rfl).elim
    ·rfl
   ·rfl
  rw[this,or_false]
theorem by1 (P:Program)(d:jO)(env:List SV)(own:List ak)(K:SV->List ak->Prop):opC P d env own K=kJ P d env own K:=by
 cases d<;>simp only[opC,kJ,gy1,gb1,mt1,gw1,gz1,nz1,dl1,eg1,V4,kc1,xv2,om0,ed1,V5,Yp,cn1,Yn,dh1,dm1,ng3,ki1,ef1,xk2,cm1,dx1,va2]
 case OV n x =>
  congr 1;funext b;cases n<;>cases b<;>simp[jq,nX]
 case slc sz x lo hi=>exact yx1 _ _ _ _ _ _ _
noncomputable def U8 (P:Program)(d:jO)(env:List SV)(own:List ak)(R:SV->Prop):Prop :=
 match d with
 | .mv x=>R (aA own env x)
 | .pick c a b=>fK (Ld (aA own env c) (aA own env a) (aA own env b)) R
 | .bin op x y=>fK (XE op (aA own env x) (aA own env y)) R
 | .beq n ks x y=>fK (XM n ks (aA own env x) (aA own env y)) R
 | .wB n x y=>fK (Lj n (aA own env x) (aA own env y)) R
 | .yU x=>fK (scap (aA own env x)) R
 | .lD n sz agg x i=>Gy n sz agg (aA own env x) (aA own env i) R
 | .uH x i=>Ho (aA own env x) (aA own env i) R
 | .FY x=>GY (src own (aA own env x)) R
 | .un op x=>fK (XI op (aA own env x)) R
 | .KC k x=>fK (XD k (aA own env x)) R
 | .aj off x=>fK (GU off (aA own env x)) R
 | .GN off sz agg x=>fK (GR off sz agg (aA own env x)) R
 | .len s x=>fK (XJ own s (aA own env x)) R
 | .ext x i=>fK (Jl i (aA own env x)) R
 | .jE fn fs cs=>R (.clo fn (fs.map (aA own env)) (cs.map (aA own env)))
 | .mm mx x xs=>fK (OA mx (aA own env x) (xs.map (aA own env))) R
 | .aO x=>fK (Ew (aA own env x)) R
 | .build z ps=>fK (LK (cval z) (ps.map fun p=>(p.1,aA own env p.2))) R
 | .load sz agg x=>Wv own sz agg (aA own env x) R
 | .div op x y=>Xh op (aA own env x) (aA own env y) R
 | .aQ sz x i=>TT own sz (aA own env x) (aA own env i) R
 | .eH n sz x i=>Vf n sz (aA own env x) (aA own env i) R
 | .slc sz x lo hi=>Oq sz (aA own env x) (lo.map (aA own env)) (hi.map (aA own env)) R
 | .uf x lo hi=>VB (aA own env x) (lo.map (aA own env)) (hi.map (aA own env)) R
 | .call f args=>iW P f own (args.map (aA own env)) R
 | .fZ x args=>Zo P (aA own env x) own (args.map (aA own env)) R
 | .aU _ sz n _ ps=>Yy sz n (wF own sz 0 (ps.map fun p=>(p.1,aA own env p.2))) R
 | .lI mk agg ok z x k=>V9 own mk agg ok (cval z) (aA own env x) (Aq (aA own env k)) R
 |_=>False
theorem yf2 (P:Program)(d:jO)(env:List SV)(own:List ak)(R:SV->Prop):U8 P d env own R=tC P d env own R:=by
 cases d<;>simp only[U8,tC,gy1,gb1,mt1,gw1,gz1,nz1,dl1,eg1,V4,V5,Yp,Yn,dm1,oh0,lv1,O9]
 case aU ty sz n z ps =>
  unfold Yy
  cases wF own sz 0 (ps.map fun p=>(p.1,aA own env p.2)) with
  |none=>rfl
  |some es=>exact bool2
 case fZ=>rfl
noncomputable def JG (g:Option (Nat×Bool))(env:List SV)(A B:List SV->Prop):Prop :=
 match g with
 |none=>A env
 |some (s,want) =>
  match eu env s with
  | .d (.val (.bool b))=>(match want with
   |true=>(match b with|true=>A (wX env s (.d (.val (.bool true))))|false=>B (wX env s (.d (.val (.bool false)))))
   |false=>(match b with|true=>B (wX env s (.d (.val (.bool true))))|false=>A (wX env s (.d (.val (.bool false))))))
  | .dO []=>B env
  |_=>False
theorem Qm (g:Option (Nat×Bool))(env:List SV)(A B:List SV->Prop):JG g env A B=nJ g env A B:=by
 cases g with
 |none=>rfl
 |some g =>
  obtain⟨s,want⟩:=g;simp only[JG,nJ];generalize eu env s=v;split
  ·rename_i b;cases want<;>cases b<;>simp
  ·rfl
  ·rename_i h1 h2;split
   ·exact(h1 _ rfl).elim
   ·exact(h2 rfl).elim
   ·rfl
noncomputable def QT (P:Program):List ah->List SV->List ak->(List SV->List ak->Prop)->Prop
 |[],env,own,K=>K env own
 |g::l,env,own,K =>
  JG g.guard env (fun env=>opC P g.op env own (fun sv own'=>QT P l (jk env g.dst sv) own' K)) (fun env=>QT P l (jk env g.dst (.dO [])) own K)
theorem js2 (P:Program)(l:List ah):∀ (env:List SV)(own:List ak)(K:List SV->List ak->Prop),QT P l env own K=run P l env own K:=by
 induction l with
 |nil=>intro env own K;rfl
 |cons g l ih=>intro env own K;simp only[QT,run,Qm,by1,ih]
noncomputable def OL (P:Program):List ah->List SV->List ak->(List SV->Prop)->Prop
 |[],env,_,K=>K env
 |g::l,env,own,K =>
  JG g.guard env (fun env=>U8 P g.op env own (fun sv=>OL P l (jk env g.dst sv) own K)) (fun env=>OL P l (jk env g.dst (.dO [])) own K)
theorem oj1 (P:Program)(l:List ah):∀ (env:List SV)(own:List ak)(K:List SV->Prop),OL P l env own K=xO P l env own K:=by
 induction l with
 |nil=>intro env own K;rfl
 |cons g l ih=>intro env own K;simp only[OL,xO,Qm,yf2,ih]
noncomputable def WB (c:SV)(A B:Unit->Prop):Prop :=
 match c with
 | .d (.val (.bool b))=>(match b with|true=>A ()|false=>B ())
 |_=>False
theorem de1 (c:SV)(A B:Unit->Prop):WB c A B=Px c (A ()) (B ()):=by
 unfold WB Px;split
 ·rename_i b;cases b<;>simp
 ·rename_i h;split
  ·exact(h _ rfl).elim
  ·rfl
noncomputable def wpC (P:Program)(n0:Nat):DC->List SV->List ak->(DX->List SV->List ak->Prop)->Prop
 | .skip,env,own,K=>K .normal env own
 | .reg gs,env,own,K=>QT P gs env own (fun env own=>K .normal env own)
 | .par _ _ _ _ gs,env,own,K=>(match gs.any ah.rW with
  |true=>(match uF env.length gs with
   |true=>OL P (gs.map ah.blank) env own (fun env'=>yG gs env' own gs env' own (fun env own=>K .normal env own))
   |false=>False)
  |false=>OL P gs env own (fun env=>K .normal env own))
 | .seq a b,env,own,K=>wpC P n0 a env own (fun e env' own'=>match e with | .normal=>wpC P n0 b env' own' K|e=>K e env' own')
 | .cond c x y,env,own,K=>WB (aA own env c) (fun _=>wpC P n0 x env own K) (fun _=>wpC P n0 y env own K)
 | .block id c,env,own,K=>wpC P n0 c env own (fun e env' own'=>match e with | .exit id'=>(match Nat.beq id' id with|true=>K .normal env' own'|false=>K (.exit id') env' own')|e=>K e env' own')
 | .loop c,env,own,K=>uY n0 (wpC P n0 c) env own K
 | .exit id,env,own,K=>K (.exit id) env own
 | .ret,env,own,K=>K .ret env own
theorem xu2 (P:Program)(n0:Nat)(c:DC):wpC P n0 c=xY P n0 c:=by
 induction c with
 |skip=>rfl
 |reg gs=>funext env own K;simp only[wpC,xY,js2]
 |par hy hl hs tl gs =>
  funext env own K;simp only[wpC,xY,oj1]
  cases gs.any ah.rW with
  |false=>rfl
  |true =>
   cases uF env.length gs with
   |false=>rfl
   |true=>rfl
 |seq a b iha ihb =>
  funext env own K;simp only[wpC,xY,iha,ihb];congr 1
 |cond c x y wL ihy=>funext env own K;simp only[wpC,xY,de1,wL,ihy]
 |block id c ih =>
  funext env own K;simp only[wpC,xY,ih];congr 1;funext e env' own'
  cases e with
  |exit id' =>
   simp only;cases h:Nat.beq id' id
   ·simp[BX h]
   ·simp[vY h]
  |_=>rfl
 |loop c ih=>funext env own K;simp only[wpC,xY,ih,kl1]
 |exit id=>rfl
 |ret=>rfl
theorem id0 {P:Program}{f:FuncId}{df:I9}{own:List ak}{args:List SV}{K:SV->List ak->Prop}(hf:fD P f=some df)
  (h:wpC P own.length df.code (pad df.ntmps args) own (Dc df.res K)):dX P f own args K:=sd1 hf (by rw[<- xu2];exact h)
theorem brk {b:Bool}{A B:Prop}:(b=true->A)->(b=false->B)->(match b with|true=>A|false=>B):=by
 cases b
 ·exact fun _ h=>h rfl
 ·exact fun h _=>h rfl
theorem dX.walk {P:Program}{f:FuncId}{df:I9}{args:List SV}{K0:SV->List ak->Prop}(hf:fD P f=some df)
  (h:∀ K:SV->List ak->Prop,(∀ sv own',K0 sv own'->K sv own')->wpC P 0 df.code (pad df.ntmps args) [] (Dc df.res K)):dX P f [] args K0:=id0 hf (h K0 fun _ _ h=>h)
def Fn1 (P:Program)(f:FuncId)(args:List SV)(s:SV):Prop:=dX P f [] args (fun sv _=>sv=s)
theorem Fn1.walk {P:Program}{f:FuncId}{df:I9}{args:List SV}{s:SV}(hf:fD P f=some df)
  (h:∀ K:SV->List ak->Prop,(∀ sv own',sv=s->K sv own')->wpC P 0 df.code (pad df.ntmps args) [] (Dc df.res K)):Fn1 P f args s:=dX.walk hf h
theorem xq.map {α:Type}{enc:α->List D}{xs:List α}{es:List (List D)}{n:Int}{sz:Nat}{K:SV->Prop}(he:es=xs.map enc)(h0:0<=n)(h1:n<xs.length)(hsz:∀ x,(enc x).length=sz)
  (hk:∀ x,xs[n.toNat]?=some x->K (.fp (enc x))):xq es n sz K:=by
 subst he;refine⟨h0,by simpa using h1,fun ds hd=>?_⟩;rw[qF,Option.map_eq_some_iff] at hd;obtain⟨x,hx,rfl⟩:=hd;exact⟨hsz x,hk x hx⟩
theorem A8.map {α:Type}{enc:α->List D}{xs:List α}{es:List (List D)}{i:Nat}{K:List D->Prop}(he:es=xs.map enc)(h1:i<xs.length)
  (hk:∀ x,xs[i]?=some x->K (enc x)):A8 es i K:=by
 subst he;refine⟨by simpa using h1,fun ds hd=>?_⟩;rw[qF,Option.map_eq_some_iff] at hd;obtain⟨x,hx,rfl⟩:=hd;exact hk x hx
theorem dV.own {P:Program}{f:FuncId}{own:List ak}{args:List SV}{K K0:SV->List ak->Prop}(h:dX P f own args K0)(hK:∀ sv own',K0 sv own'->K sv own'):dV P f own args K:=⟨.own (h.mono hK)⟩
theorem dV.fn {P:Program}{f:FuncId}{own:List ak}{args:List SV}{K:SV->List ak->Prop}{sv:SV}(h:dX P f own args (fun sv' own'=>sv'=sv/\own'=own))(hK:K sv own):dV P f own args K:=⟨.fn h hK⟩
theorem iW.fn {P:Program}{f:FuncId}{own:List ak}{args:List SV}{R:SV->Prop}{sv:SV}(h:dX P f own args (fun sv' own'=>sv'=sv/\own'=own))(hR:R sv):iW P f own args R:=⟨.mk h hR⟩
theorem dV.f1 {P:Program}{f:FuncId}{own:List ak}{args:List SV}{K:SV->List ak->Prop}{s:SV}(h:Fn1 P f args s)(ha:xP args=true)(hs:s.closed=true)(hK:K s own):dV P f own args K:=.fn (h.fn ha hs) hK
theorem iW.f1 {P:Program}{f:FuncId}{own:List ak}{args:List SV}{R:SV->Prop}{s:SV}(h:Fn1 P f args s)(ha:xP args=true)(hs:s.closed=true)(hR:R s):iW P f own args R:=.fn (h.fn ha hs) hR
theorem Sat.ks2 {c:Cx}{own:List ak}{w:World}(h:Sat c own w){r:Nat}{ty:TypeId}{cs:List SV}{ds:List D}(hx:own[r]?=some (.cells cs ty))(hd:nD own cs=some ds):Dt c own w (own.set r (.wz ds)):=by
 have Az:r<own.length:=(qA.1 hx).1;have hget:∀ (s:Nat) y,(own.set r (.wz ds))[s]?=some y->y.live=true->s≠r/\own[s]?=some y:=fun s y hy hl=>by
  rw[List.getElem?_set] at hy;split at hy
  ·rename_i e;subst e;simp[] at hy;subst hy;simp[ak.live] at hl
  ·rename_i e;exact⟨fun e'=>e e'.symm,hy⟩
 have BN:∀ (s:Nat) y,(own.set r (.wz ds))[s]?=some y->(s=r/\y=.wz ds)\/own[s]?=some y:=fun s y hy=>by
  rw[List.getElem?_set] at hy;split at hy
  ·rename_i e;subst e;simp[] at hy;exact .inl ⟨rfl,hy.symm⟩
  ·exact .inr hy
 obtain⟨b,us,hv,hb,hs,hc⟩:=h.res r _ hx;have hblk:jA (c.θ r)=some b:=by rw[hv];rfl
 have hnF:c.F b=none:=h.iw r _ b hx rfl hblk;have uN:c.le (c.ng b (.cells us ty (0,0))):=Cx.ZM hnF;have hown:Own c own b:=⟨r,_,hx,rfl,hblk⟩;have hrel:dP c cs us.toList:=⟨by simpa using hs,fun i s u h1 h2=>by
  obtain⟨u',k1,_,k3⟩:=hc i s h1;simp only[Array.getElem?_toList] at h2;rw[k1] at h2;cases h2;exact k3⟩
 obtain⟨_,hds⟩:=Nz h cs hrel hd;have hrep:Rel (c.ng b (.cells us ty (0,0))) (.fp ds) (c.θ r):=by
  rw[hv];refine .fp (cs:=us) (e:=ty) (fr:=(0,0)) (by simp[Cx.ng]) fun j d hj=>?_
  obtain⟨u,h1,h2⟩:=hds j d hj;exact⟨u,by simpa using h1,h2.mono uN.f⟩
 refine⟨c.ng b (.cells us ty (0,0)),⟨by simp[h.n,Cx.ng],fun s y hy=>?_,fun s t y z k hy hz eU hlz hk hk'=>?_,fun s y k hy eU hk=>?_,?_,h.one,Tabs.mono uN.f h.tab⟩,uN,
  ⟨rfl,rfl,rfl,qR _,fun _ _ _=>rfl,?_,?_,uN.f⟩⟩
 ·rcases BN s y hy with ⟨rfl,rfl⟩|hy
  ·exact hrep
  ·exact(h.res s y hy).keep uN (fun _ _ _=>rfl)
 ·exact h.apart s t y z k (hget s y hy eU).2 (hget t z hz hlz).2 eU hlz hk hk'
 ·obtain⟨hne,hy'⟩:=hget s y hy eU;simp only[Cx.ng];split
  ·rename_i e;subst e;exact absurd (h.apart s r y _ k hy' hx eU rfl hk hblk) hne
  ·exact h.iw s y k hy' eU hk
 ·intro k o hk;simp only[Cx.ng] at hk;split at hk
  ·rename_i e;subst e;cases hk;exact hb
  ·exact h.le k o hk
 ·intro k hk;simp only[Cx.ng] at hk;split at hk
  ·rename_i e;subst e;exact .inr (.inr hown)
  ·exact .inl hk
 ·rintro k ⟨s,y,hy,eU,hk⟩;exact .inl ⟨s,y,(hget s y hy eU).2,eU,hk⟩
theorem pm1 {own:List ak}{r:Nat}{cs:List SV}{ty:TypeId}(h:bG own r=.cells cs ty)(s:SV):bG (LX own s) r=.cells cs ty:=by
 unfold LX;split
 ·rename_i q;split
  ·rename_i hq;by_cases e:q=r
   ·subst e;rw[h] at hq;cases hq
   ·rw[yF,nV,List.getElem?_set_ne e,<- nV];exact h
  ·exact h
 ·exact h
theorem xl1 {r:Nat}{cs:List SV}{ty:TypeId}(l:List SV):∀ {own:List ak},bG own r=.cells cs ty->bG (KO own l) r=.cells cs ty:=by
 induction l with
 |nil=>intro own h;exact h
 |cons s l ih=>intro own h;exact ih (pm1 h s)
def Ox (own:List ak)(r:Nat):List ak :=
 match bG own r with
 | .cells cs _=>(match nD (KO own cs) cs with|some ds=>nC (KO own cs) r (.wz ds)|none=>own)
 |_=>own
theorem kl2 (own:List ak)(r:Nat):BJ own (Ox own r):=fun c w hS=>by
 unfold Ox;split
 ·rename_i cs ty hg;split
  ·rename_i ds hd;refine(fg1 cs hS).trans fun c1 h1=>?_
   have hg:=xl1 cs hg;rw[nV] at hg
   cases hx:(KO own cs)[r]? with
   |none=>simp[hx] at hg
   |some y =>
    simp[hx] at hg;subst hg;rw[yF];exact h1.ks2 hx hd
  ·exact .refl hS
 ·exact .refl hS
def FW (own:List ak):List Nat->List ak
 |[]=>own
 |r::l=>FW (Ox own r) l
theorem BJ.trans {a b c:List ak}(h:BJ a b)(k:BJ b c):BJ a c:=fun c0 w hS=>(h c0 w hS).trans fun c1 h1=>k c1 w h1
theorem OM (l:List Nat):∀ own:List ak,BJ own (FW own l):=by
 induction l with
 |nil=>intro own c w hS;exact .refl hS
 |cons r l ih=>intro own;exact(kl2 own r).trans (ih _)
def Jc : SV->SV
 | .d (.val (.slice none 0 0))=>.d (.sl [])
 |s=>s
theorem Yo {c:Cx}{s:SV}{u:Value}(h:Rel c s u):Rel c (Jc s) u:=by
 unfold Jc;split
 ·rw[h.gB];exact .d (.nil _ _ (fun _=>rfl))
 ·exact h
theorem dX.arg {P:Program}{f:FuncId}{own:List ak}{args args1:List SV}{K:SV->List ak->Prop}(h:dX P f own args1 K)(ha:FP own args args1):dX P f own args K :=
 ⟨h.1,fun c w us hS hr=>h.2 c w us hS (ha c w us hS hr)⟩
theorem dX.z {P:Program}{f:FuncId}{own:List ak}{args:List SV}{K:SV->List ak->Prop}(h:dX P f own (args.map Jc) K):dX P f own args K:=h.arg (.map _ fun _ _ _ _ _ h=>Yo h)
def Ji (own:List ak):SV->SV
 | .clo fn fs cs=>.clo fn (fs.map (nrm own)) (cs.map (nrm own))
 |s=>Jc (nrm own s)
theorem qn1 {c:Cx}{own:List ak}{w:World}(hS:Sat c own w){s:SV}{u:Value}(h:Rel c s u):Rel c (Ji own s) u:=by
 unfold Ji;split
 ·obtain⟨us,vs,rfl,h2,h3⟩:=Rel.Ag.1 h;exact Rel.Ag.2 ⟨us,vs,rfl,FP.nrm own _ c w us hS h2,FP.nrm own _ c w vs hS h3⟩
 ·exact Yo (yC hS h)
theorem dV.Ox {P:Program}{f:FuncId}{own:List ak}{args:List SV}{K K0:SV->List ak->Prop}(rs:List Nat)(h:dX P f (FW (mV own args) rs) (args.map (Ji (FW (mV own args) rs))) K0)(hK:∀ sv own',K0 sv own'->K sv own'):dV P f own args K :=
 ⟨⟨_,_,BJ.trans (fun _ _ hS=>CJ args hS) (OM rs _),.map _ fun _ _ _ _ hS h=>qn1 hS h,h.mono hK⟩⟩
theorem dV.ng {P:Program}{f:FuncId}{own:List ak}{args:List SV}{K K0:SV->List ak->Prop}(h:dX P f (mV own args) (args.map (Ji (mV own args))) K0)(hK:∀ sv own',K0 sv own'->K sv own'):dV P f own args K :=
 .Ox [] h hK
end Go.SX
