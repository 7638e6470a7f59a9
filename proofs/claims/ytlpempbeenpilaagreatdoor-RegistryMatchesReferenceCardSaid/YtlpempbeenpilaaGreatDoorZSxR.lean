/- Parts of the proof. -/
import Derived.Test.YtlpempbeenpilaaGreatDoorZSxN
set_option linter.unusedSimpArgs false
set_option linter.unusedVariables false
set_option linter.unusedSectionVars false
namespace Go.SX
open Go
variable [Tabs]
structure IOps where
 lt:Int→Int→Bool
 le:Int→Int→Bool
 eq:Int→Int→Bool
 ar:BinOp→IntKind→Int→Int→Int
 shl:IntKind→Int→Int→Int
 shr:IntKind→Int→Int→Int
 neg:IntKind→Int→Int
 wrap:IntKind→Int→Int
 mm:Bool→Int→Int→Int
 quo:IntKind→Int→Int→Int
 rem:Int→Int→Int
 beq:Bool→Bool→Bool→Bool
 not:Bool→Bool
 and:Bool→Bool→Bool
 seq:ByteArray→ByteArray→Bool
 slt:ByteArray→ByteArray→Bool
 ssz:ByteArray→Int
 cat:ByteArray→ByteArray→ByteArray
 ssub:ByteArray→Int→Int→ByteArray
 len:List (List D)→Int
 app:List (List D)→List (List D)→List (List D)
 sub:List (List D)→Int→Int→List (List D)
 set:List (List D)→Nat→List D→List (List D)
 rep:Int→List D→List (List D)
 take:List (List D)→Int→List (List D)
 clr:List (List D)→Nat→List D→List (List D)
 nat:Int→Nat
 natp:Nat→Int→Nat
 lenR:List (List D)→Nat→Int
 mput:List (Value×List D)→Value→List D→List (Value×List D)
 lenM:List (Value×List D)→Int
def arStd (op:BinOp)(k:IntKind)(a b:Int):Int :=
 match op with
 | .add=>k.wrap (a+b)
 | .sub=>k.wrap (a - b)
 | .mul=>k.wrap (a * b)
 | .and=>k.wrap (BitVec.ofInt k.bits a &&& BitVec.ofInt k.bits b).toNat
 | .or=>k.wrap (BitVec.ofInt k.bits a ||| BitVec.ofInt k.bits b).toNat
 | .xor=>k.wrap (BitVec.ofInt k.bits a ^^^ BitVec.ofInt k.bits b).toNat
 | .andNot=>k.wrap (BitVec.ofInt k.bits a &&& ~~~BitVec.ofInt k.bits b).toNat
 | _=>0
def ioStd : IOps where
 lt a b:=decide (a<b)
 le a b:=decide (a≤b)
 eq a b:=decide (a=b)
 ar:=arStd
 shl k a b:=k.wrap (a * 2 ^ min b.toNat k.bits)
 shr k a b:=a.fdiv (2 ^ min b.toNat k.bits)
 neg k a:=k.wrap (0 - a)
 wrap k a:=k.wrap a
 mm mx a b:=if mx then max a b else min a b
 quo k a b:=k.wrap (a.tdiv b)
 rem a b:=a.tmod b
 beq n a b:=n ^^ (a == b)
 not b:=!b
 and a b:=a&&b
 seq a b:=a.toList == b.toList
 slt a b:=Op.bytesLess a.toList b.toList
 ssz s:=s.size
 cat a b:=a++b
 ssub s l h:=s.extract l.toNat h.toNat
 len es:=es.length
 app a b:=a++b
 sub es l h:=(es.take h.toNat).drop l.toNat
 set es i d:=es.set i d
 rep n zs:=List.replicate n.toNat zs
 take es h:=es.take h.toNat
 clr es i zs:=es.take i++List.replicate (es.length - i) zs
 nat n:=n.toNat
 natp i n:=i+n.toNat
 lenR es i:=((es.length - i:Nat):Int)
 mput:=Go.SX.mput
 lenM es:=es.length
theorem ioEx : Nonempty { f:IOps // f=ioStd }:=⟨⟨ioStd,rfl⟩⟩
noncomputable def io : IOps:=(Classical.choice ioEx).1
theorem io_eq : io=ioStd:=(Classical.choice ioEx).2
noncomputable def sbinC (op:BinOp):SV→SV→Option SV
 | .d (.val (.int k a)),.d (.val (.int k' b)) =>
  match op with
  | .shl=>(match b with | .ofNat n=>some (.d (.val (.int k (io.shl k a (.ofNat n))))) | .negSucc _=>none)
  | .shr=>(match b with | .ofNat n=>some (.d (.val (.int k (io.shr k a (.ofNat n))))) | .negSucc _=>none)
  | op =>
   match decide (k=k') with
   | false=>none
   | true =>
   match op with
   | .add=>some (.d (.val (.int k (io.ar .add k a b))))
   | .sub=>some (.d (.val (.int k (io.ar .sub k a b))))
   | .mul=>some (.d (.val (.int k (io.ar .mul k a b))))
   | .and=>some (.d (.val (.int k (io.ar .and k a b))))
   | .or=>some (.d (.val (.int k (io.ar .or k a b))))
   | .xor=>some (.d (.val (.int k (io.ar .xor k a b))))
   | .andNot=>some (.d (.val (.int k (io.ar .andNot k a b))))
   | .eql=>some (.d (.val (.bool (io.eq a b))))
   | .neq=>some (.d (.val (.bool (io.not (io.eq a b)))))
   | .lss=>some (.d (.val (.bool (io.lt a b))))
   | .leq=>some (.d (.val (.bool (io.le a b))))
   | .gtr=>some (.d (.val (.bool (io.lt b a))))
   | .geq=>some (.d (.val (.bool (io.le b a))))
   | _=>none
 | .d (.val (.string a)),.d (.val (.string b)) =>
  match op with
  | .eql=>some (.d (.val (.bool (io.seq a b))))
  | .neq=>some (.d (.val (.bool (io.not (io.seq a b)))))
  | .lss=>some (.d (.val (.bool (io.slt a b))))
  | .leq=>some (.d (.val (.bool (match io.slt a b with | true=>true | false=>io.seq a b))))
  | .gtr=>some (.d (.val (.bool (io.not (match io.slt a b with | true=>true | false=>io.seq a b)))))
  | .geq=>some (.d (.val (.bool (io.not (io.slt a b)))))
  | _=>none
 | _,_=>none
theorem sbinC_eq (op:BinOp)(x y:SV):sbinC op x y=sbin op x y:=by
 unfold sbinC sbin;split
 ·rename_i k a k' b;split
  ·rw[io_eq]
   cases b with
   | ofNat n=>exact(if_neg (show ¬ (Int.ofNat n<0) by simp)).symm
   | negSucc n=>exact(if_pos (Int.negSucc_lt_zero n)).symm
  ·rw[io_eq]
   cases b with
   | ofNat n=>exact(if_neg (show ¬ (Int.ofNat n<0) by simp)).symm
   | negSucc n=>exact(if_pos (Int.negSucc_lt_zero n)).symm
  ·by_cases hk:k=k'
   ·subst hk;simp only[decide_true,ne_eq,not_true_eq_false,if_false];rw[io_eq];cases op<;>rfl
   ·simp[hk]
 ·rename_i a b;rw[io_eq];cases op<;>first | rfl | (simp only[ioStd];cases Op.bytesLess a.toList b.toList<;>rfl)
 ·rename_i h1 h2;split
  ·exact(h1 _ _ _ _ rfl rfl).elim
  ·exact(h2 _ _ rfl rfl).elim
  ·rfl
noncomputable def ckeqC : CK→Value→Value→Option Bool
 | .int,.int k a,.int k' b=>(match decide (k=k') with | true=>some (io.eq a b) | false=>none)
 | .bool,.bool a,.bool b=>some (io.beq false a b)
 | .str,.string a,.string b=>some (io.seq a b)
 | _,_,_=>none
theorem ckeqC_eq (k:CK)(u v:Value):ckeqC k u v=ckeq k u v:=by
 unfold ckeqC ckeq;rw[io_eq];split
 ·rename_i k a k' b;by_cases hk:k=k'
  ·simp[hk,ioStd]
  ·simp[hk]
 ·simp[ioStd]
 ·rfl
 ·rename_i h1 h2 h3;split
  ·exact(h1 _ _ _ _ rfl rfl rfl).elim
  ·exact(h2 _ _ rfl rfl rfl).elim
  ·exact(h3 _ _ rfl rfl rfl).elim
  ·rfl
noncomputable def seqsC : List CK→List SV→List SV→Option Bool:=seqsW ckeqC io.and
theorem seqsC_eq (ks:List CK)(l l':List SV):seqsC ks l l'=seqs ks l l':=by
 have e:ckeqC=ckeq:=funext fun k=>funext fun u=>funext fun v=>ckeqC_eq k u v
 have e2:io.and=and:=by rw[io_eq];funext a b;rfl
 unfold seqsC seqs;rw[e,e2]
noncomputable def sbeqC (neg:Bool)(ks:List CK):SV→SV→Option SV
 | .d (.val (.bool a)),.d (.val (.bool b))=>(match ks with | []=>some (.d (.val (.bool (io.beq neg a b)))) | _=>none)
 | .agg cs,.agg cs'=>(match seqsC ks cs cs' with | some b=>some (.d (.val (.bool (match neg with | true=>io.not b | false=>b)))) | none=>none)
 | _,_=>none
theorem sbeqC_eq (n:Bool)(ks:List CK)(x y:SV):sbeqC n ks x y=sbeq n ks x y:=by
 unfold sbeqC sbeq;simp only[seqsC_eq,io_eq,ioStd];cases n<;>simp<;>rfl
noncomputable def sunC (op:UnOp):SV→Option SV
 | .d (.val (.bool b))=>(match op with | .not=>some (.d (.val (.bool (io.not b)))) | _=>none)
 | .d (.val (.int k a))=>(match op with | .neg=>some (.d (.val (.int k (io.neg k a)))) | _=>none)
 | _=>none
theorem sunC_eq (op:UnOp)(x:SV):sunC op x=sun op x:=by unfold sunC sun;rw[io_eq];rfl
noncomputable def slenC (own:List Res)(str:Bool):SV→Option SV
 | .d (.sl es)=>(match str with | true=>none | false=>some (.d (.val (.int .i64 (io.len es)))))
 | .d (.val (.slice _ n _))=>(match str with | true=>none | false=>some (.d (.val (.int .i64 (.ofNat n)))))
 | .d (.val (.string s))=>(match str with | true=>some (.d (.val (.int .i64 (io.ssz s)))) | false=>none)
 | .hd r=>(match str with
  | true=>none
  | false=>match getr own r with
   | .row _ _ es=>some (.d (.val (.int .i64 (io.len es))))
   | _=>none)
 | .rs r _ i=>(match str with
  | true=>none
  | false=>match getr own r with
   | .row _ _ es=>some (.d (.val (.int .i64 (io.lenR es i))))
   | _=>none)
 | _=>none
theorem slenC_eq (own:List Res)(str:Bool)(x:SV):slenC own str x=slen own str x:=by unfold slenC slen;rw[io_eq];cases str<;>rfl
noncomputable def smlenC (own:List Res):SV→Option SV
 | .hd r=>(match getr own r with | .mp _ _ es=>some (.d (.val (.int .i64 (io.lenM es)))) | _=>none)
 | _=>none
theorem smlenC_eq (own:List Res)(x:SV):smlenC own x=smlen own x:=by unfold smlenC smlen;rw[io_eq];rfl
noncomputable def smmC (mx:Bool):SV→List SV→Option SV
 | v,[]=>(match v with | .d (.val (.int k a))=>some (.d (.val (.int k a))) | _=>none)
 | .d (.val (.int k a)),.d (.val (.int _ b))::l=>smmC mx (.d (.val (.int k (io.mm mx a b)))) l
 | _,_=>none
theorem smmC_eq (mx:Bool)(l:List SV):∀ x,smmC mx x l=smm mx x l:=by
 induction l with
 | nil=>intro x;unfold smmC smm;rfl
 | cons y l ih =>
  intro x;unfold smmC smm;split<;>simp_all [io_eq,ioStd]
noncomputable def scviC (k:IntKind):SV→Option SV
 | .d (.val (.int _ n))=>some (.d (.val (.int k (io.wrap k n))))
 | _=>none
theorem scviC_eq (k:IntKind)(x:SV):scviC k x=scvi k x:=by unfold scviC scvi;rw[io_eq];rfl
structure IdxS (es:List (List D))(n:Int)(sz:Nat)(K:SV→Prop):Prop where
 lo:0≤n
 hi:n<es.length
 k:∀ ds,es[n.toNat]?=some ds→ds.length=sz∧K (.fp ds)
theorem IdxS_iff (es:List (List D))(n:Int)(sz:Nat)(K:SV→Prop):IdxS es n sz K=(0≤n∧n<es.length∧∀ ds,es[n.toNat]?=some ds→ds.length=sz∧K (.fp ds)):=propext ⟨fun h=>⟨h.1,h.2,h.3⟩,fun h=>⟨h.1,h.2.1,h.2.2⟩⟩
structure RixS (es:List (List D))(n:Int)(K:Unit→Prop):Prop where
 lo:0≤n
 hi:n<es.length
 k:K ()
theorem RixS_iff (es:List (List D))(n:Int)(K:Unit→Prop):RixS es n K=(0≤n∧n<es.length∧K ()):=propext ⟨fun h=>⟨h.1,h.2,h.3⟩,fun h=>⟨h.1,h.2.1,h.2.2⟩⟩
structure RisS (es:List (List D))(i:Nat)(n:Int)(K:Unit→Prop):Prop where
 lo:0≤n
 hi:i+n<es.length
 k:K ()
theorem RisS_iff (es:List (List D))(i:Nat)(n:Int)(K:Unit→Prop):RisS es i n K=(0≤n∧i+n<es.length∧K ()):=propext ⟨fun h=>⟨h.1,h.2,h.3⟩,fun h=>⟨h.1,h.2.1,h.2.2⟩⟩
structure RowS (es:List (List D))(i:Nat)(K:List D→Prop):Prop where
 hi:i<es.length
 k:∀ ds,es[i]?=some ds→K ds
theorem RowS_iff (es:List (List D))(i:Nat)(K:List D→Prop):RowS es i K=(i<es.length∧∀ ds,es[i]?=some ds→K ds):=propext ⟨fun h=>⟨h.1,h.2⟩,fun h=>⟨h.1,h.2⟩⟩
structure DivS (b:Int)(K:Unit→Prop):Prop where
 ne:b≠0
 k:K ()
structure ShS (b:Int)(K:Unit→Prop):Prop where
 h:0≤b
 k:K ()
theorem ShS_iff (b:Int)(K:Unit→Prop):ShS b K=(0≤b∧K ()):=propext ⟨fun h=>⟨h.1,h.2⟩,fun h=>⟨h.1,h.2⟩⟩
structure CatS (a b:ByteArray)(K:Unit→Prop):Prop where
 h:a.size+b.size≤9223372036854775807
 k:K ()
theorem CatS_iff (a b:ByteArray)(K:Unit→Prop):CatS a b K=(a.size+b.size≤9223372036854775807∧K ()):=propext ⟨fun h=>⟨h.1,h.2⟩,fun h=>⟨h.1,h.2⟩⟩
theorem DivS_iff (b:Int)(K:Unit→Prop):DivS b K=(b≠0∧K ()):=propext ⟨fun h=>⟨h.1,h.2⟩,fun h=>⟨h.1,h.2⟩⟩
structure AppS (xs ys:List (List D))(sz bytes:Nat)(K:Unit→Prop):Prop where
 sz:∀ ds∈ys,ds.length=sz
 b:(xs.length+ys.length) * bytes≤140737488355328
 l:xs.length+ys.length≤maxLen
 k:K ()
theorem AppS_iff (xs ys:List (List D))(sz bytes:Nat)(K:Unit→Prop):AppS xs ys sz bytes K=((∀ ds∈ys,ds.length=sz)∧(xs.length+ys.length) * bytes≤140737488355328∧xs.length+ys.length≤maxLen∧K ()):=propext ⟨fun h=>⟨h.1,h.2,h.3,h.4⟩,fun h=>⟨h.1,h.2.1,h.2.2.1,h.2.2.2⟩⟩
structure SlcS (es:List (List D))(l h:Int)(sz:Nat)(K:Unit→Prop):Prop where
 lo:0≤l
 le:l≤h
 hi:h≤es.length
 sz:∀ ds∈es,ds.length=sz
 k:K ()
theorem SlcS_iff (es:List (List D))(l h:Int)(sz:Nat)(K:Unit→Prop):SlcS es l h sz K=(0≤l∧l≤h∧h≤es.length∧(∀ ds∈es,ds.length=sz)∧K ()):=propext ⟨fun h=>⟨h.1,h.2,h.3,h.4,h.5⟩,fun h=>⟨h.1,h.2.1,h.2.2.1,h.2.2.2.1,h.2.2.2.2⟩⟩
structure SubS (s:ByteArray)(l h:Int)(K:Unit→Prop):Prop where
 lo:0≤l
 le:l≤h
 hi:h≤s.size
 k:K ()
theorem SubS_iff (s:ByteArray)(l h:Int)(K:Unit→Prop):SubS s l h K=(0≤l∧l≤h∧h≤s.size∧K ()):=propext ⟨fun h=>⟨h.1,h.2,h.3,h.4⟩,fun h=>⟨h.1,h.2.1,h.2.2.1,h.2.2.2⟩⟩
structure MksS (n m:Int)(bytes:Nat)(K:Unit→Prop):Prop where
 lo:0≤n
 eq:n=m
 b:n.toNat * bytes≤140737488355328
 l:n≤maxLen
 k:K ()
theorem MksS_iff (n m:Int)(bytes:Nat)(K:Unit→Prop):MksS n m bytes K=(0≤n∧n=m∧n.toNat * bytes≤140737488355328∧n≤maxLen∧K ()):=propext ⟨fun h=>⟨h.1,h.2,h.3,h.4,h.5⟩,fun h=>⟨h.1,h.2.1,h.2.2.1,h.2.2.2.1,h.2.2.2.2⟩⟩
structure PixS (n:Int)(len:Nat)(K:Unit→Prop):Prop where
 lo:0≤n
 hi:n<len
 k:K ()
theorem PixS_iff (n:Int)(len:Nat)(K:Unit→Prop):PixS n len K=(0≤n∧n<len∧K ()):=propext ⟨fun h=>⟨h.1,h.2,h.3⟩,fun h=>⟨h.1,h.2.1,h.2.2⟩⟩
structure CallS (P:Program)(f:FuncId)(own:List Res)(args:List SV)(K:SV→List Res→Prop):Prop where
 k:CallN P f own args K
theorem CallS_iff (P:Program)(f:FuncId)(own:List Res)(args:List SV)(K:SV→List Res→Prop):CallS P f own args K=CallN P f own args K:=propext ⟨fun h=>h.1,fun h=>⟨h⟩⟩
structure FCallS (P:Program)(f:FuncId)(own:List Res)(args:List SV)(K:SV→Prop):Prop where
 k:FCallN P f own args K
theorem FCallS_iff (P:Program)(f:FuncId)(own:List Res)(args:List SV)(K:SV→Prop):FCallS P f own args K=FCallN P f own args K:=propext ⟨fun h=>h.1,fun h=>⟨h⟩⟩
structure LoopS (n0:Nat)(body:List SV→List Res→(DX→List SV→List Res→Prop)→Prop)(env:List SV)(own:List Res)(K:DX→List SV→List Res→Prop):Prop where
 k:LoopN n0 body env own K
theorem LoopS_iff (n0:Nat)(body:List SV→List Res→(DX→List SV→List Res→Prop)→Prop)(env:List SV)(own:List Res)(K:DX→List SV→List Res→Prop):LoopS n0 body env own K=LoopN n0 body env own K:=propext ⟨fun h=>h.1,fun h=>⟨h⟩⟩
noncomputable def IdxC (own:List Res)(sz:Nat)(x i:SV)(K:SV→Prop):Prop :=
 match x,i with
 | .d (.sl es),.d (.val (.int _ n))=>IdxS es n sz K
 | .hd r,.d (.val (.int _ n))=>(match getr own r with | .row _ s es=>(match Nat.beq s sz with | true=>RixS es n (fun _=>K (.rp r s (io.nat n) 0)) | false=>False) | _=>False)
 | .rs r s i,.d (.val (.int _ n))=>(match getr own r with
  | .row _ s' es=>(match Nat.beq s sz&&Nat.beq s' sz with | true=>RisS es i n (fun _=>K (.rp r s' (io.natp i n) 0)) | false=>False)
  | _=>False)
 | _,_=>False
theorem nbeq (a b:Nat):(Nat.beq a b=true)=(a=b):=by simp[Nat.beq_eq]
theorem IdxC_eq (own:List Res)(sz:Nat)(x i:SV):IdxC own sz x i=IdxN own sz x i:=by
 funext K;unfold IdxC IdxN;simp only[IdxS_iff,RixS_iff,RisS_iff];split
 ·rfl
 ·rename_i r k n;simp only[io_eq];split
  ·rename_i ty s es hg;cases h:Nat.beq s sz
   ·have:¬ s=sz:=fun e=>by rw[(nbeq s sz).mpr e] at h;cases h
    simp[this,hg]
   ·rw[nbeq] at h;simp[h,hg,ioStd]
  ·rename_i hg;split<;>simp_all
 ·rename_i r s i0 k n;simp only[io_eq];split
  ·rename_i ty s' es hg;cases h:Nat.beq s sz
   ·have:¬ s=sz:=fun e=>by rw[(nbeq s sz).mpr e] at h;cases h
    simp[this,hg]
   ·cases h':Nat.beq s' sz
    ·have:¬ s'=sz:=fun e=>by rw[(nbeq s' sz).mpr e] at h';cases h'
     simp[this,hg]
    ·rw[nbeq] at h h';simp[h,h',hg,ioStd]
  ·rename_i hg;split<;>simp_all
 ·rename_i h1 h2 h3;split
  ·exact(h1 _ _ _ rfl rfl).elim
  ·exact(h2 _ _ _ rfl rfl).elim
  ·exact(h3 _ _ _ _ _ rfl rfl).elim
  ·rfl
noncomputable def LoadC (own:List Res)(sz:Nat)(agg:Bool)(x:SV)(K:SV→Prop):Prop :=
 match x with
 | .rp r s i j=>(match getr own r with
  | .row _ s' es=>(match Nat.beq s s' with
   | true=>RowS es i (fun ds=>PureN (sload own sz agg (.fp (ds.drop j))) K)
   | false=>False)
  | _=>False)
 | x=>PureN (sload own sz agg x) K
theorem beqF {a b:Nat}(h:Nat.beq a b=false):¬ a=b:=fun e=>by rw[(nbeq a b).mpr e] at h;cases h
theorem beqT {a b:Nat}(h:Nat.beq a b=true):a=b:=(nbeq a b).mp h
theorem LoadC_eq (own:List Res)(sz:Nat)(agg:Bool)(x:SV):LoadC own sz agg x=LoadN own sz agg x:=by
 funext K;unfold LoadC LoadN;simp only[RowS_iff];split
 ·rename_i r s i j;split
  ·rename_i ty s' es hg;cases h:Nat.beq s s'
   ·simp[beqF h,hg]
   ·simp[beqT h,hg]
  ·rename_i hg;split<;>simp_all
 ·rename_i h;split
  ·exact(h _ _ _ _ rfl).elim
  ·rfl
noncomputable def DivC (op:BinOp)(x y:SV)(K:SV→Prop):Prop :=
 match x,y with
 | .d (.val (.int k a)),.d (.val (.int k' b))=>(match op with
  | .quo=>(match decide (k=k') with | true=>DivS b (fun _=>K (.d (.val (.int k (io.quo k a b))))) | false=>False)
  | .rem=>(match decide (k=k') with | true=>DivS b (fun _=>K (.d (.val (.int k (io.rem a b))))) | false=>False)
  | .shl=>ShS b (fun _=>K (.d (.val (.int k (io.shl k a b)))))
  | .shr=>ShS b (fun _=>K (.d (.val (.int k (io.shr k a b)))))
  | _=>False)
 | .d (.val (.string a)),.d (.val (.string b))=>(match op with
  | .add=>CatS a b (fun _=>K (.d (.val (.string (io.cat a b)))))
  | _=>False)
 | _,_=>False
theorem DivC_eq (op:BinOp)(x y:SV):DivC op x y=DivN op x y:=by
 funext K;unfold DivC DivN;simp only[DivS_iff,ShS_iff,CatS_iff];split
 ·rename_i k a k' b;simp only[io_eq];cases op<;>simp only[DivI,divR,false_and,ioStd]
  all_goals (by_cases hk:k=k'<;>simp[hk])
 ·rename_i a b;simp only[io_eq];cases op<;>simp[ioStd]
 ·rename_i h h';split
  ·exact(h _ _ _ _ rfl rfl).elim
  ·exact(h' _ _ rfl rfl).elim
  ·rfl
noncomputable def StoreC (own:List Res)(sz:Nat)(x v:SV)(K:List Res→Prop):Prop :=
 match x with
 | .ptr r k=>(match getr own r with
  | .cells cs ty=>(match v.flat&&(Nat.beq v.cells.length sz&&(v.cells.all SV.one&&Nat.ble (k+sz) cs.length)) with
   | true=>K (setr own r (.cells (splice k v.cells cs) ty))
   | false=>False)
  | _=>False)
 | .rp r s i j=>(match getr own r with
  | .row ty s' es=>(match Nat.beq s s'&&(v.flat&&(Nat.beq v.cells.length sz&&Nat.ble (j+sz) s)) with
   | true=>(match toDs own v.cells with
    | some ds'=>RowS es i (fun ds=>K (setr own r (.row ty s (io.set es i (splice j ds' ds)))))
    | none=>False)
   | false=>False)
  | _=>False)
 | _=>False
theorem StoreC_eq (own:List Res)(sz:Nat)(x v:SV):StoreC own sz x v=StoreN own sz x v:=by
 funext K;unfold StoreC StoreN;simp only[RowS_iff]
 cases x with
 | ptr r k =>
  simp only
  cases getr own r with
  | cells cs ty =>
   simp only;cases h1:v.flat<;>simp;cases h2:Nat.beq v.cells.length sz
   ·simp[beqF h2]
   ·simp only[beqT h2,true_and];cases h3:v.cells.all SV.one
    ·simp at h3;simp;intro h;obtain⟨x,m1,m2⟩:=h3;exact absurd (h x m1) (by simp[m2])
    ·simp at h3;cases h4:Nat.ble (k+sz) cs.length
     ·have:¬ k+sz≤cs.length:=fun e=>by rw[Nat.ble_eq_true_of_le e] at h4;cases h4
      simp[this]
     ·have:=Nat.le_of_ble_eq_true h4;simp[this];exact fun _=>h3
  | _=>rfl
 | rp r s i j =>
  simp only
  cases getr own r with
  | row ty s' es =>
   simp only[io_eq,ioStd];cases h0:Nat.beq s s'
   ·simp[beqF h0]
   cases h1:v.flat<;>simp;cases h2:Nat.beq v.cells.length sz
   ·simp[beqF h2]
   cases h4:Nat.ble (j+sz) s
   ·have:¬ j+sz≤s:=fun e=>by rw[Nat.ble_eq_true_of_le e] at h4;cases h4
    simp[this]
   ·have:=Nat.le_of_ble_eq_true h4;obtain rfl:=beqT h0;simp only[beqT h2,true_and,this]
    cases toDs own v.cells with
    | none=>simp
    | some ds'=>simp
  | _=>rfl
 | _=>rfl
noncomputable def BoxC (own:List Res)(ty:TypeId)(s:SV)(K:SV→List Res→Prop):Prop :=
 match s.flat&&s.cells.all SV.one with
 | true=>K (.ptr own.length 0) (own++[.cells s.cells ty])
 | false=>False
theorem BoxC_eq (own:List Res)(ty:TypeId)(s:SV):BoxC own ty s=BoxN own ty s:=by
 funext K;unfold BoxC BoxN;cases h1:s.flat<;>simp;cases h3:s.cells.all SV.one
 ·simp at h3;simp;intro h;obtain⟨x,m1,m2⟩:=h3;exact absurd (h x m1) (by simp[m2])
 ·simp at h3;simp;exact fun _=>h3
noncomputable def BsliceC (own:List Res)(ty sz n:Nat)(es:Option (List (List D)))(K:SV→List Res→Prop):Prop :=
 match es with
 | some es=>(match Nat.beq es.length n&&Nat.ble (n * sz) 16777216 with | true=>K (.hd own.length) (own++[.row ty sz es]) | false=>False)
 | none=>False
theorem bool2 {a b c d:Nat}{X:Prop}:(match Nat.beq a b&&Nat.ble c d with | true=>X | false=>False)=(a=b∧c≤d∧X):=by
 cases h1:Nat.beq a b
 ·simp[beqF h1]
 ·cases h2:Nat.ble c d
  ·have:¬ c≤d:=fun e=>by rw[Nat.ble_eq_true_of_le e] at h2;cases h2
   simp[this]
  ·simp[beqT h1,Nat.le_of_ble_eq_true h2]
theorem BsliceC_eq (own:List Res)(ty sz n:Nat)(es:Option (List (List D))):BsliceC own ty sz n es=BsliceN own ty sz n es:=by
 funext K;unfold BsliceC BsliceN
 cases es with
 | none=>rfl
 | some es=>exact bool2
noncomputable def FBsliceC (sz n:Nat)(es:Option (List (List D)))(R:SV→Prop):Prop :=
 match es with
 | some es=>(match Nat.beq es.length n&&Nat.ble (n * sz) 16777216 with | true=>R (.d (.sl es)) | false=>False)
 | none=>False
noncomputable def AppC (own:List Res)(ty sz bytes:Nat)(x:SV)(ys:Option (List (List D)))(K:SV→List Res→Prop):Prop :=
 match ys with
 | none=>False
 | some ys =>
  match x with
  | .d (.val (.slice none 0 0))=>AppS [] ys sz bytes (fun _=>K (.hd own.length) (own++[.row ty sz ys]))
  | .hd r=>(match getr own r with
   | .row ty' sz' xs=>(match Nat.beq ty' ty&&Nat.beq sz' sz with
    | true=>AppS xs ys sz bytes (fun _=>K (.hd own.length) (setr own r .gone++[.row ty sz (io.app xs ys)]))
    | false=>False)
   | _=>False)
  | _=>False
theorem AppC_eq (own:List Res)(ty sz bytes:Nat)(x:SV)(ys:Option (List (List D))):AppC own ty sz bytes x ys=AppN own ty sz bytes x ys:=by
 funext K;unfold AppC AppN;simp only[AppS_iff,List.length_nil,Nat.zero_add]
 cases ys with
 | none=>rfl
 | some ys =>
  simp only;split
  ·rfl
  ·rename_i r;dsimp only
   cases getr own r with
   | row ty' sz' xs =>
    simp only[io_eq,ioStd];cases h1:Nat.beq ty' ty
    ·simp[beqF h1]
    ·cases h2:Nat.beq sz' sz
     ·simp[beqF h2]
     ·simp[beqT h1,beqT h2]
   | _=>rfl
  ·split
   ·rename_i h1 h2;exact(h1 rfl).elim
   ·rename_i h1 h2;exact(h2 _ rfl).elim
   ·rfl
noncomputable def bndE (es:List (List D)):Option SV→Option Int
 | none=>some (io.len es)
 | some (.d (.val (.int _ n)))=>some n
 | some _=>none
noncomputable def SlcC (sz:Nat)(x:SV)(lo hi:Option SV)(K:SV→Prop):Prop :=
 match x with
 | .d (.sl es)=>(match bnd (.ofNat 0) lo,bndE es hi with
  | some l,some h=>SlcS es l h sz (fun _=>K (.d (.sl (io.sub es l h))))
  | _,_=>False)
 | _=>False
theorem SlcC_eq (sz:Nat)(x:SV)(lo hi:Option SV):SlcC sz x lo hi=SlcN sz x lo hi:=by
 funext K;unfold SlcC SlcN;simp only[SlcS_iff];split
 ·rename_i es;have:bndE es hi=bnd es.length hi:=by unfold bndE bnd;rw[io_eq];rfl
  rw[this,io_eq];rfl
 ·split<;>simp_all
noncomputable def bndS (s:ByteArray):Option SV→Option Int
 | none=>some (io.ssz s)
 | some (.d (.val (.int _ n)))=>some n
 | some _=>none
noncomputable def SlcSC (x:SV)(lo hi:Option SV)(K:SV→Prop):Prop :=
 match x with
 | .d (.val (.string s))=>(match bnd (.ofNat 0) lo,bndS s hi with
  | some l,some h=>SubS s l h (fun _=>K (.d (.val (.string (io.ssub s l h)))))
  | _,_=>False)
 | _=>False
theorem SlcSC_eq (x:SV)(lo hi:Option SV):SlcSC x lo hi=SlcSN x lo hi:=by
 funext K;unfold SlcSC SlcSN;simp only[SubS_iff];split
 ·rename_i s;have:bndS s hi=bnd s.size hi:=by unfold bndS bnd;rw[io_eq];rfl
  rw[this,io_eq];rfl
 ·split<;>simp_all
noncomputable def MksC (own:List Res)(ty sz bytes:Nat)(zs:Option (List D))(l k:SV)(K:SV→List Res→Prop):Prop :=
 match zs,l,k with
 | some zs,.d (.val (.int .i64 n)),.d (.val (.int .i64 m))=>(match Nat.beq zs.length sz with
  | true=>MksS n m bytes (fun _=>K (.hd own.length) (own++[.row ty sz (io.rep n zs)]))
  | false=>False)
 | _,_,_=>False
theorem MksC_eq (own:List Res)(ty sz bytes:Nat)(zs:Option (List D))(l k:SV):MksC own ty sz bytes zs l k=MksN own ty sz bytes zs l k:=by
 funext K;unfold MksC MksN;simp only[MksS_iff];split
 ·rename_i zs n m;rw[io_eq];cases h1:Nat.beq zs.length sz
  ·simp[beqF h1]
  ·simp[beqT h1,ioStd]
 ·split<;>simp_all
noncomputable def IdxPC (len sz:Nat)(x i:SV)(K:SV→Prop):Prop :=
 match x,i with
 | .ptr r k,.d (.val (.int _ n))=>PixS n len (fun _=>K (.ptr r (k+io.nat n * sz)))
 | .fp ds,.d (.val (.int _ n))=>PixS n len (fun _=>K (.fp (ds.drop (io.nat n * sz))))
 | _,_=>False
theorem IdxPC_eq (len sz:Nat)(x i:SV):IdxPC len sz x i=IdxPN len sz x i:=by
 funext K;unfold IdxPC IdxPN;simp only[PixS_iff,io_eq];split
 ·rfl
 ·rfl
 ·rename_i h1 h2;split
  ·exact(h1 _ _ _ _ rfl rfl).elim
  ·exact(h2 _ _ _ rfl rfl).elim
  ·rfl
noncomputable def CallVC (P:Program)(x:SV)(own:List Res)(args:List SV)(K:SV→List Res→Prop):Prop :=
 match x with
 | .clo (.func f) first cap=>CallS P f own (first++args++cap) K
 | _=>False
theorem CallVC_eq (P:Program)(x:SV)(own:List Res)(args:List SV)(K:SV→List Res→Prop):CallVC P x own args K=CallVN P x own args K:=by
 cases x with
 | clo fn a b=>cases fn<;>simp only[CallVC,CallVN,CallS_iff]
 | _=>rfl
noncomputable def FCallVC (P:Program)(x:SV)(own:List Res)(args:List SV)(K:SV→Prop):Prop :=
 match x with
 | .clo (.func f) first cap=>FCallS P f own (first++args++cap) K
 | _=>False
theorem FCallVC_eq (P:Program)(x:SV)(own:List Res)(args:List SV)(K:SV→Prop):FCallVC P x own args K=FCallVN P x own args K:=by
 cases x with
 | clo fn a b=>cases fn<;>simp only[FCallVC,FCallVN,FCallS_iff]
 | _=>rfl
structure OrS (A B:Unit→Prop):Prop where
 h:A ()∨B ()
theorem OrS_iff (A B:Unit→Prop):OrS A B=(A ()∨B ()):=propext ⟨fun h=>h.1,fun h=>⟨h⟩⟩
theorem OrS.data {A B:Unit→Prop}(h:A ()):OrS A B:=⟨.inl h⟩
theorem OrS.own {A B:Unit→Prop}(h:B ()):OrS A B:=⟨.inr h⟩
structure HeadS (es:List (List D))(h:Int)(K:Unit→Prop):Prop where
 lo:0≤h
 hi:h≤es.length
 k:K ()
theorem HeadS_iff (es:List (List D))(h:Int)(K:Unit→Prop):HeadS es h K=(0≤h∧h≤es.length∧K ()):=propext ⟨fun h=>⟨h.1,h.2,h.3⟩,fun h=>⟨h.1,h.2.1,h.2.2⟩⟩
structure NilS (es:List (List D))(K:Bool→Prop):Prop where
 t:es=[]→K true
 f:K false
theorem NilS_iff (es:List (List D))(K:Bool→Prop):NilS es K=((es=[]→K true)∧K false):=propext ⟨fun h=>⟨h.1,h.2⟩,fun h=>⟨h.1,h.2⟩⟩
def NilC (own:List Res)(x:SV)(K:Bool→Prop):Prop:=NilG NilS own x K
theorem NilC_eq (own:List Res)(x:SV):NilC own x=NilN own x:=by
 funext K;unfold NilC NilN;rw[show NilS=(fun es K=>(es=[]→K true)∧K false) from funext fun es=>funext fun K=>NilS_iff es K]
noncomputable def SlcRC (own:List Res)(sz:Nat)(x:SV)(lo hi:Option SV)(K:SV→List Res→Prop):Prop :=
 match x with
 | .hd r=>(match getr own r with
  | .row ty s es=>(match lo,hi with
   | none,some (.d (.val (.int _ h)))=>HeadS es h (fun _=>K (.hd own.length) (setr own r .gone++[.row ty s (io.take es h)]))
   | some (.d (.val (.int _ l))),none=>(match Nat.beq s sz with | true=>HeadS es l (fun _=>K (.rs r s (io.nat l)) own) | false=>False)
   | _,_=>False)
  | _=>False)
 | .d d=>SlcNilN own d lo hi K
 | _=>False
theorem SlcRC_eq (own:List Res)(sz:Nat)(x:SV)(lo hi:Option SV)(K:SV→List Res→Prop):SlcRC own sz x lo hi K=SlcRN own sz x lo hi K:=by
 unfold SlcRC SlcRN;simp only[HeadS_iff,io_eq]
 cases x with
 | hd r =>
  dsimp only
  cases getr own r with
  | row ty s es =>
   dsimp only;split
   ·rfl
   ·rename_i kk l;cases h:Nat.beq s sz
    ·simp[beqF h]
    ·simp[beqT h,ioStd]
   ·rename_i h1 h2;split
    ·exact(h1 _ _ rfl rfl).elim
    ·exact(h2 _ _ rfl rfl).elim
    ·rfl
  | _=>rfl
 | d d=>rfl
 | _=>rfl
structure ClrS (es:List (List D))(i:Nat)(K:Unit→Prop):Prop where
 hi:i≤es.length
 k:K ()
theorem ClrS_iff (es:List (List D))(i:Nat)(K:Unit→Prop):ClrS es i K=(i≤es.length∧K ()):=propext ⟨fun h=>⟨h.1,h.2⟩,fun h=>⟨h.1,h.2⟩⟩
noncomputable def ClrC (own:List Res)(sz:Nat)(zs:Option (List D))(x:SV)(K:List Res→Prop):Prop :=
 match x with
 | .rs r s i=>(match getr own r,zs with
  | .row ty s' es,some zs=>(match Nat.beq s sz&&(Nat.beq s' sz&&Nat.beq zs.length sz) with
   | true=>ClrS es i (fun _=>K (setr own r (.row ty s' (io.clr es i zs))))
   | false=>False)
  | _,_=>False)
 | _=>False
theorem ClrC_eq (own:List Res)(sz:Nat)(zs:Option (List D))(x:SV)(K:List Res→Prop):ClrC own sz zs x K=ClrN own sz zs x K:=by
 unfold ClrC ClrN;simp only[ClrS_iff,io_eq]
 cases x with
 | rs r s i =>
  dsimp only
  cases getr own r with
  | row ty s' es =>
   cases zs with
   | none=>rfl
   | some zs =>
    dsimp only;cases h1:Nat.beq s sz
    ·simp[beqF h1]
    ·cases h2:Nat.beq s' sz
     ·simp[beqF h2]
     ·cases h3:Nat.beq zs.length sz
      ·simp[beqF h3]
      ·simp[beqT h1,beqT h2,beqT h3,ioStd]
  | _=>rfl
 | _=>rfl
structure LookS (es:List (Value×List D))(x:Value)(A:List D→Prop)(B:Unit→Prop):Prop where
 yes:∀ ds,mget es x=some ds→A ds
 no:mget es x=none→B ()
theorem LookS_iff (es:List (Value×List D))(x:Value)(A:List D→Prop)(B:Unit→Prop):LookS es x A B=((∀ ds,mget es x=some ds→A ds)∧(mget es x=none→B ())):=propext ⟨fun h=>⟨h.1,h.2⟩,fun h=>⟨h.1,h.2⟩⟩
noncomputable def keyEqC : Value→Value→Bool
 | .int k a,.int k' b=>(match decide (k=k') with | true=>io.eq a b | false=>false)
 | x,y=>keyEq x y
theorem keyEqC_eq (x y:Value):keyEqC x y=keyEq x y:=by
 unfold keyEqC;rw[io_eq];split
 ·rename_i k a k' b;simp only[keyEq,ioStd];cases decide (k=k')<;>simp
 ·rfl
noncomputable def LookF : List (Value×SV)→Value→(SV→Prop)→(Unit→Prop)→Prop
 | [],_,_,B=>B ()
 | (k,s)::l,x,A,B=>(match keyEqC x k with | true=>A s | false=>LookF l x A B)
theorem LookF_eq (x:Value)(A:SV→Prop)(B:Unit→Prop):∀ es:List (Value×SV),LookF es x A B=((∀ s,mget es x=some s→A s)∧(mget es x=none→B ()))
 | []=>by simp[LookF,mget]
 | (k,s)::l=>by
  unfold LookF mget;rw[keyEqC_eq,LookF_eq x A B l];cases keyEq x k<;>simp
noncomputable def MsetC (own:List Res)(mk:MK)(agg:Bool)(x k v:SV)(K:List Res→Prop):Prop :=
 match x,k with
 | .hd r,.d (.val kv)=>(match getr own r with
  | .mp mk' agg' es=>(match decide (mk'=mk)&&((agg' == agg)&&(mk.ok kv&&(v.flat&&(v.isAgg == agg)))) with
   | true=>(match toDs own v.cells with | some ds=>K (setr own r (.mp mk agg (io.mput es kv ds))) | none=>False)
   | false=>False)
  | .mpf mk' es=>(match decide (mk'=mk)&&((false == agg)&&(mk.ok kv&&v.isClo)) with | true=>K (setr own r (.mpf mk (mput es kv v))) | false=>False)
  | _=>False)
 | _,_=>False
theorem MsetC_eq (own:List Res)(mk:MK)(agg:Bool)(x k v:SV)(K:List Res→Prop):MsetC own mk agg x k v K=MsetN own mk agg x k v K:=by
 unfold MsetC MsetN;simp only[io_eq,ioStd]
 cases x with
 | hd r =>
  cases k with
  | d dd =>
   cases dd with
   | val kv =>
    dsimp only
    cases getr own r with
    | mp mk' agg' es =>
     dsimp only
     cases hb:(decide (mk'=mk)&&((agg' == agg)&&(mk.ok kv&&(v.flat&&(v.isAgg == agg))))) with
     | false =>
      simp only[eq_iff_iff,false_iff];rintro ⟨h1,h2,h3,h4,h5,_⟩;simp[h1,h2,h3,h4,h5] at hb
     | true =>
      simp only[qJ,zB,beq_iff_eq] at hb;obtain⟨h1,h2,h3,h4,h5⟩:=hb;simp only[h1,h2,h3,h4,h5,true_and]
      cases toDs own v.cells with
      | none=>simp
      | some ds=>simp
    | mpf mk' es =>
     dsimp only
     cases hb:(decide (mk'=mk)&&((false == agg)&&(mk.ok kv&&v.isClo))) with
     | false =>
      simp only[eq_iff_iff,false_iff];rintro ⟨h1,h2,h3,h4,_⟩;simp[h1,h2,h3,h4] at hb
     | true =>
      simp only[qJ,zB,beq_iff_eq] at hb;obtain⟨h1,h2,h3,h4⟩:=hb;simp only[h1,← h2,h3,h4,true_and]
    | _=>rfl
   | sl es=>rfl
  | _=>rfl
 | _=>rfl
structure MdelS (es:List (Value×List D))(k:Value)(K:List (Value×List D)→Prop):Prop where
 k:K (mdel es k)
theorem MdelS_iff (es:List (Value×List D))(k:Value)(K:List (Value×List D)→Prop):MdelS es k K=K (mdel es k):=propext ⟨fun h=>h.1,fun h=>⟨h⟩⟩
noncomputable def MdelC (own:List Res)(mk:MK)(x k:SV)(K:List Res→Prop):Prop :=
 match x,k with
 | .hd r,.d (.val kv)=>(match getr own r with
  | .mp mk' agg es=>(match decide (mk'=mk)&&mk.ok kv with | true=>MdelS es kv (fun zs=>K (setr own r (.mp mk agg zs))) | false=>False)
  | _=>False)
 | _,_=>False
theorem MdelC_eq (own:List Res)(mk:MK)(x k:SV)(K:List Res→Prop):MdelC own mk x k K=MdelN own mk x k K:=by
 unfold MdelC MdelN;simp only[MdelS_iff]
 cases x with
 | hd r =>
  cases k with
  | d dd =>
   cases dd with
   | val kv =>
    dsimp only
    cases getr own r with
    | mp mk' agg es =>
     dsimp only;by_cases h1:mk'=mk
     ·cases h2:mk.ok kv<;>simp[h1]
     ·simp[h1]
    | _=>rfl
   | sl es=>rfl
  | _=>rfl
 | _=>rfl
noncomputable def MgetC (own:List Res)(mk:MK)(agg ok:Bool)(z x k:SV)(K:SV→Prop):Prop :=
 match k with
 | .d (.val kv)=>(match x with
  | .hd r=>(match getr own r with
   | .mp mk' agg' es=>(match decide (mk'=mk)&&((agg' == agg)&&mk.ok kv) with
    | true=>LookS es kv (fun ds=>K (mres ok (dsv agg ds) true)) (fun _=>K (mres ok z false))
    | false=>False)
   | .mpf mk' es=>(match decide (mk'=mk)&&((false == agg)&&mk.ok kv) with | true=>LookF es kv (fun s=>K (mres ok s true)) (fun _=>K (mres ok z false)) | false=>False)
   | _=>False)
  | .d (.val (.map none))=>(match mk.ok kv with | true=>K (mres ok z false) | false=>False)
  | _=>False)
 | _=>False
theorem MgetC_eq (own:List Res)(mk:MK)(agg ok:Bool)(z x k:SV)(K:SV→Prop):MgetC own mk agg ok z x k K=MgetN own mk agg ok z x k K:=by
 unfold MgetC MgetN;simp only[LookS_iff]
 cases k with
 | d dd =>
  cases dd with
  | val kv =>
   dsimp only
   cases x with
   | hd r =>
    dsimp only
    cases getr own r with
    | mp mk' agg' es =>
     dsimp only
     cases hb:(decide (mk'=mk)&&((agg' == agg)&&mk.ok kv)) with
     | false =>
      simp only[eq_iff_iff,false_iff];rintro ⟨h1,h2,h3,_⟩;simp[h1,h2,h3] at hb
     | true =>
      simp only[qJ,zB,beq_iff_eq] at hb;obtain⟨h1,h2,h3⟩:=hb;simp only[h1,h2,h3,true_and]
    | mpf mk' es =>
     dsimp only
     cases hb:(decide (mk'=mk)&&((false == agg)&&mk.ok kv)) with
     | false =>
      simp only[eq_iff_iff,false_iff];rintro ⟨h1,h2,h3,_⟩;simp[h1,h2,h3] at hb
     | true =>
      simp only[qJ,zB,beq_iff_eq] at hb;obtain⟨h1,h2,h3⟩:=hb;simp only[h1,← h2,h3,true_and,LookF_eq]
    | _=>rfl
   | d dx =>
    cases dx with
    | sl es=>rfl
    | val u =>
     cases u with
     | map m =>
      cases m with
      | none=>dsimp only;cases mk.ok kv<;>simp
      | some b=>rfl
     | _=>rfl
   | _=>rfl
  | sl es=>rfl
 | _=>rfl
noncomputable def opC (P:Program)(d:DOp)(env:List SV)(own:List Res)(K:SV→List Res→Prop):Prop :=
 match d with
 | .mv x=>K (evn own env x) own
 | .pick c a b=>PureN (spick (evn own env c) (evn own env a) (evn own env b)) (fun sv=>K sv own)
 | .bin op x y=>PureN (sbinC op (evn own env x) (evn own env y)) (fun sv=>K sv own)
 | .beq n ks x y=>PureN (sbeqC n ks (evn own env x) (evn own env y)) (fun sv=>K sv own)
 | .fnil n x y=>PureN (sfnil n (evn own env x) (evn own env y)) (fun sv=>K sv own)
 | .snl n x=>NilC own (evn own env x) (fun b=>K (.d (.val (.bool (match n with | true=>io.not b | false=>b)))) own)
 | .capn x=>PureN (scap (evn own env x)) (fun sv=>K sv own)
 | .mlen x=>PureN (smlenC own (evn own env x)) (fun sv=>K sv own)
 | .mdel mk x k=>MdelC own mk (evn own env x) (kvS (evn own env k)) (fun own'=>K (.tup []) own')
 | .pnil n x=>PureN (spnil n (evn own env x)) (fun sv=>K sv own)
 | .nope=>False
 | .idxV n sz agg x i=>IdxVN n sz agg (evn own env x) (evn own env i) (fun sv=>K sv own)
 | .idxS x i=>IdxStN (evn own env x) (evn own env i) (fun sv=>K sv own)
 | .b2s x=>B2sN (src own (evn own env x)) (fun sv=>K sv own)
 | .un op x=>PureN (sunC op (evn own env x)) (fun sv=>K sv own)
 | .cvi k x=>PureN (scviC k (evn own env x)) (fun sv=>K sv own)
 | .fadd off x=>PureN (sfadd off (evn own env x)) (fun sv=>K sv own)
 | .fld off sz agg x=>PureN (sfld off sz agg (evn own env x)) (fun sv=>K sv own)
 | .len s x=>PureN (slenC own s (evn own env x)) (fun sv=>K sv own)
 | .ext x i=>PureN (sext i (evn own env x)) (fun sv=>K sv own)
 | .mkfn fn fs cs=>K (.clo fn (fs.map (evn own env)) (cs.map (evn own env))) own
 | .mm mx x xs=>PureN (smmC mx (evn own env x) (xs.map (evn own env))) (fun sv=>K sv own)
 | .nilck x=>PureN (snil (evn own env x)) (fun sv=>K sv own)
 | .build z ps=>PureN (sbuild (cval z) (ps.map fun p=>(p.1,evn own env p.2))) (fun sv=>K sv own)
 | .load sz agg x=>LoadC own sz agg (evn own env x) (fun sv=>K sv own)
 | .div op x y=>DivC op (evn own env x) (evn own env y) (fun sv=>K sv own)
 | .idxA sz x i=>IdxC own sz (evn own env x) (evn own env i) (fun sv=>K sv own)
 | .idxP n sz x i=>IdxPC n sz (evn own env x) (evn own env i) (fun sv=>K sv own)
 | .store sz x v=>StoreC (frzT own (evn own env x) (evn own env v)) sz (evn own env x) (evn (frzT own (evn own env x) (evn own env v)) env v) (fun own'=>K (.tup []) own')
 | .alloc ty z=>BoxC own ty (cval z) K
 | .box ty x=>BoxC own ty (evn own env x) K
 | .bslice ty sz n _ ps=>BsliceC (frzL own (ps.map fun p=>evn own env p.2)) ty sz n (bsl (frzL own (ps.map fun p=>evn own env p.2)) sz 0 (ps.map fun p=>(p.1,evn own env p.2))) K
 | .app ty sz bytes _ x y=>AppC own ty sz bytes (evn own env x) (src own (evn own env y)) K
 | .slc sz x lo hi=>(match evn own env x with
  | .hd r=>OrS (fun _=>SlcC sz (evn (frzS own (evn own env x)) env x) (lo.map (evn own env)) (hi.map (evn own env)) (fun sv=>K sv (frzS own (evn own env x)))) (fun _=>SlcRC own sz (.hd r) (lo.map (evn own env)) (hi.map (evn own env)) K)
  | .d (.val (.slice none 0 0))=>SlcRC own sz (.d (.val (.slice none 0 0))) (lo.map (evn own env)) (hi.map (evn own env)) K
  | _=>SlcC sz (evn (frzS own (evn own env x)) env x) (lo.map (evn own env)) (hi.map (evn own env)) (fun sv=>K sv (frzS own (evn own env x))))
 | .slcS x lo hi=>SlcSC (evn own env x) (lo.map (evn own env)) (hi.map (evn own env)) (fun sv=>K sv own)
 | .appz ty sz bytes z x n=>IfNil (evn own env x) (MksC own ty sz bytes (toDs own (cval z).cells) (evn own env n) (evn own env n) K)
 | .mks ty sz bytes z l k=>MksC own ty sz bytes (toDs own (cval z).cells) (evn own env l) (evn own env k) K
 | .call f args=>CallS P f own (args.map (evn own env)) K
 | .callv x args=>CallVC P (evn own env x) own (args.map (evn own env)) K
 | .clr sz z x=>ClrC own sz (toDs own (cval z).cells) (evn own env x) (fun own'=>K (.tup []) own')
 | .mkm mk agg=>K (.hd own.length) (own++[.mp mk agg []])
 | .mkf mk=>K (.hd own.length) (own++[.mpf mk []])
 | .mset mk agg x k v=>MsetC (frzS own (evn own env v)) mk agg (evn own env x) (kvS (evn own env k)) (evn (frzS own (evn own env v)) env v) (fun own'=>K (.tup []) own')
 | .mget mk agg ok z x k=>MgetC own mk agg ok (cval z) (evn own env x) (kvS (evn own env k)) (fun sv=>K sv own)
theorem slc_cases (env:List SV)(own:List Res)(sz:Nat)(x:Operand)(lo hi:Option SV)(K:SV→List Res→Prop) :
  (match evn own env x with
  | .hd r=>(SlcN sz (evn (frzS own (evn own env x)) env x) lo hi (fun sv=>K sv (frzS own (evn own env x)))∨SlcRN own sz (.hd r) lo hi K)
  | .d (.val (.slice none 0 0))=>SlcRN own sz (.d (.val (.slice none 0 0))) lo hi K
  | _=>SlcN sz (evn (frzS own (evn own env x)) env x) lo hi (fun sv=>K sv (frzS own (evn own env x))))=(SlcN sz (evn (frzS own (evn own env x)) env x) lo hi (fun sv=>K sv (frzS own (evn own env x)))∨SlcRN own sz (evn own env x) lo hi K):=by
 generalize hv:evn own env x=v;split
 ·rfl
 ·have:evn (frzS own (.d (.val (.slice none 0 0)))) env x=.d (.val (.slice none 0 0)):=hv;rw[this];simp[SlcN]
 ·rename_i h1 h2;have:SlcRN own sz v lo hi K=False:=by
   unfold SlcRN;split
   ·exact(h1 _ rfl).elim
   ·unfold SlcNilN;split
    ·exact(h2 rfl).elim
    ·rfl
   ·rfl
  rw[this,or_false]
theorem opC_eq (P:Program)(d:DOp)(env:List SV)(own:List Res)(K:SV→List Res→Prop):opC P d env own K=opN P d env own K:=by
 cases d<;>simp only[opC,opN,sbinC_eq,sbeqC_eq,sunC_eq,scviC_eq,slenC_eq,smlenC_eq,smmC_eq,LoadC_eq,DivC_eq,IdxC_eq,StoreC_eq,BoxC_eq,BsliceC_eq,AppC_eq,SlcC_eq,SlcSC_eq,MksC_eq,IdxPC_eq,MsetC_eq,MdelC_eq,MgetC_eq,MkmN,CallS_iff,CallVC_eq,ClrC_eq,OrS_iff,SlcRC_eq,NilC_eq]
 case snl n x =>
  congr 1;funext b;cases n<;>cases b<;>simp[io_eq,ioStd]
 case slc sz x lo hi=>exact slc_cases _ _ _ _ _ _ _
noncomputable def fnC (P:Program)(d:DOp)(env:List SV)(own:List Res)(R:SV→Prop):Prop :=
 match d with
 | .mv x=>R (evn own env x)
 | .pick c a b=>PureN (spick (evn own env c) (evn own env a) (evn own env b)) R
 | .bin op x y=>PureN (sbinC op (evn own env x) (evn own env y)) R
 | .beq n ks x y=>PureN (sbeqC n ks (evn own env x) (evn own env y)) R
 | .fnil n x y=>PureN (sfnil n (evn own env x) (evn own env y)) R
 | .capn x=>PureN (scap (evn own env x)) R
 | .mlen x=>PureN (smlenC own (evn own env x)) R
 | .pnil n x=>PureN (spnil n (evn own env x)) R
 | .idxV n sz agg x i=>IdxVN n sz agg (evn own env x) (evn own env i) R
 | .idxS x i=>IdxStN (evn own env x) (evn own env i) R
 | .b2s x=>B2sN (src own (evn own env x)) R
 | .un op x=>PureN (sunC op (evn own env x)) R
 | .cvi k x=>PureN (scviC k (evn own env x)) R
 | .fadd off x=>PureN (sfadd off (evn own env x)) R
 | .fld off sz agg x=>PureN (sfld off sz agg (evn own env x)) R
 | .len s x=>PureN (slenC own s (evn own env x)) R
 | .ext x i=>PureN (sext i (evn own env x)) R
 | .mkfn fn fs cs=>R (.clo fn (fs.map (evn own env)) (cs.map (evn own env)))
 | .mm mx x xs=>PureN (smmC mx (evn own env x) (xs.map (evn own env))) R
 | .nilck x=>PureN (snil (evn own env x)) R
 | .build z ps=>PureN (sbuild (cval z) (ps.map fun p=>(p.1,evn own env p.2))) R
 | .load sz agg x=>LoadC own sz agg (evn own env x) R
 | .div op x y=>DivC op (evn own env x) (evn own env y) R
 | .idxA sz x i=>IdxC own sz (evn own env x) (evn own env i) R
 | .idxP n sz x i=>IdxPC n sz (evn own env x) (evn own env i) R
 | .slc sz x lo hi=>SlcC sz (evn own env x) (lo.map (evn own env)) (hi.map (evn own env)) R
 | .slcS x lo hi=>SlcSC (evn own env x) (lo.map (evn own env)) (hi.map (evn own env)) R
 | .call f args=>FCallS P f own (args.map (evn own env)) R
 | .callv x args=>FCallVC P (evn own env x) own (args.map (evn own env)) R
 | .bslice _ sz n _ ps=>FBsliceC sz n (bsl own sz 0 (ps.map fun p=>(p.1,evn own env p.2))) R
 | .mget mk agg ok z x k=>MgetC own mk agg ok (cval z) (evn own env x) (kvS (evn own env k)) R
 | _=>False
theorem fnC_eq (P:Program)(d:DOp)(env:List SV)(own:List Res)(R:SV→Prop):fnC P d env own R=fnN P d env own R:=by
 cases d<;>simp only[fnC,fnN,sbinC_eq,sbeqC_eq,sunC_eq,scviC_eq,slenC_eq,smlenC_eq,smmC_eq,LoadC_eq,DivC_eq,IdxC_eq,SlcC_eq,SlcSC_eq,IdxPC_eq,MgetC_eq,FCallS_iff,FCallVC_eq,FCallN]
 case bslice ty sz n z ps =>
  unfold FBsliceC
  cases bsl own sz 0 (ps.map fun p=>(p.1,evn own env p.2)) with
  | none=>rfl
  | some es=>exact bool2
 case callv=>rfl
noncomputable def GuardC (g:Option (Nat×Bool))(env:List SV)(A B:List SV→Prop):Prop :=
 match g with
 | none=>A env
 | some (s,want) =>
  match geti env s with
  | .d (.val (.bool b))=>(match want with
   | true=>(match b with | true=>A (seti env s (.d (.val (.bool true)))) | false=>B (seti env s (.d (.val (.bool false)))))
   | false=>(match b with | true=>B (seti env s (.d (.val (.bool true)))) | false=>A (seti env s (.d (.val (.bool false))))))
  | .tup []=>B env
  | _=>False
theorem GuardC_eq (g:Option (Nat×Bool))(env:List SV)(A B:List SV→Prop):GuardC g env A B=GuardN g env A B:=by
 cases g with
 | none=>rfl
 | some g =>
  obtain⟨s,want⟩:=g;simp only[GuardC,GuardN];generalize geti env s=v;split
  ·rename_i b;cases want<;>cases b<;>simp
  ·rfl
  ·rename_i h1 h2;split
   ·exact(h1 _ rfl).elim
   ·exact(h2 rfl).elim
   ·rfl
noncomputable def CondC (c:SV)(A B:Unit→Prop):Prop :=
 match c with
 | .d (.val (.bool b))=>(match b with | true=>A () | false=>B ())
 | _=>False
theorem CondC_eq (c:SV)(A B:Unit→Prop):CondC c A B=CondN c (A ()) (B ()):=by
 unfold CondC CondN;split
 ·rename_i b;cases b<;>simp
 ·rename_i h;split
  ·exact(h _ rfl).elim
  ·rfl
def Fn1 (P:Program)(f:FuncId)(args:List SV)(s:SV):Prop:=SCall P f [] args (fun sv _=>sv=s)
theorem IdxS.map {α:Type}{enc:α→List D}{xs:List α}{es:List (List D)}{n:Int}{sz:Nat}{K:SV→Prop}(he:es=xs.map enc)(h0:0≤n)(h1:n<xs.length)(hsz:∀ x,(enc x).length=sz)
  (hk:∀ x,xs[n.toNat]?=some x→K (.fp (enc x))):IdxS es n sz K:=by
 subst he;refine⟨h0,by simpa using h1,fun ds hd=>?_⟩;rw[qI,Option.map_eq_some_iff] at hd;obtain⟨x,hx,rfl⟩:=hd;exact⟨hsz x,hk x hx⟩
theorem RowS.map {α:Type}{enc:α→List D}{xs:List α}{es:List (List D)}{i:Nat}{K:List D→Prop}(he:es=xs.map enc)(h1:i<xs.length)
  (hk:∀ x,xs[i]?=some x→K (enc x)):RowS es i K:=by
 subst he;refine⟨by simpa using h1,fun ds hd=>?_⟩;rw[qI,Option.map_eq_some_iff] at hd;obtain⟨x,hx,rfl⟩:=hd;exact hk x hx
theorem CallS.own {P:Program}{f:FuncId}{own:List Res}{args:List SV}{K K0:SV→List Res→Prop}(h:SCall P f own args K0)(hK:∀ sv own',K0 sv own'→K sv own'):CallS P f own args K:=⟨.own (h.mono hK)⟩
theorem CallS.fn {P:Program}{f:FuncId}{own:List Res}{args:List SV}{K:SV→List Res→Prop}{sv:SV}(h:SCall P f own args (fun sv' own'=>sv'=sv∧own'=own))(hK:K sv own):CallS P f own args K:=⟨.fn h hK⟩
theorem FCallS.fn {P:Program}{f:FuncId}{own:List Res}{args:List SV}{R:SV→Prop}{sv:SV}(h:SCall P f own args (fun sv' own'=>sv'=sv∧own'=own))(hR:R sv):FCallS P f own args R:=⟨.mk h hR⟩
theorem CallS.f1 {P:Program}{f:FuncId}{own:List Res}{args:List SV}{K:SV→List Res→Prop}{s:SV}(h:Fn1 P f args s)(ha:closedL args=true)(hs:s.closed=true)(hK:K s own):CallS P f own args K:=.fn (h.fn ha hs) hK
theorem FCallS.f1 {P:Program}{f:FuncId}{own:List Res}{args:List SV}{R:SV→Prop}{s:SV}(h:Fn1 P f args s)(ha:closedL args=true)(hs:s.closed=true)(hR:R s):FCallS P f own args R:=.fn (h.fn ha hs) hR
theorem Sat.freezeC {c:Cx}{own:List Res}{w:World}(h:Sat c own w){r:Nat}{ty:TypeId}{cs:List SV}{ds:List D}(hx:own[r]?=some (.cells cs ty))(hd:toDs own cs=some ds):Ons c own w (own.set r (.fzc ds)):=by
 have hrlt:r<own.length:=(qC.1 hx).1;have hget:∀ (s:Nat) y,(own.set r (.fzc ds))[s]?=some y→y.live=true→s≠r∧own[s]?=some y:=fun s y hy hl=>by
  rw[List.getElem?_set] at hy;split at hy
  ·rename_i e;subst e;simp[] at hy;subst hy;simp[Res.live] at hl
  ·rename_i e;exact⟨fun e'=>e e'.symm,hy⟩
 have hget2:∀ (s:Nat) y,(own.set r (.fzc ds))[s]?=some y→(s=r∧y=.fzc ds)∨own[s]?=some y:=fun s y hy=>by
  rw[List.getElem?_set] at hy;split at hy
  ·rename_i e;subst e;simp[] at hy;exact .inl ⟨rfl,hy.symm⟩
  ·exact .inr hy
 obtain⟨b,us,hv,hb,hs,hc⟩:=h.res r _ hx;have hblk:blkOf (c.θ r)=some b:=by rw[hv];rfl
 have hnF:c.F b=none:=h.notF r _ b hx rfl hblk;have hcle:c.le (c.frz b (.cells us ty (0,0))):=Cx.frz_le hnF;have hown:Own c own b:=⟨r,_,hx,rfl,hblk⟩;have hrel:RelL c cs us.toList:=⟨by simpa using hs,fun i s u h1 h2=>by
  obtain⟨u',k1,_,k3⟩:=hc i s h1;simp only[Array.getElem?_toList] at h2;rw[k1] at h2;cases h2;exact k3⟩
 obtain⟨_,hds⟩:=toDs_rel h cs hrel hd;have hrep:Rel (c.frz b (.cells us ty (0,0))) (.fp ds) (c.θ r):=by
  rw[hv];refine .fp (cs:=us) (e:=ty) (fr:=(0,0)) (by simp[Cx.frz]) fun j d hj=>?_
  obtain⟨u,h1,h2⟩:=hds j d hj;exact⟨u,by simpa using h1,h2.mono hcle.f⟩
 refine⟨c.frz b (.cells us ty (0,0)),⟨by simp[h.n,Cx.frz],fun s y hy=>?_,fun s t y z k hy hz hly hlz hk hk'=>?_,fun s y k hy hly hk=>?_,?_,h.one,Tabs.mono hcle.f h.tab⟩,hcle,
  ⟨rfl,rfl,rfl,qQ _,fun _ _ _=>rfl,?_,?_,hcle.f⟩⟩
 ·rcases hget2 s y hy with ⟨rfl,rfl⟩ | hy
  ·exact hrep
  ·exact(h.res s y hy).keep hcle (fun _ _ _=>rfl)
 ·exact h.apart s t y z k (hget s y hy hly).2 (hget t z hz hlz).2 hly hlz hk hk'
 ·obtain⟨hne,hy'⟩:=hget s y hy hly;simp only[Cx.frz];split
  ·rename_i e;subst e;exact absurd (h.apart s r y _ k hy' hx hly rfl hk hblk) hne
  ·exact h.notF s y k hy' hly hk
 ·intro k o hk;simp only[Cx.frz] at hk;split at hk
  ·rename_i e;subst e;cases hk;exact hb
  ·exact h.le k o hk
 ·intro k hk;simp only[Cx.frz] at hk;split at hk
  ·rename_i e;subst e;exact .inr (.inr hown)
  ·exact .inl hk
 ·rintro k ⟨s,y,hy,hly,hk⟩;exact .inl ⟨s,y,(hget s y hy hly).2,hly,hk⟩
theorem frzC_cells {own:List Res}{r:Nat}{cs:List SV}{ty:TypeId}(h:getr own r=.cells cs ty)(s:SV):getr (frzC own s) r=.cells cs ty:=by
 unfold frzC;split
 ·rename_i q;split
  ·rename_i hq;by_cases e:q=r
   ·subst e;rw[h] at hq;cases hq
   ·rw[setr_eq,getr_eq,List.getElem?_set_ne e,← getr_eq];exact h
  ·exact h
 ·exact h
theorem frzCs_cells {r:Nat}{cs:List SV}{ty:TypeId}(l:List SV):∀ {own:List Res},getr own r=.cells cs ty→getr (frzCs own l) r=.cells cs ty:=by
 induction l with
 | nil=>intro own h;exact h
 | cons s l ih=>intro own h;exact ih (frzC_cells h s)
def frzP (own:List Res)(r:Nat):List Res :=
 match getr own r with
 | .cells cs _=>(match toDs (frzCs own cs) cs with | some ds=>setr (frzCs own cs) r (.fzc ds) | none=>own)
 | _=>own
theorem frzP_ok (own:List Res)(r:Nat):OwnLe own (frzP own r):=fun c w hS=>by
 unfold frzP;split
 ·rename_i cs ty hg;split
  ·rename_i ds hd;refine(frzCs_ok cs hS).trans fun c1 h1=>?_
   have hg:=frzCs_cells cs hg;rw[getr_eq] at hg
   cases hx:(frzCs own cs)[r]? with
   | none=>simp[hx] at hg
   | some y =>
    simp[hx] at hg;subst hg;rw[setr_eq];exact h1.freezeC hx hd
  ·exact .refl hS
 ·exact .refl hS
def frzPs (own:List Res):List Nat→List Res
 | []=>own
 | r::l=>frzPs (frzP own r) l
theorem OwnLe.trans {a b c:List Res}(h:OwnLe a b)(k:OwnLe b c):OwnLe a c:=fun c0 w hS=>(h c0 w hS).trans fun c1 h1=>k c1 w h1
theorem frzPs_ok (l:List Nat):∀ own:List Res,OwnLe own (frzPs own l):=by
 induction l with
 | nil=>intro own c w hS;exact .refl hS
 | cons r l ih=>intro own;exact(frzP_ok own r).trans (ih _)
def nilZ : SV→SV
 | .d (.val (.slice none 0 0))=>.d (.sl [])
 | s=>s
theorem nilZ_rel {c:Cx}{s:SV}{u:Value}(h:Rel c s u):Rel c (nilZ s) u:=by
 unfold nilZ;split
 ·rw[h.of_val];exact .d (.nil _ _ (fun _=>rfl))
 ·exact h
theorem SCall.arg {P:Program}{f:FuncId}{own:List Res}{args args1:List SV}{K:SV→List Res→Prop}(h:SCall P f own args1 K)(ha:ArgLe own args args1):SCall P f own args K :=
 ⟨h.1,fun c w us hS hr=>h.2 c w us hS (ha c w us hS hr)⟩
theorem SCall.z {P:Program}{f:FuncId}{own:List Res}{args:List SV}{K:SV→List Res→Prop}(h:SCall P f own (args.map nilZ) K):SCall P f own args K:=h.arg (.map _ fun _ _ _ _ _ h=>nilZ_rel h)
def nrmA (own:List Res):SV→SV
 | .clo fn fs cs=>.clo fn (fs.map (nrm own)) (cs.map (nrm own))
 | s=>nilZ (nrm own s)
theorem nrmA_rel {c:Cx}{own:List Res}{w:World}(hS:Sat c own w){s:SV}{u:Value}(h:Rel c s u):Rel c (nrmA own s) u:=by
 unfold nrmA;split
 ·obtain⟨us,vs,rfl,h2,h3⟩:=Rel.clo_iff.1 h;exact Rel.clo_iff.2 ⟨us,vs,rfl,ArgLe.nrm own _ c w us hS h2,ArgLe.nrm own _ c w vs hS h3⟩
 ·exact nilZ_rel (nrm_rel hS h)
theorem CallS.frzP {P:Program}{f:FuncId}{own:List Res}{args:List SV}{K K0:SV→List Res→Prop}(rs:List Nat)(h:SCall P f (frzPs (frzL own args) rs) (args.map (nrmA (frzPs (frzL own args) rs))) K0)(hK:∀ sv own',K0 sv own'→K sv own'):CallS P f own args K :=
 ⟨⟨_,_,OwnLe.trans (fun _ _ hS=>frzL_ok args hS) (frzPs_ok rs _),.map _ fun _ _ _ _ hS h=>nrmA_rel hS h,h.mono hK⟩⟩
theorem CallS.frz {P:Program}{f:FuncId}{own:List Res}{args:List SV}{K K0:SV→List Res→Prop}(h:SCall P f (frzL own args) (args.map (nrmA (frzL own args))) K0)(hK:∀ sv own',K0 sv own'→K sv own'):CallS P f own args K :=
 .frzP [] h hK
end Go.SX
