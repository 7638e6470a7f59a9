/- Parts of the proof. -/
import Derived.Test.YtlpempbeenpilaaGreatDoorZSxC
set_option linter.unusedSimpArgs false
set_option linter.unusedVariables false
set_option linter.unusedSectionVars false
namespace Go.SX
open Go
variable [Tabs]
def okFn (P:Program)(f:FuncId):Bool :=
 match P.funcs[f]? with
 | some fn=>fn.name != "runtime.NumGoroutine" && fn.body.isSome
 | none=>false
def SCall (P:Program)(f:FuncId)(own:List Res)(args:List SV)(K:SV→List Res→Prop):Prop :=
 okFn P f=true∧∀ (c:Cx)(w:World)(us:List Value),Sat c own w→RelL c args us →
  Calls P f us.toArray w fun e w'=>∃ c' own' sv u,e=.returned u∧Rel c' sv u∧Sat c' own' w'∧c.le c'∧Goes c own w c' own' w'∧K sv own'
theorem SCall.mono {P:Program}{f:FuncId}{own:List Res}{args:List SV}{K K':SV→List Res→Prop}(h:SCall P f own args K)(hK:∀ sv own',K sv own'→K' sv own'):SCall P f own args K' :=
 ⟨h.1,fun c w us hS hR=>(h.2 c w us hS hR).mono fun _ _ ⟨c',own',sv,u,h1,h2,h3,h4,h5,h6⟩=>⟨c',own',sv,u,h1,h2,h3,h4,h5,hK _ _ h6⟩⟩
def frzC (own:List Res):SV→List Res
 | .hd r=>(match getr own r with | .row _ _ es=>setr own r (.fz es) | _=>own)
 | _=>own
def frzCs (own:List Res):List SV→List Res
 | []=>own
 | s::l=>frzCs (frzC own s) l
def frzS (own:List Res):SV→List Res
 | .agg cs=>frzCs own cs
 | s=>frzC own s
def frzT (own:List Res)(x v:SV):List Res :=
 match x with
 | .ptr _ _=>own
 | _=>frzS own v
def frzL (own:List Res):List SV→List Res
 | []=>own
 | s::l=>frzL (frzS own s) l
def toD (own:List Res):SV→Option D
 | .d (.val (.slice none 0 0))=>some (.sl [])
 | .d d=>some d
 | .hd r=>(match getr own r with | .fz es=>some (.sl es) | _=>none)
 | _=>none
def toDs (own:List Res):List SV→Option (List D)
 | []=>some []
 | s::l=>(match toD own s,toDs own l with | some d,some r=>some (d::r) | _,_=>none)
def PureN : Option SV→(SV→Prop)→Prop
 | some sv,K=>K sv
 | none,_=>False
def IdxN (own:List Res)(sz:Nat)(x i:SV)(K:SV→Prop):Prop :=
 match x,i with
 | .d (.sl es),.d (.val (.int _ n))=>0≤n∧n<es.length∧∀ ds,es[n.toNat]?=some ds→ds.length=sz∧K (.fp ds)
 | .hd r,.d (.val (.int _ n))=>(match getr own r with | .row _ s es=>s=sz∧0≤n∧n<es.length∧K (.rp r s n.toNat 0) | _=>False)
 | .rs r s i,.d (.val (.int _ n))=>(match getr own r with | .row _ s' es=>s=sz∧s'=sz∧0≤n∧i+n<es.length∧K (.rp r s' (i+n.toNat) 0) | _=>False)
 | _,_=>False
def IdxPN (len sz:Nat)(x i:SV)(K:SV→Prop):Prop :=
 match x,i with
 | .ptr r k,.d (.val (.int _ n))=>0≤n∧n<len∧K (.ptr r (k+n.toNat * sz))
 | .fp ds,.d (.val (.int _ n))=>0≤n∧n<len∧K (.fp (ds.drop (n.toNat * sz)))
 | _,_=>False
def IdxVN (len sz:Nat)(agg:Bool)(x i:SV)(K:SV→Prop):Prop :=
 match x,i with
 | .agg cs,.d (.val (.int _ n))=>0≤n∧n<len∧PureN (sfld (n.toNat * sz) sz agg (.agg cs)) K
 | _,_=>False
def IdxStN (x i:SV)(K:SV→Prop):Prop :=
 match x,i with
 | .d (.val (.string s)),.d (.val (.int _ n))=>0≤n∧n<s.size∧∀ b:UInt8,s[n.toNat]?=some b→K (.d (.val (.int .u8 b.toNat)))
 | _,_=>False
def LoadN (own:List Res)(sz:Nat)(agg:Bool)(x:SV)(K:SV→Prop):Prop :=
 match x with
 | .rp r s i j=>(match getr own r with
  | .row _ s' es=>s=s'∧i<es.length∧∀ ds,es[i]?=some ds→PureN (sload own sz agg (.fp (ds.drop j))) K
  | _=>False)
 | x=>PureN (sload own sz agg x) K
def DivI (op:BinOp)(k k':IntKind)(b:Int):Prop :=
 match op with
 | .quo | .rem=>k=k'∧b≠0
 | .shl | .shr=>0≤b
 | _=>False
def divR (op:BinOp)(k:IntKind)(a b:Int):Int :=
 match op with
 | .quo=>k.wrap (a.tdiv b)
 | .shl=>k.wrap (a * 2 ^ min b.toNat k.bits)
 | .shr=>a.fdiv (2 ^ min b.toNat k.bits)
 | _=>a.tmod b
def DivN (op:BinOp)(x y:SV)(K:SV→Prop):Prop :=
 match x,y with
 | .d (.val (.int k a)),.d (.val (.int k' b))=>DivI op k k' b∧K (.d (.val (.int k (divR op k a b))))
 | .d (.val (.string a)),.d (.val (.string b))=>(op=.add∧a.size+b.size≤9223372036854775807)∧K (.d (.val (.string (a++b))))
 | _,_=>False
def StoreN (own:List Res)(sz:Nat)(x v:SV)(K:List Res→Prop):Prop :=
 match x with
 | .ptr r k=>(match getr own r with
  | .cells cs ty=>v.flat=true∧v.cells.length=sz∧v.cells.all SV.one=true∧k+sz≤cs.length∧K (setr own r (.cells (splice k v.cells cs) ty))
  | _=>False)
 | .rp r s i j=>(match getr own r with
  | .row ty s' es=>s=s'∧v.flat=true∧v.cells.length=sz∧j+sz≤s∧i<es.length∧∃ ds',toDs own v.cells=some ds'∧∀ ds,es[i]?=some ds→K (setr own r (.row ty s (es.set i (splice j ds' ds))))
  | _=>False)
 | _=>False
def BoxN (own:List Res)(ty:TypeId)(s:SV)(K:SV→List Res→Prop):Prop :=
 s.flat=true∧s.cells.all SV.one=true∧K (.ptr own.length 0) (own++[.cells s.cells ty])
def bsl (own:List Res)(sz:Nat):Nat→List (Nat×SV)→Option (List (List D))
 | _,[]=>some []
 | k,(i,s)::l =>
  if i=k∧s.flat=true∧s.cells.length=sz then
   match toDs own s.cells,bsl own sz (k+1) l with
   | some ds,some r=>some (ds::r)
   | _,_=>none
  else none
def BsliceN (own:List Res)(ty sz n:Nat)(es:Option (List (List D)))(K:SV→List Res→Prop):Prop :=
 match es with
 | some es=>es.length=n∧n * sz≤16777216∧K (.hd own.length) (own++[.row ty sz es])
 | none=>False
def src (own:List Res):SV→Option (List (List D))
 | .d (.sl es)=>some es
 | .d (.val (.slice none 0 0))=>some []
 | .hd r=>(match getr own r with | .row _ _ es=>some es | _=>none)
 | _=>none
def numsOf : List (List D)→Option (List Int)
 | []=>some []
 | [.val (.int .u8 n)]::l=>(numsOf l).map (n::·)
 | _=>none
def B2sN (ys:Option (List (List D)))(K:SV→Prop):Prop :=
 match ys with
 | some es=>∃ ns,numsOf es=some ns∧K (.d (.val (.string (strOfNums ns))))
 | none=>False
def AppN (own:List Res)(ty sz bytes:Nat)(x:SV)(ys:Option (List (List D)))(K:SV→List Res→Prop):Prop :=
 match ys with
 | none=>False
 | some ys =>
  match x with
  | .d (.val (.slice none 0 0))=>(∀ ds∈ys,ds.length=sz)∧ys.length * bytes≤140737488355328∧ys.length≤maxLen∧K (.hd own.length) (own++[.row ty sz ys])
  | .hd r=>(match getr own r with
   | .row ty' sz' xs=>ty'=ty∧sz'=sz∧(∀ ds∈ys,ds.length=sz)∧(xs.length+ys.length) * bytes≤140737488355328∧xs.length+ys.length≤maxLen ∧
     K (.hd own.length) (setr own r .gone++[.row ty sz (xs++ys)])
   | _=>False)
  | _=>False
def bnd (dflt:Int):Option SV→Option Int
 | none=>some dflt
 | some (.d (.val (.int _ n)))=>some n
 | some _=>none
def SlcN (sz:Nat)(x:SV)(lo hi:Option SV)(K:SV→Prop):Prop :=
 match x with
 | .d (.sl es)=>(match bnd 0 lo,bnd es.length hi with
  | some l,some h=>0≤l∧l≤h∧h≤es.length∧(∀ ds∈es,ds.length=sz)∧K (.d (.sl ((es.take h.toNat).drop l.toNat)))
  | _,_=>False)
 | _=>False
def SlcSN (x:SV)(lo hi:Option SV)(K:SV→Prop):Prop :=
 match x with
 | .d (.val (.string s))=>(match bnd 0 lo,bnd s.size hi with
  | some l,some h=>0≤l∧l≤h∧h≤s.size∧K (.d (.val (.string (s.extract l.toNat h.toNat))))
  | _,_=>False)
 | _=>False
def MksN (own:List Res)(ty sz bytes:Nat)(zs:Option (List D))(l k:SV)(K:SV→List Res→Prop):Prop :=
 match zs,l,k with
 | some zs,.d (.val (.int .i64 n)),.d (.val (.int .i64 m))=>zs.length=sz∧0≤n∧n=m∧n.toNat * bytes≤140737488355328∧n≤maxLen∧K (.hd own.length) (own++[.row ty sz (List.replicate n.toNat zs)])
 | _,_,_=>False
def IfNil (x:SV)(A:Prop):Prop:=match x with | .d (.val (.slice none 0 0))=>A | _=>False
def Ons (c:Cx)(own:List Res)(w:World)(own':List Res):Prop:=∃ c',Sat c' own' w∧c.le c'∧Goes c own w c' own' w
def OwnLe (own own1:List Res):Prop:=∀ (c:Cx)(w:World),Sat c own w→Ons c own w own1
def ArgLe (own1:List Res)(args args1:List SV):Prop:=∀ (c:Cx)(w:World)(us:List Value),Sat c own1 w→RelL c args us→RelL c args1 us
def CallN (P:Program)(f:FuncId)(own:List Res)(args:List SV)(K:SV→List Res→Prop):Prop :=
 ∃ own1 args1,OwnLe own own1∧ArgLe own1 args args1∧SCall P f own1 args1 K
def CallVN (P:Program)(x:SV)(own:List Res)(args:List SV)(K:SV→List Res→Prop):Prop :=
 match x with
 | .clo (.func f) first cap=>CallN P f own (first++args++cap) K
 | _=>False
def NilG (S:List (List D)→(Bool→Prop)→Prop)(own:List Res)(x:SV)(K:Bool→Prop):Prop :=
 match x with
 | .d (.val (.slice none 0 0))=>K true
 | .d (.sl es)=>S es K
 | .hd r=>(match getr own r with
  | .row _ _ es=>S es K
  | _=>False)
 | _=>False
def NilN (own:List Res)(x:SV)(K:Bool→Prop):Prop:=NilG (fun es K=>(es=[]→K true)∧K false) own x K
def SlcNilN (own:List Res)(d:D)(lo hi:Option SV)(K:SV→List Res→Prop):Prop :=
 match d with
 | .val (.slice none 0 0)=>(match lo,hi with
  | none,some (.d (.val (.int _ h)))=>h=0∧K (.d (.val (.slice none 0 0))) own
  | _,_=>False)
 | _=>False
def SlcRN (own:List Res)(sz:Nat)(x:SV)(lo hi:Option SV)(K:SV→List Res→Prop):Prop :=
 match x with
 | .hd r=>(match getr own r with
  | .row ty s es=>(match lo,hi with
   | none,some (.d (.val (.int _ h)))=>0≤h∧h≤es.length∧K (.hd own.length) (setr own r .gone++[.row ty s (es.take h.toNat)])
   | some (.d (.val (.int _ l))),none=>s=sz∧0≤l∧l≤es.length∧K (.rs r s l.toNat) own
   | _,_=>False)
  | _=>False)
 | .d d=>SlcNilN own d lo hi K
 | _=>False
def ClrN (own:List Res)(sz:Nat)(zs:Option (List D))(x:SV)(K:List Res→Prop):Prop :=
 match x with
 | .rs r s i=>(match getr own r,zs with
  | .row ty s' es,some zs=>s=sz∧s'=sz∧i≤es.length∧zs.length=sz∧K (setr own r (.row ty s' (es.take i++List.replicate (es.length - i) zs)))
  | _,_=>False)
 | _=>False
def keyEq1 : Value→Value→Bool
 | .int k a,.int k' b=>decide (k=k')&&decide (a=b)
 | .string a,.string b=>decide (a.data=b.data)
 | .bool a,.bool b=>a == b
 | _,_=>false
def keyEqL : List Value→List Value→Bool
 | [],[]=>true
 | u::l,v::l'=>keyEq1 u v&&keyEqL l l'
 | _,_=>false
def keyEq : Value→Value→Bool
 | .int k a,.int k' b=>decide (k=k')&&decide (a=b)
 | .string a,.string b=>decide (a.data=b.data)
 | .bool a,.bool b=>a == b
 | .agg us,.agg vs=>keyEqL us.toList vs.toList
 | _,_=>false
def valsOf : List SV→Option (List Value)
 | []=>some []
 | .d (.val v)::l=>(match valsOf l with | some r=>some (v::r) | none=>none)
 | _::_=>none
def kvS : SV→SV
 | .agg cs=>(match valsOf cs with | some l=>.d (.val (.agg l.toArray)) | none=>.agg cs)
 | s=>s
def mget {α:Type}:List (Value×α)→Value→Option α
 | [],_=>none
 | (k,d)::l,x=>if keyEq x k then some d else mget l x
def mput {α:Type}:List (Value×α)→Value→α→List (Value×α)
 | [],x,d=>[(x,d)]
 | (k,d')::l,x,d=>if keyEq x k then (x,d)::l else (k,d')::mput l x d
def SV.isClo : SV→Bool
 | .clo ..=>true
 | _=>false
def SV.isAgg : SV→Bool
 | .agg _=>true
 | _=>false
def dsv (agg:Bool)(ds:List D):SV :=
 match agg,ds with
 | true,ds=>.agg (ds.map .d)
 | false,[d]=>.d d
 | false,_=>.top
def mres (ok:Bool)(s:SV)(b:Bool):SV:=match ok with | true=>.tup [s,.d (.val (.bool b))] | false=>s
def MkmN (own:List Res)(mk:MK)(agg:Bool)(K:SV→List Res→Prop):Prop:=K (.hd own.length) (own++[.mp mk agg []])
def MsetN (own:List Res)(mk:MK)(agg:Bool)(x k v:SV)(K:List Res→Prop):Prop :=
 match x,k with
 | .hd r,.d (.val kv)=>(match getr own r with
  | .mp mk' agg' es=>mk'=mk∧agg'=agg∧mk.ok kv=true∧v.flat=true∧v.isAgg=agg∧∃ ds,toDs own v.cells=some ds∧K (setr own r (.mp mk agg (mput es kv ds)))
  | .mpf mk' es=>mk'=mk∧agg=false∧mk.ok kv=true∧v.isClo=true∧K (setr own r (.mpf mk (mput es kv v)))
  | _=>False)
 | _,_=>False
def MgetN (own:List Res)(mk:MK)(agg ok:Bool)(z x k:SV)(K:SV→Prop):Prop :=
 match k with
 | .d (.val kv)=>(match x with
  | .hd r=>(match getr own r with
   | .mp mk' agg' es=>mk'=mk∧agg'=agg∧mk.ok kv=true∧(∀ ds,mget es kv=some ds→K (mres ok (dsv agg ds) true))∧(mget es kv=none→K (mres ok z false))
   | .mpf mk' es=>mk'=mk∧agg=false∧mk.ok kv=true∧(∀ s,mget es kv=some s→K (mres ok s true))∧(mget es kv=none→K (mres ok z false))
   | _=>False)
  | .d (.val (.map none))=>mk.ok kv=true∧K (mres ok z false)
  | _=>False)
 | _=>False
def mdel {α:Type}:List (Value×α)→Value→List (Value×α)
 | [],_=>[]
 | (k,d)::l,x=>if keyEq x k then l else (k,d)::mdel l x
def MdelN (own:List Res)(mk:MK)(x k:SV)(K:List Res→Prop):Prop :=
 match x,k with
 | .hd r,.d (.val kv)=>(match getr own r with
  | .mp mk' agg es=>mk'=mk∧mk.ok kv=true∧K (setr own r (.mp mk agg (mdel es kv)))
  | _=>False)
 | _,_=>False
def opN (P:Program)(d:DOp)(env:List SV)(own:List Res)(K:SV→List Res→Prop):Prop :=
 match d with
 | .mv x=>K (evn own env x) own
 | .pick c a b=>PureN (spick (evn own env c) (evn own env a) (evn own env b)) (fun sv=>K sv own)
 | .bin op x y=>PureN (sbin op (evn own env x) (evn own env y)) (fun sv=>K sv own)
 | .beq n ks x y=>PureN (sbeq n ks (evn own env x) (evn own env y)) (fun sv=>K sv own)
 | .fnil n x y=>PureN (sfnil n (evn own env x) (evn own env y)) (fun sv=>K sv own)
 | .snl n x=>NilN own (evn own env x) (fun b=>K (.d (.val (.bool (b != n)))) own)
 | .capn x=>PureN (scap (evn own env x)) (fun sv=>K sv own)
 | .mlen x=>PureN (smlen own (evn own env x)) (fun sv=>K sv own)
 | .mdel mk x k=>MdelN own mk (evn own env x) (kvS (evn own env k)) (fun own'=>K (.tup []) own')
 | .pnil n x=>PureN (spnil n (evn own env x)) (fun sv=>K sv own)
 | .nope=>False
 | .un op x=>PureN (sun op (evn own env x)) (fun sv=>K sv own)
 | .cvi k x=>PureN (scvi k (evn own env x)) (fun sv=>K sv own)
 | .fadd off x=>PureN (sfadd off (evn own env x)) (fun sv=>K sv own)
 | .fld off sz agg x=>PureN (sfld off sz agg (evn own env x)) (fun sv=>K sv own)
 | .len s x=>PureN (slen own s (evn own env x)) (fun sv=>K sv own)
 | .ext x i=>PureN (sext i (evn own env x)) (fun sv=>K sv own)
 | .mkfn fn fs cs=>K (.clo fn (fs.map (evn own env)) (cs.map (evn own env))) own
 | .mm mx x xs=>PureN (smm mx (evn own env x) (xs.map (evn own env))) (fun sv=>K sv own)
 | .nilck x=>PureN (snil (evn own env x)) (fun sv=>K sv own)
 | .build z ps=>PureN (sbuild (cval z) (ps.map fun p=>(p.1,evn own env p.2))) (fun sv=>K sv own)
 | .load sz agg x=>LoadN own sz agg (evn own env x) (fun sv=>K sv own)
 | .div op x y=>DivN op (evn own env x) (evn own env y) (fun sv=>K sv own)
 | .idxA sz x i=>IdxN own sz (evn own env x) (evn own env i) (fun sv=>K sv own)
 | .idxP n sz x i=>IdxPN n sz (evn own env x) (evn own env i) (fun sv=>K sv own)
 | .idxV n sz agg x i=>IdxVN n sz agg (evn own env x) (evn own env i) (fun sv=>K sv own)
 | .idxS x i=>IdxStN (evn own env x) (evn own env i) (fun sv=>K sv own)
 | .b2s x=>B2sN (src own (evn own env x)) (fun sv=>K sv own)
 | .store sz x v=>StoreN (frzT own (evn own env x) (evn own env v)) sz (evn own env x) (evn (frzT own (evn own env x) (evn own env v)) env v) (fun own'=>K (.tup []) own')
 | .alloc ty z=>BoxN own ty (cval z) K
 | .box ty x=>BoxN own ty (evn own env x) K
 | .bslice ty sz n _ ps=>BsliceN (frzL own (ps.map fun p=>evn own env p.2)) ty sz n (bsl (frzL own (ps.map fun p=>evn own env p.2)) sz 0 (ps.map fun p=>(p.1,evn own env p.2))) K
 | .app ty sz bytes _ x y=>AppN own ty sz bytes (evn own env x) (src own (evn own env y)) K
 | .slc sz x lo hi=>SlcN sz (evn (frzS own (evn own env x)) env x) (lo.map (evn own env)) (hi.map (evn own env)) (fun sv=>K sv (frzS own (evn own env x)))∨SlcRN own sz (evn own env x) (lo.map (evn own env)) (hi.map (evn own env)) K
 | .slcS x lo hi=>SlcSN (evn own env x) (lo.map (evn own env)) (hi.map (evn own env)) (fun sv=>K sv own)
 | .appz ty sz bytes z x n=>IfNil (evn own env x) (MksN own ty sz bytes (toDs own (cval z).cells) (evn own env n) (evn own env n) K)
 | .mks ty sz bytes z l k=>MksN own ty sz bytes (toDs own (cval z).cells) (evn own env l) (evn own env k) K
 | .call f args=>CallN P f own (args.map (evn own env)) K
 | .callv x args=>CallVN P (evn own env x) own (args.map (evn own env)) K
 | .clr sz z x=>ClrN own sz (toDs own (cval z).cells) (evn own env x) (fun own'=>K (.tup []) own')
 | .mkm mk agg=>MkmN own mk agg K
 | .mkf mk=>K (.hd own.length) (own++[.mpf mk []])
 | .mset mk agg x k v=>MsetN (frzS own (evn own env v)) mk agg (evn own env x) (kvS (evn own env k)) (evn (frzS own (evn own env v)) env v) (fun own'=>K (.tup []) own')
 | .mget mk agg ok z x k=>MgetN own mk agg ok (cval z) (evn own env x) (kvS (evn own env k)) (fun sv=>K sv own)
structure GOp where
 dst:Option Nat
 op:DOp
 guard:Option (Nat×Bool)
deriving Inhabited
def GuardN (g:Option (Nat×Bool))(env:List SV)(A B:List SV→Prop):Prop :=
 match g with
 | none=>A env
 | some (s,want) =>
  match geti env s with
  | .d (.val (.bool b))=>(b=want→A (seti env s (.d (.val (.bool want)))))∧(b=!want→B (seti env s (.d (.val (.bool !want)))))
  | .tup []=>B env
  | _=>False
def run (P:Program):List GOp→List SV→List Res→(List SV→List Res→Prop)→Prop
 | [],env,own,K=>K env own
 | g::l,env,own,K =>
  GuardN g.guard env (fun env=>opN P g.op env own (fun sv own'=>run P l (putE env g.dst sv) own' K)) (fun env=>run P l (putE env g.dst (.tup [])) own K)
def compGOp (P:Program)(ops:Array Oper)(o:Oper):Option GOp :=
 match compOp P o.op,o.guard with
 | some d,none=>some ⟨o.dst,d,none⟩
 | some d,some (j,want)=>(match (ops[j]?).bind (·.dst) with | some s=>some ⟨o.dst,d,some (s,want)⟩ | none=>none)
 | none,_=>none
def compOps (P:Program)(ops:Array Oper):List Oper→Option (List GOp)
 | []=>some []
 | o::l=>(match compGOp P ops o,compOps P ops l with | some g,some r=>some (g::r) | _,_=>none)
end Go.SX
namespace Go.SX
open Go
variable [Tabs]
section
variable {P:Program}{c:Cx}{own:List Res}{env:List SV}{a:Act}{w w':World}{o:Oper}{K:SV→List Res→Prop}{Q:Exit→Act→World→Prop}
def Fin (c:Cx)(own:List Res)(w:World)(a:Act)(dst:Option Tmp)(K:SV→List Res→Prop):Act→World→Prop :=
 fun a' w'=>∃ c' sv own' u,a'=a.put dst u∧Rel c' sv u∧Sat c' own' w'∧c.le c'∧Goes c own w c' own' w'∧K sv own'
theorem wp_val {next:Act→World→Prop}{u:Value}(h:(execOp a.eval o).run P w=.ok (.value u) w')(hn:next (a.put o.dst u) w'):o.wp P a w next Q:=by
 unfold Oper.wp;rw[h];exact hn
theorem wp_skp {next:Act→World→Prop}(h:(execOp a.eval o).run P w=.ok .skip w')(hn:next (a.put o.dst undef) w'):o.wp P a w next Q:=by
 unfold Oper.wp;rw[h];exact hn
theorem wp_sem {s:Sem Value}{next:Act→World→Prop}{u:Value}(he:execOp a.eval o=(do pure (Next.value (← s)):Sem Next))(h:s.run P w=.ok u w')(hn:next (a.put o.dst u) w'):o.wp P a w next Q:=by
 refine wp_val (u:=u) ?_ hn;rw[he,qG,h];rfl
theorem fin_same {sv:SV}{u:Value}(hS:Sat c own w)(hr:Rel c sv u)(hK:K sv own):Fin c own w a o.dst K (a.put o.dst u) w :=
 ⟨c,sv,own,u,rfl,hr,hS,.refl c,.refl c own w,hK⟩
theorem pureN_iff {x:Option SV}{K:SV→Prop}:PureN x K↔∃ sv,x=some sv∧K sv:=by
 cases x with
 | none=>simp[PureN]
 | some sv=>simp[PureN]
theorem Ons.refl (hS:Sat c own w):Ons c own w own:=⟨c,hS,.refl c,.refl c own w⟩
theorem frzC_ok (hS:Sat c own w)(s:SV):Ons c own w (frzC own s):=by
 unfold frzC;split
 ·rename_i r;split
  ·rename_i ty sz es hg;rw[getr_eq] at hg
   cases hx:own[r]? with
   | none=>simp[hx] at hg
   | some y =>
    simp[hx] at hg;subst hg;obtain⟨c',h1,h2,h3,_⟩:=hS.freeze hx;rw[setr_eq];exact⟨c',h1,h2,h3⟩
  ·exact .refl hS
 ·exact .refl hS
theorem Ons.trans {own1 own2:List Res}(h:Ons c own w own1)(k:∀ c1,Sat c1 own1 w→Ons c1 own1 w own2):Ons c own w own2:=by
 obtain⟨c1,h1,h2,h3⟩:=h;obtain⟨c2,k1,k2,k3⟩:=k c1 h1;exact⟨c2,k1,h2.trans k2,h3.trans k3⟩
theorem frzCs_ok (l:List SV):∀ {c own},Sat c own w→Ons c own w (frzCs own l):=by
 induction l with
 | nil=>intro c own hS;exact .refl hS
 | cons s l ih=>intro c own hS;exact(frzC_ok hS s).trans fun c1 h1=>ih h1
theorem frzS_ok (hS:Sat c own w)(s:SV):Ons c own w (frzS own s):=by
 unfold frzS;split
 ·exact frzCs_ok _ hS
 ·exact frzC_ok hS _
theorem frzT_ok (hS:Sat c own w)(x s:SV):Ons c own w (frzT own x s):=by
 unfold frzT;split
 ·exact .refl hS
 ·exact frzS_ok hS s
theorem frzL_ok (l:List SV):∀ {c own},Sat c own w→Ons c own w (frzL own l):=by
 induction l with
 | nil=>intro c own hS;exact .refl hS
 | cons s l ih=>intro c own hS;exact(frzS_ok hS s).trans fun c1 h1=>ih h1
theorem fin_ons {own1:List Res}{c1:Cx}{dst:Option Tmp}{a':Act}{w':World}(hle:c.le c1)(hg:Goes c own w c1 own1 w)(h:Fin c1 own1 w a dst K a' w'):Fin c own w a dst K a' w':=by
 obtain⟨c',sv,own',u,h1,h2,h3,h4,h5,h6⟩:=h;exact⟨c',sv,own',u,h1,h2,h3,hle.trans h4,hg.trans h5,h6⟩
theorem Rep.sl_inv {F:Fz}{u:Value}{es:List (List D)}(h:Rep F u (.sl es)){i:Nat}{ds:List D}(hi:es[i]?=some ds) :
  ∃ b off cap cs e fr,u=.slice (some ⟨b,off,none⟩) es.length cap∧F b=some (.cells cs e fr)∧∀ (j:Nat) d,ds[j]?=some d→∃ v,cs[off+i * ds.length+j]?=some v∧Rep F v d:=by
 cases h with
 | nil a cap=>simp at hi
 | sl b off cap cs e fr es sz g hF hcap hsz hc hr =>
  exact⟨b,off,cap,cs,e,fr,rfl,hF,fun j d hj=>⟨g i j,by rw[hsz i ds hi];exact hc i ds j d hi hj,hr i ds j d hi hj⟩⟩
theorem getr_some {r:Nat}{x:Res}(h:getr own r=x)(hx:x≠.gone):own[r]?=some x:=by
 rw[getr_eq] at h
 cases hr:own[r]? with
 | none=>simp[hr] at h;exact absurd h.symm hx
 | some y=>simp[hr] at h;rw[h]
theorem idxN_sound (hS:Sat c own w){t e:TypeId}{sz:Nat}{x i:SV}{u v:Value}{K:SV→Prop}(ht:P.underlying t=some (.slice e))(hs:sizeB P e=some sz)
  (hx:Rel c x u) (hi:Rel c i v) (h:IdxN own sz x i K):∃ p sv,(Instr.indexAt t u v).run P w=.ok p w∧Rel c sv p∧K sv:=by
 unfold IdxN at h;split at h
 ·rename_i es k n;obtain rfl:=hi.of_val;obtain⟨h0,h1,h2⟩:=h;have hlt:n.toNat<es.length:=by omega
  have hget:es[n.toNat]?=some es[n.toNat]:=by simp[hlt]
  obtain⟨hds,hK⟩:=h2 _ hget;cases hx with | d hx =>
  obtain⟨b,off,cap,cs,e',fr,rfl,hF,hc⟩:=hx.sl_inv hget;refine⟨.pointer (some ⟨b,off+n.toNat * sz,none⟩),.fp es[n.toNat],?_,?_,hK⟩
  ·simp only[Instr.indexAt,asIntOf,qG,Sem.run_pure,qF,run_underlying ht];rw[if_pos ⟨h0,h1⟩];simp only[qG,run_sizeOf hs,qF,Sem.run_pure,add_none]
  ·exact .fp hF fun j d hj=>by rw[← hds];exact hc j d hj
 ·rename_i r k n;obtain rfl:=hi.of_val;split at h
  ·rename_i ty s es hg;obtain⟨rfl,h0,h1,hK⟩:=h;have hres:=hS.res r _ (getr_some hg (by simp));obtain⟨hd,us,⟨hn,hv⟩,_⟩:=hres;cases hx with | hd hr hv' =>
   rcases hv with ⟨_,hv0⟩ | ⟨b,cap,cur,hv,_⟩
   ·omega
   ·rw[hv] at hv';refine⟨.pointer (some ⟨b,n.toNat * s+0,none⟩),.rp r s n.toNat 0,?_,.rp hr hv,hK⟩;rw[← hv'];simp only[Instr.indexAt,asIntOf,qG,Sem.run_pure,qF,run_underlying ht];rw[if_pos ⟨h0,h1⟩];simp only[qG,run_sizeOf hs,qF,Sem.run_pure,add_none,Nat.zero_add,Nat.add_zero]
  ·exact h.elim
 ·rename_i r s i0 k n;obtain rfl:=hi.of_val;split at h
  ·rename_i ty s' es hg;obtain⟨rfl,rfl,h0,h1,hK⟩:=h;have hres:=hS.res r _ (getr_some hg (by simp));obtain⟨hd,us,⟨hn,hv⟩,_⟩:=hres;cases hx with | rs hr hval =>
   obtain⟨ad,nn,cap',hu,hin,rfl⟩:=hval;rcases hv with ⟨_,hv0⟩ | ⟨b,cap,cur,hv,_,_,hcap,_⟩
   ·omega
   ·rw[hv] at hu;cases hu;refine⟨.pointer (some ⟨b,(i0+n.toNat) * s'+0,none⟩),.rp r s' (i0+n.toNat) 0,?_,.rp hr hv,hK⟩;rw[if_neg (by omega)];simp only[qS,add_none,Nat.zero_add];simp only[Instr.indexAt,asIntOf,qG,Sem.run_pure,qF,run_underlying ht];rw[if_pos ⟨h0,by omega⟩];simp only[qG,run_sizeOf hs,qF,Sem.run_pure,add_none,Nat.add_mul,Nat.add_zero]
  ·exact h.elim
 ·exact h.elim
theorem idxVN_sound {t e:TypeId}{len sz:Nat}{dd:TypeDesc}{x i:SV}{u v:Value}{K:SV→Prop}(ht:P.underlying t=some (.array len e))(hs:sizeB P e=some sz)(hd:P.underlying e=some dd)
  (hx:Rel c x u) (hi:Rel c i v) (h:IdxVN len sz (isAggB dd) x i K):∃ p sv,(Instr.index t u v).run P w=.ok p w∧Rel c sv p∧K sv:=by
 unfold IdxVN at h;split at h
 ·rename_i cs k n;obtain⟨h0,h1,h2⟩:=h;obtain⟨sv,h3,h4⟩:=pureN_iff.1 h2;obtain rfl:=hi.of_val;obtain⟨us,p,rfl,h5,h6⟩:=sfld_sound (P:=P) (w:=w) hs hd hx h3;refine⟨p,sv,?_,h6,h4⟩;simp only[Instr.index,asIntOf,qG,Sem.run_pure,qF,run_underlying ht];rw[if_pos ⟨h0,h1⟩,qG,run_sizeOf hs,qF,h5]
 ·exact h.elim
theorem idxStN_sound {t:TypeId}{x i:SV}{u v:Value}{K:SV→Prop}(ht:P.underlying t=some .string)
  (hx:Rel c x u) (hi:Rel c i v) (h:IdxStN x i K):∃ p sv,(Instr.index t u v).run P w=.ok p w∧Rel c sv p∧K sv:=by
 unfold IdxStN at h;split at h
 ·rename_i s k n;obtain⟨h0,h1,h2⟩:=h;obtain rfl:=hi.of_val;obtain rfl:=hx.of_val;have hlt:n.toNat<s.size:=by omega
  refine⟨_,_,?_,.d (.val _ rfl),h2 s[n.toNat] (by simp[hlt])⟩;simp only[Instr.index,asIntOf,qG,Sem.run_pure,qF,run_underlying ht];rw[if_pos h0];simp[hlt]
 ·exact h.elim
theorem idxPN_sound {t e:TypeId}{len sz:Nat}{x i:SV}{u v:Value}{K:SV→Prop}(ht:P.underlying t=some (.array len e))(hs:sizeB P e=some sz)
  (hx:Rel c x u) (hi:Rel c i v) (h:IdxPN len sz x i K):∃ p sv,(Instr.indexAt t u v).run P w=.ok p w∧Rel c sv p∧K sv:=by
 have key:∀ (b off:Nat)(k:IntKind)(n:Int),0≤n→n<len→(Instr.indexAt t (.pointer (some ⟨b,off,none⟩)) (.int k n)).run P w=.ok (.pointer (some ⟨b,off+n.toNat * sz,none⟩)) w:=fun b off k n h0 h1=>by
  simp only[Instr.indexAt,asIntOf,qG,Sem.run_pure,qF,run_underlying ht,Instr.sureAddr];rw[if_pos ⟨h0,h1⟩];simp only[qG,run_sizeOf hs,qF,Sem.run_pure,add_none]
 unfold IdxPN at h;split at h
 ·rename_i r k kk n;obtain rfl:=hi.of_val;obtain⟨h0,h1,hK⟩:=h;cases hx with | @ptr _ _ b hr hv=>exact⟨_,_,key b k kk n h0 h1,.ptr hr hv,hK⟩
 ·rename_i ds kk n;obtain rfl:=hi.of_val;obtain⟨h0,h1,hK⟩:=h;cases hx with | @fp b off cs e' fr _ hF hh =>
  refine⟨_,_,key b off kk n h0 h1,.fp hF fun j d hj=>?_,hK⟩;rw[List.getElem?_drop] at hj;obtain⟨u,h1,h2⟩:=hh _ d hj;exact⟨u,by rw[Nat.add_assoc];exact h1,h2⟩
 ·exact h.elim
theorem loadN_sound (hS:Sat c own w){t s:Nat}{d:TypeDesc}(hs:sizeB P t=some s)(hd:P.underlying t=some d){x:SV}{u:Value}{K:SV→Prop}(hr:Rel c x u)
  (h:LoadN own s (isAggB d) x K):∃ v sv,(Instr.loadAt t u).run P w=.ok v w∧Rel c sv v∧K sv:=by
 unfold LoadN at h;split at h
 ·rename_i r sz i j;split at h
  ·rename_i ty s' es hg;obtain⟨rfl,hi,h⟩:=h;have hget:es[i]?=some es[i]:=by simp[hi]
   obtain⟨sv,hl,hK⟩:=pureN_iff.1 (h _ hget);obtain⟨hd',us,⟨hn,hv⟩,hc⟩:=hS.res r _ (getr_some hg (by simp));cases hr with | @rp _ _ _ _ b n cap hr hv' =>
   rcases hv with ⟨hv,hv0⟩ | ⟨b',cap',cur,hv,_,hb,hle,hm,hcs,htake⟩
   ·rw[hv] at hv';cases hv'
   ·rw[hv] at hv';cases hv';obtain⟨l,hsee,hk⟩:=sload_takes hl
    change some _=some l at hsee;injection hsee with hsee;subst hsee
    obtain⟨v,h1,h2⟩:=load_l (P:=P) (c:=c) (w:=w) (b:=b) (off:=i * sz+j) hs hd (fun k sv' hk'=>by
     simp only[qI,Option.map_eq_some_iff] at hk';obtain⟨d',hd2,rfl⟩:=hk';rw[List.getElem?_drop] at hd2;have hlen:es[i].length=sz:=hd' _ (by simp);have hj:j+k<sz:=by rw[← hlen];exact(qC.1 hd2).1
     obtain⟨u,h1,h2⟩:=hc (i * sz+(j+k)) d' (by rw[flatten_get hd' i (j+k) _ hget hj];exact hd2);refine⟨u,?_,.d h2⟩;rw[cell_of_row w b _ _ _ _ hb];rw[← htake,List.getElem?_take] at h1;split at h1
     ·rw[← Nat.add_assoc] at h1;simpa using h1
     ·cases h1) hk
    exact⟨v,sv,h1,h2,hK⟩
  ·exact h.elim
 ·obtain⟨sv,hl,hK⟩:=pureN_iff.1 h;obtain⟨v,h1,h2⟩:=sload_sound hS hs hd hr hl;exact⟨v,sv,h1,h2,hK⟩
end
theorem CallN.own {P:Program}{f:FuncId}{own:List Res}{args:List SV}{K:SV→List Res→Prop}(h:SCall P f own args K):CallN P f own args K:=⟨own,args,fun _ _ hS=>.refl hS,fun _ _ _ _ hr=>hr,h⟩
end Go.SX
namespace Go.SX
open Go
variable [Tabs]
section
variable {P:Program}{c:Cx}{own:List Res}{env:List SV}{a:Act}{w w':World}{o:Oper}{K:SV→List Res→Prop}{Q:Exit→Act→World→Prop}
theorem toD_rel (hS:Sat c own w){s:SV}{u:Value}{d:D}(h:Rel c s u)(hd:toD own s=some d):Rep c.F u d:=by
 unfold toD at hd;split at hd
 ·cases hd;rw[h.of_val];exact .nil _ _ (fun _=>rfl)
 ·cases hd;cases h with | d h=>exact h
 ·rename_i r;split at hd
  ·rename_i es hg;cases hd;cases h with | hd hr hv=>rw[← hv];exact hS.res r _ (getr_some hg (by simp))
  ·cases hd
 ·cases hd
theorem toDs_rel (hS:Sat c own w)(l:List SV):∀ {us:List Value}{ds:List D},RelL c l us→toDs own l=some ds →
  ds.length=l.length∧∀ (j:Nat) d,ds[j]?=some d→∃ u,us[j]?=some u∧Rep c.F u d:=by
 induction l with
 | nil=>intro us ds _ hd;simp[toDs] at hd;subst hd;simp
 | cons s l ih =>
  intro us ds h hd;obtain⟨u,us',rfl,h1,h2⟩:=RelL.cons_iff.1 h;unfold toDs at hd;split at hd
  ·rename_i d r hd1 hd2;cases hd;obtain⟨hl,hr⟩:=ih h2 hd2;refine⟨by simp[hl],fun j d' hj=>?_⟩
   cases j with
   | zero=>simp at hj;subst hj;exact⟨u,rfl,toD_rel hS h1 hd1⟩
   | succ j=>simp at hj;simpa using hr j d' hj
  ·cases hd
theorem all_one (hS:Sat c own w){l:List SV}{us:List Value}(h:RelL c l us)(h1:l.all SV.one=true):∀ v∈us,v.oneCell'=true:=by
 intro v hv;obtain⟨i,hi⟩:=List.getElem?_of_mem hv;have hlt:i<l.length:=by rw[← h.1];exact(qC.1 hi).1
 exact(h.2 i l[i] v (by simp[hlt]) hi).one hS.one (qL.1 h1 _ (by simp))
theorem boxN_sound (hS:Sat c own w){ty:TypeId}{s:SV}{u:Value}(hr:Rel c s u)(h:BoxN own ty s K) :
  Fin c own w a o.dst K (a.put o.dst (.pointer (some ⟨w.heap.size,0,none⟩))) (w.alloc (.cells u.cells ty)):=by
 obtain⟨hf,h1,hK⟩:=h;have hc:=cells_rel hS.one hr hf;have hone:=all_one hS hc h1;obtain⟨k1,k2,k3⟩:=hS.alloc (.cells u.cells ty) (.pointer (some ⟨w.heap.size,0,none⟩)) (.cells s.cells ty) rfl rfl
  ⟨w.heap.size,u.cells,rfl,heap_alloc_new w _,by have:=hc.1;simpa using this,fun i t hi=>by
   have hlt:i<u.cells.size:=by have:=hc.1;have h2:=(qC.1 hi).1;simp at this;omega
   have hu:u.cells.toList[i]?=some u.cells[i]:=by simp[hlt]
   exact⟨u.cells[i],by simp[hlt],hone _ (by simp),(hc.2 i t _ hi hu).mono (c.push_le _)⟩⟩
 exact⟨_,_,_,_,rfl,.ptr (by simp[Cx.push,hS.n]) (by simp[Cx.push,hS.n]),k1,k2,k3,hK⟩
theorem storeN_sound (hS:Sat c own w){t sz:Nat}(hs:sizeB P t=some sz){x v:SV}{u y:Value}{K:List Res→Prop}(hx:Rel c x u)(hv:Rel c v y)(h:StoreN own sz x v K) :
  ∃ w' own',(Instr.storeAt t u y).run P w=.ok () w'∧Sat c own' w'∧Goes c own w c own' w'∧K own':=by
 have key:∀ (b k:Nat)(cur:Array Value)(ty:TypeId)(us:List Value),w.heap[b]?=some (.cells cur ty (0,0))→y.cells.toList=us→us.length=sz→k+sz≤cur.size→(∀ v∈us,v.oneCell'=true) →
   (Instr.storeAt t (.pointer (some ⟨b,k,none⟩)) y).run P w=.ok () (w.setRow b (Go.SX.splice k us cur.toList).toArray):=fun b k cur ty us hb hu hl hle h1=>by
  subst hu;have:=run_storeCells_at P b k ty y.cells.toList 0 cur w hb (by simp at hl ⊢;omega) h1;simp only[Nat.add_zero] at this;simp only[Instr.storeAt,Instr.sureAddr,qG,Sem.run_pure,qF,storeVar,run_sizeOf hs];rw[if_neg (by simp at hl;simp[hl]),this];rfl
 unfold StoreN at h;split at h
 ·rename_i r k;split at h
  ·rename_i cs ty hg;obtain⟨hf,hl,h1,hle,hK⟩:=h;have hx':=getr_some hg (by simp);obtain⟨b,us,hv',hb,hsz,hc⟩:=hS.res r _ hx';cases hx with | @ptr _ _ b' hr ht =>
   rw[hv'] at ht;cases ht;have hvc:=cells_rel hS.one hv hf;have hone:=all_one hS hvc h1;have hrun:=key b k us ty _ hb rfl (by rw[hvc.1,hl]) (by rw[hsz];exact hle) hone;have hcur:RelL c cs us.toList:=⟨by simpa using hsz,fun i s u h1 h2=>by
    obtain⟨u',hu',_,hr'⟩:=hc i s h1;have:us.toList[i]?=some u':=by simpa using hu'
    rw[this] at h2;cases h2;exact hr'⟩
   have hnew:=hcur.splice hvc k;obtain⟨k1,k2⟩:=hS.update (w':=w.setRow b (Go.SX.splice k y.cells.toList us.toList).toArray) (x':=.cells (Go.SX.splice k v.cells cs) ty) hx' rfl rfl (by rw[hv'];rfl) rfl rfl rfl (by simp) (fun j hj=>setRow_other w b j _ hj)
    ⟨b,_,hv',setRow_heap w b us _ ty _ hb,by have:=hnew.1;simpa using this,fun i s hi=>by
     have hlt:i<(Go.SX.splice k y.cells.toList us.toList).length:=by rw[hnew.1];exact(qC.1 hi).1
     refine⟨(Go.SX.splice k y.cells.toList us.toList)[i],by simp[hlt],?_,hnew.2 i s _ hi (by simp[hlt])⟩;have hm:(Go.SX.splice k y.cells.toList us.toList)[i]∈Go.SX.splice k y.cells.toList us.toList:=by simp
     generalize (Go.SX.splice k y.cells.toList us.toList)[i]=z at hm;simp only[Go.SX.splice,qT] at hm;have hold:∀ z∈us.toList,z.oneCell'=true:=fun z hz=>by
      obtain⟨i,hi⟩:=List.getElem?_of_mem hz;have hlt:i<cs.length:=by rw[← hsz];have:=(qC.1 hi).1;simpa using this
      obtain⟨u',hu',h1',_⟩:=hc i cs[i] (by simp[hlt]);have:us.toList[i]?=some u':=by simpa using hu'
      rw[this] at hi;cases hi;exact h1'
     rcases hm with (hm | hm) | hm
     ·exact hold z (List.mem_of_mem_take hm)
     ·exact hone z hm
     ·exact hold z (List.mem_of_mem_drop hm)⟩
   rw[setr_eq] at hK;exact⟨_,_,hrun,k1,k2,hK⟩
  ·exact h.elim
 ·rename_i r s i j;split at h
  ·rename_i ty s' es hg;obtain⟨rfl,hf,hl,hle,hi,ds',hds,hK⟩:=h;have hx':=getr_some hg (by simp);obtain⟨hd,us,⟨hn,hv'⟩,hc⟩:=hS.res r _ hx';cases hx with | @rp _ _ _ _ b n cap hr ht =>
   rcases hv' with ⟨hv',_⟩ | ⟨b',cap',cur,hv',h0,hb,hcap,hm,hcs,htake⟩
   ·rw[hv'] at ht;cases ht
   rw[hv'] at ht;cases ht;have hvc:=cells_rel hS.one hv hf;obtain⟨hdl,hdr⟩:=toDs_rel hS _ hvc hds;have hone:∀ z∈y.cells.toList,z.oneCell'=true:=fun z hz=>by
    obtain⟨i,hi⟩:=List.getElem?_of_mem hz;have hlt:i<ds'.length:=by rw[hdl,← hvc.1];exact(qC.1 hi).1
    obtain⟨u,hu,hr⟩:=hdr i ds'[i] (by simp[hlt]);rw[hu] at hi;cases hi;exact hr.one
   have hin:i * s+s≤es.length * s:=by rw[← Nat.succ_mul];exact Nat.mul_le_mul_right _ hi
   have hlec:es.length * s≤cur.size:=by rw[hcs];exact Nat.mul_le_mul_right _ hcap
   have hrun:=key b (i * s+j) cur ty _ hb rfl (by rw[hvc.1,hl]) (by omega) hone;have hget:es[i]?=some es[i]:=by simp[hi]
   have hesi:es[i].length=s:=hd _ (by simp);have hdl':ds'.length=sz:=by rw[hdl,hl]
   have hspl:(Go.SX.splice j ds' es[i]).length=s:=by simp only[Go.SX.splice,qP,qW,List.length_drop,hesi,hdl'];omega
   have hd2:∀ ds∈es.set i (Go.SX.splice j ds' es[i]),ds.length=s:=fun ds hm=>by
    rcases List.mem_or_eq_of_mem_set hm with h1 | h1
    ·exact hd ds h1
    ·rw[h1];exact hspl
   have hyl:y.cells.toList.length=sz:=by rw[hvc.1,hl]
   obtain⟨k1,k2⟩:=hS.update (w':=w.setRow b (Go.SX.splice (i * s+j) y.cells.toList cur.toList).toArray) (x':=.row ty s (es.set i (Go.SX.splice j ds' es[i]))) hx' rfl rfl (by rw[hv'];rfl) rfl rfl rfl (by simp) (fun j hj=>setRow_other w b j _ hj)
    ⟨hd2,(Go.SX.splice (i * s+j) y.cells.toList cur.toList).take (es.length * s),⟨by
      simp only[Go.SX.splice,qW,qP,List.length_drop,hyl,List.length_set,Array.length_toList];omega,
     .inr ⟨b,_,_,by rw[hv',List.length_set],h0,setRow_heap w b cur _ ty _ hb,by simpa using hcap,hm,by
      simp only[List.size_toArray,Go.SX.splice,qP,qW,List.length_drop,hyl,Array.length_toList];omega,by simp⟩⟩,fun q d hq=>by
     have hspos:0<s:=by
      rcases Nat.eq_zero_or_pos s with h0 | h0
      ·subst h0;have:(es.set i (Go.SX.splice j ds' es[i])).flatten.length=0:=by rw[flatten_len hd2];simp
       rw[List.eq_nil_of_length_eq_zero this] at hq;simp at hq
      ·exact h0
     have hql:q<es.length * s:=by
      have:=(qC.1 hq).1;rw[flatten_len hd2,List.length_set] at this;exact this
     have hqd:q / s<es.length:=(Nat.div_lt_iff_lt_mul hspos).2 hql;have hqm:q % s<s:=Nat.mod_lt _ hspos;have hqe:q / s * s+q % s=q:=by rw[Nat.mul_comm];exact Nat.div_add_mod q s
     have hold:∀ (p:Nat) d,es.flatten[p]?=some d→∃ u,cur[p]?=some u∧Rep c.F u d:=fun p d hp=>by
      obtain⟨u,h1,h2⟩:=hc p d hp;refine⟨u,?_,h2⟩;rw[← htake,List.getElem?_take] at h1;split at h1
      ·simpa using h1
      ·cases h1
     rw[List.getElem?_take,if_pos hql];have hset:(es.set i (Go.SX.splice j ds' es[i]))[q / s]?=some (if i=q / s then Go.SX.splice j ds' es[i] else es[q / s]):=by
      rw[List.getElem?_set];split
      ·first | rfl | (rw[if_pos (by omega)]) | simp[hi]
      ·simp[hqd]
     have hfl:=flatten_get hd2 (q / s) (q % s) _ hset hqm;rw[hqe,hq] at hfl;by_cases hiq:i=q / s
     ·rw[if_pos hiq] at hfl;have hq1:q=i * s+q % s:=by rw[hiq];exact hqe.symm
      simp only[Go.SX.splice,List.append_assoc] at hfl ⊢;by_cases c1:q % s<j
      ·rw[qM (by simp[hesi];omega),List.getElem?_take,if_pos c1] at hfl;rw[qM (by simp;omega),List.getElem?_take,if_pos (by omega)];obtain⟨u,h1,h2⟩:=hold q d (by rw[hq1,flatten_get hd i (q % s) _ hget hqm];exact hfl.symm);exact⟨u,by simpa using h1,h2⟩
      ·rw[qN (by simp;omega)] at hfl;rw[qN (by simp;omega)];have e1:q % s - (List.take j es[i]).length=q % s - j:=by simp[hesi];omega
       have e2:q - (List.take (i * s+j) cur.toList).length=q % s - j:=by simp;omega
       rw[e1] at hfl;rw[e2];by_cases c2:q % s - j<sz
       ·rw[qM (by omega)] at hfl;rw[qM (by omega)];obtain⟨u,h1,h2⟩:=hdr _ d hfl.symm;exact⟨u,h1,h2⟩
       ·rw[qN (by omega),List.getElem?_drop] at hfl;rw[qN (by omega),List.getElem?_drop];have e3:j+ds'.length+(q % s - j - ds'.length)=q % s:=by omega
        have e4:i * s+j+y.cells.toList.length+(q % s - j - y.cells.toList.length)=q:=by omega
        rw[e3] at hfl;rw[e4];obtain⟨u,h1,h2⟩:=hold q d (by rw[hq1,flatten_get hd i (q % s) _ hget hqm];exact hfl.symm);exact⟨u,by simpa using h1,h2⟩
     ·rw[if_neg hiq] at hfl;obtain⟨u,h1,h2⟩:=hold q d (by rw[← hqe,flatten_get hd (q / s) (q % s) es[q / s] (by simp[hqd]) hqm];exact hfl.symm);refine⟨u,?_,h2⟩;simp only[Go.SX.splice,List.append_assoc];have hsplit:q<i * s∨i * s+s≤q:=by
       rcases Nat.lt_or_gt_of_ne hiq with h | h
       ·right;calc i * s+s=(i+1) * s:=by rw[Nat.succ_mul]
         _≤q / s * s:=Nat.mul_le_mul_right _ h
         _≤q:=Nat.div_mul_le_self q s
       ·left;exact(Nat.div_lt_iff_lt_mul hspos).1 h
      have e0:(List.take (i * s+j) cur.toList).length=i * s+j:=by rw[qW,Array.length_toList];omega
      rcases hsplit with h | h
      ·rw[qM (by simp;omega),List.getElem?_take,if_pos (by omega)];simpa using h1
      ·rw[qN (by omega),qN (by omega),List.getElem?_drop];have e5:i * s+j+y.cells.toList.length+(q - (List.take (i * s+j) cur.toList).length - y.cells.toList.length)=q:=by omega
       rw[e5];simpa using h1⟩
   have:=hK _ hget;rw[setr_eq] at this;exact⟨_,_,hrun,k1,k2,this⟩
  ·exact h.elim
 ·exact h.elim
end
end Go.SX
