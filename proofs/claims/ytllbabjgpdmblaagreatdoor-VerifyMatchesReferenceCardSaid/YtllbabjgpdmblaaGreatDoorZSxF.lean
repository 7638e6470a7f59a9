/- Parts of the proof. -/
import Derived.Test.YtllbabjgpdmblaaGreatDoorZSxC
set_option linter.unusedSimpArgs false
set_option linter.unusedVariables false
set_option linter.unusedSectionVars false
namespace Go.SX
open Go
variable [Tabs]
def Jk (P:Program)(f:FuncId):Bool :=
 match P.funcs[f]? with
 |some fn=>fn.name != "runtime.NumGoroutine" && fn.body.isSome
 |none=>false
def dX (P:Program)(f:FuncId)(own:List ak)(args:List SV)(K:SV->List ak->Prop):Prop :=
 Jk P f=true/\∀ (c:Cx)(w:World)(us:List Value),Sat c own w->dP c args us ->
  Calls P f us.toArray w fun e w'=>∃ c' own' sv u,e=.returned u/\Rel c' sv u/\Sat c' own' w'/\c.le c'/\Goes c own w c' own' w'/\K sv own'
theorem dX.mono {P:Program}{f:FuncId}{own:List ak}{args:List SV}{K K':SV->List ak->Prop}(h:dX P f own args K)(hK:∀ sv own',K sv own'->K' sv own'):dX P f own args K' :=
 ⟨h.1,fun c w us hS hR=>(h.2 c w us hS hR).mono fun _ _ ⟨c',own',sv,u,h1,h2,h3,h4,h5,h6⟩=>⟨c',own',sv,u,h1,h2,h3,h4,h5,hK _ _ h6⟩⟩
def LX (own:List ak):SV->List ak
 | .hd r=>(match bG own r with | .row _ _ es=>nC own r (.fz es)|_=>own)
 |_=>own
def KO (own:List ak):List SV->List ak
 |[]=>own
 |s::l=>KO (LX own s) l
def oq (own:List ak):SV->List ak
 | .agg cs=>KO own cs
 |s=>LX own s
def Ib (own:List ak)(x v:SV):List ak :=
 match x with
 | .ptr _ _=>own
 |_=>oq own v
def mV (own:List ak):List SV->List ak
 |[]=>own
 |s::l=>mV (oq own s) l
def OJ (own:List ak):SV->Option D
 | .d (.val (.slice none 0 0))=>some (.sl [])
 | .d d=>some d
 | .hd r=>(match bG own r with | .fz es=>some (.sl es)|_=>none)
 |_=>none
def nD (own:List ak):List SV->Option (List D)
 |[]=>some []
 |s::l=>(match OJ own s,nD own l with|some d,some r=>some (d::r)|_,_=>none)
def fK : Option SV->(SV->Prop)->Prop
 |some sv,K=>K sv
 |none,_=>False
def DK (own:List ak)(sz:Nat)(x i:SV)(K:SV->Prop):Prop :=
 match x,i with
 | .d (.sl es),.d (.val (.int _ n))=>0<=n/\n<es.length/\∀ ds,es[n.toNat]?=some ds->ds.length=sz/\K (.fp ds)
 | .hd r,.d (.val (.int _ n))=>(match bG own r with | .row _ s es=>s=sz/\0<=n/\n<es.length/\K (.rp r s n.toNat 0)|_=>False)
 | .rs r s i,.d (.val (.int _ n))=>(match bG own r with | .row _ s' es=>s=sz/\s'=sz/\0<=n/\i+n<es.length/\K (.rp r s' (i+n.toNat) 0)|_=>False)
 |_,_=>False
def Hw (len sz:Nat)(x i:SV)(K:SV->Prop):Prop :=
 match x,i with
 | .ptr r k,.d (.val (.int _ n))=>0<=n/\n<len/\K (.ptr r (k+n.toNat * sz))
 | .fp ds,.d (.val (.int _ n))=>0<=n/\n<len/\K (.fp (ds.drop (n.toNat * sz)))
 |_,_=>False
def Gy (len sz:Nat)(agg:Bool)(x i:SV)(K:SV->Prop):Prop :=
 match x,i with
 | .agg cs,.d (.val (.int _ n))=>0<=n/\n<len/\fK (GR (n.toNat * sz) sz agg (.agg cs)) K
 |_,_=>False
def Ho (x i:SV)(K:SV->Prop):Prop :=
 match x,i with
 | .d (.val (.string s)),.d (.val (.int _ n))=>0<=n/\n<s.size/\∀ b:UInt8,s[n.toNat]?=some b->K (.d (.val (.int .u8 b.toNat)))
 |_,_=>False
def FT (own:List ak)(sz:Nat)(agg:Bool)(x:SV)(K:SV->Prop):Prop :=
 match x with
 | .rp r s i j=>(match bG own r with
  | .row _ s' es=>s=s'/\i<es.length/\∀ ds,es[i]?=some ds->fK (BH own sz agg (.fp (ds.drop j))) K
  |_=>False)
 |x=>fK (BH own sz agg x) K
def Jd (op:BinOp)(x y:SV)(K:SV->Prop):Prop :=
 match x,y with
 | .d (.val (.int k a)),.d (.val (.int k' b))=>k=k'/\b≠0/\K (.d (.val (.int k (match op with | .quo=>k.wrap (a.tdiv b)|_=>a.tmod b))))
 |_,_=>False
def Hg (own:List ak)(sz:Nat)(x v:SV)(K:List ak->Prop):Prop :=
 match x with
 | .ptr r k=>(match bG own r with
  | .cells cs ty=>v.flat=true/\v.cells.length=sz/\v.cells.all SV.one=true/\k+sz<=cs.length/\K (nC own r (.cells (splice k v.cells cs) ty))
  |_=>False)
 | .rp r s i j=>(match bG own r with
  | .row ty s' es=>s=s'/\v.flat=true/\v.cells.length=sz/\j+sz<=s/\i<es.length/\∃ ds',nD own v.cells=some ds'/\∀ ds,es[i]?=some ds->K (nC own r (.row ty s (es.set i (splice j ds' ds))))
  |_=>False)
 |_=>False
def TW (own:List ak)(ty:TypeId)(s:SV)(K:SV->List ak->Prop):Prop :=
 s.flat=true/\s.cells.all SV.one=true/\K (.ptr own.length 0) (own++[.cells s.cells ty])
def wF (own:List ak)(sz:Nat):Nat->List (Nat×SV)->Option (List (List D))
 |_,[]=>some []
 |k,(i,s)::l =>
  if i=k/\s.flat=true/\s.cells.length=sz then
   match nD own s.cells,wF own sz (k+1) l with
   |some ds,some r=>some (ds::r)
   |_,_=>none
  else none
def Ju (own:List ak)(ty sz n:Nat)(es:Option (List (List D)))(K:SV->List ak->Prop):Prop :=
 match es with
 |some es=>es.length=n/\n * sz<=16777216/\K (.hd own.length) (own++[.row ty sz es])
 |none=>False
def src (own:List ak):SV->Option (List (List D))
 | .d (.sl es)=>some es
 | .d (.val (.slice none 0 0))=>some []
 | .hd r=>(match bG own r with | .row _ _ es=>some es|_=>none)
 |_=>none
def numsOf : List (List D)->Option (List Int)
 |[]=>some []
 |[.val (.int .u8 n)]::l=>(numsOf l).map (n::·)
 |_=>none
def GY (ys:Option (List (List D)))(K:SV->Prop):Prop :=
 match ys with
 |some es=>∃ ns,numsOf es=some ns/\K (.d (.val (.string (strOfNums ns))))
 |none=>False
def KN (own:List ak)(ty sz bytes:Nat)(x:SV)(ys:Option (List (List D)))(K:SV->List ak->Prop):Prop :=
 match ys with
 |none=>False
 |some ys =>
  match x with
  | .d (.val (.slice none 0 0))=>(∀ ds∈ys,ds.length=sz)/\ys.length * bytes<=140737488355328/\ys.length<=maxLen/\K (.hd own.length) (own++[.row ty sz ys])
  | .hd r=>(match bG own r with
   | .row ty' sz' xs=>ty'=ty/\sz'=sz/\(∀ ds∈ys,ds.length=sz)/\(xs.length+ys.length) * bytes<=140737488355328/\xs.length+ys.length<=maxLen /\
     K (.hd own.length) (nC own r .gone++[.row ty sz (xs++ys)])
   |_=>False)
  |_=>False
def bnd (dflt:Int):Option SV->Option Int
 |none=>some dflt
 |some (.d (.val (.int _ n)))=>some n
 |some _=>none
def BZ (sz:Nat)(x:SV)(lo hi:Option SV)(K:SV->Prop):Prop :=
 match x with
 | .d (.sl es)=>(match bnd 0 lo,bnd es.length hi with
  |some l,some h=>0<=l/\l<=h/\h<=es.length/\(∀ ds∈es,ds.length=sz)/\K (.d (.sl ((es.take h.toNat).drop l.toNat)))
  |_,_=>False)
 |_=>False
def Hy (x:SV)(lo hi:Option SV)(K:SV->Prop):Prop :=
 match x with
 | .d (.val (.string s))=>(match bnd 0 lo,bnd s.size hi with
  |some l,some h=>0<=l/\l<=h/\h<=s.size/\K (.d (.val (.string (s.extract l.toNat h.toNat))))
  |_,_=>False)
 |_=>False
def Hz (own:List ak)(ty sz bytes:Nat)(zs:Option (List D))(l k:SV)(K:SV->List ak->Prop):Prop :=
 match zs,l,k with
 |some zs,.d (.val (.int .i64 n)),.d (.val (.int .i64 m))=>zs.length=sz/\0<=n/\n=m/\n.toNat * bytes<=140737488355328/\n<=maxLen/\K (.hd own.length) (own++[.row ty sz (List.replicate n.toNat zs)])
 |_,_,_=>False
def Vh (x:SV)(A:Prop):Prop:=match x with | .d (.val (.slice none 0 0))=>A|_=>False
def Dt (c:Cx)(own:List ak)(w:World)(own':List ak):Prop:=∃ c',Sat c' own' w/\c.le c'/\Goes c own w c' own' w
def BJ (own dK:List ak):Prop:=∀ (c:Cx)(w:World),Sat c own w->Dt c own w dK
def FP (dK:List ak)(args args1:List SV):Prop:=∀ (c:Cx)(w:World)(us:List Value),Sat c dK w->dP c args us->dP c args1 us
def D6 (P:Program)(f:FuncId)(own:List ak)(args:List SV)(K:SV->List ak->Prop):Prop :=
 ∃ dK args1,BJ own dK/\FP dK args args1/\dX P f dK args1 K
def Tj (P:Program)(x:SV)(own:List ak)(args:List SV)(K:SV->List ak->Prop):Prop :=
 match x with
 | .clo (.func f) first cap=>D6 P f own (first++args++cap) K
 |_=>False
def ny3 (S:List (List D)->(Bool->Prop)->Prop)(own:List ak)(x:SV)(K:Bool->Prop):Prop :=
 match x with
 | .d (.val (.slice none 0 0))=>K true
 | .d (.sl es)=>S es K
 | .hd r=>(match bG own r with
  | .row _ _ es=>S es K
  |_=>False)
 |_=>False
def TR (own:List ak)(x:SV)(K:Bool->Prop):Prop:=ny3 (fun es K=>(es=[]->K true)/\K false) own x K
def Vj (own:List ak)(d:D)(lo hi:Option SV)(K:SV->List ak->Prop):Prop :=
 match d with
 | .val (.slice none 0 0)=>(match lo,hi with
  |none,some (.d (.val (.int _ h)))=>h=0/\K (.d (.val (.slice none 0 0))) own
  |_,_=>False)
 |_=>False
def GH (own:List ak)(sz:Nat)(x:SV)(lo hi:Option SV)(K:SV->List ak->Prop):Prop :=
 match x with
 | .hd r=>(match bG own r with
  | .row ty s es=>(match lo,hi with
   |none,some (.d (.val (.int _ h)))=>0<=h/\h<=es.length/\K (.hd own.length) (nC own r .gone++[.row ty s (es.take h.toNat)])
   |some (.d (.val (.int _ l))),none=>s=sz/\0<=l/\l<=es.length/\K (.rs r s l.toNat) own
   |_,_=>False)
  |_=>False)
 | .d d=>Vj own d lo hi K
 |_=>False
def TQ (own:List ak)(sz:Nat)(zs:Option (List D))(x:SV)(K:List ak->Prop):Prop :=
 match x with
 | .rs r s i=>(match bG own r,zs with
  | .row ty s' es,some zs=>s=sz/\s'=sz/\i<=es.length/\zs.length=sz/\K (nC own r (.row ty s' (es.take i++List.replicate (es.length - i) zs)))
  |_,_=>False)
 |_=>False
def Ij : Value->Value->Bool
 | .int k a,.int k' b=>decide (k=k')&&decide (a=b)
 | .string a,.string b=>decide (a.data=b.data)
 | .bool a,.bool b=>a == b
 |_,_=>false
def Ii : List Value->List Value->Bool
 |[],[]=>true
 |u::l,v::l'=>Ij u v&&Ii l l'
 |_,_=>false
def pK : Value->Value->Bool
 | .int k a,.int k' b=>decide (k=k')&&decide (a=b)
 | .string a,.string b=>decide (a.data=b.data)
 | .bool a,.bool b=>a == b
 | .agg us,.agg vs=>Ii us.toList vs.toList
 |_,_=>false
def valsOf : List SV->Option (List Value)
 |[]=>some []
 | .d (.val v)::l=>(match valsOf l with|some r=>some (v::r)|none=>none)
 |_::_=>none
def Aq : SV->SV
 | .agg cs=>(match valsOf cs with|some l=>.d (.val (.agg l.toArray))|none=>.agg cs)
 |s=>s
def lI {α:Type}:List (Value×α)->Value->Option α
 |[],_=>none
 |(k,d)::l,x=>if pK x k then some d else lI l x
def wW {α:Type}:List (Value×α)->Value->α->List (Value×α)
 |[],x,d=>[(x,d)]
 |(k,d')::l,x,d=>if pK x k then (x,d)::l else (k,d')::wW l x d
def SV.WS : SV->Bool
 | .clo ..=>true
 |_=>false
def SV.isAgg : SV->Bool
 | .agg _=>true
 |_=>false
def Yf (agg:Bool)(ds:List D):SV :=
 match agg,ds with
 |true,ds=>.agg (ds.map .d)
 |false,[d]=>.d d
 |false,_=>.top
def zX (ok:Bool)(s:SV)(b:Bool):SV:=match ok with|true=>.dO [s,.d (.val (.bool b))]|false=>s
def ng3 (own:List ak)(mk:MK)(agg:Bool)(K:SV->List ak->Prop):Prop:=K (.hd own.length) (own++[.mp mk agg []])
def Py (own:List ak)(mk:MK)(agg:Bool)(x k v:SV)(K:List ak->Prop):Prop :=
 match x,k with
 | .hd r,.d (.val kv)=>(match bG own r with
  | .mp mk' agg' es=>mk'=mk/\agg'=agg/\mk.ok kv=true/\v.flat=true/\v.isAgg=agg/\∃ ds,nD own v.cells=some ds/\K (nC own r (.mp mk agg (wW es kv ds)))
  | .kC mk' es=>mk'=mk/\agg=false/\mk.ok kv=true/\v.WS=true/\K (nC own r (.kC mk (wW es kv v)))
  |_=>False)
 |_,_=>False
def FQ (own:List ak)(mk:MK)(agg ok:Bool)(z x k:SV)(K:SV->Prop):Prop :=
 match k with
 | .d (.val kv)=>(match x with
  | .hd r=>(match bG own r with
   | .mp mk' agg' es=>mk'=mk/\agg'=agg/\mk.ok kv=true/\(∀ ds,lI es kv=some ds->K (zX ok (Yf agg ds) true))/\(lI es kv=none->K (zX ok z false))
   | .kC mk' es=>mk'=mk/\agg=false/\mk.ok kv=true/\(∀ s,lI es kv=some s->K (zX ok s true))/\(lI es kv=none->K (zX ok z false))
   |_=>False)
  | .d (.val (.map none))=>mk.ok kv=true/\K (zX ok z false)
  |_=>False)
 |_=>False
def kJ (P:Program)(d:jO)(env:List SV)(own:List ak)(K:SV->List ak->Prop):Prop :=
 match d with
 | .mv x=>K (aA own env x) own
 | .pick c a b=>fK (Ld (aA own env c) (aA own env a) (aA own env b)) (fun sv=>K sv own)
 | .bin op x y=>fK (Il op (aA own env x) (aA own env y)) (fun sv=>K sv own)
 | .beq n ks x y=>fK (Jj n ks (aA own env x) (aA own env y)) (fun sv=>K sv own)
 | .wB n x y=>fK (Lj n (aA own env x) (aA own env y)) (fun sv=>K sv own)
 | .OV n x=>TR own (aA own env x) (fun b=>K (.d (.val (.bool (b != n)))) own)
 | .yU x=>fK (scap (aA own env x)) (fun sv=>K sv own)
 | .Es=>False
 | .un op x=>fK (LD op (aA own env x)) (fun sv=>K sv own)
 | .KC k x=>fK (MB k (aA own env x)) (fun sv=>K sv own)
 | .aj off x=>fK (GU off (aA own env x)) (fun sv=>K sv own)
 | .GN off sz agg x=>fK (GR off sz agg (aA own env x)) (fun sv=>K sv own)
 | .len s x=>fK (slen own s (aA own env x)) (fun sv=>K sv own)
 | .ext x i=>fK (Jl i (aA own env x)) (fun sv=>K sv own)
 | .jE fn fs cs=>K (.clo fn (fs.map (aA own env)) (cs.map (aA own env))) own
 | .mm mx x xs=>fK (Gt mx (aA own env x) (xs.map (aA own env))) (fun sv=>K sv own)
 | .aO x=>fK (Ew (aA own env x)) (fun sv=>K sv own)
 | .build z ps=>fK (LK (cval z) (ps.map fun p=>(p.1,aA own env p.2))) (fun sv=>K sv own)
 | .load sz agg x=>FT own sz agg (aA own env x) (fun sv=>K sv own)
 | .div op x y=>Jd op (aA own env x) (aA own env y) (fun sv=>K sv own)
 | .aQ sz x i=>DK own sz (aA own env x) (aA own env i) (fun sv=>K sv own)
 | .eH n sz x i=>Hw n sz (aA own env x) (aA own env i) (fun sv=>K sv own)
 | .lD n sz agg x i=>Gy n sz agg (aA own env x) (aA own env i) (fun sv=>K sv own)
 | .uH x i=>Ho (aA own env x) (aA own env i) (fun sv=>K sv own)
 | .FY x=>GY (src own (aA own env x)) (fun sv=>K sv own)
 | .store sz x v=>Hg (Ib own (aA own env x) (aA own env v)) sz (aA own env x) (aA (Ib own (aA own env x) (aA own env v)) env v) (fun own'=>K (.dO []) own')
 | .alloc ty z=>TW own ty (cval z) K
 | .box ty x=>TW own ty (aA own env x) K
 | .aU ty sz n _ ps=>Ju (mV own (ps.map fun p=>aA own env p.2)) ty sz n (wF (mV own (ps.map fun p=>aA own env p.2)) sz 0 (ps.map fun p=>(p.1,aA own env p.2))) K
 | .app ty sz bytes _ x y=>KN own ty sz bytes (aA own env x) (src own (aA own env y)) K
 | .slc sz x lo hi=>BZ sz (aA (oq own (aA own env x)) env x) (lo.map (aA own env)) (hi.map (aA own env)) (fun sv=>K sv (oq own (aA own env x)))\/GH own sz (aA own env x) (lo.map (aA own env)) (hi.map (aA own env)) K
 | .uf x lo hi=>Hy (aA own env x) (lo.map (aA own env)) (hi.map (aA own env)) (fun sv=>K sv own)
 | .FZ ty sz bytes z x n=>Vh (aA own env x) (Hz own ty sz bytes (nD own (cval z).cells) (aA own env n) (aA own env n) K)
 | .Pq ty sz bytes z l k=>Hz own ty sz bytes (nD own (cval z).cells) (aA own env l) (aA own env k) K
 | .call f args=>D6 P f own (args.map (aA own env)) K
 | .fZ x args=>Tj P (aA own env x) own (args.map (aA own env)) K
 | .IU sz z x=>TQ own sz (nD own (cval z).cells) (aA own env x) (fun own'=>K (.dO []) own')
 | .DI mk agg=>ng3 own mk agg K
 | .Si mk=>K (.hd own.length) (own++[.kC mk []])
 | .lq mk agg x k v=>Py (oq own (aA own env v)) mk agg (aA own env x) (Aq (aA own env k)) (aA (oq own (aA own env v)) env v) (fun own'=>K (.dO []) own')
 | .lI mk agg ok z x k=>FQ own mk agg ok (cval z) (aA own env x) (Aq (aA own env k)) (fun sv=>K sv own)
structure ah where
 dst:Option Nat
 op:jO
 guard:Option (Nat×Bool)
deriving Inhabited
def nJ (g:Option (Nat×Bool))(env:List SV)(A B:List SV->Prop):Prop :=
 match g with
 |none=>A env
 |some (s,want) =>
  match eu env s with
  | .d (.val (.bool b))=>(b=want->A (wX env s (.d (.val (.bool want)))))/\(b=!want->B (wX env s (.d (.val (.bool !want)))))
  | .dO []=>B env
  |_=>False
def run (P:Program):List ah->List SV->List ak->(List SV->List ak->Prop)->Prop
 |[],env,own,K=>K env own
 |g::l,env,own,K =>
  nJ g.guard env (fun env=>kJ P g.op env own (fun sv own'=>run P l (jk env g.dst sv) own' K)) (fun env=>run P l (jk env g.dst (.dO [])) own K)
def Js (P:Program)(ops:Array Oper)(o:Oper):Option ah :=
 match iE P o.op,o.guard with
 |some d,none=>some ⟨o.dst,d,none⟩
 |some d,some (j,want)=>(match (ops[j]?).bind (·.dst) with|some s=>some ⟨o.dst,d,some (s,want)⟩|none=>none)
 |none,_=>none
def Af (P:Program)(ops:Array Oper):List Oper->Option (List ah)
 |[]=>some []
 |o::l=>(match Js P ops o,Af P ops l with|some g,some r=>some (g::r)|_,_=>none)
end Go.SX
namespace Go.SX
open Go
variable [Tabs]
section
variable {P:Program}{c:Cx}{own:List ak}{env:List SV}{a:Act}{w w':World}{o:Oper}{K:SV->List ak->Prop}{Q:Exit->Act->World->Prop}
def Fin (c:Cx)(own:List ak)(w:World)(a:Act)(dst:Option Tmp)(K:SV->List ak->Prop):Act->World->Prop :=
 fun a' w'=>∃ c' sv own' u,a'=a.put dst u/\Rel c' sv u/\Sat c' own' w'/\c.le c'/\Goes c own w c' own' w'/\K sv own'
theorem QC {next:Act->World->Prop}{u:Value}(h:(execOp a.eval o).run P w=.ok (.value u) w')(hn:next (a.put o.dst u) w'):o.wp P a w next Q:=by
 unfold Oper.wp;rw[h];exact hn
theorem Qa {next:Act->World->Prop}(h:(execOp a.eval o).run P w=.ok .skip w')(hn:next (a.put o.dst undef) w'):o.wp P a w next Q:=by
 unfold Oper.wp;rw[h];exact hn
theorem Hf {s:Sem Value}{next:Act->World->Prop}{u:Value}(he:execOp a.eval o=(do pure (Next.value (<- s)):Sem Next))(h:s.run P w=.ok u w')(hn:next (a.put o.dst u) w'):o.wp P a w next Q:=by
 refine QC (u:=u) ?_ hn;rw[he,qG,h];rfl
theorem fin_same {sv:SV}{u:Value}(hS:Sat c own w)(hr:Rel c sv u)(hK:K sv own):Fin c own w a o.dst K (a.put o.dst u) w :=
 ⟨c,sv,own,u,rfl,hr,hS,.refl c,.refl c own w,hK⟩
theorem Nu {x:Option SV}{K:SV->Prop}:fK x K↔∃ sv,x=some sv/\K sv:=by
 cases x with
 |none=>simp[fK]
 |some sv=>simp[fK]
theorem Dt.refl (hS:Sat c own w):Dt c own w own:=⟨c,hS,.refl c,.refl c own w⟩
theorem rn1 (hS:Sat c own w)(s:SV):Dt c own w (LX own s):=by
 unfold LX;split
 ·rename_i r;split
  ·rename_i ty sz es hg;rw[nV] at hg
   cases hx:own[r]? with
   |none=>simp[hx] at hg
   |some y =>
    simp[hx] at hg;subst hg;obtain⟨c',h1,h2,h3,_⟩:=hS.freeze hx;rw[yF];exact⟨c',h1,h2,h3⟩
  ·exact .refl hS
 ·exact .refl hS
theorem Dt.trans {dK mY:List ak}(h:Dt c own w dK)(k:∀ c1,Sat c1 dK w->Dt c1 dK w mY):Dt c own w mY:=by
 obtain⟨c1,h1,h2,h3⟩:=h;obtain⟨c2,k1,k2,k3⟩:=k c1 h1;exact⟨c2,k1,h2.trans k2,h3.trans k3⟩
theorem fg1 (l:List SV):∀ {c own},Sat c own w->Dt c own w (KO own l):=by
 induction l with
 |nil=>intro c own hS;exact .refl hS
 |cons s l ih=>intro c own hS;exact(rn1 hS s).trans fun c1 h1=>ih h1
theorem Vz (hS:Sat c own w)(s:SV):Dt c own w (oq own s):=by
 unfold oq;split
 ·exact fg1 _ hS
 ·exact rn1 hS _
theorem kd2 (hS:Sat c own w)(x s:SV):Dt c own w (Ib own x s):=by
 unfold Ib;split
 ·exact .refl hS
 ·exact Vz hS s
theorem CJ (l:List SV):∀ {c own},Sat c own w->Dt c own w (mV own l):=by
 induction l with
 |nil=>intro c own hS;exact .refl hS
 |cons s l ih=>intro c own hS;exact(Vz hS s).trans fun c1 h1=>ih h1
theorem ke2 {dK:List ak}{c1:Cx}{dst:Option Tmp}{a':Act}{w':World}(hle:c.le c1)(hg:Goes c own w c1 dK w)(h:Fin c1 dK w a dst K a' w'):Fin c own w a dst K a' w':=by
 obtain⟨c',sv,own',u,h1,h2,h3,h4,h5,h6⟩:=h;exact⟨c',sv,own',u,h1,h2,h3,hle.trans h4,hg.trans h5,h6⟩
theorem Rep.nj1 {F:Fz}{u:Value}{es:List (List D)}(h:Rep F u (.sl es)){i:Nat}{ds:List D}(hi:es[i]?=some ds) :
  ∃ b off cap cs e fr,u=.slice (some ⟨b,off,none⟩) es.length cap/\F b=some (.cells cs e fr)/\∀ (j:Nat) d,ds[j]?=some d->∃ v,cs[off+i * ds.length+j]?=some v/\Rep F v d:=by
 cases h with
 |nil a cap=>simp at hi
 |sl b off cap cs e fr es sz g hF hcap hsz hc hr =>
  exact⟨b,off,cap,cs,e,fr,rfl,hF,fun j d hj=>⟨g i j,by rw[hsz i ds hi];exact hc i ds j d hi hj,hr i ds j d hi hj⟩⟩
theorem zT {r:Nat}{x:ak}(h:bG own r=x)(hx:x≠.gone):own[r]?=some x:=by
 rw[nV] at h
 cases hr:own[r]? with
 |none=>simp[hr] at h;exact absurd h.symm hx
 |some y=>simp[hr] at h;rw[h]
theorem ph1 (hS:Sat c own w){t e:TypeId}{sz:Nat}{x i:SV}{u v:Value}{K:SV->Prop}(ht:P.underlying t=some (.slice e))(hs:lu P e=some sz)
  (hx:Rel c x u) (hi:Rel c i v) (h:DK own sz x i K):∃ p sv,(Instr.indexAt t u v).run P w=.ok p w/\Rel c sv p/\K sv:=by
 unfold DK at h;split at h
 ·rename_i es k n;obtain rfl:=hi.gB;obtain⟨h0,h1,h2⟩:=h;have hlt:n.toNat<es.length:=by omega
  have hget:es[n.toNat]?=some es[n.toNat]:=by simp[hlt]
  obtain⟨hds,hK⟩:=h2 _ hget;cases hx with|d hx =>
  obtain⟨b,off,cap,cs,e',fr,rfl,hF,hc⟩:=hx.nj1 hget;refine⟨.pointer (some ⟨b,off+n.toNat * sz,none⟩),.fp es[n.toNat],?_,?_,hK⟩
  ·simp only[Instr.indexAt,asIntOf,qG,Sem.run_pure,qE,run_underlying ht];rw[if_pos ⟨h0,h1⟩];simp only[qG,run_sizeOf hs,qE,Sem.run_pure,BK]
  ·exact .fp hF fun j d hj=>by rw[<- hds];exact hc j d hj
 ·rename_i r k n;obtain rfl:=hi.gB;split at h
  ·rename_i ty s es hg;obtain⟨rfl,h0,h1,hK⟩:=h;have hres:=hS.res r _ (zT hg (by simp));obtain⟨hd,us,⟨hn,hv⟩,_⟩:=hres;cases hx with|hd hr hv' =>
   rcases hv with ⟨_,hv0⟩|⟨b,cap,cur,hv,_⟩
   ·omega
   ·rw[hv] at hv';refine⟨.pointer (some ⟨b,n.toNat * s+0,none⟩),.rp r s n.toNat 0,?_,.rp hr hv,hK⟩;rw[<- hv'];simp only[Instr.indexAt,asIntOf,qG,Sem.run_pure,qE,run_underlying ht];rw[if_pos ⟨h0,h1⟩];simp only[qG,run_sizeOf hs,qE,Sem.run_pure,BK,Nat.zero_add,Nat.add_zero]
  ·exact h.elim
 ·rename_i r s i0 k n;obtain rfl:=hi.gB;split at h
  ·rename_i ty s' es hg;obtain⟨rfl,rfl,h0,h1,hK⟩:=h;have hres:=hS.res r _ (zT hg (by simp));obtain⟨hd,us,⟨hn,hv⟩,_⟩:=hres;cases hx with|rs hr hval =>
   obtain⟨ad,nn,cap',hu,hin,rfl⟩:=hval;rcases hv with ⟨_,hv0⟩|⟨b,cap,cur,hv,_,_,hcap,_⟩
   ·omega
   ·rw[hv] at hu;cases hu;refine⟨.pointer (some ⟨b,(i0+n.toNat) * s'+0,none⟩),.rp r s' (i0+n.toNat) 0,?_,.rp hr hv,hK⟩;rw[if_neg (by omega)];simp only[zH,BK,Nat.zero_add];simp only[Instr.indexAt,asIntOf,qG,Sem.run_pure,qE,run_underlying ht];rw[if_pos ⟨h0,by omega⟩];simp only[qG,run_sizeOf hs,qE,Sem.run_pure,BK,Nat.add_mul,Nat.add_zero]
  ·exact h.elim
 ·exact h.elim
theorem xc1 {t e:TypeId}{len sz:Nat}{dd:TypeDesc}{x i:SV}{u v:Value}{K:SV->Prop}(ht:P.underlying t=some (.array len e))(hs:lu P e=some sz)(hd:P.underlying e=some dd)
  (hx:Rel c x u) (hi:Rel c i v) (h:Gy len sz (wQ dd) x i K):∃ p sv,(Instr.index t u v).run P w=.ok p w/\Rel c sv p/\K sv:=by
 unfold Gy at h;split at h
 ·rename_i cs k n;obtain⟨h0,h1,h2⟩:=h;obtain⟨sv,h3,h4⟩:=Nu.1 h2;obtain rfl:=hi.gB;obtain⟨us,p,rfl,h5,h6⟩:=ic0 (P:=P) (w:=w) hs hd hx h3;refine⟨p,sv,?_,h6,h4⟩;simp only[Instr.index,asIntOf,qG,Sem.run_pure,qE,run_underlying ht];rw[if_pos ⟨h0,h1⟩,qG,run_sizeOf hs,qE,h5]
 ·exact h.elim
theorem jt1 {t:TypeId}{x i:SV}{u v:Value}{K:SV->Prop}(ht:P.underlying t=some .string)
  (hx:Rel c x u) (hi:Rel c i v) (h:Ho x i K):∃ p sv,(Instr.index t u v).run P w=.ok p w/\Rel c sv p/\K sv:=by
 unfold Ho at h;split at h
 ·rename_i s k n;obtain⟨h0,h1,h2⟩:=h;obtain rfl:=hi.gB;obtain rfl:=hx.gB;have hlt:n.toNat<s.size:=by omega
  refine⟨_,_,?_,.d (.val _ rfl),h2 s[n.toNat] (by simp[hlt])⟩;simp only[Instr.index,asIntOf,qG,Sem.run_pure,qE,run_underlying ht];rw[if_pos h0];simp[hlt]
 ·exact h.elim
theorem xd1 {t e:TypeId}{len sz:Nat}{x i:SV}{u v:Value}{K:SV->Prop}(ht:P.underlying t=some (.array len e))(hs:lu P e=some sz)
  (hx:Rel c x u) (hi:Rel c i v) (h:Hw len sz x i K):∃ p sv,(Instr.indexAt t u v).run P w=.ok p w/\Rel c sv p/\K sv:=by
 have key:∀ (b off:Nat)(k:IntKind)(n:Int),0<=n->n<len->(Instr.indexAt t (.pointer (some ⟨b,off,none⟩)) (.int k n)).run P w=.ok (.pointer (some ⟨b,off+n.toNat * sz,none⟩)) w:=fun b off k n h0 h1=>by
  simp only[Instr.indexAt,asIntOf,qG,Sem.run_pure,qE,run_underlying ht,Instr.sureAddr];rw[if_pos ⟨h0,h1⟩];simp only[qG,run_sizeOf hs,qE,Sem.run_pure,BK]
 unfold Hw at h;split at h
 ·rename_i r k kk n;obtain rfl:=hi.gB;obtain⟨h0,h1,hK⟩:=h;cases hx with | @ptr _ _ b hr hv=>exact⟨_,_,key b k kk n h0 h1,.ptr hr hv,hK⟩
 ·rename_i ds kk n;obtain rfl:=hi.gB;obtain⟨h0,h1,hK⟩:=h;cases hx with | @fp b off cs e' fr _ hF hh =>
  refine⟨_,_,key b off kk n h0 h1,.fp hF fun j d hj=>?_,hK⟩;rw[List.getElem?_drop] at hj;obtain⟨u,h1,h2⟩:=hh _ d hj;exact⟨u,by rw[Nat.add_assoc];exact h1,h2⟩
 ·exact h.elim
theorem xv1 (hS:Sat c own w){t s:Nat}{d:TypeDesc}(hs:lu P t=some s)(hd:P.underlying t=some d){x:SV}{u:Value}{K:SV->Prop}(hr:Rel c x u)
  (h:FT own s (wQ d) x K):∃ v sv,(Instr.loadAt t u).run P w=.ok v w/\Rel c sv v/\K sv:=by
 unfold FT at h;split at h
 ·rename_i r sz i j;split at h
  ·rename_i ty s' es hg;obtain⟨rfl,hi,h⟩:=h;have hget:es[i]?=some es[i]:=by simp[hi]
   obtain⟨sv,hl,hK⟩:=Nu.1 (h _ hget);obtain⟨hd',us,⟨hn,hv⟩,hc⟩:=hS.res r _ (zT hg (by simp));cases hr with | @rp _ _ _ _ b n cap hr hv' =>
   rcases hv with ⟨hv,hv0⟩|⟨b',cap',cur,hv,_,hb,hle,hm,hcs,htake⟩
   ·rw[hv] at hv';cases hv'
   ·rw[hv] at hv';cases hv';obtain⟨l,yK,hk⟩:=aa0 hl
    change some _=some l at yK;injection yK with yK;subst yK
    obtain⟨v,h1,h2⟩:=yx2 (P:=P) (c:=c) (w:=w) (b:=b) (off:=i * sz+j) hs hd (fun k sv' hk'=>by
     simp only[qF,Option.map_eq_some_iff] at hk';obtain⟨d',hd2,rfl⟩:=hk';rw[List.getElem?_drop] at hd2;have hlen:es[i].length=sz:=hd' _ (by simp);have hj:j+k<sz:=by rw[<- hlen];exact(qA.1 hd2).1
     obtain⟨u,h1,h2⟩:=hc (i * sz+(j+k)) d' (by rw[Gm hd' i (j+k) _ hget hj];exact hd2);refine⟨u,?_,.d h2⟩;rw[cell_of_row w b _ _ _ _ hb];rw[<- htake,List.getElem?_take] at h1;split at h1
     ·rw[<- Nat.add_assoc] at h1;simpa using h1
     ·cases h1) hk
    exact⟨v,sv,h1,h2,hK⟩
  ·exact h.elim
 ·obtain⟨sv,hl,hK⟩:=Nu.1 h;obtain⟨v,h1,h2⟩:=ae0 hS hs hd hr hl;exact⟨v,sv,h1,h2,hK⟩
end
theorem D6.own {P:Program}{f:FuncId}{own:List ak}{args:List SV}{K:SV->List ak->Prop}(h:dX P f own args K):D6 P f own args K:=⟨own,args,fun _ _ hS=>.refl hS,fun _ _ _ _ hr=>hr,h⟩
end Go.SX
namespace Go.SX
open Go
variable [Tabs]
section
variable {P:Program}{c:Cx}{own:List ak}{env:List SV}{a:Act}{w w':World}{o:Oper}{K:SV->List ak->Prop}{Q:Exit->Act->World->Prop}
theorem jy2 (hS:Sat c own w){s:SV}{u:Value}{d:D}(h:Rel c s u)(hd:OJ own s=some d):Rep c.F u d:=by
 unfold OJ at hd;split at hd
 ·cases hd;rw[h.gB];exact .nil _ _ (fun _=>rfl)
 ·cases hd;cases h with|d h=>exact h
 ·rename_i r;split at hd
  ·rename_i es hg;cases hd;cases h with|hd hr hv=>rw[<- hv];exact hS.res r _ (zT hg (by simp))
  ·cases hd
 ·cases hd
theorem Nz (hS:Sat c own w)(l:List SV):∀ {us:List Value}{ds:List D},dP c l us->nD own l=some ds ->
  ds.length=l.length/\∀ (j:Nat) d,ds[j]?=some d->∃ u,us[j]?=some u/\Rep c.F u d:=by
 induction l with
 |nil=>intro us ds _ hd;simp[nD] at hd;subst hd;simp
 |cons s l ih =>
  intro us ds h hd;obtain⟨u,us',rfl,h1,h2⟩:=dP.xE.1 h;unfold nD at hd;split at hd
  ·rename_i d r hd1 hd2;cases hd;obtain⟨hl,hr⟩:=ih h2 hd2;refine⟨by simp[hl],fun j d' hj=>?_⟩
   cases j with
   |zero=>simp at hj;subst hj;exact⟨u,rfl,jy2 hS h1 hd1⟩
   |succ j=>simp at hj;simpa using hr j d' hj
  ·cases hd
theorem Pg (hS:Sat c own w){l:List SV}{us:List Value}(h:dP c l us)(h1:l.all SV.one=true):∀ v∈us,v.oneCell'=true:=by
 intro v hv;obtain⟨i,hi⟩:=List.getElem?_of_mem hv;have hlt:i<l.length:=by rw[<- h.1];exact(qA.1 hi).1
 exact(h.2 i l[i] v (by simp[hlt]) hi).one hS.one (qP.1 h1 _ (by simp))
theorem ob0 (hS:Sat c own w){ty:TypeId}{s:SV}{u:Value}(hr:Rel c s u)(h:TW own ty s K) :
  Fin c own w a o.dst K (a.put o.dst (.pointer (some ⟨w.heap.size,0,none⟩))) (w.alloc (.cells u.cells ty)):=by
 obtain⟨hf,h1,hK⟩:=h;have hc:=Gs hS.one hr hf;have hone:=Pg hS hc h1;obtain⟨k1,k2,k3⟩:=hS.alloc (.cells u.cells ty) (.pointer (some ⟨w.heap.size,0,none⟩)) (.cells s.cells ty) rfl rfl
  ⟨w.heap.size,u.cells,rfl,zM w _,by have:=hc.1;simpa using this,fun i t hi=>by
   have hlt:i<u.cells.size:=by have:=hc.1;have h2:=(qA.1 hi).1;simp at this;omega
   have hu:u.cells.toList[i]?=some u.cells[i]:=by simp[hlt]
   exact⟨u.cells[i],by simp[hlt],hone _ (by simp),(hc.2 i t _ hi hu).mono (c.CP _)⟩⟩
 exact⟨_,_,_,_,rfl,.ptr (by simp[Cx.push,hS.n]) (by simp[Cx.push,hS.n]),k1,k2,k3,hK⟩
theorem wo1 (hS:Sat c own w){t sz:Nat}(hs:lu P t=some sz){x v:SV}{u y:Value}{K:List ak->Prop}(hx:Rel c x u)(hv:Rel c v y)(h:Hg own sz x v K) :
  ∃ w' own',(Instr.storeAt t u y).run P w=.ok () w'/\Sat c own' w'/\Goes c own w c own' w'/\K own':=by
 have key:∀ (b k:Nat)(cur:Array Value)(ty:TypeId)(us:List Value),w.heap[b]?=some (.cells cur ty (0,0))->y.cells.toList=us->us.length=sz->k+sz<=cur.size->(∀ v∈us,v.oneCell'=true) ->
   (Instr.storeAt t (.pointer (some ⟨b,k,none⟩)) y).run P w=.ok () (w.setRow b (Go.SX.splice k us cur.toList).toArray):=fun b k cur ty us hb hu hl hle h1=>by
  subst hu;have:=run_storeCells_at P b k ty y.cells.toList 0 cur w hb (by simp at hl ⊢;omega) h1;simp only[Nat.add_zero] at this;simp only[Instr.storeAt,Instr.sureAddr,qG,Sem.run_pure,qE,storeVar,run_sizeOf hs];rw[if_neg (by simp at hl;simp[hl]),this];rfl
 unfold Hg at h;split at h
 ·rename_i r k;split at h
  ·rename_i cs ty hg;obtain⟨hf,hl,h1,hle,hK⟩:=h;have hx':=zT hg (by simp);obtain⟨b,us,hv',hb,hsz,hc⟩:=hS.res r _ hx';cases hx with | @ptr _ _ b' hr ht =>
   rw[hv'] at ht;cases ht;have EO:=Gs hS.one hv hf;have hone:=Pg hS EO h1;have hrun:=key b k us ty _ hb rfl (by rw[EO.1,hl]) (by rw[hsz];exact hle) hone;have hcur:dP c cs us.toList:=⟨by simpa using hsz,fun i s u h1 h2=>by
    obtain⟨u',hu',_,hr'⟩:=hc i s h1;have:us.toList[i]?=some u':=by simpa using hu'
    rw[this] at h2;cases h2;exact hr'⟩
   have hnew:=hcur.splice EO k;obtain⟨k1,k2⟩:=hS.update (w':=w.setRow b (Go.SX.splice k y.cells.toList us.toList).toArray) (x':=.cells (Go.SX.splice k v.cells cs) ty) hx' rfl rfl (by rw[hv'];rfl) rfl rfl rfl (by simp) (fun j hj=>setRow_other w b j _ hj)
    ⟨b,_,hv',setRow_heap w b us _ ty _ hb,by have:=hnew.1;simpa using this,fun i s hi=>by
     have hlt:i<(Go.SX.splice k y.cells.toList us.toList).length:=by rw[hnew.1];exact(qA.1 hi).1
     refine⟨(Go.SX.splice k y.cells.toList us.toList)[i],by simp[hlt],?_,hnew.2 i s _ hi (by simp[hlt])⟩;have hm:(Go.SX.splice k y.cells.toList us.toList)[i]∈Go.SX.splice k y.cells.toList us.toList:=by simp
     generalize (Go.SX.splice k y.cells.toList us.toList)[i]=z at hm;simp only[Go.SX.splice,qO] at hm;have hold:∀ z∈us.toList,z.oneCell'=true:=fun z hz=>by
      obtain⟨i,hi⟩:=List.getElem?_of_mem hz;have hlt:i<cs.length:=by rw[<- hsz];have:=(qA.1 hi).1;simpa using this
      obtain⟨u',hu',h1',_⟩:=hc i cs[i] (by simp[hlt]);have:us.toList[i]?=some u':=by simpa using hu'
      rw[this] at hi;cases hi;exact h1'
     rcases hm with (hm|hm)|hm
     ·exact hold z (List.mem_of_mem_take hm)
     ·exact hone z hm
     ·exact hold z (List.mem_of_mem_drop hm)⟩
   rw[yF] at hK;exact⟨_,_,hrun,k1,k2,hK⟩
  ·exact h.elim
 ·rename_i r s i j;split at h
  ·rename_i ty s' es hg;obtain⟨rfl,hf,hl,hle,hi,ds',hds,hK⟩:=h;have hx':=zT hg (by simp);obtain⟨hd,us,⟨hn,hv'⟩,hc⟩:=hS.res r _ hx';cases hx with | @rp _ _ _ _ b n cap hr ht =>
   rcases hv' with ⟨hv',_⟩|⟨b',cap',cur,hv',h0,hb,hcap,hm,hcs,htake⟩
   ·rw[hv'] at ht;cases ht
   rw[hv'] at ht;cases ht;have EO:=Gs hS.one hv hf;obtain⟨hdl,hdr⟩:=Nz hS _ EO hds;have hone:∀ z∈y.cells.toList,z.oneCell'=true:=fun z hz=>by
    obtain⟨i,hi⟩:=List.getElem?_of_mem hz;have hlt:i<ds'.length:=by rw[hdl,<- EO.1];exact(qA.1 hi).1
    obtain⟨u,hu,hr⟩:=hdr i ds'[i] (by simp[hlt]);rw[hu] at hi;cases hi;exact hr.one
   have hin:i * s+s<=es.length * s:=by rw[<- Nat.succ_mul];exact Nat.mul_le_mul_right _ hi
   have hlec:es.length * s<=cur.size:=by rw[hcs];exact Nat.mul_le_mul_right _ hcap
   have hrun:=key b (i * s+j) cur ty _ hb rfl (by rw[EO.1,hl]) (by omega) hone;have hget:es[i]?=some es[i]:=by simp[hi]
   have MX:es[i].length=s:=hd _ (by simp);have hdl':ds'.length=sz:=by rw[hdl,hl]
   have hspl:(Go.SX.splice j ds' es[i]).length=s:=by simp only[Go.SX.splice,qN,qU,List.length_drop,MX,hdl'];omega
   have hd2:∀ ds∈es.set i (Go.SX.splice j ds' es[i]),ds.length=s:=fun ds hm=>by
    rcases List.mem_or_eq_of_mem_set hm with h1|h1
    ·exact hd ds h1
    ·rw[h1];exact hspl
   have hyl:y.cells.toList.length=sz:=by rw[EO.1,hl]
   obtain⟨k1,k2⟩:=hS.update (w':=w.setRow b (Go.SX.splice (i * s+j) y.cells.toList cur.toList).toArray) (x':=.row ty s (es.set i (Go.SX.splice j ds' es[i]))) hx' rfl rfl (by rw[hv'];rfl) rfl rfl rfl (by simp) (fun j hj=>setRow_other w b j _ hj)
    ⟨hd2,(Go.SX.splice (i * s+j) y.cells.toList cur.toList).take (es.length * s),⟨by
      simp only[Go.SX.splice,qU,qN,List.length_drop,hyl,List.length_set,Array.length_toList];omega,
     .inr ⟨b,_,_,by rw[hv',List.length_set],h0,setRow_heap w b cur _ ty _ hb,by simpa using hcap,hm,by
      simp only[List.size_toArray,Go.SX.splice,qN,qU,List.length_drop,hyl,Array.length_toList];omega,by simp⟩⟩,fun q d hq=>by
     have gZ:0<s:=by
      rcases Nat.eq_zero_or_pos s with h0|h0
      ·subst h0;have:(es.set i (Go.SX.splice j ds' es[i])).flatten.length=0:=by rw[Gn hd2];simp
       rw[List.eq_nil_of_length_eq_zero this] at hq;simp at hq
      ·exact h0
     have J3:q<es.length * s:=by
      have:=(qA.1 hq).1;rw[Gn hd2,List.length_set] at this;exact this
     have AA:q / s<es.length:=(Nat.div_lt_iff_lt_mul gZ).2 J3;have hqm:q % s<s:=Nat.mod_lt _ gZ;have hqe:q / s * s+q % s=q:=by rw[Nat.mul_comm];exact Nat.div_add_mod q s
     have hold:∀ (p:Nat) d,es.flatten[p]?=some d->∃ u,cur[p]?=some u/\Rep c.F u d:=fun p d hp=>by
      obtain⟨u,h1,h2⟩:=hc p d hp;refine⟨u,?_,h2⟩;rw[<- htake,List.getElem?_take] at h1;split at h1
      ·simpa using h1
      ·cases h1
     rw[List.getElem?_take,if_pos J3];have hset:(es.set i (Go.SX.splice j ds' es[i]))[q / s]?=some (if i=q / s then Go.SX.splice j ds' es[i] else es[q / s]):=by
      rw[List.getElem?_set];split
      ·first|rfl|(rw[if_pos (by omega)])|simp[hi]
      ·simp[AA]
     have hfl:=Gm hd2 (q / s) (q % s) _ hset hqm;rw[hqe,hq] at hfl;by_cases XR:i=q / s
     ·rw[if_pos XR] at hfl;have hq1:q=i * s+q % s:=by rw[XR];exact hqe.symm
      simp only[Go.SX.splice,List.append_assoc] at hfl ⊢;by_cases c1:q % s<j
      ·rw[qQ (by simp[MX];omega),List.getElem?_take,if_pos c1] at hfl;rw[qQ (by simp;omega),List.getElem?_take,if_pos (by omega)];obtain⟨u,h1,h2⟩:=hold q d (by rw[hq1,Gm hd i (q % s) _ hget hqm];exact hfl.symm);exact⟨u,by simpa using h1,h2⟩
      ·rw[qS (by simp;omega)] at hfl;rw[qS (by simp;omega)];have e1:q % s - (List.take j es[i]).length=q % s - j:=by simp[MX];omega
       have e2:q - (List.take (i * s+j) cur.toList).length=q % s - j:=by simp;omega
       rw[e1] at hfl;rw[e2];by_cases c2:q % s - j<sz
       ·rw[qQ (by omega)] at hfl;rw[qQ (by omega)];obtain⟨u,h1,h2⟩:=hdr _ d hfl.symm;exact⟨u,h1,h2⟩
       ·rw[qS (by omega),List.getElem?_drop] at hfl;rw[qS (by omega),List.getElem?_drop];have e3:j+ds'.length+(q % s - j - ds'.length)=q % s:=by omega
        have e4:i * s+j+y.cells.toList.length+(q % s - j - y.cells.toList.length)=q:=by omega
        rw[e3] at hfl;rw[e4];obtain⟨u,h1,h2⟩:=hold q d (by rw[hq1,Gm hd i (q % s) _ hget hqm];exact hfl.symm);exact⟨u,by simpa using h1,h2⟩
     ·rw[if_neg XR] at hfl;obtain⟨u,h1,h2⟩:=hold q d (by rw[<- hqe,Gm hd (q / s) (q % s) es[q / s] (by simp[AA]) hqm];exact hfl.symm);refine⟨u,?_,h2⟩;simp only[Go.SX.splice,List.append_assoc];have hsplit:q<i * s\/i * s+s<=q:=by
       rcases Nat.lt_or_gt_of_ne XR with h|h
       ·right;calc i * s+s=(i+1) * s:=by rw[Nat.succ_mul]
         _<=q / s * s:=Nat.mul_le_mul_right _ h
         _<=q:=Nat.div_mul_le_self q s
       ·left;exact(Nat.div_lt_iff_lt_mul gZ).1 h
      have e0:(List.take (i * s+j) cur.toList).length=i * s+j:=by rw[qU,Array.length_toList];omega
      rcases hsplit with h|h
      ·rw[qQ (by simp;omega),List.getElem?_take,if_pos (by omega)];simpa using h1
      ·rw[qS (by omega),qS (by omega),List.getElem?_drop];have e5:i * s+j+y.cells.toList.length+(q - (List.take (i * s+j) cur.toList).length - y.cells.toList.length)=q:=by omega
       rw[e5];simpa using h1⟩
   have:=hK _ hget;rw[yF] at this;exact⟨_,_,hrun,k1,k2,this⟩
  ·exact h.elim
 ·exact h.elim
end
end Go.SX
