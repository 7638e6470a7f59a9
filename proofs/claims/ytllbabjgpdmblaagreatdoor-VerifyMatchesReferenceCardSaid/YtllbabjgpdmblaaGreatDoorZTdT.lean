/- Parts of the proof. -/
import Derived.Test.YtllbabjgpdmblaaGreatDoorZSyT
import Derived.Test.YtllbabjgpdmblaaGreatDoorZTdTab
set_option linter.unusedSimpArgs false
set_option linter.unusedVariables false
set_option linter.unusedSectionVars false
namespace Go.SX.Td
open Go Go.SX Go.Proofs
set_option maxRecDepth 100000
abbrev oi (x:Int):SV:=.d (.val (.int .i64 x))
abbrev iv (x:Int):D:=.val (.int .i64 x)
abbrev oz : Value:=.int .i64 0
abbrev gw (n k:Nat)(b:Bool)(o:jO):ah:=⟨some n,o,some (k,b)⟩
abbrev ob (x:Bool):SV:=.d (.val (.bool x))
abbrev gv (n:Nat)(o:jO):ah:=⟨some n,o,none⟩
theorem oj {α:Type}{a b:α}(h:some a=some b):a=b:=Option.some.inj h
abbrev rp {α:Type}(n:Nat)(a:α):List α:=List.replicate n a
theorem ez {α:Sort _}(t:α):∃ z,z=t:=⟨t,rfl⟩
abbrev dz : List SV:=[.d (.val (.bool false)),.d (.val (.bool false)),.d (.val (.bool false)),oi 0,oi 0,oi 0,oi 0,oi 0,oi 0,oi 0,oi 0,oi 0,oi 0,oi 0,oi 0,oi 0]
theorem an_ {α:Sort _}{a b:α}(h:a=b:=by first|rfl|exact zZ _|simp only[DZ]|simp only[IK]):a=b:=h
theorem aJ {α:Sort _}{a b:α}(h:a=b:=by first|rfl|exact zZ _|(cbv;simp only[DZ])):a=b:=h
instance (n : Nat) : OfNat Operand n:=⟨.tmp n⟩
abbrev ci (n : Int) : Operand:=.const (.int .i64 n)
abbrev cB (b : Bool) : Operand:=.const (.bool b)
abbrev cn : Operand:=.const (.slice none 0 0)
def gS : Nat->List jO->List ah
 |_,[]=>[]
 |n,o::l=>⟨some n,o,none⟩::gS (n+1) l
def gQ (k : Nat) (b : Bool) : Nat->List jO->List ah
 |_,[]=>[]
 |n,o::l=>⟨some n,o,some (k,b)⟩::gQ k b (n+1) l
noncomputable abbrev dq {α : Type} (e : α->List D) (x : List α) : SV:=.d (.sl (W e x))
theorem mx {p : Prop} (h : p := by (cbv;repeat (refine⟨an_,?_⟩;cbv))) : p:=h
structure A2 (α:Type) where
 a0:α
 a1:α
deriving DecidableEq, Inhabited
def A2.get {α:Type}(x:A2 α)(i:Nat):α:=match i with
 |0=>x.a0
 |1=>x.a1
 |_=>x.a0
def A2.put {α:Type}(x:A2 α)(i:Nat)(v:α):A2 α:=match i with
 |0=>{ x with a0:=v }
 |1=>{ x with a1:=v }
 |_=>x
structure aF (α:Type) where
 a0:α
 a1:α
 a2:α
 a3:α
 a4:α
 a5:α
 a6:α
 a7:α
 a8:α
 a9:α
deriving DecidableEq, Inhabited
def aF.get {α:Type}(x:aF α)(i:Nat):α:=match i with
 |0=>x.a0
 |1=>x.a1
 |2=>x.a2
 |3=>x.a3
 |4=>x.a4
 |5=>x.a5
 |6=>x.a6
 |7=>x.a7
 |8=>x.a8
 |9=>x.a9
 |_=>x.a0
def aF.put {α:Type}(x:aF α)(i:Nat)(v:α):aF α:=match i with
 |0=>{ x with a0:=v }
 |1=>{ x with a1:=v }
 |2=>{ x with a2:=v }
 |3=>{ x with a3:=v }
 |4=>{ x with a4:=v }
 |5=>{ x with a5:=v }
 |6=>{ x with a6:=v }
 |7=>{ x with a7:=v }
 |8=>{ x with a8:=v }
 |9=>{ x with a9:=v }
 |_=>x
noncomputable def aH : Int->List D:=fun x=>[.val (.int .i64 x)]
noncomputable def G8 : Int->SV:=fun x=>.d (.val (.int .i64 x))
noncomputable def xZ : (List Int)->List D:=fun x=>[.sl (W aH x)]
noncomputable def LG : (List Int)->SV:=fun x=>.d (.sl (W aH x))
noncomputable def qp3 : (List (List Int))->List D:=fun x=>[.sl (W xZ x)]
noncomputable def jk2 : (List (List Int))->SV:=fun x=>.d (.sl (W xZ x))
structure Range where
 Lo:Int
 Hi:Int
deriving DecidableEq, Inhabited
noncomputable def iP : Range->List D:=fun x=>[.val (.int .i64 x.Lo),.val (.int .i64 x.Hi)]
noncomputable def uj2 : Range->SV:=fun x=>.agg [.d (.val (.int .i64 x.Lo)),.d (.val (.int .i64 x.Hi))]
@[reducible] noncomputable def qRange (x y:Range):Bool:=io.and (io.eq x.Lo y.Lo) (io.eq x.Hi y.Hi)
noncomputable def dD : (aF Range)->List D:=fun x=>[.val (.int .i64 x.a0.Lo),.val (.int .i64 x.a0.Hi),.val (.int .i64 x.a1.Lo),.val (.int .i64 x.a1.Hi),.val (.int .i64 x.a2.Lo),.val (.int .i64 x.a2.Hi),.val (.int .i64 x.a3.Lo),.val (.int .i64 x.a3.Hi),.val (.int .i64 x.a4.Lo),.val (.int .i64 x.a4.Hi),.val (.int .i64 x.a5.Lo),.val (.int .i64 x.a5.Hi),.val (.int .i64 x.a6.Lo),.val (.int .i64 x.a6.Hi),.val (.int .i64 x.a7.Lo),.val (.int .i64 x.a7.Hi),.val (.int .i64 x.a8.Lo),.val (.int .i64 x.a8.Hi),.val (.int .i64 x.a9.Lo),.val (.int .i64 x.a9.Hi)]
noncomputable def ZL : (aF Range)->SV:=fun x=>.agg [.d (.val (.int .i64 x.a0.Lo)),.d (.val (.int .i64 x.a0.Hi)),.d (.val (.int .i64 x.a1.Lo)),.d (.val (.int .i64 x.a1.Hi)),.d (.val (.int .i64 x.a2.Lo)),.d (.val (.int .i64 x.a2.Hi)),.d (.val (.int .i64 x.a3.Lo)),.d (.val (.int .i64 x.a3.Hi)),.d (.val (.int .i64 x.a4.Lo)),.d (.val (.int .i64 x.a4.Hi)),.d (.val (.int .i64 x.a5.Lo)),.d (.val (.int .i64 x.a5.Hi)),.d (.val (.int .i64 x.a6.Lo)),.d (.val (.int .i64 x.a6.Hi)),.d (.val (.int .i64 x.a7.Lo)),.d (.val (.int .i64 x.a7.Hi)),.d (.val (.int .i64 x.a8.Lo)),.d (.val (.int .i64 x.a8.Hi)),.d (.val (.int .i64 x.a9.Lo)),.d (.val (.int .i64 x.a9.Hi))]
@[reducible] noncomputable def ud2 (x y:(aF Range)):Bool:=io.and (io.eq x.a0.Lo y.a0.Lo) (io.and (io.eq x.a0.Hi y.a0.Hi) (io.and (io.eq x.a1.Lo y.a1.Lo) (io.and (io.eq x.a1.Hi y.a1.Hi) (io.and (io.eq x.a2.Lo y.a2.Lo) (io.and (io.eq x.a2.Hi y.a2.Hi) (io.and (io.eq x.a3.Lo y.a3.Lo) (io.and (io.eq x.a3.Hi y.a3.Hi) (io.and (io.eq x.a4.Lo y.a4.Lo) (io.and (io.eq x.a4.Hi y.a4.Hi) (io.and (io.eq x.a5.Lo y.a5.Lo) (io.and (io.eq x.a5.Hi y.a5.Hi) (io.and (io.eq x.a6.Lo y.a6.Lo) (io.and (io.eq x.a6.Hi y.a6.Hi) (io.and (io.eq x.a7.Lo y.a7.Lo) (io.and (io.eq x.a7.Hi y.a7.Hi) (io.and (io.eq x.a8.Lo y.a8.Lo) (io.and (io.eq x.a8.Hi y.a8.Hi) (io.and (io.eq x.a9.Lo y.a9.Lo) (io.eq x.a9.Hi y.a9.Hi)))))))))))))))))))
noncomputable def eS : ByteArray->List D:=fun x=>[.val (.string x)]
noncomputable def vS : ByteArray->SV:=fun x=>.d (.val (.string x))
noncomputable def ma0 : (List (aF Range))->List D:=fun x=>[.sl (W dD x)]
noncomputable def xh2 : (List (aF Range))->SV:=fun x=>.d (.sl (W dD x))
structure Ratio where
 Num:Int
 Den:Int
deriving DecidableEq, Inhabited
noncomputable def jS : Ratio->List D:=fun x=>[.val (.int .i64 x.Num),.val (.int .i64 x.Den)]
noncomputable def Ze : Ratio->SV:=fun x=>.agg [.d (.val (.int .i64 x.Num)),.d (.val (.int .i64 x.Den))]
@[reducible] noncomputable def qRatio (x y:Ratio):Bool:=io.and (io.eq x.Num y.Num) (io.eq x.Den y.Den)
structure Rule where
 Kind:Int
 Name:ByteArray
 ay:(List (aF Range))
 N:Int
 R:Ratio
 S:Ratio
deriving DecidableEq, Inhabited
noncomputable def aZ : Rule->List D:=fun x=>[.val (.int .i64 x.Kind),.val (.string x.Name),.sl (W dD x.ay),.val (.int .i64 x.N),.val (.int .i64 x.R.Num),.val (.int .i64 x.R.Den),.val (.int .i64 x.S.Num),.val (.int .i64 x.S.Den)]
noncomputable def XH : Rule->SV:=fun x=>.agg [.d (.val (.int .i64 x.Kind)),.d (.val (.string x.Name)),.d (.sl (W dD x.ay)),.d (.val (.int .i64 x.N)),.d (.val (.int .i64 x.R.Num)),.d (.val (.int .i64 x.R.Den)),.d (.val (.int .i64 x.S.Num)),.d (.val (.int .i64 x.S.Den))]
noncomputable def eB : Bool->List D:=fun x=>[.val (.bool x)]
noncomputable def vB : Bool->SV:=fun x=>.d (.val (.bool x))
noncomputable def eLRule : (List Rule)->List D:=fun x=>[.sl (W aZ x)]
noncomputable def Zg : (List Rule)->SV:=fun x=>.d (.sl (W aZ x))
structure au where
 Rules:(List Rule)
deriving DecidableEq, Inhabited
noncomputable def tw1 : au->List D:=fun x=>[.sl (W aZ x.Rules)]
noncomputable def BA : au->SV:=fun x=>.agg [.d (.sl (W aZ x.Rules))]
noncomputable def iu2 : (aF Int)->List D:=fun x=>[.val (.int .i64 x.a0),.val (.int .i64 x.a1),.val (.int .i64 x.a2),.val (.int .i64 x.a3),.val (.int .i64 x.a4),.val (.int .i64 x.a5),.val (.int .i64 x.a6),.val (.int .i64 x.a7),.val (.int .i64 x.a8),.val (.int .i64 x.a9)]
noncomputable def H9 : (aF Int)->SV:=fun x=>.agg [.d (.val (.int .i64 x.a0)),.d (.val (.int .i64 x.a1)),.d (.val (.int .i64 x.a2)),.d (.val (.int .i64 x.a3)),.d (.val (.int .i64 x.a4)),.d (.val (.int .i64 x.a5)),.d (.val (.int .i64 x.a6)),.d (.val (.int .i64 x.a7)),.d (.val (.int .i64 x.a8)),.d (.val (.int .i64 x.a9))]
@[reducible] noncomputable def Ea (x y:(aF Int)):Bool:=io.and (io.eq x.a0 y.a0) (io.and (io.eq x.a1 y.a1) (io.and (io.eq x.a2 y.a2) (io.and (io.eq x.a3 y.a3) (io.and (io.eq x.a4 y.a4) (io.and (io.eq x.a5 y.a5) (io.and (io.eq x.a6 y.a6) (io.and (io.eq x.a7 y.a7) (io.and (io.eq x.a8 y.a8) (io.eq x.a9 y.a9)))))))))
structure Decision where
 Allowed:Bool
 Together:Bool
 Single:Bool
 Limit:Int
 Price:Int
 pG:Ratio
 oQ:Ratio
 Cap:Ratio
 eF:Ratio
 dH:Ratio
 By:Int
deriving DecidableEq, Inhabited
noncomputable def bJ : Decision->List D:=fun x=>[.val (.bool x.Allowed),.val (.bool x.Together),.val (.bool x.Single),.val (.int .i64 x.Limit),.val (.int .i64 x.Price),.val (.int .i64 x.pG.Num),.val (.int .i64 x.pG.Den),.val (.int .i64 x.oQ.Num),.val (.int .i64 x.oQ.Den),.val (.int .i64 x.Cap.Num),.val (.int .i64 x.Cap.Den),.val (.int .i64 x.eF.Num),.val (.int .i64 x.eF.Den),.val (.int .i64 x.dH.Num),.val (.int .i64 x.dH.Den),.val (.int .i64 x.By)]
noncomputable def ZR : Decision->SV:=fun x=>.agg [.d (.val (.bool x.Allowed)),.d (.val (.bool x.Together)),.d (.val (.bool x.Single)),.d (.val (.int .i64 x.Limit)),.d (.val (.int .i64 x.Price)),.d (.val (.int .i64 x.pG.Num)),.d (.val (.int .i64 x.pG.Den)),.d (.val (.int .i64 x.oQ.Num)),.d (.val (.int .i64 x.oQ.Den)),.d (.val (.int .i64 x.Cap.Num)),.d (.val (.int .i64 x.Cap.Den)),.d (.val (.int .i64 x.eF.Num)),.d (.val (.int .i64 x.eF.Den)),.d (.val (.int .i64 x.dH.Num)),.d (.val (.int .i64 x.dH.Den)),.d (.val (.int .i64 x.By))]
@[reducible] noncomputable def Ez (x y:Decision):Bool:=io.and (io.beq false x.Allowed y.Allowed) (io.and (io.beq false x.Together y.Together) (io.and (io.beq false x.Single y.Single) (io.and (io.eq x.Limit y.Limit) (io.and (io.eq x.Price y.Price) (io.and (io.eq x.pG.Num y.pG.Num) (io.and (io.eq x.pG.Den y.pG.Den) (io.and (io.eq x.oQ.Num y.oQ.Num) (io.and (io.eq x.oQ.Den y.oQ.Den) (io.and (io.eq x.Cap.Num y.Cap.Num) (io.and (io.eq x.Cap.Den y.Cap.Den) (io.and (io.eq x.eF.Num y.eF.Num) (io.and (io.eq x.eF.Den y.eF.Den) (io.and (io.eq x.dH.Num y.dH.Num) (io.and (io.eq x.dH.Den y.dH.Den) (io.eq x.By y.By)))))))))))))))
structure Node where
 Attr:Int
 aI:(List Int)
 Kids:(List Int)
 Leaf:Int
deriving DecidableEq, Inhabited
noncomputable def bC : Node->List D:=fun x=>[.val (.int .i64 x.Attr),.sl (W aH x.aI),.sl (W aH x.Kids),.val (.int .i64 x.Leaf)]
noncomputable def La : Node->SV:=fun x=>.agg [.d (.val (.int .i64 x.Attr)),.d (.sl (W aH x.aI)),.d (.sl (W aH x.Kids)),.d (.val (.int .i64 x.Leaf))]
noncomputable def eLNode : (List Node)->List D:=fun x=>[.sl (W bC x)]
noncomputable def Zh : (List Node)->SV:=fun x=>.d (.sl (W bC x))
noncomputable def xt2 : (List Decision)->List D:=fun x=>[.sl (W bJ x)]
noncomputable def xp2 : (List Decision)->SV:=fun x=>.d (.sl (W bJ x))
structure Table where
 Nodes:(List Node)
 Leaves:(List Decision)
deriving DecidableEq, Inhabited
noncomputable def yl2 : Table->List D:=fun x=>[.sl (W bC x.Nodes),.sl (W bJ x.Leaves)]
noncomputable def BR : Table->SV:=fun x=>.agg [.d (.sl (W bC x.Nodes)),.d (.sl (W bJ x.Leaves))]
noncomputable def qh3 : (A2 Int)->List D:=fun x=>[.val (.int .i64 x.a0),.val (.int .i64 x.a1)]
noncomputable def od2 : (A2 Int)->SV:=fun x=>.agg [.d (.val (.int .i64 x.a0)),.d (.val (.int .i64 x.a1))]
@[reducible] noncomputable def oa2 (x y:(A2 Int)):Bool:=io.and (io.eq x.a0 y.a0) (io.eq x.a1 y.a1)
structure Live where
 rule:Int
 zone:Int
deriving DecidableEq, Inhabited
noncomputable def jX : Live->List D:=fun x=>[.val (.int .i64 x.rule),.val (.int .i64 x.zone)]
noncomputable def vLive : Live->SV:=fun x=>.agg [.d (.val (.int .i64 x.rule)),.d (.val (.int .i64 x.zone))]
@[reducible] noncomputable def qLive (x y:Live):Bool:=io.and (io.eq x.rule y.rule) (io.eq x.zone y.zone)
structure Work where
 au:au
 ay:(List (aF Range))
 Table:Table
 Attr:(List Int)
 Live:(List (List Int))
 Made:(List Int)
 Full:Bool
deriving DecidableEq, Inhabited
noncomputable def eWork : Work->List D:=fun x=>[.sl (W aZ x.au.Rules),.sl (W dD x.ay),.sl (W bC x.Table.Nodes),.sl (W bJ x.Table.Leaves),.sl (W aH x.Attr),.sl (W xZ x.Live),.sl (W aH x.Made),.val (.bool x.Full)]
noncomputable def vWork : Work->SV:=fun x=>.agg [.d (.sl (W aZ x.au.Rules)),.d (.sl (W dD x.ay)),.d (.sl (W bC x.Table.Nodes)),.d (.sl (W bJ x.Table.Leaves)),.d (.sl (W aH x.Attr)),.d (.sl (W xZ x.Live)),.d (.sl (W aH x.Made)),.d (.val (.bool x.Full))]
noncomputable def Zf : Work->SV:=fun x=>.fp [.sl (W aZ x.au.Rules),.sl (W dD x.ay),.sl (W bC x.Table.Nodes),.sl (W bJ x.Table.Leaves),.sl (W aH x.Attr),.sl (W xZ x.Live),.sl (W aH x.Made),.val (.bool x.Full)]
def KQ : Decision->Value:=fun x=>.agg [.bool x.Allowed,.bool x.Together,.bool x.Single,.int .i64 x.Limit,.int .i64 x.Price,.int .i64 x.pG.Num,.int .i64 x.pG.Den,.int .i64 x.oQ.Num,.int .i64 x.oQ.Den,.int .i64 x.Cap.Num,.int .i64 x.Cap.Den,.int .i64 x.eF.Num,.int .i64 x.eF.Den,.int .i64 x.dH.Num,.int .i64 x.dH.Den,.int .i64 x.By].toArray
set_option maxRecDepth 100000 in
theorem cj0 (a b:Decision):pK (KQ a) (KQ b)=decide (a=b):=by
 obtain⟨a1,a2,a3,a4,a5,⟨a6,a7⟩,⟨a8,a9⟩,⟨a10,a11⟩,⟨a12,Aa⟩,⟨AZ,a15⟩,a16⟩:=a;obtain⟨b1,b2,b3,b4,b5,⟨b6,b7⟩,⟨b8,b9⟩,⟨b10,b11⟩,⟨b12,b13⟩,⟨b14,b15⟩,b16⟩:=b;rw[Bool.eq_iff_iff];simp[KQ,pK,Ii,Ij,and_assoc]
abbrev cR (z:aF Range):List SV:=[oi z.a0.Lo,oi z.a0.Hi,oi z.a1.Lo,oi z.a1.Hi,oi z.a2.Lo,oi z.a2.Hi,oi z.a3.Lo,oi z.a3.Hi,oi z.a4.Lo,oi z.a4.Hi,oi z.a5.Lo,oi z.a5.Hi,oi z.a6.Lo,oi z.a6.Hi,oi z.a7.Lo,oi z.a7.Hi,oi z.a8.Lo,oi z.a8.Hi,oi z.a9.Lo,oi z.a9.Hi]
abbrev cl (z:aF Range):List D:=[iv z.a0.Lo,iv z.a0.Hi,iv z.a1.Lo,iv z.a1.Hi,iv z.a2.Lo,iv z.a2.Hi,iv z.a3.Lo,iv z.a3.Hi,iv z.a4.Lo,iv z.a4.Hi,iv z.a5.Lo,iv z.a5.Hi,iv z.a6.Lo,iv z.a6.Hi,iv z.a7.Lo,iv z.a7.Hi,iv z.a8.Lo,iv z.a8.Hi,iv z.a9.Lo,iv z.a9.Hi]
abbrev ca (z:aF Int):List SV:=[oi z.a0,oi z.a1,oi z.a2,oi z.a3,oi z.a4,oi z.a5,oi z.a6,oi z.a7,oi z.a8,oi z.a9]
abbrev cb (z:aF Int):List D:=[iv z.a0,iv z.a1,iv z.a2,iv z.a3,iv z.a4,iv z.a5,iv z.a6,iv z.a7,iv z.a8,iv z.a9]
noncomputable abbrev rC x:=ak.row 3 1 (W aH x)
noncomputable abbrev rD x:=ak.row 48 1 (W xZ x)
noncomputable abbrev rE x:=ak.row 50 4 (W bC x)
noncomputable abbrev rF x:=ak.row 44 16 (W bJ x)
noncomputable abbrev rG x:=ak.row 66 2 (W jX x)
end Go.SX.Td
