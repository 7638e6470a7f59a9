/- Parts of the proof. -/
import Derived.Test.YtllbabjgpdmblaaGreatDoorZSyT
import Derived.Test.YtllbabjgpdmblaaGreatDoorZTdTab
set_option linter.unusedSimpArgs false
set_option linter.unusedVariables false
set_option linter.unusedSectionVars false
namespace Go.SX.Td
open Go Go.SX Go.Proofs
set_option maxRecDepth 100000
abbrev oi (x:Int):SV:=.d (.val (.int .i64 x))
abbrev iv (x:Int):D:=.val (.int .i64 x)
abbrev oz : Value:=.int .i64 0
abbrev gw (n k:Nat)(b:Bool)(o:DOp):GOp:=⟨some n,o,some (k,b)⟩
abbrev ob (x:Bool):SV:=.d (.val (.bool x))
abbrev gv (n:Nat)(o:DOp):GOp:=⟨some n,o,none⟩
theorem oj {α:Type}{a b:α}(h:some a=some b):a=b:=Option.some.inj h
abbrev rp {α:Type}(n:Nat)(a:α):List α:=List.replicate n a
theorem ez {α:Sort _}(t:α):∃ z,z=t:=⟨t,rfl⟩
abbrev dz : List SV:=[.d (.val (.bool false)),.d (.val (.bool false)),.d (.val (.bool false)),oi 0,oi 0,oi 0,oi 0,oi 0,oi 0,oi 0,oi 0,oi 0,oi 0,oi 0,oi 0,oi 0]
theorem an_ {α:Sort _}{a b:α}(h:a=b:=by first | rfl | exact xr0 _ | simp only[ka0] | simp only[vx0]):a=b:=h
theorem aw_ {α:Sort _}{a b:α}(h:a=b:=by first | rfl | exact xr0 _ | (cbv;simp only[ka0])):a=b:=h
instance (n : Nat) : OfNat Operand n:=⟨.tmp n⟩
abbrev ci (n : Int) : Operand:=.const (.int .i64 n)
abbrev cB (b : Bool) : Operand:=.const (.bool b)
abbrev cn : Operand:=.const (.slice none 0 0)
def gS : Nat→List DOp→List GOp
 | _,[]=>[]
 | n,o::l=>⟨some n,o,none⟩::gS (n+1) l
def gQ (k : Nat) (b : Bool) : Nat→List DOp→List GOp
 | _,[]=>[]
 | n,o::l=>⟨some n,o,some (k,b)⟩::gQ k b (n+1) l
noncomputable abbrev dq {α : Type} (e : α→List D) (x : List α) : SV:=.d (.sl (W e x))
theorem mx {p : Prop} (h : p := by (cbv;repeat (refine⟨an_,?_⟩;cbv))) : p:=h
structure A2 (α:Type) where
 a0:α
 a1:α
deriving DecidableEq, Inhabited
def A2.get {α:Type}(x:A2 α)(i:Nat):α:=match i with
 | 0=>x.a0
 | 1=>x.a1
 | _=>x.a0
def A2.put {α:Type}(x:A2 α)(i:Nat)(v:α):A2 α:=match i with
 | 0=>{ x with a0:=v }
 | 1=>{ x with a1:=v }
 | _=>x
structure A10 (α:Type) where
 a0:α
 a1:α
 a2:α
 a3:α
 a4:α
 a5:α
 a6:α
 a7:α
 a8:α
 a9:α
deriving DecidableEq, Inhabited
def A10.get {α:Type}(x:A10 α)(i:Nat):α:=match i with
 | 0=>x.a0
 | 1=>x.a1
 | 2=>x.a2
 | 3=>x.a3
 | 4=>x.a4
 | 5=>x.a5
 | 6=>x.a6
 | 7=>x.a7
 | 8=>x.a8
 | 9=>x.a9
 | _=>x.a0
def A10.put {α:Type}(x:A10 α)(i:Nat)(v:α):A10 α:=match i with
 | 0=>{ x with a0:=v }
 | 1=>{ x with a1:=v }
 | 2=>{ x with a2:=v }
 | 3=>{ x with a3:=v }
 | 4=>{ x with a4:=v }
 | 5=>{ x with a5:=v }
 | 6=>{ x with a6:=v }
 | 7=>{ x with a7:=v }
 | 8=>{ x with a8:=v }
 | 9=>{ x with a9:=v }
 | _=>x
noncomputable def qq0 : Int→List D:=fun x=>[.val (.int .i64 x)]
noncomputable def tt0 : Int→SV:=fun x=>.d (.val (.int .i64 x))
noncomputable def qt0 : (List Int)→List D:=fun x=>[.sl (W qq0 x)]
noncomputable def qk1 : (List Int)→SV:=fun x=>.d (.sl (W qq0 x))
noncomputable def tg2 : (List (List Int))→List D:=fun x=>[.sl (W qt0 x)]
noncomputable def ij1 : (List (List Int))→SV:=fun x=>.d (.sl (W qt0 x))
structure Range where
 Lo:Int
 Hi:Int
deriving DecidableEq, Inhabited
noncomputable def zk0 : Range→List D:=fun x=>[.val (.int .i64 x.Lo),.val (.int .i64 x.Hi)]
noncomputable def cg1 : Range→SV:=fun x=>.agg [.d (.val (.int .i64 x.Lo)),.d (.val (.int .i64 x.Hi))]
@[reducible] noncomputable def qRange (x y:Range):Bool:=io.and (io.eq x.Lo y.Lo) (io.eq x.Hi y.Hi)
noncomputable def qj0 : (A10 Range)→List D:=fun x=>[.val (.int .i64 x.a0.Lo),.val (.int .i64 x.a0.Hi),.val (.int .i64 x.a1.Lo),.val (.int .i64 x.a1.Hi),.val (.int .i64 x.a2.Lo),.val (.int .i64 x.a2.Hi),.val (.int .i64 x.a3.Lo),.val (.int .i64 x.a3.Hi),.val (.int .i64 x.a4.Lo),.val (.int .i64 x.a4.Hi),.val (.int .i64 x.a5.Lo),.val (.int .i64 x.a5.Hi),.val (.int .i64 x.a6.Lo),.val (.int .i64 x.a6.Hi),.val (.int .i64 x.a7.Lo),.val (.int .i64 x.a7.Hi),.val (.int .i64 x.a8.Lo),.val (.int .i64 x.a8.Hi),.val (.int .i64 x.a9.Lo),.val (.int .i64 x.a9.Hi)]
noncomputable def dy0 : (A10 Range)→SV:=fun x=>.agg [.d (.val (.int .i64 x.a0.Lo)),.d (.val (.int .i64 x.a0.Hi)),.d (.val (.int .i64 x.a1.Lo)),.d (.val (.int .i64 x.a1.Hi)),.d (.val (.int .i64 x.a2.Lo)),.d (.val (.int .i64 x.a2.Hi)),.d (.val (.int .i64 x.a3.Lo)),.d (.val (.int .i64 x.a3.Hi)),.d (.val (.int .i64 x.a4.Lo)),.d (.val (.int .i64 x.a4.Hi)),.d (.val (.int .i64 x.a5.Lo)),.d (.val (.int .i64 x.a5.Hi)),.d (.val (.int .i64 x.a6.Lo)),.d (.val (.int .i64 x.a6.Hi)),.d (.val (.int .i64 x.a7.Lo)),.d (.val (.int .i64 x.a7.Hi)),.d (.val (.int .i64 x.a8.Lo)),.d (.val (.int .i64 x.a8.Hi)),.d (.val (.int .i64 x.a9.Lo)),.d (.val (.int .i64 x.a9.Hi))]
@[reducible] noncomputable def wx2 (x y:(A10 Range)):Bool:=io.and (io.eq x.a0.Lo y.a0.Lo) (io.and (io.eq x.a0.Hi y.a0.Hi) (io.and (io.eq x.a1.Lo y.a1.Lo) (io.and (io.eq x.a1.Hi y.a1.Hi) (io.and (io.eq x.a2.Lo y.a2.Lo) (io.and (io.eq x.a2.Hi y.a2.Hi) (io.and (io.eq x.a3.Lo y.a3.Lo) (io.and (io.eq x.a3.Hi y.a3.Hi) (io.and (io.eq x.a4.Lo y.a4.Lo) (io.and (io.eq x.a4.Hi y.a4.Hi) (io.and (io.eq x.a5.Lo y.a5.Lo) (io.and (io.eq x.a5.Hi y.a5.Hi) (io.and (io.eq x.a6.Lo y.a6.Lo) (io.and (io.eq x.a6.Hi y.a6.Hi) (io.and (io.eq x.a7.Lo y.a7.Lo) (io.and (io.eq x.a7.Hi y.a7.Hi) (io.and (io.eq x.a8.Lo y.a8.Lo) (io.and (io.eq x.a8.Hi y.a8.Hi) (io.and (io.eq x.a9.Lo y.a9.Lo) (io.eq x.a9.Hi y.a9.Hi)))))))))))))))))))
noncomputable def eS : ByteArray→List D:=fun x=>[.val (.string x)]
noncomputable def vS : ByteArray→SV:=fun x=>.d (.val (.string x))
noncomputable def mx0 : (List (A10 Range))→List D:=fun x=>[.sl (W qj0 x)]
noncomputable def zk2 : (List (A10 Range))→SV:=fun x=>.d (.sl (W qj0 x))
structure Ratio where
 Num:Int
 Den:Int
deriving DecidableEq, Inhabited
noncomputable def zd0 : Ratio→List D:=fun x=>[.val (.int .i64 x.Num),.val (.int .i64 x.Den)]
noncomputable def vRatio : Ratio→SV:=fun x=>.agg [.d (.val (.int .i64 x.Num)),.d (.val (.int .i64 x.Den))]
@[reducible] noncomputable def qRatio (x y:Ratio):Bool:=io.and (io.eq x.Num y.Num) (io.eq x.Den y.Den)
structure Rule where
 Kind:Int
 Name:ByteArray
 Zones:(List (A10 Range))
 N:Int
 R:Ratio
 S:Ratio
deriving DecidableEq, Inhabited
noncomputable def qp0 : Rule→List D:=fun x=>[.val (.int .i64 x.Kind),.val (.string x.Name),.sl (W qj0 x.Zones),.val (.int .i64 x.N),.val (.int .i64 x.R.Num),.val (.int .i64 x.R.Den),.val (.int .i64 x.S.Num),.val (.int .i64 x.S.Den)]
noncomputable def sz1 : Rule→SV:=fun x=>.agg [.d (.val (.int .i64 x.Kind)),.d (.val (.string x.Name)),.d (.sl (W qj0 x.Zones)),.d (.val (.int .i64 x.N)),.d (.val (.int .i64 x.R.Num)),.d (.val (.int .i64 x.R.Den)),.d (.val (.int .i64 x.S.Num)),.d (.val (.int .i64 x.S.Den))]
noncomputable def eB : Bool→List D:=fun x=>[.val (.bool x)]
noncomputable def vB : Bool→SV:=fun x=>.d (.val (.bool x))
noncomputable def eLRule : (List Rule)→List D:=fun x=>[.sl (W qp0 x)]
noncomputable def vLRule : (List Rule)→SV:=fun x=>.d (.sl (W qp0 x))
structure Policy where
 Rules:(List Rule)
deriving DecidableEq, Inhabited
noncomputable def la1 : Policy→List D:=fun x=>[.sl (W qp0 x.Rules)]
noncomputable def ud0 : Policy→SV:=fun x=>.agg [.d (.sl (W qp0 x.Rules))]
noncomputable def xd1 : (A10 Int)→List D:=fun x=>[.val (.int .i64 x.a0),.val (.int .i64 x.a1),.val (.int .i64 x.a2),.val (.int .i64 x.a3),.val (.int .i64 x.a4),.val (.int .i64 x.a5),.val (.int .i64 x.a6),.val (.int .i64 x.a7),.val (.int .i64 x.a8),.val (.int .i64 x.a9)]
noncomputable def vn0 : (A10 Int)→SV:=fun x=>.agg [.d (.val (.int .i64 x.a0)),.d (.val (.int .i64 x.a1)),.d (.val (.int .i64 x.a2)),.d (.val (.int .i64 x.a3)),.d (.val (.int .i64 x.a4)),.d (.val (.int .i64 x.a5)),.d (.val (.int .i64 x.a6)),.d (.val (.int .i64 x.a7)),.d (.val (.int .i64 x.a8)),.d (.val (.int .i64 x.a9))]
@[reducible] noncomputable def rx2 (x y:(A10 Int)):Bool:=io.and (io.eq x.a0 y.a0) (io.and (io.eq x.a1 y.a1) (io.and (io.eq x.a2 y.a2) (io.and (io.eq x.a3 y.a3) (io.and (io.eq x.a4 y.a4) (io.and (io.eq x.a5 y.a5) (io.and (io.eq x.a6 y.a6) (io.and (io.eq x.a7 y.a7) (io.and (io.eq x.a8 y.a8) (io.eq x.a9 y.a9)))))))))
structure Decision where
 Allowed:Bool
 Together:Bool
 Single:Bool
 Limit:Int
 Price:Int
 Fee:Ratio
 Tax:Ratio
 Cap:Ratio
 Share:Ratio
 Refund:Ratio
 By:Int
deriving DecidableEq, Inhabited
noncomputable def qz0 : Decision→List D:=fun x=>[.val (.bool x.Allowed),.val (.bool x.Together),.val (.bool x.Single),.val (.int .i64 x.Limit),.val (.int .i64 x.Price),.val (.int .i64 x.Fee.Num),.val (.int .i64 x.Fee.Den),.val (.int .i64 x.Tax.Num),.val (.int .i64 x.Tax.Den),.val (.int .i64 x.Cap.Num),.val (.int .i64 x.Cap.Den),.val (.int .i64 x.Share.Num),.val (.int .i64 x.Share.Den),.val (.int .i64 x.Refund.Num),.val (.int .i64 x.Refund.Den),.val (.int .i64 x.By)]
noncomputable def pv0 : Decision→SV:=fun x=>.agg [.d (.val (.bool x.Allowed)),.d (.val (.bool x.Together)),.d (.val (.bool x.Single)),.d (.val (.int .i64 x.Limit)),.d (.val (.int .i64 x.Price)),.d (.val (.int .i64 x.Fee.Num)),.d (.val (.int .i64 x.Fee.Den)),.d (.val (.int .i64 x.Tax.Num)),.d (.val (.int .i64 x.Tax.Den)),.d (.val (.int .i64 x.Cap.Num)),.d (.val (.int .i64 x.Cap.Den)),.d (.val (.int .i64 x.Share.Num)),.d (.val (.int .i64 x.Share.Den)),.d (.val (.int .i64 x.Refund.Num)),.d (.val (.int .i64 x.Refund.Den)),.d (.val (.int .i64 x.By))]
@[reducible] noncomputable def jb0 (x y:Decision):Bool:=io.and (io.beq false x.Allowed y.Allowed) (io.and (io.beq false x.Together y.Together) (io.and (io.beq false x.Single y.Single) (io.and (io.eq x.Limit y.Limit) (io.and (io.eq x.Price y.Price) (io.and (io.eq x.Fee.Num y.Fee.Num) (io.and (io.eq x.Fee.Den y.Fee.Den) (io.and (io.eq x.Tax.Num y.Tax.Num) (io.and (io.eq x.Tax.Den y.Tax.Den) (io.and (io.eq x.Cap.Num y.Cap.Num) (io.and (io.eq x.Cap.Den y.Cap.Den) (io.and (io.eq x.Share.Num y.Share.Num) (io.and (io.eq x.Share.Den y.Share.Den) (io.and (io.eq x.Refund.Num y.Refund.Num) (io.and (io.eq x.Refund.Den y.Refund.Den) (io.eq x.By y.By)))))))))))))))
structure Node where
 Attr:Int
 Cuts:(List Int)
 Kids:(List Int)
 Leaf:Int
deriving DecidableEq, Inhabited
noncomputable def qk0 : Node→List D:=fun x=>[.val (.int .i64 x.Attr),.sl (W qq0 x.Cuts),.sl (W qq0 x.Kids),.val (.int .i64 x.Leaf)]
noncomputable def bz1 : Node→SV:=fun x=>.agg [.d (.val (.int .i64 x.Attr)),.d (.sl (W qq0 x.Cuts)),.d (.sl (W qq0 x.Kids)),.d (.val (.int .i64 x.Leaf))]
noncomputable def eLNode : (List Node)→List D:=fun x=>[.sl (W qk0 x)]
noncomputable def vLNode : (List Node)→SV:=fun x=>.d (.sl (W qk0 x))
noncomputable def zh2 : (List Decision)→List D:=fun x=>[.sl (W qz0 x)]
noncomputable def zx2 : (List Decision)→SV:=fun x=>.d (.sl (W qz0 x))
structure Table where
 Nodes:(List Node)
 Leaves:(List Decision)
deriving DecidableEq, Inhabited
noncomputable def em1 : Table→List D:=fun x=>[.sl (W qk0 x.Nodes),.sl (W qz0 x.Leaves)]
noncomputable def uc0 : Table→SV:=fun x=>.agg [.d (.sl (W qk0 x.Nodes)),.d (.sl (W qz0 x.Leaves))]
noncomputable def tp2 : (A2 Int)→List D:=fun x=>[.val (.int .i64 x.a0),.val (.int .i64 x.a1)]
noncomputable def rt2 : (A2 Int)→SV:=fun x=>.agg [.d (.val (.int .i64 x.a0)),.d (.val (.int .i64 x.a1))]
@[reducible] noncomputable def rr2 (x y:(A2 Int)):Bool:=io.and (io.eq x.a0 y.a0) (io.eq x.a1 y.a1)
structure Live where
 rule:Int
 zone:Int
deriving DecidableEq, Inhabited
noncomputable def eLive : Live→List D:=fun x=>[.val (.int .i64 x.rule),.val (.int .i64 x.zone)]
noncomputable def vLive : Live→SV:=fun x=>.agg [.d (.val (.int .i64 x.rule)),.d (.val (.int .i64 x.zone))]
@[reducible] noncomputable def qLive (x y:Live):Bool:=io.and (io.eq x.rule y.rule) (io.eq x.zone y.zone)
structure Work where
 Policy:Policy
 Zones:(List (A10 Range))
 Table:Table
 Attr:(List Int)
 Live:(List (List Int))
 Made:(List Int)
 Full:Bool
deriving DecidableEq, Inhabited
noncomputable def eWork : Work→List D:=fun x=>[.sl (W qp0 x.Policy.Rules),.sl (W qj0 x.Zones),.sl (W qk0 x.Table.Nodes),.sl (W qz0 x.Table.Leaves),.sl (W qq0 x.Attr),.sl (W qt0 x.Live),.sl (W qq0 x.Made),.val (.bool x.Full)]
noncomputable def vWork : Work→SV:=fun x=>.agg [.d (.sl (W qp0 x.Policy.Rules)),.d (.sl (W qj0 x.Zones)),.d (.sl (W qk0 x.Table.Nodes)),.d (.sl (W qz0 x.Table.Leaves)),.d (.sl (W qq0 x.Attr)),.d (.sl (W qt0 x.Live)),.d (.sl (W qq0 x.Made)),.d (.val (.bool x.Full))]
noncomputable def vPWork : Work→SV:=fun x=>.fp [.sl (W qp0 x.Policy.Rules),.sl (W qj0 x.Zones),.sl (W qk0 x.Table.Nodes),.sl (W qz0 x.Table.Leaves),.sl (W qq0 x.Attr),.sl (W qt0 x.Live),.sl (W qq0 x.Made),.val (.bool x.Full)]
def qy0 : Decision→Value:=fun x=>.agg [.bool x.Allowed,.bool x.Together,.bool x.Single,.int .i64 x.Limit,.int .i64 x.Price,.int .i64 x.Fee.Num,.int .i64 x.Fee.Den,.int .i64 x.Tax.Num,.int .i64 x.Tax.Den,.int .i64 x.Cap.Num,.int .i64 x.Cap.Den,.int .i64 x.Share.Num,.int .i64 x.Share.Den,.int .i64 x.Refund.Num,.int .i64 x.Refund.Den,.int .i64 x.By].toArray
set_option maxRecDepth 100000 in
theorem xd0 (a b:Decision):xw0 (qy0 a) (qy0 b)=decide (a=b):=by
 obtain⟨a1,a2,a3,a4,a5,⟨a6,a7⟩,⟨a8,a9⟩,⟨a10,a11⟩,⟨a12,a13⟩,⟨a14,a15⟩,a16⟩:=a;obtain⟨b1,b2,b3,b4,b5,⟨b6,b7⟩,⟨b8,b9⟩,⟨b10,b11⟩,⟨b12,b13⟩,⟨b14,b15⟩,b16⟩:=b;rw[Bool.eq_iff_iff];simp[qy0,xw0,lq0,lj0,and_assoc]
abbrev cR (z:A10 Range):List SV:=[oi z.a0.Lo,oi z.a0.Hi,oi z.a1.Lo,oi z.a1.Hi,oi z.a2.Lo,oi z.a2.Hi,oi z.a3.Lo,oi z.a3.Hi,oi z.a4.Lo,oi z.a4.Hi,oi z.a5.Lo,oi z.a5.Hi,oi z.a6.Lo,oi z.a6.Hi,oi z.a7.Lo,oi z.a7.Hi,oi z.a8.Lo,oi z.a8.Hi,oi z.a9.Lo,oi z.a9.Hi]
abbrev cl (z:A10 Range):List D:=[iv z.a0.Lo,iv z.a0.Hi,iv z.a1.Lo,iv z.a1.Hi,iv z.a2.Lo,iv z.a2.Hi,iv z.a3.Lo,iv z.a3.Hi,iv z.a4.Lo,iv z.a4.Hi,iv z.a5.Lo,iv z.a5.Hi,iv z.a6.Lo,iv z.a6.Hi,iv z.a7.Lo,iv z.a7.Hi,iv z.a8.Lo,iv z.a8.Hi,iv z.a9.Lo,iv z.a9.Hi]
abbrev ca (z:A10 Int):List SV:=[oi z.a0,oi z.a1,oi z.a2,oi z.a3,oi z.a4,oi z.a5,oi z.a6,oi z.a7,oi z.a8,oi z.a9]
abbrev cb (z:A10 Int):List D:=[iv z.a0,iv z.a1,iv z.a2,iv z.a3,iv z.a4,iv z.a5,iv z.a6,iv z.a7,iv z.a8,iv z.a9]
noncomputable abbrev rA x:=Res.row 3 1 (W qq0 x)
noncomputable abbrev rB x:=Res.row 50 4 (W qk0 x)
noncomputable abbrev rC x:=Res.row 44 16 (W qz0 x)
noncomputable abbrev rD x:=Res.row 48 1 (W qt0 x)
noncomputable abbrev rE x:=Res.row 54 20 (W qj0 x)
end Go.SX.Td
