/- Parts of the proof. -/
import Derived.Test.YtllbabjgpdmblaaDoorZTdT
set_option linter.unusedSimpArgs false
set_option linter.unusedVariables false
set_option linter.unusedSectionVars false
namespace Go.SX.Td
open Go Go.SX Go.Proofs
set_option maxRecDepth 100000
noncomputable def decide_numbers_g (r_:Rule):Option (Bool) :=
 bif (io.eq r_.Kind 1) then (
 bif (io.le 0 r_.N) then (
 some (io.le r_.N 100)
 ) else (
 some false
 )
 ) else (
 bif (io.eq r_.Kind 3) then (
 bif (io.le 0 r_.N) then (
 bif (io.le r_.N 10000000) then (
 bif (io.le 1 r_.R.Den) then (
 bif (io.le r_.R.Den 1000000) then (
 bif (io.le 0 r_.R.Num) then (
 bif (io.le r_.R.Num (io.ar .mul .i64 1 r_.R.Den)) then (
 bif (io.le r_.R.Num 1000000) then (
 bif (io.le 1 r_.S.Den) then (
 bif (io.le r_.S.Den 1000000) then (
 bif (io.le 0 r_.S.Num) then (
 bif (io.le r_.S.Num (io.ar .mul .i64 1 r_.S.Den)) then (
 some (io.le r_.S.Num 1000000)
 ) else (
 some false
 )
 ) else (
 some false
 )
 ) else (
 some false
 )
 ) else (
 some false
 )
 ) else (
 some false
 )
 ) else (
 some false
 )
 ) else (
 some false
 )
 ) else (
 some false
 )
 ) else (
 some false
 )
 ) else (
 some false
 )
 ) else (
 some false
 )
 ) else (
 bif (io.eq r_.Kind 4) then (
 bif (io.le 1 r_.R.Den) then (
 bif (io.le r_.R.Den 1000000) then (
 bif (io.le 0 r_.R.Num) then (
 bif (io.le r_.R.Num (io.ar .mul .i64 10 r_.R.Den)) then (
 bif (io.le r_.R.Num 1000000) then (
 bif (io.le 1 r_.S.Den) then (
 bif (io.le r_.S.Den 1000000) then (
 bif (io.le 0 r_.S.Num) then (
 bif (io.le r_.S.Num (io.ar .mul .i64 1 r_.S.Den)) then (
 some (io.le r_.S.Num 1000000)
 ) else (
 some false
 )
 ) else (
 some false
 )
 ) else (
 some false
 )
 ) else (
 some false
 )
 ) else (
 some false
 )
 ) else (
 some false
 )
 ) else (
 some false
 )
 ) else (
 some false
 )
 ) else (
 some false
 )
 ) else (
 bif (io.eq r_.Kind 5) then (
 bif (io.le 1 r_.R.Den) then (
 bif (io.le r_.R.Den 1000000) then (
 bif (io.le 0 r_.R.Num) then (
 bif (io.le r_.R.Num (io.ar .mul .i64 1 r_.R.Den)) then (
 some (io.le r_.R.Num 1000000)
 ) else (
 some false
 )
 ) else (
 some false
 )
 ) else (
 some false
 )
 ) else (
 some false
 )
 ) else (
 Option.bind (
 bif (io.eq r_.Kind 2) then (
 some (io.eq r_.Kind 2)
 ) else (
 bif (io.eq r_.Kind 6) then (
 some (io.eq r_.Kind 6)
 ) else (
 some (io.eq r_.Kind 7)
 )
 )
 ) fun v1 =>
 bif v1 then (
 some true
 ) else (
 some false
 )
 )
 )
 )
 )
end Go.SX.Td
namespace Go.SX.Td
open Go Go.SX Go.Proofs
set_option maxRecDepth 100000
noncomputable def resolve_Limits_g : Option ((A10 Range)) :=
 some (A10.mk (Range.mk 0 1000000000) (Range.mk 0 150) (Range.mk 0 1) (Range.mk 0 19) (Range.mk 0 7) (Range.mk 0 319) (Range.mk 0 3) (Range.mk 0 3) (Range.mk 1 12) (Range.mk 0 100))
end Go.SX.Td
namespace Go.SX.Td
open Go Go.SX Go.Proofs
set_option maxRecDepth 100000
noncomputable def decide_within_l2 (z_:(A10 Range))(v1:(A10 Range)):Int→Option ((Int) ⊕ ((Unit) ⊕ (Bool)))
 | v2 =>
 bif (io.lt v2 10) then (
 Option.bind (
 Option.bind (pixG 10 v2) fun i5 =>
 some ((z_.get i5).Lo,(z_.get i5).Hi)
 ) fun (Lo3,Hi4) =>
 Option.bind (
 bif (io.lt Hi4 Lo3) then (
 some true
 ) else (
 Option.bind (pixG 10 v2) fun i7 =>
 bif (io.lt Lo3 (v1.get i7).Lo) then (
 some true
 ) else (
 some (io.lt (v1.get i7).Hi Hi4)
 )
 )
 ) fun v6 =>
 bif v6 then (
 some (.inr (.inr false))
 ) else (
 some (.inl (io.ar .add .i64 v2 1))
 )
 ) else (
 some (.inr (.inl ()))
 )
noncomputable def decide_within_g (z_:(A10 Range)):Option (Bool) :=
 Option.bind (resolve_Limits_g) fun v1 =>
 orR (
 whileG (decide_within_l2 z_ v1) 0
 ) fun _ =>
 some true
end Go.SX.Td
namespace Go.SX.Td
open Go Go.SX Go.Proofs
set_option maxRecDepth 100000
noncomputable def decide_Valid_l26 (x6:Rule)(m8:(List (ByteArray×Bool))):Int→Option ((Int) ⊕ ((Unit) ⊕ ((List (ByteArray×Bool))×Bool)))
 | v10 =>
 bif (io.lt v10 (io.len (W eA10Range x6.Zones))) then (
 Option.bind (
 Option.bind (idxG x6.Zones v10) fun x12 =>
 Option.bind (decide_within_g x12) fun v13 =>
 some (io.not v13)
 ) fun v11 =>
 bif v11 then (
 some (.inr (.inr (m8,(io.le 0 v10))))
 ) else (
 some (.inl (io.ar .add .i64 v10 1))
 )
 ) else (
 some (.inr (.inl ()))
 )
noncomputable def decide_Valid_l22 (p:Policy):((List (ByteArray×Bool))×Int)→Option (((List (ByteArray×Bool))×Int) ⊕ (((List (ByteArray×Bool))) ⊕ (Bool)))
 | (own2,v3) =>
 bif (io.lt v3 (io.len (W eRule p.Rules))) then (
 Option.bind (
 Option.bind (idxG p.Rules v3) fun x6 =>
 Option.bind (some (mlookD own2 x6.Name false)) fun y7 =>
 Option.bind (some (mputG own2 x6.Name true)) fun m8 =>
 bif y7 then (
 some (m8,true)
 ) else (
 Option.bind (decide_numbers_g x6) fun v9 =>
 bif (io.not v9) then (
 some (m8,true)
 ) else (
 bif (io.lt 200 (io.len (W eA10Range x6.Zones))) then (
 some (m8,true)
 ) else (
 orR (
 whileG (decide_Valid_l26 x6 m8) 0
 ) fun _ =>
 some (m8,(io.le 0 (-1)))
 )
 )
 )
 ) fun (own4,v5) =>
 bif v5 then (
 some (.inr (.inr (io.not (io.le 0 v3))))
 ) else (
 some (.inl (own4,(io.ar .add .i64 v3 1)))
 )
 ) else (
 some (.inr (.inl own2))
 )
noncomputable def decide_Valid_g (p:Policy):Option (Bool) :=
 bif (io.le (io.len (W eRule p.Rules)) 200) then (
 orR (
 whileG (decide_Valid_l22 p) ([],0)
 ) fun own1 =>
 some (io.not (io.le 0 (-1)))
 ) else (
 some false
 )
end Go.SX.Td
namespace Go.SX.Td
open Go Go.SX Go.Proofs
set_option maxRecDepth 100000
noncomputable def table_formed_l2 (n:Node)(Hi3:Int):(Int×Int)→Option ((Int×Int) ⊕ ((Unit) ⊕ (Bool)))
 | (Lo6,v7) =>
 bif (io.lt v7 (io.len (W eIi64 n.Cuts))) then (
 Option.bind (idxG n.Cuts v7) fun x8 =>
 Option.bind (
 bif (io.le x8 Lo6) then (
 some true
 ) else (
 some (io.lt Hi3 x8)
 )
 ) fun v9 =>
 bif v9 then (
 some (.inr (.inr false))
 ) else (
 some (.inl (x8,(io.ar .add .i64 v7 1)))
 )
 ) else (
 some (.inr (.inl ()))
 )
noncomputable def table_formed_l4 (n:Node)(t_:Table):Int→Option ((Int) ⊕ ((Unit) ⊕ (Bool)))
 | v10 =>
 bif (io.lt v10 (io.len (W eIi64 n.Kids))) then (
 Option.bind (idxG n.Kids v10) fun x11 =>
 Option.bind (
 bif (io.lt x11 0) then (
 some true
 ) else (
 bif (io.le (io.len (W eNode t_.Nodes)) x11) then (
 some true
 ) else (
 bif (io.lt 0 v10) then (
 Option.bind (idxG n.Kids (io.ar .sub .i64 v10 1)) fun x13 =>
 bif (io.eq x13 x11) then (
 some true
 ) else (
 Option.bind (idxG t_.Nodes x11) fun x14 =>
 bif (io.lt 0 (io.len (W eIi64 x14.Kids))) then (
 Option.bind (idxG t_.Nodes x11) fun x15 =>
 some (io.le x15.Attr n.Attr)
 ) else (
 some false
 )
 )
 ) else (
 Option.bind (idxG t_.Nodes x11) fun x16 =>
 bif (io.lt 0 (io.len (W eIi64 x16.Kids))) then (
 Option.bind (idxG t_.Nodes x11) fun x17 =>
 some (io.le x17.Attr n.Attr)
 ) else (
 some false
 )
 )
 )
 )
 ) fun v12 =>
 bif v12 then (
 some (.inr (.inr false))
 ) else (
 some (.inl (io.ar .add .i64 v10 1))
 )
 ) else (
 some (.inr (.inl ()))
 )
noncomputable def table_formed_g (t_:Table)(n:Node):Option (Bool) :=
 bif (io.eq (io.len (W eIi64 n.Kids)) 0) then (
 bif (io.eq (io.len (W eIi64 n.Cuts)) 0) then (
 bif (io.eq n.Attr 0) then (
 bif (io.le 0 n.Leaf) then (
 some (io.lt n.Leaf (io.len (W eDecision t_.Leaves)))
 ) else (
 some false
 )
 ) else (
 some false
 )
 ) else (
 some false
 )
 ) else (
 Option.bind (
 bif (io.lt n.Attr 0) then (
 some true
 ) else (
 bif (io.le 10 n.Attr) then (
 some true
 ) else (
 bif (io.not (io.eq n.Leaf 0)) then (
 some true
 ) else (
 bif (io.eq (io.len (W eIi64 n.Cuts)) 0) then (
 some true
 ) else (
 some (io.not (io.eq (io.len (W eIi64 n.Kids)) (io.ar .add .i64 (io.len (W eIi64 n.Cuts)) 1)))
 )
 )
 )
 )
 ) fun v1 =>
 bif v1 then (
 some false
 ) else (
 Option.bind (
 Option.bind (resolve_Limits_g) fun v4 =>
 Option.bind (pixG 10 n.Attr) fun i5 =>
 some ((v4.get i5).Lo,(v4.get i5).Hi)
 ) fun (Lo2,Hi3) =>
 orR (
 whileG (table_formed_l2 n Hi3) (Lo2,0)
 ) fun _ =>
 orR (
 whileG (table_formed_l4 n t_) 0
 ) fun _ =>
 some true
 )
 )
end Go.SX.Td
namespace Go.SX.Td
open Go Go.SX Go.Proofs
set_option maxRecDepth 100000
noncomputable def walkV_l1 (x4:Node)(rec:(Int→(List (Int×Bool))→Int→Option ((List (Int×Bool))×Int))):((List (Int×Bool))×Int×Int)→Option (((List (Int×Bool))×Int×Int) ⊕ ((List (Int×Bool))×Int))
 | (own5,c6,v7) =>
  bif (io.lt v7 (io.len (W eIi64 x4.Kids))) then (
   Option.bind (
    Option.bind (idxG x4.Kids v7) fun x10 =>
    Option.bind (rec x10 own5 c6) fun r11 =>
    some (r11.1,r11.2)
    ) fun (own8,c9) =>
   some (.inl (own8,c9,(io.ar .add .i64 v7 1)))
  ) else (
   some (.inr (own5,c6))
  )
noncomputable def walkV_b (nodes:(List Node))(rec:(Int→(List (Int×Bool))→Int→Option ((List (Int×Bool))×Int)))(at0:Int)(seen:(List (Int×Bool)))(nxt:Int):Option ((List (Int×Bool))×Int) :=
 Option.bind (some (mlookD seen at0 false)) fun y1 =>
 bif y1 then (
  some (seen,nxt)
 ) else (
  Option.bind (some (mputG seen at0 true)) fun m2 =>
  Option.bind (
   bif (io.eq at0 nxt) then (
    some (io.ar .add .i64 nxt 1)
   ) else (
    some nxt
   )
   ) fun c3 =>
  Option.bind (idxG nodes at0) fun x4 =>
  whileG (walkV_l1 x4 rec) (m2,c3,0)
 )
noncomputable def walkV (nodes:(List Node)):Nat→Int→(List (Int×Bool))→Int→Option ((List (Int×Bool))×Int)
 | 0,_,_,_=>none
 | n+1,at0,seen,nxt=>walkV_b nodes (walkV nodes n) at0 seen nxt
end Go.SX.Td
