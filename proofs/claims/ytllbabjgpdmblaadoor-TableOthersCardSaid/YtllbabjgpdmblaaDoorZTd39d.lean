/- Parts of the proof. -/
import Derived.Test.YtllbabjgpdmblaaDoorZTdT
import Derived.Test.YtllbabjgpdmblaaDoorZTd49d
set_option linter.unusedSimpArgs false
set_option linter.unusedVariables false
set_option linter.unusedSectionVars false
namespace Go.SX.Td
open Go Go.SX Go.Proofs
set_option maxRecDepth 100000
noncomputable def table_formed_l2 (n : Node) (Hi3 : Int) : (Int × Int) → Option ((Int × Int) ⊕ ((Unit) ⊕ (Bool)))
 | (Lo6, v7) =>
 bif (io.lt v7 (io.len (W eIi64 n.Cuts))) then (
 Option.bind (idxG n.Cuts v7) fun x8 =>
 Option.bind (
 bif (io.le x8 Lo6) then (
 some true
 ) else (
 some (io.lt Hi3 x8)
 )
 ) fun v9 =>
 bif v9 then (
 some (.inr (.inr false))
 ) else (
 some (.inl (x8, (io.ar .add .i64 v7 1)))
 )
 ) else (
 some (.inr (.inl ()))
 )
noncomputable def table_formed_l4 (n : Node) (t_ : Table) : Int → Option ((Int) ⊕ ((Unit) ⊕ (Bool)))
 | v10 =>
 bif (io.lt v10 (io.len (W eIi64 n.Kids))) then (
 Option.bind (idxG n.Kids v10) fun x11 =>
 Option.bind (
 bif (io.lt x11 0) then (
 some true
 ) else (
 bif (io.le (io.len (W eNode t_.Nodes)) x11) then (
 some true
 ) else (
 bif (io.lt 0 v10) then (
 Option.bind (idxG n.Kids (io.ar .sub .i64 v10 1)) fun x13 =>
 bif (io.eq x13 x11) then (
 some true
 ) else (
 Option.bind (idxG t_.Nodes x11) fun x14 =>
 bif (io.lt 0 (io.len (W eIi64 x14.Kids))) then (
 Option.bind (idxG t_.Nodes x11) fun x15 =>
 some (io.le x15.Attr n.Attr)
 ) else (
 some false
 )
 )
 ) else (
 Option.bind (idxG t_.Nodes x11) fun x16 =>
 bif (io.lt 0 (io.len (W eIi64 x16.Kids))) then (
 Option.bind (idxG t_.Nodes x11) fun x17 =>
 some (io.le x17.Attr n.Attr)
 ) else (
 some false
 )
 )
 )
 )
 ) fun v12 =>
 bif v12 then (
 some (.inr (.inr false))
 ) else (
 some (.inl (io.ar .add .i64 v10 1))
 )
 ) else (
 some (.inr (.inl ()))
 )
noncomputable def table_formed_g (t_ : Table) (n : Node) : Option (Bool) :=
 bif (io.eq (io.len (W eIi64 n.Kids)) 0) then (
 bif (io.eq (io.len (W eIi64 n.Cuts)) 0) then (
 bif (io.eq n.Attr 0) then (
 bif (io.le 0 n.Leaf) then (
 some (io.lt n.Leaf (io.len (W eDecision t_.Leaves)))
 ) else (
 some false
 )
 ) else (
 some false
 )
 ) else (
 some false
 )
 ) else (
 Option.bind (
 bif (io.lt n.Attr 0) then (
 some true
 ) else (
 bif (io.le 10 n.Attr) then (
 some true
 ) else (
 bif (io.not (io.eq n.Leaf 0)) then (
 some true
 ) else (
 bif (io.eq (io.len (W eIi64 n.Cuts)) 0) then (
 some true
 ) else (
 some (io.not (io.eq (io.len (W eIi64 n.Kids)) (io.ar .add .i64 (io.len (W eIi64 n.Cuts)) 1)))
 )
 )
 )
 )
 ) fun v1 =>
 bif v1 then (
 some false
 ) else (
 Option.bind (
 Option.bind (resolve_Limits_g) fun v4 =>
 Option.bind (pixG 10 n.Attr) fun i5 =>
 some ((v4.get i5).Lo, (v4.get i5).Hi)
 ) fun (Lo2, Hi3) =>
 orR (
 whileG (table_formed_l2 n Hi3) (Lo2, 0)
 ) fun _ =>
 orR (
 whileG (table_formed_l4 n t_) 0
 ) fun _ =>
 some true
 )
 )
end Go.SX.Td
namespace Go.SX.Td
open Go Go.SX Go.Proofs
set_option maxRecDepth 100000
noncomputable def walkV_l1 (x4 : Node) (rec : (Int → (List (Int × Bool)) → Int → Option ((List (Int × Bool)) × Int))) : ((List (Int × Bool)) × Int × Int) → Option (((List (Int × Bool)) × Int × Int) ⊕ ((List (Int × Bool)) × Int))
 | (own5, c6, v7) =>
  bif (io.lt v7 (io.len (W eIi64 x4.Kids))) then (
   Option.bind (
    Option.bind (idxG x4.Kids v7) fun x10 =>
    Option.bind (rec x10 own5 c6) fun r11 =>
    some (r11.1, r11.2)
    ) fun (own8, c9) =>
   some (.inl (own8, c9, (io.ar .add .i64 v7 1)))
  ) else (
   some (.inr (own5, c6))
  )
noncomputable def walkV_b (nodes : (List Node)) (rec : (Int → (List (Int × Bool)) → Int → Option ((List (Int × Bool)) × Int))) (at0 : Int) (seen : (List (Int × Bool))) (nxt : Int) : Option ((List (Int × Bool)) × Int) :=
 Option.bind (some (mlookD seen at0 false)) fun y1 =>
 bif y1 then (
  some (seen, nxt)
 ) else (
  Option.bind (some (mputG seen at0 true)) fun m2 =>
  Option.bind (
   bif (io.eq at0 nxt) then (
    some (io.ar .add .i64 nxt 1)
   ) else (
    some nxt
   )
   ) fun c3 =>
  Option.bind (idxG nodes at0) fun x4 =>
  whileG (walkV_l1 x4 rec) (m2, c3, 0)
 )
noncomputable def walkV (nodes : (List Node)) : Nat → Int → (List (Int × Bool)) → Int → Option ((List (Int × Bool)) × Int)
 | 0, _, _, _ => none
 | n + 1, at0, seen, nxt => walkV_b nodes (walkV nodes n) at0 seen nxt
end Go.SX.Td
