/- Parts of the proof. -/
import Derived.Test.YtllbabjgpdmblaaDoorZTdT
import Derived.Test.YtllbabjgpdmblaaDoorZTd17
import Derived.Test.YtllbabjgpdmblaaDoorZTd22
import Derived.Test.YtllbabjgpdmblaaDoorZTdSort
set_option linter.unusedSimpArgs false
set_option linter.unusedVariables false
set_option linter.unusedSectionVars false
namespace Go.SX.Td
open Go Go.SX Go.Proofs
set_option maxRecDepth 100000
noncomputable def law14_TableAsked_l26 (x12 : Node) (f : (A10 Int)) : Int → Option ((Int) ⊕ (Int))
 | k14 =>
 Option.bind (
 bif (io.lt k14 (io.len (W eIi64 x12.Cuts))) then (
 Option.bind (idxG x12.Cuts k14) fun x16 =>
 Option.bind (pixG 10 x12.Attr) fun i17 =>
 some (io.le x16 (f.get i17))
 ) else (
 some false
 )
 ) fun v15 =>
 bif v15 then (
 some (.inl (io.ar .add .i64 k14 1))
 ) else (
 some (.inr k14)
 )
noncomputable def law14_TableAsked_l22 (v3 : Table × Int) (f : (A10 Int)) : ((A10 Int) × Int × Int) → Option (((A10 Int) × Int × Int) ⊕ (((A10 Int)) ⊕ (Bool)))
 | (g5, at6, i7) =>
 Option.bind (
 bif (io.le i7 10) then (
 bif (io.le 0 at6) then (
 bif (io.lt at6 (io.len (W eNode v3.1.Nodes))) then (
 Option.bind (idxG v3.1.Nodes at6) fun x9 =>
 some (io.lt 0 (io.len (W eIi64 x9.Kids)))
 ) else (
 some false
 )
 ) else (
 some false
 )
 ) else (
 some false
 )
 ) fun v8 =>
 bif v8 then (
 orR (
 Option.bind (idxG v3.1.Nodes at6) fun x12 =>
 Option.bind (
 whileG (law14_TableAsked_l26 x12 f) 0
 ) fun k13 =>
 bif (io.le (io.len (W eIi64 x12.Kids)) k13) then (
 some (.inr (.inr (.inr false)))
 ) else (
 Option.bind (
 Option.bind (pixG 10 x12.Attr) fun i19 =>
 some (g5.put i19 (f.get i19))
 ) fun g18 =>
 Option.bind (
 bif (io.lt 0 k13) then (
 Option.bind (idxG x12.Cuts (io.ar .sub .i64 k13 1)) fun x21 =>
 Option.bind (pixG 10 x12.Attr) fun i22 =>
 some (g18.put i22 x21)
 ) else (
 some g18
 )
 ) fun g20 =>
 Option.bind (idxG x12.Kids k13) fun x23 =>
 some (.inl (g20, x23))
 )
 ) fun (g10, at11) =>
 some (.inl (g10, at11, (io.ar .add .i64 i7 1)))
 ) else (
 some (.inr (.inl g5))
 )
noncomputable def law14_TableAsked_g (p : Policy) (f : (A10 Int)) (other : (A10 Int)) : Option (Bool) :=
 Option.bind (law14_head_g) fun up1 =>
 Option.bind (ref14_Few_g p) fun v2 =>
 bif (io.not v2) then (
 some up1
 ) else (
 Option.bind (table_Build_g p) fun v3 =>
 bif (io.not (io.eq v3.2 0)) then (
 some up1
 ) else (
 orR (
 whileG (law14_TableAsked_l22 v3 f) (other, 0, 0)
 ) fun g4 =>
 bif up1 then (
 Option.bind (table_Lookup_g v3.1 f) fun v24 =>
 Option.bind (table_Lookup_g v3.1 g4) fun v25 =>
 some (qDecision v24 v25)
 ) else (
 some false
 )
 )
 )
end Go.SX.Td
