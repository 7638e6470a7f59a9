/- Parts of the proof. -/
import Derived.Test.YtllbabjgpdmblaaDoorZTdT
set_option linter.unusedSimpArgs false
set_option linter.unusedVariables false
set_option linter.unusedSectionVars false
namespace Go.SX.Td
open Go Go.SX Go.Proofs
set_option maxRecDepth 100000
noncomputable def ref15_Less_l2 (f:(A10 Int))(g:(A10 Int)):Int→Option ((Int) ⊕ ((Unit) ⊕ (Bool)))
 | i1 =>
 bif (io.lt i1 10) then (
 Option.bind (
 Option.bind (pixG 10 i1) fun i3 =>
 some (io.not (io.eq (f.get i3) (g.get i3)))
 ) fun v2 =>
 bif v2 then (
 Option.bind (pixG 10 i1) fun i4 =>
 some (.inr (.inr (io.lt (f.get i4) (g.get i4))))
 ) else (
 some (.inl (io.ar .add .i64 i1 1))
 )
 ) else (
 some (.inr (.inl ()))
 )
noncomputable def ref15_Less_g (f:(A10 Int))(g:(A10 Int)):Option (Bool) :=
 orR (
 whileG (ref15_Less_l2 f g) 0
 ) fun _ =>
 some false
end Go.SX.Td
