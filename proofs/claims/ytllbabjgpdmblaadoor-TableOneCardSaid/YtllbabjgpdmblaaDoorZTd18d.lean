/- Parts of the proof. -/
import Derived.Test.YtllbabjgpdmblaaDoorZTdT
import Derived.Test.YtllbabjgpdmblaaDoorZTdCompact
set_option linter.unusedSimpArgs false
set_option linter.unusedVariables false
set_option linter.unusedSectionVars false
namespace Go.SX.Td
open Go Go.SX Go.Proofs
set_option maxRecDepth 100000
noncomputable def ref14_Within_l2 (f:(A10 Int))(v1:(A10 Range)):Int→Option ((Int) ⊕ ((Unit) ⊕ (Bool)))
 | i2 =>
 bif (io.lt i2 10) then (
 Option.bind (
 Option.bind (pixG 10 i2) fun i4 =>
 bif (io.lt (f.get i4) (v1.get i4).Lo) then (
 some true
 ) else (
 some (io.lt (v1.get i4).Hi (f.get i4))
 )
 ) fun v3 =>
 bif v3 then (
 some (.inr (.inr false))
 ) else (
 some (.inl (io.ar .add .i64 i2 1))
 )
 ) else (
 some (.inr (.inl ()))
 )
noncomputable def ref14_Within_g (f:(A10 Int)):Option (Bool) :=
 Option.bind (ref12_Limits_g) fun v1 =>
 orR (
 whileG (ref14_Within_l2 f v1) 0
 ) fun _ =>
 some true
end Go.SX.Td
