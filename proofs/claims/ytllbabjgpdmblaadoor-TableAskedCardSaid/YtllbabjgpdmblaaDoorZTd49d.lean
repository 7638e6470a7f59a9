/- Parts of the proof. -/
import Derived.Test.YtllbabjgpdmblaaDoorZTdT
set_option linter.unusedSimpArgs false
set_option linter.unusedVariables false
set_option linter.unusedSectionVars false
namespace Go.SX.Td
open Go Go.SX Go.Proofs
set_option maxRecDepth 100000
noncomputable def decide_Holds_l26 (f : (A10 Int)) (x3 : (A10 Range)) : Int → Option ((Int) ⊕ ((Unit) ⊕ (Bool)))
 | v4 =>
 bif (io.lt v4 10) then (
 Option.bind (
 Option.bind (pixG 10 v4) fun i6 =>
 some (f.get i6)
 ) fun n5 =>
 Option.bind (
 Option.bind (pixG 10 v4) fun ix8 =>
 bif (io.lt n5 (x3.get ix8).Lo) then (
 some true
 ) else (
 some (io.lt (x3.get ix8).Hi n5)
 )
 ) fun v7 =>
 bif v7 then (
 some (.inr (.inr false))
 ) else (
 some (.inl (io.ar .add .i64 v4 1))
 )
 ) else (
 some (.inr (.inl ()))
 )
noncomputable def decide_Holds_l22 (r_ : Rule) (f : (A10 Int)) : Int → Option ((Int) ⊕ ((Unit) ⊕ (Bool)))
 | v1 =>
 bif (io.lt v1 (io.len (W eA10Range r_.Zones))) then (
 Option.bind (
 Option.bind (idxG r_.Zones v1) fun x3 =>
 orR (
 whileG (decide_Holds_l26 f x3) 0
 ) fun _ =>
 some true
 ) fun v2 =>
 bif v2 then (
 some (.inr (.inr (io.le 0 v1)))
 ) else (
 some (.inl (io.ar .add .i64 v1 1))
 )
 ) else (
 some (.inr (.inl ()))
 )
noncomputable def decide_Holds_g (r_ : Rule) (f : (A10 Int)) : Option (Bool) :=
 orR (
 whileG (decide_Holds_l22 r_ f) 0
 ) fun _ =>
 some (io.le 0 (-1))
end Go.SX.Td
namespace Go.SX.Td
open Go Go.SX Go.Proofs
set_option maxRecDepth 100000
noncomputable def decide_Decide_l2 (p : Policy) (f : (A10 Int)) : (Bool × Bool × Int × Int × Int × Int × Int × Int × Int × Int × Int × Int × Int × Int × Bool × Bool × Bool × Int × Int × Int) → Option ((Bool × Bool × Int × Int × Int × Int × Int × Int × Int × Int × Int × Int × Int × Int × Bool × Bool × Bool × Int × Int × Int) ⊕ (Bool × Bool × Int × Int × Int × Int × Int × Int × Int × Int × Int × Int × Int × Int × Bool × Bool × Bool × Int × Int))
 | (Together20, Single21, Limit22, Price23, Num24, Den25, Num26, Den27, Num28, Den29, Num30, Den31, Num32, Den33, priced34, sold35, back36, allowed37, denied38, v39) =>
 bif (io.lt v39 (io.len (W eRule p.Rules))) then (
 Option.bind (
 Option.bind (idxG p.Rules v39) fun x59 =>
 bif (io.eq x59.Kind 1) then (
 Option.bind (
 Option.bind (decide_Holds_g x59 f) fun v61 =>
 some v61
 ) fun v60 =>
 bif v60 then (
 Option.bind (
 bif (io.lt allowed37 0) then (
 some v39
 ) else (
 some allowed37
 )
 ) fun allowed62 =>
 Option.bind (
 bif (io.lt 0 x59.N) then (
 bif (io.eq Limit22 0) then (
 some true
 ) else (
 some (io.lt x59.N Limit22)
 )
 ) else (
 some false
 )
 ) fun v63 =>
 bif v63 then (
 some (Together20, Single21, x59.N, Price23, Num24, Den25, Num26, Den27, Num28, Den29, Num30, Den31, Num32, Den33, priced34, sold35, back36, allowed62, denied38)
 ) else (
 some (Together20, Single21, Limit22, Price23, Num24, Den25, Num26, Den27, Num28, Den29, Num30, Den31, Num32, Den33, priced34, sold35, back36, allowed62, denied38)
 )
 ) else (
 some (Together20, Single21, Limit22, Price23, Num24, Den25, Num26, Den27, Num28, Den29, Num30, Den31, Num32, Den33, priced34, sold35, back36, allowed37, denied38)
 )
 ) else (
 bif (io.eq x59.Kind 2) then (
 Option.bind (
 Option.bind (decide_Holds_g x59 f) fun v65 =>
 some v65
 ) fun v64 =>
 bif v64 then (
 bif (io.lt denied38 0) then (
 some (Together20, Single21, Limit22, Price23, Num24, Den25, Num26, Den27, Num28, Den29, Num30, Den31, Num32, Den33, priced34, sold35, back36, allowed37, v39)
 ) else (
 some (Together20, Single21, Limit22, Price23, Num24, Den25, Num26, Den27, Num28, Den29, Num30, Den31, Num32, Den33, priced34, sold35, back36, allowed37, denied38)
 )
 ) else (
 some (Together20, Single21, Limit22, Price23, Num24, Den25, Num26, Den27, Num28, Den29, Num30, Den31, Num32, Den33, priced34, sold35, back36, allowed37, denied38)
 )
 ) else (
 bif (io.eq x59.Kind 3) then (
 Option.bind (
 Option.bind (decide_Holds_g x59 f) fun v67 =>
 some v67
 ) fun v66 =>
 bif v66 then (
 bif (io.not priced34) then (
 some (Together20, Single21, Limit22, x59.N, x59.R.Num, x59.R.Den, x59.S.Num, x59.S.Den, Num28, Den29, Num30, Den31, Num32, Den33, true, sold35, back36, allowed37, denied38)
 ) else (
 some (Together20, Single21, Limit22, Price23, Num24, Den25, Num26, Den27, Num28, Den29, Num30, Den31, Num32, Den33, priced34, sold35, back36, allowed37, denied38)
 )
 ) else (
 some (Together20, Single21, Limit22, Price23, Num24, Den25, Num26, Den27, Num28, Den29, Num30, Den31, Num32, Den33, priced34, sold35, back36, allowed37, denied38)
 )
 ) else (
 bif (io.eq x59.Kind 4) then (
 Option.bind (
 Option.bind (decide_Holds_g x59 f) fun v69 =>
 some v69
 ) fun v68 =>
 bif v68 then (
 bif (io.not sold35) then (
 some (Together20, Single21, Limit22, Price23, Num24, Den25, Num26, Den27, x59.R.Num, x59.R.Den, x59.S.Num, x59.S.Den, Num32, Den33, priced34, true, back36, allowed37, denied38)
 ) else (
 some (Together20, Single21, Limit22, Price23, Num24, Den25, Num26, Den27, Num28, Den29, Num30, Den31, Num32, Den33, priced34, sold35, back36, allowed37, denied38)
 )
 ) else (
 some (Together20, Single21, Limit22, Price23, Num24, Den25, Num26, Den27, Num28, Den29, Num30, Den31, Num32, Den33, priced34, sold35, back36, allowed37, denied38)
 )
 ) else (
 bif (io.eq x59.Kind 5) then (
 Option.bind (
 Option.bind (decide_Holds_g x59 f) fun v71 =>
 some v71
 ) fun v70 =>
 bif v70 then (
 bif (io.not back36) then (
 some (Together20, Single21, Limit22, Price23, Num24, Den25, Num26, Den27, Num28, Den29, Num30, Den31, x59.R.Num, x59.R.Den, priced34, sold35, true, allowed37, denied38)
 ) else (
 some (Together20, Single21, Limit22, Price23, Num24, Den25, Num26, Den27, Num28, Den29, Num30, Den31, Num32, Den33, priced34, sold35, back36, allowed37, denied38)
 )
 ) else (
 some (Together20, Single21, Limit22, Price23, Num24, Den25, Num26, Den27, Num28, Den29, Num30, Den31, Num32, Den33, priced34, sold35, back36, allowed37, denied38)
 )
 ) else (
 bif (io.eq x59.Kind 6) then (
 Option.bind (
 Option.bind (decide_Holds_g x59 f) fun v73 =>
 some v73
 ) fun v72 =>
 bif v72 then (
 some (true, Single21, Limit22, Price23, Num24, Den25, Num26, Den27, Num28, Den29, Num30, Den31, Num32, Den33, priced34, sold35, back36, allowed37, denied38)
 ) else (
 some (Together20, Single21, Limit22, Price23, Num24, Den25, Num26, Den27, Num28, Den29, Num30, Den31, Num32, Den33, priced34, sold35, back36, allowed37, denied38)
 )
 ) else (
 bif (io.eq x59.Kind 7) then (
 Option.bind (
 Option.bind (decide_Holds_g x59 f) fun v75 =>
 some v75
 ) fun v74 =>
 bif v74 then (
 some (Together20, true, Limit22, Price23, Num24, Den25, Num26, Den27, Num28, Den29, Num30, Den31, Num32, Den33, priced34, sold35, back36, allowed37, denied38)
 ) else (
 some (Together20, Single21, Limit22, Price23, Num24, Den25, Num26, Den27, Num28, Den29, Num30, Den31, Num32, Den33, priced34, sold35, back36, allowed37, denied38)
 )
 ) else (
 Option.bind (
 some ()
 ) fun _ =>
 some (Together20, Single21, Limit22, Price23, Num24, Den25, Num26, Den27, Num28, Den29, Num30, Den31, Num32, Den33, priced34, sold35, back36, allowed37, denied38)
 )
 )
 )
 )
 )
 )
 )
 ) fun (Together40, Single41, Limit42, Price43, Num44, Den45, Num46, Den47, Num48, Den49, Num50, Den51, Num52, Den53, priced54, sold55, back56, allowed57, denied58) =>
 some (.inl (Together40, Single41, Limit42, Price43, Num44, Den45, Num46, Den47, Num48, Den49, Num50, Den51, Num52, Den53, priced54, sold55, back56, allowed57, denied58, (io.ar .add .i64 v39 1)))
 ) else (
 some (.inr (Together20, Single21, Limit22, Price23, Num24, Den25, Num26, Den27, Num28, Den29, Num30, Den31, Num32, Den33, priced34, sold35, back36, allowed37, denied38))
 )
noncomputable def decide_Decide_g (p : Policy) (f : (A10 Int)) : Option (Decision) :=
 Option.bind (
 whileG (decide_Decide_l2 p f) (false, false, 0, 0, 0, 1, 0, 1, 0, 1, 0, 1, 0, 1, false, false, false, (-1), (-1), 0)
 ) fun (Together1, Single2, Limit3, Price4, Num5, Den6, Num7, Den8, Num9, Den10, Num11, Den12, Num13, Den14, priced15, sold16, back17, allowed18, denied19) =>
 Option.bind (
 bif (io.le 0 allowed18) then (
 bif priced15 then (
 some (io.lt denied19 0)
 ) else (
 some false
 )
 ) else (
 some false
 )
 ) fun Allowed76 =>
 Option.bind (
 bif (io.le 0 denied19) then (
 some denied19
 ) else (
 some allowed18
 )
 ) fun By77 =>
 some (Decision.mk Allowed76 Together1 Single2 Limit3 Price4 (Ratio.mk Num5 Den6) (Ratio.mk Num7 Den8) (Ratio.mk Num9 Den10) (Ratio.mk Num11 Den12) (Ratio.mk Num13 Den14) By77)
end Go.SX.Td
namespace Go.SX.Td
open Go Go.SX Go.Proofs
set_option maxRecDepth 100000
noncomputable def decide_numbers_g (r_ : Rule) : Option (Bool) :=
 bif (io.eq r_.Kind 1) then (
 bif (io.le 0 r_.N) then (
 some (io.le r_.N 100)
 ) else (
 some false
 )
 ) else (
 bif (io.eq r_.Kind 3) then (
 bif (io.le 0 r_.N) then (
 bif (io.le r_.N 10000000) then (
 bif (io.le 1 r_.R.Den) then (
 bif (io.le r_.R.Den 1000000) then (
 bif (io.le 0 r_.R.Num) then (
 bif (io.le r_.R.Num (io.ar .mul .i64 1 r_.R.Den)) then (
 bif (io.le r_.R.Num 1000000) then (
 bif (io.le 1 r_.S.Den) then (
 bif (io.le r_.S.Den 1000000) then (
 bif (io.le 0 r_.S.Num) then (
 bif (io.le r_.S.Num (io.ar .mul .i64 1 r_.S.Den)) then (
 some (io.le r_.S.Num 1000000)
 ) else (
 some false
 )
 ) else (
 some false
 )
 ) else (
 some false
 )
 ) else (
 some false
 )
 ) else (
 some false
 )
 ) else (
 some false
 )
 ) else (
 some false
 )
 ) else (
 some false
 )
 ) else (
 some false
 )
 ) else (
 some false
 )
 ) else (
 some false
 )
 ) else (
 bif (io.eq r_.Kind 4) then (
 bif (io.le 1 r_.R.Den) then (
 bif (io.le r_.R.Den 1000000) then (
 bif (io.le 0 r_.R.Num) then (
 bif (io.le r_.R.Num (io.ar .mul .i64 10 r_.R.Den)) then (
 bif (io.le r_.R.Num 1000000) then (
 bif (io.le 1 r_.S.Den) then (
 bif (io.le r_.S.Den 1000000) then (
 bif (io.le 0 r_.S.Num) then (
 bif (io.le r_.S.Num (io.ar .mul .i64 1 r_.S.Den)) then (
 some (io.le r_.S.Num 1000000)
 ) else (
 some false
 )
 ) else (
 some false
 )
 ) else (
 some false
 )
 ) else (
 some false
 )
 ) else (
 some false
 )
 ) else (
 some false
 )
 ) else (
 some false
 )
 ) else (
 some false
 )
 ) else (
 some false
 )
 ) else (
 bif (io.eq r_.Kind 5) then (
 bif (io.le 1 r_.R.Den) then (
 bif (io.le r_.R.Den 1000000) then (
 bif (io.le 0 r_.R.Num) then (
 bif (io.le r_.R.Num (io.ar .mul .i64 1 r_.R.Den)) then (
 some (io.le r_.R.Num 1000000)
 ) else (
 some false
 )
 ) else (
 some false
 )
 ) else (
 some false
 )
 ) else (
 some false
 )
 ) else (
 Option.bind (
 bif (io.eq r_.Kind 2) then (
 some (io.eq r_.Kind 2)
 ) else (
 bif (io.eq r_.Kind 6) then (
 some (io.eq r_.Kind 6)
 ) else (
 some (io.eq r_.Kind 7)
 )
 )
 ) fun v1 =>
 bif v1 then (
 some true
 ) else (
 some false
 )
 )
 )
 )
 )
end Go.SX.Td
namespace Go.SX.Td
open Go Go.SX Go.Proofs
set_option maxRecDepth 100000
noncomputable def resolve_Limits_g : Option ((A10 Range)) :=
 some (A10.mk (Range.mk 0 1000000000) (Range.mk 0 150) (Range.mk 0 1) (Range.mk 0 19) (Range.mk 0 7) (Range.mk 0 319) (Range.mk 0 3) (Range.mk 0 3) (Range.mk 1 12) (Range.mk 0 100))
end Go.SX.Td
namespace Go.SX.Td
open Go Go.SX Go.Proofs
set_option maxRecDepth 100000
noncomputable def decide_within_l2 (z_ : (A10 Range)) (v1 : (A10 Range)) : Int → Option ((Int) ⊕ ((Unit) ⊕ (Bool)))
 | v2 =>
 bif (io.lt v2 10) then (
 Option.bind (
 Option.bind (pixG 10 v2) fun i5 =>
 some ((z_.get i5).Lo, (z_.get i5).Hi)
 ) fun (Lo3, Hi4) =>
 Option.bind (
 bif (io.lt Hi4 Lo3) then (
 some true
 ) else (
 Option.bind (pixG 10 v2) fun i7 =>
 bif (io.lt Lo3 (v1.get i7).Lo) then (
 some true
 ) else (
 some (io.lt (v1.get i7).Hi Hi4)
 )
 )
 ) fun v6 =>
 bif v6 then (
 some (.inr (.inr false))
 ) else (
 some (.inl (io.ar .add .i64 v2 1))
 )
 ) else (
 some (.inr (.inl ()))
 )
noncomputable def decide_within_g (z_ : (A10 Range)) : Option (Bool) :=
 Option.bind (resolve_Limits_g) fun v1 =>
 orR (
 whileG (decide_within_l2 z_ v1) 0
 ) fun _ =>
 some true
end Go.SX.Td
namespace Go.SX.Td
open Go Go.SX Go.Proofs
set_option maxRecDepth 100000
noncomputable def decide_Valid_l26 (x6 : Rule) (m8 : (List (ByteArray × Bool))) : Int → Option ((Int) ⊕ ((Unit) ⊕ ((List (ByteArray × Bool)) × Bool)))
 | v10 =>
 bif (io.lt v10 (io.len (W eA10Range x6.Zones))) then (
 Option.bind (
 Option.bind (idxG x6.Zones v10) fun x12 =>
 Option.bind (decide_within_g x12) fun v13 =>
 some (io.not v13)
 ) fun v11 =>
 bif v11 then (
 some (.inr (.inr (m8, (io.le 0 v10))))
 ) else (
 some (.inl (io.ar .add .i64 v10 1))
 )
 ) else (
 some (.inr (.inl ()))
 )
noncomputable def decide_Valid_l22 (p : Policy) : ((List (ByteArray × Bool)) × Int) → Option (((List (ByteArray × Bool)) × Int) ⊕ (((List (ByteArray × Bool))) ⊕ (Bool)))
 | (own2, v3) =>
 bif (io.lt v3 (io.len (W eRule p.Rules))) then (
 Option.bind (
 Option.bind (idxG p.Rules v3) fun x6 =>
 Option.bind (some (mlookD own2 x6.Name false)) fun y7 =>
 Option.bind (some (mputG own2 x6.Name true)) fun m8 =>
 bif y7 then (
 some (m8, true)
 ) else (
 Option.bind (decide_numbers_g x6) fun v9 =>
 bif (io.not v9) then (
 some (m8, true)
 ) else (
 bif (io.lt 200 (io.len (W eA10Range x6.Zones))) then (
 some (m8, true)
 ) else (
 orR (
 whileG (decide_Valid_l26 x6 m8) 0
 ) fun _ =>
 some (m8, (io.le 0 (-1)))
 )
 )
 )
 ) fun (own4, v5) =>
 bif v5 then (
 some (.inr (.inr (io.not (io.le 0 v3))))
 ) else (
 some (.inl (own4, (io.ar .add .i64 v3 1)))
 )
 ) else (
 some (.inr (.inl own2))
 )
noncomputable def decide_Valid_g (p : Policy) : Option (Bool) :=
 bif (io.le (io.len (W eRule p.Rules)) 200) then (
 orR (
 whileG (decide_Valid_l22 p) ([], 0)
 ) fun own1 =>
 some (io.not (io.le 0 (-1)))
 ) else (
 some false
 )
end Go.SX.Td
namespace Go.SX.Td
open Go Go.SX Go.Proofs
set_option maxRecDepth 100000
def c60r0 : List GOp := [
 gv 2 (.box 34 (.tmp 0)),
 gv 4 (.mv (.const (.bool false)))]
def c60r1 : List GOp := [
 gv 5 (.fadd 1 (.tmp 2)),
 gv 6 (.load 1 false (.tmp 5)),
 gv 7 (.bin .geq (.tmp 6) (.const (.int .i64 1))),
 gv 8 (.mv (.tmp 7)),
 gw 9 8 true (.fadd 1 (.tmp 2)),
 gw 10 8 true (.load 1 false (.tmp 9)),
 gw 11 8 true (.bin .leq (.tmp 10) (.const (.int .i64 1000000))),
 gv 12 (.pick (.tmp 8) (.tmp 11) (.const (.bool false))),
 gv 13 (.mv (.tmp 12)),
 gw 14 13 true (.fadd 0 (.tmp 2)),
 gw 15 13 true (.load 1 false (.tmp 14)),
 gw 16 13 true (.bin .geq (.tmp 15) (.const (.int .i64 0))),
 gv 17 (.pick (.tmp 13) (.tmp 16) (.const (.bool false))),
 gv 18 (.mv (.tmp 17)),
 gw 19 18 true (.fadd 0 (.tmp 2)),
 gw 20 18 true (.load 1 false (.tmp 19)),
 gw 21 18 true (.mv (.tmp 1)),
 gw 22 18 true (.fadd 1 (.tmp 2)),
 gw 23 18 true (.load 1 false (.tmp 22)),
 gw 24 18 true (.bin .mul (.tmp 21) (.tmp 23)),
 gw 25 18 true (.bin .leq (.tmp 20) (.tmp 24)),
 gv 26 (.pick (.tmp 18) (.tmp 25) (.const (.bool false))),
 gv 27 (.mv (.tmp 26)),
 gw 28 27 true (.fadd 0 (.tmp 2)),
 gw 29 27 true (.load 1 false (.tmp 28)),
 gw 30 27 true (.bin .leq (.tmp 29) (.const (.int .i64 1000000))),
 gv 31 (.pick (.tmp 27) (.tmp 30) (.const (.bool false))),
 gv 4 (.mv (.tmp 31))]
def c60 : EFn := ⟨32, .seq (.reg c60r0) (.seq (.reg c60r1) (.ret)), [.tmp 4]⟩
theorem c60_ok : compF Tryd.prog 60 = some c60.er := by kernel_rfl
def c32r0 : List GOp := [
 gv 1 (.box 36 (.tmp 0)),
 gv 2 (.mv (.const (.bool false)))]
def c32r1 : List GOp := [
 gv 3 (.fadd 0 (.tmp 1)),
 gv 4 (.load 1 false (.tmp 3))]
def c32r2 : List GOp := [
 gv 6 (.bin .eql (.tmp 4) (.const (.int .i64 1))),
 gv 5 (.mv (.tmp 6))]
def c32r3 : List GOp := [
 gv 7 (.fadd 3 (.tmp 1)),
 gv 8 (.load 1 false (.tmp 7)),
 gv 9 (.bin .geq (.tmp 8) (.const (.int .i64 0))),
 gv 10 (.mv (.tmp 9)),
 gw 11 10 true (.fadd 3 (.tmp 1)),
 gw 12 10 true (.load 1 false (.tmp 11)),
 gw 13 10 true (.bin .leq (.tmp 12) (.const (.int .i64 100))),
 gv 14 (.pick (.tmp 10) (.tmp 13) (.const (.bool false))),
 gv 2 (.mv (.tmp 14))]
def c32r4 : List GOp := [
 gv 16 (.bin .eql (.tmp 4) (.const (.int .i64 3))),
 gv 15 (.mv (.tmp 16))]
def c32r5 : List GOp := [
 gv 17 (.fadd 3 (.tmp 1)),
 gv 18 (.load 1 false (.tmp 17)),
 gv 19 (.bin .geq (.tmp 18) (.const (.int .i64 0))),
 gv 20 (.mv (.tmp 19)),
 gw 21 20 true (.fadd 3 (.tmp 1)),
 gw 22 20 true (.load 1 false (.tmp 21)),
 gw 23 20 true (.bin .leq (.tmp 22) (.const (.int .i64 10000000))),
 gv 24 (.pick (.tmp 20) (.tmp 23) (.const (.bool false))),
 gv 25 (.mv (.tmp 24)),
 gw 26 25 true (.fadd 4 (.tmp 1)),
 gw 27 25 true (.load 2 true (.tmp 26)),
 gw 28 25 true (.call 60 [(.tmp 27), (.const (.int .i64 1))]),
 gv 29 (.pick (.tmp 25) (.tmp 28) (.const (.bool false))),
 gv 30 (.mv (.tmp 29)),
 gw 31 30 true (.fadd 6 (.tmp 1)),
 gw 32 30 true (.load 2 true (.tmp 31)),
 gw 33 30 true (.call 60 [(.tmp 32), (.const (.int .i64 1))]),
 gv 34 (.pick (.tmp 30) (.tmp 33) (.const (.bool false))),
 gv 2 (.mv (.tmp 34))]
def c32r6 : List GOp := [
 gv 36 (.bin .eql (.tmp 4) (.const (.int .i64 4))),
 gv 35 (.mv (.tmp 36))]
def c32r7 : List GOp := [
 gv 37 (.fadd 4 (.tmp 1)),
 gv 38 (.load 2 true (.tmp 37)),
 gv 39 (.call 60 [(.tmp 38), (.const (.int .i64 10))]),
 gv 40 (.mv (.tmp 39)),
 gw 41 40 true (.fadd 6 (.tmp 1)),
 gw 42 40 true (.load 2 true (.tmp 41)),
 gw 43 40 true (.call 60 [(.tmp 42), (.const (.int .i64 1))]),
 gv 44 (.pick (.tmp 40) (.tmp 43) (.const (.bool false))),
 gv 2 (.mv (.tmp 44))]
def c32r8 : List GOp := [
 gv 46 (.bin .eql (.tmp 4) (.const (.int .i64 5))),
 gv 45 (.mv (.tmp 46))]
def c32r9 : List GOp := [
 gv 47 (.fadd 4 (.tmp 1)),
 gv 48 (.load 2 true (.tmp 47)),
 gv 49 (.call 60 [(.tmp 48), (.const (.int .i64 1))]),
 gv 2 (.mv (.tmp 49))]
def c32r10 : List GOp := [
 gv 51 (.bin .eql (.tmp 4) (.const (.int .i64 2))),
 gv 50 (.mv (.tmp 51))]
def c32r11 : List GOp := [
 gv 52 (.bin .eql (.tmp 4) (.const (.int .i64 6))),
 gv 50 (.mv (.tmp 52))]
def c32r12 : List GOp := [
 gv 53 (.bin .eql (.tmp 4) (.const (.int .i64 7))),
 gv 50 (.mv (.tmp 53))]
def c32r13 : List GOp := [
 gv 2 (.mv (.const (.bool true)))]
def c32r14 : List GOp := [
 gv 2 (.mv (.const (.bool false)))]
def c32 : EFn := ⟨54, .seq (.reg c32r0) (.seq (.seq (.reg c32r1) (.block 0 (.seq (.reg c32r2) (.cond (.tmp 5) (.seq (.reg c32r3) (.ret)) (.seq (.reg c32r4) (.cond (.tmp 15) (.seq (.reg c32r5) (.ret)) (.seq (.reg c32r6) (.cond (.tmp 35) (.seq (.reg c32r7) (.ret)) (.seq (.reg c32r8) (.cond (.tmp 45) (.seq (.reg c32r9) (.ret)) (.join (.seq (.reg c32r10) (.cond (.tmp 50) (.skip) (.seq (.reg c32r11) (.cond (.tmp 50) (.skip) (.reg c32r12))))) (.cond (.tmp 50) (.seq (.reg c32r13) (.ret)) (.skip))))))))))))) (.seq (.reg c32r14) (.ret))), [.tmp 2]⟩
theorem c32_ok : compF Tryd.prog 32 = some c32.er := by kernel_rfl
set_option maxHeartbeats 4000000 in
theorem decide_numbers_R {P : Program} (hP : P = Tryd.prog) (r_ : Rule) (r : Bool) (h : decide_numbers_g r_ = some r) : Fn1 P 32 [vRule r_] (vB r) := by
 refine .walkE (hP ▸ c32_ok) fun K hK => ?_;unfold decide_numbers_g at h;cbv;refine brkG h ?_ ?_ <;> intro h
 ·cbv;refine brkG h ?_ ?_ <;> intro h
  ·cbv;obtain rfl := oj h;exact hK _ _ aw_
  ·cbv;obtain rfl := oj h;exact hK _ _ aw_
 ·cbv;refine brkG h ?_ ?_ <;> intro h
  ·cbv;refine brkG h ?_ ?_ <;> intro h
   ·cbv;refine brkG h ?_ ?_ <;> intro h
    ·cbv;refine .inl (hP ▸ c60_ok) ?_;cbv;refine brkG h ?_ ?_ <;> intro h
     ·cbv;refine brkG h ?_ ?_ <;> intro h
      ·cbv;refine brkG h ?_ ?_ <;> intro h
       ·cbv;refine brkG h ?_ ?_ <;> intro h
        ·cbv;refine brkG h ?_ ?_ <;> intro h
         ·cbv;refine .inl (hP ▸ c60_ok) ?_;cbv;refine brkG h ?_ ?_ <;> intro h
          ·cbv;refine brkG h ?_ ?_ <;> intro h
           ·cbv;refine brkG h ?_ ?_ <;> intro h
            ·cbv;refine brkG h ?_ ?_ <;> intro h
             ·cbv;obtain rfl := oj h;exact hK _ _ aw_
             ·cbv;obtain rfl := oj h;exact hK _ _ aw_
            ·cbv;obtain rfl := oj h;exact hK _ _ aw_
           ·cbv;obtain rfl := oj h;exact hK _ _ aw_
          ·cbv;obtain rfl := oj h;exact hK _ _ aw_
         ·cbv;obtain rfl := oj h;exact hK _ _ aw_
        ·cbv;obtain rfl := oj h;exact hK _ _ aw_
       ·cbv;obtain rfl := oj h;exact hK _ _ aw_
      ·cbv;obtain rfl := oj h;exact hK _ _ aw_
     ·cbv;obtain rfl := oj h;exact hK _ _ aw_
    ·cbv;obtain rfl := oj h;exact hK _ _ aw_
   ·cbv;obtain rfl := oj h;exact hK _ _ aw_
  ·cbv;refine brkG h ?_ ?_ <;> intro h
   ·cbv;refine .inl (hP ▸ c60_ok) ?_;cbv;refine brkG h ?_ ?_ <;> intro h
    ·cbv;refine brkG h ?_ ?_ <;> intro h
     ·cbv;refine brkG h ?_ ?_ <;> intro h
      ·cbv;refine brkG h ?_ ?_ <;> intro h
       ·cbv;refine brkG h ?_ ?_ <;> intro h
        ·cbv;refine .inl (hP ▸ c60_ok) ?_;cbv;refine brkG h ?_ ?_ <;> intro h
         ·cbv;refine brkG h ?_ ?_ <;> intro h
          ·cbv;refine brkG h ?_ ?_ <;> intro h
           ·cbv;refine brkG h ?_ ?_ <;> intro h
            ·cbv;obtain rfl := oj h;exact hK _ _ aw_
            ·cbv;obtain rfl := oj h;exact hK _ _ aw_
           ·cbv;obtain rfl := oj h;exact hK _ _ aw_
          ·cbv;obtain rfl := oj h;exact hK _ _ aw_
         ·cbv;obtain rfl := oj h;exact hK _ _ aw_
        ·cbv;obtain rfl := oj h;exact hK _ _ aw_
       ·cbv;obtain rfl := oj h;exact hK _ _ aw_
      ·cbv;obtain rfl := oj h;exact hK _ _ aw_
     ·cbv;obtain rfl := oj h;exact hK _ _ aw_
    ·cbv;obtain rfl := oj h;exact hK _ _ aw_
   ·cbv;refine brkG h ?_ ?_ <;> intro h
    ·cbv;refine .inl (hP ▸ c60_ok) ?_;cbv;refine brkG h ?_ ?_ <;> intro h
     ·cbv;refine brkG h ?_ ?_ <;> intro h
      ·cbv;refine brkG h ?_ ?_ <;> intro h
       ·cbv;refine brkG h ?_ ?_ <;> intro h
        ·cbv;obtain rfl := oj h;exact hK _ _ aw_
        ·cbv;obtain rfl := oj h;exact hK _ _ aw_
       ·cbv;obtain rfl := oj h;exact hK _ _ aw_
      ·cbv;obtain rfl := oj h;exact hK _ _ aw_
     ·cbv;obtain rfl := oj h;exact hK _ _ aw_
    ·cbv;refine .g h (fun (v1 : Bool) => rp 50 .top ++ [ob v1] ++ rp 3 .top) (fun v1 => []) (fun y hm Kn1 hKn1 => ?_) fun t h => ?_
     ·have h := hm;clear hm;cbv;refine brkG h ?_ ?_ <;> intro h
      ·cbv;obtain rfl := oj h;refine hKn1 _ _ _ rfl (.nz (.mtE [] ?_));(cbv; repeat (refine ⟨an_, ?_⟩; cbv))
      ·cbv;refine brkG h ?_ ?_ <;> intro h
       ·cbv;obtain rfl := oj h;refine hKn1 _ _ _ rfl (.nz (.mtE [] ?_));(cbv; repeat (refine ⟨an_, ?_⟩; cbv))
       ·cbv;obtain rfl := oj h;refine hKn1 _ _ _ rfl (.nz (.mtE [] ?_));(cbv; repeat (refine ⟨an_, ?_⟩; cbv))
     obtain ⟨v1, rfl⟩ := ez t;cbv;refine brkG h ?_ ?_ <;> intro h
     ·cbv;obtain rfl := oj h;exact hK _ _ aw_
     ·cbv;obtain rfl := oj h;exact hK _ _ aw_
end Go.SX.Td
namespace Go.SX.Td
open Go Go.SX Go.Proofs
set_option maxRecDepth 100000
def c26r0 : List GOp := [
 gv 0 (.alloc 57 (.agg #[oz, oz, oz, oz, oz, oz, oz, oz, oz, oz, oz, oz, oz, oz, oz, oz, oz, oz, oz, oz]))]
def c26r1 : List GOp := [
 gv 1 (.build (.agg #[oz, oz]) [((1, 1), (.const (.int .i64 1000000000)))]),
 gv 2 (.build (.agg #[oz, oz]) [((1, 1), (.const (.int .i64 150)))]),
 gv 3 (.build (.agg #[oz, oz]) [((1, 1), (.const (.int .i64 1)))]),
 gv 4 (.build (.agg #[oz, oz]) [((1, 1), (.const (.int .i64 19)))]),
 gv 5 (.build (.agg #[oz, oz]) [((1, 1), (.const (.int .i64 7)))]),
 gv 6 (.build (.agg #[oz, oz]) [((1, 1), (.const (.int .i64 319)))]),
 gv 7 (.build (.agg #[oz, oz]) [((1, 1), (.const (.int .i64 3)))]),
 gv 8 (.build (.agg #[oz, oz]) [((1, 1), (.const (.int .i64 3)))]),
 gv 9 (.build (.agg #[oz, oz]) [((0, 1), (.const (.int .i64 1))), ((1, 1), (.const (.int .i64 12)))]),
 gv 10 (.build (.agg #[oz, oz]) [((1, 1), (.const (.int .i64 100)))]),
 gv 11 (.build (.agg #[oz, oz, oz, oz, oz, oz, oz, oz, oz, oz, oz, oz, oz, oz, oz, oz, oz, oz, oz, oz]) [((0, 2), (.tmp 1)), ((2, 2), (.tmp 2)), ((4, 2), (.tmp 3)), ((6, 2), (.tmp 4)), ((8, 2), (.tmp 5)), ((10, 2), (.tmp 6)), ((12, 2), (.tmp 7)), ((14, 2), (.tmp 8)), ((16, 2), (.tmp 9)), ((18, 2), (.tmp 10))]),
 ⟨none, .store 20 (.tmp 0) (.tmp 11), none⟩]
def c26 : EFn := ⟨12, .seq (.reg c26r0) (.seq (.reg c26r1) (.ret)), [.cell 0 20 true]⟩
theorem c26_ok : compF Tryd.prog 26 = some c26.er := by kernel_rfl
set_option maxHeartbeats 4000000 in
theorem resolve_Limits_R {P : Program} (hP : P = Tryd.prog) (r : (A10 Range)) (h : resolve_Limits_g = some r) : Fn1 P 26 [] (vA10Range r) := by
 refine .walkE (hP ▸ c26_ok) fun K hK => ?_;unfold resolve_Limits_g at h;cbv;obtain rfl := oj h;exact hK _ _ aw_
end Go.SX.Td
namespace Go.SX.Td
open Go Go.SX Go.Proofs
set_option maxRecDepth 100000
def c35r0 : List GOp := [
 gv 1 (.box 57 (.tmp 0)),
 gv 2 (.mv (.const (.bool false)))]
def c35r1 : List GOp := [
 gv 6 (.call 26 []),
 gv 3 (.alloc 57 (.agg #[oz, oz, oz, oz, oz, oz, oz, oz, oz, oz, oz, oz, oz, oz, oz, oz, oz, oz, oz, oz])),
 ⟨none, .store 20 (.tmp 3) (.tmp 6), none⟩]
def c35r2 : List GOp := [
 gv 7 (.load 20 true (.tmp 1)),
 gv 8 (.mv (.const (.int .i64 0)))]
def c35r3 : List GOp := [
 gv 9 (.bin .lss (.tmp 8) (.const (.int .i64 10)))]
def c35r4 : List GOp := [
 gv 10 (.mv (.tmp 8)),
 gv 11 (.idxV 10 2 true (.tmp 7) (.tmp 8)),
 gv 5 (.alloc 55 (.agg #[oz, oz])),
 gv 4 (.mv (.tmp 10)),
 ⟨none, .store 2 (.tmp 5) (.tmp 11), none⟩]
def c35r5 : List GOp := [
 gv 12 (.fadd 0 (.tmp 5)),
 gv 13 (.load 1 false (.tmp 12)),
 gv 14 (.fadd 1 (.tmp 5)),
 gv 15 (.load 1 false (.tmp 14)),
 gv 16 (.bin .gtr (.tmp 13) (.tmp 15)),
 gv 17 (.mv (.tmp 16)),
 gw 18 17 false (.fadd 0 (.tmp 5)),
 gw 19 17 false (.load 1 false (.tmp 18)),
 gw 20 17 false (.mv (.tmp 4)),
 gw 21 17 false (.idxP 10 2 (.tmp 3) (.tmp 20)),
 gw 22 17 false (.fadd 0 (.tmp 21)),
 gw 23 17 false (.load 1 false (.tmp 22)),
 gw 24 17 false (.bin .lss (.tmp 19) (.tmp 23)),
 gv 25 (.pick (.tmp 17) (.const (.bool true)) (.tmp 24)),
 gv 26 (.mv (.tmp 25)),
 gw 27 26 false (.fadd 1 (.tmp 5)),
 gw 28 26 false (.load 1 false (.tmp 27)),
 gw 29 26 false (.mv (.tmp 4)),
 gw 30 26 false (.idxP 10 2 (.tmp 3) (.tmp 29)),
 gw 31 26 false (.fadd 1 (.tmp 30)),
 gw 32 26 false (.load 1 false (.tmp 31)),
 gw 33 26 false (.bin .gtr (.tmp 28) (.tmp 32)),
 gv 34 (.pick (.tmp 26) (.const (.bool true)) (.tmp 33))]
def c35r6 : List GOp := [
 gv 2 (.mv (.const (.bool false)))]
def c35r7 : List GOp := [
 gv 35 (.bin .add (.tmp 8) (.const (.int .i64 1))),
 gv 8 (.mv (.tmp 35))]
def c35l8 : DE := .seq (.reg c35r3) (.seq (.cond (.tmp 9) (.skip) (.exit 0)) (.seq (.block 1 (.join (.reg c35r4) (.join (.par true true true 21 c35r5) (.cond (.tmp 34) (.seq (.reg c35r6) (.ret)) (.skip))))) (.reg c35r7)))
def c35r9 : List GOp := [
 gv 2 (.mv (.const (.bool true)))]
def c35 : EFn := ⟨36, .seq (.reg c35r0) (.seq (.reg c35r1) (.join (.seq (.reg c35r2) (.block 0 (.loop c35l8))) (.seq (.reg c35r9) (.ret)))), [.tmp 2]⟩
theorem c35_ok : compF Tryd.prog 35 = some c35.er := by kernel_rfl
set_option maxHeartbeats 4000000 in
theorem decide_within_R {P : Program} (hP : P = Tryd.prog) (z_ : (A10 Range)) (r : Bool) (h : decide_within_g z_ = some r) : Fn1 P 35 [vA10Range z_] (vB r) := by
 refine .walkE (hP ▸ c35_ok) fun K hK => ?_;unfold decide_within_g at h;cbv;refine .g h (fun v hv => resolve_Limits_R hP v hv) aw_ rfl (fun _ => rfl) fun v1 h => ?_;cbv;refine .ga h (fun (_ : Unit) => rp 36 .top) (fun _ => []) (fun y hm hr1 Kn1 hKn1 => ?_) fun t h => ?_
 ·have h := hm;clear hm;cbv;refine .g h (fun (v2 : Int) => rp 3 .top ++ [.ptr 0 0] ++ rp 3 .top ++ [.agg (cR z_), oi v2] ++ rp 27 .top) (fun v2 => [.cells (cR v1) 57]) (.nz (.mtE [1] ?_)) fun s x h hr2 Kn2 hKn2 => ?_
  ·(cbv; repeat (refine ⟨an_, ?_⟩; cbv))
  unfold decide_within_l2 at h;obtain ⟨v2, rfl⟩ := ez s;cbv;refine brkG h ?_ ?_ <;> intro h
  ·cbv;refine .g h (fun ((Lo3, Hi4) : Int × Int) => rp 3 .top ++ [.ptr 0 0, oi v2, .ptr 1 0, .top, .agg (cR z_), oi v2] ++ rp 27 .top) (fun (Lo3, Hi4) => [.cells (cR v1) 57, .cells [oi Lo3, oi Hi4] 55]) (fun y hm Kn3 hKn3 => ?_) fun t h => ?_
   ·have h := hm;clear hm;cbv
    refine .c10 h ?_ ?_ ?_ ?_ ?_ ?_ ?_ ?_ ?_ ?_ <;> (
     intro hni5 h;cbv;obtain rfl := oj h;refine hKn3 _ _ _ rfl (.nz (.mtE [0, 1] ?_));(cbv; repeat (refine ⟨an_, ?_⟩; cbv))
     )
   obtain ⟨Lo3, Hi4⟩ := t;cbv;refine .g h (fun (v6 : Bool) => rp 3 .top ++ [.ptr 0 0] ++ rp 3 .top ++ [.agg (cR z_), oi v2] ++ rp 25 .top ++ [ob v6, .top]) (fun v6 => [.cells (cR v1) 57]) (fun y hm Kn3 hKn3 => ?_) fun t h => ?_
   ·have h := hm;clear hm;cbv;refine brkG h ?_ ?_ <;> intro h
    ·cbv;obtain rfl := oj h;refine hKn3 _ _ _ rfl (.nz (.mtE [0] ?_));(cbv; repeat (refine ⟨an_, ?_⟩; cbv))
    ·cbv
     refine .c10 h ?_ ?_ ?_ ?_ ?_ ?_ ?_ ?_ ?_ ?_ <;> (
      intro hni7 h;cbv;refine brkG h ?_ ?_ <;> intro h
      ·cbv;obtain rfl := oj h;refine hKn3 _ _ _ rfl (.nz (.mtE [0] ?_));(cbv; repeat (refine ⟨an_, ?_⟩; cbv))
      ·cbv;refine .at _ hni7 (by decide) ?_;cbv;obtain rfl := oj h;refine hKn3 _ _ _ rfl (.nz (.mtE [0] ?_));(cbv; repeat (refine ⟨an_, ?_⟩; cbv))
      )
   obtain ⟨v6, rfl⟩ := ez t;cbv;refine brkG h ?_ ?_ <;> intro h
   ·cbv;obtain rfl := oj h;obtain rfl := hr2 _ rfl;obtain rfl := hr1 _ rfl;exact hK _ _ aw_
   ·cbv;obtain rfl := oj h;refine hKn2 _ _ _ rfl (.nz (.mtE [0] ?_));(cbv; repeat (refine ⟨an_, ?_⟩; cbv))
  ·cbv;obtain rfl := oj h;obtain rfl := hr2 _ rfl;refine hKn1 _ _ _ rfl (.nz (.mtE [] ?_));(cbv; repeat (refine ⟨an_, ?_⟩; cbv))
 cbv;obtain rfl := oj h;exact hK _ _ aw_
end Go.SX.Td
namespace Go.SX.Td
open Go Go.SX Go.Proofs
set_option maxRecDepth 100000
def c36r0 : List GOp := [
 gv 4 (.mv (.const (.bool false)))]
def c36r1 : List GOp := [
 gv 5 (.mv (.tmp 0)),
 gv 6 (.mv (.tmp 1)),
 gv 7 (.call 62 [(.tmp 5), (.tmp 6)]),
 gv 8 (.bin .geq (.tmp 7) (.const (.int .i64 0))),
 gv 4 (.mv (.tmp 8))]
def c36 : EFn := ⟨9, .seq (.reg c36r0) (.seq (.reg c36r1) (.ret)), [.tmp 4]⟩
theorem c36_ok : compF Tryd.prog 36 = some c36.er := by kernel_rfl
def c62r0 : List GOp := [
 gv 4 (.mv (.const (.int .i64 0)))]
def c62r1 : List GOp := [
 gv 6 (.mv (.tmp 0)),
 gv 7 (.len false (.tmp 6)),
 gv 8 (.mv (.const (.int .i64 0)))]
def c62r2 : List GOp := [
 gv 9 (.bin .lss (.tmp 8) (.tmp 7))]
def c62r3 : List GOp := [
 gv 10 (.mv (.tmp 8)),
 gv 5 (.mv (.tmp 10))]
def c62r4 : List GOp := [
 gv 11 (.mv (.tmp 1)),
 gv 12 (.mv (.tmp 0)),
 gv 13 (.mv (.tmp 5)),
 gv 14 (.idxA 8 (.tmp 12) (.tmp 13)),
 gv 15 (.load 8 true (.tmp 14)),
 gv 16 (.callv (.tmp 11) [(.tmp 15)])]
def c62r5 : List GOp := [
 gv 17 (.mv (.tmp 5)),
 gv 4 (.mv (.tmp 17))]
def c62r6 : List GOp := [
 gv 18 (.bin .add (.tmp 8) (.const (.int .i64 1))),
 gv 8 (.mv (.tmp 18))]
def c62l7 : DE := .seq (.reg c62r2) (.seq (.cond (.tmp 9) (.skip) (.exit 0)) (.seq (.block 1 (.seq (.reg c62r3) (.join (.reg c62r4) (.cond (.tmp 16) (.seq (.reg c62r5) (.ret)) (.skip))))) (.reg c62r6)))
def c62r8 : List GOp := [
 gv 4 (.mv (.const (.int .i64 (-1))))]
def c62 : EFn := ⟨19, .seq (.reg c62r0) (.join (.seq (.reg c62r1) (.block 0 (.loop c62l7))) (.seq (.reg c62r8) (.ret))), [.tmp 4]⟩
theorem c62_ok : compF Tryd.prog 62 = some c62.er := by kernel_rfl
def c31r0 : List GOp := [
 gv 2 (.box 36 (.tmp 0)),
 gv 3 (.mv (.const (.bool false)))]
def c31r1 : List GOp := [
 gv 5 (.load 1 false (.tmp 1)),
 gv 6 (.fadd 1 (.tmp 2)),
 gv 7 (.load 1 false (.tmp 6)),
 gv 8 (.mget .str false false (.bool false) (.tmp 5) (.tmp 7)),
 gv 4 (.mv (.tmp 8))]
def c31r2 : List GOp := [
 gv 9 (.load 1 false (.tmp 1)),
 gv 10 (.fadd 1 (.tmp 2)),
 gv 11 (.load 1 false (.tmp 10)),
 ⟨none, .mset .str false (.tmp 9) (.tmp 11) (.const (.bool true)), none⟩]
def c31r3 : List GOp := [
 gv 12 (.mv (.tmp 4)),
 gv 13 (.mv (.tmp 12)),
 gw 14 13 false (.load 8 true (.tmp 2)),
 gw 15 13 false (.call 32 [(.tmp 14)]),
 gw 16 13 false (.un .not (.tmp 15)),
 gv 17 (.pick (.tmp 13) (.const (.bool true)) (.tmp 16)),
 gv 18 (.mv (.tmp 17)),
 gw 19 18 false (.fadd 2 (.tmp 2)),
 gw 20 18 false (.load 1 false (.tmp 19)),
 gw 21 18 false (.len false (.tmp 20)),
 gw 22 18 false (.bin .gtr (.tmp 21) (.const (.int .i64 200))),
 gv 23 (.pick (.tmp 18) (.const (.bool true)) (.tmp 22)),
 gv 24 (.mv (.tmp 23)),
 gw 25 24 false (.fadd 2 (.tmp 2)),
 gw 26 24 false (.load 1 false (.tmp 25)),
 gw 27 24 false (.call 33 [(.tmp 26), (.func 34)]),
 gv 28 (.pick (.tmp 24) (.const (.bool true)) (.tmp 27)),
 gv 3 (.mv (.tmp 28))]
def c31 : EFn := ⟨29, .seq (.reg c31r0) (.seq (.reg c31r1) (.seq (.reg c31r2) (.seq (.reg c31r3) (.ret)))), [.tmp 3]⟩
theorem c31_ok : compF Tryd.prog 31 = some c31.er := by kernel_rfl
def c33r0 : List GOp := [
 gv 4 (.mv (.const (.bool false)))]
def c33r1 : List GOp := [
 gv 5 (.mv (.tmp 0)),
 gv 6 (.mv (.tmp 1)),
 gv 7 (.call 61 [(.tmp 5), (.tmp 6)]),
 gv 8 (.bin .geq (.tmp 7) (.const (.int .i64 0))),
 gv 4 (.mv (.tmp 8))]
def c33 : EFn := ⟨9, .seq (.reg c33r0) (.seq (.reg c33r1) (.ret)), [.tmp 4]⟩
theorem c33_ok : compF Tryd.prog 33 = some c33.er := by kernel_rfl
def c61r0 : List GOp := [
 gv 4 (.mv (.const (.int .i64 0)))]
def c61r1 : List GOp := [
 gv 6 (.mv (.tmp 0)),
 gv 7 (.len false (.tmp 6)),
 gv 8 (.mv (.const (.int .i64 0)))]
def c61r2 : List GOp := [
 gv 9 (.bin .lss (.tmp 8) (.tmp 7))]
def c61r3 : List GOp := [
 gv 10 (.mv (.tmp 8)),
 gv 5 (.mv (.tmp 10))]
def c61r4 : List GOp := [
 gv 11 (.mv (.tmp 1)),
 gv 12 (.mv (.tmp 0)),
 gv 13 (.mv (.tmp 5)),
 gv 14 (.idxA 20 (.tmp 12) (.tmp 13)),
 gv 15 (.load 20 true (.tmp 14)),
 gv 16 (.callv (.tmp 11) [(.tmp 15)])]
def c61r5 : List GOp := [
 gv 17 (.mv (.tmp 5)),
 gv 4 (.mv (.tmp 17))]
def c61r6 : List GOp := [
 gv 18 (.bin .add (.tmp 8) (.const (.int .i64 1))),
 gv 8 (.mv (.tmp 18))]
def c61l7 : DE := .seq (.reg c61r2) (.seq (.cond (.tmp 9) (.skip) (.exit 0)) (.seq (.block 1 (.seq (.reg c61r3) (.join (.reg c61r4) (.cond (.tmp 16) (.seq (.reg c61r5) (.ret)) (.skip))))) (.reg c61r6)))
def c61r8 : List GOp := [
 gv 4 (.mv (.const (.int .i64 (-1))))]
def c61 : EFn := ⟨19, .seq (.reg c61r0) (.join (.seq (.reg c61r1) (.block 0 (.loop c61l7))) (.seq (.reg c61r8) (.ret))), [.tmp 4]⟩
theorem c61_ok : compF Tryd.prog 61 = some c61.er := by kernel_rfl
def c34r0 : List GOp := [
 gv 1 (.box 57 (.tmp 0)),
 gv 2 (.mv (.const (.bool false)))]
def c34r1 : List GOp := [
 gv 3 (.load 20 true (.tmp 1)),
 gv 4 (.call 35 [(.tmp 3)]),
 gv 5 (.un .not (.tmp 4)),
 gv 2 (.mv (.tmp 5))]
def c34 : EFn := ⟨6, .seq (.reg c34r0) (.seq (.reg c34r1) (.ret)), [.tmp 2]⟩
theorem c34_ok : compF Tryd.prog 34 = some c34.er := by kernel_rfl
def c15r0 : List GOp := [
 gv 1 (.box 24 (.tmp 0)),
 gv 2 (.mv (.const (.bool false)))]
def c15r1 : List GOp := [
 gv 5 (.mkm .str false),
 gv 3 (.alloc 72 (.map none)),
 ⟨none, .store 1 (.tmp 3) (.tmp 5), none⟩]
def c15r2 : List GOp := [
 gv 6 (.mkfn (.func 31) [] [(.tmp 3)]),
 gv 4 (.mv (.tmp 6))]
def c15r3 : List GOp := [
 gv 7 (.fadd 0 (.tmp 1)),
 gv 8 (.load 1 false (.tmp 7)),
 gv 9 (.len false (.tmp 8)),
 gv 10 (.bin .leq (.tmp 9) (.const (.int .i64 200))),
 gv 11 (.mv (.tmp 10)),
 gw 12 11 true (.fadd 0 (.tmp 1)),
 gw 13 11 true (.load 1 false (.tmp 12)),
 gw 14 11 true (.mv (.tmp 4)),
 gw 15 11 true (.call 36 [(.tmp 13), (.tmp 14)]),
 gw 16 11 true (.un .not (.tmp 15)),
 gv 17 (.pick (.tmp 11) (.tmp 16) (.const (.bool false))),
 gv 2 (.mv (.tmp 17))]
def c15 : EFn := ⟨18, .seq (.reg c15r0) (.seq (.reg c15r1) (.seq (.reg c15r2) (.seq (.reg c15r3) (.ret)))), [.tmp 2]⟩
theorem c15_ok : compF Tryd.prog 15 = some c15.er := by kernel_rfl
set_option maxHeartbeats 4000000 in
theorem decide_Valid_R {P : Program} (hP : P = Tryd.prog) (p : Policy) (r : Bool) (h : decide_Valid_g p = some r) : Fn1 P 15 [vPolicy p] (vB r) := by
 refine .walkE (hP ▸ c15_ok) fun K hK => ?_;unfold decide_Valid_g at h;cbv;refine brkG h ?_ ?_ <;> intro h
 ·cbv;refine .inl (hP ▸ c36_ok) ?_;cbv;refine .inl (hP ▸ c62_ok) ?_;cbv;refine .ga h (fun (own1 : (List (ByteArray × Bool))) => rp 19 .top) (fun own1 => [.cells [.d (.sl (W eRule p.Rules))] 24, .mp .str false (WM Value.string eB own1), .cells [.hd 1] 72]) (fun y hm hr1 Kn1 hKn1 => ?_) fun t h => ?_
  ·have h := hm;clear hm;cbv;refine .g h (fun ((own2, v3) : (List (ByteArray × Bool)) × Int) => [.d (.sl (W eRule p.Rules)), .clo (.func 31) [] [.ptr 2 0]] ++ rp 5 .top ++ [oi (io.len (W eRule p.Rules)), oi v3] ++ rp 10 .top) (fun (own2, v3) => [.cells [.d (.sl (W eRule p.Rules))] 24, .mp .str false (WM Value.string eB own2), .cells [.hd 1] 72]) (.nz (.mtE [0, 1, 2] ?_)) fun s x h hr2 Kn2 hKn2 => ?_
   ·(cbv; repeat (refine ⟨an_, ?_⟩; cbv))
   unfold decide_Valid_l22 at h;obtain ⟨own2, v3⟩ := s;cbv;refine brkG h ?_ ?_ <;> intro h
   ·cbv;refine .g h (fun ((own4, v5) : (List (ByteArray × Bool)) × Bool) => [.d (.sl (W eRule p.Rules)), .clo (.func 31) [] [.ptr 2 0]] ++ rp 3 .top ++ [oi v3, .top, oi (io.len (W eRule p.Rules)), oi v3] ++ rp 7 .top ++ [ob v5, .top, .top]) (fun (own4, v5) => [.cells [.d (.sl (W eRule p.Rules))] 24, .mp .str false (WM Value.string eB own4), .cells [.hd 1] 72]) (fun y hm Kn3 hKn3 => ?_) fun t h => ?_
    ·have h := hm;clear hm;cbv;refine .g h (fun _ => rfl) fun x6 h => ?_;cbv;refine .inl (hP ▸ c31_ok) ?_;cbv;refine .gs (e := eB) h (by first | rfl | exact WM_nil' _ _) (fun h => h) fun y7 h => ?_;cbv;refine .gs (e := eB) h (by first | rfl | exact WM_nil' _ _) aw_ fun m8 h => ?_;cbv;refine brkG h ?_ ?_ <;> intro h
     ·cbv;obtain rfl := oj h;refine hKn3 _ _ _ rfl (.nz (.mtE [0, 1, 2] ?_));(cbv; repeat (refine ⟨an_, ?_⟩; cbv))
     ·cbv;refine .g h (fun v hv => decide_numbers_R hP _ v hv) aw_ rfl (fun _ => rfl) fun v9 h => ?_;cbv;refine brkG h ?_ ?_ <;> intro h
      ·cbv;obtain rfl := oj h;refine hKn3 _ _ _ rfl (.nz (.mtE [0, 1, 2] ?_));(cbv; repeat (refine ⟨an_, ?_⟩; cbv))
      ·cbv;refine brkG h ?_ ?_ <;> intro h
       ·cbv;obtain rfl := oj h;refine hKn3 _ _ _ rfl (.nz (.mtE [0, 1, 2] ?_));(cbv; repeat (refine ⟨an_, ?_⟩; cbv))
       ·cbv;refine .inl (hP ▸ c33_ok) ?_;cbv;refine .inl (hP ▸ c61_ok) ?_;cbv;refine .ga h (fun (_ : Unit) => rp 19 .top) (fun _ => [.cells [.d (.sl (W eRule p.Rules))] 24, .mp .str false (WM Value.string eB m8), .cells [.hd 1] 72, .cells [oi x6.Kind, .d (.val (.string x6.Name)), .d (.sl (W eA10Range x6.Zones)), oi x6.N, oi x6.R.Num, oi x6.R.Den, oi x6.S.Num, oi x6.S.Den] 36]) (fun y hm hr4 Kn4 hKn4 => ?_) fun t h => ?_
        ·have h := hm;clear hm;cbv;refine .g h (fun (v10 : Int) => [.d (.sl (W eA10Range x6.Zones)), .clo (.func 34) [] []] ++ rp 5 .top ++ [oi (io.len (W eA10Range x6.Zones)), oi v10] ++ rp 10 .top) (fun v10 => [.cells [.d (.sl (W eRule p.Rules))] 24, .mp .str false (WM Value.string eB m8), .cells [.hd 1] 72, .cells [oi x6.Kind, .d (.val (.string x6.Name)), .d (.sl (W eA10Range x6.Zones)), oi x6.N, oi x6.R.Num, oi x6.R.Den, oi x6.S.Num, oi x6.S.Den] 36]) (.nz (.mtE [0, 1, 2, 3] ?_)) fun s x h hr5 Kn5 hKn5 => ?_
         ·(cbv; repeat (refine ⟨an_, ?_⟩; cbv))
         unfold decide_Valid_l26 at h;obtain ⟨v10, rfl⟩ := ez s;cbv;refine brkG h ?_ ?_ <;> intro h
         ·cbv;refine .g h (fun (v11 : Bool) => [.d (.sl (W eA10Range x6.Zones)), .clo (.func 34) [] []] ++ rp 3 .top ++ [oi v10, .top, oi (io.len (W eA10Range x6.Zones)), oi v10] ++ rp 7 .top ++ [ob v11, .top, .top]) (fun v11 => [.cells [.d (.sl (W eRule p.Rules))] 24, .mp .str false (WM Value.string eB m8), .cells [.hd 1] 72, .cells [oi x6.Kind, .d (.val (.string x6.Name)), .d (.sl (W eA10Range x6.Zones)), oi x6.N, oi x6.R.Num, oi x6.R.Den, oi x6.S.Num, oi x6.S.Den] 36]) (fun y hm Kn6 hKn6 => ?_) fun t h => ?_
          ·have h := hm;clear hm;cbv;refine .g h (fun _ => rfl) fun x12 h => ?_;cbv;refine .inl (hP ▸ c34_ok) ?_;cbv;refine .g h (fun v hv => decide_within_R hP _ v hv) aw_ rfl (fun _ => rfl) fun v13 h => ?_;cbv;obtain rfl := oj h;refine hKn6 _ _ _ rfl (.nz (.mtE [0, 1, 2, 3] ?_));(cbv; repeat (refine ⟨an_, ?_⟩; cbv))
          obtain ⟨v11, rfl⟩ := ez t;cbv;refine brkG h ?_ ?_ <;> intro h
          ·cbv;obtain rfl := oj h;obtain rfl := hr5 _ rfl;obtain rfl := hr4 _ rfl;refine hKn3 _ _ _ rfl (.nz (.mtE [0, 1, 2] ?_));(cbv; repeat (refine ⟨an_, ?_⟩; cbv))
          ·cbv;obtain rfl := oj h;refine hKn5 _ _ _ rfl (.nz (.mtE [0, 1, 2, 3] ?_));(cbv; repeat (refine ⟨an_, ?_⟩; cbv))
         ·cbv;obtain rfl := oj h;obtain rfl := hr5 _ rfl;refine hKn4 _ _ _ rfl (.nz (.mtE [0, 1, 2, 3] ?_));(cbv; repeat (refine ⟨an_, ?_⟩; cbv))
        cbv;obtain rfl := oj h;refine hKn3 _ _ _ rfl (.nz (.mtE [0, 1, 2] ?_));(cbv; repeat (refine ⟨an_, ?_⟩; cbv))
    obtain ⟨own4, v5⟩ := t;cbv;refine brkG h ?_ ?_ <;> intro h
    ·cbv;obtain rfl := oj h;obtain rfl := hr2 _ rfl;obtain rfl := hr1 _ rfl;exact hK _ _ aw_
    ·cbv;obtain rfl := oj h;refine hKn2 _ _ _ rfl (.nz (.mtE [0, 1, 2] ?_));(cbv; repeat (refine ⟨an_, ?_⟩; cbv))
   ·cbv;obtain rfl := oj h;obtain rfl := hr2 _ rfl;refine hKn1 _ _ _ rfl (.nz (.mtE [0, 1, 2] ?_));(cbv; repeat (refine ⟨an_, ?_⟩; cbv))
  obtain ⟨own1, rfl⟩ := ez t;cbv;obtain rfl := oj h;exact hK _ _ aw_
 ·cbv;obtain rfl := oj h;exact hK _ _ aw_
end Go.SX.Td
