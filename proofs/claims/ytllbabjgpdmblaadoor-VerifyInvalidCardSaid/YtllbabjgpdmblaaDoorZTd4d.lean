/- Parts of the proof. -/
import Derived.Test.YtllbabjgpdmblaaDoorZTdT
import Derived.Test.YtllbabjgpdmblaaDoorZTdCompact
import Derived.Test.YtllbabjgpdmblaaDoorZTd13
import Derived.Test.YtllbabjgpdmblaaDoorZTd32d
import Derived.Test.YtllbabjgpdmblaaDoorZTdBuilder
import Derived.Test.YtllbabjgpdmblaaDoorZTd26
import Derived.Test.YtllbabjgpdmblaaDoorZTdSdiff
import Derived.Test.YtllbabjgpdmblaaDoorZTd17
set_option linter.unusedSimpArgs false
set_option linter.unusedVariables false
set_option linter.unusedSectionVars false
namespace Go.SX.Td
open Go Go.SX Go.Proofs
set_option maxRecDepth 100000
noncomputable def law15_VerifyInvalid_g (p : Policy) (t_ : Table) : Option (Bool) :=
 Option.bind (law15_head_g) fun up1 =>
 Option.bind (
 Option.bind (law15_few_g p t_) fun v3 =>
 bif (io.not v3) then (
 some true
 ) else (
 Option.bind (decide_Valid_g p) fun v4 =>
 bif v4 then (
 Option.bind (table_Valid_g t_) fun v5 =>
 some v5
 ) else (
 some false
 )
 )
 ) fun v2 =>
 bif v2 then (
 some up1
 ) else (
 Option.bind (verify_Differ_g p t_) fun v6 =>
 bif up1 then (
 bif v6.2 then (
 some (qA10Ii64 v6.1 (A10.mk 0 0 0 0 0 0 0 0 0 0))
 ) else (
 some false
 )
 ) else (
 some false
 )
 )
end Go.SX.Td
namespace Go.SX.Td
open Go Go.SX Go.Proofs
set_option maxRecDepth 100000
def c4r0 : List GOp := [
 gv 2 (.box 24 (.tmp 0)),
 gv 3 (.box 28 (.tmp 1)),
 gv 4 (.mv (.const (.bool false)))]
def c4r1 : List GOp := [
 gv 8 (.call 13 []),
 gv 5 (.mv (.tmp 8))]
def c4r2 : List GOp := [
 gv 9 (.load 1 true (.tmp 2)),
 gv 10 (.load 2 true (.tmp 3)),
 gv 11 (.call 14 [(.tmp 9), (.tmp 10)]),
 gv 12 (.un .not (.tmp 11)),
 gv 13 (.mv (.tmp 12)),
 gw 14 13 false (.load 1 true (.tmp 2)),
 gw 15 13 false (.call 15 [(.tmp 14)]),
 gw 16 13 false (.mv (.tmp 15)),
 gw 17 16 true (.load 2 true (.tmp 3)),
 gw 18 16 true (.call 17 [(.tmp 17)]),
 gw 19 13 false (.pick (.tmp 16) (.tmp 18) (.const (.bool false))),
 gv 20 (.pick (.tmp 13) (.const (.bool true)) (.tmp 19))]
def c4r3 : List GOp := [
 gv 21 (.mv (.tmp 5)),
 gv 4 (.mv (.tmp 21))]
def c4r4 : List GOp := [
 gv 23 (.load 1 true (.tmp 2)),
 gv 24 (.load 2 true (.tmp 3)),
 gv 25 (.call 16 [(.tmp 23), (.tmp 24)]),
 gv 22 (.mv (.tmp 25)),
 gv 26 (.ext (.tmp 22) 0),
 gv 27 (.ext (.tmp 22) 1),
 gv 6 (.alloc 38 (.agg #[oz, oz, oz, oz, oz, oz, oz, oz, oz, oz])),
 ⟨none, .store 10 (.tmp 6) (.tmp 26), none⟩,
 gv 7 (.mv (.tmp 27))]
def c4r5 : List GOp := [
 gv 28 (.mv (.tmp 5)),
 gv 29 (.mv (.tmp 28)),
 gw 30 29 true (.mv (.tmp 7)),
 gv 31 (.pick (.tmp 29) (.tmp 30) (.const (.bool false))),
 gv 32 (.mv (.tmp 31)),
 gw 33 32 true (.load 10 true (.tmp 6)),
 gw 34 32 true (.build (.agg #[oz, oz, oz, oz, oz, oz, oz, oz, oz, oz]) []),
 gw 35 32 true (.beq false [.int, .int, .int, .int, .int, .int, .int, .int, .int, .int] (.tmp 33) (.tmp 34)),
 gv 36 (.pick (.tmp 32) (.tmp 35) (.const (.bool false))),
 gv 4 (.mv (.tmp 36))]
def c4 : EFn := ⟨37, .seq (.reg c4r0) (.seq (.reg c4r1) (.seq (.join (.reg c4r2) (.cond (.tmp 20) (.seq (.reg c4r3) (.ret)) (.skip))) (.seq (.reg c4r4) (.seq (.reg c4r5) (.ret))))), [.tmp 4]⟩
theorem c4_ok : compF Tryd.prog 4 = some c4.er := by kernel_rfl
set_option maxHeartbeats 4000000 in
theorem law15_VerifyInvalid_R {P : Program} (hP : P = Tryd.prog) (p : Policy) (t_ : Table) (r : Bool) (h : law15_VerifyInvalid_g p t_ = some r) : Fn1 P 4 [vPolicy p, vTable t_] (vB r) := by
 refine .walkE (hP ▸ c4_ok) fun K hK => ?_;unfold law15_VerifyInvalid_g at h;cbv;refine .g h (fun v hv => law15_head_R hP v hv) aw_ rfl (fun _ => rfl) fun up1 h => ?_;cbv;refine .g h (fun (v2 : Bool) => [.top, .top, .ptr 0 0, .ptr 1 0, .top, ob up1] ++ rp 14 .top ++ [ob v2] ++ rp 16 .top) (fun v2 => [.cells [.d (.sl (W eRule p.Rules))] 24, .cells [.d (.sl (W eNode t_.Nodes)), .d (.sl (W eDecision t_.Leaves))] 28]) (fun y hm Kn1 hKn1 => ?_) fun t h => ?_
 ·have h := hm;clear hm;cbv;refine .g h (fun v hv => law15_few_R hP _ _ v hv) aw_ rfl (fun _ => rfl) fun v3 h => ?_;cbv;refine brkG h ?_ ?_ <;> intro h
  ·cbv;obtain rfl := oj h;refine hKn1 _ _ _ rfl (.nz (.mtE [0, 1] ?_));(cbv; repeat (refine ⟨an_, ?_⟩; cbv))
  ·cbv;refine .g h (fun v hv => decide_Valid_R hP _ v hv) aw_ rfl (fun _ => rfl) fun v4 h => ?_;cbv;refine brkG h ?_ ?_ <;> intro h
   ·cbv;refine .g h (fun v hv => table_Valid_R hP _ v hv) aw_ rfl (fun _ => rfl) fun v5 h => ?_;cbv;obtain rfl := oj h;refine hKn1 _ _ _ rfl (.nz (.mtE [0, 1] ?_));(cbv; repeat (refine ⟨an_, ?_⟩; cbv))
   ·cbv;obtain rfl := oj h;refine hKn1 _ _ _ rfl (.nz (.mtE [0, 1] ?_));(cbv; repeat (refine ⟨an_, ?_⟩; cbv))
 obtain ⟨v2, rfl⟩ := ez t;cbv;refine brkG h ?_ ?_ <;> intro h
 ·cbv;obtain rfl := oj h;exact hK _ _ aw_
 ·cbv;refine .g h (fun v hv => verify_Differ_R hP _ _ v hv) aw_ rfl (fun _ => rfl) fun v6 h => ?_;cbv;refine brkG h ?_ ?_ <;> intro h
  ·cbv;refine brkG h ?_ ?_ <;> intro h
   ·cbv;obtain rfl := oj h;exact hK _ _ aw_
   ·cbv;obtain rfl := oj h;exact hK _ _ aw_
  ·cbv;obtain rfl := oj h;exact hK _ _ aw_
end Go.SX.Td
