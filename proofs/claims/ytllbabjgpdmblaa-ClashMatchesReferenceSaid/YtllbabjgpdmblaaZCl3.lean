/- Parts of the proof. -/
import Derived.Test.YtllbabjgpdmblaaZClT
import Derived.Test.YtllbabjgpdmblaaZCl48
import Derived.Test.YtllbabjgpdmblaaZCl11
import Derived.Test.YtllbabjgpdmblaaZCl12
import Derived.Test.YtllbabjgpdmblaaZCl13
import Derived.Test.YtllbabjgpdmblaaZCl9
set_option linter.unusedSimpArgs false
set_option linter.unusedVariables false
namespace Go.SX.Cl
open Go Go.SX Go.Proofs
set_option maxRecDepth 100000
def c3r0 : List GOp := [
 gv 1 (.box 24 (.tmp 0)),
 gv 2 (.mv (.const (.bool false)))]
def c3r1 : List GOp := [
 gv 4 (.call 9 []),
 gv 3 (.mv (.tmp 4))]
def c3r2 : List GOp := [
 gv 5 (.load 1 true (.tmp 1)),
 gv 6 (.call 10 [(.tmp 5), (.const (.int .i64 10))]),
 gv 7 (.un .not (.tmp 6))]
def c3r3 : List GOp := [
 gv 8 (.mv (.tmp 3)),
 gv 2 (.mv (.tmp 8))]
def c3r4 : List GOp := [
 gv 9 (.mv (.tmp 3)),
 gv 10 (.mv (.tmp 9)),
 gw 11 10 true (.load 1 true (.tmp 1)),
 gw 12 10 true (.call 12 [(.tmp 11)]),
 gw 13 10 true (.load 1 true (.tmp 1)),
 gw 14 10 true (.call 13 [(.tmp 13)]),
 gw 15 10 true (.call 11 [(.tmp 12), (.tmp 14)]),
 gv 16 (.pick (.tmp 10) (.tmp 15) (.const (.bool false))),
 gv 2 (.mv (.tmp 16))]
def c3 : EFn := ⟨17, .seq (.reg c3r0) (.seq (.reg c3r1) (.seq (.seq (.reg c3r2) (.cond (.tmp 7) (.seq (.reg c3r3) (.ret)) (.skip))) (.seq (.par false false false 5 c3r4) (.ret)))), [.tmp 2]⟩
theorem c3_ok : compF Try.prog 3 = some c3.er := by kernel_rfl
noncomputable def law16_ClashMatchesReference_g (p : Policy) : Option (Bool) :=
 Option.bind (law16_head_g) fun up1 =>
 Option.bind (law16_few_g p 10) fun v2 =>
 bif (io.not v2) then (
 some up1
 ) else (
 bif up1 then (
 Option.bind (clash_Findings_g p) fun v3 =>
 Option.bind (ref16_Findings_g p) fun v4 =>
 Option.bind (ref16_Same_g v3 v4) fun v5 =>
 some v5
 ) else (
 some false
 )
 )
set_option maxHeartbeats 4000000 in
theorem law16_ClashMatchesReference_R {P : Program} (hP : P = Try.prog) (p : Policy) (r : Bool) (h : law16_ClashMatchesReference_g p = some r) : Fn1 P 3 [vPolicy p] (vB r) := by
 refine .walkE (hP ▸ c3_ok) fun K hK => ?_
 unfold law16_ClashMatchesReference_g at h
 cbv
 refine .g h (fun v hv => law16_head_R hP v hv) aw_ rfl (fun _ => rfl) fun up1 h => ?_
 cbv
 refine .g h (fun v hv => law16_few_R hP _ _ v hv) aw_ rfl (fun _ => rfl) fun v2 h => ?_
 cbv
 refine brkG h ?_ ?_ <;> intro h
 · cbv
   obtain rfl := oj h
   exact hK _ _ aw_
 · cbv
   refine brkG h ?_ ?_ <;> intro h
   · cbv
     refine .g h (fun v hv => clash_Findings_R hP _ v hv) aw_ rfl (fun _ => rfl) fun v3 h => ?_
     cbv
     refine .g h (fun v hv => ref16_Findings_R hP _ v hv) aw_ rfl (fun _ => rfl) fun v4 h => ?_
     cbv
     refine .g h (fun v hv => ref16_Same_R hP _ _ v hv) aw_ rfl (fun _ => rfl) fun v5 h => ?_
     cbv
     obtain rfl := oj h
     exact hK _ _ aw_
   · cbv
     obtain rfl := oj h
     exact hK _ _ aw_
end Go.SX.Cl
