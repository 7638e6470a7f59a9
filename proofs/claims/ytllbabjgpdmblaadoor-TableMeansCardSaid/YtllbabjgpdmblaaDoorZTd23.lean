/- Parts of the proof. -/
import Derived.Test.YtllbabjgpdmblaaDoorZTdT
import Derived.Test.YtllbabjgpdmblaaDoorZTd20
import Derived.Test.YtllbabjgpdmblaaDoorZTd32d
import Derived.Test.YtllbabjgpdmblaaDoorZTdBuilder
import Derived.Test.YtllbabjgpdmblaaDoorZTd39
import Derived.Test.YtllbabjgpdmblaaDoorZTd49d
import Derived.Test.YtllbabjgpdmblaaDoorZTdSwalkTd
import Derived.Test.YtllbabjgpdmblaaDoorZTd19
import Derived.Test.YtllbabjgpdmblaaDoorZTd24
set_option linter.unusedSimpArgs false
set_option linter.unusedVariables false
set_option linter.unusedSectionVars false
namespace Go.SX.Td
open Go Go.SX Go.Proofs
set_option maxRecDepth 100000
def c23r0 : List GOp := [
 gv 1 (.box 24 (.tmp 0)),
 gv 2 (.mv (.const (.bool false)))]
def c23r1 : List GOp := [
 gv 3 (.mv (.const (.int .i64 0)))]
def c23r2 : List GOp := [
 gv 4 (.mv (.const (.int .i64 0)))]
def c23r3 : List GOp := [
 gv 5 (.mv (.tmp 4)),
 gv 6 (.fadd 0 (.tmp 1)),
 gv 7 (.load 1 false (.tmp 6)),
 gv 8 (.len false (.tmp 7)),
 gv 9 (.bin .lss (.tmp 5) (.tmp 8))]
def c23r4 : List GOp := [
 gv 12 (.mv (.tmp 3)),
 gv 13 (.fadd 0 (.tmp 1)),
 gv 14 (.load 1 false (.tmp 13)),
 gv 15 (.mv (.tmp 4)),
 gv 16 (.idxA 8 (.tmp 14) (.tmp 15)),
 gv 17 (.fadd 2 (.tmp 16)),
 gv 18 (.load 1 false (.tmp 17)),
 gv 19 (.len false (.tmp 18)),
 gv 20 (.bin .add (.tmp 12) (.tmp 19)),
 gv 3 (.mv (.tmp 20))]
def c23r5 : List GOp := [
 gv 21 (.fadd 0 (.tmp 1)),
 gv 22 (.load 1 false (.tmp 21)),
 gv 23 (.mv (.tmp 4)),
 gv 24 (.idxA 8 (.tmp 22) (.tmp 23)),
 gv 25 (.fadd 1 (.tmp 24)),
 gv 26 (.load 1 false (.tmp 25)),
 gv 27 (.len true (.tmp 26)),
 gv 28 (.bin .gtr (.tmp 27) (.const (.int .i64 60)))]
def c23r6 : List GOp := [
 gv 2 (.mv (.const (.bool false)))]
def c23r7 : List GOp := [
 gv 10 (.mv (.tmp 4)),
 gv 11 (.bin .add (.tmp 10) (.const (.int .i64 1))),
 gv 4 (.mv (.tmp 11))]
def c23l8 : DE := .seq (.seq (.reg c23r3) (.cond (.tmp 9) (.skip) (.exit 0))) (.seq (.block 1 (.seq (.reg c23r4) (.seq (.reg c23r5) (.cond (.tmp 28) (.seq (.reg c23r6) (.ret)) (.skip))))) (.reg c23r7))
def c23r9 : List GOp := [
 gv 29 (.fadd 0 (.tmp 1)),
 gv 30 (.load 1 false (.tmp 29)),
 gv 31 (.len false (.tmp 30)),
 gv 32 (.bin .leq (.tmp 31) (.const (.int .i64 8))),
 gv 33 (.mv (.tmp 32)),
 gw 34 33 true (.mv (.tmp 3)),
 gw 35 33 true (.bin .leq (.tmp 34) (.const (.int .i64 10))),
 gv 36 (.pick (.tmp 33) (.tmp 35) (.const (.bool false))),
 gv 2 (.mv (.tmp 36))]
def c23 : EFn := ⟨37, .seq (.reg c23r0) (.seq (.reg c23r1) (.join (.seq (.reg c23r2) (.block 0 (.loop c23l8))) (.seq (.reg c23r9) (.ret)))), [.tmp 2]⟩
theorem c23_ok : compF Tryd.prog 23 = some c23.er := by kernel_rfl
set_option maxHeartbeats 4000000 in
theorem ref14_Few_R {P : Program} (hP : P = Tryd.prog) (p : Policy) (r : Bool) (h : ref14_Few_g p = some r) : Fn1 P 23 [vPolicy p] (vB r) := by
 refine .walkE (hP ▸ c23_ok) fun K hK => ?_
 unfold ref14_Few_g at h
 cbv
 refine .ga h (fun (zones1 : Int) => [.top, .ptr 0 0, .top, oi zones1] ++ rp 33 .top) (fun (zones1 : Int) => [.cells [.d (.sl (W eRule p.Rules))] 24]) (fun y hm hr1 Kn1 hKn1 => ?_) fun t h => ?_
 ·have h := hm
  clear hm
  cbv
  refine .g h (fun ((zones2, i3) : Int × Int) => [.top, .ptr 0 0, .top, oi zones2, oi i3] ++ rp 32 .top) (fun ((zones2, i3) : Int × Int) => [.cells [.d (.sl (W eRule p.Rules))] 24]) (.nz (.mtE [0] ?_)) fun s x h hr2 Kn2 hKn2 => ?_
  ·(cbv; repeat (refine ⟨an_, ?_⟩; cbv))
  unfold ref14_Few_l2 at h
  obtain ⟨zones2, i3⟩ := s
  cbv
  refine brkG h ?_ ?_ <;> intro h
  ·cbv
   refine .g h (fun _ => rfl) fun x4 h => ?_
   cbv
   refine .g h (fun _ => rfl) fun x5 h => ?_
   cbv
   refine brkG h ?_ ?_ <;> intro h
   ·cbv
    obtain rfl := oj h
    obtain rfl := hr2 _ rfl
    obtain rfl := hr1 _ rfl
    exact hK _ _ aw_
   ·cbv
    obtain rfl := oj h
    refine hKn2 _ _ _ rfl (.nz (.mtE [0] ?_))
    (cbv; repeat (refine ⟨an_, ?_⟩; cbv))
  ·cbv
   obtain rfl := oj h
   obtain rfl := hr2 _ rfl
   refine hKn1 _ _ _ rfl (.nz (.mtE [0] ?_))
   (cbv; repeat (refine ⟨an_, ?_⟩; cbv))
 obtain ⟨zones1, rfl⟩ : ∃ z, z = t := ⟨_, rfl⟩
 cbv
 refine brkG h ?_ ?_ <;> intro h
 ·cbv
  obtain rfl := oj h
  exact hK _ _ aw_
 ·cbv
  obtain rfl := oj h
  exact hK _ _ aw_
end Go.SX.Td
namespace Go.SX.Td
open Go Go.SX Go.Proofs
set_option maxRecDepth 100000
noncomputable def law14_TableMeans_g (p : Policy) (f : (A10 Int)) : Option (Bool) :=
 Option.bind (law14_head_g) fun up1 =>
 Option.bind (ref14_Few_g p) fun v2 =>
 bif (io.not v2) then (
 some up1
 ) else (
 Option.bind (table_Build_g p) fun v3 =>
 bif (io.not (io.eq v3.2 0)) then (
 bif up1 then (
 bif (io.eq v3.2 1) then (
 Option.bind (decide_Valid_g p) fun v4 =>
 bif (io.not v4) then (
 some (io.eq (io.len (W eNode v3.1.Nodes)) 0)
 ) else (
 some false
 )
 ) else (
 some false
 )
 ) else (
 some false
 )
 ) else (
 bif up1 then (
 Option.bind (table_Valid_g v3.1) fun v5 =>
 bif v5 then (
 Option.bind (ref14_Within_g f) fun v6 =>
 bif (io.not v6) then (
 some true
 ) else (
 Option.bind (table_Lookup_g v3.1 f) fun v7 =>
 Option.bind (decide_Decide_g p f) fun v8 =>
 some (qDecision v7 v8)
 )
 ) else (
 some false
 )
 ) else (
 some false
 )
 )
 )
end Go.SX.Td
namespace Go.SX.Td
open Go Go.SX Go.Proofs
set_option maxRecDepth 100000
def c6r0 : List GOp := [
 gv 2 (.box 24 (.tmp 0)),
 gv 3 (.box 38 (.tmp 1)),
 gv 4 (.mv (.const (.bool false)))]
def c6r1 : List GOp := [
 gv 8 (.call 22 []),
 gv 5 (.mv (.tmp 8))]
def c6r2 : List GOp := [
 gv 9 (.load 1 true (.tmp 2)),
 gv 10 (.call 23 [(.tmp 9)]),
 gv 11 (.un .not (.tmp 10))]
def c6r3 : List GOp := [
 gv 12 (.mv (.tmp 5)),
 gv 4 (.mv (.tmp 12))]
def c6r4 : List GOp := [
 gv 14 (.load 1 true (.tmp 2)),
 gv 15 (.call 24 [(.tmp 14)]),
 gv 13 (.mv (.tmp 15)),
 gv 16 (.ext (.tmp 13) 0),
 gv 17 (.ext (.tmp 13) 1),
 gv 6 (.alloc 28 (.agg #[(.slice none 0 0), (.slice none 0 0)])),
 ⟨none, .store 2 (.tmp 6) (.tmp 16), none⟩,
 gv 7 (.mv (.tmp 17))]
def c6r5 : List GOp := [
 gv 18 (.mv (.tmp 7)),
 gv 19 (.bin .neq (.tmp 18) (.const (.int .i64 0)))]
def c6r6 : List GOp := [
 gv 20 (.mv (.tmp 5)),
 gv 21 (.mv (.tmp 20)),
 gw 22 21 true (.mv (.tmp 7)),
 gw 23 21 true (.bin .eql (.tmp 22) (.const (.int .i64 1))),
 gv 24 (.pick (.tmp 21) (.tmp 23) (.const (.bool false))),
 gv 25 (.mv (.tmp 24)),
 gw 26 25 true (.load 1 true (.tmp 2)),
 gw 27 25 true (.call 15 [(.tmp 26)]),
 gw 28 25 true (.un .not (.tmp 27)),
 gv 29 (.pick (.tmp 25) (.tmp 28) (.const (.bool false))),
 gv 30 (.mv (.tmp 29)),
 gw 31 30 true (.fadd 0 (.tmp 6)),
 gw 32 30 true (.load 1 false (.tmp 31)),
 gw 33 30 true (.len false (.tmp 32)),
 gw 34 30 true (.bin .eql (.tmp 33) (.const (.int .i64 0))),
 gv 35 (.pick (.tmp 30) (.tmp 34) (.const (.bool false))),
 gv 4 (.mv (.tmp 35))]
def c6r7 : List GOp := [
 gv 36 (.mv (.tmp 5)),
 gv 37 (.mv (.tmp 36)),
 gw 38 37 true (.load 2 true (.tmp 6)),
 gw 39 37 true (.call 17 [(.tmp 38)]),
 gv 40 (.pick (.tmp 37) (.tmp 39) (.const (.bool false))),
 gv 41 (.mv (.tmp 40)),
 gw 42 41 true (.load 10 true (.tmp 3)),
 gw 43 41 true (.call 18 [(.tmp 42)]),
 gw 44 41 true (.un .not (.tmp 43)),
 gw 45 41 true (.mv (.tmp 44)),
 gw 46 45 false (.load 2 true (.tmp 6)),
 gw 47 45 false (.load 10 true (.tmp 3)),
 gw 48 45 false (.call 20 [(.tmp 46), (.tmp 47)]),
 gw 49 45 false (.load 1 true (.tmp 2)),
 gw 50 45 false (.load 10 true (.tmp 3)),
 gw 51 45 false (.call 19 [(.tmp 49), (.tmp 50)]),
 gw 52 45 false (.beq false [.bool, .bool, .bool, .int, .int, .int, .int, .int, .int, .int, .int, .int, .int, .int, .int, .int] (.tmp 48) (.tmp 51)),
 gw 53 41 true (.pick (.tmp 45) (.const (.bool true)) (.tmp 52)),
 gv 54 (.pick (.tmp 41) (.tmp 53) (.const (.bool false))),
 gv 4 (.mv (.tmp 54))]
def c6 : EFn := ⟨55, .seq (.reg c6r0) (.seq (.reg c6r1) (.seq (.seq (.reg c6r2) (.cond (.tmp 11) (.seq (.reg c6r3) (.ret)) (.skip))) (.seq (.reg c6r4) (.seq (.seq (.reg c6r5) (.cond (.tmp 19) (.seq (.reg c6r6) (.ret)) (.skip))) (.seq (.par false false false 15 c6r7) (.ret)))))), [.tmp 4]⟩
theorem c6_ok : compF Tryd.prog 6 = some c6.er := by kernel_rfl
set_option maxHeartbeats 4000000 in
theorem law14_TableMeans_R {P : Program} (hP : P = Tryd.prog) (p : Policy) (f : (A10 Int)) (r : Bool) (h : law14_TableMeans_g p f = some r) : Fn1 P 6 [vPolicy p, vA10Ii64 f] (vB r) := by
 refine .walkE (hP ▸ c6_ok) fun K hK => ?_
 unfold law14_TableMeans_g at h
 cbv
 refine .g h (fun v hv => law14_head_R hP v hv) aw_ rfl (fun _ => rfl) fun up1 h => ?_
 cbv
 refine .g h (fun v hv => ref14_Few_R hP _ v hv) aw_ rfl (fun _ => rfl) fun v2 h => ?_
 cbv
 refine brkG h ?_ ?_ <;> intro h
 ·cbv
  obtain rfl := oj h
  exact hK _ _ aw_
 ·cbv
  refine .g h (fun v hv => table_Build_R hP _ v hv) aw_ rfl (fun _ => rfl) fun v3 h => ?_
  cbv
  refine brkG h ?_ ?_ <;> intro h
  ·cbv
   refine brkG h ?_ ?_ <;> intro h
   ·cbv
    refine brkG h ?_ ?_ <;> intro h
    ·cbv
     refine .g h (fun v hv => decide_Valid_R hP _ v hv) aw_ rfl (fun _ => rfl) fun v4 h => ?_
     cbv
     refine brkG h ?_ ?_ <;> intro h
     ·cbv
      obtain rfl := oj h
      exact hK _ _ aw_
     ·cbv
      obtain rfl := oj h
      exact hK _ _ aw_
    ·cbv
     obtain rfl := oj h
     exact hK _ _ aw_
   ·cbv
    obtain rfl := oj h
    exact hK _ _ aw_
  ·cbv
   refine brkG h ?_ ?_ <;> intro h
   ·cbv
    refine .g h (fun v hv => table_Valid_R hP _ v hv) aw_ rfl (fun _ => rfl) fun v5 h => ?_
    cbv
    refine brkG h ?_ ?_ <;> intro h
    ·cbv
     refine .g h (fun v hv => ref14_Within_R hP _ v hv) aw_ rfl (fun _ => rfl) fun v6 h => ?_
     cbv
     refine brkG h ?_ ?_ <;> intro h
     ·cbv
      obtain rfl := oj h
      exact hK _ _ aw_
     ·cbv
      refine .g h (fun v hv => table_Lookup_R hP _ _ v hv) aw_ rfl (fun _ => rfl) fun v7 h => ?_
      cbv
      refine .g h (fun v hv => decide_Decide_R hP _ _ v hv) aw_ rfl (fun _ => rfl) fun v8 h => ?_
      cbv
      obtain rfl := oj h
      exact hK _ _ aw_
    ·cbv
     obtain rfl := oj h
     exact hK _ _ aw_
   ·cbv
    obtain rfl := oj h
    exact hK _ _ aw_
end Go.SX.Td
