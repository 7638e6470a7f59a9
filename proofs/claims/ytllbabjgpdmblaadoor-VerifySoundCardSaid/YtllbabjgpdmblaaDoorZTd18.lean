/- Parts of the proof. -/
import Derived.Test.YtllbabjgpdmblaaDoorZTdT
import Derived.Test.YtllbabjgpdmblaaDoorZTd18d
import Derived.Test.YtllbabjgpdmblaaDoorZTdSdiff
import Derived.Test.YtllbabjgpdmblaaDoorZTd21d
import Derived.Test.YtllbabjgpdmblaaDoorZTdCompact
import Derived.Test.YtllbabjgpdmblaaDoorZTd13
import Derived.Test.YtllbabjgpdmblaaDoorZTd32d
import Derived.Test.YtllbabjgpdmblaaDoorZTdBuilder
import Derived.Test.YtllbabjgpdmblaaDoorZTd20d
import Derived.Test.YtllbabjgpdmblaaDoorZTd26
import Derived.Test.YtllbabjgpdmblaaDoorZTd17
import Derived.Test.YtllbabjgpdmblaaDoorZTd19
set_option linter.unusedSimpArgs false
set_option linter.unusedVariables false
set_option linter.unusedSectionVars false
namespace Go.SX.Td
open Go Go.SX Go.Proofs
set_option maxRecDepth 100000
def c18r0 : List GOp := [
 gv 1 (.box 38 (.tmp 0)),
 gv 2 (.mv (.const (.bool false)))]
def c18r1 : List GOp := [
 gv 5 (.call 28 []),
 gv 3 (.alloc 57 (.agg #[oz, oz, oz, oz, oz, oz, oz, oz, oz, oz, oz, oz, oz, oz, oz, oz, oz, oz, oz, oz])),
 ⟨none, .store 20 (.tmp 3) (.tmp 5), none⟩]
def c18r2 : List GOp := [
 gv 4 (.mv (.const (.int .i64 0)))]
def c18r3 : List GOp := [
 gv 6 (.mv (.tmp 4)),
 gv 7 (.bin .lss (.tmp 6) (.const (.int .i64 10)))]
def c18r4 : List GOp := [
 gv 10 (.mv (.tmp 4)),
 gv 11 (.idxP 10 1 (.tmp 1) (.tmp 10)),
 gv 12 (.load 1 false (.tmp 11)),
 gv 13 (.mv (.tmp 4)),
 gv 14 (.idxP 10 2 (.tmp 3) (.tmp 13)),
 gv 15 (.fadd 0 (.tmp 14)),
 gv 16 (.load 1 false (.tmp 15)),
 gv 17 (.bin .lss (.tmp 12) (.tmp 16)),
 gv 18 (.mv (.tmp 17)),
 gw 19 18 false (.mv (.tmp 4)),
 gw 20 18 false (.idxP 10 1 (.tmp 1) (.tmp 19)),
 gw 21 18 false (.load 1 false (.tmp 20)),
 gw 22 18 false (.mv (.tmp 4)),
 gw 23 18 false (.idxP 10 2 (.tmp 3) (.tmp 22)),
 gw 24 18 false (.fadd 1 (.tmp 23)),
 gw 25 18 false (.load 1 false (.tmp 24)),
 gw 26 18 false (.bin .gtr (.tmp 21) (.tmp 25)),
 gv 27 (.pick (.tmp 18) (.const (.bool true)) (.tmp 26))]
def c18r5 : List GOp := [
 gv 2 (.mv (.const (.bool false)))]
def c18r6 : List GOp := [
 gv 8 (.mv (.tmp 4)),
 gv 9 (.bin .add (.tmp 8) (.const (.int .i64 1))),
 gv 4 (.mv (.tmp 9))]
def c18l7 : DE := .seq (.seq (.reg c18r3) (.cond (.tmp 7) (.skip) (.exit 0))) (.seq (.block 1 (.join (.par true true true 16 c18r4) (.cond (.tmp 27) (.seq (.reg c18r5) (.ret)) (.skip)))) (.reg c18r6))
def c18r8 : List GOp := [
 gv 2 (.mv (.const (.bool true)))]
def c18 : EFn := ⟨28, .seq (.reg c18r0) (.seq (.reg c18r1) (.join (.seq (.reg c18r2) (.block 0 (.loop c18l7))) (.seq (.reg c18r8) (.ret)))), [.tmp 2]⟩
theorem c18_ok : compF Tryd.prog 18 = some c18.er := by kernel_rfl
set_option maxHeartbeats 4000000 in
theorem ref14_Within_R {P : Program} (hP : P = Tryd.prog) (f : (A10 Int)) (r : Bool) (h : ref14_Within_g f = some r) : Fn1 P 18 [vA10Ii64 f] (vB r) := by
 refine .walkE (hP ▸ c18_ok) fun K hK => ?_;unfold ref14_Within_g at h;cbv;refine .g h (fun v hv => ref12_Limits_R hP v hv) aw_ rfl (fun _ => rfl) fun v1 h => ?_;cbv;refine .ga h (fun (_ : Unit) => rp 28 .top) (fun _ => []) (fun y hm hr1 Kn1 hKn1 => ?_) fun t h => ?_
 ·have h := hm;clear hm;cbv;refine .g h (fun (i2 : Int) => [.top, .ptr 0 0, .top, .ptr 1 0, oi i2] ++ rp 23 .top) (fun i2 => [.cells (ca f) 38, .cells (cR v1) 57]) (.nz (.mtE [0, 1] ?_)) fun s x h hr2 Kn2 hKn2 => ?_
  ·(cbv; repeat (refine ⟨an_, ?_⟩; cbv))
  unfold ref14_Within_l2 at h;obtain ⟨i2, rfl⟩ := ez s;cbv;refine brkG h ?_ ?_ <;> intro h
  ·cbv;refine .g h (fun (v3 : Bool) => [.top, .ptr 0 0, .top, .ptr 1 0, oi i2] ++ rp 22 .top ++ [ob v3]) (fun v3 => [.cells (ca f) 38, .cells (cR v1) 57]) (fun y hm Kn3 hKn3 => ?_) fun t h => ?_
   ·have h := hm;clear hm;cbv
    refine .c10 h ?_ ?_ ?_ ?_ ?_ ?_ ?_ ?_ ?_ ?_ <;> (
     intro hni4 h;cbv;refine .at _ hni4 (by decide) ?_;cbv;refine brkG h ?_ ?_ <;> intro h
     ·cbv;obtain rfl := oj h;refine hKn3 _ _ _ rfl (.nz (.mtE [0, 1] ?_));(cbv; repeat (refine ⟨an_, ?_⟩; cbv))
     ·cbv;refine .at _ hni4 (by decide) ?_;cbv;refine .at _ hni4 (by decide) ?_;cbv;obtain rfl := oj h;refine hKn3 _ _ _ rfl (.nz (.mtE [0, 1] ?_));(cbv; repeat (refine ⟨an_, ?_⟩; cbv))
     )
   obtain ⟨v3, rfl⟩ := ez t;cbv;refine brkG h ?_ ?_ <;> intro h
   ·cbv;obtain rfl := oj h;obtain rfl := hr2 _ rfl;obtain rfl := hr1 _ rfl;exact hK _ _ aw_
   ·cbv;obtain rfl := oj h;refine hKn2 _ _ _ rfl (.nz (.mtE [0, 1] ?_));(cbv; repeat (refine ⟨an_, ?_⟩; cbv))
  ·cbv;obtain rfl := oj h;obtain rfl := hr2 _ rfl;refine hKn1 _ _ _ rfl (.nz (.mtE [] ?_));(cbv; repeat (refine ⟨an_, ?_⟩; cbv))
 cbv;obtain rfl := oj h;exact hK _ _ aw_
end Go.SX.Td
namespace Go.SX.Td
open Go Go.SX Go.Proofs
set_option maxRecDepth 100000
def c21r0 : List GOp := [
 gv 2 (.box 38 (.tmp 0)),
 gv 3 (.box 38 (.tmp 1)),
 gv 4 (.mv (.const (.bool false)))]
def c21r1 : List GOp := [
 gv 5 (.mv (.const (.int .i64 0)))]
def c21r2 : List GOp := [
 gv 6 (.mv (.tmp 5)),
 gv 7 (.bin .lss (.tmp 6) (.const (.int .i64 10)))]
def c21r3 : List GOp := [
 gv 10 (.mv (.tmp 5)),
 gv 11 (.idxP 10 1 (.tmp 2) (.tmp 10)),
 gv 12 (.load 1 false (.tmp 11)),
 gv 13 (.mv (.tmp 5)),
 gv 14 (.idxP 10 1 (.tmp 3) (.tmp 13)),
 gv 15 (.load 1 false (.tmp 14)),
 gv 16 (.bin .neq (.tmp 12) (.tmp 15))]
def c21r4 : List GOp := [
 gv 17 (.mv (.tmp 5)),
 gv 18 (.idxP 10 1 (.tmp 2) (.tmp 17)),
 gv 19 (.load 1 false (.tmp 18)),
 gv 20 (.mv (.tmp 5)),
 gv 21 (.idxP 10 1 (.tmp 3) (.tmp 20)),
 gv 22 (.load 1 false (.tmp 21)),
 gv 23 (.bin .lss (.tmp 19) (.tmp 22)),
 gv 4 (.mv (.tmp 23))]
def c21r5 : List GOp := [
 gv 8 (.mv (.tmp 5)),
 gv 9 (.bin .add (.tmp 8) (.const (.int .i64 1))),
 gv 5 (.mv (.tmp 9))]
def c21l6 : DE := .seq (.seq (.reg c21r2) (.cond (.tmp 7) (.skip) (.exit 0))) (.seq (.block 1 (.join (.par true true true 6 c21r3) (.cond (.tmp 16) (.seq (.par true true true 6 c21r4) (.ret)) (.skip)))) (.reg c21r5))
def c21r7 : List GOp := [
 gv 4 (.mv (.const (.bool false)))]
def c21 : EFn := ⟨24, .seq (.reg c21r0) (.join (.seq (.reg c21r1) (.block 0 (.loop c21l6))) (.seq (.reg c21r7) (.ret))), [.tmp 4]⟩
theorem c21_ok : compF Tryd.prog 21 = some c21.er := by kernel_rfl
set_option maxHeartbeats 4000000 in
theorem ref15_Less_R {P : Program} (hP : P = Tryd.prog) (f : (A10 Int)) (g : (A10 Int)) (r : Bool) (h : ref15_Less_g f g = some r) : Fn1 P 21 [vA10Ii64 f, vA10Ii64 g] (vB r) := by
 refine .walkE (hP ▸ c21_ok) fun K hK => ?_;unfold ref15_Less_g at h;cbv;refine .ga h (fun (_ : Unit) => rp 24 .top) (fun _ => []) (fun y hm hr1 Kn1 hKn1 => ?_) fun t h => ?_
 ·have h := hm;clear hm;cbv;refine .g h (fun (i1 : Int) => [.top, .top, .ptr 0 0, .ptr 1 0, .top, oi i1] ++ rp 18 .top) (fun i1 => [.cells (ca f) 38, .cells (ca g) 38]) (.nz (.mtE [0, 1] ?_)) fun s x h hr2 Kn2 hKn2 => ?_
  ·(cbv; repeat (refine ⟨an_, ?_⟩; cbv))
  unfold ref15_Less_l2 at h;obtain ⟨i1, rfl⟩ := ez s;cbv;refine brkG h ?_ ?_ <;> intro h
  ·cbv;refine .g h (fun (v2 : Bool) => [.top, .top, .ptr 0 0, .ptr 1 0, .top, oi i1] ++ rp 10 .top ++ [ob v2] ++ rp 7 .top) (fun v2 => [.cells (ca f) 38, .cells (ca g) 38]) (fun y hm Kn3 hKn3 => ?_) fun t h => ?_
   ·have h := hm;clear hm;cbv
    refine .c10 h ?_ ?_ ?_ ?_ ?_ ?_ ?_ ?_ ?_ ?_ <;> (
     intro hni3 h;cbv;refine .at _ hni3 (by decide) ?_;cbv;obtain rfl := oj h;refine hKn3 _ _ _ rfl (.nz (.mtE [0, 1] ?_));(cbv; repeat (refine ⟨an_, ?_⟩; cbv))
     )
   obtain ⟨v2, rfl⟩ := ez t;cbv;refine brkG h ?_ ?_ <;> intro h
   ·cbv
    refine .c10 h ?_ ?_ ?_ ?_ ?_ ?_ ?_ ?_ ?_ ?_ <;> (
     intro hni4 h;cbv;refine .at _ hni4 (by decide) ?_;cbv;obtain rfl := oj h;obtain rfl := hr2 _ rfl;obtain rfl := hr1 _ rfl;exact hK _ _ aw_
     )
   ·cbv;obtain rfl := oj h;refine hKn2 _ _ _ rfl (.nz (.mtE [0, 1] ?_));(cbv; repeat (refine ⟨an_, ?_⟩; cbv))
  ·cbv;obtain rfl := oj h;obtain rfl := hr2 _ rfl;refine hKn1 _ _ _ rfl (.nz (.mtE [] ?_));(cbv; repeat (refine ⟨an_, ?_⟩; cbv))
 cbv;obtain rfl := oj h;exact hK _ _ aw_
end Go.SX.Td
namespace Go.SX.Td
open Go Go.SX Go.Proofs
set_option maxRecDepth 100000
noncomputable def law15_VerifySound_g (p : Policy) (t_ : Table) (f : (A10 Int)) : Option (Bool) :=
 Option.bind (law15_head_g) fun up1 =>
 Option.bind (
 Option.bind (law15_few_g p t_) fun v3 =>
 bif (io.not v3) then (
 some true
 ) else (
 Option.bind (ref14_Within_g f) fun v4 =>
 bif (io.not v4) then (
 some true
 ) else (
 Option.bind (decide_Valid_g p) fun v5 =>
 bif (io.not v5) then (
 some true
 ) else (
 Option.bind (table_Valid_g t_) fun v6 =>
 some (io.not v6)
 )
 )
 )
 ) fun v2 =>
 bif v2 then (
 some up1
 ) else (
 Option.bind (verify_Differ_g p t_) fun v7 =>
 Option.bind (decide_Decide_g p f) fun v8 =>
 Option.bind (table_Lookup_g t_ f) fun v9 =>
 bif (io.not v7.2) then (
 bif up1 then (
 bif (qDecision v8 v9) then (
 some (qA10Ii64 v7.1 (A10.mk 0 0 0 0 0 0 0 0 0 0))
 ) else (
 some false
 )
 ) else (
 some false
 )
 ) else (
 bif up1 then (
 Option.bind (ref14_Within_g v7.1) fun v10 =>
 bif v10 then (
 Option.bind (decide_Decide_g p v7.1) fun v11 =>
 Option.bind (table_Lookup_g t_ v7.1) fun v12 =>
 bif (io.not (qDecision v11 v12)) then (
 bif (qDecision v8 v9) then (
 some true
 ) else (
 Option.bind (ref15_Less_g f v7.1) fun v13 =>
 some (io.not v13)
 )
 ) else (
 some false
 )
 ) else (
 some false
 )
 ) else (
 some false
 )
 )
 )
end Go.SX.Td
namespace Go.SX.Td
open Go Go.SX Go.Proofs
set_option maxRecDepth 100000
def c5r0 : List GOp := [
 gv 3 (.box 24 (.tmp 0)),
 gv 4 (.box 28 (.tmp 1)),
 gv 5 (.box 38 (.tmp 2)),
 gv 6 (.mv (.const (.bool false)))]
def c5r1 : List GOp := [
 gv 11 (.call 13 []),
 gv 7 (.mv (.tmp 11))]
def c5r2 : List GOp := [
 gv 12 (.load 1 true (.tmp 3)),
 gv 13 (.load 2 true (.tmp 4)),
 gv 14 (.call 14 [(.tmp 12), (.tmp 13)]),
 gv 15 (.un .not (.tmp 14)),
 gv 16 (.mv (.tmp 15)),
 gw 17 16 false (.load 10 true (.tmp 5)),
 gw 18 16 false (.call 18 [(.tmp 17)]),
 gw 19 16 false (.un .not (.tmp 18)),
 gv 20 (.pick (.tmp 16) (.const (.bool true)) (.tmp 19)),
 gv 21 (.mv (.tmp 20)),
 gw 22 21 false (.load 1 true (.tmp 3)),
 gw 23 21 false (.call 15 [(.tmp 22)]),
 gw 24 21 false (.un .not (.tmp 23)),
 gv 25 (.pick (.tmp 21) (.const (.bool true)) (.tmp 24)),
 gv 26 (.mv (.tmp 25)),
 gw 27 26 false (.load 2 true (.tmp 4)),
 gw 28 26 false (.call 17 [(.tmp 27)]),
 gw 29 26 false (.un .not (.tmp 28)),
 gv 30 (.pick (.tmp 26) (.const (.bool true)) (.tmp 29))]
def c5r3 : List GOp := [
 gv 31 (.mv (.tmp 7)),
 gv 6 (.mv (.tmp 31))]
def c5r4 : List GOp := [
 gv 33 (.load 1 true (.tmp 3)),
 gv 34 (.load 2 true (.tmp 4)),
 gv 35 (.call 16 [(.tmp 33), (.tmp 34)]),
 gv 32 (.mv (.tmp 35)),
 gv 36 (.ext (.tmp 32) 0),
 gv 37 (.ext (.tmp 32) 1),
 gv 8 (.alloc 38 (.agg #[oz, oz, oz, oz, oz, oz, oz, oz, oz, oz])),
 ⟨none, .store 10 (.tmp 8) (.tmp 36), none⟩,
 gv 9 (.mv (.tmp 37))]
def c5r5 : List GOp := [
 gv 38 (.load 1 true (.tmp 3)),
 gv 39 (.load 10 true (.tmp 5)),
 gv 40 (.call 19 [(.tmp 38), (.tmp 39)]),
 gv 41 (.load 2 true (.tmp 4)),
 gv 42 (.load 10 true (.tmp 5)),
 gv 43 (.call 20 [(.tmp 41), (.tmp 42)]),
 gv 44 (.beq false [.bool, .bool, .bool, .int, .int, .int, .int, .int, .int, .int, .int, .int, .int, .int, .int, .int] (.tmp 40) (.tmp 43)),
 gv 10 (.mv (.tmp 44))]
def c5r6 : List GOp := [
 gv 45 (.mv (.tmp 9)),
 gv 46 (.un .not (.tmp 45))]
def c5r7 : List GOp := [
 gv 47 (.mv (.tmp 7)),
 gv 48 (.mv (.tmp 47)),
 gw 49 48 true (.mv (.tmp 10)),
 gv 50 (.pick (.tmp 48) (.tmp 49) (.const (.bool false))),
 gv 51 (.mv (.tmp 50)),
 gw 52 51 true (.load 10 true (.tmp 8)),
 gw 53 51 true (.build (.agg #[oz, oz, oz, oz, oz, oz, oz, oz, oz, oz]) []),
 gw 54 51 true (.beq false [.int, .int, .int, .int, .int, .int, .int, .int, .int, .int] (.tmp 52) (.tmp 53)),
 gv 55 (.pick (.tmp 51) (.tmp 54) (.const (.bool false))),
 gv 6 (.mv (.tmp 55))]
def c5r8 : List GOp := [
 gv 56 (.mv (.tmp 7)),
 gv 57 (.mv (.tmp 56)),
 gw 58 57 true (.load 10 true (.tmp 8)),
 gw 59 57 true (.call 18 [(.tmp 58)]),
 gv 60 (.pick (.tmp 57) (.tmp 59) (.const (.bool false))),
 gv 61 (.mv (.tmp 60)),
 gw 62 61 true (.load 1 true (.tmp 3)),
 gw 63 61 true (.load 10 true (.tmp 8)),
 gw 64 61 true (.call 19 [(.tmp 62), (.tmp 63)]),
 gw 65 61 true (.load 2 true (.tmp 4)),
 gw 66 61 true (.load 10 true (.tmp 8)),
 gw 67 61 true (.call 20 [(.tmp 65), (.tmp 66)]),
 gw 68 61 true (.beq true [.bool, .bool, .bool, .int, .int, .int, .int, .int, .int, .int, .int, .int, .int, .int, .int, .int] (.tmp 64) (.tmp 67)),
 gv 69 (.pick (.tmp 61) (.tmp 68) (.const (.bool false))),
 gv 70 (.mv (.tmp 69)),
 gw 71 70 true (.mv (.tmp 10)),
 gw 72 70 true (.mv (.tmp 71)),
 gw 73 72 false (.load 10 true (.tmp 5)),
 gw 74 72 false (.load 10 true (.tmp 8)),
 gw 75 72 false (.call 21 [(.tmp 73), (.tmp 74)]),
 gw 76 72 false (.un .not (.tmp 75)),
 gw 77 70 true (.pick (.tmp 72) (.const (.bool true)) (.tmp 76)),
 gv 78 (.pick (.tmp 70) (.tmp 77) (.const (.bool false))),
 gv 6 (.mv (.tmp 78))]
def c5 : EFn := ⟨79, .seq (.reg c5r0) (.seq (.reg c5r1) (.seq (.join (.reg c5r2) (.cond (.tmp 30) (.seq (.reg c5r3) (.ret)) (.skip))) (.seq (.reg c5r4) (.seq (.par false false false 5 c5r5) (.seq (.seq (.reg c5r6) (.cond (.tmp 46) (.seq (.reg c5r7) (.ret)) (.skip))) (.seq (.par false false false 19 c5r8) (.ret))))))), [.tmp 6]⟩
theorem c5_ok : compF Tryd.prog 5 = some c5.er := by kernel_rfl
set_option maxHeartbeats 4000000 in
theorem law15_VerifySound_R {P : Program} (hP : P = Tryd.prog) (p : Policy) (t_ : Table) (f : (A10 Int)) (r : Bool) (h : law15_VerifySound_g p t_ f = some r) : Fn1 P 5 [vPolicy p, vTable t_, vA10Ii64 f] (vB r) := by
 refine .walkE (hP ▸ c5_ok) fun K hK => ?_;unfold law15_VerifySound_g at h;cbv;refine .g h (fun v hv => law15_head_R hP v hv) aw_ rfl (fun _ => rfl) fun up1 h => ?_;cbv;refine .g h (fun (v2 : Bool) => rp 3 .top ++ [.ptr 0 0, .ptr 1 0, .ptr 2 0, .top, ob up1] ++ rp 22 .top ++ [ob v2] ++ rp 48 .top) (fun v2 => [.cells [.d (.sl (W eRule p.Rules))] 24, .cells [.d (.sl (W eNode t_.Nodes)), .d (.sl (W eDecision t_.Leaves))] 28, .cells (ca f) 38]) (fun y hm Kn1 hKn1 => ?_) fun t h => ?_
 ·have h := hm;clear hm;cbv;refine .g h (fun v hv => law15_few_R hP _ _ v hv) aw_ rfl (fun _ => rfl) fun v3 h => ?_;cbv;refine brkG h ?_ ?_ <;> intro h
  ·cbv;obtain rfl := oj h;refine hKn1 _ _ _ rfl (.nz (.mtE [0, 1, 2] ?_));(cbv; repeat (refine ⟨an_, ?_⟩; cbv))
  ·cbv;refine .g h (fun v hv => ref14_Within_R hP _ v hv) aw_ rfl (fun _ => rfl) fun v4 h => ?_;cbv;refine brkG h ?_ ?_ <;> intro h
   ·cbv;obtain rfl := oj h;refine hKn1 _ _ _ rfl (.nz (.mtE [0, 1, 2] ?_));(cbv; repeat (refine ⟨an_, ?_⟩; cbv))
   ·cbv;refine .g h (fun v hv => decide_Valid_R hP _ v hv) aw_ rfl (fun _ => rfl) fun v5 h => ?_;cbv;refine brkG h ?_ ?_ <;> intro h
    ·cbv;obtain rfl := oj h;refine hKn1 _ _ _ rfl (.nz (.mtE [0, 1, 2] ?_));(cbv; repeat (refine ⟨an_, ?_⟩; cbv))
    ·cbv;refine .g h (fun v hv => table_Valid_R hP _ v hv) aw_ rfl (fun _ => rfl) fun v6 h => ?_;cbv;obtain rfl := oj h;refine hKn1 _ _ _ rfl (.nz (.mtE [0, 1, 2] ?_));(cbv; repeat (refine ⟨an_, ?_⟩; cbv))
 obtain ⟨v2, rfl⟩ := ez t;cbv;refine brkG h ?_ ?_ <;> intro h
 ·cbv;obtain rfl := oj h;exact hK _ _ aw_
 ·cbv;refine .g h (fun v hv => verify_Differ_R hP _ _ v hv) aw_ rfl (fun _ => rfl) fun v7 h => ?_;cbv;refine .g h (fun v hv => decide_Decide_R hP _ _ v hv) aw_ rfl (fun _ => rfl) fun v8 h => ?_;cbv;refine .g h (fun v hv => table_Lookup_R hP _ _ v hv) aw_ rfl (fun _ => rfl) fun v9 h => ?_;cbv;refine brkG h ?_ ?_ <;> intro h
  ·cbv;refine brkG h ?_ ?_ <;> intro h
   ·cbv;refine brkG h ?_ ?_ <;> intro h
    ·cbv;obtain rfl := oj h;exact hK _ _ aw_
    ·cbv;obtain rfl := oj h;exact hK _ _ aw_
   ·cbv;obtain rfl := oj h;exact hK _ _ aw_
  ·cbv;refine brkG h ?_ ?_ <;> intro h
   ·cbv;refine .g h (fun v hv => ref14_Within_R hP _ v hv) aw_ rfl (fun _ => rfl) fun v10 h => ?_;cbv;refine brkG h ?_ ?_ <;> intro h
    ·cbv;refine .g h (fun v hv => decide_Decide_R hP _ _ v hv) aw_ rfl (fun _ => rfl) fun v11 h => ?_;cbv;refine .g h (fun v hv => table_Lookup_R hP _ _ v hv) aw_ rfl (fun _ => rfl) fun v12 h => ?_;cbv;refine brkG h ?_ ?_ <;> intro h
     ·cbv;refine brkG h ?_ ?_ <;> intro h
      ·cbv;obtain rfl := oj h;exact hK _ _ aw_
      ·cbv;refine .g h (fun v hv => ref15_Less_R hP _ _ v hv) aw_ rfl (fun _ => rfl) fun v13 h => ?_;cbv;obtain rfl := oj h;exact hK _ _ aw_
     ·cbv;obtain rfl := oj h;exact hK _ _ aw_
    ·cbv;obtain rfl := oj h;exact hK _ _ aw_
   ·cbv;obtain rfl := oj h;exact hK _ _ aw_
end Go.SX.Td
