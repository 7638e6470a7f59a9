/- Parts of the proof. -/
import Derived.Test.YtllbabjgpdmblaaDoorZTdT
import Derived.Test.YtllbabjgpdmblaaDoorZTd17
import Derived.Test.YtllbabjgpdmblaaDoorZTd22
import Derived.Test.YtllbabjgpdmblaaDoorZTd24
import Derived.Test.YtllbabjgpdmblaaDoorZTd9d
set_option linter.unusedSimpArgs false
set_option linter.unusedVariables false
set_option linter.unusedSectionVars false
namespace Go.SX.Td
open Go Go.SX Go.Proofs
set_option maxRecDepth 100000
def c9r0 : List GOp := [
 gv 3 (.box 24 (.tmp 0)),
 gv 4 (.box 38 (.tmp 1)),
 gv 5 (.box 38 (.tmp 2)),
 gv 6 (.mv (.const (.bool false)))]
def c9r1 : List GOp := [
 gv 15 (.call 22 []),
 gv 7 (.mv (.tmp 15))]
def c9r2 : List GOp := [
 gv 16 (.load 1 true (.tmp 3)),
 gv 17 (.call 23 [(.tmp 16)]),
 gv 18 (.un .not (.tmp 17))]
def c9r3 : List GOp := [
 gv 19 (.mv (.tmp 7)),
 gv 6 (.mv (.tmp 19))]
def c9r4 : List GOp := [
 gv 21 (.load 1 true (.tmp 3)),
 gv 22 (.call 24 [(.tmp 21)]),
 gv 20 (.mv (.tmp 22)),
 gv 23 (.ext (.tmp 20) 0),
 gv 24 (.ext (.tmp 20) 1),
 gv 8 (.alloc 28 (.agg #[(.slice none 0 0), (.slice none 0 0)])),
 ⟨none, .store 2 (.tmp 8) (.tmp 23), none⟩,
 gv 9 (.mv (.tmp 24))]
def c9r5 : List GOp := [
 gv 25 (.mv (.tmp 9)),
 gv 26 (.bin .neq (.tmp 25) (.const (.int .i64 0)))]
def c9r6 : List GOp := [
 gv 27 (.mv (.tmp 7)),
 gv 6 (.mv (.tmp 27))]
def c9r7 : List GOp := [
 gv 28 (.load 10 true (.tmp 5)),
 gv 10 (.alloc 38 (.agg #[oz, oz, oz, oz, oz, oz, oz, oz, oz, oz])),
 ⟨none, .store 10 (.tmp 10) (.tmp 28), none⟩]
def c9r8 : List GOp := [
 gv 11 (.mv (.const (.int .i64 0)))]
def c9r9 : List GOp := [
 gv 12 (.mv (.const (.int .i64 0)))]
def c9r10 : List GOp := [
 gv 29 (.mv (.tmp 12)),
 gv 30 (.bin .leq (.tmp 29) (.const (.int .i64 10))),
 gv 31 (.mv (.tmp 30)),
 gw 32 31 true (.mv (.tmp 11)),
 gw 33 31 true (.bin .geq (.tmp 32) (.const (.int .i64 0))),
 gv 34 (.pick (.tmp 31) (.tmp 33) (.const (.bool false))),
 gv 35 (.mv (.tmp 34)),
 gw 36 35 true (.mv (.tmp 11)),
 gw 37 35 true (.fadd 0 (.tmp 8)),
 gw 38 35 true (.load 1 false (.tmp 37)),
 gw 39 35 true (.len false (.tmp 38)),
 gw 40 35 true (.bin .lss (.tmp 36) (.tmp 39)),
 gv 41 (.pick (.tmp 35) (.tmp 40) (.const (.bool false))),
 gv 42 (.mv (.tmp 41)),
 gw 43 42 true (.fadd 0 (.tmp 8)),
 gw 44 42 true (.load 1 false (.tmp 43)),
 gw 45 42 true (.mv (.tmp 11)),
 gw 46 42 true (.idxA 4 (.tmp 44) (.tmp 45)),
 gw 47 42 true (.fadd 2 (.tmp 46)),
 gw 48 42 true (.load 1 false (.tmp 47)),
 gw 49 42 true (.len false (.tmp 48)),
 gw 50 42 true (.bin .gtr (.tmp 49) (.const (.int .i64 0))),
 gv 51 (.pick (.tmp 42) (.tmp 50) (.const (.bool false)))]
def c9r11 : List GOp := [
 gv 54 (.fadd 0 (.tmp 8)),
 gv 55 (.load 1 false (.tmp 54)),
 gv 56 (.mv (.tmp 11)),
 gv 57 (.idxA 4 (.tmp 55) (.tmp 56)),
 gv 58 (.load 4 true (.tmp 57)),
 gv 13 (.alloc 64 (.agg #[oz, (.slice none 0 0), (.slice none 0 0), oz])),
 ⟨none, .store 4 (.tmp 13) (.tmp 58), none⟩]
def c9r12 : List GOp := [
 gv 14 (.mv (.const (.int .i64 0)))]
def c9r13 : List GOp := [
 gv 59 (.mv (.tmp 14)),
 gv 60 (.fadd 1 (.tmp 13)),
 gv 61 (.load 1 false (.tmp 60)),
 gv 62 (.len false (.tmp 61)),
 gv 63 (.bin .lss (.tmp 59) (.tmp 62)),
 gv 64 (.mv (.tmp 63)),
 gw 65 64 true (.fadd 1 (.tmp 13)),
 gw 66 64 true (.load 1 false (.tmp 65)),
 gw 67 64 true (.mv (.tmp 14)),
 gw 68 64 true (.idxA 1 (.tmp 66) (.tmp 67)),
 gw 69 64 true (.load 1 false (.tmp 68)),
 gw 70 64 true (.fadd 0 (.tmp 13)),
 gw 71 64 true (.load 1 false (.tmp 70)),
 gw 72 64 true (.idxP 10 1 (.tmp 4) (.tmp 71)),
 gw 73 64 true (.load 1 false (.tmp 72)),
 gw 74 64 true (.bin .leq (.tmp 69) (.tmp 73)),
 gv 75 (.pick (.tmp 64) (.tmp 74) (.const (.bool false)))]
def c9r14 : List GOp := [
 gv 76 (.mv (.tmp 14)),
 gv 77 (.bin .add (.tmp 76) (.const (.int .i64 1))),
 gv 14 (.mv (.tmp 77))]
def c9l15 : DE := .seq (.join (.par true true true 15 c9r13) (.cond (.tmp 75) (.skip) (.exit 2))) (.block 3 (.reg c9r14))
def c9r16 : List GOp := [
 gv 78 (.mv (.tmp 14)),
 gv 79 (.fadd 2 (.tmp 13)),
 gv 80 (.load 1 false (.tmp 79)),
 gv 81 (.len false (.tmp 80)),
 gv 82 (.bin .geq (.tmp 78) (.tmp 81))]
def c9r17 : List GOp := [
 gv 6 (.mv (.const (.bool false)))]
def c9r18 : List GOp := [
 gv 83 (.fadd 0 (.tmp 13)),
 gv 84 (.load 1 false (.tmp 83)),
 gv 85 (.fadd 0 (.tmp 13)),
 gv 86 (.load 1 false (.tmp 85)),
 gv 87 (.idxP 10 1 (.tmp 4) (.tmp 86)),
 gv 88 (.load 1 false (.tmp 87)),
 gv 89 (.idxP 10 1 (.tmp 10) (.tmp 84))]
def c9r18z : GOp := ⟨none, .store 1 (.tmp 89) (.tmp 88), none⟩
def c9r19 : List GOp := [
 gv 90 (.mv (.tmp 14)),
 gv 91 (.bin .gtr (.tmp 90) (.const (.int .i64 0)))]
def c9r20 : List GOp := [
 gv 92 (.fadd 0 (.tmp 13)),
 gv 93 (.load 1 false (.tmp 92)),
 gv 94 (.fadd 1 (.tmp 13)),
 gv 95 (.load 1 false (.tmp 94)),
 gv 96 (.mv (.tmp 14)),
 gv 97 (.bin .sub (.tmp 96) (.const (.int .i64 1))),
 gv 98 (.idxA 1 (.tmp 95) (.tmp 97)),
 gv 99 (.load 1 false (.tmp 98)),
 gv 100 (.idxP 10 1 (.tmp 10) (.tmp 93))]
def c9r20z : GOp := ⟨none, .store 1 (.tmp 100) (.tmp 99), none⟩
def c9r21 : List GOp := [
 gv 101 (.fadd 2 (.tmp 13)),
 gv 102 (.load 1 false (.tmp 101)),
 gv 103 (.mv (.tmp 14)),
 gv 104 (.idxA 1 (.tmp 102) (.tmp 103)),
 gv 105 (.load 1 false (.tmp 104)),
 gv 11 (.mv (.tmp 105))]
def c9r22 : List GOp := [
 gv 52 (.mv (.tmp 12)),
 gv 53 (.bin .add (.tmp 52) (.const (.int .i64 1))),
 gv 12 (.mv (.tmp 53))]
def c9l23 : DE := .seq (.join (.reg c9r10) (.cond (.tmp 51) (.skip) (.exit 0))) (.join (.block 1 (.seq (.reg c9r11) (.seq (.reg c9r12) (.join (.block 2 (.loop c9l15)) (.seq (.seq (.reg c9r16) (.cond (.tmp 82) (.seq (.reg c9r17) (.ret)) (.skip))) (.join (.hyl true true 6 c9r18 c9r18z) (.join (.seq (.reg c9r19) (.cond (.tmp 91) (.hyl true true 8 c9r20 c9r20z) (.skip))) (.reg c9r21)))))))) (.reg c9r22))
def c9r24 : List GOp := [
 gv 106 (.mv (.tmp 7)),
 gv 107 (.mv (.tmp 106)),
 gw 108 107 true (.load 2 true (.tmp 8)),
 gw 109 107 true (.load 10 true (.tmp 4)),
 gw 110 107 true (.call 20 [(.tmp 108), (.tmp 109)]),
 gw 111 107 true (.load 2 true (.tmp 8)),
 gw 112 107 true (.load 10 true (.tmp 10)),
 gw 113 107 true (.call 20 [(.tmp 111), (.tmp 112)]),
 gw 114 107 true (.beq false [.bool, .bool, .bool, .int, .int, .int, .int, .int, .int, .int, .int, .int, .int, .int, .int, .int] (.tmp 110) (.tmp 113)),
 gv 115 (.pick (.tmp 107) (.tmp 114) (.const (.bool false))),
 gv 6 (.mv (.tmp 115))]
def c9 : EFn := ⟨116, .seq (.reg c9r0) (.seq (.reg c9r1) (.seq (.seq (.reg c9r2) (.cond (.tmp 18) (.seq (.reg c9r3) (.ret)) (.skip))) (.seq (.reg c9r4) (.seq (.seq (.reg c9r5) (.cond (.tmp 26) (.seq (.reg c9r6) (.ret)) (.skip))) (.seq (.reg c9r7) (.seq (.reg c9r8) (.join (.seq (.reg c9r9) (.block 0 (.loop c9l23))) (.seq (.par false false false 7 c9r24) (.ret))))))))), [.tmp 6]⟩
theorem c9_ok : compF Tryd.prog 9 = some c9.er := by kernel_rfl
set_option maxHeartbeats 4000000 in
theorem law14_TableAsked_R {P : Program} (hP : P = Tryd.prog) (p : Policy) (f : (A10 Int)) (other : (A10 Int)) (r : Bool) (h : law14_TableAsked_g p f other = some r) : Fn1 P 9 [vPolicy p, vA10Ii64 f, vA10Ii64 other] (vB r) := by
 refine .walkE (hP ▸ c9_ok) fun K hK => ?_;unfold law14_TableAsked_g at h;cbv;refine .g h (fun v hv => law14_head_R hP v hv) aw_ rfl (fun _ => rfl) fun up1 h => ?_;cbv;refine .g h (fun v hv => ref14_Few_R hP _ v hv) aw_ rfl (fun _ => rfl) fun v2 h => ?_;cbv;refine brkG h ?_ ?_ <;> intro h
 ·cbv;obtain rfl := oj h;exact hK _ _ aw_
 ·cbv;refine .g h (fun v hv => table_Build_R hP _ v hv) aw_ rfl (fun _ => rfl) fun v3 h => ?_;cbv;refine brkG h ?_ ?_ <;> intro h
  ·cbv;obtain rfl := oj h;exact hK _ _ aw_
  ·cbv;refine .ga h (fun (g4 : (A10 Int)) => rp 4 .top ++ [.ptr 0 0, .top, .top, ob up1, .ptr 1 0, .top, .ptr 2 0] ++ rp 105 .top) (fun g4 => [.cells (ca f) 38, .cells [.d (.sl (W eNode v3.1.Nodes)), .d (.sl (W eDecision v3.1.Leaves))] 28, .cells (ca g4) 38]) (fun y hm hr1 Kn1 hKn1 => ?_) fun t h => ?_
   ·have h := hm;clear hm;cbv;refine .g h (fun ((g5, at6, i7) : (A10 Int) × Int × Int) => rp 4 .top ++ [.ptr 0 0, .top, .top, ob up1, .ptr 1 0, .top, .ptr 2 0, oi at6, oi i7] ++ rp 103 .top) (fun (g5, at6, i7) => [.cells (ca f) 38, .cells [.d (.sl (W eNode v3.1.Nodes)), .d (.sl (W eDecision v3.1.Leaves))] 28, .cells (ca g5) 38]) (.nz (.mtE [1, 3, 4] ?_)) fun s x h hr2 Kn2 hKn2 => ?_
    ·(cbv; repeat (refine ⟨an_, ?_⟩; cbv))
    unfold law14_TableAsked_l22 at h;obtain ⟨g5, at6, i7⟩ := s;cbv;refine .g h (fun (v8 : Bool) => rp 4 .top ++ [.ptr 0 0, .top, .top, ob up1, .ptr 1 0, .top, .ptr 2 0, oi at6, oi i7] ++ rp 38 .top ++ [ob v8] ++ rp 64 .top) (fun v8 => [.cells (ca f) 38, .cells [.d (.sl (W eNode v3.1.Nodes)), .d (.sl (W eDecision v3.1.Leaves))] 28, .cells (ca g5) 38]) (fun y hm Kn3 hKn3 => ?_) fun t h => ?_
    ·have h := hm;clear hm;cbv;refine brkG h ?_ ?_ <;> intro h
     ·cbv;refine brkG h ?_ ?_ <;> intro h
      ·cbv;refine brkG h ?_ ?_ <;> intro h
       ·cbv;refine .g h (fun _ => rfl) fun x9 h => ?_;cbv;obtain rfl := oj h;refine hKn3 _ _ _ rfl (.nz (.mtE [0, 1, 2] ?_));(cbv; repeat (refine ⟨an_, ?_⟩; cbv))
       ·cbv;obtain rfl := oj h;refine hKn3 _ _ _ rfl (.nz (.mtE [0, 1, 2] ?_));(cbv; repeat (refine ⟨an_, ?_⟩; cbv))
      ·cbv;obtain rfl := oj h;refine hKn3 _ _ _ rfl (.nz (.mtE [0, 1, 2] ?_));(cbv; repeat (refine ⟨an_, ?_⟩; cbv))
     ·cbv;obtain rfl := oj h;refine hKn3 _ _ _ rfl (.nz (.mtE [0, 1, 2] ?_));(cbv; repeat (refine ⟨an_, ?_⟩; cbv))
    obtain ⟨v8, rfl⟩ := ez t;cbv;refine brkG h ?_ ?_ <;> intro h
    ·cbv;refine .ga h (fun ((g10, at11) : (A10 Int) × Int) => rp 4 .top ++ [.ptr 0 0, .top, .top, ob up1, .ptr 1 0, .top, .ptr 2 0, oi at11, oi i7] ++ rp 103 .top) (fun (g10, at11) => [.cells (ca f) 38, .cells [.d (.sl (W eNode v3.1.Nodes)), .d (.sl (W eDecision v3.1.Leaves))] 28, .cells (ca g10) 38]) (fun y hm hr3 Kn3 hKn3 => ?_) fun t h => ?_
     ·have h := hm;clear hm;cbv;refine .g h (fun _ => rfl) fun x12 h => ?_;cbv;refine .g h (fun (k13 : Int) => rp 4 .top ++ [.ptr 0 0, .top, .top, ob up1, .ptr 1 0, .top, .ptr 2 0, .top, oi i7, .ptr 3 0, oi k13] ++ rp 101 .top) (fun k13 => [.cells (ca f) 38, .cells [.d (.sl (W eNode v3.1.Nodes)), .d (.sl (W eDecision v3.1.Leaves))] 28, .cells (ca g5) 38, .cells [oi x12.Attr, .d (.sl (W eIi64 x12.Cuts)), .d (.sl (W eIi64 x12.Kids)), oi x12.Leaf] 64]) (fun y hm Kn4 hKn4 => ?_) fun t h => ?_
      ·have h := hm;clear hm;cbv;refine .g h (fun (k14 : Int) => rp 4 .top ++ [.ptr 0 0, .top, .top, ob up1, .ptr 1 0, .top, .ptr 2 0, .top, oi i7, .ptr 3 0, oi k14] ++ rp 101 .top) (fun k14 => [.cells (ca f) 38, .cells [.d (.sl (W eNode v3.1.Nodes)), .d (.sl (W eDecision v3.1.Leaves))] 28, .cells (ca g5) 38, .cells [oi x12.Attr, .d (.sl (W eIi64 x12.Cuts)), .d (.sl (W eIi64 x12.Kids)), oi x12.Leaf] 64]) (.nz (.mtE [0, 1, 2, 3] ?_)) fun s x h hr5 Kn5 hKn5 => ?_
       ·(cbv; repeat (refine ⟨an_, ?_⟩; cbv))
       unfold law14_TableAsked_l26 at h;obtain ⟨k14, rfl⟩ := ez s;cbv;refine .g h (fun (v15 : Bool) => rp 4 .top ++ [.ptr 0 0, .top, .top, ob up1, .ptr 1 0, .top, .ptr 2 0, .top, oi i7, .ptr 3 0, oi k14] ++ rp 60 .top ++ [ob v15] ++ rp 40 .top) (fun v15 => [.cells (ca f) 38, .cells [.d (.sl (W eNode v3.1.Nodes)), .d (.sl (W eDecision v3.1.Leaves))] 28, .cells (ca g5) 38, .cells [oi x12.Attr, .d (.sl (W eIi64 x12.Cuts)), .d (.sl (W eIi64 x12.Kids)), oi x12.Leaf] 64]) (fun y hm Kn6 hKn6 => ?_) fun t h => ?_
       ·have h := hm;clear hm;cbv;refine brkG h ?_ ?_ <;> intro h
        ·cbv;refine .g h (fun _ => rfl) fun x16 h => ?_;cbv
         refine .c10 h ?_ ?_ ?_ ?_ ?_ ?_ ?_ ?_ ?_ ?_ <;> (
          intro hni17 h;cbv;obtain rfl := oj h;refine hKn6 _ _ _ rfl (.nz (.mtE [0, 1, 2, 3] ?_));(cbv; repeat (refine ⟨an_, ?_⟩; cbv))
          )
        ·cbv;obtain rfl := oj h;refine hKn6 _ _ _ rfl (.nz (.mtE [0, 1, 2, 3] ?_));(cbv; repeat (refine ⟨an_, ?_⟩; cbv))
       obtain ⟨v15, rfl⟩ := ez t;cbv;refine brkG h ?_ ?_ <;> intro h
       ·cbv;obtain rfl := oj h;refine hKn5 _ _ _ rfl (.nz (.mtE [0, 1, 2, 3] ?_));(cbv; repeat (refine ⟨an_, ?_⟩; cbv))
       ·cbv;obtain rfl := oj h;obtain rfl := hr5 _ rfl;refine hKn4 _ _ _ rfl (.nz (.mtE [0, 1, 2, 3] ?_));(cbv; repeat (refine ⟨an_, ?_⟩; cbv))
      obtain ⟨k13, rfl⟩ := ez t;cbv;refine brkG h ?_ ?_ <;> intro h
      ·cbv;obtain rfl := oj h;obtain rfl := hr3 _ rfl;obtain rfl := hr2 _ rfl;obtain rfl := hr1 _ rfl;exact hK _ _ aw_
      ·cbv;refine .g h (fun (g18 : (A10 Int)) => rp 4 .top ++ [.ptr 0 0, .top, .top, ob up1, .ptr 1 0, .top, .ptr 2 0, .top, oi i7, .ptr 3 0, oi k13] ++ rp 101 .top) (fun g18 => [.cells (ca f) 38, .cells [.d (.sl (W eNode v3.1.Nodes)), .d (.sl (W eDecision v3.1.Leaves))] 28, .cells (ca g18) 38, .cells [oi x12.Attr, .d (.sl (W eIi64 x12.Cuts)), .d (.sl (W eIi64 x12.Kids)), oi x12.Leaf] 64]) (fun y hm Kn4 hKn4 => ?_) fun t h => ?_
       ·have h := hm;clear hm;cbv
        refine .c10 h ?_ ?_ ?_ ?_ ?_ ?_ ?_ ?_ ?_ ?_ <;> (
         intro hni19 h;cbv;refine .at _ hni19 (by decide) ?_;cbv;obtain rfl := oj h;refine hKn4 _ _ _ rfl (.nz (.mtE [0, 1, 2, 3] ?_));(cbv; repeat (refine ⟨an_, ?_⟩; cbv))
         )
       obtain ⟨g18, rfl⟩ := ez t;cbv;refine .g h (fun (g20 : (A10 Int)) => rp 4 .top ++ [.ptr 0 0, .top, .top, ob up1, .ptr 1 0, .top, .ptr 2 0, .top, oi i7, .ptr 3 0, oi k13] ++ rp 101 .top) (fun g20 => [.cells (ca f) 38, .cells [.d (.sl (W eNode v3.1.Nodes)), .d (.sl (W eDecision v3.1.Leaves))] 28, .cells (ca g20) 38, .cells [oi x12.Attr, .d (.sl (W eIi64 x12.Cuts)), .d (.sl (W eIi64 x12.Kids)), oi x12.Leaf] 64]) (fun y hm Kn4 hKn4 => ?_) fun t h => ?_
       ·have h := hm;clear hm;cbv;refine brkG h ?_ ?_ <;> intro h
        ·cbv;refine .g h (fun _ => rfl) fun x21 h => ?_;cbv
         refine .c10 h ?_ ?_ ?_ ?_ ?_ ?_ ?_ ?_ ?_ ?_ <;> (
          intro hni22 h;cbv;obtain rfl := oj h;refine hKn4 _ _ _ rfl (.nz (.mtE [0, 1, 2, 3] ?_));(cbv; repeat (refine ⟨an_, ?_⟩; cbv))
          )
        ·cbv;obtain rfl := oj h;refine hKn4 _ _ _ rfl (.nz (.mtE [0, 1, 2, 3] ?_));(cbv; repeat (refine ⟨an_, ?_⟩; cbv))
       obtain ⟨g20, rfl⟩ := ez t;cbv;refine .g h (fun _ => rfl) fun x23 h => ?_;cbv;obtain rfl := oj h;refine hKn3 _ _ _ rfl (.nz (.mtE [0, 1, 2] ?_));(cbv; repeat (refine ⟨an_, ?_⟩; cbv))
     obtain ⟨g10, at11⟩ := t;cbv;obtain rfl := oj h;refine hKn2 _ _ _ rfl (.nz (.mtE [0, 1, 2] ?_));(cbv; repeat (refine ⟨an_, ?_⟩; cbv))
    ·cbv;obtain rfl := oj h;obtain rfl := hr2 _ rfl;refine hKn1 _ _ _ rfl (.nz (.mtE [0, 1, 2] ?_));(cbv; repeat (refine ⟨an_, ?_⟩; cbv))
   obtain ⟨g4, rfl⟩ := ez t;cbv;refine brkG h ?_ ?_ <;> intro h
   ·cbv;refine .g h (fun v hv => table_Lookup_R hP _ _ v hv) aw_ rfl (fun _ => rfl) fun v24 h => ?_;cbv;refine .g h (fun v hv => table_Lookup_R hP _ _ v hv) aw_ rfl (fun _ => rfl) fun v25 h => ?_;cbv;obtain rfl := oj h;exact hK _ _ aw_
   ·cbv;obtain rfl := oj h;exact hK _ _ aw_
end Go.SX.Td
