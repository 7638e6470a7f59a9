/- Parts of the proof. -/
import Derived.Test.YtllbabjgpdmblaaDoorZTdT
import Derived.Test.YtllbabjgpdmblaaDoorZTd32d
import Derived.Test.YtllbabjgpdmblaaDoorZTdBuilder
import Derived.Test.YtllbabjgpdmblaaDoorZTd24
import Derived.Test.YtllbabjgpdmblaaDoorZTdSwalkV
set_option linter.unusedSimpArgs false
set_option linter.unusedVariables false
set_option linter.unusedSectionVars false
namespace Go.SX.Td
open Go Go.SX Go.Proofs
set_option maxRecDepth 100000
def c39r0 : List GOp := [
 gv 2 (.box 28 (.tmp 0)),
 gv 3 (.box 64 (.tmp 1)),
 gv 4 (.mv (.const (.bool false)))]
def c39r1 : List GOp := [
 gv 10 (.fadd 2 (.tmp 3)),
 gv 11 (.load 1 false (.tmp 10)),
 gv 12 (.len false (.tmp 11)),
 gv 13 (.bin .eql (.tmp 12) (.const (.int .i64 0)))]
def c39r2 : List GOp := [
 gv 14 (.fadd 1 (.tmp 3)),
 gv 15 (.load 1 false (.tmp 14)),
 gv 16 (.len false (.tmp 15)),
 gv 17 (.bin .eql (.tmp 16) (.const (.int .i64 0))),
 gv 18 (.mv (.tmp 17)),
 gw 19 18 true (.fadd 0 (.tmp 3)),
 gw 20 18 true (.load 1 false (.tmp 19)),
 gw 21 18 true (.bin .eql (.tmp 20) (.const (.int .i64 0))),
 gv 22 (.pick (.tmp 18) (.tmp 21) (.const (.bool false))),
 gv 23 (.mv (.tmp 22)),
 gw 24 23 true (.fadd 3 (.tmp 3)),
 gw 25 23 true (.load 1 false (.tmp 24)),
 gw 26 23 true (.bin .geq (.tmp 25) (.const (.int .i64 0))),
 gv 27 (.pick (.tmp 23) (.tmp 26) (.const (.bool false))),
 gv 28 (.mv (.tmp 27)),
 gw 29 28 true (.fadd 3 (.tmp 3)),
 gw 30 28 true (.load 1 false (.tmp 29)),
 gw 31 28 true (.fadd 1 (.tmp 2)),
 gw 32 28 true (.load 1 false (.tmp 31)),
 gw 33 28 true (.len false (.tmp 32)),
 gw 34 28 true (.bin .lss (.tmp 30) (.tmp 33)),
 gv 35 (.pick (.tmp 28) (.tmp 34) (.const (.bool false))),
 gv 4 (.mv (.tmp 35))]
def c39r3 : List GOp := [
 gv 36 (.fadd 0 (.tmp 3)),
 gv 37 (.load 1 false (.tmp 36)),
 gv 38 (.bin .lss (.tmp 37) (.const (.int .i64 0))),
 gv 39 (.mv (.tmp 38)),
 gw 40 39 false (.fadd 0 (.tmp 3)),
 gw 41 39 false (.load 1 false (.tmp 40)),
 gw 42 39 false (.bin .geq (.tmp 41) (.const (.int .i64 10))),
 gv 43 (.pick (.tmp 39) (.const (.bool true)) (.tmp 42)),
 gv 44 (.mv (.tmp 43)),
 gw 45 44 false (.fadd 3 (.tmp 3)),
 gw 46 44 false (.load 1 false (.tmp 45)),
 gw 47 44 false (.bin .neq (.tmp 46) (.const (.int .i64 0))),
 gv 48 (.pick (.tmp 44) (.const (.bool true)) (.tmp 47)),
 gv 49 (.mv (.tmp 48)),
 gw 50 49 false (.fadd 1 (.tmp 3)),
 gw 51 49 false (.load 1 false (.tmp 50)),
 gw 52 49 false (.len false (.tmp 51)),
 gw 53 49 false (.bin .eql (.tmp 52) (.const (.int .i64 0))),
 gv 54 (.pick (.tmp 49) (.const (.bool true)) (.tmp 53)),
 gv 55 (.mv (.tmp 54)),
 gw 56 55 false (.fadd 2 (.tmp 3)),
 gw 57 55 false (.load 1 false (.tmp 56)),
 gw 58 55 false (.len false (.tmp 57)),
 gw 59 55 false (.fadd 1 (.tmp 3)),
 gw 60 55 false (.load 1 false (.tmp 59)),
 gw 61 55 false (.len false (.tmp 60)),
 gw 62 55 false (.bin .add (.tmp 61) (.const (.int .i64 1))),
 gw 63 55 false (.bin .neq (.tmp 58) (.tmp 62)),
 gv 64 (.pick (.tmp 55) (.const (.bool true)) (.tmp 63))]
def c39r4 : List GOp := [
 gv 4 (.mv (.const (.bool false)))]
def c39r5 : List GOp := [
 gv 65 (.call 26 []),
 gv 66 (.fadd 0 (.tmp 3)),
 gv 67 (.load 1 false (.tmp 66)),
 gv 68 (.idxV 10 2 true (.tmp 65) (.tmp 67)),
 gv 5 (.alloc 55 (.agg #[oz, oz])),
 ⟨none, .store 2 (.tmp 5) (.tmp 68), none⟩]
def c39r6 : List GOp := [
 gv 69 (.fadd 1 (.tmp 3)),
 gv 70 (.load 1 false (.tmp 69)),
 gv 71 (.len false (.tmp 70)),
 gv 72 (.mv (.const (.int .i64 0)))]
def c39r7 : List GOp := [
 gv 73 (.bin .lss (.tmp 72) (.tmp 71))]
def c39r8 : List GOp := [
 gv 74 (.idxA 1 (.tmp 70) (.tmp 72)),
 gv 75 (.load 1 false (.tmp 74)),
 gv 7 (.mv (.tmp 75))]
def c39r9 : List GOp := [
 gv 76 (.mv (.tmp 7)),
 gv 77 (.fadd 0 (.tmp 5)),
 gv 78 (.load 1 false (.tmp 77)),
 gv 79 (.bin .leq (.tmp 76) (.tmp 78)),
 gv 80 (.mv (.tmp 79)),
 gw 81 80 false (.mv (.tmp 7)),
 gw 82 80 false (.fadd 1 (.tmp 5)),
 gw 83 80 false (.load 1 false (.tmp 82)),
 gw 84 80 false (.bin .gtr (.tmp 81) (.tmp 83)),
 gv 85 (.pick (.tmp 80) (.const (.bool true)) (.tmp 84))]
def c39r10 : List GOp := [
 gv 4 (.mv (.const (.bool false)))]
def c39r11 : List GOp := [
 gv 86 (.mv (.tmp 7)),
 gv 87 (.fadd 0 (.tmp 5)),
 ⟨none, .store 1 (.tmp 87) (.tmp 86), none⟩]
def c39r12 : List GOp := [
 gv 88 (.bin .add (.tmp 72) (.const (.int .i64 1))),
 gv 72 (.mv (.tmp 88))]
def c39l13 : DE := .seq (.reg c39r7) (.seq (.cond (.tmp 73) (.skip) (.exit 0)) (.seq (.block 1 (.seq (.reg c39r8) (.seq (.join (.reg c39r9) (.cond (.tmp 85) (.seq (.reg c39r10) (.ret)) (.skip))) (.reg c39r11)))) (.reg c39r12)))
def c39r14 : List GOp := [
 gv 89 (.fadd 2 (.tmp 3)),
 gv 90 (.load 1 false (.tmp 89)),
 gv 91 (.len false (.tmp 90)),
 gv 92 (.mv (.const (.int .i64 0)))]
def c39r15 : List GOp := [
 gv 93 (.bin .lss (.tmp 92) (.tmp 91))]
def c39r16 : List GOp := [
 gv 94 (.mv (.tmp 92)),
 gv 95 (.idxA 1 (.tmp 90) (.tmp 92)),
 gv 96 (.load 1 false (.tmp 95)),
 gv 8 (.mv (.tmp 94)),
 gv 9 (.mv (.tmp 96))]
def c39r17 : List GOp := [
 gv 97 (.mv (.tmp 9)),
 gv 98 (.bin .lss (.tmp 97) (.const (.int .i64 0))),
 gv 99 (.mv (.tmp 98)),
 gw 100 99 false (.mv (.tmp 9)),
 gw 101 99 false (.fadd 0 (.tmp 2)),
 gw 102 99 false (.load 1 false (.tmp 101)),
 gw 103 99 false (.len false (.tmp 102)),
 gw 104 99 false (.bin .geq (.tmp 100) (.tmp 103)),
 gv 105 (.pick (.tmp 99) (.const (.bool true)) (.tmp 104)),
 gv 106 (.mv (.tmp 105)),
 gw 107 106 false (.mv (.tmp 8)),
 gw 108 106 false (.bin .gtr (.tmp 107) (.const (.int .i64 0))),
 gw 109 106 false (.mv (.tmp 108)),
 gw 110 109 true (.fadd 2 (.tmp 3)),
 gw 111 109 true (.load 1 false (.tmp 110)),
 gw 112 109 true (.mv (.tmp 8)),
 gw 113 109 true (.bin .sub (.tmp 112) (.const (.int .i64 1))),
 gw 114 109 true (.idxA 1 (.tmp 111) (.tmp 113)),
 gw 115 109 true (.load 1 false (.tmp 114)),
 gw 116 109 true (.mv (.tmp 9)),
 gw 117 109 true (.bin .eql (.tmp 115) (.tmp 116)),
 gw 118 106 false (.pick (.tmp 109) (.tmp 117) (.const (.bool false))),
 gv 119 (.pick (.tmp 106) (.const (.bool true)) (.tmp 118)),
 gv 120 (.mv (.tmp 119)),
 gw 121 120 false (.fadd 0 (.tmp 2)),
 gw 122 120 false (.load 1 false (.tmp 121)),
 gw 123 120 false (.mv (.tmp 9)),
 gw 124 120 false (.idxA 4 (.tmp 122) (.tmp 123)),
 gw 125 120 false (.fadd 2 (.tmp 124)),
 gw 126 120 false (.load 1 false (.tmp 125)),
 gw 127 120 false (.len false (.tmp 126)),
 gw 128 120 false (.bin .gtr (.tmp 127) (.const (.int .i64 0))),
 gw 129 120 false (.mv (.tmp 128)),
 gw 130 129 true (.fadd 0 (.tmp 2)),
 gw 131 129 true (.load 1 false (.tmp 130)),
 gw 132 129 true (.mv (.tmp 9)),
 gw 133 129 true (.idxA 4 (.tmp 131) (.tmp 132)),
 gw 134 129 true (.fadd 0 (.tmp 133)),
 gw 135 129 true (.load 1 false (.tmp 134)),
 gw 136 129 true (.fadd 0 (.tmp 3)),
 gw 137 129 true (.load 1 false (.tmp 136)),
 gw 138 129 true (.bin .leq (.tmp 135) (.tmp 137)),
 gw 139 120 false (.pick (.tmp 129) (.tmp 138) (.const (.bool false))),
 gv 140 (.pick (.tmp 120) (.const (.bool true)) (.tmp 139))]
def c39r18 : List GOp := [
 gv 4 (.mv (.const (.bool false)))]
def c39r19 : List GOp := [
 gv 141 (.bin .add (.tmp 92) (.const (.int .i64 1))),
 gv 92 (.mv (.tmp 141))]
def c39l20 : DE := .seq (.reg c39r15) (.seq (.cond (.tmp 93) (.skip) (.exit 2)) (.seq (.block 3 (.seq (.reg c39r16) (.join (.par true true true 41 c39r17) (.cond (.tmp 140) (.seq (.reg c39r18) (.ret)) (.skip))))) (.reg c39r19)))
def c39r21 : List GOp := [
 gv 4 (.mv (.const (.bool true)))]
def c39 : EFn := ⟨142, .seq (.reg c39r0) (.seq (.seq (.reg c39r1) (.cond (.tmp 13) (.seq (.reg c39r2) (.ret)) (.skip))) (.seq (.join (.reg c39r3) (.cond (.tmp 64) (.seq (.reg c39r4) (.ret)) (.skip))) (.join (.par false false false 5 c39r5) (.join (.seq (.reg c39r6) (.block 0 (.loop c39l13))) (.join (.seq (.reg c39r14) (.block 2 (.loop c39l20))) (.seq (.reg c39r21) (.ret))))))), [.tmp 4]⟩
theorem c39_ok : compF Tryd.prog 39 = some c39.er := by kernel_rfl
set_option maxHeartbeats 4000000 in
theorem table_formed_R {P : Program} (hP : P = Tryd.prog) (t_ : Table) (n : Node) (r : Bool) (h : table_formed_g t_ n = some r) : Fn1 P 39 [vTable t_, vNode n] (vB r) := by
 refine .walkE (hP ▸ c39_ok) fun K hK => ?_
 unfold table_formed_g at h
 cbv
 refine brkG h ?_ ?_ <;> intro h
 ·cbv
  refine brkG h ?_ ?_ <;> intro h
  ·cbv
   refine brkG h ?_ ?_ <;> intro h
   ·cbv
    refine brkG h ?_ ?_ <;> intro h
    ·cbv
     obtain rfl := oj h
     exact hK _ _ aw_
    ·cbv
     obtain rfl := oj h
     exact hK _ _ aw_
   ·cbv
    obtain rfl := oj h
    exact hK _ _ aw_
  ·cbv
   obtain rfl := oj h
   exact hK _ _ aw_
 ·cbv
  refine .g h (fun (v1 : Bool) => [.top, .top, .ptr 0 0, .ptr 1 0] ++ rp 60 .top ++ [ob v1] ++ rp 77 .top) (fun (v1 : Bool) => [.cells [.d (.sl (W eNode t_.Nodes)), .d (.sl (W eDecision t_.Leaves))] 28, .cells [oi n.Attr, .d (.sl (W eIi64 n.Cuts)), .d (.sl (W eIi64 n.Kids)), oi n.Leaf] 64]) (fun y hm Kn1 hKn1 => ?_) fun t h => ?_
  ·have h := hm
   clear hm
   cbv
   refine brkG h ?_ ?_ <;> intro h
   ·cbv
    obtain rfl := oj h
    refine hKn1 _ _ _ rfl (.nz (.mtE [0, 1] ?_))
    (cbv; repeat (refine ⟨an_, ?_⟩; cbv))
   ·cbv
    refine brkG h ?_ ?_ <;> intro h
    ·cbv
     obtain rfl := oj h
     refine hKn1 _ _ _ rfl (.nz (.mtE [0, 1] ?_))
     (cbv; repeat (refine ⟨an_, ?_⟩; cbv))
    ·cbv
     refine brkG h ?_ ?_ <;> intro h
     ·cbv
      obtain rfl := oj h
      refine hKn1 _ _ _ rfl (.nz (.mtE [0, 1] ?_))
      (cbv; repeat (refine ⟨an_, ?_⟩; cbv))
     ·cbv
      refine brkG h ?_ ?_ <;> intro h
      ·cbv
       obtain rfl := oj h
       refine hKn1 _ _ _ rfl (.nz (.mtE [0, 1] ?_))
       (cbv; repeat (refine ⟨an_, ?_⟩; cbv))
      ·cbv
       obtain rfl := oj h
       refine hKn1 _ _ _ rfl (.nz (.mtE [0, 1] ?_))
       (cbv; repeat (refine ⟨an_, ?_⟩; cbv))
  obtain ⟨v1, rfl⟩ : ∃ z, z = t := ⟨_, rfl⟩
  cbv
  refine brkG h ?_ ?_ <;> intro h
  ·cbv
   obtain rfl := oj h
   exact hK _ _ aw_
  ·cbv
   refine .g h (fun ((Lo2, Hi3) : Int × Int) => [.top, .top, .ptr 0 0, .ptr 1 0, .top, .ptr 2 0] ++ rp 136 .top) (fun ((Lo2, Hi3) : Int × Int) => [.cells [.d (.sl (W eNode t_.Nodes)), .d (.sl (W eDecision t_.Leaves))] 28, .cells [oi n.Attr, .d (.sl (W eIi64 n.Cuts)), .d (.sl (W eIi64 n.Kids)), oi n.Leaf] 64, .cells [oi Lo2, oi Hi3] 55]) (fun y hm Kn1 hKn1 => ?_) fun t h => ?_
   ·have h := hm
    clear hm
    cbv
    refine .g h (fun v hv => resolve_Limits_R hP v hv) aw_ rfl (fun _ => rfl) fun v4 h => ?_
    cbv
    refine .c10 h ?_ ?_ ?_ ?_ ?_ ?_ ?_ ?_ ?_ ?_ <;> (
     intro hni5 h
     cbv
     obtain rfl := oj h
     refine hKn1 _ _ _ rfl (.nz (.mtE [0, 1, 2] ?_))
     (cbv; repeat (refine ⟨an_, ?_⟩; cbv))
     )
   obtain ⟨Lo2, Hi3⟩ := t
   cbv
   refine .ga h (fun (_ : Unit) => [.top, .top, .ptr 0 0, .ptr 1 0] ++ rp 138 .top) (fun (_ : Unit) => [.cells [.d (.sl (W eNode t_.Nodes)), .d (.sl (W eDecision t_.Leaves))] 28, .cells [oi n.Attr, .d (.sl (W eIi64 n.Cuts)), .d (.sl (W eIi64 n.Kids)), oi n.Leaf] 64]) (fun y hm hr1 Kn1 hKn1 => ?_) fun t h => ?_
   ·have h := hm
    clear hm
    cbv
    refine .g h (fun ((Lo6, v7) : Int × Int) => [.top, .top, .ptr 0 0, .ptr 1 0, .top, .ptr 2 0] ++ rp 64 .top ++ [.d (.sl (W eIi64 n.Cuts)), oi (io.len (W eIi64 n.Cuts)), oi v7] ++ rp 69 .top) (fun ((Lo6, v7) : Int × Int) => [.cells [.d (.sl (W eNode t_.Nodes)), .d (.sl (W eDecision t_.Leaves))] 28, .cells [oi n.Attr, .d (.sl (W eIi64 n.Cuts)), .d (.sl (W eIi64 n.Kids)), oi n.Leaf] 64, .cells [oi Lo6, oi Hi3] 55]) (.nz (.mtE [0, 1, 2] ?_)) fun s x h hr2 Kn2 hKn2 => ?_
    ·(cbv; repeat (refine ⟨an_, ?_⟩; cbv))
    unfold table_formed_l2 at h
    obtain ⟨Lo6, v7⟩ := s
    cbv
    refine brkG h ?_ ?_ <;> intro h
    ·cbv
     refine .g h (fun _ => rfl) fun x8 h => ?_
     cbv
     refine .g h (fun (v9 : Bool) => [.top, .top, .ptr 0 0, .ptr 1 0, .top, .ptr 2 0, .top, oi x8] ++ rp 62 .top ++ [.d (.sl (W eIi64 n.Cuts)), oi (io.len (W eIi64 n.Cuts)), oi v7] ++ rp 12 .top ++ [ob v9] ++ rp 56 .top) (fun (v9 : Bool) => [.cells [.d (.sl (W eNode t_.Nodes)), .d (.sl (W eDecision t_.Leaves))] 28, .cells [oi n.Attr, .d (.sl (W eIi64 n.Cuts)), .d (.sl (W eIi64 n.Kids)), oi n.Leaf] 64, .cells [oi Lo6, oi Hi3] 55]) (fun y hm Kn3 hKn3 => ?_) fun t h => ?_
     ·have h := hm
      clear hm
      cbv
      refine brkG h ?_ ?_ <;> intro h
      ·cbv
       obtain rfl := oj h
       refine hKn3 _ _ _ rfl (.nz (.mtE [0, 1, 2] ?_))
       (cbv; repeat (refine ⟨an_, ?_⟩; cbv))
      ·cbv
       obtain rfl := oj h
       refine hKn3 _ _ _ rfl (.nz (.mtE [0, 1, 2] ?_))
       (cbv; repeat (refine ⟨an_, ?_⟩; cbv))
     obtain ⟨v9, rfl⟩ : ∃ z, z = t := ⟨_, rfl⟩
     cbv
     refine brkG h ?_ ?_ <;> intro h
     ·cbv
      obtain rfl := oj h
      obtain rfl := hr2 _ rfl
      obtain rfl := hr1 _ rfl
      exact hK _ _ aw_
     ·cbv
      obtain rfl := oj h
      refine hKn2 _ _ _ rfl (.nz (.mtE [0, 1, 2] ?_))
      (cbv; repeat (refine ⟨an_, ?_⟩; cbv))
    ·cbv
     obtain rfl := oj h
     obtain rfl := hr2 _ rfl
     refine hKn1 _ _ _ rfl (.nz (.mtE [0, 1] ?_))
     (cbv; repeat (refine ⟨an_, ?_⟩; cbv))
   cbv
   refine .ga h (fun (_ : Unit) => rp 142 .top) (fun (_ : Unit) => []) (fun y hm hr1 Kn1 hKn1 => ?_) fun t h => ?_
   ·have h := hm
    clear hm
    cbv
    refine .g h (fun (v10 : Int) => [.top, .top, .ptr 0 0, .ptr 1 0] ++ rp 86 .top ++ [.d (.sl (W eIi64 n.Kids)), oi (io.len (W eIi64 n.Kids)), oi v10] ++ rp 49 .top) (fun (v10 : Int) => [.cells [.d (.sl (W eNode t_.Nodes)), .d (.sl (W eDecision t_.Leaves))] 28, .cells [oi n.Attr, .d (.sl (W eIi64 n.Cuts)), .d (.sl (W eIi64 n.Kids)), oi n.Leaf] 64]) (.nz (.mtE [0, 1] ?_)) fun s x h hr2 Kn2 hKn2 => ?_
    ·(cbv; repeat (refine ⟨an_, ?_⟩; cbv))
    unfold table_formed_l4 at h
    obtain ⟨v10, rfl⟩ : ∃ z, z = s := ⟨_, rfl⟩
    cbv
    refine brkG h ?_ ?_ <;> intro h
    ·cbv
     refine .g h (fun _ => rfl) fun x11 h => ?_
     cbv
     refine .g h (fun (v12 : Bool) => [.top, .top, .ptr 0 0, .ptr 1 0] ++ rp 86 .top ++ [.d (.sl (W eIi64 n.Kids)), oi (io.len (W eIi64 n.Kids)), oi v10] ++ rp 47 .top ++ [ob v12, .top]) (fun (v12 : Bool) => [.cells [.d (.sl (W eNode t_.Nodes)), .d (.sl (W eDecision t_.Leaves))] 28, .cells [oi n.Attr, .d (.sl (W eIi64 n.Cuts)), .d (.sl (W eIi64 n.Kids)), oi n.Leaf] 64]) (fun y hm Kn3 hKn3 => ?_) fun t h => ?_
     ·have h := hm
      clear hm
      cbv
      refine brkG h ?_ ?_ <;> intro h
      ·cbv
       obtain rfl := oj h
       refine hKn3 _ _ _ rfl (.nz (.mtE [0, 1] ?_))
       (cbv; repeat (refine ⟨an_, ?_⟩; cbv))
      ·cbv
       refine brkG h ?_ ?_ <;> intro h
       ·cbv
        obtain rfl := oj h
        refine hKn3 _ _ _ rfl (.nz (.mtE [0, 1] ?_))
        (cbv; repeat (refine ⟨an_, ?_⟩; cbv))
       ·cbv
        refine brkG h ?_ ?_ <;> intro h
        ·cbv
         refine .g h (fun _ => rfl) fun x13 h => ?_
         cbv
         refine brkG h ?_ ?_ <;> intro h
         ·cbv
          obtain rfl := oj h
          refine hKn3 _ _ _ rfl (.nz (.mtE [0, 1] ?_))
          (cbv; repeat (refine ⟨an_, ?_⟩; cbv))
         ·cbv
          refine .g h (fun _ => rfl) fun x14 h => ?_
          cbv
          refine brkG h ?_ ?_ <;> intro h
          ·cbv
           refine .g h (fun _ => rfl) fun x15 h => ?_
           cbv
           obtain rfl := oj h
           refine hKn3 _ _ _ rfl (.nz (.mtE [0, 1] ?_))
           (cbv; repeat (refine ⟨an_, ?_⟩; cbv))
          ·cbv
           obtain rfl := oj h
           refine hKn3 _ _ _ rfl (.nz (.mtE [0, 1] ?_))
           (cbv; repeat (refine ⟨an_, ?_⟩; cbv))
        ·cbv
         refine .g h (fun _ => rfl) fun x16 h => ?_
         cbv
         refine brkG h ?_ ?_ <;> intro h
         ·cbv
          refine .g h (fun _ => rfl) fun x17 h => ?_
          cbv
          obtain rfl := oj h
          refine hKn3 _ _ _ rfl (.nz (.mtE [0, 1] ?_))
          (cbv; repeat (refine ⟨an_, ?_⟩; cbv))
         ·cbv
          obtain rfl := oj h
          refine hKn3 _ _ _ rfl (.nz (.mtE [0, 1] ?_))
          (cbv; repeat (refine ⟨an_, ?_⟩; cbv))
     obtain ⟨v12, rfl⟩ : ∃ z, z = t := ⟨_, rfl⟩
     cbv
     refine brkG h ?_ ?_ <;> intro h
     ·cbv
      obtain rfl := oj h
      obtain rfl := hr2 _ rfl
      obtain rfl := hr1 _ rfl
      exact hK _ _ aw_
     ·cbv
      obtain rfl := oj h
      refine hKn2 _ _ _ rfl (.nz (.mtE [0, 1] ?_))
      (cbv; repeat (refine ⟨an_, ?_⟩; cbv))
    ·cbv
     obtain rfl := oj h
     obtain rfl := hr2 _ rfl
     refine hKn1 _ _ _ rfl (.nz (.mtE [] ?_))
     (cbv; repeat (refine ⟨an_, ?_⟩; cbv))
   cbv
   obtain rfl := oj h
   exact hK _ _ aw_
end Go.SX.Td
namespace Go.SX.Td
open Go Go.SX Go.Proofs
set_option maxRecDepth 100000
def c17r0 : List GOp := [
 gv 1 (.box 28 (.tmp 0)),
 gv 2 (.mv (.const (.bool false)))]
def c17r1 : List GOp := [
 gv 10 (.fadd 0 (.tmp 1)),
 gv 11 (.load 1 false (.tmp 10)),
 gv 12 (.len false (.tmp 11)),
 gv 13 (.bin .lss (.tmp 12) (.const (.int .i64 1))),
 gv 14 (.mv (.tmp 13)),
 gw 15 14 false (.fadd 0 (.tmp 1)),
 gw 16 14 false (.load 1 false (.tmp 15)),
 gw 17 14 false (.len false (.tmp 16)),
 gw 18 14 false (.bin .gtr (.tmp 17) (.const (.int .i64 20000))),
 gv 19 (.pick (.tmp 14) (.const (.bool true)) (.tmp 18))]
def c17r2 : List GOp := [
 gv 2 (.mv (.const (.bool false)))]
def c17r3 : List GOp := [
 gv 20 (.mkm .str false),
 gv 21 (.mkm (.agg [.bool, .bool, .bool, .int, .int, .int, .int, .int, .int, .int, .int, .int, .int, .int, .int, .int]) false),
 gv 3 (.mv (.tmp 20)),
 gv 4 (.mv (.tmp 21))]
def c17r4 : List GOp := [
 gv 5 (.mv (.const (.int .i64 0)))]
def c17r5 : List GOp := [
 gv 22 (.fadd 0 (.tmp 1)),
 gv 23 (.load 1 false (.tmp 22)),
 gv 24 (.len false (.tmp 23)),
 gv 25 (.mv (.const (.int .i64 0)))]
def c17r6 : List GOp := [
 gv 26 (.bin .lss (.tmp 25) (.tmp 24))]
def c17r7 : List GOp := [
 gv 27 (.idxA 4 (.tmp 23) (.tmp 25)),
 gv 28 (.load 4 true (.tmp 27)),
 gv 7 (.alloc 64 (.agg #[oz, (.slice none 0 0), (.slice none 0 0), oz])),
 ⟨none, .store 4 (.tmp 7) (.tmp 28), none⟩]
def c17r8 : List GOp := [
 gv 29 (.fadd 1 (.tmp 7)),
 gv 30 (.load 1 false (.tmp 29)),
 gv 31 (.fadd 2 (.tmp 7)),
 gv 32 (.load 1 false (.tmp 31)),
 gv 33 (.fadd 0 (.tmp 7)),
 gv 34 (.load 1 false (.tmp 33)),
 gv 35 (.fadd 3 (.tmp 7)),
 gv 36 (.load 1 false (.tmp 35)),
 gv 37 (.bslice 3 1 2 oz [(0, (.tmp 34)), (1, (.tmp 36))]),
 gv 38 (.bslice 62 1 3 (.slice none 0 0) [(0, (.tmp 30)), (1, (.tmp 32)), (2, (.tmp 37))]),
 gv 39 (.call 38 [(.tmp 38)]),
 gv 8 (.mv (.tmp 39))]
def c17r9 : List GOp := [
 gv 40 (.mv (.tmp 3)),
 gv 41 (.mv (.tmp 8)),
 gv 42 (.mget .str false false (.bool false) (.tmp 40) (.tmp 41)),
 gv 43 (.mv (.tmp 42)),
 gw 44 43 false (.load 2 true (.tmp 1)),
 gw 45 43 false (.load 4 true (.tmp 7)),
 gw 46 43 false (.call 39 [(.tmp 44), (.tmp 45)]),
 gw 47 43 false (.un .not (.tmp 46)),
 gv 48 (.pick (.tmp 43) (.const (.bool true)) (.tmp 47))]
def c17r10 : List GOp := [
 gv 2 (.mv (.const (.bool false)))]
def c17r11 : List GOp := [
 gv 49 (.mv (.tmp 3)),
 gv 50 (.mv (.tmp 8)),
 ⟨none, .mset .str false (.tmp 49) (.tmp 50) (.const (.bool true)), none⟩]
def c17r12 : List GOp := [
 gv 51 (.fadd 2 (.tmp 7)),
 gv 52 (.load 1 false (.tmp 51)),
 gv 53 (.len false (.tmp 52)),
 gv 54 (.bin .eql (.tmp 53) (.const (.int .i64 0)))]
def c17r13 : List GOp := [
 gv 55 (.fadd 3 (.tmp 7)),
 gv 56 (.load 1 false (.tmp 55)),
 gv 57 (.mv (.tmp 5)),
 gv 58 (.bin .neq (.tmp 56) (.tmp 57)),
 gv 59 (.mv (.tmp 58)),
 gw 60 59 false (.mv (.tmp 4)),
 gw 61 59 false (.fadd 1 (.tmp 1)),
 gw 62 59 false (.load 1 false (.tmp 61)),
 gw 63 59 false (.mv (.tmp 5)),
 gw 64 59 false (.idxA 16 (.tmp 62) (.tmp 63)),
 gw 65 59 false (.load 16 true (.tmp 64)),
 gw 66 59 false (.mget (.agg [.bool, .bool, .bool, .int, .int, .int, .int, .int, .int, .int, .int, .int, .int, .int, .int, .int]) false false (.bool false) (.tmp 60) (.tmp 65)),
 gv 67 (.pick (.tmp 59) (.const (.bool true)) (.tmp 66))]
def c17r14 : List GOp := [
 gv 2 (.mv (.const (.bool false)))]
def c17r15 : List GOp := [
 gv 68 (.mv (.tmp 4)),
 gv 69 (.fadd 1 (.tmp 1)),
 gv 70 (.load 1 false (.tmp 69)),
 gv 71 (.mv (.tmp 5)),
 gv 72 (.idxA 16 (.tmp 70) (.tmp 71)),
 gv 73 (.load 16 true (.tmp 72)),
 ⟨none, .mset (.agg [.bool, .bool, .bool, .int, .int, .int, .int, .int, .int, .int, .int, .int, .int, .int, .int, .int]) false (.tmp 68) (.tmp 73) (.const (.bool true)), none⟩]
def c17r16 : List GOp := [
 gv 74 (.mv (.tmp 5)),
 gv 75 (.bin .add (.tmp 74) (.const (.int .i64 1))),
 gv 5 (.mv (.tmp 75))]
def c17r17 : List GOp := [
 gv 76 (.bin .add (.tmp 25) (.const (.int .i64 1))),
 gv 25 (.mv (.tmp 76))]
def c17l18 : DE := .seq (.reg c17r6) (.seq (.cond (.tmp 26) (.skip) (.exit 0)) (.join (.block 1 (.seq (.reg c17r7) (.seq (.reg c17r8) (.seq (.join (.reg c17r9) (.cond (.tmp 48) (.seq (.reg c17r10) (.ret)) (.skip))) (.seq (.reg c17r11) (.seq (.reg c17r12) (.cond (.tmp 54) (.seq (.join (.reg c17r13) (.cond (.tmp 67) (.seq (.reg c17r14) (.ret)) (.skip))) (.seq (.reg c17r15) (.reg c17r16))) (.skip)))))))) (.reg c17r17)))
def c17r19 : List GOp := [
 gv 9 (.alloc 3 oz),
 ⟨none, .store 1 (.tmp 9) (.const (.int .i64 0)), none⟩]
def c17r20 : List GOp := [
 gv 77 (.fadd 0 (.tmp 1)),
 gv 78 (.load 1 false (.tmp 77)),
 gv 79 (.mkfn (.func 41) [] [(.tmp 9)]),
 gv 80 (.call 40 [(.tmp 78), (.const (.int .i64 0)), (.tmp 79)])]
def c17r21 : List GOp := [
 gv 81 (.load 1 false (.tmp 9)),
 gv 82 (.fadd 0 (.tmp 1)),
 gv 83 (.load 1 false (.tmp 82)),
 gv 84 (.len false (.tmp 83)),
 gv 85 (.bin .eql (.tmp 81) (.tmp 84)),
 gv 86 (.mv (.tmp 85)),
 gw 87 86 true (.mv (.tmp 5)),
 gw 88 86 true (.fadd 1 (.tmp 1)),
 gw 89 86 true (.load 1 false (.tmp 88)),
 gw 90 86 true (.len false (.tmp 89)),
 gw 91 86 true (.bin .eql (.tmp 87) (.tmp 90)),
 gv 92 (.pick (.tmp 86) (.tmp 91) (.const (.bool false))),
 gv 2 (.mv (.tmp 92))]
def c17 : EFn := ⟨93, .seq (.reg c17r0) (.seq (.join (.reg c17r1) (.cond (.tmp 19) (.seq (.reg c17r2) (.ret)) (.skip))) (.seq (.reg c17r3) (.seq (.reg c17r4) (.join (.seq (.reg c17r5) (.block 0 (.loop c17l18))) (.seq (.reg c17r19) (.join (.reg c17r20) (.seq (.reg c17r21) (.ret)))))))), [.tmp 2]⟩
theorem c17_ok : compF Tryd.prog 17 = some c17.er := by kernel_rfl
set_option maxHeartbeats 4000000 in
theorem table_Valid_R {P : Program} (hP : P = Tryd.prog) (t_ : Table) (r : Bool) (h : table_Valid_g t_ = some r) : Fn1 P 17 [vTable t_] (vB r) := by
 refine .walkE (hP ▸ c17_ok) fun K hK => ?_
 unfold table_Valid_g at h
 cbv
 refine .g h (fun (v1 : Bool) => [.top, .ptr 0 0] ++ rp 17 .top ++ [ob v1] ++ rp 73 .top) (fun (v1 : Bool) => [.cells [.d (.sl (W eNode t_.Nodes)), .d (.sl (W eDecision t_.Leaves))] 28]) (fun y hm Kn1 hKn1 => ?_) fun t h => ?_
 ·have h := hm
  clear hm
  cbv
  refine brkG h ?_ ?_ <;> intro h
  ·cbv
   obtain rfl := oj h
   refine hKn1 _ _ _ rfl (.nz (.mtE [0] ?_))
   (cbv; repeat (refine ⟨an_, ?_⟩; cbv))
  ·cbv
   obtain rfl := oj h
   refine hKn1 _ _ _ rfl (.nz (.mtE [0] ?_))
   (cbv; repeat (refine ⟨an_, ?_⟩; cbv))
 obtain ⟨v1, rfl⟩ : ∃ z, z = t := ⟨_, rfl⟩
 cbv
 refine brkG h ?_ ?_ <;> intro h
 ·cbv
  obtain rfl := oj h
  exact hK _ _ aw_
 ·cbv
  refine .ga h (fun (leaf2 : Int) => [.top, .ptr 0 0] ++ rp 3 .top ++ [oi leaf2] ++ rp 87 .top) (fun (leaf2 : Int) => [.cells [.d (.sl (W eNode t_.Nodes)), .d (.sl (W eDecision t_.Leaves))] 28]) (fun y hm hr1 Kn1 hKn1 => ?_) fun t h => ?_
  ·have h := hm
   clear hm
   cbv
   refine .g h (fun ((known3, decisions4, leaf5, v6) : (List (ByteArray × Bool)) × (List (Decision × Bool)) × Int × Int) => [.top, .ptr 0 0, .top, .hd 1, .hd 2, oi leaf5] ++ rp 17 .top ++ [.d (.sl (W eNode t_.Nodes)), oi (io.len (W eNode t_.Nodes)), oi v6] ++ rp 67 .top) (fun ((known3, decisions4, leaf5, v6) : (List (ByteArray × Bool)) × (List (Decision × Bool)) × Int × Int) => [.cells [.d (.sl (W eNode t_.Nodes)), .d (.sl (W eDecision t_.Leaves))] 28, .mp .str false (WM Value.string eB known3), .mp (.agg [.bool, .bool, .bool, .int, .int, .int, .int, .int, .int, .int, .int, .int, .int, .int, .int, .int]) false (WM kwDecision eB decisions4)]) (.nz (.mtE [0, 1, 2] ?_)) fun s x h hr2 Kn2 hKn2 => ?_
   ·(cbv; repeat (refine ⟨an_, ?_⟩; cbv))
   unfold table_Valid_l2 at h
   obtain ⟨known3, decisions4, leaf5, v6⟩ := s
   cbv
   refine brkG h ?_ ?_ <;> intro h
   ·cbv
    refine .ga h (fun ((known7, decisions8, leaf9) : (List (ByteArray × Bool)) × (List (Decision × Bool)) × Int) => [.top, .ptr 0 0, .top, .hd 1, .hd 2, oi leaf9] ++ rp 17 .top ++ [.d (.sl (W eNode t_.Nodes)), oi (io.len (W eNode t_.Nodes)), oi v6] ++ rp 67 .top) (fun ((known7, decisions8, leaf9) : (List (ByteArray × Bool)) × (List (Decision × Bool)) × Int) => [.cells [.d (.sl (W eNode t_.Nodes)), .d (.sl (W eDecision t_.Leaves))] 28, .mp .str false (WM Value.string eB known7), .mp (.agg [.bool, .bool, .bool, .int, .int, .int, .int, .int, .int, .int, .int, .int, .int, .int, .int, .int]) false (WM kwDecision eB decisions8)]) (fun y hm hr3 Kn3 hKn3 => ?_) fun t h => ?_
    ·have h := hm
     clear hm
     cbv
     refine .g h (fun _ => rfl) fun x10 h => ?_
     cbv
     refine .g (e := eIi64) h (W_cons aw_ (W_cons aw_ (W_nil' _))) fun l11 h => ?_
     cbv
     refine .g (e := eLIi64) h (W_cons aw_ (W_cons aw_ (W_cons aw_ (W_nil' _)))) fun l12 h => ?_
     cbv
     refine .gl [] h (fun v hv => table_text_R hP _ v hv) aw_ rfl fun key13 h => ?_
     cbv
     refine .g h (fun (v14 : Bool) => [.top, .ptr 0 0, .top, .hd 1, .hd 2, oi leaf5, .top, .ptr 3 0, .d (.val (.string key13))] ++ rp 14 .top ++ [.d (.sl (W eNode t_.Nodes)), oi (io.len (W eNode t_.Nodes)), oi v6] ++ rp 22 .top ++ [ob v14] ++ rp 44 .top) (fun (v14 : Bool) => [.cells [.d (.sl (W eNode t_.Nodes)), .d (.sl (W eDecision t_.Leaves))] 28, .mp .str false (WM Value.string eB known3), .mp (.agg [.bool, .bool, .bool, .int, .int, .int, .int, .int, .int, .int, .int, .int, .int, .int, .int, .int]) false (WM kwDecision eB decisions4), .cells [oi x10.Attr, .d (.sl (W eIi64 x10.Cuts)), .d (.sl (W eIi64 x10.Kids)), oi x10.Leaf] 64]) (fun y hm Kn4 hKn4 => ?_) fun t h => ?_
     ·have h := hm
      clear hm
      cbv
      refine .gs (e := eB) h (by first | rfl | exact WM_nil' _ _) (fun h => h) fun y15 h => ?_
      cbv
      refine brkG h ?_ ?_ <;> intro h
      ·cbv
       obtain rfl := oj h
       refine hKn4 _ _ _ rfl (.nz (.mtE [0, 1, 2, 3] ?_))
       (cbv; repeat (refine ⟨an_, ?_⟩; cbv))
      ·cbv
       refine .g h (fun v hv => table_formed_R hP _ _ v hv) aw_ rfl (fun _ => rfl) fun v16 h => ?_
       cbv
       obtain rfl := oj h
       refine hKn4 _ _ _ rfl (.nz (.mtE [0, 1, 2, 3] ?_))
       (cbv; repeat (refine ⟨an_, ?_⟩; cbv))
     obtain ⟨v14, rfl⟩ : ∃ z, z = t := ⟨_, rfl⟩
     cbv
     refine brkG h ?_ ?_ <;> intro h
     ·cbv
      obtain rfl := oj h
      obtain rfl := hr3 _ rfl
      obtain rfl := hr2 _ rfl
      obtain rfl := hr1 _ rfl
      exact hK _ _ aw_
     ·cbv
      refine .gs (e := eB) h (by first | rfl | exact WM_nil' _ _) aw_ fun m17 h => ?_
      cbv
      refine brkG h ?_ ?_ <;> intro h
      ·cbv
       refine .g h (fun (v18 : Bool) => [.top, .ptr 0 0, .top, .hd 1, .hd 2, oi leaf5] ++ rp 17 .top ++ [.d (.sl (W eNode t_.Nodes)), oi (io.len (W eNode t_.Nodes)), oi v6] ++ rp 41 .top ++ [ob v18] ++ rp 25 .top) (fun (v18 : Bool) => [.cells [.d (.sl (W eNode t_.Nodes)), .d (.sl (W eDecision t_.Leaves))] 28, .mp .str false (WM Value.string eB m17), .mp (.agg [.bool, .bool, .bool, .int, .int, .int, .int, .int, .int, .int, .int, .int, .int, .int, .int, .int]) false (WM kwDecision eB decisions4)]) (fun y hm Kn4 hKn4 => ?_) fun t h => ?_
       ·have h := hm
        clear hm
        cbv
        refine brkG h ?_ ?_ <;> intro h
        ·cbv
         obtain rfl := oj h
         refine hKn4 _ _ _ rfl (.nz (.mtE [0, 1, 2] ?_))
         (cbv; repeat (refine ⟨an_, ?_⟩; cbv))
        ·cbv
         refine .g h (fun _ => rfl) fun x19 h => ?_
         cbv
         refine .g kEqDecision (k := x19) (e := eB) h (by first | rfl | exact WM_nil' _ _) (fun h => h) fun y20 h => ?_
         cbv
         obtain rfl := oj h
         refine hKn4 _ _ _ rfl (.nz (.mtE [0, 1, 2] ?_))
         (cbv; repeat (refine ⟨an_, ?_⟩; cbv))
       obtain ⟨v18, rfl⟩ : ∃ z, z = t := ⟨_, rfl⟩
       cbv
       refine brkG h ?_ ?_ <;> intro h
       ·cbv
        obtain rfl := oj h
        obtain rfl := hr3 _ rfl
        obtain rfl := hr2 _ rfl
        obtain rfl := hr1 _ rfl
        exact hK _ _ aw_
       ·cbv
        refine .g h (fun _ => rfl) fun x21 h => ?_
        cbv
        refine .gk kEqDecision (k := x21) (e := eB) h (by first | rfl | exact WM_nil' _ _) aw_ fun m22 h => ?_
        cbv
        obtain rfl := oj h
        refine hKn3 _ _ _ rfl (.nz (.mtE [0, 1, 2] ?_))
        (cbv; repeat (refine ⟨an_, ?_⟩; cbv))
      ·cbv
       obtain rfl := oj h
       refine hKn3 _ _ _ rfl (.nz (.mtE [0, 1, 2] ?_))
       (cbv; repeat (refine ⟨an_, ?_⟩; cbv))
    obtain ⟨known7, decisions8, leaf9⟩ := t
    cbv
    obtain rfl := oj h
    refine hKn2 _ _ _ rfl (.nz (.mtE [0, 1, 2] ?_))
    (cbv; repeat (refine ⟨an_, ?_⟩; cbv))
   ·cbv
    obtain rfl := oj h
    obtain rfl := hr2 _ rfl
    refine hKn1 _ _ _ rfl (.nz (.mtE [0] ?_))
    (cbv; repeat (refine ⟨an_, ?_⟩; cbv))
  obtain ⟨leaf2, rfl⟩ : ∃ z, z = t := ⟨_, rfl⟩
  cbv
  refine .g h (fun (next23 : Int) => [.top, .ptr 0 0] ++ rp 3 .top ++ [oi leaf2] ++ rp 3 .top ++ [.ptr 1 0] ++ rp 83 .top) (fun (next23 : Int) => [.cells [.d (.sl (W eNode t_.Nodes)), .d (.sl (W eDecision t_.Leaves))] 28, .cells [oi next23] 3]) (fun y hm Kn1 hKn1 => ?_) fun t h => ?_
  ·have h := hm
   clear hm
   cbv
   refine .inl (hP ▸ c40_ok) ?_
   cbv
   obtain ⟨r24, hm, h⟩ := Option.bind_eq_some_iff.1 h
   refine .embL [5, 4, 3, 1, 2, 6] (walkV_all hP t_.Nodes 11 _ _ _ _ hm) (by (cbv; repeat (refine ⟨an_, ?_⟩; cbv))) fun sv0 own0 hq _ => ?_
   obtain ⟨rfl, rfl⟩ := hq
   clear hm
   cbv
   obtain rfl := oj h
   refine hKn1 _ _ _ rfl (.nz (.mtE [0, 1] ?_))
   (cbv; repeat (refine ⟨an_, ?_⟩; cbv))
  obtain ⟨next23, rfl⟩ : ∃ z, z = t := ⟨_, rfl⟩
  cbv
  refine brkG h ?_ ?_ <;> intro h
  ·cbv
   obtain rfl := oj h
   exact hK _ _ aw_
  ·cbv
   obtain rfl := oj h
   exact hK _ _ aw_
end Go.SX.Td
namespace Go.SX.Td
open Go Go.SX Go.Proofs
set_option maxRecDepth 100000
noncomputable def ref12_Limits_l2 (high1 : (List Int)) : ((A10 Range) × Int) → Option (((A10 Range) × Int) ⊕ ((A10 Range)))
 | (z3, i4) =>
 bif (io.lt i4 (io.len (W eIi64 high1))) then (
 Option.bind (
 Option.bind (rixG high1 i4) fun i6 =>
 Option.bind (high1[i6]?) fun v7 =>
 Option.bind (pixG 10 i4) fun ix8 =>
 some (z3.put ix8 (Range.mk (z3.get ix8).Lo v7))
 ) fun z5 =>
 some (.inl (z5, (io.ar .add .i64 i4 1)))
 ) else (
 some (.inr z3)
 )
noncomputable def ref12_Limits_g : Option ((A10 Range)) :=
 Option.bind (some [1000000000, 150, 1, 19, 7, 319, 3, 3, 12, 100]) fun high1 =>
 Option.bind (
 whileG (ref12_Limits_l2 high1) ((A10.mk (Range.mk 0 0) (Range.mk 0 0) (Range.mk 0 0) (Range.mk 0 0) (Range.mk 0 0) (Range.mk 0 0) (Range.mk 0 0) (Range.mk 0 0) (Range.mk 0 0) (Range.mk 0 0)), 0)
 ) fun z2 =>
 some (A10.mk z2.a0 z2.a1 z2.a2 z2.a3 z2.a4 z2.a5 z2.a6 z2.a7 (Range.mk 1 z2.a8.Hi) z2.a9)
end Go.SX.Td
namespace Go.SX.Td
open Go Go.SX Go.Proofs
set_option maxRecDepth 100000
noncomputable def ref14_Within_l2 (f : (A10 Int)) (v1 : (A10 Range)) : Int → Option ((Int) ⊕ ((Unit) ⊕ (Bool)))
 | i2 =>
 bif (io.lt i2 10) then (
 Option.bind (
 Option.bind (pixG 10 i2) fun i4 =>
 bif (io.lt (f.get i4) (v1.get i4).Lo) then (
 some true
 ) else (
 some (io.lt (v1.get i4).Hi (f.get i4))
 )
 ) fun v3 =>
 bif v3 then (
 some (.inr (.inr false))
 ) else (
 some (.inl (io.ar .add .i64 i2 1))
 )
 ) else (
 some (.inr (.inl ()))
 )
noncomputable def ref14_Within_g (f : (A10 Int)) : Option (Bool) :=
 Option.bind (ref12_Limits_g) fun v1 =>
 orR (
 whileG (ref14_Within_l2 f v1) 0
 ) fun _ =>
 some true
end Go.SX.Td
namespace Go.SX.Td
open Go Go.SX Go.Proofs
set_option maxRecDepth 100000
def c28r0 : List GOp := [
 gv 0 (.alloc 57 (.agg #[oz, oz, oz, oz, oz, oz, oz, oz, oz, oz, oz, oz, oz, oz, oz, oz, oz, oz, oz, oz]))]
def c28r1 : List GOp := [
 gv 1 (.alloc 57 (.agg #[oz, oz, oz, oz, oz, oz, oz, oz, oz, oz, oz, oz, oz, oz, oz, oz, oz, oz, oz, oz]))]
def c28r2 : List GOp := [
 gv 4 (.bslice 3 1 10 oz [(0, (.const (.int .i64 1000000000))), (1, (.const (.int .i64 150))), (2, (.const (.int .i64 1))), (3, (.const (.int .i64 19))), (4, (.const (.int .i64 7))), (5, (.const (.int .i64 319))), (6, (.const (.int .i64 3))), (7, (.const (.int .i64 3))), (8, (.const (.int .i64 12))), (9, (.const (.int .i64 100)))]),
 gv 2 (.mv (.tmp 4))]
def c28r3 : List GOp := [
 gv 3 (.mv (.const (.int .i64 0)))]
def c28r4 : List GOp := [
 gv 5 (.mv (.tmp 3)),
 gv 6 (.mv (.tmp 2)),
 gv 7 (.len false (.tmp 6)),
 gv 8 (.bin .lss (.tmp 5) (.tmp 7))]
def c28r5 : List GOp := [
 gv 11 (.mv (.tmp 3)),
 gv 12 (.mv (.tmp 2)),
 gv 13 (.mv (.tmp 3)),
 gv 14 (.idxA 1 (.tmp 12) (.tmp 13)),
 gv 15 (.load 1 false (.tmp 14)),
 gv 16 (.idxP 10 2 (.tmp 1) (.tmp 11)),
 gv 17 (.fadd 1 (.tmp 16)),
 ⟨none, .store 1 (.tmp 17) (.tmp 15), none⟩]
def c28r6 : List GOp := [
 gv 9 (.mv (.tmp 3)),
 gv 10 (.bin .add (.tmp 9) (.const (.int .i64 1))),
 gv 3 (.mv (.tmp 10))]
def c28l7 : DE := .seq (.seq (.reg c28r4) (.cond (.tmp 8) (.skip) (.exit 0))) (.join (.block 1 (.reg c28r5)) (.reg c28r6))
def c28r8 : List GOp := [
 gv 18 (.idxP 10 2 (.tmp 1) (.const (.int .i64 8))),
 gv 19 (.fadd 0 (.tmp 18)),
 ⟨none, .store 1 (.tmp 19) (.const (.int .i64 1)), none⟩]
def c28r9 : List GOp := [
 gv 20 (.load 20 true (.tmp 1)),
 ⟨none, .store 20 (.tmp 0) (.tmp 20), none⟩]
def c28 : EFn := ⟨21, .seq (.reg c28r0) (.seq (.reg c28r1) (.seq (.reg c28r2) (.join (.seq (.reg c28r3) (.block 0 (.loop c28l7))) (.seq (.reg c28r8) (.seq (.reg c28r9) (.ret)))))), [.cell 0 20 true]⟩
theorem c28_ok : compF Tryd.prog 28 = some c28.er := by kernel_rfl
set_option maxHeartbeats 4000000 in
theorem ref12_Limits_R {P : Program} (hP : P = Tryd.prog) (r : (A10 Range)) (h : ref12_Limits_g = some r) : Fn1 P 28 [] (vA10Range r) := by
 refine .walkE (hP ▸ c28_ok) fun K hK => ?_
 unfold ref12_Limits_g at h
 cbv
 refine .g (e := eIi64) h (W_cons aw_ (W_cons aw_ (W_cons aw_ (W_cons aw_ (W_cons aw_ (W_cons aw_ (W_cons aw_ (W_cons aw_ (W_cons aw_ (W_cons aw_ (W_nil' _))))))))))) fun high1 h => ?_
 cbv
 refine .g h (fun (z2 : (A10 Range)) => [.ptr 0 0, .ptr 1 0] ++ rp 19 .top) (fun (z2 : (A10 Range)) => [.cells [oi 0, oi 0, oi 0, oi 0, oi 0, oi 0, oi 0, oi 0, oi 0, oi 0, oi 0, oi 0, oi 0, oi 0, oi 0, oi 0, oi 0, oi 0, oi 0, oi 0] 57, .cells [oi z2.a0.Lo, oi z2.a0.Hi, oi z2.a1.Lo, oi z2.a1.Hi, oi z2.a2.Lo, oi z2.a2.Hi, oi z2.a3.Lo, oi z2.a3.Hi, oi z2.a4.Lo, oi z2.a4.Hi, oi z2.a5.Lo, oi z2.a5.Hi, oi z2.a6.Lo, oi z2.a6.Hi, oi z2.a7.Lo, oi z2.a7.Hi, oi z2.a8.Lo, oi z2.a8.Hi, oi z2.a9.Lo, oi z2.a9.Hi] 57]) (fun y hm Kn1 hKn1 => ?_) fun t h => ?_
 ·have h := hm
  clear hm
  cbv
  refine .g h (fun ((z3, i4) : (A10 Range) × Int) => [.ptr 0 0, .ptr 1 0, .hd 2, oi i4] ++ rp 17 .top) (fun ((z3, i4) : (A10 Range) × Int) => [.cells [oi 0, oi 0, oi 0, oi 0, oi 0, oi 0, oi 0, oi 0, oi 0, oi 0, oi 0, oi 0, oi 0, oi 0, oi 0, oi 0, oi 0, oi 0, oi 0, oi 0] 57, .cells [oi z3.a0.Lo, oi z3.a0.Hi, oi z3.a1.Lo, oi z3.a1.Hi, oi z3.a2.Lo, oi z3.a2.Hi, oi z3.a3.Lo, oi z3.a3.Hi, oi z3.a4.Lo, oi z3.a4.Hi, oi z3.a5.Lo, oi z3.a5.Hi, oi z3.a6.Lo, oi z3.a6.Hi, oi z3.a7.Lo, oi z3.a7.Hi, oi z3.a8.Lo, oi z3.a8.Hi, oi z3.a9.Lo, oi z3.a9.Hi] 57, .row 3 1 (W eIi64 high1)]) (.nz (.mtE [0, 1, 2] ?_)) fun s x h hr2 Kn2 hKn2 => ?_
  ·(cbv; repeat (refine ⟨an_, ?_⟩; cbv))
  unfold ref12_Limits_l2 at h
  obtain ⟨z3, i4⟩ := s
  cbv
  refine brkG h ?_ ?_ <;> intro h
  ·cbv
   refine .g h (fun (z5 : (A10 Range)) => [.ptr 0 0, .ptr 1 0, .hd 2, oi i4] ++ rp 17 .top) (fun (z5 : (A10 Range)) => [.cells [oi 0, oi 0, oi 0, oi 0, oi 0, oi 0, oi 0, oi 0, oi 0, oi 0, oi 0, oi 0, oi 0, oi 0, oi 0, oi 0, oi 0, oi 0, oi 0, oi 0] 57, .cells [oi z5.a0.Lo, oi z5.a0.Hi, oi z5.a1.Lo, oi z5.a1.Hi, oi z5.a2.Lo, oi z5.a2.Hi, oi z5.a3.Lo, oi z5.a3.Hi, oi z5.a4.Lo, oi z5.a4.Hi, oi z5.a5.Lo, oi z5.a5.Hi, oi z5.a6.Lo, oi z5.a6.Hi, oi z5.a7.Lo, oi z5.a7.Hi, oi z5.a8.Lo, oi z5.a8.Hi, oi z5.a9.Lo, oi z5.a9.Hi] 57, .row 3 1 (W eIi64 high1)]) (fun y hm Kn3 hKn3 => ?_) fun t h => ?_
   ·have h := hm
    clear hm
    cbv
    refine .g h fun i6 h => ?_
    cbv
    refine .g h fun v7 h => ?_
    cbv
    refine .c10 h ?_ ?_ ?_ ?_ ?_ ?_ ?_ ?_ ?_ ?_ <;> (
     intro hnix8 h
     cbv
     obtain rfl := oj h
     refine hKn3 _ _ _ rfl (.nz (.mtE [0, 1, 2] ?_))
     (cbv; repeat (refine ⟨an_, ?_⟩; cbv))
     )
   obtain ⟨z5, rfl⟩ : ∃ z, z = t := ⟨_, rfl⟩
   cbv
   obtain rfl := oj h
   refine hKn2 _ _ _ rfl (.nz (.mtE [0, 1, 2] ?_))
   (cbv; repeat (refine ⟨an_, ?_⟩; cbv))
  ·cbv
   obtain rfl := oj h
   obtain rfl := hr2 _ rfl
   refine hKn1 _ _ _ rfl (.nz (.mtE [0, 1] ?_))
   (cbv; repeat (refine ⟨an_, ?_⟩; cbv))
 obtain ⟨z2, rfl⟩ : ∃ z, z = t := ⟨_, rfl⟩
 cbv
 refine .lit 8 rfl (by decide) ?_
 cbv
 obtain rfl := oj h
 exact hK _ _ aw_
end Go.SX.Td
namespace Go.SX.Td
open Go Go.SX Go.Proofs
set_option maxRecDepth 100000
def c18r0 : List GOp := [
 gv 1 (.box 38 (.tmp 0)),
 gv 2 (.mv (.const (.bool false)))]
def c18r1 : List GOp := [
 gv 5 (.call 28 []),
 gv 3 (.alloc 57 (.agg #[oz, oz, oz, oz, oz, oz, oz, oz, oz, oz, oz, oz, oz, oz, oz, oz, oz, oz, oz, oz])),
 ⟨none, .store 20 (.tmp 3) (.tmp 5), none⟩]
def c18r2 : List GOp := [
 gv 4 (.mv (.const (.int .i64 0)))]
def c18r3 : List GOp := [
 gv 6 (.mv (.tmp 4)),
 gv 7 (.bin .lss (.tmp 6) (.const (.int .i64 10)))]
def c18r4 : List GOp := [
 gv 10 (.mv (.tmp 4)),
 gv 11 (.idxP 10 1 (.tmp 1) (.tmp 10)),
 gv 12 (.load 1 false (.tmp 11)),
 gv 13 (.mv (.tmp 4)),
 gv 14 (.idxP 10 2 (.tmp 3) (.tmp 13)),
 gv 15 (.fadd 0 (.tmp 14)),
 gv 16 (.load 1 false (.tmp 15)),
 gv 17 (.bin .lss (.tmp 12) (.tmp 16)),
 gv 18 (.mv (.tmp 17)),
 gw 19 18 false (.mv (.tmp 4)),
 gw 20 18 false (.idxP 10 1 (.tmp 1) (.tmp 19)),
 gw 21 18 false (.load 1 false (.tmp 20)),
 gw 22 18 false (.mv (.tmp 4)),
 gw 23 18 false (.idxP 10 2 (.tmp 3) (.tmp 22)),
 gw 24 18 false (.fadd 1 (.tmp 23)),
 gw 25 18 false (.load 1 false (.tmp 24)),
 gw 26 18 false (.bin .gtr (.tmp 21) (.tmp 25)),
 gv 27 (.pick (.tmp 18) (.const (.bool true)) (.tmp 26))]
def c18r5 : List GOp := [
 gv 2 (.mv (.const (.bool false)))]
def c18r6 : List GOp := [
 gv 8 (.mv (.tmp 4)),
 gv 9 (.bin .add (.tmp 8) (.const (.int .i64 1))),
 gv 4 (.mv (.tmp 9))]
def c18l7 : DE := .seq (.seq (.reg c18r3) (.cond (.tmp 7) (.skip) (.exit 0))) (.seq (.block 1 (.join (.par true true true 16 c18r4) (.cond (.tmp 27) (.seq (.reg c18r5) (.ret)) (.skip)))) (.reg c18r6))
def c18r8 : List GOp := [
 gv 2 (.mv (.const (.bool true)))]
def c18 : EFn := ⟨28, .seq (.reg c18r0) (.seq (.reg c18r1) (.join (.seq (.reg c18r2) (.block 0 (.loop c18l7))) (.seq (.reg c18r8) (.ret)))), [.tmp 2]⟩
theorem c18_ok : compF Tryd.prog 18 = some c18.er := by kernel_rfl
set_option maxHeartbeats 4000000 in
theorem ref14_Within_R {P : Program} (hP : P = Tryd.prog) (f : (A10 Int)) (r : Bool) (h : ref14_Within_g f = some r) : Fn1 P 18 [vA10Ii64 f] (vB r) := by
 refine .walkE (hP ▸ c18_ok) fun K hK => ?_
 unfold ref14_Within_g at h
 cbv
 refine .g h (fun v hv => ref12_Limits_R hP v hv) aw_ rfl (fun _ => rfl) fun v1 h => ?_
 cbv
 refine .ga h (fun (_ : Unit) => rp 28 .top) (fun (_ : Unit) => []) (fun y hm hr1 Kn1 hKn1 => ?_) fun t h => ?_
 ·have h := hm
  clear hm
  cbv
  refine .g h (fun (i2 : Int) => [.top, .ptr 0 0, .top, .ptr 1 0, oi i2] ++ rp 23 .top) (fun (i2 : Int) => [.cells (ca f) 38, .cells [oi v1.a0.Lo, oi v1.a0.Hi, oi v1.a1.Lo, oi v1.a1.Hi, oi v1.a2.Lo, oi v1.a2.Hi, oi v1.a3.Lo, oi v1.a3.Hi, oi v1.a4.Lo, oi v1.a4.Hi, oi v1.a5.Lo, oi v1.a5.Hi, oi v1.a6.Lo, oi v1.a6.Hi, oi v1.a7.Lo, oi v1.a7.Hi, oi v1.a8.Lo, oi v1.a8.Hi, oi v1.a9.Lo, oi v1.a9.Hi] 57]) (.nz (.mtE [0, 1] ?_)) fun s x h hr2 Kn2 hKn2 => ?_
  ·(cbv; repeat (refine ⟨an_, ?_⟩; cbv))
  unfold ref14_Within_l2 at h
  obtain ⟨i2, rfl⟩ : ∃ z, z = s := ⟨_, rfl⟩
  cbv
  refine brkG h ?_ ?_ <;> intro h
  ·cbv
   refine .g h (fun (v3 : Bool) => [.top, .ptr 0 0, .top, .ptr 1 0, oi i2] ++ rp 22 .top ++ [ob v3]) (fun (v3 : Bool) => [.cells (ca f) 38, .cells [oi v1.a0.Lo, oi v1.a0.Hi, oi v1.a1.Lo, oi v1.a1.Hi, oi v1.a2.Lo, oi v1.a2.Hi, oi v1.a3.Lo, oi v1.a3.Hi, oi v1.a4.Lo, oi v1.a4.Hi, oi v1.a5.Lo, oi v1.a5.Hi, oi v1.a6.Lo, oi v1.a6.Hi, oi v1.a7.Lo, oi v1.a7.Hi, oi v1.a8.Lo, oi v1.a8.Hi, oi v1.a9.Lo, oi v1.a9.Hi] 57]) (fun y hm Kn3 hKn3 => ?_) fun t h => ?_
   ·have h := hm
    clear hm
    cbv
    refine .c10 h ?_ ?_ ?_ ?_ ?_ ?_ ?_ ?_ ?_ ?_ <;> (
     intro hni4 h
     cbv
     refine .at _ hni4 (by decide) ?_
     cbv
     refine brkG h ?_ ?_ <;> intro h
     ·cbv
      obtain rfl := oj h
      refine hKn3 _ _ _ rfl (.nz (.mtE [0, 1] ?_))
      (cbv; repeat (refine ⟨an_, ?_⟩; cbv))
     ·cbv
      refine .at _ hni4 (by decide) ?_
      cbv
      refine .at _ hni4 (by decide) ?_
      cbv
      obtain rfl := oj h
      refine hKn3 _ _ _ rfl (.nz (.mtE [0, 1] ?_))
      (cbv; repeat (refine ⟨an_, ?_⟩; cbv))
     )
   obtain ⟨v3, rfl⟩ : ∃ z, z = t := ⟨_, rfl⟩
   cbv
   refine brkG h ?_ ?_ <;> intro h
   ·cbv
    obtain rfl := oj h
    obtain rfl := hr2 _ rfl
    obtain rfl := hr1 _ rfl
    exact hK _ _ aw_
   ·cbv
    obtain rfl := oj h
    refine hKn2 _ _ _ rfl (.nz (.mtE [0, 1] ?_))
    (cbv; repeat (refine ⟨an_, ?_⟩; cbv))
  ·cbv
   obtain rfl := oj h
   obtain rfl := hr2 _ rfl
   refine hKn1 _ _ _ rfl (.nz (.mtE [] ?_))
   (cbv; repeat (refine ⟨an_, ?_⟩; cbv))
 cbv
 obtain rfl := oj h
 exact hK _ _ aw_
end Go.SX.Td
namespace Go.SX.Td
open Go Go.SX Go.Proofs
set_option maxRecDepth 100000
noncomputable def table_Lookup_l26 (Cuts8 : (List Int)) (Attr7 : Int) (f : (A10 Int)) : Int → Option ((Int) ⊕ ((Unit) ⊕ (Int)))
 | v12 =>
 bif (io.lt v12 (io.len (W eIi64 Cuts8))) then (
 Option.bind (
 Option.bind (idxG Cuts8 v12) fun x14 =>
 Option.bind (pixG 10 Attr7) fun i15 =>
 some (io.lt (f.get i15) x14)
 ) fun v13 =>
 bif v13 then (
 some (.inr (.inr v12))
 ) else (
 some (.inl (io.ar .add .i64 v12 1))
 )
 ) else (
 some (.inr (.inl ()))
 )
noncomputable def table_Lookup_l22 (f : (A10 Int)) (t_ : Table) : (Int × (List Int) × (List Int) × Int) → Option ((Int × (List Int) × (List Int) × Int) ⊕ (Int × (List Int) × (List Int) × Int))
 | (Attr7, Cuts8, Kids9, Leaf10) =>
 bif (io.lt 0 (io.len (W eIi64 Kids9))) then (
 Option.bind (
 orR (
 whileG (table_Lookup_l26 Cuts8 Attr7 f) 0
 ) fun _ =>
 some (-1)
 ) fun k11 =>
 Option.bind (
 bif (io.lt k11 0) then (
 some (io.len (W eIi64 Cuts8))
 ) else (
 some k11
 )
 ) fun k16 =>
 Option.bind (idxG Kids9 k16) fun x17 =>
 Option.bind (idxG t_.Nodes x17) fun x18 =>
 some (.inl (x18.Attr, x18.Cuts, x18.Kids, x18.Leaf))
 ) else (
 some (.inr (Attr7, Cuts8, Kids9, Leaf10))
 )
noncomputable def table_Lookup_g (t_ : Table) (f : (A10 Int)) : Option (Decision) :=
 Option.bind (table_Valid_g t_) fun v1 =>
 bif (io.not v1) then (
 some (Decision.mk false false false 0 0 (Ratio.mk 0 0) (Ratio.mk 0 0) (Ratio.mk 0 0) (Ratio.mk 0 0) (Ratio.mk 0 0) 0)
 ) else (
 Option.bind (idxG t_.Nodes 0) fun x2 =>
 Option.bind (
 whileG (table_Lookup_l22 f t_) (x2.Attr, x2.Cuts, x2.Kids, x2.Leaf)
 ) fun (Attr3, Cuts4, Kids5, Leaf6) =>
 Option.bind (idxG t_.Leaves Leaf6) fun x19 =>
 some x19
 )
end Go.SX.Td
