/- Parts of the proof. -/
import Derived.Test.YtllbabjgpdmblaaDoorZTdT
import Derived.Test.YtllbabjgpdmblaaDoorZTdBuilder
import Derived.Test.YtllbabjgpdmblaaDoorZTd24
import Derived.Test.YtllbabjgpdmblaaDoorZTdSwalkV
import Derived.Test.YtllbabjgpdmblaaDoorZTd49d
import Derived.Test.YtllbabjgpdmblaaDoorZTdSort
set_option linter.unusedSimpArgs false
set_option linter.unusedVariables false
set_option linter.unusedSectionVars false
namespace Go.SX.Td
open Go Go.SX Go.Proofs
set_option maxRecDepth 100000
def c17r0 : List GOp := [
 gv 1 (.box 28 (.tmp 0)),
 gv 2 (.mv (.const (.bool false)))]
def c17r1 : List GOp := [
 gv 10 (.fadd 0 (.tmp 1)),
 gv 11 (.load 1 false (.tmp 10)),
 gv 12 (.len false (.tmp 11)),
 gv 13 (.bin .lss (.tmp 12) (.const (.int .i64 1))),
 gv 14 (.mv (.tmp 13)),
 gw 15 14 false (.fadd 0 (.tmp 1)),
 gw 16 14 false (.load 1 false (.tmp 15)),
 gw 17 14 false (.len false (.tmp 16)),
 gw 18 14 false (.bin .gtr (.tmp 17) (.const (.int .i64 20000))),
 gv 19 (.pick (.tmp 14) (.const (.bool true)) (.tmp 18))]
def c17r2 : List GOp := [
 gv 2 (.mv (.const (.bool false)))]
def c17r3 : List GOp := [
 gv 20 (.mkm .str false),
 gv 21 (.mkm (.agg [.bool, .bool, .bool, .int, .int, .int, .int, .int, .int, .int, .int, .int, .int, .int, .int, .int]) false),
 gv 3 (.mv (.tmp 20)),
 gv 4 (.mv (.tmp 21))]
def c17r4 : List GOp := [
 gv 5 (.mv (.const (.int .i64 0)))]
def c17r5 : List GOp := [
 gv 22 (.fadd 0 (.tmp 1)),
 gv 23 (.load 1 false (.tmp 22)),
 gv 24 (.len false (.tmp 23)),
 gv 25 (.mv (.const (.int .i64 0)))]
def c17r6 : List GOp := [
 gv 26 (.bin .lss (.tmp 25) (.tmp 24))]
def c17r7 : List GOp := [
 gv 27 (.idxA 4 (.tmp 23) (.tmp 25)),
 gv 28 (.load 4 true (.tmp 27)),
 gv 7 (.alloc 64 (.agg #[oz, (.slice none 0 0), (.slice none 0 0), oz])),
 ⟨none, .store 4 (.tmp 7) (.tmp 28), none⟩]
def c17r8 : List GOp := [
 gv 29 (.fadd 1 (.tmp 7)),
 gv 30 (.load 1 false (.tmp 29)),
 gv 31 (.fadd 2 (.tmp 7)),
 gv 32 (.load 1 false (.tmp 31)),
 gv 33 (.fadd 0 (.tmp 7)),
 gv 34 (.load 1 false (.tmp 33)),
 gv 35 (.fadd 3 (.tmp 7)),
 gv 36 (.load 1 false (.tmp 35)),
 gv 37 (.bslice 3 1 2 oz [(0, (.tmp 34)), (1, (.tmp 36))]),
 gv 38 (.bslice 62 1 3 (.slice none 0 0) [(0, (.tmp 30)), (1, (.tmp 32)), (2, (.tmp 37))]),
 gv 39 (.call 38 [(.tmp 38)]),
 gv 8 (.mv (.tmp 39))]
def c17r9 : List GOp := [
 gv 40 (.mv (.tmp 3)),
 gv 41 (.mv (.tmp 8)),
 gv 42 (.mget .str false false (.bool false) (.tmp 40) (.tmp 41)),
 gv 43 (.mv (.tmp 42)),
 gw 44 43 false (.load 2 true (.tmp 1)),
 gw 45 43 false (.load 4 true (.tmp 7)),
 gw 46 43 false (.call 39 [(.tmp 44), (.tmp 45)]),
 gw 47 43 false (.un .not (.tmp 46)),
 gv 48 (.pick (.tmp 43) (.const (.bool true)) (.tmp 47))]
def c17r10 : List GOp := [
 gv 2 (.mv (.const (.bool false)))]
def c17r11 : List GOp := [
 gv 49 (.mv (.tmp 3)),
 gv 50 (.mv (.tmp 8)),
 ⟨none, .mset .str false (.tmp 49) (.tmp 50) (.const (.bool true)), none⟩]
def c17r12 : List GOp := [
 gv 51 (.fadd 2 (.tmp 7)),
 gv 52 (.load 1 false (.tmp 51)),
 gv 53 (.len false (.tmp 52)),
 gv 54 (.bin .eql (.tmp 53) (.const (.int .i64 0)))]
def c17r13 : List GOp := [
 gv 55 (.fadd 3 (.tmp 7)),
 gv 56 (.load 1 false (.tmp 55)),
 gv 57 (.mv (.tmp 5)),
 gv 58 (.bin .neq (.tmp 56) (.tmp 57)),
 gv 59 (.mv (.tmp 58)),
 gw 60 59 false (.mv (.tmp 4)),
 gw 61 59 false (.fadd 1 (.tmp 1)),
 gw 62 59 false (.load 1 false (.tmp 61)),
 gw 63 59 false (.mv (.tmp 5)),
 gw 64 59 false (.idxA 16 (.tmp 62) (.tmp 63)),
 gw 65 59 false (.load 16 true (.tmp 64)),
 gw 66 59 false (.mget (.agg [.bool, .bool, .bool, .int, .int, .int, .int, .int, .int, .int, .int, .int, .int, .int, .int, .int]) false false (.bool false) (.tmp 60) (.tmp 65)),
 gv 67 (.pick (.tmp 59) (.const (.bool true)) (.tmp 66))]
def c17r14 : List GOp := [
 gv 2 (.mv (.const (.bool false)))]
def c17r15 : List GOp := [
 gv 68 (.mv (.tmp 4)),
 gv 69 (.fadd 1 (.tmp 1)),
 gv 70 (.load 1 false (.tmp 69)),
 gv 71 (.mv (.tmp 5)),
 gv 72 (.idxA 16 (.tmp 70) (.tmp 71)),
 gv 73 (.load 16 true (.tmp 72)),
 ⟨none, .mset (.agg [.bool, .bool, .bool, .int, .int, .int, .int, .int, .int, .int, .int, .int, .int, .int, .int, .int]) false (.tmp 68) (.tmp 73) (.const (.bool true)), none⟩]
def c17r16 : List GOp := [
 gv 74 (.mv (.tmp 5)),
 gv 75 (.bin .add (.tmp 74) (.const (.int .i64 1))),
 gv 5 (.mv (.tmp 75))]
def c17r17 : List GOp := [
 gv 76 (.bin .add (.tmp 25) (.const (.int .i64 1))),
 gv 25 (.mv (.tmp 76))]
def c17l18 : DE := .seq (.reg c17r6) (.seq (.cond (.tmp 26) (.skip) (.exit 0)) (.join (.block 1 (.seq (.reg c17r7) (.seq (.reg c17r8) (.seq (.join (.reg c17r9) (.cond (.tmp 48) (.seq (.reg c17r10) (.ret)) (.skip))) (.seq (.reg c17r11) (.seq (.reg c17r12) (.cond (.tmp 54) (.seq (.join (.reg c17r13) (.cond (.tmp 67) (.seq (.reg c17r14) (.ret)) (.skip))) (.seq (.reg c17r15) (.reg c17r16))) (.skip)))))))) (.reg c17r17)))
def c17r19 : List GOp := [
 gv 9 (.alloc 3 oz),
 ⟨none, .store 1 (.tmp 9) (.const (.int .i64 0)), none⟩]
def c17r20 : List GOp := [
 gv 77 (.fadd 0 (.tmp 1)),
 gv 78 (.load 1 false (.tmp 77)),
 gv 79 (.mkfn (.func 41) [] [(.tmp 9)]),
 gv 80 (.call 40 [(.tmp 78), (.const (.int .i64 0)), (.tmp 79)])]
def c17r21 : List GOp := [
 gv 81 (.load 1 false (.tmp 9)),
 gv 82 (.fadd 0 (.tmp 1)),
 gv 83 (.load 1 false (.tmp 82)),
 gv 84 (.len false (.tmp 83)),
 gv 85 (.bin .eql (.tmp 81) (.tmp 84)),
 gv 86 (.mv (.tmp 85)),
 gw 87 86 true (.mv (.tmp 5)),
 gw 88 86 true (.fadd 1 (.tmp 1)),
 gw 89 86 true (.load 1 false (.tmp 88)),
 gw 90 86 true (.len false (.tmp 89)),
 gw 91 86 true (.bin .eql (.tmp 87) (.tmp 90)),
 gv 92 (.pick (.tmp 86) (.tmp 91) (.const (.bool false))),
 gv 2 (.mv (.tmp 92))]
def c17 : EFn := ⟨93, .seq (.reg c17r0) (.seq (.join (.reg c17r1) (.cond (.tmp 19) (.seq (.reg c17r2) (.ret)) (.skip))) (.seq (.reg c17r3) (.seq (.reg c17r4) (.join (.seq (.reg c17r5) (.block 0 (.loop c17l18))) (.seq (.reg c17r19) (.join (.reg c17r20) (.seq (.reg c17r21) (.ret)))))))), [.tmp 2]⟩
theorem c17_ok : compF Tryd.prog 17 = some c17.er := by kernel_rfl
set_option maxHeartbeats 4000000 in
theorem table_Valid_R {P : Program} (hP : P = Tryd.prog) (t_ : Table) (r : Bool) (h : table_Valid_g t_ = some r) : Fn1 P 17 [vTable t_] (vB r) := by
 refine .walkE (hP ▸ c17_ok) fun K hK => ?_;unfold table_Valid_g at h;cbv;refine .g h (fun (v1 : Bool) => [.top, .ptr 0 0] ++ rp 17 .top ++ [ob v1] ++ rp 73 .top) (fun v1 => [.cells [.d (.sl (W eNode t_.Nodes)), .d (.sl (W eDecision t_.Leaves))] 28]) (fun y hm Kn1 hKn1 => ?_) fun t h => ?_
 ·have h := hm;clear hm;cbv;refine brkG h ?_ ?_ <;> intro h
  ·cbv;obtain rfl := oj h;refine hKn1 _ _ _ rfl (.nz (.mtE [0] ?_));(cbv; repeat (refine ⟨an_, ?_⟩; cbv))
  ·cbv;obtain rfl := oj h;refine hKn1 _ _ _ rfl (.nz (.mtE [0] ?_));(cbv; repeat (refine ⟨an_, ?_⟩; cbv))
 obtain ⟨v1, rfl⟩ := ez t;cbv;refine brkG h ?_ ?_ <;> intro h
 ·cbv;obtain rfl := oj h;exact hK _ _ aw_
 ·cbv;refine .ga h (fun (leaf2 : Int) => [.top, .ptr 0 0] ++ rp 3 .top ++ [oi leaf2] ++ rp 87 .top) (fun leaf2 => [.cells [.d (.sl (W eNode t_.Nodes)), .d (.sl (W eDecision t_.Leaves))] 28]) (fun y hm hr1 Kn1 hKn1 => ?_) fun t h => ?_
  ·have h := hm;clear hm;cbv;refine .g h (fun ((known3, decisions4, leaf5, v6) : (List (ByteArray × Bool)) × (List (Decision × Bool)) × Int × Int) => [.top, .ptr 0 0, .top, .hd 1, .hd 2, oi leaf5] ++ rp 17 .top ++ [.d (.sl (W eNode t_.Nodes)), oi (io.len (W eNode t_.Nodes)), oi v6] ++ rp 67 .top) (fun (known3, decisions4, leaf5, v6) => [.cells [.d (.sl (W eNode t_.Nodes)), .d (.sl (W eDecision t_.Leaves))] 28, .mp .str false (WM Value.string eB known3), .mp (.agg [.bool, .bool, .bool, .int, .int, .int, .int, .int, .int, .int, .int, .int, .int, .int, .int, .int]) false (WM kwDecision eB decisions4)]) (.nz (.mtE [0, 1, 2] ?_)) fun s x h hr2 Kn2 hKn2 => ?_
   ·(cbv; repeat (refine ⟨an_, ?_⟩; cbv))
   unfold table_Valid_l2 at h;obtain ⟨known3, decisions4, leaf5, v6⟩ := s;cbv;refine brkG h ?_ ?_ <;> intro h
   ·cbv;refine .ga h (fun ((known7, decisions8, leaf9) : (List (ByteArray × Bool)) × (List (Decision × Bool)) × Int) => [.top, .ptr 0 0, .top, .hd 1, .hd 2, oi leaf9] ++ rp 17 .top ++ [.d (.sl (W eNode t_.Nodes)), oi (io.len (W eNode t_.Nodes)), oi v6] ++ rp 67 .top) (fun (known7, decisions8, leaf9) => [.cells [.d (.sl (W eNode t_.Nodes)), .d (.sl (W eDecision t_.Leaves))] 28, .mp .str false (WM Value.string eB known7), .mp (.agg [.bool, .bool, .bool, .int, .int, .int, .int, .int, .int, .int, .int, .int, .int, .int, .int, .int]) false (WM kwDecision eB decisions8)]) (fun y hm hr3 Kn3 hKn3 => ?_) fun t h => ?_
    ·have h := hm;clear hm;cbv;refine .g h (fun _ => rfl) fun x10 h => ?_;cbv;refine .g (e := eIi64) h (W_cons aw_ (W_cons aw_ (W_nil' _))) fun l11 h => ?_;cbv;refine .g (e := eLIi64) h (W_cons aw_ (W_cons aw_ (W_cons aw_ (W_nil' _)))) fun l12 h => ?_;cbv;refine .gl [] h (fun v hv => table_text_R hP _ v hv) aw_ rfl fun key13 h => ?_;cbv;refine .g h (fun (v14 : Bool) => [.top, .ptr 0 0, .top, .hd 1, .hd 2, oi leaf5, .top, .ptr 3 0, .d (.val (.string key13))] ++ rp 14 .top ++ [.d (.sl (W eNode t_.Nodes)), oi (io.len (W eNode t_.Nodes)), oi v6] ++ rp 22 .top ++ [ob v14] ++ rp 44 .top) (fun v14 => [.cells [.d (.sl (W eNode t_.Nodes)), .d (.sl (W eDecision t_.Leaves))] 28, .mp .str false (WM Value.string eB known3), .mp (.agg [.bool, .bool, .bool, .int, .int, .int, .int, .int, .int, .int, .int, .int, .int, .int, .int, .int]) false (WM kwDecision eB decisions4), .cells [oi x10.Attr, .d (.sl (W eIi64 x10.Cuts)), .d (.sl (W eIi64 x10.Kids)), oi x10.Leaf] 64]) (fun y hm Kn4 hKn4 => ?_) fun t h => ?_
     ·have h := hm;clear hm;cbv;refine .gs (e := eB) h (by first | rfl | exact WM_nil' _ _) (fun h => h) fun y15 h => ?_;cbv;refine brkG h ?_ ?_ <;> intro h
      ·cbv;obtain rfl := oj h;refine hKn4 _ _ _ rfl (.nz (.mtE [0, 1, 2, 3] ?_));(cbv; repeat (refine ⟨an_, ?_⟩; cbv))
      ·cbv;refine .g h (fun v hv => table_formed_R hP _ _ v hv) aw_ rfl (fun _ => rfl) fun v16 h => ?_;cbv;obtain rfl := oj h;refine hKn4 _ _ _ rfl (.nz (.mtE [0, 1, 2, 3] ?_));(cbv; repeat (refine ⟨an_, ?_⟩; cbv))
     obtain ⟨v14, rfl⟩ := ez t;cbv;refine brkG h ?_ ?_ <;> intro h
     ·cbv;obtain rfl := oj h;obtain rfl := hr3 _ rfl;obtain rfl := hr2 _ rfl;obtain rfl := hr1 _ rfl;exact hK _ _ aw_
     ·cbv;refine .gs (e := eB) h (by first | rfl | exact WM_nil' _ _) aw_ fun m17 h => ?_;cbv;refine brkG h ?_ ?_ <;> intro h
      ·cbv;refine .g h (fun (v18 : Bool) => [.top, .ptr 0 0, .top, .hd 1, .hd 2, oi leaf5] ++ rp 17 .top ++ [.d (.sl (W eNode t_.Nodes)), oi (io.len (W eNode t_.Nodes)), oi v6] ++ rp 41 .top ++ [ob v18] ++ rp 25 .top) (fun v18 => [.cells [.d (.sl (W eNode t_.Nodes)), .d (.sl (W eDecision t_.Leaves))] 28, .mp .str false (WM Value.string eB m17), .mp (.agg [.bool, .bool, .bool, .int, .int, .int, .int, .int, .int, .int, .int, .int, .int, .int, .int, .int]) false (WM kwDecision eB decisions4)]) (fun y hm Kn4 hKn4 => ?_) fun t h => ?_
       ·have h := hm;clear hm;cbv;refine brkG h ?_ ?_ <;> intro h
        ·cbv;obtain rfl := oj h;refine hKn4 _ _ _ rfl (.nz (.mtE [0, 1, 2] ?_));(cbv; repeat (refine ⟨an_, ?_⟩; cbv))
        ·cbv;refine .g h (fun _ => rfl) fun x19 h => ?_;cbv;refine .g kEqDecision (k := x19) (e := eB) h (by first | rfl | exact WM_nil' _ _) (fun h => h) fun y20 h => ?_;cbv;obtain rfl := oj h;refine hKn4 _ _ _ rfl (.nz (.mtE [0, 1, 2] ?_));(cbv; repeat (refine ⟨an_, ?_⟩; cbv))
       obtain ⟨v18, rfl⟩ := ez t;cbv;refine brkG h ?_ ?_ <;> intro h
       ·cbv;obtain rfl := oj h;obtain rfl := hr3 _ rfl;obtain rfl := hr2 _ rfl;obtain rfl := hr1 _ rfl;exact hK _ _ aw_
       ·cbv;refine .g h (fun _ => rfl) fun x21 h => ?_;cbv;refine .gk kEqDecision (k := x21) (e := eB) h (by first | rfl | exact WM_nil' _ _) aw_ fun m22 h => ?_;cbv;obtain rfl := oj h;refine hKn3 _ _ _ rfl (.nz (.mtE [0, 1, 2] ?_));(cbv; repeat (refine ⟨an_, ?_⟩; cbv))
      ·cbv;obtain rfl := oj h;refine hKn3 _ _ _ rfl (.nz (.mtE [0, 1, 2] ?_));(cbv; repeat (refine ⟨an_, ?_⟩; cbv))
    obtain ⟨known7, decisions8, leaf9⟩ := t;cbv;obtain rfl := oj h;refine hKn2 _ _ _ rfl (.nz (.mtE [0, 1, 2] ?_));(cbv; repeat (refine ⟨an_, ?_⟩; cbv))
   ·cbv;obtain rfl := oj h;obtain rfl := hr2 _ rfl;refine hKn1 _ _ _ rfl (.nz (.mtE [0] ?_));(cbv; repeat (refine ⟨an_, ?_⟩; cbv))
  obtain ⟨leaf2, rfl⟩ := ez t;cbv;refine .g h (fun (next23 : Int) => [.top, .ptr 0 0] ++ rp 3 .top ++ [oi leaf2] ++ rp 3 .top ++ [.ptr 1 0] ++ rp 83 .top) (fun next23 => [.cells [.d (.sl (W eNode t_.Nodes)), .d (.sl (W eDecision t_.Leaves))] 28, .cells [oi next23] 3]) (fun y hm Kn1 hKn1 => ?_) fun t h => ?_
  ·have h := hm;clear hm;cbv;refine .inl (hP ▸ c40_ok) ?_;cbv;obtain ⟨r24, hm, h⟩ := Option.bind_eq_some_iff.1 h;refine .embL [5, 4, 3, 1, 2, 6] (walkV_all hP t_.Nodes 11 _ _ _ _ hm) (by (cbv; repeat (refine ⟨an_, ?_⟩; cbv))) fun sv0 own0 hq _ => ?_;obtain ⟨rfl, rfl⟩ := hq;clear hm;cbv;obtain rfl := oj h;refine hKn1 _ _ _ rfl (.nz (.mtE [0, 1] ?_));(cbv; repeat (refine ⟨an_, ?_⟩; cbv))
  obtain ⟨next23, rfl⟩ := ez t;cbv;refine brkG h ?_ ?_ <;> intro h
  ·cbv;obtain rfl := oj h;exact hK _ _ aw_
  ·cbv;obtain rfl := oj h;exact hK _ _ aw_
end Go.SX.Td
namespace Go.SX.Td
open Go Go.SX Go.Proofs
set_option maxRecDepth 100000
noncomputable def table_Lookup_l26 (Cuts8 : (List Int)) (Attr7 : Int) (f : (A10 Int)) : Int → Option ((Int) ⊕ ((Unit) ⊕ (Int)))
 | v12 =>
 bif (io.lt v12 (io.len (W eIi64 Cuts8))) then (
 Option.bind (
 Option.bind (idxG Cuts8 v12) fun x14 =>
 Option.bind (pixG 10 Attr7) fun i15 =>
 some (io.lt (f.get i15) x14)
 ) fun v13 =>
 bif v13 then (
 some (.inr (.inr v12))
 ) else (
 some (.inl (io.ar .add .i64 v12 1))
 )
 ) else (
 some (.inr (.inl ()))
 )
noncomputable def table_Lookup_l22 (f : (A10 Int)) (t_ : Table) : (Int × (List Int) × (List Int) × Int) → Option ((Int × (List Int) × (List Int) × Int) ⊕ (Int × (List Int) × (List Int) × Int))
 | (Attr7, Cuts8, Kids9, Leaf10) =>
 bif (io.lt 0 (io.len (W eIi64 Kids9))) then (
 Option.bind (
 orR (
 whileG (table_Lookup_l26 Cuts8 Attr7 f) 0
 ) fun _ =>
 some (-1)
 ) fun k11 =>
 Option.bind (
 bif (io.lt k11 0) then (
 some (io.len (W eIi64 Cuts8))
 ) else (
 some k11
 )
 ) fun k16 =>
 Option.bind (idxG Kids9 k16) fun x17 =>
 Option.bind (idxG t_.Nodes x17) fun x18 =>
 some (.inl (x18.Attr, x18.Cuts, x18.Kids, x18.Leaf))
 ) else (
 some (.inr (Attr7, Cuts8, Kids9, Leaf10))
 )
noncomputable def table_Lookup_g (t_ : Table) (f : (A10 Int)) : Option (Decision) :=
 Option.bind (table_Valid_g t_) fun v1 =>
 bif (io.not v1) then (
 some (Decision.mk false false false 0 0 (Ratio.mk 0 0) (Ratio.mk 0 0) (Ratio.mk 0 0) (Ratio.mk 0 0) (Ratio.mk 0 0) 0)
 ) else (
 Option.bind (idxG t_.Nodes 0) fun x2 =>
 Option.bind (
 whileG (table_Lookup_l22 f t_) (x2.Attr, x2.Cuts, x2.Kids, x2.Leaf)
 ) fun (Attr3, Cuts4, Kids5, Leaf6) =>
 Option.bind (idxG t_.Leaves Leaf6) fun x19 =>
 some x19
 )
end Go.SX.Td
namespace Go.SX.Td
open Go Go.SX Go.Proofs
set_option maxRecDepth 100000
def c50r0 : List GOp := [
 gv 4 (.mv (.const (.int .i64 0)))]
def c50r1 : List GOp := [
 gv 6 (.mv (.tmp 0)),
 gv 7 (.len false (.tmp 6)),
 gv 8 (.mv (.const (.int .i64 0)))]
def c50r2 : List GOp := [
 gv 9 (.bin .lss (.tmp 8) (.tmp 7))]
def c50r3 : List GOp := [
 gv 10 (.mv (.tmp 8)),
 gv 5 (.mv (.tmp 10))]
def c50r4 : List GOp := [
 gv 11 (.mv (.tmp 1)),
 gv 12 (.mv (.tmp 0)),
 gv 13 (.mv (.tmp 5)),
 gv 14 (.idxA 1 (.tmp 12) (.tmp 13)),
 gv 15 (.load 1 false (.tmp 14)),
 gv 16 (.callv (.tmp 11) [(.tmp 15)])]
def c50r5 : List GOp := [
 gv 17 (.mv (.tmp 5)),
 gv 4 (.mv (.tmp 17))]
def c50r6 : List GOp := [
 gv 18 (.bin .add (.tmp 8) (.const (.int .i64 1))),
 gv 8 (.mv (.tmp 18))]
def c50l7 : DE := .seq (.reg c50r2) (.seq (.cond (.tmp 9) (.skip) (.exit 0)) (.seq (.block 1 (.seq (.reg c50r3) (.join (.reg c50r4) (.cond (.tmp 16) (.seq (.reg c50r5) (.ret)) (.skip))))) (.reg c50r6)))
def c50r8 : List GOp := [
 gv 4 (.mv (.const (.int .i64 (-1))))]
def c50 : EFn := ⟨19, .seq (.reg c50r0) (.join (.seq (.reg c50r1) (.block 0 (.loop c50l7))) (.seq (.reg c50r8) (.ret))), [.tmp 4]⟩
theorem c50_ok : compF Tryd.prog 50 = some c50.er := by kernel_rfl
def c51r0 : List GOp := [
 gv 4 (.mv (.const (.bool false)))]
def c51r1 : List GOp := [
 gv 5 (.mv (.tmp 0)),
 gv 6 (.fadd 0 (.tmp 2)),
 gv 7 (.load 1 false (.tmp 6)),
 gv 8 (.idxP 10 1 (.tmp 1) (.tmp 7)),
 gv 9 (.load 1 false (.tmp 8)),
 gv 10 (.bin .gtr (.tmp 5) (.tmp 9)),
 gv 4 (.mv (.tmp 10))]
def c51 : EFn := ⟨11, .seq (.reg c51r0) (.seq (.reg c51r1) (.ret)), [.tmp 4]⟩
theorem c51_ok : compF Tryd.prog 51 = some c51.er := by kernel_rfl
def c20r0 : List GOp := [
 gv 2 (.box 28 (.tmp 0)),
 gv 3 (.box 38 (.tmp 1)),
 gv 4 (.alloc 45 (.agg #[(.bool false), (.bool false), (.bool false), oz, oz, oz, oz, oz, oz, oz, oz, oz, oz, oz, oz, oz]))]
def c20r1 : List GOp := [
 gv 7 (.load 2 true (.tmp 2)),
 gv 8 (.call 17 [(.tmp 7)]),
 gv 9 (.un .not (.tmp 8))]
def c20r2 : List GOp := [
 gv 10 (.build (.agg #[(.bool false), (.bool false), (.bool false), oz, oz, oz, oz, oz, oz, oz, oz, oz, oz, oz, oz, oz]) []),
 ⟨none, .store 16 (.tmp 4) (.tmp 10), none⟩]
def c20r3 : List GOp := [
 gv 11 (.fadd 0 (.tmp 2)),
 gv 12 (.load 1 false (.tmp 11)),
 gv 13 (.idxA 4 (.tmp 12) (.const (.int .i64 0))),
 gv 14 (.load 4 true (.tmp 13)),
 gv 5 (.alloc 64 (.agg #[oz, (.slice none 0 0), (.slice none 0 0), oz])),
 ⟨none, .store 4 (.tmp 5) (.tmp 14), none⟩]
def c20r4 : List GOp := [
 gv 15 (.fadd 2 (.tmp 5)),
 gv 16 (.load 1 false (.tmp 15)),
 gv 17 (.len false (.tmp 16)),
 gv 18 (.bin .gtr (.tmp 17) (.const (.int .i64 0)))]
def c20r5 : List GOp := [
 gv 19 (.fadd 1 (.tmp 5)),
 gv 20 (.load 1 false (.tmp 19)),
 gv 21 (.mkfn (.func 51) [] [(.tmp 3), (.tmp 5)]),
 gv 22 (.call 50 [(.tmp 20), (.tmp 21)]),
 gv 6 (.mv (.tmp 22))]
def c20r6 : List GOp := [
 gv 23 (.mv (.tmp 6)),
 gv 24 (.bin .lss (.tmp 23) (.const (.int .i64 0)))]
def c20r7 : List GOp := [
 gv 25 (.fadd 1 (.tmp 5)),
 gv 26 (.load 1 false (.tmp 25)),
 gv 27 (.len false (.tmp 26)),
 gv 6 (.mv (.tmp 27))]
def c20r8 : List GOp := [
 gv 28 (.fadd 0 (.tmp 2)),
 gv 29 (.load 1 false (.tmp 28)),
 gv 30 (.fadd 2 (.tmp 5)),
 gv 31 (.load 1 false (.tmp 30)),
 gv 32 (.mv (.tmp 6)),
 gv 33 (.idxA 1 (.tmp 31) (.tmp 32)),
 gv 34 (.load 1 false (.tmp 33)),
 gv 35 (.idxA 4 (.tmp 29) (.tmp 34)),
 gv 36 (.load 4 true (.tmp 35))]
def c20r8z : GOp := ⟨none, .store 4 (.tmp 5) (.tmp 36), none⟩
def c20l9 : DE := .seq (.seq (.reg c20r4) (.cond (.tmp 18) (.skip) (.exit 0))) (.block 1 (.join (.reg c20r5) (.join (.seq (.reg c20r6) (.cond (.tmp 24) (.reg c20r7) (.skip))) (.hyl true true 7 c20r8 c20r8z))))
def c20r10 : List GOp := [
 gv 37 (.fadd 1 (.tmp 2)),
 gv 38 (.load 1 false (.tmp 37)),
 gv 39 (.fadd 3 (.tmp 5)),
 gv 40 (.load 1 false (.tmp 39)),
 gv 41 (.idxA 16 (.tmp 38) (.tmp 40)),
 gv 42 (.load 16 true (.tmp 41)),
 ⟨none, .store 16 (.tmp 4) (.tmp 42), none⟩]
def c20 : EFn := ⟨43, .seq (.reg c20r0) (.seq (.seq (.reg c20r1) (.cond (.tmp 9) (.seq (.reg c20r2) (.ret)) (.skip))) (.seq (.reg c20r3) (.join (.block 0 (.loop c20l9)) (.seq (.reg c20r10) (.ret))))), [.cell 4 16 true]⟩
theorem c20_ok : compF Tryd.prog 20 = some c20.er := by kernel_rfl
set_option maxHeartbeats 4000000 in
theorem table_Lookup_R {P : Program} (hP : P = Tryd.prog) (t_ : Table) (f : (A10 Int)) (r : Decision) (h : table_Lookup_g t_ f = some r) : Fn1 P 20 [vTable t_, vA10Ii64 f] (vDecision r) := by
 refine .walkE (hP ▸ c20_ok) fun K hK => ?_;unfold table_Lookup_g at h;cbv;refine .g h (fun v hv => table_Valid_R hP _ v hv) aw_ rfl (fun _ => rfl) fun v1 h => ?_;cbv;refine brkG h ?_ ?_ <;> intro h
 ·cbv;obtain rfl := oj h;exact hK _ _ aw_
 ·cbv;refine .g h (fun _ => rfl) fun x2 h => ?_;cbv;refine .g h (fun ((Attr3, Cuts4, Kids5, Leaf6) : Int × (List Int) × (List Int) × Int) => [.top, .top, .ptr 0 0, .top, .ptr 1 0, .ptr 2 0] ++ rp 37 .top) (fun (Attr3, Cuts4, Kids5, Leaf6) => [.cells [.d (.sl (W eNode t_.Nodes)), .d (.sl (W eDecision t_.Leaves))] 28, .cells dz 45, .cells [oi Attr3, .d (.sl (W eIi64 Cuts4)), .d (.sl (W eIi64 Kids5)), oi Leaf6] 64]) (fun y hm Kn1 hKn1 => ?_) fun t h => ?_
  ·have h := hm;clear hm;cbv;refine .g h (fun ((Attr7, Cuts8, Kids9, Leaf10) : Int × (List Int) × (List Int) × Int) => [.top, .top, .ptr 0 0, .ptr 1 0, .ptr 2 0, .ptr 3 0] ++ rp 37 .top) (fun (Attr7, Cuts8, Kids9, Leaf10) => [.cells [.d (.sl (W eNode t_.Nodes)), .d (.sl (W eDecision t_.Leaves))] 28, .cells (ca f) 38, .cells dz 45, .cells [oi Attr7, .d (.sl (W eIi64 Cuts8)), .d (.sl (W eIi64 Kids9)), oi Leaf10] 64]) (.nz (.mtE [0, 1, 2, 3] ?_)) fun s x h hr2 Kn2 hKn2 => ?_
   ·(cbv; repeat (refine ⟨an_, ?_⟩; cbv))
   unfold table_Lookup_l22 at h;obtain ⟨Attr7, Cuts8, Kids9, Leaf10⟩ := s;cbv;refine brkG h ?_ ?_ <;> intro h
   ·cbv;refine .g h (fun (k11 : Int) => [.top, .top, .ptr 0 0, .ptr 1 0, .ptr 2 0, .ptr 3 0, oi k11] ++ rp 36 .top) (fun k11 => [.cells [.d (.sl (W eNode t_.Nodes)), .d (.sl (W eDecision t_.Leaves))] 28, .cells (ca f) 38, .cells dz 45, .cells [oi Attr7, .d (.sl (W eIi64 Cuts8)), .d (.sl (W eIi64 Kids9)), oi Leaf10] 64]) (fun y hm Kn3 hKn3 => ?_) fun t h => ?_
    ·have h := hm;clear hm;cbv;refine .inl (hP ▸ c50_ok) ?_;cbv;refine .ga h (fun (_ : Unit) => rp 19 .top) (fun _ => [.cells [.d (.sl (W eNode t_.Nodes)), .d (.sl (W eDecision t_.Leaves))] 28, .cells (ca f) 38, .cells dz 45, .cells [oi Attr7, .d (.sl (W eIi64 Cuts8)), .d (.sl (W eIi64 Kids9)), oi Leaf10] 64]) (fun y hm hr4 Kn4 hKn4 => ?_) fun t h => ?_
     ·have h := hm;clear hm;cbv;refine .g h (fun (v12 : Int) => [.d (.sl (W eIi64 Cuts8)), .clo (.func 51) [] [.ptr 1 0, .ptr 3 0]] ++ rp 5 .top ++ [oi (io.len (W eIi64 Cuts8)), oi v12] ++ rp 10 .top) (fun v12 => [.cells [.d (.sl (W eNode t_.Nodes)), .d (.sl (W eDecision t_.Leaves))] 28, .cells (ca f) 38, .cells dz 45, .cells [oi Attr7, .d (.sl (W eIi64 Cuts8)), .d (.sl (W eIi64 Kids9)), oi Leaf10] 64]) (.nz (.mtE [0, 1, 2, 3] ?_)) fun s x h hr5 Kn5 hKn5 => ?_
      ·(cbv; repeat (refine ⟨an_, ?_⟩; cbv))
      unfold table_Lookup_l26 at h;obtain ⟨v12, rfl⟩ := ez s;cbv;refine brkG h ?_ ?_ <;> intro h
      ·cbv;refine .g h (fun (v13 : Bool) => [.d (.sl (W eIi64 Cuts8)), .clo (.func 51) [] [.ptr 1 0, .ptr 3 0]] ++ rp 3 .top ++ [oi v12, .top, oi (io.len (W eIi64 Cuts8)), oi v12] ++ rp 7 .top ++ [ob v13, .top, .top]) (fun v13 => [.cells [.d (.sl (W eNode t_.Nodes)), .d (.sl (W eDecision t_.Leaves))] 28, .cells (ca f) 38, .cells dz 45, .cells [oi Attr7, .d (.sl (W eIi64 Cuts8)), .d (.sl (W eIi64 Kids9)), oi Leaf10] 64]) (fun y hm Kn6 hKn6 => ?_) fun t h => ?_
       ·have h := hm;clear hm;cbv;refine .g h (fun _ => rfl) fun x14 h => ?_;cbv;refine .inl (hP ▸ c51_ok) ?_;cbv
        refine .c10 h ?_ ?_ ?_ ?_ ?_ ?_ ?_ ?_ ?_ ?_ <;> (
         intro hni15 h;cbv;obtain rfl := oj h;refine hKn6 _ _ _ rfl (.nz (.mtE [0, 1, 2, 3] ?_));(cbv; repeat (refine ⟨an_, ?_⟩; cbv))
         )
       obtain ⟨v13, rfl⟩ := ez t;cbv;refine brkG h ?_ ?_ <;> intro h
       ·cbv;obtain rfl := oj h;obtain rfl := hr5 _ rfl;obtain rfl := hr4 _ rfl;refine hKn3 _ _ _ rfl (.nz (.mtE [0, 1, 2, 3] ?_));(cbv; repeat (refine ⟨an_, ?_⟩; cbv))
       ·cbv;obtain rfl := oj h;refine hKn5 _ _ _ rfl (.nz (.mtE [0, 1, 2, 3] ?_));(cbv; repeat (refine ⟨an_, ?_⟩; cbv))
      ·cbv;obtain rfl := oj h;obtain rfl := hr5 _ rfl;refine hKn4 _ _ _ rfl (.nz (.mtE [0, 1, 2, 3] ?_));(cbv; repeat (refine ⟨an_, ?_⟩; cbv))
     cbv;obtain rfl := oj h;refine hKn3 _ _ _ rfl (.nz (.mtE [0, 1, 2, 3] ?_));(cbv; repeat (refine ⟨an_, ?_⟩; cbv))
    obtain ⟨k11, rfl⟩ := ez t;cbv;refine .g h (fun (k16 : Int) => [.top, .top, .ptr 0 0, .ptr 1 0, .ptr 2 0, .ptr 3 0, oi k16] ++ rp 36 .top) (fun k16 => [.cells [.d (.sl (W eNode t_.Nodes)), .d (.sl (W eDecision t_.Leaves))] 28, .cells (ca f) 38, .cells dz 45, .cells [oi Attr7, .d (.sl (W eIi64 Cuts8)), .d (.sl (W eIi64 Kids9)), oi Leaf10] 64]) (fun y hm Kn3 hKn3 => ?_) fun t h => ?_
    ·have h := hm;clear hm;cbv;refine brkG h ?_ ?_ <;> intro h
     ·cbv;obtain rfl := oj h;refine hKn3 _ _ _ rfl (.nz (.mtE [0, 1, 2, 3] ?_));(cbv; repeat (refine ⟨an_, ?_⟩; cbv))
     ·cbv;obtain rfl := oj h;refine hKn3 _ _ _ rfl (.nz (.mtE [0, 1, 2, 3] ?_));(cbv; repeat (refine ⟨an_, ?_⟩; cbv))
    obtain ⟨k16, rfl⟩ := ez t;cbv;refine .g h (fun _ => rfl) fun x17 h => ?_;cbv;refine .g h (fun _ => rfl) fun x18 h => ?_;cbv;obtain rfl := oj h;refine hKn2 _ _ _ rfl (.nz (.mtE [0, 1, 2, 3] ?_));(cbv; repeat (refine ⟨an_, ?_⟩; cbv))
   ·cbv;obtain rfl := oj h;obtain rfl := hr2 _ rfl;refine hKn1 _ _ _ rfl (.nz (.mtE [0, 2, 3] ?_));(cbv; repeat (refine ⟨an_, ?_⟩; cbv))
  obtain ⟨Attr3, Cuts4, Kids5, Leaf6⟩ := t;cbv;refine .g h (fun _ => rfl) fun x19 h => ?_;cbv;obtain rfl := oj h;exact hK _ _ aw_
end Go.SX.Td
namespace Go.SX.Td
open Go Go.SX Go.Proofs
set_option maxRecDepth 100000
noncomputable def law14_rule_g (kind : Int) (name : ByteArray) (n : Int) (z_ : (A10 Range)) : Option (Rule) :=
 Option.bind (some [z_]) fun l1 =>
 some (Rule.mk kind name l1 n (Ratio.mk 0 1) (Ratio.mk 0 1))
end Go.SX.Td
namespace Go.SX.Td
open Go Go.SX Go.Proofs
set_option maxRecDepth 100000
noncomputable def law14_all_g (attr : Int) (r_ : Range) : Option ((A10 Range)) :=
 Option.bind (resolve_Limits_g) fun v1 =>
 Option.bind (
 Option.bind (pixG 10 attr) fun i3 =>
 some (v1.put i3 r_)
 ) fun z2 =>
 some z2
end Go.SX.Td
namespace Go.SX.Td
open Go Go.SX Go.Proofs
set_option maxRecDepth 100000
noncomputable def ref11_Ints_l2 (a : (List Int)) (b : (List Int)) : Int → Option ((Int) ⊕ ((Unit) ⊕ (Bool)))
 | i1 =>
 bif (io.lt i1 (io.len (W eIi64 a))) then (
 Option.bind (idxG a i1) fun x2 =>
 Option.bind (idxG b i1) fun x3 =>
 bif (io.not (io.eq x2 x3)) then (
 some (.inr (.inr false))
 ) else (
 some (.inl (io.ar .add .i64 i1 1))
 )
 ) else (
 some (.inr (.inl ()))
 )
noncomputable def ref11_Ints_g (a : (List Int)) (b : (List Int)) : Option (Bool) :=
 bif (io.not (io.eq (io.len (W eIi64 a)) (io.len (W eIi64 b)))) then (
 some false
 ) else (
 orR (
 whileG (ref11_Ints_l2 a b) 0
 ) fun _ =>
 some true
 )
end Go.SX.Td
namespace Go.SX.Td
open Go Go.SX Go.Proofs
set_option maxRecDepth 100000
noncomputable def ref14_Equal_g (a : Node) (b : Node) : Option (Bool) :=
 bif (io.eq a.Attr b.Attr) then (
 bif (io.eq a.Leaf b.Leaf) then (
 Option.bind (ref11_Ints_g a.Cuts b.Cuts) fun v1 =>
 bif v1 then (
 Option.bind (ref11_Ints_g a.Kids b.Kids) fun v2 =>
 some v2
 ) else (
 some false
 )
 ) else (
 some false
 )
 ) else (
 some false
 )
end Go.SX.Td
namespace Go.SX.Td
open Go Go.SX Go.Proofs
set_option maxRecDepth 100000
noncomputable def law14_head_g : Option (Bool) :=
 Option.bind (resolve_Limits_g) fun v1 =>
 Option.bind (law14_all_g 2 (Range.mk 1 1)) fun v2 =>
 Option.bind (law14_rule_g 1 (⟨#[97]⟩) 0 v2) fun v3 =>
 Option.bind (law14_rule_g 3 (⟨#[112]⟩) 100 v1) fun v4 =>
 Option.bind (law14_all_g 1 (Range.mk 0 17)) fun v5 =>
 Option.bind (law14_rule_g 2 (⟨#[100]⟩) 0 v5) fun v6 =>
 Option.bind (table_Build_g (Policy.mk [])) fun v7 =>
 Option.bind (law14_rule_g 1 (⟨#[97]⟩) 0 v1) fun v8 =>
 Option.bind (some [v8, v4]) fun l9 =>
 Option.bind (table_Build_g (Policy.mk l9)) fun v10 =>
 Option.bind (some [v3, v4]) fun l11 =>
 Option.bind (table_Build_g (Policy.mk l11)) fun v12 =>
 Option.bind (some [v3, v4, v6]) fun l13 =>
 Option.bind (table_Build_g (Policy.mk l13)) fun v14 =>
 Option.bind (some [(Rule.mk 0 (⟨#[]⟩) [] 0 (Ratio.mk 0 0) (Ratio.mk 0 0))]) fun l15 =>
 Option.bind (table_Build_g (Policy.mk l15)) fun v16 =>
 Option.bind (
 bif (io.not (io.eq v7.2 0)) then (
 some true
 ) else (
 bif (io.not (io.eq v10.2 0)) then (
 some true
 ) else (
 bif (io.not (io.eq v12.2 0)) then (
 some true
 ) else (
 bif (io.not (io.eq v14.2 0)) then (
 some true
 ) else (
 bif (io.not (io.eq v16.2 1)) then (
 some true
 ) else (
 bif (io.not (io.eq (io.len (W eNode v7.1.Nodes)) 1)) then (
 some true
 ) else (
 bif (io.not (io.eq (io.len (W eNode v10.1.Nodes)) 1)) then (
 some true
 ) else (
 bif (io.not (io.eq (io.len (W eNode v12.1.Nodes)) 3)) then (
 some true
 ) else (
 some (io.not (io.eq (io.len (W eNode v14.1.Nodes)) 5))
 )
 )
 )
 )
 )
 )
 )
 )
 ) fun v17 =>
 bif v17 then (
 some false
 ) else (
 Option.bind (
 Option.bind (idxG v7.1.Leaves 0) fun x19 =>
 bif (io.not x19.Allowed) then (
 Option.bind (idxG v10.1.Leaves 0) fun x20 =>
 bif x20.Allowed then (
 Option.bind (idxG v10.1.Leaves 0) fun x21 =>
 bif (io.eq x21.Price 100) then (
 Option.bind (idxG v12.1.Nodes 0) fun x22 =>
 Option.bind (some [1]) fun l23 =>
 Option.bind (some [1, 2]) fun l24 =>
 Option.bind (ref14_Equal_g x22 (Node.mk 2 l23 l24 0)) fun v25 =>
 bif v25 then (
 Option.bind (idxG v14.1.Nodes 0) fun x26 =>
 Option.bind (some [18]) fun l27 =>
 Option.bind (some [1, 2]) fun l28 =>
 Option.bind (ref14_Equal_g x26 (Node.mk 1 l27 l28 0)) fun v29 =>
 some v29
 ) else (
 some false
 )
 ) else (
 some false
 )
 ) else (
 some false
 )
 ) else (
 some false
 )
 ) fun one18 =>
 bif one18 then (
 Option.bind (table_Lookup_g v14.1 (A10.mk 0 30 1 0 0 0 0 0 1 0)) fun v30 =>
 bif v30.Allowed then (
 Option.bind (table_Lookup_g v12.1 (A10.mk 0 0 0 0 0 0 0 0 0 0)) fun v31 =>
 bif (io.not v31.Allowed) then (
 Option.bind (table_Valid_g v14.1) fun v32 =>
 bif v32 then (
 Option.bind (table_Valid_g (Table.mk [] [])) fun v33 =>
 some (io.not v33)
 ) else (
 some false
 )
 ) else (
 some false
 )
 ) else (
 some false
 )
 ) else (
 some false
 )
 )
end Go.SX.Td
namespace Go.SX.Td
open Go Go.SX Go.Proofs
set_option maxRecDepth 100000
def c52r0 : List GOp := [
 gv 7 (.box 57 (.tmp 3)),
 gv 8 (.alloc 36 (.agg #[oz, (.string ⟨#[]⟩), (.slice none 0 0), oz, oz, oz, oz, oz]))]
def c52r1 : List GOp := [
 gv 10 (.build (.agg #[oz, oz]) [((1, 1), (.const (.int .i64 1)))]),
 gv 9 (.alloc 34 (.agg #[oz, oz])),
 ⟨none, .store 2 (.tmp 9) (.tmp 10), none⟩]
def c52r2 : List GOp := [
 gv 11 (.mv (.tmp 0)),
 gv 12 (.mv (.tmp 1)),
 gv 13 (.load 20 true (.tmp 7)),
 gv 14 (.bslice 57 20 1 (.agg #[oz, oz, oz, oz, oz, oz, oz, oz, oz, oz, oz, oz, oz, oz, oz, oz, oz, oz, oz, oz]) [(0, (.tmp 13))]),
 gv 15 (.mv (.tmp 2)),
 gv 16 (.load 2 true (.tmp 9)),
 gv 17 (.load 2 true (.tmp 9)),
 gv 18 (.build (.agg #[oz, (.string ⟨#[]⟩), (.slice none 0 0), oz, oz, oz, oz, oz]) [((0, 1), (.tmp 11)), ((1, 1), (.tmp 12)), ((2, 1), (.tmp 14)), ((3, 1), (.tmp 15)), ((4, 2), (.tmp 16)), ((6, 2), (.tmp 17))]),
 ⟨none, .store 8 (.tmp 8) (.tmp 18), none⟩]
def c52 : EFn := ⟨19, .seq (.reg c52r0) (.seq (.reg c52r1) (.seq (.reg c52r2) (.ret))), [.cell 8 8 true]⟩
theorem c52_ok : compF Tryd.prog 52 = some c52.er := by kernel_rfl
set_option maxHeartbeats 4000000 in
theorem law14_rule_R {P : Program} (hP : P = Tryd.prog) (kind : Int) (name : ByteArray) (n : Int) (z_ : (A10 Range)) (r : Rule) (h : law14_rule_g kind name n z_ = some r) : Fn1 P 52 [vIi64 kind, vS name, vIi64 n, vA10Range z_] (vRule r) := by
 refine .walkE (hP ▸ c52_ok) fun K hK => ?_;unfold law14_rule_g at h;cbv;refine .g (e := eA10Range) h (W_cons aw_ (W_nil' _)) fun l1 h => ?_;cbv;obtain rfl := oj h;exact hK _ _ aw_
end Go.SX.Td
namespace Go.SX.Td
open Go Go.SX Go.Proofs
set_option maxRecDepth 100000
def c53r0 : List GOp := [
 gv 3 (.box 55 (.tmp 1)),
 gv 4 (.alloc 57 (.agg #[oz, oz, oz, oz, oz, oz, oz, oz, oz, oz, oz, oz, oz, oz, oz, oz, oz, oz, oz, oz]))]
def c53r1 : List GOp := [
 gv 6 (.call 26 []),
 gv 5 (.alloc 57 (.agg #[oz, oz, oz, oz, oz, oz, oz, oz, oz, oz, oz, oz, oz, oz, oz, oz, oz, oz, oz, oz])),
 ⟨none, .store 20 (.tmp 5) (.tmp 6), none⟩]
def c53r2 : List GOp := [
 gv 7 (.mv (.tmp 0)),
 gv 8 (.load 2 true (.tmp 3)),
 gv 9 (.idxP 10 2 (.tmp 5) (.tmp 7)),
 ⟨none, .store 2 (.tmp 9) (.tmp 8), none⟩]
def c53r3 : List GOp := [
 gv 10 (.load 20 true (.tmp 5)),
 ⟨none, .store 20 (.tmp 4) (.tmp 10), none⟩]
def c53 : EFn := ⟨11, .seq (.reg c53r0) (.seq (.reg c53r1) (.join (.reg c53r2) (.seq (.reg c53r3) (.ret)))), [.cell 4 20 true]⟩
theorem c53_ok : compF Tryd.prog 53 = some c53.er := by kernel_rfl
set_option maxHeartbeats 4000000 in
theorem law14_all_R {P : Program} (hP : P = Tryd.prog) (attr : Int) (r_ : Range) (r : (A10 Range)) (h : law14_all_g attr r_ = some r) : Fn1 P 53 [vIi64 attr, vRange r_] (vA10Range r) := by
 refine .walkE (hP ▸ c53_ok) fun K hK => ?_;unfold law14_all_g at h;cbv;refine .g h (fun v hv => resolve_Limits_R hP v hv) aw_ rfl (fun _ => rfl) fun v1 h => ?_;cbv;refine .g h (fun (z2 : (A10 Range)) => rp 4 .top ++ [.ptr 0 0, .ptr 1 0] ++ rp 5 .top) (fun z2 => [.cells [oi 0, oi 0, oi 0, oi 0, oi 0, oi 0, oi 0, oi 0, oi 0, oi 0, oi 0, oi 0, oi 0, oi 0, oi 0, oi 0, oi 0, oi 0, oi 0, oi 0] 57, .cells (cR z2) 57]) (fun y hm Kn1 hKn1 => ?_) fun t h => ?_
 ·have h := hm;clear hm;cbv
  refine .c10 h ?_ ?_ ?_ ?_ ?_ ?_ ?_ ?_ ?_ ?_ <;> (
   intro hni3 h;cbv;obtain rfl := oj h;refine hKn1 _ _ _ rfl (.nz (.mtE [1, 2] ?_));(cbv; repeat (refine ⟨an_, ?_⟩; cbv))
   )
 obtain ⟨z2, rfl⟩ := ez t;cbv;obtain rfl := oj h;exact hK _ _ aw_
end Go.SX.Td
namespace Go.SX.Td
open Go Go.SX Go.Proofs
set_option maxRecDepth 100000
def c73r0 : List GOp := [
 gv 4 (.mv (.const (.bool false)))]
def c73r1 : List GOp := [
 gv 6 (.mv (.tmp 0)),
 gv 7 (.len false (.tmp 6)),
 gv 8 (.mv (.tmp 1)),
 gv 9 (.len false (.tmp 8)),
 gv 10 (.bin .neq (.tmp 7) (.tmp 9))]
def c73r2 : List GOp := [
 gv 4 (.mv (.const (.bool false)))]
def c73r3 : List GOp := [
 gv 5 (.mv (.const (.int .i64 0)))]
def c73r4 : List GOp := [
 gv 11 (.mv (.tmp 5)),
 gv 12 (.mv (.tmp 0)),
 gv 13 (.len false (.tmp 12)),
 gv 14 (.bin .lss (.tmp 11) (.tmp 13))]
def c73r5 : List GOp := [
 gv 17 (.mv (.tmp 0)),
 gv 18 (.mv (.tmp 5)),
 gv 19 (.idxA 1 (.tmp 17) (.tmp 18)),
 gv 20 (.load 1 false (.tmp 19)),
 gv 21 (.mv (.tmp 1)),
 gv 22 (.mv (.tmp 5)),
 gv 23 (.idxA 1 (.tmp 21) (.tmp 22)),
 gv 24 (.load 1 false (.tmp 23)),
 gv 25 (.bin .neq (.tmp 20) (.tmp 24))]
def c73r6 : List GOp := [
 gv 4 (.mv (.const (.bool false)))]
def c73r7 : List GOp := [
 gv 15 (.mv (.tmp 5)),
 gv 16 (.bin .add (.tmp 15) (.const (.int .i64 1))),
 gv 5 (.mv (.tmp 16))]
def c73l8 : DE := .seq (.seq (.reg c73r4) (.cond (.tmp 14) (.skip) (.exit 0))) (.seq (.block 1 (.seq (.par true true true 8 c73r5) (.cond (.tmp 25) (.seq (.reg c73r6) (.ret)) (.skip)))) (.reg c73r7))
def c73r9 : List GOp := [
 gv 4 (.mv (.const (.bool true)))]
def c73 : EFn := ⟨26, .seq (.reg c73r0) (.seq (.seq (.reg c73r1) (.cond (.tmp 10) (.seq (.reg c73r2) (.ret)) (.skip))) (.join (.seq (.reg c73r3) (.block 0 (.loop c73l8))) (.seq (.reg c73r9) (.ret)))), [.tmp 4]⟩
theorem c73_ok : compF Tryd.prog 73 = some c73.er := by kernel_rfl
set_option maxHeartbeats 4000000 in
theorem ref11_Ints_R {P : Program} (hP : P = Tryd.prog) (a : (List Int)) (b : (List Int)) (r : Bool) (h : ref11_Ints_g a b = some r) : Fn1 P 73 [vLIi64 a, vLIi64 b] (vB r) := by
 refine .walkE (hP ▸ c73_ok) fun K hK => ?_;unfold ref11_Ints_g at h;cbv;refine brkG h ?_ ?_ <;> intro h
 ·cbv;obtain rfl := oj h;exact hK _ _ aw_
 ·cbv;refine .ga h (fun (_ : Unit) => rp 26 .top) (fun _ => []) (fun y hm hr1 Kn1 hKn1 => ?_) fun t h => ?_
  ·have h := hm;clear hm;cbv;refine .g h (fun (i1 : Int) => [.d (.sl (W eIi64 a)), .d (.sl (W eIi64 b))] ++ rp 3 .top ++ [oi i1] ++ rp 20 .top) (fun i1 => []) (.nz (.mtE [] ?_)) fun s x h hr2 Kn2 hKn2 => ?_
   ·(cbv; repeat (refine ⟨an_, ?_⟩; cbv))
   unfold ref11_Ints_l2 at h;obtain ⟨i1, rfl⟩ := ez s;cbv;refine brkG h ?_ ?_ <;> intro h
   ·cbv;refine .g h (fun _ => rfl) fun x2 h => ?_;cbv;refine .g h (fun _ => rfl) fun x3 h => ?_;cbv;refine brkG h ?_ ?_ <;> intro h
    ·cbv;obtain rfl := oj h;obtain rfl := hr2 _ rfl;obtain rfl := hr1 _ rfl;exact hK _ _ aw_
    ·cbv;obtain rfl := oj h;refine hKn2 _ _ _ rfl (.nz (.mtE [] ?_));(cbv; repeat (refine ⟨an_, ?_⟩; cbv))
   ·cbv;obtain rfl := oj h;obtain rfl := hr2 _ rfl;refine hKn1 _ _ _ rfl (.nz (.mtE [] ?_));(cbv; repeat (refine ⟨an_, ?_⟩; cbv))
  cbv;obtain rfl := oj h;exact hK _ _ aw_
end Go.SX.Td
namespace Go.SX.Td
open Go Go.SX Go.Proofs
set_option maxRecDepth 100000
def c54r0 : List GOp := [
 gv 2 (.box 64 (.tmp 0)),
 gv 3 (.box 64 (.tmp 1)),
 gv 4 (.mv (.const (.bool false)))]
def c54r1 : List GOp := [
 gv 5 (.fadd 0 (.tmp 2)),
 gv 6 (.load 1 false (.tmp 5)),
 gv 7 (.fadd 0 (.tmp 3)),
 gv 8 (.load 1 false (.tmp 7)),
 gv 9 (.bin .eql (.tmp 6) (.tmp 8)),
 gv 10 (.mv (.tmp 9)),
 gw 11 10 true (.fadd 3 (.tmp 2)),
 gw 12 10 true (.load 1 false (.tmp 11)),
 gw 13 10 true (.fadd 3 (.tmp 3)),
 gw 14 10 true (.load 1 false (.tmp 13)),
 gw 15 10 true (.bin .eql (.tmp 12) (.tmp 14)),
 gv 16 (.pick (.tmp 10) (.tmp 15) (.const (.bool false))),
 gv 17 (.mv (.tmp 16)),
 gw 18 17 true (.fadd 1 (.tmp 2)),
 gw 19 17 true (.load 1 false (.tmp 18)),
 gw 20 17 true (.fadd 1 (.tmp 3)),
 gw 21 17 true (.load 1 false (.tmp 20)),
 gw 22 17 true (.call 73 [(.tmp 19), (.tmp 21)]),
 gv 23 (.pick (.tmp 17) (.tmp 22) (.const (.bool false))),
 gv 24 (.mv (.tmp 23)),
 gw 25 24 true (.fadd 2 (.tmp 2)),
 gw 26 24 true (.load 1 false (.tmp 25)),
 gw 27 24 true (.fadd 2 (.tmp 3)),
 gw 28 24 true (.load 1 false (.tmp 27)),
 gw 29 24 true (.call 73 [(.tmp 26), (.tmp 28)]),
 gv 30 (.pick (.tmp 24) (.tmp 29) (.const (.bool false))),
 gv 4 (.mv (.tmp 30))]
def c54 : EFn := ⟨31, .seq (.reg c54r0) (.seq (.reg c54r1) (.ret)), [.tmp 4]⟩
theorem c54_ok : compF Tryd.prog 54 = some c54.er := by kernel_rfl
set_option maxHeartbeats 4000000 in
theorem ref14_Equal_R {P : Program} (hP : P = Tryd.prog) (a : Node) (b : Node) (r : Bool) (h : ref14_Equal_g a b = some r) : Fn1 P 54 [vNode a, vNode b] (vB r) := by
 refine .walkE (hP ▸ c54_ok) fun K hK => ?_;unfold ref14_Equal_g at h;cbv;refine brkG h ?_ ?_ <;> intro h
 ·cbv;refine brkG h ?_ ?_ <;> intro h
  ·cbv;refine .g h (fun v hv => ref11_Ints_R hP _ _ v hv) aw_ rfl (fun _ => rfl) fun v1 h => ?_;cbv;refine brkG h ?_ ?_ <;> intro h
   ·cbv;refine .g h (fun v hv => ref11_Ints_R hP _ _ v hv) aw_ rfl (fun _ => rfl) fun v2 h => ?_;cbv;obtain rfl := oj h;exact hK _ _ aw_
   ·cbv;obtain rfl := oj h;exact hK _ _ aw_
  ·cbv;obtain rfl := oj h;exact hK _ _ aw_
 ·cbv;obtain rfl := oj h;exact hK _ _ aw_
end Go.SX.Td
