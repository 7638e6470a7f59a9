/- Parts of the proof. -/
import Derived.Test.YtllbabjgpdmblaaDoorZTdT
import Derived.Test.YtllbabjgpdmblaaDoorZTd39
import Derived.Test.YtllbabjgpdmblaaDoorZTd32d
import Derived.Test.YtllbabjgpdmblaaDoorZTdBuilder
import Derived.Test.YtllbabjgpdmblaaDoorZTdSwalkTd
import Derived.Test.YtllbabjgpdmblaaDoorZTd24
set_option linter.unusedSimpArgs false
set_option linter.unusedVariables false
set_option linter.unusedSectionVars false
namespace Go.SX.Td
open Go Go.SX Go.Proofs
set_option maxRecDepth 100000
def c50r0 : List GOp := [
 gv 4 (.mv (.const (.int .i64 0)))]
def c50r1 : List GOp := [
 gv 6 (.mv (.tmp 0)),
 gv 7 (.len false (.tmp 6)),
 gv 8 (.mv (.const (.int .i64 0)))]
def c50r2 : List GOp := [
 gv 9 (.bin .lss (.tmp 8) (.tmp 7))]
def c50r3 : List GOp := [
 gv 10 (.mv (.tmp 8)),
 gv 5 (.mv (.tmp 10))]
def c50r4 : List GOp := [
 gv 11 (.mv (.tmp 1)),
 gv 12 (.mv (.tmp 0)),
 gv 13 (.mv (.tmp 5)),
 gv 14 (.idxA 1 (.tmp 12) (.tmp 13)),
 gv 15 (.load 1 false (.tmp 14)),
 gv 16 (.callv (.tmp 11) [(.tmp 15)])]
def c50r5 : List GOp := [
 gv 17 (.mv (.tmp 5)),
 gv 4 (.mv (.tmp 17))]
def c50r6 : List GOp := [
 gv 18 (.bin .add (.tmp 8) (.const (.int .i64 1))),
 gv 8 (.mv (.tmp 18))]
def c50l7 : DE := .seq (.reg c50r2) (.seq (.cond (.tmp 9) (.skip) (.exit 0)) (.seq (.block 1 (.seq (.reg c50r3) (.join (.reg c50r4) (.cond (.tmp 16) (.seq (.reg c50r5) (.ret)) (.skip))))) (.reg c50r6)))
def c50r8 : List GOp := [
 gv 4 (.mv (.const (.int .i64 (-1))))]
def c50 : EFn := ⟨19, .seq (.reg c50r0) (.join (.seq (.reg c50r1) (.block 0 (.loop c50l7))) (.seq (.reg c50r8) (.ret))), [.tmp 4]⟩
theorem c50_ok : compF Tryd.prog 50 = some c50.er := by kernel_rfl
def c51r0 : List GOp := [
 gv 4 (.mv (.const (.bool false)))]
def c51r1 : List GOp := [
 gv 5 (.mv (.tmp 0)),
 gv 6 (.fadd 0 (.tmp 2)),
 gv 7 (.load 1 false (.tmp 6)),
 gv 8 (.idxP 10 1 (.tmp 1) (.tmp 7)),
 gv 9 (.load 1 false (.tmp 8)),
 gv 10 (.bin .gtr (.tmp 5) (.tmp 9)),
 gv 4 (.mv (.tmp 10))]
def c51 : EFn := ⟨11, .seq (.reg c51r0) (.seq (.reg c51r1) (.ret)), [.tmp 4]⟩
theorem c51_ok : compF Tryd.prog 51 = some c51.er := by kernel_rfl
def c20r0 : List GOp := [
 gv 2 (.box 28 (.tmp 0)),
 gv 3 (.box 38 (.tmp 1)),
 gv 4 (.alloc 45 (.agg #[(.bool false), (.bool false), (.bool false), oz, oz, oz, oz, oz, oz, oz, oz, oz, oz, oz, oz, oz]))]
def c20r1 : List GOp := [
 gv 7 (.load 2 true (.tmp 2)),
 gv 8 (.call 17 [(.tmp 7)]),
 gv 9 (.un .not (.tmp 8))]
def c20r2 : List GOp := [
 gv 10 (.build (.agg #[(.bool false), (.bool false), (.bool false), oz, oz, oz, oz, oz, oz, oz, oz, oz, oz, oz, oz, oz]) []),
 ⟨none, .store 16 (.tmp 4) (.tmp 10), none⟩]
def c20r3 : List GOp := [
 gv 11 (.fadd 0 (.tmp 2)),
 gv 12 (.load 1 false (.tmp 11)),
 gv 13 (.idxA 4 (.tmp 12) (.const (.int .i64 0))),
 gv 14 (.load 4 true (.tmp 13)),
 gv 5 (.alloc 64 (.agg #[oz, (.slice none 0 0), (.slice none 0 0), oz])),
 ⟨none, .store 4 (.tmp 5) (.tmp 14), none⟩]
def c20r4 : List GOp := [
 gv 15 (.fadd 2 (.tmp 5)),
 gv 16 (.load 1 false (.tmp 15)),
 gv 17 (.len false (.tmp 16)),
 gv 18 (.bin .gtr (.tmp 17) (.const (.int .i64 0)))]
def c20r5 : List GOp := [
 gv 19 (.fadd 1 (.tmp 5)),
 gv 20 (.load 1 false (.tmp 19)),
 gv 21 (.mkfn (.func 51) [] [(.tmp 3), (.tmp 5)]),
 gv 22 (.call 50 [(.tmp 20), (.tmp 21)]),
 gv 6 (.mv (.tmp 22))]
def c20r6 : List GOp := [
 gv 23 (.mv (.tmp 6)),
 gv 24 (.bin .lss (.tmp 23) (.const (.int .i64 0)))]
def c20r7 : List GOp := [
 gv 25 (.fadd 1 (.tmp 5)),
 gv 26 (.load 1 false (.tmp 25)),
 gv 27 (.len false (.tmp 26)),
 gv 6 (.mv (.tmp 27))]
def c20r8 : List GOp := [
 gv 28 (.fadd 0 (.tmp 2)),
 gv 29 (.load 1 false (.tmp 28)),
 gv 30 (.fadd 2 (.tmp 5)),
 gv 31 (.load 1 false (.tmp 30)),
 gv 32 (.mv (.tmp 6)),
 gv 33 (.idxA 1 (.tmp 31) (.tmp 32)),
 gv 34 (.load 1 false (.tmp 33)),
 gv 35 (.idxA 4 (.tmp 29) (.tmp 34)),
 gv 36 (.load 4 true (.tmp 35))]
def c20r8z : GOp := ⟨none, .store 4 (.tmp 5) (.tmp 36), none⟩
def c20l9 : DE := .seq (.seq (.reg c20r4) (.cond (.tmp 18) (.skip) (.exit 0))) (.block 1 (.join (.reg c20r5) (.join (.seq (.reg c20r6) (.cond (.tmp 24) (.reg c20r7) (.skip))) (.hyl true true 7 c20r8 c20r8z))))
def c20r10 : List GOp := [
 gv 37 (.fadd 1 (.tmp 2)),
 gv 38 (.load 1 false (.tmp 37)),
 gv 39 (.fadd 3 (.tmp 5)),
 gv 40 (.load 1 false (.tmp 39)),
 gv 41 (.idxA 16 (.tmp 38) (.tmp 40)),
 gv 42 (.load 16 true (.tmp 41)),
 ⟨none, .store 16 (.tmp 4) (.tmp 42), none⟩]
def c20 : EFn := ⟨43, .seq (.reg c20r0) (.seq (.seq (.reg c20r1) (.cond (.tmp 9) (.seq (.reg c20r2) (.ret)) (.skip))) (.seq (.reg c20r3) (.join (.block 0 (.loop c20l9)) (.seq (.reg c20r10) (.ret))))), [.cell 4 16 true]⟩
theorem c20_ok : compF Tryd.prog 20 = some c20.er := by kernel_rfl
set_option maxHeartbeats 4000000 in
theorem table_Lookup_R {P : Program} (hP : P = Tryd.prog) (t_ : Table) (f : (A10 Int)) (r : Decision) (h : table_Lookup_g t_ f = some r) : Fn1 P 20 [vTable t_, vA10Ii64 f] (vDecision r) := by
 refine .walkE (hP ▸ c20_ok) fun K hK => ?_
 unfold table_Lookup_g at h
 cbv
 refine .g h (fun v hv => table_Valid_R hP _ v hv) aw_ rfl (fun _ => rfl) fun v1 h => ?_
 cbv
 refine brkG h ?_ ?_ <;> intro h
 ·cbv
  obtain rfl := oj h
  exact hK _ _ aw_
 ·cbv
  refine .g h (fun _ => rfl) fun x2 h => ?_
  cbv
  refine .g h (fun ((Attr3, Cuts4, Kids5, Leaf6) : Int × (List Int) × (List Int) × Int) => [.top, .top, .ptr 0 0, .top, .ptr 1 0, .ptr 2 0] ++ rp 37 .top) (fun ((Attr3, Cuts4, Kids5, Leaf6) : Int × (List Int) × (List Int) × Int) => [.cells [.d (.sl (W eNode t_.Nodes)), .d (.sl (W eDecision t_.Leaves))] 28, .cells [ob false, ob false, ob false, oi 0, oi 0, oi 0, oi 0, oi 0, oi 0, oi 0, oi 0, oi 0, oi 0, oi 0, oi 0, oi 0] 45, .cells [oi Attr3, .d (.sl (W eIi64 Cuts4)), .d (.sl (W eIi64 Kids5)), oi Leaf6] 64]) (fun y hm Kn1 hKn1 => ?_) fun t h => ?_
  ·have h := hm
   clear hm
   cbv
   refine .g h (fun ((Attr7, Cuts8, Kids9, Leaf10) : Int × (List Int) × (List Int) × Int) => [.top, .top, .ptr 0 0, .ptr 1 0, .ptr 2 0, .ptr 3 0] ++ rp 37 .top) (fun ((Attr7, Cuts8, Kids9, Leaf10) : Int × (List Int) × (List Int) × Int) => [.cells [.d (.sl (W eNode t_.Nodes)), .d (.sl (W eDecision t_.Leaves))] 28, .cells (ca f) 38, .cells [ob false, ob false, ob false, oi 0, oi 0, oi 0, oi 0, oi 0, oi 0, oi 0, oi 0, oi 0, oi 0, oi 0, oi 0, oi 0] 45, .cells [oi Attr7, .d (.sl (W eIi64 Cuts8)), .d (.sl (W eIi64 Kids9)), oi Leaf10] 64]) (.nz (.mtE [0, 1, 2, 3] ?_)) fun s x h hr2 Kn2 hKn2 => ?_
   ·(cbv; repeat (refine ⟨an_, ?_⟩; cbv))
   unfold table_Lookup_l22 at h
   obtain ⟨Attr7, Cuts8, Kids9, Leaf10⟩ := s
   cbv
   refine brkG h ?_ ?_ <;> intro h
   ·cbv
    refine .g h (fun (k11 : Int) => [.top, .top, .ptr 0 0, .ptr 1 0, .ptr 2 0, .ptr 3 0, oi k11] ++ rp 36 .top) (fun (k11 : Int) => [.cells [.d (.sl (W eNode t_.Nodes)), .d (.sl (W eDecision t_.Leaves))] 28, .cells (ca f) 38, .cells [ob false, ob false, ob false, oi 0, oi 0, oi 0, oi 0, oi 0, oi 0, oi 0, oi 0, oi 0, oi 0, oi 0, oi 0, oi 0] 45, .cells [oi Attr7, .d (.sl (W eIi64 Cuts8)), .d (.sl (W eIi64 Kids9)), oi Leaf10] 64]) (fun y hm Kn3 hKn3 => ?_) fun t h => ?_
    ·have h := hm
     clear hm
     cbv
     refine .inl (hP ▸ c50_ok) ?_
     cbv
     refine .ga h (fun (_ : Unit) => rp 19 .top) (fun (_ : Unit) => [.cells [.d (.sl (W eNode t_.Nodes)), .d (.sl (W eDecision t_.Leaves))] 28, .cells (ca f) 38, .cells [ob false, ob false, ob false, oi 0, oi 0, oi 0, oi 0, oi 0, oi 0, oi 0, oi 0, oi 0, oi 0, oi 0, oi 0, oi 0] 45, .cells [oi Attr7, .d (.sl (W eIi64 Cuts8)), .d (.sl (W eIi64 Kids9)), oi Leaf10] 64]) (fun y hm hr4 Kn4 hKn4 => ?_) fun t h => ?_
     ·have h := hm
      clear hm
      cbv
      refine .g h (fun (v12 : Int) => [.d (.sl (W eIi64 Cuts8)), .clo (.func 51) [] [.ptr 1 0, .ptr 3 0]] ++ rp 5 .top ++ [oi (io.len (W eIi64 Cuts8)), oi v12] ++ rp 10 .top) (fun (v12 : Int) => [.cells [.d (.sl (W eNode t_.Nodes)), .d (.sl (W eDecision t_.Leaves))] 28, .cells (ca f) 38, .cells [ob false, ob false, ob false, oi 0, oi 0, oi 0, oi 0, oi 0, oi 0, oi 0, oi 0, oi 0, oi 0, oi 0, oi 0, oi 0] 45, .cells [oi Attr7, .d (.sl (W eIi64 Cuts8)), .d (.sl (W eIi64 Kids9)), oi Leaf10] 64]) (.nz (.mtE [0, 1, 2, 3] ?_)) fun s x h hr5 Kn5 hKn5 => ?_
      ·(cbv; repeat (refine ⟨an_, ?_⟩; cbv))
      unfold table_Lookup_l26 at h
      obtain ⟨v12, rfl⟩ : ∃ z, z = s := ⟨_, rfl⟩
      cbv
      refine brkG h ?_ ?_ <;> intro h
      ·cbv
       refine .g h (fun (v13 : Bool) => [.d (.sl (W eIi64 Cuts8)), .clo (.func 51) [] [.ptr 1 0, .ptr 3 0]] ++ rp 3 .top ++ [oi v12, .top, oi (io.len (W eIi64 Cuts8)), oi v12] ++ rp 7 .top ++ [ob v13, .top, .top]) (fun (v13 : Bool) => [.cells [.d (.sl (W eNode t_.Nodes)), .d (.sl (W eDecision t_.Leaves))] 28, .cells (ca f) 38, .cells [ob false, ob false, ob false, oi 0, oi 0, oi 0, oi 0, oi 0, oi 0, oi 0, oi 0, oi 0, oi 0, oi 0, oi 0, oi 0] 45, .cells [oi Attr7, .d (.sl (W eIi64 Cuts8)), .d (.sl (W eIi64 Kids9)), oi Leaf10] 64]) (fun y hm Kn6 hKn6 => ?_) fun t h => ?_
       ·have h := hm
        clear hm
        cbv
        refine .g h (fun _ => rfl) fun x14 h => ?_
        cbv
        refine .inl (hP ▸ c51_ok) ?_
        cbv
        refine .c10 h ?_ ?_ ?_ ?_ ?_ ?_ ?_ ?_ ?_ ?_ <;> (
         intro hni15 h
         cbv
         obtain rfl := oj h
         refine hKn6 _ _ _ rfl (.nz (.mtE [0, 1, 2, 3] ?_))
         (cbv; repeat (refine ⟨an_, ?_⟩; cbv))
         )
       obtain ⟨v13, rfl⟩ : ∃ z, z = t := ⟨_, rfl⟩
       cbv
       refine brkG h ?_ ?_ <;> intro h
       ·cbv
        obtain rfl := oj h
        obtain rfl := hr5 _ rfl
        obtain rfl := hr4 _ rfl
        refine hKn3 _ _ _ rfl (.nz (.mtE [0, 1, 2, 3] ?_))
        (cbv; repeat (refine ⟨an_, ?_⟩; cbv))
       ·cbv
        obtain rfl := oj h
        refine hKn5 _ _ _ rfl (.nz (.mtE [0, 1, 2, 3] ?_))
        (cbv; repeat (refine ⟨an_, ?_⟩; cbv))
      ·cbv
       obtain rfl := oj h
       obtain rfl := hr5 _ rfl
       refine hKn4 _ _ _ rfl (.nz (.mtE [0, 1, 2, 3] ?_))
       (cbv; repeat (refine ⟨an_, ?_⟩; cbv))
     cbv
     obtain rfl := oj h
     refine hKn3 _ _ _ rfl (.nz (.mtE [0, 1, 2, 3] ?_))
     (cbv; repeat (refine ⟨an_, ?_⟩; cbv))
    obtain ⟨k11, rfl⟩ : ∃ z, z = t := ⟨_, rfl⟩
    cbv
    refine .g h (fun (k16 : Int) => [.top, .top, .ptr 0 0, .ptr 1 0, .ptr 2 0, .ptr 3 0, oi k16] ++ rp 36 .top) (fun (k16 : Int) => [.cells [.d (.sl (W eNode t_.Nodes)), .d (.sl (W eDecision t_.Leaves))] 28, .cells (ca f) 38, .cells [ob false, ob false, ob false, oi 0, oi 0, oi 0, oi 0, oi 0, oi 0, oi 0, oi 0, oi 0, oi 0, oi 0, oi 0, oi 0] 45, .cells [oi Attr7, .d (.sl (W eIi64 Cuts8)), .d (.sl (W eIi64 Kids9)), oi Leaf10] 64]) (fun y hm Kn3 hKn3 => ?_) fun t h => ?_
    ·have h := hm
     clear hm
     cbv
     refine brkG h ?_ ?_ <;> intro h
     ·cbv
      obtain rfl := oj h
      refine hKn3 _ _ _ rfl (.nz (.mtE [0, 1, 2, 3] ?_))
      (cbv; repeat (refine ⟨an_, ?_⟩; cbv))
     ·cbv
      obtain rfl := oj h
      refine hKn3 _ _ _ rfl (.nz (.mtE [0, 1, 2, 3] ?_))
      (cbv; repeat (refine ⟨an_, ?_⟩; cbv))
    obtain ⟨k16, rfl⟩ : ∃ z, z = t := ⟨_, rfl⟩
    cbv
    refine .g h (fun _ => rfl) fun x17 h => ?_
    cbv
    refine .g h (fun _ => rfl) fun x18 h => ?_
    cbv
    obtain rfl := oj h
    refine hKn2 _ _ _ rfl (.nz (.mtE [0, 1, 2, 3] ?_))
    (cbv; repeat (refine ⟨an_, ?_⟩; cbv))
   ·cbv
    obtain rfl := oj h
    obtain rfl := hr2 _ rfl
    refine hKn1 _ _ _ rfl (.nz (.mtE [0, 2, 3] ?_))
    (cbv; repeat (refine ⟨an_, ?_⟩; cbv))
  obtain ⟨Attr3, Cuts4, Kids5, Leaf6⟩ := t
  cbv
  refine .g h (fun _ => rfl) fun x19 h => ?_
  cbv
  obtain rfl := oj h
  exact hK _ _ aw_
end Go.SX.Td
namespace Go.SX.Td
open Go Go.SX Go.Proofs
set_option maxRecDepth 100000
noncomputable def law14_rule_g (kind : Int) (name : ByteArray) (n : Int) (z_ : (A10 Range)) : Option (Rule) :=
 Option.bind (some [z_]) fun l1 =>
 some (Rule.mk kind name l1 n (Ratio.mk 0 1) (Ratio.mk 0 1))
end Go.SX.Td
namespace Go.SX.Td
open Go Go.SX Go.Proofs
set_option maxRecDepth 100000
noncomputable def law14_all_g (attr : Int) (r_ : Range) : Option ((A10 Range)) :=
 Option.bind (resolve_Limits_g) fun v1 =>
 Option.bind (
 Option.bind (pixG 10 attr) fun i3 =>
 some (v1.put i3 r_)
 ) fun z2 =>
 some z2
end Go.SX.Td
namespace Go.SX.Td
open Go Go.SX Go.Proofs
set_option maxRecDepth 100000
noncomputable def ref11_Ints_l2 (a : (List Int)) (b : (List Int)) : Int → Option ((Int) ⊕ ((Unit) ⊕ (Bool)))
 | i1 =>
 bif (io.lt i1 (io.len (W eIi64 a))) then (
 Option.bind (idxG a i1) fun x2 =>
 Option.bind (idxG b i1) fun x3 =>
 bif (io.not (io.eq x2 x3)) then (
 some (.inr (.inr false))
 ) else (
 some (.inl (io.ar .add .i64 i1 1))
 )
 ) else (
 some (.inr (.inl ()))
 )
noncomputable def ref11_Ints_g (a : (List Int)) (b : (List Int)) : Option (Bool) :=
 bif (io.not (io.eq (io.len (W eIi64 a)) (io.len (W eIi64 b)))) then (
 some false
 ) else (
 orR (
 whileG (ref11_Ints_l2 a b) 0
 ) fun _ =>
 some true
 )
end Go.SX.Td
namespace Go.SX.Td
open Go Go.SX Go.Proofs
set_option maxRecDepth 100000
noncomputable def ref14_Equal_g (a : Node) (b : Node) : Option (Bool) :=
 bif (io.eq a.Attr b.Attr) then (
 bif (io.eq a.Leaf b.Leaf) then (
 Option.bind (ref11_Ints_g a.Cuts b.Cuts) fun v1 =>
 bif v1 then (
 Option.bind (ref11_Ints_g a.Kids b.Kids) fun v2 =>
 some v2
 ) else (
 some false
 )
 ) else (
 some false
 )
 ) else (
 some false
 )
end Go.SX.Td
namespace Go.SX.Td
open Go Go.SX Go.Proofs
set_option maxRecDepth 100000
noncomputable def law14_head_g : Option (Bool) :=
 Option.bind (resolve_Limits_g) fun v1 =>
 Option.bind (law14_all_g 2 (Range.mk 1 1)) fun v2 =>
 Option.bind (law14_rule_g 1 (⟨#[97]⟩) 0 v2) fun v3 =>
 Option.bind (law14_rule_g 3 (⟨#[112]⟩) 100 v1) fun v4 =>
 Option.bind (law14_all_g 1 (Range.mk 0 17)) fun v5 =>
 Option.bind (law14_rule_g 2 (⟨#[100]⟩) 0 v5) fun v6 =>
 Option.bind (table_Build_g (Policy.mk [])) fun v7 =>
 Option.bind (law14_rule_g 1 (⟨#[97]⟩) 0 v1) fun v8 =>
 Option.bind (some [v8, v4]) fun l9 =>
 Option.bind (table_Build_g (Policy.mk l9)) fun v10 =>
 Option.bind (some [v3, v4]) fun l11 =>
 Option.bind (table_Build_g (Policy.mk l11)) fun v12 =>
 Option.bind (some [v3, v4, v6]) fun l13 =>
 Option.bind (table_Build_g (Policy.mk l13)) fun v14 =>
 Option.bind (some [(Rule.mk 0 (⟨#[]⟩) [] 0 (Ratio.mk 0 0) (Ratio.mk 0 0))]) fun l15 =>
 Option.bind (table_Build_g (Policy.mk l15)) fun v16 =>
 Option.bind (
 bif (io.not (io.eq v7.2 0)) then (
 some true
 ) else (
 bif (io.not (io.eq v10.2 0)) then (
 some true
 ) else (
 bif (io.not (io.eq v12.2 0)) then (
 some true
 ) else (
 bif (io.not (io.eq v14.2 0)) then (
 some true
 ) else (
 bif (io.not (io.eq v16.2 1)) then (
 some true
 ) else (
 bif (io.not (io.eq (io.len (W eNode v7.1.Nodes)) 1)) then (
 some true
 ) else (
 bif (io.not (io.eq (io.len (W eNode v10.1.Nodes)) 1)) then (
 some true
 ) else (
 bif (io.not (io.eq (io.len (W eNode v12.1.Nodes)) 3)) then (
 some true
 ) else (
 some (io.not (io.eq (io.len (W eNode v14.1.Nodes)) 5))
 )
 )
 )
 )
 )
 )
 )
 )
 ) fun v17 =>
 bif v17 then (
 some false
 ) else (
 Option.bind (
 Option.bind (idxG v7.1.Leaves 0) fun x19 =>
 bif (io.not x19.Allowed) then (
 Option.bind (idxG v10.1.Leaves 0) fun x20 =>
 bif x20.Allowed then (
 Option.bind (idxG v10.1.Leaves 0) fun x21 =>
 bif (io.eq x21.Price 100) then (
 Option.bind (idxG v12.1.Nodes 0) fun x22 =>
 Option.bind (some [1]) fun l23 =>
 Option.bind (some [1, 2]) fun l24 =>
 Option.bind (ref14_Equal_g x22 (Node.mk 2 l23 l24 0)) fun v25 =>
 bif v25 then (
 Option.bind (idxG v14.1.Nodes 0) fun x26 =>
 Option.bind (some [18]) fun l27 =>
 Option.bind (some [1, 2]) fun l28 =>
 Option.bind (ref14_Equal_g x26 (Node.mk 1 l27 l28 0)) fun v29 =>
 some v29
 ) else (
 some false
 )
 ) else (
 some false
 )
 ) else (
 some false
 )
 ) else (
 some false
 )
 ) fun one18 =>
 bif one18 then (
 Option.bind (table_Lookup_g v14.1 (A10.mk 0 30 1 0 0 0 0 0 1 0)) fun v30 =>
 bif v30.Allowed then (
 Option.bind (table_Lookup_g v12.1 (A10.mk 0 0 0 0 0 0 0 0 0 0)) fun v31 =>
 bif (io.not v31.Allowed) then (
 Option.bind (table_Valid_g v14.1) fun v32 =>
 bif v32 then (
 Option.bind (table_Valid_g (Table.mk [] [])) fun v33 =>
 some (io.not v33)
 ) else (
 some false
 )
 ) else (
 some false
 )
 ) else (
 some false
 )
 ) else (
 some false
 )
 )
end Go.SX.Td
namespace Go.SX.Td
open Go Go.SX Go.Proofs
set_option maxRecDepth 100000
def c52r0 : List GOp := [
 gv 7 (.box 57 (.tmp 3)),
 gv 8 (.alloc 36 (.agg #[oz, (.string ⟨#[]⟩), (.slice none 0 0), oz, oz, oz, oz, oz]))]
def c52r1 : List GOp := [
 gv 10 (.build (.agg #[oz, oz]) [((1, 1), (.const (.int .i64 1)))]),
 gv 9 (.alloc 34 (.agg #[oz, oz])),
 ⟨none, .store 2 (.tmp 9) (.tmp 10), none⟩]
def c52r2 : List GOp := [
 gv 11 (.mv (.tmp 0)),
 gv 12 (.mv (.tmp 1)),
 gv 13 (.load 20 true (.tmp 7)),
 gv 14 (.bslice 57 20 1 (.agg #[oz, oz, oz, oz, oz, oz, oz, oz, oz, oz, oz, oz, oz, oz, oz, oz, oz, oz, oz, oz]) [(0, (.tmp 13))]),
 gv 15 (.mv (.tmp 2)),
 gv 16 (.load 2 true (.tmp 9)),
 gv 17 (.load 2 true (.tmp 9)),
 gv 18 (.build (.agg #[oz, (.string ⟨#[]⟩), (.slice none 0 0), oz, oz, oz, oz, oz]) [((0, 1), (.tmp 11)), ((1, 1), (.tmp 12)), ((2, 1), (.tmp 14)), ((3, 1), (.tmp 15)), ((4, 2), (.tmp 16)), ((6, 2), (.tmp 17))]),
 ⟨none, .store 8 (.tmp 8) (.tmp 18), none⟩]
def c52 : EFn := ⟨19, .seq (.reg c52r0) (.seq (.reg c52r1) (.seq (.reg c52r2) (.ret))), [.cell 8 8 true]⟩
theorem c52_ok : compF Tryd.prog 52 = some c52.er := by kernel_rfl
set_option maxHeartbeats 4000000 in
theorem law14_rule_R {P : Program} (hP : P = Tryd.prog) (kind : Int) (name : ByteArray) (n : Int) (z_ : (A10 Range)) (r : Rule) (h : law14_rule_g kind name n z_ = some r) : Fn1 P 52 [vIi64 kind, vS name, vIi64 n, vA10Range z_] (vRule r) := by
 refine .walkE (hP ▸ c52_ok) fun K hK => ?_
 unfold law14_rule_g at h
 cbv
 refine .g (e := eA10Range) h (W_cons aw_ (W_nil' _)) fun l1 h => ?_
 cbv
 obtain rfl := oj h
 exact hK _ _ aw_
end Go.SX.Td
namespace Go.SX.Td
open Go Go.SX Go.Proofs
set_option maxRecDepth 100000
def c53r0 : List GOp := [
 gv 3 (.box 55 (.tmp 1)),
 gv 4 (.alloc 57 (.agg #[oz, oz, oz, oz, oz, oz, oz, oz, oz, oz, oz, oz, oz, oz, oz, oz, oz, oz, oz, oz]))]
def c53r1 : List GOp := [
 gv 6 (.call 26 []),
 gv 5 (.alloc 57 (.agg #[oz, oz, oz, oz, oz, oz, oz, oz, oz, oz, oz, oz, oz, oz, oz, oz, oz, oz, oz, oz])),
 ⟨none, .store 20 (.tmp 5) (.tmp 6), none⟩]
def c53r2 : List GOp := [
 gv 7 (.mv (.tmp 0)),
 gv 8 (.load 2 true (.tmp 3)),
 gv 9 (.idxP 10 2 (.tmp 5) (.tmp 7)),
 ⟨none, .store 2 (.tmp 9) (.tmp 8), none⟩]
def c53r3 : List GOp := [
 gv 10 (.load 20 true (.tmp 5)),
 ⟨none, .store 20 (.tmp 4) (.tmp 10), none⟩]
def c53 : EFn := ⟨11, .seq (.reg c53r0) (.seq (.reg c53r1) (.join (.reg c53r2) (.seq (.reg c53r3) (.ret)))), [.cell 4 20 true]⟩
theorem c53_ok : compF Tryd.prog 53 = some c53.er := by kernel_rfl
set_option maxHeartbeats 4000000 in
theorem law14_all_R {P : Program} (hP : P = Tryd.prog) (attr : Int) (r_ : Range) (r : (A10 Range)) (h : law14_all_g attr r_ = some r) : Fn1 P 53 [vIi64 attr, vRange r_] (vA10Range r) := by
 refine .walkE (hP ▸ c53_ok) fun K hK => ?_
 unfold law14_all_g at h
 cbv
 refine .g h (fun v hv => resolve_Limits_R hP v hv) aw_ rfl (fun _ => rfl) fun v1 h => ?_
 cbv
 refine .g h (fun (z2 : (A10 Range)) => rp 4 .top ++ [.ptr 0 0, .ptr 1 0] ++ rp 5 .top) (fun (z2 : (A10 Range)) => [.cells [oi 0, oi 0, oi 0, oi 0, oi 0, oi 0, oi 0, oi 0, oi 0, oi 0, oi 0, oi 0, oi 0, oi 0, oi 0, oi 0, oi 0, oi 0, oi 0, oi 0] 57, .cells [oi z2.a0.Lo, oi z2.a0.Hi, oi z2.a1.Lo, oi z2.a1.Hi, oi z2.a2.Lo, oi z2.a2.Hi, oi z2.a3.Lo, oi z2.a3.Hi, oi z2.a4.Lo, oi z2.a4.Hi, oi z2.a5.Lo, oi z2.a5.Hi, oi z2.a6.Lo, oi z2.a6.Hi, oi z2.a7.Lo, oi z2.a7.Hi, oi z2.a8.Lo, oi z2.a8.Hi, oi z2.a9.Lo, oi z2.a9.Hi] 57]) (fun y hm Kn1 hKn1 => ?_) fun t h => ?_
 ·have h := hm
  clear hm
  cbv
  refine .c10 h ?_ ?_ ?_ ?_ ?_ ?_ ?_ ?_ ?_ ?_ <;> (
   intro hni3 h
   cbv
   obtain rfl := oj h
   refine hKn1 _ _ _ rfl (.nz (.mtE [1, 2] ?_))
   (cbv; repeat (refine ⟨an_, ?_⟩; cbv))
   )
 obtain ⟨z2, rfl⟩ : ∃ z, z = t := ⟨_, rfl⟩
 cbv
 obtain rfl := oj h
 exact hK _ _ aw_
end Go.SX.Td
namespace Go.SX.Td
open Go Go.SX Go.Proofs
set_option maxRecDepth 100000
def c73r0 : List GOp := [
 gv 4 (.mv (.const (.bool false)))]
def c73r1 : List GOp := [
 gv 6 (.mv (.tmp 0)),
 gv 7 (.len false (.tmp 6)),
 gv 8 (.mv (.tmp 1)),
 gv 9 (.len false (.tmp 8)),
 gv 10 (.bin .neq (.tmp 7) (.tmp 9))]
def c73r2 : List GOp := [
 gv 4 (.mv (.const (.bool false)))]
def c73r3 : List GOp := [
 gv 5 (.mv (.const (.int .i64 0)))]
def c73r4 : List GOp := [
 gv 11 (.mv (.tmp 5)),
 gv 12 (.mv (.tmp 0)),
 gv 13 (.len false (.tmp 12)),
 gv 14 (.bin .lss (.tmp 11) (.tmp 13))]
def c73r5 : List GOp := [
 gv 17 (.mv (.tmp 0)),
 gv 18 (.mv (.tmp 5)),
 gv 19 (.idxA 1 (.tmp 17) (.tmp 18)),
 gv 20 (.load 1 false (.tmp 19)),
 gv 21 (.mv (.tmp 1)),
 gv 22 (.mv (.tmp 5)),
 gv 23 (.idxA 1 (.tmp 21) (.tmp 22)),
 gv 24 (.load 1 false (.tmp 23)),
 gv 25 (.bin .neq (.tmp 20) (.tmp 24))]
def c73r6 : List GOp := [
 gv 4 (.mv (.const (.bool false)))]
def c73r7 : List GOp := [
 gv 15 (.mv (.tmp 5)),
 gv 16 (.bin .add (.tmp 15) (.const (.int .i64 1))),
 gv 5 (.mv (.tmp 16))]
def c73l8 : DE := .seq (.seq (.reg c73r4) (.cond (.tmp 14) (.skip) (.exit 0))) (.seq (.block 1 (.seq (.par true true true 8 c73r5) (.cond (.tmp 25) (.seq (.reg c73r6) (.ret)) (.skip)))) (.reg c73r7))
def c73r9 : List GOp := [
 gv 4 (.mv (.const (.bool true)))]
def c73 : EFn := ⟨26, .seq (.reg c73r0) (.seq (.seq (.reg c73r1) (.cond (.tmp 10) (.seq (.reg c73r2) (.ret)) (.skip))) (.join (.seq (.reg c73r3) (.block 0 (.loop c73l8))) (.seq (.reg c73r9) (.ret)))), [.tmp 4]⟩
theorem c73_ok : compF Tryd.prog 73 = some c73.er := by kernel_rfl
set_option maxHeartbeats 4000000 in
theorem ref11_Ints_R {P : Program} (hP : P = Tryd.prog) (a : (List Int)) (b : (List Int)) (r : Bool) (h : ref11_Ints_g a b = some r) : Fn1 P 73 [vLIi64 a, vLIi64 b] (vB r) := by
 refine .walkE (hP ▸ c73_ok) fun K hK => ?_
 unfold ref11_Ints_g at h
 cbv
 refine brkG h ?_ ?_ <;> intro h
 ·cbv
  obtain rfl := oj h
  exact hK _ _ aw_
 ·cbv
  refine .ga h (fun (_ : Unit) => rp 26 .top) (fun (_ : Unit) => []) (fun y hm hr1 Kn1 hKn1 => ?_) fun t h => ?_
  ·have h := hm
   clear hm
   cbv
   refine .g h (fun (i1 : Int) => [.d (.sl (W eIi64 a)), .d (.sl (W eIi64 b))] ++ rp 3 .top ++ [oi i1] ++ rp 20 .top) (fun (i1 : Int) => []) (.nz (.mtE [] ?_)) fun s x h hr2 Kn2 hKn2 => ?_
   ·(cbv; repeat (refine ⟨an_, ?_⟩; cbv))
   unfold ref11_Ints_l2 at h
   obtain ⟨i1, rfl⟩ : ∃ z, z = s := ⟨_, rfl⟩
   cbv
   refine brkG h ?_ ?_ <;> intro h
   ·cbv
    refine .g h (fun _ => rfl) fun x2 h => ?_
    cbv
    refine .g h (fun _ => rfl) fun x3 h => ?_
    cbv
    refine brkG h ?_ ?_ <;> intro h
    ·cbv
     obtain rfl := oj h
     obtain rfl := hr2 _ rfl
     obtain rfl := hr1 _ rfl
     exact hK _ _ aw_
    ·cbv
     obtain rfl := oj h
     refine hKn2 _ _ _ rfl (.nz (.mtE [] ?_))
     (cbv; repeat (refine ⟨an_, ?_⟩; cbv))
   ·cbv
    obtain rfl := oj h
    obtain rfl := hr2 _ rfl
    refine hKn1 _ _ _ rfl (.nz (.mtE [] ?_))
    (cbv; repeat (refine ⟨an_, ?_⟩; cbv))
  cbv
  obtain rfl := oj h
  exact hK _ _ aw_
end Go.SX.Td
namespace Go.SX.Td
open Go Go.SX Go.Proofs
set_option maxRecDepth 100000
def c54r0 : List GOp := [
 gv 2 (.box 64 (.tmp 0)),
 gv 3 (.box 64 (.tmp 1)),
 gv 4 (.mv (.const (.bool false)))]
def c54r1 : List GOp := [
 gv 5 (.fadd 0 (.tmp 2)),
 gv 6 (.load 1 false (.tmp 5)),
 gv 7 (.fadd 0 (.tmp 3)),
 gv 8 (.load 1 false (.tmp 7)),
 gv 9 (.bin .eql (.tmp 6) (.tmp 8)),
 gv 10 (.mv (.tmp 9)),
 gw 11 10 true (.fadd 3 (.tmp 2)),
 gw 12 10 true (.load 1 false (.tmp 11)),
 gw 13 10 true (.fadd 3 (.tmp 3)),
 gw 14 10 true (.load 1 false (.tmp 13)),
 gw 15 10 true (.bin .eql (.tmp 12) (.tmp 14)),
 gv 16 (.pick (.tmp 10) (.tmp 15) (.const (.bool false))),
 gv 17 (.mv (.tmp 16)),
 gw 18 17 true (.fadd 1 (.tmp 2)),
 gw 19 17 true (.load 1 false (.tmp 18)),
 gw 20 17 true (.fadd 1 (.tmp 3)),
 gw 21 17 true (.load 1 false (.tmp 20)),
 gw 22 17 true (.call 73 [(.tmp 19), (.tmp 21)]),
 gv 23 (.pick (.tmp 17) (.tmp 22) (.const (.bool false))),
 gv 24 (.mv (.tmp 23)),
 gw 25 24 true (.fadd 2 (.tmp 2)),
 gw 26 24 true (.load 1 false (.tmp 25)),
 gw 27 24 true (.fadd 2 (.tmp 3)),
 gw 28 24 true (.load 1 false (.tmp 27)),
 gw 29 24 true (.call 73 [(.tmp 26), (.tmp 28)]),
 gv 30 (.pick (.tmp 24) (.tmp 29) (.const (.bool false))),
 gv 4 (.mv (.tmp 30))]
def c54 : EFn := ⟨31, .seq (.reg c54r0) (.seq (.reg c54r1) (.ret)), [.tmp 4]⟩
theorem c54_ok : compF Tryd.prog 54 = some c54.er := by kernel_rfl
set_option maxHeartbeats 4000000 in
theorem ref14_Equal_R {P : Program} (hP : P = Tryd.prog) (a : Node) (b : Node) (r : Bool) (h : ref14_Equal_g a b = some r) : Fn1 P 54 [vNode a, vNode b] (vB r) := by
 refine .walkE (hP ▸ c54_ok) fun K hK => ?_
 unfold ref14_Equal_g at h
 cbv
 refine brkG h ?_ ?_ <;> intro h
 ·cbv
  refine brkG h ?_ ?_ <;> intro h
  ·cbv
   refine .g h (fun v hv => ref11_Ints_R hP _ _ v hv) aw_ rfl (fun _ => rfl) fun v1 h => ?_
   cbv
   refine brkG h ?_ ?_ <;> intro h
   ·cbv
    refine .g h (fun v hv => ref11_Ints_R hP _ _ v hv) aw_ rfl (fun _ => rfl) fun v2 h => ?_
    cbv
    obtain rfl := oj h
    exact hK _ _ aw_
   ·cbv
    obtain rfl := oj h
    exact hK _ _ aw_
  ·cbv
   obtain rfl := oj h
   exact hK _ _ aw_
 ·cbv
  obtain rfl := oj h
  exact hK _ _ aw_
end Go.SX.Td
namespace Go.SX.Td
open Go Go.SX Go.Proofs
set_option maxRecDepth 100000
def c22r0 : List GOp := [
 gv 0 (.mv (.const (.bool false)))]
def c22r1 : List GOp := [
 gv 17 (.call 26 []),
 gv 1 (.alloc 57 (.agg #[oz, oz, oz, oz, oz, oz, oz, oz, oz, oz, oz, oz, oz, oz, oz, oz, oz, oz, oz, oz])),
 ⟨none, .store 20 (.tmp 1) (.tmp 17), none⟩]
def c22r2 : List GOp := [
 gv 18 (.build (.agg #[oz, oz]) [((0, 1), (.const (.int .i64 1))), ((1, 1), (.const (.int .i64 1)))]),
 gv 19 (.call 53 [(.const (.int .i64 2)), (.tmp 18)]),
 gv 20 (.call 52 [(.const (.int .i64 1)), (.const (.string ⟨#[97]⟩)), (.const (.int .i64 0)), (.tmp 19)]),
 gv 2 (.alloc 36 (.agg #[oz, (.string ⟨#[]⟩), (.slice none 0 0), oz, oz, oz, oz, oz])),
 ⟨none, .store 8 (.tmp 2) (.tmp 20), none⟩]
def c22r3 : List GOp := [
 gv 21 (.load 20 true (.tmp 1)),
 gv 22 (.call 52 [(.const (.int .i64 3)), (.const (.string ⟨#[112]⟩)), (.const (.int .i64 100)), (.tmp 21)]),
 gv 3 (.alloc 36 (.agg #[oz, (.string ⟨#[]⟩), (.slice none 0 0), oz, oz, oz, oz, oz])),
 ⟨none, .store 8 (.tmp 3) (.tmp 22), none⟩]
def c22r4 : List GOp := [
 gv 23 (.build (.agg #[oz, oz]) [((1, 1), (.const (.int .i64 17)))]),
 gv 24 (.call 53 [(.const (.int .i64 1)), (.tmp 23)]),
 gv 25 (.call 52 [(.const (.int .i64 2)), (.const (.string ⟨#[100]⟩)), (.const (.int .i64 0)), (.tmp 24)]),
 gv 4 (.alloc 36 (.agg #[oz, (.string ⟨#[]⟩), (.slice none 0 0), oz, oz, oz, oz, oz])),
 ⟨none, .store 8 (.tmp 4) (.tmp 25), none⟩]
def c22r5 : List GOp := [
 gv 27 (.build (.agg #[(.slice none 0 0)]) []),
 gv 28 (.call 24 [(.tmp 27)]),
 gv 26 (.mv (.tmp 28)),
 gv 29 (.ext (.tmp 26) 0),
 gv 30 (.ext (.tmp 26) 1),
 gv 5 (.alloc 28 (.agg #[(.slice none 0 0), (.slice none 0 0)])),
 ⟨none, .store 2 (.tmp 5) (.tmp 29), none⟩,
 gv 6 (.mv (.tmp 30))]
def c22r6 : List GOp := [
 gv 32 (.load 20 true (.tmp 1)),
 gv 33 (.call 52 [(.const (.int .i64 1)), (.const (.string ⟨#[97]⟩)), (.const (.int .i64 0)), (.tmp 32)]),
 gv 34 (.load 8 true (.tmp 3)),
 gv 35 (.bslice 36 8 2 (.agg #[oz, (.string ⟨#[]⟩), (.slice none 0 0), oz, oz, oz, oz, oz]) [(0, (.tmp 33)), (1, (.tmp 34))]),
 gv 36 (.build (.agg #[(.slice none 0 0)]) [((0, 1), (.tmp 35))]),
 gv 37 (.call 24 [(.tmp 36)]),
 gv 31 (.mv (.tmp 37)),
 gv 38 (.ext (.tmp 31) 0),
 gv 39 (.ext (.tmp 31) 1),
 gv 7 (.alloc 28 (.agg #[(.slice none 0 0), (.slice none 0 0)])),
 ⟨none, .store 2 (.tmp 7) (.tmp 38), none⟩,
 gv 8 (.mv (.tmp 39))]
def c22r7 : List GOp := [
 gv 41 (.load 8 true (.tmp 2)),
 gv 42 (.load 8 true (.tmp 3)),
 gv 43 (.bslice 36 8 2 (.agg #[oz, (.string ⟨#[]⟩), (.slice none 0 0), oz, oz, oz, oz, oz]) [(0, (.tmp 41)), (1, (.tmp 42))]),
 gv 44 (.build (.agg #[(.slice none 0 0)]) [((0, 1), (.tmp 43))]),
 gv 45 (.call 24 [(.tmp 44)]),
 gv 40 (.mv (.tmp 45)),
 gv 46 (.ext (.tmp 40) 0),
 gv 47 (.ext (.tmp 40) 1),
 gv 9 (.alloc 28 (.agg #[(.slice none 0 0), (.slice none 0 0)])),
 ⟨none, .store 2 (.tmp 9) (.tmp 46), none⟩,
 gv 10 (.mv (.tmp 47))]
def c22r8 : List GOp := [
 gv 49 (.load 8 true (.tmp 2)),
 gv 50 (.load 8 true (.tmp 3)),
 gv 51 (.load 8 true (.tmp 4)),
 gv 52 (.bslice 36 8 3 (.agg #[oz, (.string ⟨#[]⟩), (.slice none 0 0), oz, oz, oz, oz, oz]) [(0, (.tmp 49)), (1, (.tmp 50)), (2, (.tmp 51))]),
 gv 53 (.build (.agg #[(.slice none 0 0)]) [((0, 1), (.tmp 52))]),
 gv 54 (.call 24 [(.tmp 53)]),
 gv 48 (.mv (.tmp 54)),
 gv 55 (.ext (.tmp 48) 0),
 gv 56 (.ext (.tmp 48) 1),
 gv 11 (.alloc 28 (.agg #[(.slice none 0 0), (.slice none 0 0)])),
 ⟨none, .store 2 (.tmp 11) (.tmp 55), none⟩,
 gv 12 (.mv (.tmp 56))]
def c22r9 : List GOp := [
 gv 58 (.build (.agg #[oz, (.string ⟨#[]⟩), (.slice none 0 0), oz, oz, oz, oz, oz]) []),
 gv 59 (.bslice 36 8 1 (.agg #[oz, (.string ⟨#[]⟩), (.slice none 0 0), oz, oz, oz, oz, oz]) [(0, (.tmp 58))]),
 gv 60 (.build (.agg #[(.slice none 0 0)]) [((0, 1), (.tmp 59))]),
 gv 61 (.call 24 [(.tmp 60)]),
 gv 57 (.mv (.tmp 61)),
 gv 62 (.ext (.tmp 57) 0),
 gv 63 (.ext (.tmp 57) 1),
 gv 13 (.alloc 28 (.agg #[(.slice none 0 0), (.slice none 0 0)])),
 ⟨none, .store 2 (.tmp 13) (.tmp 62), none⟩,
 gv 14 (.mv (.tmp 63))]
def c22r10 : List GOp := [
 gv 64 (.mv (.tmp 6)),
 gv 65 (.bin .neq (.tmp 64) (.const (.int .i64 0))),
 gv 66 (.mv (.tmp 65)),
 gw 67 66 false (.mv (.tmp 8)),
 gw 68 66 false (.bin .neq (.tmp 67) (.const (.int .i64 0))),
 gv 69 (.pick (.tmp 66) (.const (.bool true)) (.tmp 68)),
 gv 70 (.mv (.tmp 69)),
 gw 71 70 false (.mv (.tmp 10)),
 gw 72 70 false (.bin .neq (.tmp 71) (.const (.int .i64 0))),
 gv 73 (.pick (.tmp 70) (.const (.bool true)) (.tmp 72)),
 gv 74 (.mv (.tmp 73)),
 gw 75 74 false (.mv (.tmp 12)),
 gw 76 74 false (.bin .neq (.tmp 75) (.const (.int .i64 0))),
 gv 77 (.pick (.tmp 74) (.const (.bool true)) (.tmp 76)),
 gv 78 (.mv (.tmp 77)),
 gw 79 78 false (.mv (.tmp 14)),
 gw 80 78 false (.bin .neq (.tmp 79) (.const (.int .i64 1))),
 gv 81 (.pick (.tmp 78) (.const (.bool true)) (.tmp 80)),
 gv 82 (.mv (.tmp 81)),
 gw 83 82 false (.fadd 0 (.tmp 5)),
 gw 84 82 false (.load 1 false (.tmp 83)),
 gw 85 82 false (.len false (.tmp 84)),
 gw 86 82 false (.bin .neq (.tmp 85) (.const (.int .i64 1))),
 gv 87 (.pick (.tmp 82) (.const (.bool true)) (.tmp 86)),
 gv 88 (.mv (.tmp 87)),
 gw 89 88 false (.fadd 0 (.tmp 7)),
 gw 90 88 false (.load 1 false (.tmp 89)),
 gw 91 88 false (.len false (.tmp 90)),
 gw 92 88 false (.bin .neq (.tmp 91) (.const (.int .i64 1))),
 gv 93 (.pick (.tmp 88) (.const (.bool true)) (.tmp 92)),
 gv 94 (.mv (.tmp 93)),
 gw 95 94 false (.fadd 0 (.tmp 9)),
 gw 96 94 false (.load 1 false (.tmp 95)),
 gw 97 94 false (.len false (.tmp 96)),
 gw 98 94 false (.bin .neq (.tmp 97) (.const (.int .i64 3))),
 gv 99 (.pick (.tmp 94) (.const (.bool true)) (.tmp 98)),
 gv 100 (.mv (.tmp 99)),
 gw 101 100 false (.fadd 0 (.tmp 11)),
 gw 102 100 false (.load 1 false (.tmp 101)),
 gw 103 100 false (.len false (.tmp 102)),
 gw 104 100 false (.bin .neq (.tmp 103) (.const (.int .i64 5))),
 gv 105 (.pick (.tmp 100) (.const (.bool true)) (.tmp 104))]
def c22r11 : List GOp := [
 gv 0 (.mv (.const (.bool false)))]
def c22r12 : List GOp := [
 gv 106 (.fadd 1 (.tmp 5)),
 gv 107 (.load 1 false (.tmp 106)),
 gv 108 (.idxA 16 (.tmp 107) (.const (.int .i64 0))),
 gv 109 (.fadd 0 (.tmp 108)),
 gv 110 (.load 1 false (.tmp 109)),
 gv 111 (.un .not (.tmp 110)),
 gv 112 (.mv (.tmp 111)),
 gw 113 112 true (.fadd 1 (.tmp 7)),
 gw 114 112 true (.load 1 false (.tmp 113)),
 gw 115 112 true (.idxA 16 (.tmp 114) (.const (.int .i64 0))),
 gw 116 112 true (.fadd 0 (.tmp 115)),
 gw 117 112 true (.load 1 false (.tmp 116)),
 gv 118 (.pick (.tmp 112) (.tmp 117) (.const (.bool false))),
 gv 119 (.mv (.tmp 118)),
 gw 120 119 true (.fadd 1 (.tmp 7)),
 gw 121 119 true (.load 1 false (.tmp 120)),
 gw 122 119 true (.idxA 16 (.tmp 121) (.const (.int .i64 0))),
 gw 123 119 true (.fadd 4 (.tmp 122)),
 gw 124 119 true (.load 1 false (.tmp 123)),
 gw 125 119 true (.bin .eql (.tmp 124) (.const (.int .i64 100))),
 gv 126 (.pick (.tmp 119) (.tmp 125) (.const (.bool false))),
 gv 127 (.mv (.tmp 126)),
 gw 128 127 true (.fadd 0 (.tmp 9)),
 gw 129 127 true (.load 1 false (.tmp 128)),
 gw 130 127 true (.idxA 4 (.tmp 129) (.const (.int .i64 0))),
 gw 131 127 true (.load 4 true (.tmp 130)),
 gw 132 127 true (.bslice 3 1 1 oz [(0, (.const (.int .i64 1)))]),
 gw 133 127 true (.bslice 3 1 2 oz [(0, (.const (.int .i64 1))), (1, (.const (.int .i64 2)))]),
 gw 134 127 true (.build (.agg #[oz, (.slice none 0 0), (.slice none 0 0), oz]) [((0, 1), (.const (.int .i64 2))), ((1, 1), (.tmp 132)), ((2, 1), (.tmp 133))]),
 gw 135 127 true (.call 54 [(.tmp 131), (.tmp 134)]),
 gv 136 (.pick (.tmp 127) (.tmp 135) (.const (.bool false))),
 gv 137 (.mv (.tmp 136)),
 gw 138 137 true (.fadd 0 (.tmp 11)),
 gw 139 137 true (.load 1 false (.tmp 138)),
 gw 140 137 true (.idxA 4 (.tmp 139) (.const (.int .i64 0))),
 gw 141 137 true (.load 4 true (.tmp 140)),
 gw 142 137 true (.bslice 3 1 1 oz [(0, (.const (.int .i64 18)))]),
 gw 143 137 true (.bslice 3 1 2 oz [(0, (.const (.int .i64 1))), (1, (.const (.int .i64 2)))]),
 gw 144 137 true (.build (.agg #[oz, (.slice none 0 0), (.slice none 0 0), oz]) [((0, 1), (.const (.int .i64 1))), ((1, 1), (.tmp 142)), ((2, 1), (.tmp 143))]),
 gw 145 137 true (.call 54 [(.tmp 141), (.tmp 144)]),
 gv 146 (.pick (.tmp 137) (.tmp 145) (.const (.bool false))),
 gv 15 (.mv (.tmp 146))]
def c22r13 : List GOp := [
 gv 147 (.build (.agg #[oz, oz, oz, oz, oz, oz, oz, oz, oz, oz]) [((1, 1), (.const (.int .i64 30))), ((2, 1), (.const (.int .i64 1))), ((8, 1), (.const (.int .i64 1)))]),
 gv 16 (.alloc 38 (.agg #[oz, oz, oz, oz, oz, oz, oz, oz, oz, oz])),
 ⟨none, .store 10 (.tmp 16) (.tmp 147), none⟩]
def c22r14 : List GOp := [
 gv 148 (.mv (.tmp 15)),
 gv 149 (.mv (.tmp 148)),
 gw 150 149 true (.load 2 true (.tmp 11)),
 gw 151 149 true (.load 10 true (.tmp 16)),
 gw 152 149 true (.call 20 [(.tmp 150), (.tmp 151)]),
 gw 153 149 true (.fld 0 1 false (.tmp 152)),
 gv 154 (.pick (.tmp 149) (.tmp 153) (.const (.bool false))),
 gv 155 (.mv (.tmp 154)),
 gw 156 155 true (.load 2 true (.tmp 9)),
 gw 157 155 true (.build (.agg #[oz, oz, oz, oz, oz, oz, oz, oz, oz, oz]) []),
 gw 158 155 true (.call 20 [(.tmp 156), (.tmp 157)]),
 gw 159 155 true (.fld 0 1 false (.tmp 158)),
 gw 160 155 true (.un .not (.tmp 159)),
 gv 161 (.pick (.tmp 155) (.tmp 160) (.const (.bool false))),
 gv 162 (.mv (.tmp 161)),
 gw 163 162 true (.load 2 true (.tmp 11)),
 gw 164 162 true (.call 17 [(.tmp 163)]),
 gv 165 (.pick (.tmp 162) (.tmp 164) (.const (.bool false))),
 gv 166 (.mv (.tmp 165)),
 gw 167 166 true (.build (.agg #[(.slice none 0 0), (.slice none 0 0)]) []),
 gw 168 166 true (.call 17 [(.tmp 167)]),
 gw 169 166 true (.un .not (.tmp 168)),
 gv 170 (.pick (.tmp 166) (.tmp 169) (.const (.bool false))),
 gv 0 (.mv (.tmp 170))]
def c22 : EFn := ⟨171, .seq (.reg c22r0) (.seq (.reg c22r1) (.seq (.reg c22r2) (.seq (.reg c22r3) (.seq (.reg c22r4) (.seq (.reg c22r5) (.seq (.par false false false 11 c22r6) (.seq (.reg c22r7) (.seq (.reg c22r8) (.seq (.reg c22r9) (.seq (.join (.reg c22r10) (.cond (.tmp 105) (.seq (.reg c22r11) (.ret)) (.skip))) (.join (.reg c22r12) (.seq (.reg c22r13) (.seq (.reg c22r14) (.ret)))))))))))))), [.tmp 0]⟩
theorem c22_ok : compF Tryd.prog 22 = some c22.er := by kernel_rfl
set_option maxHeartbeats 4000000 in
theorem law14_head_R {P : Program} (hP : P = Tryd.prog) (r : Bool) (h : law14_head_g = some r) : Fn1 P 22 [] (vB r) := by
 refine .walkE (hP ▸ c22_ok) fun K hK => ?_
 unfold law14_head_g at h
 cbv
 refine .g h (fun v hv => resolve_Limits_R hP v hv) aw_ rfl (fun _ => rfl) fun v1 h => ?_
 cbv
 refine .g h (fun v hv => law14_all_R hP _ _ v hv) aw_ rfl (fun _ => rfl) fun v2 h => ?_
 cbv
 refine .g h (fun v hv => law14_rule_R hP _ _ _ _ v hv) aw_ rfl (fun _ => rfl) fun v3 h => ?_
 cbv
 refine .g h (fun v hv => law14_rule_R hP _ _ _ _ v hv) aw_ rfl (fun _ => rfl) fun v4 h => ?_
 cbv
 refine .g h (fun v hv => law14_all_R hP _ _ v hv) aw_ rfl (fun _ => rfl) fun v5 h => ?_
 cbv
 refine .g h (fun v hv => law14_rule_R hP _ _ _ _ v hv) aw_ rfl (fun _ => rfl) fun v6 h => ?_
 cbv
 refine .g h (fun v hv => table_Build_R hP _ v hv) aw_ rfl (fun _ => rfl) fun v7 h => ?_
 cbv
 refine .g h (fun v hv => law14_rule_R hP _ _ _ _ v hv) aw_ rfl (fun _ => rfl) fun v8 h => ?_
 cbv
 refine .g (e := eRule) h (W_cons aw_ (W_cons aw_ (W_nil' _))) fun l9 h => ?_
 cbv
 refine .g h (fun v hv => table_Build_R hP _ v hv) aw_ rfl (fun _ => rfl) fun v10 h => ?_
 cbv
 refine .g (e := eRule) h (W_cons aw_ (W_cons aw_ (W_nil' _))) fun l11 h => ?_
 cbv
 refine .g h (fun v hv => table_Build_R hP _ v hv) aw_ rfl (fun _ => rfl) fun v12 h => ?_
 cbv
 refine .g (e := eRule) h (W_cons aw_ (W_cons aw_ (W_cons aw_ (W_nil' _)))) fun l13 h => ?_
 cbv
 refine .g h (fun v hv => table_Build_R hP _ v hv) aw_ rfl (fun _ => rfl) fun v14 h => ?_
 cbv
 refine .g (e := eRule) h (W_cons aw_ (W_nil' _)) fun l15 h => ?_
 cbv
 refine .g h (fun v hv => table_Build_R hP _ v hv) aw_ rfl (fun _ => rfl) fun v16 h => ?_
 cbv
 refine .g h (fun (v17 : Bool) => rp 5 .top ++ [.ptr 0 0, .top, .ptr 1 0, .top, .ptr 2 0, .top, .ptr 3 0] ++ rp 93 .top ++ [ob v17] ++ rp 65 .top) (fun (v17 : Bool) => [.cells [.d (.sl (W eNode v7.1.Nodes)), .d (.sl (W eDecision v7.1.Leaves))] 28, .cells [.d (.sl (W eNode v10.1.Nodes)), .d (.sl (W eDecision v10.1.Leaves))] 28, .cells [.d (.sl (W eNode v12.1.Nodes)), .d (.sl (W eDecision v12.1.Leaves))] 28, .cells [.d (.sl (W eNode v14.1.Nodes)), .d (.sl (W eDecision v14.1.Leaves))] 28]) (fun y hm Kn1 hKn1 => ?_) fun t h => ?_
 ·have h := hm
  clear hm
  cbv
  refine brkG h ?_ ?_ <;> intro h
  ·cbv
   obtain rfl := oj h
   refine hKn1 _ _ _ rfl (.nz (.mtE [4, 5, 7, 9] ?_))
   (cbv; repeat (refine ⟨an_, ?_⟩; cbv))
  ·cbv
   refine brkG h ?_ ?_ <;> intro h
   ·cbv
    obtain rfl := oj h
    refine hKn1 _ _ _ rfl (.nz (.mtE [4, 5, 7, 9] ?_))
    (cbv; repeat (refine ⟨an_, ?_⟩; cbv))
   ·cbv
    refine brkG h ?_ ?_ <;> intro h
    ·cbv
     obtain rfl := oj h
     refine hKn1 _ _ _ rfl (.nz (.mtE [4, 5, 7, 9] ?_))
     (cbv; repeat (refine ⟨an_, ?_⟩; cbv))
    ·cbv
     refine brkG h ?_ ?_ <;> intro h
     ·cbv
      obtain rfl := oj h
      refine hKn1 _ _ _ rfl (.nz (.mtE [4, 5, 7, 9] ?_))
      (cbv; repeat (refine ⟨an_, ?_⟩; cbv))
     ·cbv
      refine brkG h ?_ ?_ <;> intro h
      ·cbv
       obtain rfl := oj h
       refine hKn1 _ _ _ rfl (.nz (.mtE [4, 5, 7, 9] ?_))
       (cbv; repeat (refine ⟨an_, ?_⟩; cbv))
      ·cbv
       refine brkG h ?_ ?_ <;> intro h
       ·cbv
        obtain rfl := oj h
        refine hKn1 _ _ _ rfl (.nz (.mtE [4, 5, 7, 9] ?_))
        (cbv; repeat (refine ⟨an_, ?_⟩; cbv))
       ·cbv
        refine brkG h ?_ ?_ <;> intro h
        ·cbv
         obtain rfl := oj h
         refine hKn1 _ _ _ rfl (.nz (.mtE [4, 5, 7, 9] ?_))
         (cbv; repeat (refine ⟨an_, ?_⟩; cbv))
        ·cbv
         refine brkG h ?_ ?_ <;> intro h
         ·cbv
          obtain rfl := oj h
          refine hKn1 _ _ _ rfl (.nz (.mtE [4, 5, 7, 9] ?_))
          (cbv; repeat (refine ⟨an_, ?_⟩; cbv))
         ·cbv
          obtain rfl := oj h
          refine hKn1 _ _ _ rfl (.nz (.mtE [4, 5, 7, 9] ?_))
          (cbv; repeat (refine ⟨an_, ?_⟩; cbv))
 obtain ⟨v17, rfl⟩ : ∃ z, z = t := ⟨_, rfl⟩
 cbv
 refine brkG h ?_ ?_ <;> intro h
 ·cbv
  obtain rfl := oj h
  exact hK _ _ aw_
 ·cbv
  refine .g h (fun (one18 : Bool) => rp 9 .top ++ [.ptr 0 0, .top, .ptr 1 0] ++ rp 3 .top ++ [ob one18] ++ rp 155 .top) (fun (one18 : Bool) => [.cells [.d (.sl (W eNode v12.1.Nodes)), .d (.sl (W eDecision v12.1.Leaves))] 28, .cells [.d (.sl (W eNode v14.1.Nodes)), .d (.sl (W eDecision v14.1.Leaves))] 28]) (fun y hm Kn1 hKn1 => ?_) fun t h => ?_
  ·have h := hm
   clear hm
   cbv
   refine .g h (fun _ => rfl) fun x19 h => ?_
   cbv
   refine brkG h ?_ ?_ <;> intro h
   ·cbv
    refine .g h (fun _ => rfl) fun x20 h => ?_
    cbv
    refine brkG h ?_ ?_ <;> intro h
    ·cbv
     refine .g h (fun _ => rfl) fun x21 h => ?_
     cbv
     refine brkG h ?_ ?_ <;> intro h
     ·cbv
      refine .g h (fun _ => rfl) fun x22 h => ?_
      cbv
      refine .g (e := eIi64) h (W_cons aw_ (W_nil' _)) fun l23 h => ?_
      cbv
      refine .g (e := eIi64) h (W_cons aw_ (W_cons aw_ (W_nil' _))) fun l24 h => ?_
      cbv
      refine .gl [] h (fun v hv => ref14_Equal_R hP _ _ v hv) aw_ rfl fun v25 h => ?_
      cbv
      refine brkG h ?_ ?_ <;> intro h
      ·cbv
       refine .g h (fun _ => rfl) fun x26 h => ?_
       cbv
       refine .g (e := eIi64) h (W_cons aw_ (W_nil' _)) fun l27 h => ?_
       cbv
       refine .g (e := eIi64) h (W_cons aw_ (W_cons aw_ (W_nil' _))) fun l28 h => ?_
       cbv
       refine .gl [] h (fun v hv => ref14_Equal_R hP _ _ v hv) aw_ rfl fun v29 h => ?_
       cbv
       obtain rfl := oj h
       refine hKn1 _ _ _ rfl (.nz (.mtE [2, 3] ?_))
       (cbv; repeat (refine ⟨an_, ?_⟩; cbv))
      ·cbv
       obtain rfl := oj h
       refine hKn1 _ _ _ rfl (.nz (.mtE [2, 3] ?_))
       (cbv; repeat (refine ⟨an_, ?_⟩; cbv))
     ·cbv
      obtain rfl := oj h
      refine hKn1 _ _ _ rfl (.nz (.mtE [2, 3] ?_))
      (cbv; repeat (refine ⟨an_, ?_⟩; cbv))
    ·cbv
     obtain rfl := oj h
     refine hKn1 _ _ _ rfl (.nz (.mtE [2, 3] ?_))
     (cbv; repeat (refine ⟨an_, ?_⟩; cbv))
   ·cbv
    obtain rfl := oj h
    refine hKn1 _ _ _ rfl (.nz (.mtE [2, 3] ?_))
    (cbv; repeat (refine ⟨an_, ?_⟩; cbv))
  obtain ⟨one18, rfl⟩ : ∃ z, z = t := ⟨_, rfl⟩
  cbv
  refine brkG h ?_ ?_ <;> intro h
  ·cbv
   refine .g h (fun v hv => table_Lookup_R hP _ _ v hv) aw_ rfl (fun _ => rfl) fun v30 h => ?_
   cbv
   refine brkG h ?_ ?_ <;> intro h
   ·cbv
    refine .g h (fun v hv => table_Lookup_R hP _ _ v hv) aw_ rfl (fun _ => rfl) fun v31 h => ?_
    cbv
    refine brkG h ?_ ?_ <;> intro h
    ·cbv
     refine .g h (fun v hv => table_Valid_R hP _ v hv) aw_ rfl (fun _ => rfl) fun v32 h => ?_
     cbv
     refine brkG h ?_ ?_ <;> intro h
     ·cbv
      refine .g h (fun v hv => table_Valid_R hP _ v hv) aw_ rfl (fun _ => rfl) fun v33 h => ?_
      cbv
      obtain rfl := oj h
      exact hK _ _ aw_
     ·cbv
      obtain rfl := oj h
      exact hK _ _ aw_
    ·cbv
     obtain rfl := oj h
     exact hK _ _ aw_
   ·cbv
    obtain rfl := oj h
    exact hK _ _ aw_
  ·cbv
   obtain rfl := oj h
   exact hK _ _ aw_
end Go.SX.Td
namespace Go.SX.Td
open Go Go.SX Go.Proofs
set_option maxRecDepth 100000
noncomputable def ref14_Few_l2 (p : Policy) : (Int × Int) → Option ((Int × Int) ⊕ ((Int) ⊕ (Bool)))
 | (zones2, i3) =>
 bif (io.lt i3 (io.len (W eRule p.Rules))) then (
 Option.bind (idxG p.Rules i3) fun x4 =>
 Option.bind (idxG p.Rules i3) fun x5 =>
 bif (io.lt 60 (io.ssz x5.Name)) then (
 some (.inr (.inr false))
 ) else (
 some (.inl ((io.ar .add .i64 zones2 (io.len (W eA10Range x4.Zones))), (io.ar .add .i64 i3 1)))
 )
 ) else (
 some (.inr (.inl zones2))
 )
noncomputable def ref14_Few_g (p : Policy) : Option (Bool) :=
 orR (
 whileG (ref14_Few_l2 p) (0, 0)
 ) fun zones1 =>
 bif (io.le (io.len (W eRule p.Rules)) 8) then (
 some (io.le zones1 10)
 ) else (
 some false
 )
end Go.SX.Td
