/- Parts of the proof. -/
import Derived.Test.YtllbabjgpdmblaaDoorZTdT
import Derived.Test.YtllbabjgpdmblaaDoorZTd32d
import Derived.Test.YtllbabjgpdmblaaDoorZTd49d
set_option linter.unusedSimpArgs false
set_option linter.unusedVariables false
set_option linter.unusedSectionVars false
namespace Go.SX.Td
open Go Go.SX Go.Proofs
set_option maxRecDepth 100000
noncomputable def walkT_l1 (v9 : Node) (rec : (Int → (List (Int × Bool)) → (List Int) → (List (Int × Int)) → Option ((List (Int × Bool)) × (List Int) × (List (Int × Int))))) : ((List (Int × Bool)) × (List Int) × (List (Int × Int)) × Int) → Option (((List (Int × Bool)) × (List Int) × (List (Int × Int)) × Int) ⊕ ((List (Int × Bool)) × (List Int) × (List (Int × Int))))
 | (own10, c11, own12, v13) =>
  bif (io.lt v13 (io.len (W eIi64 v9.Kids))) then (
   Option.bind (
    Option.bind (idxG v9.Kids v13) fun x17 =>
    Option.bind (rec x17 own10 c11 own12) fun r18 =>
    some (r18.1, r18.2.1, r18.2.2)
    ) fun (own14, c15, own16) =>
   some (.inl (own14, c15, own16, (io.ar .add .i64 v13 1)))
  ) else (
   some (.inr (own10, c11, own12))
  )
noncomputable def walkT_b (nodes : (List Node)) (rec : (Int → (List (Int × Bool)) → (List Int) → (List (Int × Int)) → Option ((List (Int × Bool)) × (List Int) × (List (Int × Int))))) (at0 : Int) (seen : (List (Int × Bool))) (ord : (List Int)) (number : (List (Int × Int))) : Option ((List (Int × Bool)) × (List Int) × (List (Int × Int))) :=
 Option.bind (some (mlookD seen at0 false)) fun y1 =>
 bif y1 then (
  some (seen, ord, number)
 ) else (
  Option.bind (some (mputG seen at0 true)) fun m2 =>
  Option.bind (
   Option.bind (some (mputG number at0 (io.len (W eIi64 ord)))) fun m5 =>
   Option.bind (some [at0]) fun l6 =>
   Option.bind (appG ord l6) fun l7 =>
   some (l7, m5)
   ) fun (c3, own4) =>
  Option.bind (rixG nodes at0) fun ix8 =>
  Option.bind (nodes[ix8]?) fun v9 =>
  whileG (walkT_l1 v9 rec) (m2, c3, own4, 0)
 )
noncomputable def walkT (nodes : (List Node)) : Nat → Int → (List (Int × Bool)) → (List Int) → (List (Int × Int)) → Option ((List (Int × Bool)) × (List Int) × (List (Int × Int)))
 | 0, _, _, _, _ => none
 | n + 1, at0, seen, ord, number => walkT_b nodes (walkT nodes n) at0 seen ord number
end Go.SX.Td
namespace Go.SX.Td
open Go Go.SX Go.Proofs
set_option maxRecDepth 100000
noncomputable def table_Build_l2 (p : Policy) : ((List (A10 Range)) × Int) → Option (((List (A10 Range)) × Int) ⊕ ((List (A10 Range))))
 | (zones4, v5) =>
 bif (io.lt v5 (io.len (W eRule p.Rules))) then (
 Option.bind (idxG p.Rules v5) fun x6 =>
 Option.bind (appG zones4 x6.Zones) fun l7 =>
 some (.inl (l7, (io.ar .add .i64 v5 1)))
 ) else (
 some (.inr zones4)
 )
noncomputable def table_Build_l4 (l8 : (List Int)) : ((List Int) × Int) → Option (((List Int) × Int) ⊕ ((List Int)))
 | (all10, v11) =>
 bif (io.lt v11 (io.len (W eIi64 l8))) then (
 Option.bind (rixG all10 v11) fun i12 =>
 Option.bind (updG all10 i12 fun y13 => v11) fun l14 =>
 some (.inl (l14, (io.ar .add .i64 v11 1)))
 ) else (
 some (.inr all10)
 )
noncomputable def table_Build_l30 (v35 : Node) (number22 : (List (Int × Int))) : ((List Int) × Int) → Option (((List Int) × Int) ⊕ ((List Int)))
 | (Kids42, v43) =>
 bif (io.lt v43 (io.len (W eIi64 v35.Kids))) then (
 Option.bind (idxG v35.Kids v43) fun x44 =>
 Option.bind (some (mlookD number22 x44 0)) fun y45 =>
 Option.bind (some [y45]) fun l46 =>
 Option.bind (appG Kids42 l46) fun l47 =>
 some (.inl (l47, (io.ar .add .i64 v43 1)))
 ) else (
 some (.inr Kids42)
 )
noncomputable def table_Build_l26 (order23 : (List Int)) (nodes15 : (List Node)) (leaves16 : (List Decision)) (number22 : (List (Int × Int))) : ((List Node) × (List Decision) × Int) → Option (((List Node) × (List Decision) × Int) ⊕ ((List Node) × (List Decision)))
 | (Nodes27, Leaves28, v29) =>
 bif (io.lt v29 (io.len (W eIi64 order23))) then (
 Option.bind (
 Option.bind (rixG order23 v29) fun ix32 =>
 Option.bind (order23[ix32]?) fun v33 =>
 Option.bind (rixG nodes15 v33) fun i34 =>
 Option.bind (nodes15[i34]?) fun v35 =>
 Option.bind (
 bif (io.eq (io.len (W eIi64 v35.Kids)) 0) then (
 Option.bind (idxG leaves16 v35.Leaf) fun x38 =>
 Option.bind (some [x38]) fun l39 =>
 Option.bind (appG Leaves28 l39) fun l40 =>
 some (l40, (io.ar .sub .i64 (io.len (W eDecision l40)) 1))
 ) else (
 some (Leaves28, v35.Leaf)
 )
 ) fun (Leaves36, Leaf37) =>
 Option.bind (
 whileG (table_Build_l30 v35 number22) ([], 0)
 ) fun Kids41 =>
 Option.bind (some [(Node.mk v35.Attr v35.Cuts Kids41 Leaf37)]) fun l48 =>
 Option.bind (appG Nodes27 l48) fun l49 =>
 some (l49, Leaves36)
 ) fun (Nodes30, Leaves31) =>
 some (.inl (Nodes30, Leaves31, (io.ar .add .i64 v29 1)))
 ) else (
 some (.inr (Nodes27, Leaves28))
 )
noncomputable def table_Build_g (p : Policy) : Option (Table × Int) :=
 Option.bind (decide_Valid_g p) fun v1 =>
 bif (io.not v1) then (
 some ((Table.mk [] []), 1)
 ) else (
 Option.bind (resolve_Limits_g) fun v2 =>
 Option.bind (
 whileG (table_Build_l2 p) ([], 0)
 ) fun zones3 =>
 Option.bind (mksG (io.len (W eA10Range zones3)) (0 : Int)) fun l8 =>
 Option.bind (
 whileG (table_Build_l4 l8) (l8, 0)
 ) fun all9 =>
 Option.bind (
 Option.bind (tbuild p.Rules v2 zones3 11 0 all9 (A10.mk 0 0 0 0 0 0 0 0 0 0) ([] : (List Node)) ([] : (List Decision)) ([] : (List (ByteArray × Int))) ([] : (List (ByteArray × Int))) ([] : (List (Decision × Int)))) fun r21 =>
 some (r21.2.1, r21.2.2.1, r21.2.2.2.1, r21.2.2.2.2.1, r21.2.2.2.2.2, r21.1)
 ) fun (nodes15, leaves16, known17, made18, leaf19, root20) =>
 bif (io.lt 20000 (io.len (W eNode nodes15))) then (
 some ((Table.mk [] []), 3)
 ) else (
 Option.bind (
 Option.bind (walkT nodes15 11 root20 ([] : (List (Int × Bool))) ([] : (List Int)) ([] : (List (Int × Int)))) fun r24 =>
 some (r24.2.2, r24.2.1)
 ) fun (number22, order23) =>
 Option.bind (
 whileG (table_Build_l26 order23 nodes15 leaves16 number22) ([], [], 0)
 ) fun (Nodes25, Leaves26) =>
 some ((Table.mk Nodes25 Leaves26), 0)
 )
 )
end Go.SX.Td
namespace Go.SX.Td
open Go Go.SX Go.Proofs
set_option maxRecDepth 100000
def c72r0 : List GOp := [
 gv 2 (.box 57 (.tmp 0)),
 gv 3 (.mv (.const (.bool false)))]
def c72r1 : List GOp := [
 gv 6 (.load 10 true (.tmp 1)),
 gv 7 (.mv (.const (.int .i64 0)))]
def c72r2 : List GOp := [
 gv 8 (.bin .lss (.tmp 7) (.const (.int .i64 10)))]
def c72r3 : List GOp := [
 gv 9 (.mv (.tmp 7)),
 gv 10 (.idxV 10 1 false (.tmp 6) (.tmp 7)),
 gv 4 (.mv (.tmp 9)),
 gv 5 (.mv (.tmp 10))]
def c72r4 : List GOp := [
 gv 11 (.mv (.tmp 5)),
 gv 12 (.mv (.tmp 4)),
 gv 13 (.idxP 10 2 (.tmp 2) (.tmp 12)),
 gv 14 (.fadd 0 (.tmp 13)),
 gv 15 (.load 1 false (.tmp 14)),
 gv 16 (.bin .lss (.tmp 11) (.tmp 15)),
 gv 17 (.mv (.tmp 16)),
 gw 18 17 false (.mv (.tmp 5)),
 gw 19 17 false (.mv (.tmp 4)),
 gw 20 17 false (.idxP 10 2 (.tmp 2) (.tmp 19)),
 gw 21 17 false (.fadd 1 (.tmp 20)),
 gw 22 17 false (.load 1 false (.tmp 21)),
 gw 23 17 false (.bin .gtr (.tmp 18) (.tmp 22)),
 gv 24 (.pick (.tmp 17) (.const (.bool true)) (.tmp 23))]
def c72r5 : List GOp := [
 gv 3 (.mv (.const (.bool false)))]
def c72r6 : List GOp := [
 gv 25 (.bin .add (.tmp 7) (.const (.int .i64 1))),
 gv 7 (.mv (.tmp 25))]
def c72l7 : DE := .seq (.reg c72r2) (.seq (.cond (.tmp 8) (.skip) (.exit 0)) (.seq (.block 1 (.join (.reg c72r3) (.join (.reg c72r4) (.cond (.tmp 24) (.seq (.reg c72r5) (.ret)) (.skip))))) (.reg c72r6)))
def c72r8 : List GOp := [
 gv 3 (.mv (.const (.bool true)))]
def c72 : EFn := ⟨26, .seq (.reg c72r0) (.join (.seq (.reg c72r1) (.block 0 (.loop c72l7))) (.seq (.reg c72r8) (.ret))), [.tmp 3]⟩
theorem c72_ok : compF Tryd.prog 72 = some c72.er := by kernel_rfl
def c49r0 : List GOp := [
 gv 2 (.box 36 (.tmp 0)),
 gv 3 (.box 38 (.tmp 1)),
 gv 4 (.mv (.const (.bool false)))]
def c49r1 : List GOp := [
 gv 5 (.fadd 2 (.tmp 2)),
 gv 6 (.load 1 false (.tmp 5)),
 gv 7 (.mkfn (.func 72) [] [(.tmp 3)]),
 gv 8 (.call 33 [(.tmp 6), (.tmp 7)]),
 gv 4 (.mv (.tmp 8))]
def c49 : EFn := ⟨9, .seq (.reg c49r0) (.seq (.reg c49r1) (.ret)), [.tmp 4]⟩
theorem c49_ok : compF Tryd.prog 49 = some c49.er := by kernel_rfl
set_option maxHeartbeats 4000000 in
theorem decide_Holds_R {P : Program} (hP : P = Tryd.prog) (r_ : Rule) (f : (A10 Int)) (r : Bool) (h : decide_Holds_g r_ f = some r) : Fn1 P 49 [vRule r_, vA10Ii64 f] (vB r) := by
 refine .walkE (hP ▸ c49_ok) fun K hK => ?_
 unfold decide_Holds_g at h
 cbv
 refine .inl (hP ▸ c33_ok) ?_
 cbv
 refine .inl (hP ▸ c61_ok) ?_
 cbv
 refine .ga h (fun (_ : Unit) => rp 19 .top) (fun (_ : Unit) => [.cells [oi r_.Kind, .d (.val (.string r_.Name)), .d (.sl (W eA10Range r_.Zones)), oi r_.N, oi r_.R.Num, oi r_.R.Den, oi r_.S.Num, oi r_.S.Den] 36, .cells (ca f) 38]) (fun y hm hr1 Kn1 hKn1 => ?_) fun t h => ?_
 ·have h := hm
  clear hm
  cbv
  refine .g h (fun (v1 : Int) => [.d (.sl (W eA10Range r_.Zones)), .clo (.func 72) [] [.ptr 1 0]] ++ rp 5 .top ++ [oi (io.len (W eA10Range r_.Zones)), oi v1] ++ rp 10 .top) (fun (v1 : Int) => [.cells [oi r_.Kind, .d (.val (.string r_.Name)), .d (.sl (W eA10Range r_.Zones)), oi r_.N, oi r_.R.Num, oi r_.R.Den, oi r_.S.Num, oi r_.S.Den] 36, .cells (ca f) 38]) (.nz (.mtE [0, 1] ?_)) fun s x h hr2 Kn2 hKn2 => ?_
  ·(cbv; repeat (refine ⟨an_, ?_⟩; cbv))
  unfold decide_Holds_l22 at h
  obtain ⟨v1, rfl⟩ : ∃ z, z = s := ⟨_, rfl⟩
  cbv
  refine brkG h ?_ ?_ <;> intro h
  ·cbv
   refine .g h (fun (v2 : Bool) => [.d (.sl (W eA10Range r_.Zones)), .clo (.func 72) [] [.ptr 1 0]] ++ rp 3 .top ++ [oi v1, .top, oi (io.len (W eA10Range r_.Zones)), oi v1] ++ rp 7 .top ++ [ob v2, .top, .top]) (fun (v2 : Bool) => [.cells [oi r_.Kind, .d (.val (.string r_.Name)), .d (.sl (W eA10Range r_.Zones)), oi r_.N, oi r_.R.Num, oi r_.R.Den, oi r_.S.Num, oi r_.S.Den] 36, .cells (ca f) 38]) (fun y hm Kn3 hKn3 => ?_) fun t h => ?_
   ·have h := hm
    clear hm
    cbv
    refine .g h (fun _ => rfl) fun x3 h => ?_
    cbv
    refine .inl (hP ▸ c72_ok) ?_
    cbv
    refine .ga h (fun (_ : Unit) => rp 26 .top) (fun (_ : Unit) => [.cells [oi r_.Kind, .d (.val (.string r_.Name)), .d (.sl (W eA10Range r_.Zones)), oi r_.N, oi r_.R.Num, oi r_.R.Den, oi r_.S.Num, oi r_.S.Den] 36, .cells (ca f) 38]) (fun y hm hr4 Kn4 hKn4 => ?_) fun t h => ?_
    ·have h := hm
     clear hm
     cbv
     refine .g h (fun (v4 : Int) => [.top, .top, .ptr 2 0] ++ rp 3 .top ++ [.agg (ca f), oi v4] ++ rp 18 .top) (fun (v4 : Int) => [.cells [oi r_.Kind, .d (.val (.string r_.Name)), .d (.sl (W eA10Range r_.Zones)), oi r_.N, oi r_.R.Num, oi r_.R.Den, oi r_.S.Num, oi r_.S.Den] 36, .cells (ca f) 38, .cells [oi x3.a0.Lo, oi x3.a0.Hi, oi x3.a1.Lo, oi x3.a1.Hi, oi x3.a2.Lo, oi x3.a2.Hi, oi x3.a3.Lo, oi x3.a3.Hi, oi x3.a4.Lo, oi x3.a4.Hi, oi x3.a5.Lo, oi x3.a5.Hi, oi x3.a6.Lo, oi x3.a6.Hi, oi x3.a7.Lo, oi x3.a7.Hi, oi x3.a8.Lo, oi x3.a8.Hi, oi x3.a9.Lo, oi x3.a9.Hi] 57]) (.nz (.mtE [0, 1, 2] ?_)) fun s x h hr5 Kn5 hKn5 => ?_
     ·(cbv; repeat (refine ⟨an_, ?_⟩; cbv))
     unfold decide_Holds_l26 at h
     obtain ⟨v4, rfl⟩ : ∃ z, z = s := ⟨_, rfl⟩
     cbv
     refine brkG h ?_ ?_ <;> intro h
     ·cbv
      refine .g h (fun (n5 : Int) => [.top, .top, .ptr 2 0, .top, oi v4, oi n5, .agg (ca f), oi v4] ++ rp 18 .top) (fun (n5 : Int) => [.cells [oi r_.Kind, .d (.val (.string r_.Name)), .d (.sl (W eA10Range r_.Zones)), oi r_.N, oi r_.R.Num, oi r_.R.Den, oi r_.S.Num, oi r_.S.Den] 36, .cells (ca f) 38, .cells [oi x3.a0.Lo, oi x3.a0.Hi, oi x3.a1.Lo, oi x3.a1.Hi, oi x3.a2.Lo, oi x3.a2.Hi, oi x3.a3.Lo, oi x3.a3.Hi, oi x3.a4.Lo, oi x3.a4.Hi, oi x3.a5.Lo, oi x3.a5.Hi, oi x3.a6.Lo, oi x3.a6.Hi, oi x3.a7.Lo, oi x3.a7.Hi, oi x3.a8.Lo, oi x3.a8.Hi, oi x3.a9.Lo, oi x3.a9.Hi] 57]) (fun y hm Kn6 hKn6 => ?_) fun t h => ?_
      ·have h := hm
       clear hm
       cbv
       refine .c10 h ?_ ?_ ?_ ?_ ?_ ?_ ?_ ?_ ?_ ?_ <;> (
        intro hni6 h
        cbv
        obtain rfl := oj h
        refine hKn6 _ _ _ rfl (.nz (.mtE [0, 1, 2] ?_))
        (cbv; repeat (refine ⟨an_, ?_⟩; cbv))
        )
      obtain ⟨n5, rfl⟩ : ∃ z, z = t := ⟨_, rfl⟩
      cbv
      refine .g h (fun (v7 : Bool) => [.top, .top, .ptr 2 0] ++ rp 3 .top ++ [.agg (ca f), oi v4] ++ rp 16 .top ++ [ob v7, .top]) (fun (v7 : Bool) => [.cells [oi r_.Kind, .d (.val (.string r_.Name)), .d (.sl (W eA10Range r_.Zones)), oi r_.N, oi r_.R.Num, oi r_.R.Den, oi r_.S.Num, oi r_.S.Den] 36, .cells (ca f) 38, .cells [oi x3.a0.Lo, oi x3.a0.Hi, oi x3.a1.Lo, oi x3.a1.Hi, oi x3.a2.Lo, oi x3.a2.Hi, oi x3.a3.Lo, oi x3.a3.Hi, oi x3.a4.Lo, oi x3.a4.Hi, oi x3.a5.Lo, oi x3.a5.Hi, oi x3.a6.Lo, oi x3.a6.Hi, oi x3.a7.Lo, oi x3.a7.Hi, oi x3.a8.Lo, oi x3.a8.Hi, oi x3.a9.Lo, oi x3.a9.Hi] 57]) (fun y hm Kn6 hKn6 => ?_) fun t h => ?_
      ·have h := hm
       clear hm
       cbv
       refine .c10 h ?_ ?_ ?_ ?_ ?_ ?_ ?_ ?_ ?_ ?_ <;> (
        intro hnix8 h
        cbv
        refine brkG h ?_ ?_ <;> intro h
        ·cbv
         obtain rfl := oj h
         refine hKn6 _ _ _ rfl (.nz (.mtE [0, 1, 2] ?_))
         (cbv; repeat (refine ⟨an_, ?_⟩; cbv))
        ·cbv
         refine .at _ hnix8 (by decide) ?_
         cbv
         obtain rfl := oj h
         refine hKn6 _ _ _ rfl (.nz (.mtE [0, 1, 2] ?_))
         (cbv; repeat (refine ⟨an_, ?_⟩; cbv))
        )
      obtain ⟨v7, rfl⟩ : ∃ z, z = t := ⟨_, rfl⟩
      cbv
      refine brkG h ?_ ?_ <;> intro h
      ·cbv
       obtain rfl := oj h
       obtain rfl := hr5 _ rfl
       obtain rfl := hr4 _ rfl
       refine hKn3 _ _ _ rfl (.nz (.mtE [0, 1] ?_))
       (cbv; repeat (refine ⟨an_, ?_⟩; cbv))
      ·cbv
       obtain rfl := oj h
       refine hKn5 _ _ _ rfl (.nz (.mtE [0, 1, 2] ?_))
       (cbv; repeat (refine ⟨an_, ?_⟩; cbv))
     ·cbv
      obtain rfl := oj h
      obtain rfl := hr5 _ rfl
      refine hKn4 _ _ _ rfl (.nz (.mtE [0, 1] ?_))
      (cbv; repeat (refine ⟨an_, ?_⟩; cbv))
    cbv
    obtain rfl := oj h
    refine hKn3 _ _ _ rfl (.nz (.mtE [0, 1] ?_))
    (cbv; repeat (refine ⟨an_, ?_⟩; cbv))
   obtain ⟨v2, rfl⟩ : ∃ z, z = t := ⟨_, rfl⟩
   cbv
   refine brkG h ?_ ?_ <;> intro h
   ·cbv
    obtain rfl := oj h
    obtain rfl := hr2 _ rfl
    obtain rfl := hr1 _ rfl
    exact hK _ _ aw_
   ·cbv
    obtain rfl := oj h
    refine hKn2 _ _ _ rfl (.nz (.mtE [0, 1] ?_))
    (cbv; repeat (refine ⟨an_, ?_⟩; cbv))
  ·cbv
   obtain rfl := oj h
   obtain rfl := hr2 _ rfl
   refine hKn1 _ _ _ rfl (.nz (.mtE [0, 1] ?_))
   (cbv; repeat (refine ⟨an_, ?_⟩; cbv))
 cbv
 obtain rfl := oj h
 exact hK _ _ aw_
end Go.SX.Td
