/- Parts of the proof. -/
import Derived.Test.YtllbabjgpdmblaaDoorZTdT
import Derived.Test.YtllbabjgpdmblaaDoorZTd49d
set_option linter.unusedSimpArgs false
set_option linter.unusedVariables false
set_option linter.unusedSectionVars false
namespace Go.SX.Td
open Go Go.SX Go.Proofs
set_option maxRecDepth 100000
def c72r0 : List GOp := [
 gv 2 (.box 57 (.tmp 0)),
 gv 3 (.mv (.const (.bool false)))]
def c72r1 : List GOp := [
 gv 6 (.load 10 true (.tmp 1)),
 gv 7 (.mv (.const (.int .i64 0)))]
def c72r2 : List GOp := [
 gv 8 (.bin .lss (.tmp 7) (.const (.int .i64 10)))]
def c72r3 : List GOp := [
 gv 9 (.mv (.tmp 7)),
 gv 10 (.idxV 10 1 false (.tmp 6) (.tmp 7)),
 gv 4 (.mv (.tmp 9)),
 gv 5 (.mv (.tmp 10))]
def c72r4 : List GOp := [
 gv 11 (.mv (.tmp 5)),
 gv 12 (.mv (.tmp 4)),
 gv 13 (.idxP 10 2 (.tmp 2) (.tmp 12)),
 gv 14 (.fadd 0 (.tmp 13)),
 gv 15 (.load 1 false (.tmp 14)),
 gv 16 (.bin .lss (.tmp 11) (.tmp 15)),
 gv 17 (.mv (.tmp 16)),
 gw 18 17 false (.mv (.tmp 5)),
 gw 19 17 false (.mv (.tmp 4)),
 gw 20 17 false (.idxP 10 2 (.tmp 2) (.tmp 19)),
 gw 21 17 false (.fadd 1 (.tmp 20)),
 gw 22 17 false (.load 1 false (.tmp 21)),
 gw 23 17 false (.bin .gtr (.tmp 18) (.tmp 22)),
 gv 24 (.pick (.tmp 17) (.const (.bool true)) (.tmp 23))]
def c72r5 : List GOp := [
 gv 3 (.mv (.const (.bool false)))]
def c72r6 : List GOp := [
 gv 25 (.bin .add (.tmp 7) (.const (.int .i64 1))),
 gv 7 (.mv (.tmp 25))]
def c72l7 : DE := .seq (.reg c72r2) (.seq (.cond (.tmp 8) (.skip) (.exit 0)) (.seq (.block 1 (.join (.reg c72r3) (.join (.reg c72r4) (.cond (.tmp 24) (.seq (.reg c72r5) (.ret)) (.skip))))) (.reg c72r6)))
def c72r8 : List GOp := [
 gv 3 (.mv (.const (.bool true)))]
def c72 : EFn := ⟨26, .seq (.reg c72r0) (.join (.seq (.reg c72r1) (.block 0 (.loop c72l7))) (.seq (.reg c72r8) (.ret))), [.tmp 3]⟩
theorem c72_ok : compF Tryd.prog 72 = some c72.er := by kernel_rfl
def c49r0 : List GOp := [
 gv 2 (.box 36 (.tmp 0)),
 gv 3 (.box 38 (.tmp 1)),
 gv 4 (.mv (.const (.bool false)))]
def c49r1 : List GOp := [
 gv 5 (.fadd 2 (.tmp 2)),
 gv 6 (.load 1 false (.tmp 5)),
 gv 7 (.mkfn (.func 72) [] [(.tmp 3)]),
 gv 8 (.call 33 [(.tmp 6), (.tmp 7)]),
 gv 4 (.mv (.tmp 8))]
def c49 : EFn := ⟨9, .seq (.reg c49r0) (.seq (.reg c49r1) (.ret)), [.tmp 4]⟩
theorem c49_ok : compF Tryd.prog 49 = some c49.er := by kernel_rfl
set_option maxHeartbeats 4000000 in
theorem decide_Holds_R {P : Program} (hP : P = Tryd.prog) (r_ : Rule) (f : (A10 Int)) (r : Bool) (h : decide_Holds_g r_ f = some r) : Fn1 P 49 [vRule r_, vA10Ii64 f] (vB r) := by
 refine .walkE (hP ▸ c49_ok) fun K hK => ?_;unfold decide_Holds_g at h;cbv;refine .inl (hP ▸ c33_ok) ?_;cbv;refine .inl (hP ▸ c61_ok) ?_;cbv;refine .ga h (fun (_ : Unit) => rp 19 .top) (fun _ => [.cells [oi r_.Kind, .d (.val (.string r_.Name)), .d (.sl (W eA10Range r_.Zones)), oi r_.N, oi r_.R.Num, oi r_.R.Den, oi r_.S.Num, oi r_.S.Den] 36, .cells (ca f) 38]) (fun y hm hr1 Kn1 hKn1 => ?_) fun t h => ?_
 ·have h := hm;clear hm;cbv;refine .g h (fun (v1 : Int) => [.d (.sl (W eA10Range r_.Zones)), .clo (.func 72) [] [.ptr 1 0]] ++ rp 5 .top ++ [oi (io.len (W eA10Range r_.Zones)), oi v1] ++ rp 10 .top) (fun v1 => [.cells [oi r_.Kind, .d (.val (.string r_.Name)), .d (.sl (W eA10Range r_.Zones)), oi r_.N, oi r_.R.Num, oi r_.R.Den, oi r_.S.Num, oi r_.S.Den] 36, .cells (ca f) 38]) (.nz (.mtE [0, 1] ?_)) fun s x h hr2 Kn2 hKn2 => ?_
  ·(cbv; repeat (refine ⟨an_, ?_⟩; cbv))
  unfold decide_Holds_l22 at h;obtain ⟨v1, rfl⟩ := ez s;cbv;refine brkG h ?_ ?_ <;> intro h
  ·cbv;refine .g h (fun (v2 : Bool) => [.d (.sl (W eA10Range r_.Zones)), .clo (.func 72) [] [.ptr 1 0]] ++ rp 3 .top ++ [oi v1, .top, oi (io.len (W eA10Range r_.Zones)), oi v1] ++ rp 7 .top ++ [ob v2, .top, .top]) (fun v2 => [.cells [oi r_.Kind, .d (.val (.string r_.Name)), .d (.sl (W eA10Range r_.Zones)), oi r_.N, oi r_.R.Num, oi r_.R.Den, oi r_.S.Num, oi r_.S.Den] 36, .cells (ca f) 38]) (fun y hm Kn3 hKn3 => ?_) fun t h => ?_
   ·have h := hm;clear hm;cbv;refine .g h (fun _ => rfl) fun x3 h => ?_;cbv;refine .inl (hP ▸ c72_ok) ?_;cbv;refine .ga h (fun (_ : Unit) => rp 26 .top) (fun _ => [.cells [oi r_.Kind, .d (.val (.string r_.Name)), .d (.sl (W eA10Range r_.Zones)), oi r_.N, oi r_.R.Num, oi r_.R.Den, oi r_.S.Num, oi r_.S.Den] 36, .cells (ca f) 38]) (fun y hm hr4 Kn4 hKn4 => ?_) fun t h => ?_
    ·have h := hm;clear hm;cbv;refine .g h (fun (v4 : Int) => [.top, .top, .ptr 2 0] ++ rp 3 .top ++ [.agg (ca f), oi v4] ++ rp 18 .top) (fun v4 => [.cells [oi r_.Kind, .d (.val (.string r_.Name)), .d (.sl (W eA10Range r_.Zones)), oi r_.N, oi r_.R.Num, oi r_.R.Den, oi r_.S.Num, oi r_.S.Den] 36, .cells (ca f) 38, .cells (cR x3) 57]) (.nz (.mtE [0, 1, 2] ?_)) fun s x h hr5 Kn5 hKn5 => ?_
     ·(cbv; repeat (refine ⟨an_, ?_⟩; cbv))
     unfold decide_Holds_l26 at h;obtain ⟨v4, rfl⟩ := ez s;cbv;refine brkG h ?_ ?_ <;> intro h
     ·cbv;refine .g h (fun (n5 : Int) => [.top, .top, .ptr 2 0, .top, oi v4, oi n5, .agg (ca f), oi v4] ++ rp 18 .top) (fun n5 => [.cells [oi r_.Kind, .d (.val (.string r_.Name)), .d (.sl (W eA10Range r_.Zones)), oi r_.N, oi r_.R.Num, oi r_.R.Den, oi r_.S.Num, oi r_.S.Den] 36, .cells (ca f) 38, .cells (cR x3) 57]) (fun y hm Kn6 hKn6 => ?_) fun t h => ?_
      ·have h := hm;clear hm;cbv
       refine .c10 h ?_ ?_ ?_ ?_ ?_ ?_ ?_ ?_ ?_ ?_ <;> (
        intro hni6 h;cbv;obtain rfl := oj h;refine hKn6 _ _ _ rfl (.nz (.mtE [0, 1, 2] ?_));(cbv; repeat (refine ⟨an_, ?_⟩; cbv))
        )
      obtain ⟨n5, rfl⟩ := ez t;cbv;refine .g h (fun (v7 : Bool) => [.top, .top, .ptr 2 0] ++ rp 3 .top ++ [.agg (ca f), oi v4] ++ rp 16 .top ++ [ob v7, .top]) (fun v7 => [.cells [oi r_.Kind, .d (.val (.string r_.Name)), .d (.sl (W eA10Range r_.Zones)), oi r_.N, oi r_.R.Num, oi r_.R.Den, oi r_.S.Num, oi r_.S.Den] 36, .cells (ca f) 38, .cells (cR x3) 57]) (fun y hm Kn6 hKn6 => ?_) fun t h => ?_
      ·have h := hm;clear hm;cbv
       refine .c10 h ?_ ?_ ?_ ?_ ?_ ?_ ?_ ?_ ?_ ?_ <;> (
        intro hnix8 h;cbv;refine brkG h ?_ ?_ <;> intro h
        ·cbv;obtain rfl := oj h;refine hKn6 _ _ _ rfl (.nz (.mtE [0, 1, 2] ?_));(cbv; repeat (refine ⟨an_, ?_⟩; cbv))
        ·cbv;refine .at _ hnix8 (by decide) ?_;cbv;obtain rfl := oj h;refine hKn6 _ _ _ rfl (.nz (.mtE [0, 1, 2] ?_));(cbv; repeat (refine ⟨an_, ?_⟩; cbv))
        )
      obtain ⟨v7, rfl⟩ := ez t;cbv;refine brkG h ?_ ?_ <;> intro h
      ·cbv;obtain rfl := oj h;obtain rfl := hr5 _ rfl;obtain rfl := hr4 _ rfl;refine hKn3 _ _ _ rfl (.nz (.mtE [0, 1] ?_));(cbv; repeat (refine ⟨an_, ?_⟩; cbv))
      ·cbv;obtain rfl := oj h;refine hKn5 _ _ _ rfl (.nz (.mtE [0, 1, 2] ?_));(cbv; repeat (refine ⟨an_, ?_⟩; cbv))
     ·cbv;obtain rfl := oj h;obtain rfl := hr5 _ rfl;refine hKn4 _ _ _ rfl (.nz (.mtE [0, 1] ?_));(cbv; repeat (refine ⟨an_, ?_⟩; cbv))
    cbv;obtain rfl := oj h;refine hKn3 _ _ _ rfl (.nz (.mtE [0, 1] ?_));(cbv; repeat (refine ⟨an_, ?_⟩; cbv))
   obtain ⟨v2, rfl⟩ := ez t;cbv;refine brkG h ?_ ?_ <;> intro h
   ·cbv;obtain rfl := oj h;obtain rfl := hr2 _ rfl;obtain rfl := hr1 _ rfl;exact hK _ _ aw_
   ·cbv;obtain rfl := oj h;refine hKn2 _ _ _ rfl (.nz (.mtE [0, 1] ?_));(cbv; repeat (refine ⟨an_, ?_⟩; cbv))
  ·cbv;obtain rfl := oj h;obtain rfl := hr2 _ rfl;refine hKn1 _ _ _ rfl (.nz (.mtE [0, 1] ?_));(cbv; repeat (refine ⟨an_, ?_⟩; cbv))
 cbv;obtain rfl := oj h;exact hK _ _ aw_
end Go.SX.Td
