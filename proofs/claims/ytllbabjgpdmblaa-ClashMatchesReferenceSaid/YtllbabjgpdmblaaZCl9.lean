/- Parts of the proof. -/
import Derived.Test.YtllbabjgpdmblaaZClT
import Derived.Test.YtllbabjgpdmblaaZCl11
import Derived.Test.YtllbabjgpdmblaaZCl12
import Derived.Test.YtllbabjgpdmblaaZCl13
set_option linter.unusedSimpArgs false
set_option linter.unusedVariables false
namespace Go.SX.Cl
open Go Go.SX Go.Proofs
set_option maxRecDepth 100000
def c9r0 : List GOp := [
 gv 0 (.mv (.const (.bool false)))]
def c9r1 : List GOp := [
 gv 7 (.call 22 []),
 gv 8 (.bslice 54 20 1 (.agg #[oz, oz, oz, oz, oz, oz, oz, oz, oz, oz, oz, oz, oz, oz, oz, oz, oz, oz, oz, oz]) [(0, (.tmp 7))]),
 gv 1 (.mv (.tmp 8))]
def c9r2 : List GOp := [
 gv 9 (.build (.agg #[oz, oz]) [((1, 1), (.const (.int .i64 1)))]),
 gv 2 (.alloc 39 (.agg #[oz, oz])),
 ⟨none, .store 2 (.tmp 2) (.tmp 9), none⟩]
def c9r3 : List GOp := [
 gv 10 (.mv (.tmp 1)),
 gv 11 (.build (.agg #[oz, (.string ⟨#[]⟩), (.slice none 0 0), oz, oz, oz, oz, oz]) [((0, 1), (.const (.int .i64 1))), ((1, 1), (.const (.string ⟨#[97]⟩))), ((2, 1), (.tmp 10))]),
 gv 12 (.call 23 [(.const (.int .i64 2)), (.const (.int .i64 1)), (.const (.int .i64 1))]),
 gv 13 (.build (.agg #[oz, (.string ⟨#[]⟩), (.slice none 0 0), oz, oz, oz, oz, oz]) [((0, 1), (.const (.int .i64 1))), ((1, 1), (.const (.string ⟨#[98]⟩))), ((2, 1), (.tmp 12))]),
 gv 14 (.call 23 [(.const (.int .i64 1)), (.const (.int .i64 0)), (.const (.int .i64 15))]),
 gv 15 (.build (.agg #[oz, (.string ⟨#[]⟩), (.slice none 0 0), oz, oz, oz, oz, oz]) [((0, 1), (.const (.int .i64 2))), ((1, 1), (.const (.string ⟨#[99]⟩))), ((2, 1), (.tmp 14))]),
 gv 16 (.mv (.tmp 1)),
 gv 17 (.load 2 true (.tmp 2)),
 gv 18 (.load 2 true (.tmp 2)),
 gv 19 (.build (.agg #[oz, (.string ⟨#[]⟩), (.slice none 0 0), oz, oz, oz, oz, oz]) [((0, 1), (.const (.int .i64 3))), ((1, 1), (.const (.string ⟨#[112]⟩))), ((2, 1), (.tmp 16)), ((3, 1), (.const (.int .i64 5))), ((4, 2), (.tmp 17)), ((6, 2), (.tmp 18))]),
 gv 20 (.build (.agg #[oz, (.string ⟨#[]⟩), (.slice none 0 0), oz, oz, oz, oz, oz]) [((0, 1), (.const (.int .i64 2))), ((1, 1), (.const (.string ⟨#[100]⟩)))]),
 gv 21 (.bslice 41 8 5 (.agg #[oz, (.string ⟨#[]⟩), (.slice none 0 0), oz, oz, oz, oz, oz]) [(0, (.tmp 11)), (1, (.tmp 13)), (2, (.tmp 15)), (3, (.tmp 19)), (4, (.tmp 20))]),
 gv 22 (.build (.agg #[(.slice none 0 0)]) [((0, 1), (.tmp 21))]),
 gv 3 (.alloc 24 (.agg #[(.slice none 0 0)])),
 ⟨none, .store 1 (.tmp 3) (.tmp 22), none⟩]
def c9r4 : List GOp := [
 gv 4 (.alloc 32 (.agg #[oz, oz, oz, oz, oz, oz, oz, oz, oz, oz])),
 gv 5 (.alloc 32 (.agg #[oz, oz, oz, oz, oz, oz, oz, oz, oz, oz]))]
def c9r5 : List GOp := [
 gv 23 (.idxP 10 1 (.tmp 4) (.const (.int .i64 8))),
 ⟨none, .store 1 (.tmp 23) (.const (.int .i64 1)), none⟩]
def c9r6 : List GOp := [
 gv 24 (.idxP 10 1 (.tmp 5) (.const (.int .i64 8))),
 ⟨none, .store 1 (.tmp 24) (.const (.int .i64 1)), none⟩]
def c9r7 : List GOp := [
 gv 25 (.idxP 10 1 (.tmp 5) (.const (.int .i64 2))),
 ⟨none, .store 1 (.tmp 25) (.const (.int .i64 1)), none⟩]
def c9r8 : List GOp := [
 gv 26 (.build (.agg #[oz, oz, oz, oz, oz, oz, oz, oz, oz, oz, oz, oz, oz]) [((0, 1), (.const (.int .i64 1))), ((1, 1), (.const (.int .i64 4))), ((2, 1), (.const (.int .i64 (-1))))]),
 gv 27 (.load 10 true (.tmp 5)),
 gv 28 (.build (.agg #[oz, oz, oz, oz, oz, oz, oz, oz, oz, oz, oz, oz, oz]) [((0, 1), (.const (.int .i64 2))), ((1, 1), (.const (.int .i64 1))), ((2, 1), (.const (.int .i64 (-1)))), ((3, 10), (.tmp 27))]),
 gv 29 (.load 10 true (.tmp 4)),
 gv 30 (.build (.agg #[oz, oz, oz, oz, oz, oz, oz, oz, oz, oz, oz, oz, oz]) [((0, 1), (.const (.int .i64 3))), ((1, 1), (.const (.int .i64 0))), ((2, 1), (.const (.int .i64 2))), ((3, 10), (.tmp 29))]),
 gv 31 (.load 10 true (.tmp 5)),
 gv 32 (.build (.agg #[oz, oz, oz, oz, oz, oz, oz, oz, oz, oz, oz, oz, oz]) [((0, 1), (.const (.int .i64 3))), ((1, 1), (.const (.int .i64 1))), ((2, 1), (.const (.int .i64 2))), ((3, 10), (.tmp 31))]),
 gv 33 (.bslice 35 13 4 (.agg #[oz, oz, oz, oz, oz, oz, oz, oz, oz, oz, oz, oz, oz]) [(0, (.tmp 26)), (1, (.tmp 28)), (2, (.tmp 30)), (3, (.tmp 32))]),
 gv 6 (.mv (.tmp 33))]
def c9r9 : List GOp := [
 gv 34 (.load 1 true (.tmp 3)),
 gv 35 (.call 12 [(.tmp 34)]),
 gv 36 (.mv (.tmp 6)),
 gv 37 (.call 11 [(.tmp 35), (.tmp 36)]),
 gv 38 (.mv (.tmp 37)),
 gw 39 38 true (.build (.agg #[(.slice none 0 0)]) []),
 gw 40 38 true (.call 12 [(.tmp 39)]),
 gw 41 38 true (.len false (.tmp 40)),
 gw 42 38 true (.bin .eql (.tmp 41) (.const (.int .i64 0))),
 gv 43 (.pick (.tmp 38) (.tmp 42) (.const (.bool false))),
 gv 0 (.mv (.tmp 43))]
def c9 : EFn := ⟨44, .seq (.reg c9r0) (.seq (.reg c9r1) (.join (.reg c9r2) (.seq (.par false false false 14 c9r3) (.seq (.reg c9r4) (.seq (.reg c9r5) (.seq (.reg c9r6) (.seq (.reg c9r7) (.seq (.reg c9r8) (.seq (.reg c9r9) (.ret)))))))))), [.tmp 0]⟩
theorem c9_ok : compF Try.prog 9 = some c9.er := by kernel_rfl
noncomputable def law16_head_g : Option (Bool) :=
 Option.bind (resolve_Limits_g) fun v1 =>
 Option.bind (some [v1]) fun all2 =>
 Option.bind (
 some ()
 ) fun _ =>
 Option.bind (law16_zone_g 2 1 1) fun v3 =>
 Option.bind (law16_zone_g 1 0 15) fun v4 =>
 Option.bind (some [(Rule.mk 1 (⟨#[97]⟩) all2 0 (Ratio.mk 0 0) (Ratio.mk 0 0)), (Rule.mk 1 (⟨#[98]⟩) v3 0 (Ratio.mk 0 0) (Ratio.mk 0 0)), (Rule.mk 2 (⟨#[99]⟩) v4 0 (Ratio.mk 0 0) (Ratio.mk 0 0)), (Rule.mk 3 (⟨#[112]⟩) all2 5 (Ratio.mk 0 1) (Ratio.mk 0 1)), (Rule.mk 2 (⟨#[100]⟩) [] 0 (Ratio.mk 0 0) (Ratio.mk 0 0))]) fun l5 =>
 Option.bind (some [(Finding.mk 1 4 (-1) (A10.mk 0 0 0 0 0 0 0 0 0 0)), (Finding.mk 2 1 (-1) (A10.mk 0 0 1 0 0 0 0 0 1 0)), (Finding.mk 3 0 2 (A10.mk 0 0 0 0 0 0 0 0 1 0)), (Finding.mk 3 1 2 (A10.mk 0 0 1 0 0 0 0 0 1 0))]) fun want6 =>
 Option.bind (clash_Findings_g (Policy.mk l5)) fun v7 =>
 Option.bind (ref16_Same_g v7 want6) fun v8 =>
 bif v8 then (
 Option.bind (clash_Findings_g (Policy.mk [])) fun v9 =>
 some (io.eq (io.len (W eFinding v9)) 0)
 ) else (
 some false
 )
set_option maxHeartbeats 4000000 in
theorem law16_head_R {P : Program} (hP : P = Try.prog) (r : Bool) (h : law16_head_g = some r) : Fn1 P 9 [] (vB r) := by
 refine .walkE (hP ▸ c9_ok) fun K hK => ?_
 unfold law16_head_g at h
 cbv
 refine .g h (fun v hv => resolve_Limits_R hP v hv) aw_ rfl (fun _ => rfl) fun v1 h => ?_
 cbv
 refine .g (e := eA10Range) h (W_cons aw_ (W_nil' _)) fun all2 h => ?_
 cbv
 refine .g h (fun (_ : Unit) => [.top, .d (.sl (W eA10Range all2)), .ptr 0 0] ++ rp 41 .top) (fun (_ : Unit) => [.cells [oi 0, oi 1] 39]) (fun y hm Kn1 hKn1 => ?_) fun t h => ?_
 · have h := hm
   clear hm
   cbv
   obtain rfl := oj h
   refine hKn1 _ _ _ rfl (.frz [.hd 0] (.nz (.mtE [1] ?_)))
   (cbv; repeat (refine ⟨an_, ?_⟩; cbv))
 cbv
 refine .g h (fun v hv => law16_zone_R hP _ _ _ v hv) aw_ rfl (fun _ => rfl) fun v3 h => ?_
 cbv
 refine .g h (fun v hv => law16_zone_R hP _ _ _ v hv) aw_ rfl (fun _ => rfl) fun v4 h => ?_
 cbv
 refine .g (e := eRule) h (W_cons aw_ (W_cons aw_ (W_cons aw_ (W_cons aw_ (W_cons aw_ (W_nil' _)))))) fun l5 h => ?_
 cbv
 refine .lit 8 rfl (by decide) ?_
 cbv
 refine .lit 8 rfl (by decide) ?_
 cbv
 refine .lit 2 rfl (by decide) ?_
 cbv
 refine .g (e := eFinding) h (W_cons aw_ (W_cons aw_ (W_cons aw_ (W_cons aw_ (W_nil' _))))) fun want6 h => ?_
 cbv
 refine .g h (fun v hv => clash_Findings_R hP _ v hv) aw_ rfl (fun _ => rfl) fun v7 h => ?_
 cbv
 refine .gl [] h (fun v hv => ref16_Same_R hP _ _ v hv) aw_ rfl fun v8 h => ?_
 cbv
 refine brkG h ?_ ?_ <;> intro h
 · cbv
   refine .g h (fun v hv => clash_Findings_R hP _ v hv) aw_ rfl (fun _ => rfl) fun v9 h => ?_
   cbv
   obtain rfl := oj h
   exact hK _ _ aw_
 · cbv
   obtain rfl := oj h
   exact hK _ _ aw_
end Go.SX.Cl
