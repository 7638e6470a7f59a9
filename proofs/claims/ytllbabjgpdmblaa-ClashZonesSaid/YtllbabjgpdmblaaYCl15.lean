/- Parts of the proof. -/
import Derived.Test.YtllbabjgpdmblaaYClT
namespace Go.SX.Cl
open Go Go.SX Go.Proofs
set_option maxRecDepth 100000
def c34r0 : List GOp := [
 gv 4 (.mv (.const (.bool false)))]
def c34r1 : List GOp := [
 gv 5 (.mv (.tmp 0)),
 gv 6 (.mv (.tmp 1)),
 gv 7 (.call 61 [(.tmp 5), (.tmp 6)]),
 gv 8 (.bin .geq (.tmp 7) (.const (.int .i64 0))),
 gv 4 (.mv (.tmp 8))]
def c34 : EFn := ⟨9, .seq (.reg c34r0) (.seq (.reg c34r1) (.ret)), [.tmp 4]⟩
theorem c34_ok : compF Try.prog 34 = some c34.er := by kernel_rfl
def c61r0 : List GOp := [
 gv 4 (.mv (.const (.int .i64 0)))]
def c61r1 : List GOp := [
 gv 6 (.mv (.tmp 0)),
 gv 7 (.len false (.tmp 6)),
 gv 8 (.mv (.const (.int .i64 0)))]
def c61r2 : List GOp := [
 gv 9 (.bin .lss (.tmp 8) (.tmp 7))]
def c61r3 : List GOp := [
 gv 10 (.mv (.tmp 8)),
 gv 5 (.mv (.tmp 10))]
def c61r4 : List GOp := [
 gv 11 (.mv (.tmp 1)),
 gv 12 (.mv (.tmp 0)),
 gv 13 (.mv (.tmp 5)),
 gv 14 (.idxA 20 (.tmp 12) (.tmp 13)),
 gv 15 (.load 20 true (.tmp 14)),
 gv 16 (.callv (.tmp 11) [(.tmp 15)])]
def c61r5 : List GOp := [
 gv 17 (.mv (.tmp 5)),
 gv 4 (.mv (.tmp 17))]
def c61r6 : List GOp := [
 gv 18 (.bin .add (.tmp 8) (.const (.int .i64 1))),
 gv 8 (.mv (.tmp 18))]
def c61l7 : DE := .seq (.reg c61r2) (.seq (.cond (.tmp 9) (.skip) (.exit 0)) (.seq (.block 1 (.seq (.reg c61r3) (.join (.reg c61r4) (.cond (.tmp 16) (.seq (.reg c61r5) (.ret)) (.skip))))) (.reg c61r6)))
def c61r8 : List GOp := [
 gv 4 (.mv (.const (.int .i64 (-1))))]
def c61 : EFn := ⟨19, .seq (.reg c61r0) (.join (.seq (.reg c61r1) (.block 0 (.loop c61l7))) (.seq (.reg c61r8) (.ret))), [.tmp 4]⟩
theorem c61_ok : compF Try.prog 61 = some c61.er := by kernel_rfl
def c35r0 : List GOp := [
 gv 2 (.box 54 (.tmp 0)),
 gv 3 (.mv (.const (.bool false)))]
def c35r1 : List GOp := [
 gv 6 (.load 10 true (.tmp 1)),
 gv 7 (.mv (.const (.int .i64 0)))]
def c35r2 : List GOp := [
 gv 8 (.bin .lss (.tmp 7) (.const (.int .i64 10)))]
def c35r3 : List GOp := [
 gv 9 (.mv (.tmp 7)),
 gv 10 (.idxV 10 1 false (.tmp 6) (.tmp 7)),
 gv 4 (.mv (.tmp 9)),
 gv 5 (.mv (.tmp 10))]
def c35r4 : List GOp := [
 gv 11 (.mv (.tmp 5)),
 gv 12 (.mv (.tmp 4)),
 gv 13 (.idxP 10 2 (.tmp 2) (.tmp 12)),
 gv 14 (.fadd 0 (.tmp 13)),
 gv 15 (.load 1 false (.tmp 14)),
 gv 16 (.bin .lss (.tmp 11) (.tmp 15)),
 gv 17 (.mv (.tmp 16)),
 gw 18 17 false (.mv (.tmp 5)),
 gw 19 17 false (.mv (.tmp 4)),
 gw 20 17 false (.idxP 10 2 (.tmp 2) (.tmp 19)),
 gw 21 17 false (.fadd 1 (.tmp 20)),
 gw 22 17 false (.load 1 false (.tmp 21)),
 gw 23 17 false (.bin .gtr (.tmp 18) (.tmp 22)),
 gv 24 (.pick (.tmp 17) (.const (.bool true)) (.tmp 23))]
def c35r5 : List GOp := [
 gv 3 (.mv (.const (.bool false)))]
def c35r6 : List GOp := [
 gv 25 (.bin .add (.tmp 7) (.const (.int .i64 1))),
 gv 7 (.mv (.tmp 25))]
def c35l7 : DE := .seq (.reg c35r2) (.seq (.cond (.tmp 8) (.skip) (.exit 0)) (.seq (.block 1 (.join (.reg c35r3) (.join (.reg c35r4) (.cond (.tmp 24) (.seq (.reg c35r5) (.ret)) (.skip))))) (.reg c35r6)))
def c35r8 : List GOp := [
 gv 3 (.mv (.const (.bool true)))]
def c35 : EFn := ⟨26, .seq (.reg c35r0) (.join (.seq (.reg c35r1) (.block 0 (.loop c35l7))) (.seq (.reg c35r8) (.ret))), [.tmp 3]⟩
theorem c35_ok : compF Try.prog 35 = some c35.er := by kernel_rfl
def c15r0 : List GOp := [
 gv 2 (.box 41 (.tmp 0)),
 gv 3 (.box 32 (.tmp 1)),
 gv 4 (.mv (.const (.bool false)))]
def c15r1 : List GOp := [
 gv 5 (.fadd 2 (.tmp 2)),
 gv 6 (.load 1 false (.tmp 5)),
 gv 7 (.mkfn (.func 35) [] [(.tmp 3)]),
 gv 8 (.call 34 [(.tmp 6), (.tmp 7)]),
 gv 4 (.mv (.tmp 8))]
def c15 : EFn := ⟨9, .seq (.reg c15r0) (.seq (.reg c15r1) (.ret)), [.tmp 4]⟩
theorem c15_ok : compF Try.prog 15 = some c15.er := by kernel_rfl
noncomputable def decide_Holds_l26 (f : (A10 Int)) (x3 : (A10 Range)) : Int → Option ((Int) ⊕ ((Unit) ⊕ (Bool)))
 | v4 =>
 bif (io.lt v4 10) then (
 Option.bind (
 Option.bind (pixG 10 v4) fun i6 =>
 some (f.get i6)
 ) fun n5 =>
 Option.bind (
 Option.bind (pixG 10 v4) fun ix8 =>
 bif (io.lt n5 (x3.get ix8).Lo) then (
 some true
 ) else (
 some (io.lt (x3.get ix8).Hi n5)
 )
 ) fun v7 =>
 bif v7 then (
 some (.inr (.inr false))
 ) else (
 some (.inl (io.ar .add .i64 v4 1))
 )
 ) else (
 some (.inr (.inl ()))
 )
noncomputable def decide_Holds_l22 (r_ : Rule) (f : (A10 Int)) : Int → Option ((Int) ⊕ ((Unit) ⊕ (Bool)))
 | v1 =>
 bif (io.lt v1 (io.len (W eA10Range r_.Zones))) then (
 Option.bind (
 Option.bind (idxG r_.Zones v1) fun x3 =>
 orR (
 whileG (decide_Holds_l26 f x3) 0
 ) fun _ =>
 some true
 ) fun v2 =>
 bif v2 then (
 some (.inr (.inr (io.le 0 v1)))
 ) else (
 some (.inl (io.ar .add .i64 v1 1))
 )
 ) else (
 some (.inr (.inl ()))
 )
noncomputable def decide_Holds_g (r_ : Rule) (f : (A10 Int)) : Option (Bool) :=
 orR (
 whileG (decide_Holds_l22 r_ f) 0
 ) fun _ =>
 some (io.le 0 (-1))
set_option maxHeartbeats 4000000 in
theorem decide_Holds_R {P : Program} (hP : P = Try.prog) (r_ : Rule) (f : (A10 Int)) (r : Bool) (h : decide_Holds_g r_ f = some r) : Fn1 P 15 [vRule r_, vA10Ii64 f] (vB r) := by
 refine .walkE (hP ▸ c15_ok) fun K hK => ?_
 unfold decide_Holds_g at h
 cbv
 refine .inl (hP ▸ c34_ok) ?_
 cbv
 refine .inl (hP ▸ c61_ok) ?_
 cbv
 refine .ga h (fun (_ : Unit) => rp 19 .top) (fun (_ : Unit) => [.cells [oi r_.Kind, .d (.val (.string r_.Name)), .d (.sl (W eA10Range r_.Zones)), oi r_.N, oi r_.R.Num, oi r_.R.Den, oi r_.S.Num, oi r_.S.Den] 41, .cells [oi f.a0, oi f.a1, oi f.a2, oi f.a3, oi f.a4, oi f.a5, oi f.a6, oi f.a7, oi f.a8, oi f.a9] 32]) (fun y hm hr1 Kn1 hKn1 => ?_) fun t h => ?_
 · have h := hm
   clear hm
   cbv
   refine .g h (fun (v1 : Int) => [.d (.sl (W eA10Range r_.Zones)), .clo (.func 35) [] [.ptr 1 0]] ++ rp 5 .top ++ [oi (io.len (W eA10Range r_.Zones)), oi v1] ++ rp 10 .top) (fun (v1 : Int) => [.cells [oi r_.Kind, .d (.val (.string r_.Name)), .d (.sl (W eA10Range r_.Zones)), oi r_.N, oi r_.R.Num, oi r_.R.Den, oi r_.S.Num, oi r_.S.Den] 41, .cells [oi f.a0, oi f.a1, oi f.a2, oi f.a3, oi f.a4, oi f.a5, oi f.a6, oi f.a7, oi f.a8, oi f.a9] 32]) (.nz (.mtE [0, 1] ?_)) fun s x h hr2 Kn2 hKn2 => ?_
   · (cbv; repeat (refine ⟨an_, ?_⟩; cbv))
   unfold decide_Holds_l22 at h
   obtain ⟨v1, rfl⟩ : ∃ z, z = s := ⟨_, rfl⟩
   cbv
   refine brkG h (fun h => ?_) (fun h => ?_)
   · cbv
     refine .g h (fun (v2 : Bool) => [.d (.sl (W eA10Range r_.Zones)), .clo (.func 35) [] [.ptr 1 0]] ++ rp 3 .top ++ [oi v1, .top, oi (io.len (W eA10Range r_.Zones)), oi v1] ++ rp 7 .top ++ [ob v2, .top, .top]) (fun (v2 : Bool) => [.cells [oi r_.Kind, .d (.val (.string r_.Name)), .d (.sl (W eA10Range r_.Zones)), oi r_.N, oi r_.R.Num, oi r_.R.Den, oi r_.S.Num, oi r_.S.Den] 41, .cells [oi f.a0, oi f.a1, oi f.a2, oi f.a3, oi f.a4, oi f.a5, oi f.a6, oi f.a7, oi f.a8, oi f.a9] 32]) (fun y hm Kn3 hKn3 => ?_) fun t h => ?_
     · have h := hm
       clear hm
       cbv
       refine .g h (fun _ => rfl) fun x3 h => ?_
       cbv
       refine .inl (hP ▸ c35_ok) ?_
       cbv
       refine .ga h (fun (_ : Unit) => rp 26 .top) (fun (_ : Unit) => [.cells [oi r_.Kind, .d (.val (.string r_.Name)), .d (.sl (W eA10Range r_.Zones)), oi r_.N, oi r_.R.Num, oi r_.R.Den, oi r_.S.Num, oi r_.S.Den] 41, .cells [oi f.a0, oi f.a1, oi f.a2, oi f.a3, oi f.a4, oi f.a5, oi f.a6, oi f.a7, oi f.a8, oi f.a9] 32]) (fun y hm hr4 Kn4 hKn4 => ?_) fun t h => ?_
       · have h := hm
         clear hm
         cbv
         refine .g h (fun (v4 : Int) => [.top, .top, .ptr 2 0] ++ rp 3 .top ++ [.agg [oi f.a0, oi f.a1, oi f.a2, oi f.a3, oi f.a4, oi f.a5, oi f.a6, oi f.a7, oi f.a8, oi f.a9], oi v4] ++ rp 18 .top) (fun (v4 : Int) => [.cells [oi r_.Kind, .d (.val (.string r_.Name)), .d (.sl (W eA10Range r_.Zones)), oi r_.N, oi r_.R.Num, oi r_.R.Den, oi r_.S.Num, oi r_.S.Den] 41, .cells [oi f.a0, oi f.a1, oi f.a2, oi f.a3, oi f.a4, oi f.a5, oi f.a6, oi f.a7, oi f.a8, oi f.a9] 32, .cells [oi x3.a0.Lo, oi x3.a0.Hi, oi x3.a1.Lo, oi x3.a1.Hi, oi x3.a2.Lo, oi x3.a2.Hi, oi x3.a3.Lo, oi x3.a3.Hi, oi x3.a4.Lo, oi x3.a4.Hi, oi x3.a5.Lo, oi x3.a5.Hi, oi x3.a6.Lo, oi x3.a6.Hi, oi x3.a7.Lo, oi x3.a7.Hi, oi x3.a8.Lo, oi x3.a8.Hi, oi x3.a9.Lo, oi x3.a9.Hi] 54]) (.nz (.mtE [0, 1, 2] ?_)) fun s x h hr5 Kn5 hKn5 => ?_
         · (cbv; repeat (refine ⟨an_, ?_⟩; cbv))
         unfold decide_Holds_l26 at h
         obtain ⟨v4, rfl⟩ : ∃ z, z = s := ⟨_, rfl⟩
         cbv
         refine brkG h (fun h => ?_) (fun h => ?_)
         · cbv
           refine .g h (fun (n5 : Int) => [.top, .top, .ptr 2 0, .top, oi v4, oi n5, .agg [oi f.a0, oi f.a1, oi f.a2, oi f.a3, oi f.a4, oi f.a5, oi f.a6, oi f.a7, oi f.a8, oi f.a9], oi v4] ++ rp 18 .top) (fun (n5 : Int) => [.cells [oi r_.Kind, .d (.val (.string r_.Name)), .d (.sl (W eA10Range r_.Zones)), oi r_.N, oi r_.R.Num, oi r_.R.Den, oi r_.S.Num, oi r_.S.Den] 41, .cells [oi f.a0, oi f.a1, oi f.a2, oi f.a3, oi f.a4, oi f.a5, oi f.a6, oi f.a7, oi f.a8, oi f.a9] 32, .cells [oi x3.a0.Lo, oi x3.a0.Hi, oi x3.a1.Lo, oi x3.a1.Hi, oi x3.a2.Lo, oi x3.a2.Hi, oi x3.a3.Lo, oi x3.a3.Hi, oi x3.a4.Lo, oi x3.a4.Hi, oi x3.a5.Lo, oi x3.a5.Hi, oi x3.a6.Lo, oi x3.a6.Hi, oi x3.a7.Lo, oi x3.a7.Hi, oi x3.a8.Lo, oi x3.a8.Hi, oi x3.a9.Lo, oi x3.a9.Hi] 54]) (fun y hm Kn6 hKn6 => ?_) fun t h => ?_
           · have h := hm
             clear hm
             cbv
             refine .c10 h ?_ ?_ ?_ ?_ ?_ ?_ ?_ ?_ ?_ ?_ <;> (
               intro hni6 h
               cbv
               obtain rfl := oj h
               refine hKn6 _ _ _ rfl (.nz (.mtE [0, 1, 2] ?_))
               (cbv; repeat (refine ⟨an_, ?_⟩; cbv))
               )
           obtain ⟨n5, rfl⟩ : ∃ z, z = t := ⟨_, rfl⟩
           cbv
           refine .g h (fun (v7 : Bool) => [.top, .top, .ptr 2 0] ++ rp 3 .top ++ [.agg [oi f.a0, oi f.a1, oi f.a2, oi f.a3, oi f.a4, oi f.a5, oi f.a6, oi f.a7, oi f.a8, oi f.a9], oi v4] ++ rp 16 .top ++ [ob v7, .top]) (fun (v7 : Bool) => [.cells [oi r_.Kind, .d (.val (.string r_.Name)), .d (.sl (W eA10Range r_.Zones)), oi r_.N, oi r_.R.Num, oi r_.R.Den, oi r_.S.Num, oi r_.S.Den] 41, .cells [oi f.a0, oi f.a1, oi f.a2, oi f.a3, oi f.a4, oi f.a5, oi f.a6, oi f.a7, oi f.a8, oi f.a9] 32, .cells [oi x3.a0.Lo, oi x3.a0.Hi, oi x3.a1.Lo, oi x3.a1.Hi, oi x3.a2.Lo, oi x3.a2.Hi, oi x3.a3.Lo, oi x3.a3.Hi, oi x3.a4.Lo, oi x3.a4.Hi, oi x3.a5.Lo, oi x3.a5.Hi, oi x3.a6.Lo, oi x3.a6.Hi, oi x3.a7.Lo, oi x3.a7.Hi, oi x3.a8.Lo, oi x3.a8.Hi, oi x3.a9.Lo, oi x3.a9.Hi] 54]) (fun y hm Kn6 hKn6 => ?_) fun t h => ?_
           · have h := hm
             clear hm
             cbv
             refine .c10 h ?_ ?_ ?_ ?_ ?_ ?_ ?_ ?_ ?_ ?_ <;> (
               intro hnix8 h
               cbv
               refine brkG h (fun h => ?_) (fun h => ?_)
               · cbv
                 obtain rfl := oj h
                 refine hKn6 _ _ _ rfl (.nz (.mtE [0, 1, 2] ?_))
                 (cbv; repeat (refine ⟨an_, ?_⟩; cbv))
               · cbv
                 refine .at _ hnix8 (by decide) ?_
                 cbv
                 obtain rfl := oj h
                 refine hKn6 _ _ _ rfl (.nz (.mtE [0, 1, 2] ?_))
                 (cbv; repeat (refine ⟨an_, ?_⟩; cbv))
               )
           obtain ⟨v7, rfl⟩ : ∃ z, z = t := ⟨_, rfl⟩
           cbv
           refine brkG h (fun h => ?_) (fun h => ?_)
           · cbv
             obtain rfl := oj h
             obtain rfl := hr5 _ rfl
             obtain rfl := hr4 _ rfl
             refine hKn3 _ _ _ rfl (.nz (.mtE [0, 1] ?_))
             (cbv; repeat (refine ⟨an_, ?_⟩; cbv))
           · cbv
             obtain rfl := oj h
             refine hKn5 _ _ _ rfl (.nz (.mtE [0, 1, 2] ?_))
             (cbv; repeat (refine ⟨an_, ?_⟩; cbv))
         · cbv
           obtain rfl := oj h
           obtain rfl := hr5 _ rfl
           refine hKn4 _ _ _ rfl (.nz (.mtE [0, 1] ?_))
           (cbv; repeat (refine ⟨an_, ?_⟩; cbv))
       cbv
       obtain rfl := oj h
       refine hKn3 _ _ _ rfl (.nz (.mtE [0, 1] ?_))
       (cbv; repeat (refine ⟨an_, ?_⟩; cbv))
     obtain ⟨v2, rfl⟩ : ∃ z, z = t := ⟨_, rfl⟩
     cbv
     refine brkG h (fun h => ?_) (fun h => ?_)
     · cbv
       obtain rfl := oj h
       obtain rfl := hr2 _ rfl
       obtain rfl := hr1 _ rfl
       exact hK _ _ (by first | rfl | exact W_nil _ | (cbv; simp only [W_nilx]))
     · cbv
       obtain rfl := oj h
       refine hKn2 _ _ _ rfl (.nz (.mtE [0, 1] ?_))
       (cbv; repeat (refine ⟨an_, ?_⟩; cbv))
   · cbv
     obtain rfl := oj h
     obtain rfl := hr2 _ rfl
     refine hKn1 _ _ _ rfl (.nz (.mtE [0, 1] ?_))
     (cbv; repeat (refine ⟨an_, ?_⟩; cbv))
 cbv
 obtain rfl := oj h
 exact hK _ _ (by first | rfl | exact W_nil _ | (cbv; simp only [W_nilx]))
end Go.SX.Cl
namespace Go.SX.Cl
open Go Go.SX Go.Proofs
set_option maxRecDepth 100000
def c22r0 : List GOp := [
 gv 0 (.alloc 54 (.agg #[oz, oz, oz, oz, oz, oz, oz, oz, oz, oz, oz, oz, oz, oz, oz, oz, oz, oz, oz, oz]))]
def c22r1 : List GOp := [
 gv 1 (.build (.agg #[oz, oz]) [((1, 1), (.const (.int .i64 1000000000)))]),
 gv 2 (.build (.agg #[oz, oz]) [((1, 1), (.const (.int .i64 150)))]),
 gv 3 (.build (.agg #[oz, oz]) [((1, 1), (.const (.int .i64 1)))]),
 gv 4 (.build (.agg #[oz, oz]) [((1, 1), (.const (.int .i64 19)))]),
 gv 5 (.build (.agg #[oz, oz]) [((1, 1), (.const (.int .i64 7)))]),
 gv 6 (.build (.agg #[oz, oz]) [((1, 1), (.const (.int .i64 319)))]),
 gv 7 (.build (.agg #[oz, oz]) [((1, 1), (.const (.int .i64 3)))]),
 gv 8 (.build (.agg #[oz, oz]) [((1, 1), (.const (.int .i64 3)))]),
 gv 9 (.build (.agg #[oz, oz]) [((0, 1), (.const (.int .i64 1))), ((1, 1), (.const (.int .i64 12)))]),
 gv 10 (.build (.agg #[oz, oz]) [((1, 1), (.const (.int .i64 100)))]),
 gv 11 (.build (.agg #[oz, oz, oz, oz, oz, oz, oz, oz, oz, oz, oz, oz, oz, oz, oz, oz, oz, oz, oz, oz]) [((0, 2), (.tmp 1)), ((2, 2), (.tmp 2)), ((4, 2), (.tmp 3)), ((6, 2), (.tmp 4)), ((8, 2), (.tmp 5)), ((10, 2), (.tmp 6)), ((12, 2), (.tmp 7)), ((14, 2), (.tmp 8)), ((16, 2), (.tmp 9)), ((18, 2), (.tmp 10))]),
 ⟨none, .store 20 (.tmp 0) (.tmp 11), none⟩]
def c22 : EFn := ⟨12, .seq (.reg c22r0) (.seq (.reg c22r1) (.ret)), [.cell 0 20 true]⟩
theorem c22_ok : compF Try.prog 22 = some c22.er := by kernel_rfl
noncomputable def resolve_Limits_g : Option ((A10 Range)) :=
 some (A10.mk (Range.mk 0 1000000000) (Range.mk 0 150) (Range.mk 0 1) (Range.mk 0 19) (Range.mk 0 7) (Range.mk 0 319) (Range.mk 0 3) (Range.mk 0 3) (Range.mk 1 12) (Range.mk 0 100))
set_option maxHeartbeats 4000000 in
theorem resolve_Limits_R {P : Program} (hP : P = Try.prog) (r : (A10 Range)) (h : resolve_Limits_g = some r) : Fn1 P 22 [] (vA10Range r) := by
 refine .walkE (hP ▸ c22_ok) fun K hK => ?_
 unfold resolve_Limits_g at h
 cbv
 obtain rfl := oj h
 exact hK _ _ (by first | rfl | exact W_nil _ | (cbv; simp only [W_nilx]))
end Go.SX.Cl
namespace Go.SX.Cl
open Go Go.SX Go.Proofs
set_option maxRecDepth 100000
def c14r0 : List GOp := [
 gv 1 (.box 32 (.tmp 0)),
 gv 2 (.mv (.const (.bool false)))]
def c14r1 : List GOp := [
 gv 5 (.call 22 []),
 gv 3 (.alloc 54 (.agg #[oz, oz, oz, oz, oz, oz, oz, oz, oz, oz, oz, oz, oz, oz, oz, oz, oz, oz, oz, oz])),
 ⟨none, .store 20 (.tmp 3) (.tmp 5), none⟩]
def c14r2 : List GOp := [
 gv 4 (.mv (.const (.int .i64 0)))]
def c14r3 : List GOp := [
 gv 6 (.mv (.tmp 4)),
 gv 7 (.bin .lss (.tmp 6) (.const (.int .i64 10)))]
def c14r4 : List GOp := [
 gv 10 (.mv (.tmp 4)),
 gv 11 (.idxP 10 1 (.tmp 1) (.tmp 10)),
 gv 12 (.load 1 false (.tmp 11)),
 gv 13 (.mv (.tmp 4)),
 gv 14 (.idxP 10 2 (.tmp 3) (.tmp 13)),
 gv 15 (.fadd 0 (.tmp 14)),
 gv 16 (.load 1 false (.tmp 15)),
 gv 17 (.bin .lss (.tmp 12) (.tmp 16)),
 gv 18 (.mv (.tmp 17)),
 gw 19 18 false (.mv (.tmp 4)),
 gw 20 18 false (.idxP 10 1 (.tmp 1) (.tmp 19)),
 gw 21 18 false (.load 1 false (.tmp 20)),
 gw 22 18 false (.mv (.tmp 4)),
 gw 23 18 false (.idxP 10 2 (.tmp 3) (.tmp 22)),
 gw 24 18 false (.fadd 1 (.tmp 23)),
 gw 25 18 false (.load 1 false (.tmp 24)),
 gw 26 18 false (.bin .gtr (.tmp 21) (.tmp 25)),
 gv 27 (.pick (.tmp 18) (.const (.bool true)) (.tmp 26))]
def c14r5 : List GOp := [
 gv 2 (.mv (.const (.bool false)))]
def c14r6 : List GOp := [
 gv 8 (.mv (.tmp 4)),
 gv 9 (.bin .add (.tmp 8) (.const (.int .i64 1))),
 gv 4 (.mv (.tmp 9))]
def c14l7 : DE := .seq (.seq (.reg c14r3) (.cond (.tmp 7) (.skip) (.exit 0))) (.seq (.block 1 (.join (.par true true true 16 c14r4) (.cond (.tmp 27) (.seq (.reg c14r5) (.ret)) (.skip)))) (.reg c14r6))
def c14r8 : List GOp := [
 gv 2 (.mv (.const (.bool true)))]
def c14 : EFn := ⟨28, .seq (.reg c14r0) (.seq (.reg c14r1) (.join (.seq (.reg c14r2) (.block 0 (.loop c14l7))) (.seq (.reg c14r8) (.ret)))), [.tmp 2]⟩
theorem c14_ok : compF Try.prog 14 = some c14.er := by kernel_rfl
noncomputable def law16_within_l2 (f : (A10 Int)) (v1 : (A10 Range)) : Int → Option ((Int) ⊕ ((Unit) ⊕ (Bool)))
 | i2 =>
 bif (io.lt i2 10) then (
 Option.bind (
 Option.bind (pixG 10 i2) fun i4 =>
 bif (io.lt (f.get i4) (v1.get i4).Lo) then (
 some true
 ) else (
 some (io.lt (v1.get i4).Hi (f.get i4))
 )
 ) fun v3 =>
 bif v3 then (
 some (.inr (.inr false))
 ) else (
 some (.inl (io.ar .add .i64 i2 1))
 )
 ) else (
 some (.inr (.inl ()))
 )
noncomputable def law16_within_g (f : (A10 Int)) : Option (Bool) :=
 Option.bind (resolve_Limits_g) fun v1 =>
 orR (
 whileG (law16_within_l2 f v1) 0
 ) fun _ =>
 some true
set_option maxHeartbeats 4000000 in
theorem law16_within_R {P : Program} (hP : P = Try.prog) (f : (A10 Int)) (r : Bool) (h : law16_within_g f = some r) : Fn1 P 14 [vA10Ii64 f] (vB r) := by
 refine .walkE (hP ▸ c14_ok) fun K hK => ?_
 unfold law16_within_g at h
 cbv
 refine .g h (fun v hv => resolve_Limits_R hP v hv) (by first | rfl | exact W_nil _ | (cbv; simp only [W_nilx])) rfl (fun _ => rfl) fun v1 h => ?_
 cbv
 refine .ga h (fun (_ : Unit) => rp 28 .top) (fun (_ : Unit) => []) (fun y hm hr1 Kn1 hKn1 => ?_) fun t h => ?_
 · have h := hm
   clear hm
   cbv
   refine .g h (fun (i2 : Int) => [.top, .ptr 0 0, .top, .ptr 1 0, oi i2] ++ rp 23 .top) (fun (i2 : Int) => [.cells [oi f.a0, oi f.a1, oi f.a2, oi f.a3, oi f.a4, oi f.a5, oi f.a6, oi f.a7, oi f.a8, oi f.a9] 32, .cells [oi v1.a0.Lo, oi v1.a0.Hi, oi v1.a1.Lo, oi v1.a1.Hi, oi v1.a2.Lo, oi v1.a2.Hi, oi v1.a3.Lo, oi v1.a3.Hi, oi v1.a4.Lo, oi v1.a4.Hi, oi v1.a5.Lo, oi v1.a5.Hi, oi v1.a6.Lo, oi v1.a6.Hi, oi v1.a7.Lo, oi v1.a7.Hi, oi v1.a8.Lo, oi v1.a8.Hi, oi v1.a9.Lo, oi v1.a9.Hi] 54]) (.nz (.mtE [0, 1] ?_)) fun s x h hr2 Kn2 hKn2 => ?_
   · (cbv; repeat (refine ⟨an_, ?_⟩; cbv))
   unfold law16_within_l2 at h
   obtain ⟨i2, rfl⟩ : ∃ z, z = s := ⟨_, rfl⟩
   cbv
   refine brkG h (fun h => ?_) (fun h => ?_)
   · cbv
     refine .g h (fun (v3 : Bool) => [.top, .ptr 0 0, .top, .ptr 1 0, oi i2] ++ rp 22 .top ++ [ob v3]) (fun (v3 : Bool) => [.cells [oi f.a0, oi f.a1, oi f.a2, oi f.a3, oi f.a4, oi f.a5, oi f.a6, oi f.a7, oi f.a8, oi f.a9] 32, .cells [oi v1.a0.Lo, oi v1.a0.Hi, oi v1.a1.Lo, oi v1.a1.Hi, oi v1.a2.Lo, oi v1.a2.Hi, oi v1.a3.Lo, oi v1.a3.Hi, oi v1.a4.Lo, oi v1.a4.Hi, oi v1.a5.Lo, oi v1.a5.Hi, oi v1.a6.Lo, oi v1.a6.Hi, oi v1.a7.Lo, oi v1.a7.Hi, oi v1.a8.Lo, oi v1.a8.Hi, oi v1.a9.Lo, oi v1.a9.Hi] 54]) (fun y hm Kn3 hKn3 => ?_) fun t h => ?_
     · have h := hm
       clear hm
       cbv
       refine .c10 h ?_ ?_ ?_ ?_ ?_ ?_ ?_ ?_ ?_ ?_ <;> (
         intro hni4 h
         cbv
         refine .at _ hni4 (by decide) ?_
         cbv
         refine brkG h (fun h => ?_) (fun h => ?_)
         · cbv
           obtain rfl := oj h
           refine hKn3 _ _ _ rfl (.nz (.mtE [0, 1] ?_))
           (cbv; repeat (refine ⟨an_, ?_⟩; cbv))
         · cbv
           refine .at _ hni4 (by decide) ?_
           cbv
           refine .at _ hni4 (by decide) ?_
           cbv
           obtain rfl := oj h
           refine hKn3 _ _ _ rfl (.nz (.mtE [0, 1] ?_))
           (cbv; repeat (refine ⟨an_, ?_⟩; cbv))
         )
     obtain ⟨v3, rfl⟩ : ∃ z, z = t := ⟨_, rfl⟩
     cbv
     refine brkG h (fun h => ?_) (fun h => ?_)
     · cbv
       obtain rfl := oj h
       obtain rfl := hr2 _ rfl
       obtain rfl := hr1 _ rfl
       exact hK _ _ (by first | rfl | exact W_nil _ | (cbv; simp only [W_nilx]))
     · cbv
       obtain rfl := oj h
       refine hKn2 _ _ _ rfl (.nz (.mtE [0, 1] ?_))
       (cbv; repeat (refine ⟨an_, ?_⟩; cbv))
   · cbv
     obtain rfl := oj h
     obtain rfl := hr2 _ rfl
     refine hKn1 _ _ _ rfl (.nz (.mtE [] ?_))
     (cbv; repeat (refine ⟨an_, ?_⟩; cbv))
 cbv
 obtain rfl := oj h
 exact hK _ _ (by first | rfl | exact W_nil _ | (cbv; simp only [W_nilx]))
end Go.SX.Cl
