/- Parts of the proof. -/
import Derived.Test.YtllbabjgpdmblaaZClT
set_option linter.unusedSimpArgs false
set_option linter.unusedVariables false
namespace Go.SX.Cl
open Go Go.SX Go.Proofs
set_option maxRecDepth 100000
def c11r0 : List GOp := [
 gv 4 (.mv (.const (.bool false)))]
def c11r1 : List GOp := [
 gv 6 (.mv (.tmp 0)),
 gv 7 (.len false (.tmp 6)),
 gv 8 (.mv (.tmp 1)),
 gv 9 (.len false (.tmp 8)),
 gv 10 (.bin .neq (.tmp 7) (.tmp 9))]
def c11r2 : List GOp := [
 gv 4 (.mv (.const (.bool false)))]
def c11r3 : List GOp := [
 gv 5 (.mv (.const (.int .i64 0)))]
def c11r4 : List GOp := [
 gv 11 (.mv (.tmp 5)),
 gv 12 (.mv (.tmp 0)),
 gv 13 (.len false (.tmp 12)),
 gv 14 (.bin .lss (.tmp 11) (.tmp 13))]
def c11r5 : List GOp := [
 gv 17 (.mv (.tmp 0)),
 gv 18 (.mv (.tmp 5)),
 gv 19 (.idxA 13 (.tmp 17) (.tmp 18)),
 gv 20 (.load 13 true (.tmp 19)),
 gv 21 (.mv (.tmp 1)),
 gv 22 (.mv (.tmp 5)),
 gv 23 (.idxA 13 (.tmp 21) (.tmp 22)),
 gv 24 (.load 13 true (.tmp 23)),
 gv 25 (.beq true [.int, .int, .int, .int, .int, .int, .int, .int, .int, .int, .int, .int, .int] (.tmp 20) (.tmp 24))]
def c11r6 : List GOp := [
 gv 4 (.mv (.const (.bool false)))]
def c11r7 : List GOp := [
 gv 15 (.mv (.tmp 5)),
 gv 16 (.bin .add (.tmp 15) (.const (.int .i64 1))),
 gv 5 (.mv (.tmp 16))]
def c11l8 : DE := .seq (.seq (.reg c11r4) (.cond (.tmp 14) (.skip) (.exit 0))) (.seq (.block 1 (.seq (.par true true true 8 c11r5) (.cond (.tmp 25) (.seq (.reg c11r6) (.ret)) (.skip)))) (.reg c11r7))
def c11r9 : List GOp := [
 gv 4 (.mv (.const (.bool true)))]
def c11 : EFn := ⟨26, .seq (.reg c11r0) (.seq (.seq (.reg c11r1) (.cond (.tmp 10) (.seq (.reg c11r2) (.ret)) (.skip))) (.join (.seq (.reg c11r3) (.block 0 (.loop c11l8))) (.seq (.reg c11r9) (.ret)))), [.tmp 4]⟩
theorem c11_ok : compF Try.prog 11 = some c11.er := by kernel_rfl
noncomputable def ref16_Same_l2 (a : (List Finding)) (b : (List Finding)) : Int → Option ((Int) ⊕ ((Unit) ⊕ (Bool)))
 | i1 =>
 bif (io.lt i1 (io.len (W eFinding a))) then (
 Option.bind (idxG a i1) fun x2 =>
 Option.bind (idxG b i1) fun x3 =>
 bif (io.not (qFinding x2 x3)) then (
 some (.inr (.inr false))
 ) else (
 some (.inl (io.ar .add .i64 i1 1))
 )
 ) else (
 some (.inr (.inl ()))
 )
noncomputable def ref16_Same_g (a : (List Finding)) (b : (List Finding)) : Option (Bool) :=
 bif (io.not (io.eq (io.len (W eFinding a)) (io.len (W eFinding b)))) then (
 some false
 ) else (
 orR (
 whileG (ref16_Same_l2 a b) 0
 ) fun _ =>
 some true
 )
set_option maxHeartbeats 4000000 in
theorem ref16_Same_R {P : Program} (hP : P = Try.prog) (a : (List Finding)) (b : (List Finding)) (r : Bool) (h : ref16_Same_g a b = some r) : Fn1 P 11 [vLFinding a, vLFinding b] (vB r) := by
 refine .walkE (hP ▸ c11_ok) fun K hK => ?_
 unfold ref16_Same_g at h
 cbv
 refine brkG h ?_ ?_ <;> intro h
 · cbv
   obtain rfl := oj h
   exact hK _ _ aw_
 · cbv
   refine .ga h (fun (_ : Unit) => rp 26 .top) (fun (_ : Unit) => []) (fun y hm hr1 Kn1 hKn1 => ?_) fun t h => ?_
   · have h := hm
     clear hm
     cbv
     refine .g h (fun (i1 : Int) => [.d (.sl (W eFinding a)), .d (.sl (W eFinding b))] ++ rp 3 .top ++ [oi i1] ++ rp 20 .top) (fun (i1 : Int) => []) (.nz (.mtE [] ?_)) fun s x h hr2 Kn2 hKn2 => ?_
     · (cbv; repeat (refine ⟨an_, ?_⟩; cbv))
     unfold ref16_Same_l2 at h
     obtain ⟨i1, rfl⟩ : ∃ z, z = s := ⟨_, rfl⟩
     cbv
     refine brkG h ?_ ?_ <;> intro h
     · cbv
       refine .g h (fun _ => rfl) fun x2 h => ?_
       cbv
       refine .g h (fun _ => rfl) fun x3 h => ?_
       cbv
       refine brkG h ?_ ?_ <;> intro h
       · cbv
         obtain rfl := oj h
         obtain rfl := hr2 _ rfl
         obtain rfl := hr1 _ rfl
         exact hK _ _ aw_
       · cbv
         obtain rfl := oj h
         refine hKn2 _ _ _ rfl (.nz (.mtE [] ?_))
         (cbv; repeat (refine ⟨an_, ?_⟩; cbv))
     · cbv
       obtain rfl := oj h
       obtain rfl := hr2 _ rfl
       refine hKn1 _ _ _ rfl (.nz (.mtE [] ?_))
       (cbv; repeat (refine ⟨an_, ?_⟩; cbv))
   cbv
   obtain rfl := oj h
   exact hK _ _ aw_
end Go.SX.Cl
namespace Go.SX.Cl
open Go Go.SX Go.Proofs
set_option maxRecDepth 100000
def c34r0 : List GOp := [
 gv 4 (.mv (.const (.bool false)))]
def c34r1 : List GOp := [
 gv 5 (.mv (.tmp 0)),
 gv 6 (.mv (.tmp 1)),
 gv 7 (.call 61 [(.tmp 5), (.tmp 6)]),
 gv 8 (.bin .geq (.tmp 7) (.const (.int .i64 0))),
 gv 4 (.mv (.tmp 8))]
def c34 : EFn := ⟨9, .seq (.reg c34r0) (.seq (.reg c34r1) (.ret)), [.tmp 4]⟩
theorem c34_ok : compF Try.prog 34 = some c34.er := by kernel_rfl
def c61r0 : List GOp := [
 gv 4 (.mv (.const (.int .i64 0)))]
def c61r1 : List GOp := [
 gv 6 (.mv (.tmp 0)),
 gv 7 (.len false (.tmp 6)),
 gv 8 (.mv (.const (.int .i64 0)))]
def c61r2 : List GOp := [
 gv 9 (.bin .lss (.tmp 8) (.tmp 7))]
def c61r3 : List GOp := [
 gv 10 (.mv (.tmp 8)),
 gv 5 (.mv (.tmp 10))]
def c61r4 : List GOp := [
 gv 11 (.mv (.tmp 1)),
 gv 12 (.mv (.tmp 0)),
 gv 13 (.mv (.tmp 5)),
 gv 14 (.idxA 20 (.tmp 12) (.tmp 13)),
 gv 15 (.load 20 true (.tmp 14)),
 gv 16 (.callv (.tmp 11) [(.tmp 15)])]
def c61r5 : List GOp := [
 gv 17 (.mv (.tmp 5)),
 gv 4 (.mv (.tmp 17))]
def c61r6 : List GOp := [
 gv 18 (.bin .add (.tmp 8) (.const (.int .i64 1))),
 gv 8 (.mv (.tmp 18))]
def c61l7 : DE := .seq (.reg c61r2) (.seq (.cond (.tmp 9) (.skip) (.exit 0)) (.seq (.block 1 (.seq (.reg c61r3) (.join (.reg c61r4) (.cond (.tmp 16) (.seq (.reg c61r5) (.ret)) (.skip))))) (.reg c61r6)))
def c61r8 : List GOp := [
 gv 4 (.mv (.const (.int .i64 (-1))))]
def c61 : EFn := ⟨19, .seq (.reg c61r0) (.join (.seq (.reg c61r1) (.block 0 (.loop c61l7))) (.seq (.reg c61r8) (.ret))), [.tmp 4]⟩
theorem c61_ok : compF Try.prog 61 = some c61.er := by kernel_rfl
def c35r0 : List GOp := [
 gv 2 (.box 54 (.tmp 0)),
 gv 3 (.mv (.const (.bool false)))]
def c35r1 : List GOp := [
 gv 6 (.load 10 true (.tmp 1)),
 gv 7 (.mv (.const (.int .i64 0)))]
def c35r2 : List GOp := [
 gv 8 (.bin .lss (.tmp 7) (.const (.int .i64 10)))]
def c35r3 : List GOp := [
 gv 9 (.mv (.tmp 7)),
 gv 10 (.idxV 10 1 false (.tmp 6) (.tmp 7)),
 gv 4 (.mv (.tmp 9)),
 gv 5 (.mv (.tmp 10))]
def c35r4 : List GOp := [
 gv 11 (.mv (.tmp 5)),
 gv 12 (.mv (.tmp 4)),
 gv 13 (.idxP 10 2 (.tmp 2) (.tmp 12)),
 gv 14 (.fadd 0 (.tmp 13)),
 gv 15 (.load 1 false (.tmp 14)),
 gv 16 (.bin .lss (.tmp 11) (.tmp 15)),
 gv 17 (.mv (.tmp 16)),
 gw 18 17 false (.mv (.tmp 5)),
 gw 19 17 false (.mv (.tmp 4)),
 gw 20 17 false (.idxP 10 2 (.tmp 2) (.tmp 19)),
 gw 21 17 false (.fadd 1 (.tmp 20)),
 gw 22 17 false (.load 1 false (.tmp 21)),
 gw 23 17 false (.bin .gtr (.tmp 18) (.tmp 22)),
 gv 24 (.pick (.tmp 17) (.const (.bool true)) (.tmp 23))]
def c35r5 : List GOp := [
 gv 3 (.mv (.const (.bool false)))]
def c35r6 : List GOp := [
 gv 25 (.bin .add (.tmp 7) (.const (.int .i64 1))),
 gv 7 (.mv (.tmp 25))]
def c35l7 : DE := .seq (.reg c35r2) (.seq (.cond (.tmp 8) (.skip) (.exit 0)) (.seq (.block 1 (.join (.reg c35r3) (.join (.reg c35r4) (.cond (.tmp 24) (.seq (.reg c35r5) (.ret)) (.skip))))) (.reg c35r6)))
def c35r8 : List GOp := [
 gv 3 (.mv (.const (.bool true)))]
def c35 : EFn := ⟨26, .seq (.reg c35r0) (.join (.seq (.reg c35r1) (.block 0 (.loop c35l7))) (.seq (.reg c35r8) (.ret))), [.tmp 3]⟩
theorem c35_ok : compF Try.prog 35 = some c35.er := by kernel_rfl
def c15r0 : List GOp := [
 gv 2 (.box 41 (.tmp 0)),
 gv 3 (.box 32 (.tmp 1)),
 gv 4 (.mv (.const (.bool false)))]
def c15r1 : List GOp := [
 gv 5 (.fadd 2 (.tmp 2)),
 gv 6 (.load 1 false (.tmp 5)),
 gv 7 (.mkfn (.func 35) [] [(.tmp 3)]),
 gv 8 (.call 34 [(.tmp 6), (.tmp 7)]),
 gv 4 (.mv (.tmp 8))]
def c15 : EFn := ⟨9, .seq (.reg c15r0) (.seq (.reg c15r1) (.ret)), [.tmp 4]⟩
theorem c15_ok : compF Try.prog 15 = some c15.er := by kernel_rfl
noncomputable def decide_Holds_l26 (f : (A10 Int)) (x3 : (A10 Range)) : Int → Option ((Int) ⊕ ((Unit) ⊕ (Bool)))
 | v4 =>
 bif (io.lt v4 10) then (
 Option.bind (
 Option.bind (pixG 10 v4) fun i6 =>
 some (f.get i6)
 ) fun n5 =>
 Option.bind (
 Option.bind (pixG 10 v4) fun ix8 =>
 bif (io.lt n5 (x3.get ix8).Lo) then (
 some true
 ) else (
 some (io.lt (x3.get ix8).Hi n5)
 )
 ) fun v7 =>
 bif v7 then (
 some (.inr (.inr false))
 ) else (
 some (.inl (io.ar .add .i64 v4 1))
 )
 ) else (
 some (.inr (.inl ()))
 )
noncomputable def decide_Holds_l22 (r_ : Rule) (f : (A10 Int)) : Int → Option ((Int) ⊕ ((Unit) ⊕ (Bool)))
 | v1 =>
 bif (io.lt v1 (io.len (W eA10Range r_.Zones))) then (
 Option.bind (
 Option.bind (idxG r_.Zones v1) fun x3 =>
 orR (
 whileG (decide_Holds_l26 f x3) 0
 ) fun _ =>
 some true
 ) fun v2 =>
 bif v2 then (
 some (.inr (.inr (io.le 0 v1)))
 ) else (
 some (.inl (io.ar .add .i64 v1 1))
 )
 ) else (
 some (.inr (.inl ()))
 )
noncomputable def decide_Holds_g (r_ : Rule) (f : (A10 Int)) : Option (Bool) :=
 orR (
 whileG (decide_Holds_l22 r_ f) 0
 ) fun _ =>
 some (io.le 0 (-1))
set_option maxHeartbeats 4000000 in
theorem decide_Holds_R {P : Program} (hP : P = Try.prog) (r_ : Rule) (f : (A10 Int)) (r : Bool) (h : decide_Holds_g r_ f = some r) : Fn1 P 15 [vRule r_, vA10Ii64 f] (vB r) := by
 refine .walkE (hP ▸ c15_ok) fun K hK => ?_
 unfold decide_Holds_g at h
 cbv
 refine .inl (hP ▸ c34_ok) ?_
 cbv
 refine .inl (hP ▸ c61_ok) ?_
 cbv
 refine .ga h (fun (_ : Unit) => rp 19 .top) (fun (_ : Unit) => [.cells [oi r_.Kind, .d (.val (.string r_.Name)), .d (.sl (W eA10Range r_.Zones)), oi r_.N, oi r_.R.Num, oi r_.R.Den, oi r_.S.Num, oi r_.S.Den] 41, .cells (ca f) 32]) (fun y hm hr1 Kn1 hKn1 => ?_) fun t h => ?_
 · have h := hm
   clear hm
   cbv
   refine .g h (fun (v1 : Int) => [.d (.sl (W eA10Range r_.Zones)), .clo (.func 35) [] [.ptr 1 0]] ++ rp 5 .top ++ [oi (io.len (W eA10Range r_.Zones)), oi v1] ++ rp 10 .top) (fun (v1 : Int) => [.cells [oi r_.Kind, .d (.val (.string r_.Name)), .d (.sl (W eA10Range r_.Zones)), oi r_.N, oi r_.R.Num, oi r_.R.Den, oi r_.S.Num, oi r_.S.Den] 41, .cells (ca f) 32]) (.nz (.mtE [0, 1] ?_)) fun s x h hr2 Kn2 hKn2 => ?_
   · (cbv; repeat (refine ⟨an_, ?_⟩; cbv))
   unfold decide_Holds_l22 at h
   obtain ⟨v1, rfl⟩ : ∃ z, z = s := ⟨_, rfl⟩
   cbv
   refine brkG h ?_ ?_ <;> intro h
   · cbv
     refine .g h (fun (v2 : Bool) => [.d (.sl (W eA10Range r_.Zones)), .clo (.func 35) [] [.ptr 1 0]] ++ rp 3 .top ++ [oi v1, .top, oi (io.len (W eA10Range r_.Zones)), oi v1] ++ rp 7 .top ++ [ob v2, .top, .top]) (fun (v2 : Bool) => [.cells [oi r_.Kind, .d (.val (.string r_.Name)), .d (.sl (W eA10Range r_.Zones)), oi r_.N, oi r_.R.Num, oi r_.R.Den, oi r_.S.Num, oi r_.S.Den] 41, .cells (ca f) 32]) (fun y hm Kn3 hKn3 => ?_) fun t h => ?_
     · have h := hm
       clear hm
       cbv
       refine .g h (fun _ => rfl) fun x3 h => ?_
       cbv
       refine .inl (hP ▸ c35_ok) ?_
       cbv
       refine .ga h (fun (_ : Unit) => rp 26 .top) (fun (_ : Unit) => [.cells [oi r_.Kind, .d (.val (.string r_.Name)), .d (.sl (W eA10Range r_.Zones)), oi r_.N, oi r_.R.Num, oi r_.R.Den, oi r_.S.Num, oi r_.S.Den] 41, .cells (ca f) 32]) (fun y hm hr4 Kn4 hKn4 => ?_) fun t h => ?_
       · have h := hm
         clear hm
         cbv
         refine .g h (fun (v4 : Int) => [.top, .top, .ptr 2 0] ++ rp 3 .top ++ [.agg (ca f), oi v4] ++ rp 18 .top) (fun (v4 : Int) => [.cells [oi r_.Kind, .d (.val (.string r_.Name)), .d (.sl (W eA10Range r_.Zones)), oi r_.N, oi r_.R.Num, oi r_.R.Den, oi r_.S.Num, oi r_.S.Den] 41, .cells (ca f) 32, .cells [oi x3.a0.Lo, oi x3.a0.Hi, oi x3.a1.Lo, oi x3.a1.Hi, oi x3.a2.Lo, oi x3.a2.Hi, oi x3.a3.Lo, oi x3.a3.Hi, oi x3.a4.Lo, oi x3.a4.Hi, oi x3.a5.Lo, oi x3.a5.Hi, oi x3.a6.Lo, oi x3.a6.Hi, oi x3.a7.Lo, oi x3.a7.Hi, oi x3.a8.Lo, oi x3.a8.Hi, oi x3.a9.Lo, oi x3.a9.Hi] 54]) (.nz (.mtE [0, 1, 2] ?_)) fun s x h hr5 Kn5 hKn5 => ?_
         · (cbv; repeat (refine ⟨an_, ?_⟩; cbv))
         unfold decide_Holds_l26 at h
         obtain ⟨v4, rfl⟩ : ∃ z, z = s := ⟨_, rfl⟩
         cbv
         refine brkG h ?_ ?_ <;> intro h
         · cbv
           refine .g h (fun (n5 : Int) => [.top, .top, .ptr 2 0, .top, oi v4, oi n5, .agg (ca f), oi v4] ++ rp 18 .top) (fun (n5 : Int) => [.cells [oi r_.Kind, .d (.val (.string r_.Name)), .d (.sl (W eA10Range r_.Zones)), oi r_.N, oi r_.R.Num, oi r_.R.Den, oi r_.S.Num, oi r_.S.Den] 41, .cells (ca f) 32, .cells [oi x3.a0.Lo, oi x3.a0.Hi, oi x3.a1.Lo, oi x3.a1.Hi, oi x3.a2.Lo, oi x3.a2.Hi, oi x3.a3.Lo, oi x3.a3.Hi, oi x3.a4.Lo, oi x3.a4.Hi, oi x3.a5.Lo, oi x3.a5.Hi, oi x3.a6.Lo, oi x3.a6.Hi, oi x3.a7.Lo, oi x3.a7.Hi, oi x3.a8.Lo, oi x3.a8.Hi, oi x3.a9.Lo, oi x3.a9.Hi] 54]) (fun y hm Kn6 hKn6 => ?_) fun t h => ?_
           · have h := hm
             clear hm
             cbv
             refine .c10 h ?_ ?_ ?_ ?_ ?_ ?_ ?_ ?_ ?_ ?_ <;> (
               intro hni6 h
               cbv
               obtain rfl := oj h
               refine hKn6 _ _ _ rfl (.nz (.mtE [0, 1, 2] ?_))
               (cbv; repeat (refine ⟨an_, ?_⟩; cbv))
               )
           obtain ⟨n5, rfl⟩ : ∃ z, z = t := ⟨_, rfl⟩
           cbv
           refine .g h (fun (v7 : Bool) => [.top, .top, .ptr 2 0] ++ rp 3 .top ++ [.agg (ca f), oi v4] ++ rp 16 .top ++ [ob v7, .top]) (fun (v7 : Bool) => [.cells [oi r_.Kind, .d (.val (.string r_.Name)), .d (.sl (W eA10Range r_.Zones)), oi r_.N, oi r_.R.Num, oi r_.R.Den, oi r_.S.Num, oi r_.S.Den] 41, .cells (ca f) 32, .cells [oi x3.a0.Lo, oi x3.a0.Hi, oi x3.a1.Lo, oi x3.a1.Hi, oi x3.a2.Lo, oi x3.a2.Hi, oi x3.a3.Lo, oi x3.a3.Hi, oi x3.a4.Lo, oi x3.a4.Hi, oi x3.a5.Lo, oi x3.a5.Hi, oi x3.a6.Lo, oi x3.a6.Hi, oi x3.a7.Lo, oi x3.a7.Hi, oi x3.a8.Lo, oi x3.a8.Hi, oi x3.a9.Lo, oi x3.a9.Hi] 54]) (fun y hm Kn6 hKn6 => ?_) fun t h => ?_
           · have h := hm
             clear hm
             cbv
             refine .c10 h ?_ ?_ ?_ ?_ ?_ ?_ ?_ ?_ ?_ ?_ <;> (
               intro hnix8 h
               cbv
               refine brkG h ?_ ?_ <;> intro h
               · cbv
                 obtain rfl := oj h
                 refine hKn6 _ _ _ rfl (.nz (.mtE [0, 1, 2] ?_))
                 (cbv; repeat (refine ⟨an_, ?_⟩; cbv))
               · cbv
                 refine .at _ hnix8 (by decide) ?_
                 cbv
                 obtain rfl := oj h
                 refine hKn6 _ _ _ rfl (.nz (.mtE [0, 1, 2] ?_))
                 (cbv; repeat (refine ⟨an_, ?_⟩; cbv))
               )
           obtain ⟨v7, rfl⟩ : ∃ z, z = t := ⟨_, rfl⟩
           cbv
           refine brkG h ?_ ?_ <;> intro h
           · cbv
             obtain rfl := oj h
             obtain rfl := hr5 _ rfl
             obtain rfl := hr4 _ rfl
             refine hKn3 _ _ _ rfl (.nz (.mtE [0, 1] ?_))
             (cbv; repeat (refine ⟨an_, ?_⟩; cbv))
           · cbv
             obtain rfl := oj h
             refine hKn5 _ _ _ rfl (.nz (.mtE [0, 1, 2] ?_))
             (cbv; repeat (refine ⟨an_, ?_⟩; cbv))
         · cbv
           obtain rfl := oj h
           obtain rfl := hr5 _ rfl
           refine hKn4 _ _ _ rfl (.nz (.mtE [0, 1] ?_))
           (cbv; repeat (refine ⟨an_, ?_⟩; cbv))
       cbv
       obtain rfl := oj h
       refine hKn3 _ _ _ rfl (.nz (.mtE [0, 1] ?_))
       (cbv; repeat (refine ⟨an_, ?_⟩; cbv))
     obtain ⟨v2, rfl⟩ : ∃ z, z = t := ⟨_, rfl⟩
     cbv
     refine brkG h ?_ ?_ <;> intro h
     · cbv
       obtain rfl := oj h
       obtain rfl := hr2 _ rfl
       obtain rfl := hr1 _ rfl
       exact hK _ _ aw_
     · cbv
       obtain rfl := oj h
       refine hKn2 _ _ _ rfl (.nz (.mtE [0, 1] ?_))
       (cbv; repeat (refine ⟨an_, ?_⟩; cbv))
   · cbv
     obtain rfl := oj h
     obtain rfl := hr2 _ rfl
     refine hKn1 _ _ _ rfl (.nz (.mtE [0, 1] ?_))
     (cbv; repeat (refine ⟨an_, ?_⟩; cbv))
 cbv
 obtain rfl := oj h
 exact hK _ _ aw_
end Go.SX.Cl
namespace Go.SX.Cl
open Go Go.SX Go.Proofs
set_option maxRecDepth 100000
def c62r0 : List GOp := [
 gv 2 (.box 39 (.tmp 0)),
 gv 4 (.mv (.const (.bool false)))]
def c62r1 : List GOp := [
 gv 5 (.fadd 1 (.tmp 2)),
 gv 6 (.load 1 false (.tmp 5)),
 gv 7 (.bin .geq (.tmp 6) (.const (.int .i64 1))),
 gv 8 (.mv (.tmp 7)),
 gw 9 8 true (.fadd 1 (.tmp 2)),
 gw 10 8 true (.load 1 false (.tmp 9)),
 gw 11 8 true (.bin .leq (.tmp 10) (.const (.int .i64 1000000))),
 gv 12 (.pick (.tmp 8) (.tmp 11) (.const (.bool false))),
 gv 13 (.mv (.tmp 12)),
 gw 14 13 true (.fadd 0 (.tmp 2)),
 gw 15 13 true (.load 1 false (.tmp 14)),
 gw 16 13 true (.bin .geq (.tmp 15) (.const (.int .i64 0))),
 gv 17 (.pick (.tmp 13) (.tmp 16) (.const (.bool false))),
 gv 18 (.mv (.tmp 17)),
 gw 19 18 true (.fadd 0 (.tmp 2)),
 gw 20 18 true (.load 1 false (.tmp 19)),
 gw 21 18 true (.mv (.tmp 1)),
 gw 22 18 true (.fadd 1 (.tmp 2)),
 gw 23 18 true (.load 1 false (.tmp 22)),
 gw 24 18 true (.bin .mul (.tmp 21) (.tmp 23)),
 gw 25 18 true (.bin .leq (.tmp 20) (.tmp 24)),
 gv 26 (.pick (.tmp 18) (.tmp 25) (.const (.bool false))),
 gv 27 (.mv (.tmp 26)),
 gw 28 27 true (.fadd 0 (.tmp 2)),
 gw 29 27 true (.load 1 false (.tmp 28)),
 gw 30 27 true (.bin .leq (.tmp 29) (.const (.int .i64 1000000))),
 gv 31 (.pick (.tmp 27) (.tmp 30) (.const (.bool false))),
 gv 4 (.mv (.tmp 31))]
def c62 : EFn := ⟨32, .seq (.reg c62r0) (.seq (.reg c62r1) (.ret)), [.tmp 4]⟩
theorem c62_ok : compF Try.prog 62 = some c62.er := by kernel_rfl
def c44r0 : List GOp := [
 gv 1 (.box 41 (.tmp 0)),
 gv 2 (.mv (.const (.bool false)))]
def c44r1 : List GOp := [
 gv 3 (.fadd 0 (.tmp 1)),
 gv 4 (.load 1 false (.tmp 3))]
def c44r2 : List GOp := [
 gv 6 (.bin .eql (.tmp 4) (.const (.int .i64 1))),
 gv 5 (.mv (.tmp 6))]
def c44r3 : List GOp := [
 gv 7 (.fadd 3 (.tmp 1)),
 gv 8 (.load 1 false (.tmp 7)),
 gv 9 (.bin .geq (.tmp 8) (.const (.int .i64 0))),
 gv 10 (.mv (.tmp 9)),
 gw 11 10 true (.fadd 3 (.tmp 1)),
 gw 12 10 true (.load 1 false (.tmp 11)),
 gw 13 10 true (.bin .leq (.tmp 12) (.const (.int .i64 100))),
 gv 14 (.pick (.tmp 10) (.tmp 13) (.const (.bool false))),
 gv 2 (.mv (.tmp 14))]
def c44r4 : List GOp := [
 gv 16 (.bin .eql (.tmp 4) (.const (.int .i64 3))),
 gv 15 (.mv (.tmp 16))]
def c44r5 : List GOp := [
 gv 17 (.fadd 3 (.tmp 1)),
 gv 18 (.load 1 false (.tmp 17)),
 gv 19 (.bin .geq (.tmp 18) (.const (.int .i64 0))),
 gv 20 (.mv (.tmp 19)),
 gw 21 20 true (.fadd 3 (.tmp 1)),
 gw 22 20 true (.load 1 false (.tmp 21)),
 gw 23 20 true (.bin .leq (.tmp 22) (.const (.int .i64 10000000))),
 gv 24 (.pick (.tmp 20) (.tmp 23) (.const (.bool false))),
 gv 25 (.mv (.tmp 24)),
 gw 26 25 true (.fadd 4 (.tmp 1)),
 gw 27 25 true (.load 2 true (.tmp 26)),
 gw 28 25 true (.call 62 [(.tmp 27), (.const (.int .i64 1))]),
 gv 29 (.pick (.tmp 25) (.tmp 28) (.const (.bool false))),
 gv 30 (.mv (.tmp 29)),
 gw 31 30 true (.fadd 6 (.tmp 1)),
 gw 32 30 true (.load 2 true (.tmp 31)),
 gw 33 30 true (.call 62 [(.tmp 32), (.const (.int .i64 1))]),
 gv 34 (.pick (.tmp 30) (.tmp 33) (.const (.bool false))),
 gv 2 (.mv (.tmp 34))]
def c44r6 : List GOp := [
 gv 36 (.bin .eql (.tmp 4) (.const (.int .i64 4))),
 gv 35 (.mv (.tmp 36))]
def c44r7 : List GOp := [
 gv 37 (.fadd 4 (.tmp 1)),
 gv 38 (.load 2 true (.tmp 37)),
 gv 39 (.call 62 [(.tmp 38), (.const (.int .i64 10))]),
 gv 40 (.mv (.tmp 39)),
 gw 41 40 true (.fadd 6 (.tmp 1)),
 gw 42 40 true (.load 2 true (.tmp 41)),
 gw 43 40 true (.call 62 [(.tmp 42), (.const (.int .i64 1))]),
 gv 44 (.pick (.tmp 40) (.tmp 43) (.const (.bool false))),
 gv 2 (.mv (.tmp 44))]
def c44r8 : List GOp := [
 gv 46 (.bin .eql (.tmp 4) (.const (.int .i64 5))),
 gv 45 (.mv (.tmp 46))]
def c44r9 : List GOp := [
 gv 47 (.fadd 4 (.tmp 1)),
 gv 48 (.load 2 true (.tmp 47)),
 gv 49 (.call 62 [(.tmp 48), (.const (.int .i64 1))]),
 gv 2 (.mv (.tmp 49))]
def c44r10 : List GOp := [
 gv 51 (.bin .eql (.tmp 4) (.const (.int .i64 2))),
 gv 50 (.mv (.tmp 51))]
def c44r11 : List GOp := [
 gv 52 (.bin .eql (.tmp 4) (.const (.int .i64 6))),
 gv 50 (.mv (.tmp 52))]
def c44r12 : List GOp := [
 gv 53 (.bin .eql (.tmp 4) (.const (.int .i64 7))),
 gv 50 (.mv (.tmp 53))]
def c44r13 : List GOp := [
 gv 2 (.mv (.const (.bool true)))]
def c44r14 : List GOp := [
 gv 2 (.mv (.const (.bool false)))]
def c44 : EFn := ⟨54, .seq (.reg c44r0) (.seq (.seq (.reg c44r1) (.block 0 (.seq (.reg c44r2) (.cond (.tmp 5) (.seq (.reg c44r3) (.ret)) (.seq (.reg c44r4) (.cond (.tmp 15) (.seq (.reg c44r5) (.ret)) (.seq (.reg c44r6) (.cond (.tmp 35) (.seq (.reg c44r7) (.ret)) (.seq (.reg c44r8) (.cond (.tmp 45) (.seq (.reg c44r9) (.ret)) (.join (.seq (.reg c44r10) (.cond (.tmp 50) (.skip) (.seq (.reg c44r11) (.cond (.tmp 50) (.skip) (.reg c44r12))))) (.cond (.tmp 50) (.seq (.reg c44r13) (.ret)) (.skip))))))))))))) (.seq (.reg c44r14) (.ret))), [.tmp 2]⟩
theorem c44_ok : compF Try.prog 44 = some c44.er := by kernel_rfl
noncomputable def decide_numbers_g (r_ : Rule) : Option (Bool) :=
 bif (io.eq r_.Kind 1) then (
 bif (io.le 0 r_.N) then (
 some (io.le r_.N 100)
 ) else (
 some false
 )
 ) else (
 bif (io.eq r_.Kind 3) then (
 bif (io.le 0 r_.N) then (
 bif (io.le r_.N 10000000) then (
 bif (io.le 1 r_.R.Den) then (
 bif (io.le r_.R.Den 1000000) then (
 bif (io.le 0 r_.R.Num) then (
 bif (io.le r_.R.Num (io.ar .mul .i64 1 r_.R.Den)) then (
 bif (io.le r_.R.Num 1000000) then (
 bif (io.le 1 r_.S.Den) then (
 bif (io.le r_.S.Den 1000000) then (
 bif (io.le 0 r_.S.Num) then (
 bif (io.le r_.S.Num (io.ar .mul .i64 1 r_.S.Den)) then (
 some (io.le r_.S.Num 1000000)
 ) else (
 some false
 )
 ) else (
 some false
 )
 ) else (
 some false
 )
 ) else (
 some false
 )
 ) else (
 some false
 )
 ) else (
 some false
 )
 ) else (
 some false
 )
 ) else (
 some false
 )
 ) else (
 some false
 )
 ) else (
 some false
 )
 ) else (
 some false
 )
 ) else (
 bif (io.eq r_.Kind 4) then (
 bif (io.le 1 r_.R.Den) then (
 bif (io.le r_.R.Den 1000000) then (
 bif (io.le 0 r_.R.Num) then (
 bif (io.le r_.R.Num (io.ar .mul .i64 10 r_.R.Den)) then (
 bif (io.le r_.R.Num 1000000) then (
 bif (io.le 1 r_.S.Den) then (
 bif (io.le r_.S.Den 1000000) then (
 bif (io.le 0 r_.S.Num) then (
 bif (io.le r_.S.Num (io.ar .mul .i64 1 r_.S.Den)) then (
 some (io.le r_.S.Num 1000000)
 ) else (
 some false
 )
 ) else (
 some false
 )
 ) else (
 some false
 )
 ) else (
 some false
 )
 ) else (
 some false
 )
 ) else (
 some false
 )
 ) else (
 some false
 )
 ) else (
 some false
 )
 ) else (
 some false
 )
 ) else (
 bif (io.eq r_.Kind 5) then (
 bif (io.le 1 r_.R.Den) then (
 bif (io.le r_.R.Den 1000000) then (
 bif (io.le 0 r_.R.Num) then (
 bif (io.le r_.R.Num (io.ar .mul .i64 1 r_.R.Den)) then (
 some (io.le r_.R.Num 1000000)
 ) else (
 some false
 )
 ) else (
 some false
 )
 ) else (
 some false
 )
 ) else (
 some false
 )
 ) else (
 Option.bind (
 bif (io.eq r_.Kind 2) then (
 some (io.eq r_.Kind 2)
 ) else (
 bif (io.eq r_.Kind 6) then (
 some (io.eq r_.Kind 6)
 ) else (
 some (io.eq r_.Kind 7)
 )
 )
 ) fun v1 =>
 bif v1 then (
 some true
 ) else (
 some false
 )
 )
 )
 )
 )
set_option maxHeartbeats 4000000 in
theorem decide_numbers_R {P : Program} (hP : P = Try.prog) (r_ : Rule) (r : Bool) (h : decide_numbers_g r_ = some r) : Fn1 P 44 [vRule r_] (vB r) := by
 refine .walkE (hP ▸ c44_ok) fun K hK => ?_
 unfold decide_numbers_g at h
 cbv
 refine brkG h ?_ ?_ <;> intro h
 · cbv
   refine brkG h ?_ ?_ <;> intro h
   · cbv
     obtain rfl := oj h
     exact hK _ _ aw_
   · cbv
     obtain rfl := oj h
     exact hK _ _ aw_
 · cbv
   refine brkG h ?_ ?_ <;> intro h
   · cbv
     refine brkG h ?_ ?_ <;> intro h
     · cbv
       refine brkG h ?_ ?_ <;> intro h
       · cbv
         refine .inl (hP ▸ c62_ok) ?_
         cbv
         refine brkG h ?_ ?_ <;> intro h
         · cbv
           refine brkG h ?_ ?_ <;> intro h
           · cbv
             refine brkG h ?_ ?_ <;> intro h
             · cbv
               refine brkG h ?_ ?_ <;> intro h
               · cbv
                 refine brkG h ?_ ?_ <;> intro h
                 · cbv
                   refine .inl (hP ▸ c62_ok) ?_
                   cbv
                   refine brkG h ?_ ?_ <;> intro h
                   · cbv
                     refine brkG h ?_ ?_ <;> intro h
                     · cbv
                       refine brkG h ?_ ?_ <;> intro h
                       · cbv
                         refine brkG h ?_ ?_ <;> intro h
                         · cbv
                           obtain rfl := oj h
                           exact hK _ _ aw_
                         · cbv
                           obtain rfl := oj h
                           exact hK _ _ aw_
                       · cbv
                         obtain rfl := oj h
                         exact hK _ _ aw_
                     · cbv
                       obtain rfl := oj h
                       exact hK _ _ aw_
                   · cbv
                     obtain rfl := oj h
                     exact hK _ _ aw_
                 · cbv
                   obtain rfl := oj h
                   exact hK _ _ aw_
               · cbv
                 obtain rfl := oj h
                 exact hK _ _ aw_
             · cbv
               obtain rfl := oj h
               exact hK _ _ aw_
           · cbv
             obtain rfl := oj h
             exact hK _ _ aw_
         · cbv
           obtain rfl := oj h
           exact hK _ _ aw_
       · cbv
         obtain rfl := oj h
         exact hK _ _ aw_
     · cbv
       obtain rfl := oj h
       exact hK _ _ aw_
   · cbv
     refine brkG h ?_ ?_ <;> intro h
     · cbv
       refine .inl (hP ▸ c62_ok) ?_
       cbv
       refine brkG h ?_ ?_ <;> intro h
       · cbv
         refine brkG h ?_ ?_ <;> intro h
         · cbv
           refine brkG h ?_ ?_ <;> intro h
           · cbv
             refine brkG h ?_ ?_ <;> intro h
             · cbv
               refine brkG h ?_ ?_ <;> intro h
               · cbv
                 refine .inl (hP ▸ c62_ok) ?_
                 cbv
                 refine brkG h ?_ ?_ <;> intro h
                 · cbv
                   refine brkG h ?_ ?_ <;> intro h
                   · cbv
                     refine brkG h ?_ ?_ <;> intro h
                     · cbv
                       refine brkG h ?_ ?_ <;> intro h
                       · cbv
                         obtain rfl := oj h
                         exact hK _ _ aw_
                       · cbv
                         obtain rfl := oj h
                         exact hK _ _ aw_
                     · cbv
                       obtain rfl := oj h
                       exact hK _ _ aw_
                   · cbv
                     obtain rfl := oj h
                     exact hK _ _ aw_
                 · cbv
                   obtain rfl := oj h
                   exact hK _ _ aw_
               · cbv
                 obtain rfl := oj h
                 exact hK _ _ aw_
             · cbv
               obtain rfl := oj h
               exact hK _ _ aw_
           · cbv
             obtain rfl := oj h
             exact hK _ _ aw_
         · cbv
           obtain rfl := oj h
           exact hK _ _ aw_
       · cbv
         obtain rfl := oj h
         exact hK _ _ aw_
     · cbv
       refine brkG h ?_ ?_ <;> intro h
       · cbv
         refine .inl (hP ▸ c62_ok) ?_
         cbv
         refine brkG h ?_ ?_ <;> intro h
         · cbv
           refine brkG h ?_ ?_ <;> intro h
           · cbv
             refine brkG h ?_ ?_ <;> intro h
             · cbv
               refine brkG h ?_ ?_ <;> intro h
               · cbv
                 obtain rfl := oj h
                 exact hK _ _ aw_
               · cbv
                 obtain rfl := oj h
                 exact hK _ _ aw_
             · cbv
               obtain rfl := oj h
               exact hK _ _ aw_
           · cbv
             obtain rfl := oj h
             exact hK _ _ aw_
         · cbv
           obtain rfl := oj h
           exact hK _ _ aw_
       · cbv
         refine .g h (fun (v1 : Bool) => rp 50 .top ++ [ob v1] ++ rp 3 .top) (fun (v1 : Bool) => []) (fun y hm Kn1 hKn1 => ?_) fun t h => ?_
         · have h := hm
           clear hm
           cbv
           refine brkG h ?_ ?_ <;> intro h
           · cbv
             obtain rfl := oj h
             refine hKn1 _ _ _ rfl (.nz (.mtE [] ?_))
             (cbv; repeat (refine ⟨an_, ?_⟩; cbv))
           · cbv
             refine brkG h ?_ ?_ <;> intro h
             · cbv
               obtain rfl := oj h
               refine hKn1 _ _ _ rfl (.nz (.mtE [] ?_))
               (cbv; repeat (refine ⟨an_, ?_⟩; cbv))
             · cbv
               obtain rfl := oj h
               refine hKn1 _ _ _ rfl (.nz (.mtE [] ?_))
               (cbv; repeat (refine ⟨an_, ?_⟩; cbv))
         obtain ⟨v1, rfl⟩ : ∃ z, z = t := ⟨_, rfl⟩
         cbv
         refine brkG h ?_ ?_ <;> intro h
         · cbv
           obtain rfl := oj h
           exact hK _ _ aw_
         · cbv
           obtain rfl := oj h
           exact hK _ _ aw_
end Go.SX.Cl
namespace Go.SX.Cl
open Go Go.SX Go.Proofs
set_option maxRecDepth 100000
def c22r0 : List GOp := [
 gv 0 (.alloc 54 (.agg #[oz, oz, oz, oz, oz, oz, oz, oz, oz, oz, oz, oz, oz, oz, oz, oz, oz, oz, oz, oz]))]
def c22r1 : List GOp := [
 gv 1 (.build (.agg #[oz, oz]) [((1, 1), (.const (.int .i64 1000000000)))]),
 gv 2 (.build (.agg #[oz, oz]) [((1, 1), (.const (.int .i64 150)))]),
 gv 3 (.build (.agg #[oz, oz]) [((1, 1), (.const (.int .i64 1)))]),
 gv 4 (.build (.agg #[oz, oz]) [((1, 1), (.const (.int .i64 19)))]),
 gv 5 (.build (.agg #[oz, oz]) [((1, 1), (.const (.int .i64 7)))]),
 gv 6 (.build (.agg #[oz, oz]) [((1, 1), (.const (.int .i64 319)))]),
 gv 7 (.build (.agg #[oz, oz]) [((1, 1), (.const (.int .i64 3)))]),
 gv 8 (.build (.agg #[oz, oz]) [((1, 1), (.const (.int .i64 3)))]),
 gv 9 (.build (.agg #[oz, oz]) [((0, 1), (.const (.int .i64 1))), ((1, 1), (.const (.int .i64 12)))]),
 gv 10 (.build (.agg #[oz, oz]) [((1, 1), (.const (.int .i64 100)))]),
 gv 11 (.build (.agg #[oz, oz, oz, oz, oz, oz, oz, oz, oz, oz, oz, oz, oz, oz, oz, oz, oz, oz, oz, oz]) [((0, 2), (.tmp 1)), ((2, 2), (.tmp 2)), ((4, 2), (.tmp 3)), ((6, 2), (.tmp 4)), ((8, 2), (.tmp 5)), ((10, 2), (.tmp 6)), ((12, 2), (.tmp 7)), ((14, 2), (.tmp 8)), ((16, 2), (.tmp 9)), ((18, 2), (.tmp 10))]),
 ⟨none, .store 20 (.tmp 0) (.tmp 11), none⟩]
def c22 : EFn := ⟨12, .seq (.reg c22r0) (.seq (.reg c22r1) (.ret)), [.cell 0 20 true]⟩
theorem c22_ok : compF Try.prog 22 = some c22.er := by kernel_rfl
noncomputable def resolve_Limits_g : Option ((A10 Range)) :=
 some (A10.mk (Range.mk 0 1000000000) (Range.mk 0 150) (Range.mk 0 1) (Range.mk 0 19) (Range.mk 0 7) (Range.mk 0 319) (Range.mk 0 3) (Range.mk 0 3) (Range.mk 1 12) (Range.mk 0 100))
set_option maxHeartbeats 4000000 in
theorem resolve_Limits_R {P : Program} (hP : P = Try.prog) (r : (A10 Range)) (h : resolve_Limits_g = some r) : Fn1 P 22 [] (vA10Range r) := by
 refine .walkE (hP ▸ c22_ok) fun K hK => ?_
 unfold resolve_Limits_g at h
 cbv
 obtain rfl := oj h
 exact hK _ _ aw_
end Go.SX.Cl
