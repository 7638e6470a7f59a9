/- Parts of the proof. -/
import Derived.Test.YtllbabjgpdmblaaZClT
import Derived.Test.YtllbabjgpdmblaaZCl58
import Derived.Test.YtllbabjgpdmblaaZCl31
import Derived.Test.YtllbabjgpdmblaaZCl59
import Derived.Test.YtllbabjgpdmblaaZCl11
set_option linter.unusedSimpArgs false
set_option linter.unusedVariables false
namespace Go.SX.Cl
open Go Go.SX Go.Proofs
set_option maxRecDepth 100000
def c13r0 : List GOp := [
 gv 1 (.box 24 (.tmp 0)),
 gv 2 (.mv (.const (.slice none 0 0)))]
def c13r1 : List GOp := [
 gv 13 (.load 1 true (.tmp 1)),
 gv 14 (.call 30 [(.tmp 13)]),
 gv 15 (.un .not (.tmp 14))]
def c13r2 : List GOp := [
 gv 2 (.mv (.const (.slice none 0 0)))]
def c13r3 : List GOp := [
 gv 3 (.mv (.const (.slice none 0 0)))]
def c13r4 : List GOp := [
 gv 16 (.load 1 true (.tmp 1)),
 gv 17 (.call 31 [(.tmp 16)]),
 gv 4 (.mv (.tmp 17))]
def c13r5 : List GOp := [
 gv 5 (.mv (.const (.int .i64 0)))]
def c13r6 : List GOp := [
 gv 18 (.mv (.tmp 5)),
 gv 19 (.fadd 0 (.tmp 1)),
 gv 20 (.load 1 false (.tmp 19)),
 gv 21 (.len false (.tmp 20)),
 gv 22 (.bin .lss (.tmp 18) (.tmp 21))]
def c13r7 : List GOp := [
 gv 25 (.fadd 0 (.tmp 1)),
 gv 26 (.load 1 false (.tmp 25)),
 gv 27 (.mv (.tmp 5)),
 gv 28 (.idxA 8 (.tmp 26) (.tmp 27)),
 gv 29 (.fadd 2 (.tmp 28)),
 gv 30 (.load 1 false (.tmp 29)),
 gv 31 (.len false (.tmp 30)),
 gv 32 (.bin .eql (.tmp 31) (.const (.int .i64 0)))]
def c13r8 : List GOp := [
 gv 33 (.mv (.tmp 3)),
 gv 34 (.mv (.tmp 5)),
 gv 35 (.build (.agg #[oz, oz, oz, oz, oz, oz, oz, oz, oz, oz, oz, oz, oz]) [((0, 1), (.const (.int .i64 1))), ((1, 1), (.tmp 34)), ((2, 1), (.const (.int .i64 (-1))))]),
 gv 36 (.bslice 35 13 1 (.agg #[oz, oz, oz, oz, oz, oz, oz, oz, oz, oz, oz, oz, oz]) [(0, (.tmp 35))]),
 gv 37 (.app 35 13 104 (.agg #[oz, oz, oz, oz, oz, oz, oz, oz, oz, oz, oz, oz, oz]) (.tmp 33) (.tmp 36)),
 gv 3 (.mv (.tmp 37))]
def c13r9 : List GOp := [
 gv 23 (.mv (.tmp 5)),
 gv 24 (.bin .add (.tmp 23) (.const (.int .i64 1))),
 gv 5 (.mv (.tmp 24))]
def c13l10 : DE := .seq (.seq (.reg c13r6) (.cond (.tmp 22) (.skip) (.exit 0))) (.join (.block 1 (.seq (.reg c13r7) (.cond (.tmp 32) (.reg c13r8) (.skip)))) (.reg c13r9))
def c13r11 : List GOp := [
 gv 6 (.mv (.const (.int .i64 0)))]
def c13r12 : List GOp := [
 gv 38 (.mv (.tmp 6)),
 gv 39 (.fadd 0 (.tmp 1)),
 gv 40 (.load 1 false (.tmp 39)),
 gv 41 (.len false (.tmp 40)),
 gv 42 (.bin .lss (.tmp 38) (.tmp 41))]
def c13r13 : List GOp := [
 gv 45 (.fadd 0 (.tmp 1)),
 gv 46 (.load 1 false (.tmp 45)),
 gv 47 (.mv (.tmp 6)),
 gv 48 (.idxA 8 (.tmp 46) (.tmp 47)),
 gv 49 (.fadd 2 (.tmp 48)),
 gv 50 (.load 1 false (.tmp 49)),
 gv 51 (.len false (.tmp 50)),
 gv 52 (.bin .gtr (.tmp 51) (.const (.int .i64 0))),
 gv 53 (.mv (.tmp 52)),
 gw 54 53 true (.load 1 true (.tmp 1)),
 gw 55 53 true (.mv (.tmp 6)),
 gw 56 53 true (.mv (.tmp 4)),
 gw 57 53 true (.call 32 [(.tmp 54), (.tmp 55), (.tmp 56)]),
 gv 58 (.pick (.tmp 53) (.tmp 57) (.const (.bool false)))]
def c13r14 : List GOp := [
 gv 60 (.load 1 true (.tmp 1)),
 gv 61 (.mv (.tmp 6)),
 gv 62 (.mv (.tmp 6)),
 gv 63 (.mv (.tmp 4)),
 gv 64 (.call 33 [(.tmp 60), (.tmp 61), (.tmp 62), (.tmp 63)]),
 gv 59 (.mv (.tmp 64)),
 gv 65 (.ext (.tmp 59) 0),
 gv 66 (.ext (.tmp 59) 1),
 gv 7 (.alloc 32 (.agg #[oz, oz, oz, oz, oz, oz, oz, oz, oz, oz])),
 ⟨none, .store 10 (.tmp 7) (.tmp 65), none⟩,
 gv 8 (.mv (.tmp 66))]
def c13r15 : List GOp := [
 gv 67 (.mv (.tmp 3)),
 gv 68 (.mv (.tmp 6)),
 gv 69 (.load 10 true (.tmp 7)),
 gv 70 (.build (.agg #[oz, oz, oz, oz, oz, oz, oz, oz, oz, oz, oz, oz, oz]) [((0, 1), (.const (.int .i64 2))), ((1, 1), (.tmp 68)), ((2, 1), (.const (.int .i64 (-1)))), ((3, 10), (.tmp 69))]),
 gv 71 (.bslice 35 13 1 (.agg #[oz, oz, oz, oz, oz, oz, oz, oz, oz, oz, oz, oz, oz]) [(0, (.tmp 70))]),
 gv 72 (.app 35 13 104 (.agg #[oz, oz, oz, oz, oz, oz, oz, oz, oz, oz, oz, oz, oz]) (.tmp 67) (.tmp 71)),
 gv 3 (.mv (.tmp 72))]
def c13r16 : List GOp := [
 gv 43 (.mv (.tmp 6)),
 gv 44 (.bin .add (.tmp 43) (.const (.int .i64 1))),
 gv 6 (.mv (.tmp 44))]
def c13l17 : DE := .seq (.seq (.reg c13r12) (.cond (.tmp 42) (.skip) (.exit 2))) (.join (.block 3 (.join (.reg c13r13) (.cond (.tmp 58) (.seq (.reg c13r14) (.reg c13r15)) (.skip)))) (.reg c13r16))
def c13r18 : List GOp := [
 gv 9 (.mv (.const (.int .i64 0)))]
def c13r19 : List GOp := [
 gv 73 (.mv (.tmp 9)),
 gv 74 (.fadd 0 (.tmp 1)),
 gv 75 (.load 1 false (.tmp 74)),
 gv 76 (.len false (.tmp 75)),
 gv 77 (.bin .lss (.tmp 73) (.tmp 76))]
def c13r20 : List GOp := [
 gv 10 (.mv (.const (.int .i64 0)))]
def c13r21 : List GOp := [
 gv 80 (.mv (.tmp 10)),
 gv 81 (.fadd 0 (.tmp 1)),
 gv 82 (.load 1 false (.tmp 81)),
 gv 83 (.len false (.tmp 82)),
 gv 84 (.bin .lss (.tmp 80) (.tmp 83))]
def c13r22 : List GOp := [
 gv 87 (.fadd 0 (.tmp 1)),
 gv 88 (.load 1 false (.tmp 87)),
 gv 89 (.mv (.tmp 9)),
 gv 90 (.idxA 8 (.tmp 88) (.tmp 89)),
 gv 91 (.fadd 0 (.tmp 90)),
 gv 92 (.load 1 false (.tmp 91)),
 gv 93 (.bin .eql (.tmp 92) (.const (.int .i64 1))),
 gv 94 (.mv (.tmp 93)),
 gw 95 94 true (.fadd 0 (.tmp 1)),
 gw 96 94 true (.load 1 false (.tmp 95)),
 gw 97 94 true (.mv (.tmp 10)),
 gw 98 94 true (.idxA 8 (.tmp 96) (.tmp 97)),
 gw 99 94 true (.fadd 0 (.tmp 98)),
 gw 100 94 true (.load 1 false (.tmp 99)),
 gw 101 94 true (.bin .eql (.tmp 100) (.const (.int .i64 2))),
 gv 102 (.pick (.tmp 94) (.tmp 101) (.const (.bool false)))]
def c13r23 : List GOp := [
 gv 104 (.load 1 true (.tmp 1)),
 gv 105 (.mv (.tmp 9)),
 gv 106 (.mv (.tmp 10)),
 gv 107 (.mv (.tmp 4)),
 gv 108 (.call 33 [(.tmp 104), (.tmp 105), (.tmp 106), (.tmp 107)]),
 gv 103 (.mv (.tmp 108)),
 gv 109 (.ext (.tmp 103) 0),
 gv 110 (.ext (.tmp 103) 1),
 gv 11 (.alloc 32 (.agg #[oz, oz, oz, oz, oz, oz, oz, oz, oz, oz])),
 ⟨none, .store 10 (.tmp 11) (.tmp 109), none⟩,
 gv 12 (.mv (.tmp 110))]
def c13r24 : List GOp := [
 gv 111 (.mv (.tmp 12))]
def c13r25 : List GOp := [
 gv 112 (.mv (.tmp 3)),
 gv 113 (.mv (.tmp 9)),
 gv 114 (.mv (.tmp 10)),
 gv 115 (.load 10 true (.tmp 11)),
 gv 116 (.build (.agg #[oz, oz, oz, oz, oz, oz, oz, oz, oz, oz, oz, oz, oz]) [((0, 1), (.const (.int .i64 3))), ((1, 1), (.tmp 113)), ((2, 1), (.tmp 114)), ((3, 10), (.tmp 115))]),
 gv 117 (.bslice 35 13 1 (.agg #[oz, oz, oz, oz, oz, oz, oz, oz, oz, oz, oz, oz, oz]) [(0, (.tmp 116))]),
 gv 118 (.app 35 13 104 (.agg #[oz, oz, oz, oz, oz, oz, oz, oz, oz, oz, oz, oz, oz]) (.tmp 112) (.tmp 117)),
 gv 3 (.mv (.tmp 118))]
def c13r26 : List GOp := [
 gv 85 (.mv (.tmp 10)),
 gv 86 (.bin .add (.tmp 85) (.const (.int .i64 1))),
 gv 10 (.mv (.tmp 86))]
def c13l27 : DE := .seq (.seq (.reg c13r21) (.cond (.tmp 84) (.skip) (.exit 6))) (.join (.block 7 (.join (.reg c13r22) (.cond (.tmp 102) (.seq (.reg c13r23) (.seq (.reg c13r24) (.cond (.tmp 111) (.reg c13r25) (.skip)))) (.skip)))) (.reg c13r26))
def c13r28 : List GOp := [
 gv 78 (.mv (.tmp 9)),
 gv 79 (.bin .add (.tmp 78) (.const (.int .i64 1))),
 gv 9 (.mv (.tmp 79))]
def c13l29 : DE := .seq (.seq (.reg c13r19) (.cond (.tmp 77) (.skip) (.exit 4))) (.join (.block 5 (.seq (.reg c13r20) (.block 6 (.loop c13l27)))) (.reg c13r28))
def c13r30 : List GOp := [
 gv 119 (.mv (.tmp 3)),
 gv 2 (.mv (.tmp 119))]
def c13 : EFn := ⟨120, .seq (.reg c13r0) (.seq (.seq (.reg c13r1) (.cond (.tmp 15) (.seq (.reg c13r2) (.ret)) (.skip))) (.seq (.reg c13r3) (.seq (.reg c13r4) (.join (.seq (.reg c13r5) (.block 0 (.loop c13l10))) (.join (.seq (.reg c13r11) (.block 2 (.loop c13l17))) (.join (.seq (.reg c13r18) (.block 4 (.loop c13l29))) (.seq (.reg c13r30) (.ret)))))))), [.tmp 2]⟩
theorem c13_ok : compF Try.prog 13 = some c13.er := by kernel_rfl
noncomputable def ref16_Findings_l2 (p : Policy) : ((List Finding) × Int) → Option (((List Finding) × Int) ⊕ ((List Finding)))
 | (out4, a5) =>
 bif (io.lt a5 (io.len (W eRule p.Rules))) then (
 Option.bind (
 Option.bind (idxG p.Rules a5) fun x7 =>
 bif (io.eq (io.len (W eA10Range x7.Zones)) 0) then (
 Option.bind (some [(Finding.mk 1 a5 (-1) (A10.mk 0 0 0 0 0 0 0 0 0 0))]) fun l8 =>
 Option.bind (appG out4 l8) fun out9 =>
 some out9
 ) else (
 some out4
 )
 ) fun out6 =>
 some (.inl (out6, (io.ar .add .i64 a5 1)))
 ) else (
 some (.inr out4)
 )
noncomputable def ref16_Findings_l4 (p : Policy) (all2 : (List (A10 Int))) : ((List Finding) × Int) → Option (((List Finding) × Int) ⊕ ((List Finding)))
 | (out11, a12) =>
 bif (io.lt a12 (io.len (W eRule p.Rules))) then (
 Option.bind (
 Option.bind (
 Option.bind (idxG p.Rules a12) fun x15 =>
 bif (io.lt 0 (io.len (W eA10Range x15.Zones))) then (
 Option.bind (ref16_Idle_g p a12 all2) fun v16 =>
 some v16
 ) else (
 some false
 )
 ) fun v14 =>
 bif v14 then (
 Option.bind (ref16_First_g p a12 a12 all2) fun v17 =>
 Option.bind (some [(Finding.mk 2 a12 (-1) v17.1)]) fun l18 =>
 Option.bind (appG out11 l18) fun out19 =>
 some out19
 ) else (
 some out11
 )
 ) fun out13 =>
 some (.inl (out13, (io.ar .add .i64 a12 1)))
 ) else (
 some (.inr out11)
 )
noncomputable def ref16_Findings_l18 (p : Policy) (a22 : Int) (all2 : (List (A10 Int))) : ((List Finding) × Int) → Option (((List Finding) × Int) ⊕ ((List Finding)))
 | (out24, b25) =>
 bif (io.lt b25 (io.len (W eRule p.Rules))) then (
 Option.bind (
 Option.bind (
 Option.bind (idxG p.Rules a22) fun x28 =>
 bif (io.eq x28.Kind 1) then (
 Option.bind (idxG p.Rules b25) fun x29 =>
 some (io.eq x29.Kind 2)
 ) else (
 some false
 )
 ) fun v27 =>
 bif v27 then (
 Option.bind (ref16_First_g p a22 b25 all2) fun v30 =>
 bif v30.2 then (
 Option.bind (some [(Finding.mk 3 a22 b25 v30.1)]) fun l31 =>
 Option.bind (appG out24 l31) fun out32 =>
 some out32
 ) else (
 some out24
 )
 ) else (
 some out24
 )
 ) fun out26 =>
 some (.inl (out26, (io.ar .add .i64 b25 1)))
 ) else (
 some (.inr out24)
 )
noncomputable def ref16_Findings_l16 (p : Policy) (all2 : (List (A10 Int))) : ((List Finding) × Int) → Option (((List Finding) × Int) ⊕ ((List Finding)))
 | (out21, a22) =>
 bif (io.lt a22 (io.len (W eRule p.Rules))) then (
 Option.bind (
 whileG (ref16_Findings_l18 p a22 all2) (out21, 0)
 ) fun out23 =>
 some (.inl (out23, (io.ar .add .i64 a22 1)))
 ) else (
 some (.inr out21)
 )
noncomputable def ref16_Findings_g (p : Policy) : Option ((List Finding)) :=
 Option.bind (ref13_Valid_g p) fun v1 =>
 bif (io.not v1) then (
 some []
 ) else (
 Option.bind (ref16_Facts_g p) fun all2 =>
 Option.bind (
 whileG (ref16_Findings_l2 p) ([], 0)
 ) fun out3 =>
 Option.bind (
 whileG (ref16_Findings_l4 p all2) (out3, 0)
 ) fun out10 =>
 Option.bind (
 whileG (ref16_Findings_l16 p all2) (out10, 0)
 ) fun out20 =>
 some out20
 )
set_option maxHeartbeats 4000000 in
theorem ref16_Findings_R {P : Program} (hP : P = Try.prog) (p : Policy) (r : (List Finding)) (h : ref16_Findings_g p = some r) : Fn1 P 13 [vPolicy p] (vLFinding r) := by
 refine .walkE (hP ▸ c13_ok) fun K hK => ?_
 unfold ref16_Findings_g at h
 cbv
 refine .g h (fun v hv => ref13_Valid_R hP _ v hv) aw_ rfl (fun _ => rfl) fun v1 h => ?_
 cbv
 refine brkG h ?_ ?_ <;> intro h
 · cbv
   obtain rfl := oj h
   exact hK _ _ aw_
 · cbv
   refine .g h (fun v hv => ref16_Facts_R hP _ v hv) aw_ rfl (fun _ => rfl) fun all2 h => ?_
   cbv
   refine .g h (fun (out3 : (List Finding)) => [.top, .ptr 0 0, .top, .hd 1, .d (.sl (W eA10Ii64 all2))] ++ rp 115 .top) (fun (out3 : (List Finding)) => [.cells [.d (.sl (W eRule p.Rules))] 24, .row 35 13 (W eFinding out3)]) (fun y hm Kn1 hKn1 => ?_) fun t h => ?_
   · have h := hm
     clear hm
     cbv
     refine .g h (fun ((out4, a5) : (List Finding) × Int) => [.top, .ptr 0 0, .top, .hd 1, .d (.sl (W eA10Ii64 all2)), oi a5] ++ rp 114 .top) (fun ((out4, a5) : (List Finding) × Int) => [.cells [.d (.sl (W eRule p.Rules))] 24, .row 35 13 (W eFinding out4)]) (.nilr 3 35 13 rfl (.nz (.mtE [0, 1] ?_))) fun s x h hr2 Kn2 hKn2 => ?_
     · (cbv; repeat (refine ⟨an_, ?_⟩; cbv))
     unfold ref16_Findings_l2 at h
     obtain ⟨out4, a5⟩ := s
     cbv
     refine brkG h ?_ ?_ <;> intro h
     · cbv
       refine .g h (fun (out6 : (List Finding)) => [.top, .ptr 0 0, .top, .hd 1, .d (.sl (W eA10Ii64 all2)), oi a5] ++ rp 114 .top) (fun (out6 : (List Finding)) => [.cells [.d (.sl (W eRule p.Rules))] 24, .row 35 13 (W eFinding out6)]) (fun y hm Kn3 hKn3 => ?_) fun t h => ?_
       · have h := hm
         clear hm
         cbv
         refine .g h (fun _ => rfl) fun x7 h => ?_
         cbv
         refine brkG h ?_ ?_ <;> intro h
         · cbv
           refine .g (e := eFinding) h (W_cons aw_ (W_nil' _)) fun l8 h => ?_
           cbv
           refine .g h rfl (fun _ => rfl) (by decide) fun out9 h => ?_
           cbv
           obtain rfl := oj h
           refine hKn3 _ _ _ rfl (.nz (.mtE [0, 3] ?_))
           (cbv; repeat (refine ⟨an_, ?_⟩; cbv))
         · cbv
           obtain rfl := oj h
           refine hKn3 _ _ _ rfl (.nz (.mtE [0, 1] ?_))
           (cbv; repeat (refine ⟨an_, ?_⟩; cbv))
       obtain ⟨out6, rfl⟩ : ∃ z, z = t := ⟨_, rfl⟩
       cbv
       obtain rfl := oj h
       refine hKn2 _ _ _ rfl (.nz (.mtE [0, 1] ?_))
       (cbv; repeat (refine ⟨an_, ?_⟩; cbv))
     · cbv
       obtain rfl := oj h
       obtain rfl := hr2 _ rfl
       refine hKn1 _ _ _ rfl (.nz (.mtE [0, 1] ?_))
       (cbv; repeat (refine ⟨an_, ?_⟩; cbv))
   obtain ⟨out3, rfl⟩ : ∃ z, z = t := ⟨_, rfl⟩
   cbv
   refine .g h (fun (out10 : (List Finding)) => [.top, .ptr 0 0, .top, .hd 1, .d (.sl (W eA10Ii64 all2))] ++ rp 115 .top) (fun (out10 : (List Finding)) => [.cells [.d (.sl (W eRule p.Rules))] 24, .row 35 13 (W eFinding out10)]) (fun y hm Kn1 hKn1 => ?_) fun t h => ?_
   · have h := hm
     clear hm
     cbv
     refine .g h (fun ((out11, a12) : (List Finding) × Int) => [.top, .ptr 0 0, .top, .hd 1, .d (.sl (W eA10Ii64 all2)), .top, oi a12] ++ rp 113 .top) (fun ((out11, a12) : (List Finding) × Int) => [.cells [.d (.sl (W eRule p.Rules))] 24, .row 35 13 (W eFinding out11)]) (.nz (.mtE [0, 1] ?_)) fun s x h hr2 Kn2 hKn2 => ?_
     · (cbv; repeat (refine ⟨an_, ?_⟩; cbv))
     unfold ref16_Findings_l4 at h
     obtain ⟨out11, a12⟩ := s
     cbv
     refine brkG h ?_ ?_ <;> intro h
     · cbv
       refine .g h (fun (out13 : (List Finding)) => [.top, .ptr 0 0, .top, .hd 1, .d (.sl (W eA10Ii64 all2)), .top, oi a12] ++ rp 113 .top) (fun (out13 : (List Finding)) => [.cells [.d (.sl (W eRule p.Rules))] 24, .row 35 13 (W eFinding out13)]) (fun y hm Kn3 hKn3 => ?_) fun t h => ?_
       · have h := hm
         clear hm
         cbv
         refine .g h (fun (v14 : Bool) => [.top, .ptr 0 0, .top, .hd 1, .d (.sl (W eA10Ii64 all2)), .top, oi a12] ++ rp 51 .top ++ [ob v14] ++ rp 61 .top) (fun (v14 : Bool) => [.cells [.d (.sl (W eRule p.Rules))] 24, .row 35 13 (W eFinding out11)]) (fun y hm Kn4 hKn4 => ?_) fun t h => ?_
         · have h := hm
           clear hm
           cbv
           refine .g h (fun _ => rfl) fun x15 h => ?_
           cbv
           refine brkG h ?_ ?_ <;> intro h
           · cbv
             refine .g h (fun v hv => ref16_Idle_R hP _ _ _ v hv) aw_ rfl (fun _ => rfl) fun v16 h => ?_
             cbv
             obtain rfl := oj h
             refine hKn4 _ _ _ rfl (.nz (.mtE [0, 1] ?_))
             (cbv; repeat (refine ⟨an_, ?_⟩; cbv))
           · cbv
             obtain rfl := oj h
             refine hKn4 _ _ _ rfl (.nz (.mtE [0, 1] ?_))
             (cbv; repeat (refine ⟨an_, ?_⟩; cbv))
         obtain ⟨v14, rfl⟩ : ∃ z, z = t := ⟨_, rfl⟩
         cbv
         refine brkG h ?_ ?_ <;> intro h
         · cbv
           refine .g h (fun v hv => ref16_First_R hP _ _ _ _ v hv) aw_ rfl (fun _ => rfl) fun v17 h => ?_
           cbv
           refine .g (e := eFinding) h (W_cons aw_ (W_nil' _)) fun l18 h => ?_
           cbv
           refine .g h rfl (fun _ => rfl) (by decide) fun out19 h => ?_
           cbv
           obtain rfl := oj h
           refine hKn3 _ _ _ rfl (.nz (.mtE [0, 4] ?_))
           (cbv; repeat (refine ⟨an_, ?_⟩; cbv))
         · cbv
           obtain rfl := oj h
           refine hKn3 _ _ _ rfl (.nz (.mtE [0, 1] ?_))
           (cbv; repeat (refine ⟨an_, ?_⟩; cbv))
       obtain ⟨out13, rfl⟩ : ∃ z, z = t := ⟨_, rfl⟩
       cbv
       obtain rfl := oj h
       refine hKn2 _ _ _ rfl (.nz (.mtE [0, 1] ?_))
       (cbv; repeat (refine ⟨an_, ?_⟩; cbv))
     · cbv
       obtain rfl := oj h
       obtain rfl := hr2 _ rfl
       refine hKn1 _ _ _ rfl (.nz (.mtE [0, 1] ?_))
       (cbv; repeat (refine ⟨an_, ?_⟩; cbv))
   obtain ⟨out10, rfl⟩ : ∃ z, z = t := ⟨_, rfl⟩
   cbv
   refine .g h (fun (out20 : (List Finding)) => rp 3 .top ++ [.hd 0] ++ rp 116 .top) (fun (out20 : (List Finding)) => [.row 35 13 (W eFinding out20)]) (fun y hm Kn1 hKn1 => ?_) fun t h => ?_
   · have h := hm
     clear hm
     cbv
     refine .g h (fun ((out21, a22) : (List Finding) × Int) => [.top, .ptr 0 0, .top, .hd 1, .d (.sl (W eA10Ii64 all2))] ++ rp 4 .top ++ [oi a22] ++ rp 110 .top) (fun ((out21, a22) : (List Finding) × Int) => [.cells [.d (.sl (W eRule p.Rules))] 24, .row 35 13 (W eFinding out21)]) (.nz (.mtE [0, 1] ?_)) fun s x h hr2 Kn2 hKn2 => ?_
     · (cbv; repeat (refine ⟨an_, ?_⟩; cbv))
     unfold ref16_Findings_l16 at h
     obtain ⟨out21, a22⟩ := s
     cbv
     refine brkG h ?_ ?_ <;> intro h
     · cbv
       refine .g h (fun (out23 : (List Finding)) => [.top, .ptr 0 0, .top, .hd 1, .d (.sl (W eA10Ii64 all2))] ++ rp 4 .top ++ [oi a22] ++ rp 110 .top) (fun (out23 : (List Finding)) => [.cells [.d (.sl (W eRule p.Rules))] 24, .row 35 13 (W eFinding out23)]) (fun y hm Kn3 hKn3 => ?_) fun t h => ?_
       · have h := hm
         clear hm
         cbv
         refine .g h (fun ((out24, b25) : (List Finding) × Int) => [.top, .ptr 0 0, .top, .hd 1, .d (.sl (W eA10Ii64 all2))] ++ rp 4 .top ++ [oi a22, oi b25] ++ rp 109 .top) (fun ((out24, b25) : (List Finding) × Int) => [.cells [.d (.sl (W eRule p.Rules))] 24, .row 35 13 (W eFinding out24)]) (.nz (.mtE [0, 1] ?_)) fun s x h hr4 Kn4 hKn4 => ?_
         · (cbv; repeat (refine ⟨an_, ?_⟩; cbv))
         unfold ref16_Findings_l18 at h
         obtain ⟨out24, b25⟩ := s
         cbv
         refine brkG h ?_ ?_ <;> intro h
         · cbv
           refine .g h (fun (out26 : (List Finding)) => [.top, .ptr 0 0, .top, .hd 1, .d (.sl (W eA10Ii64 all2))] ++ rp 4 .top ++ [oi a22, oi b25] ++ rp 109 .top) (fun (out26 : (List Finding)) => [.cells [.d (.sl (W eRule p.Rules))] 24, .row 35 13 (W eFinding out26)]) (fun y hm Kn5 hKn5 => ?_) fun t h => ?_
           · have h := hm
             clear hm
             cbv
             refine .g h (fun (v27 : Bool) => [.top, .ptr 0 0, .top, .hd 1, .d (.sl (W eA10Ii64 all2))] ++ rp 4 .top ++ [oi a22, oi b25] ++ rp 91 .top ++ [ob v27] ++ rp 17 .top) (fun (v27 : Bool) => [.cells [.d (.sl (W eRule p.Rules))] 24, .row 35 13 (W eFinding out24)]) (fun y hm Kn6 hKn6 => ?_) fun t h => ?_
             · have h := hm
               clear hm
               cbv
               refine .g h (fun _ => rfl) fun x28 h => ?_
               cbv
               refine brkG h ?_ ?_ <;> intro h
               · cbv
                 refine .g h (fun _ => rfl) fun x29 h => ?_
                 cbv
                 obtain rfl := oj h
                 refine hKn6 _ _ _ rfl (.nz (.mtE [0, 1] ?_))
                 (cbv; repeat (refine ⟨an_, ?_⟩; cbv))
               · cbv
                 obtain rfl := oj h
                 refine hKn6 _ _ _ rfl (.nz (.mtE [0, 1] ?_))
                 (cbv; repeat (refine ⟨an_, ?_⟩; cbv))
             obtain ⟨v27, rfl⟩ : ∃ z, z = t := ⟨_, rfl⟩
             cbv
             refine brkG h ?_ ?_ <;> intro h
             · cbv
               refine .g h (fun v hv => ref16_First_R hP _ _ _ _ v hv) aw_ rfl (fun _ => rfl) fun v30 h => ?_
               cbv
               refine brkG h ?_ ?_ <;> intro h
               · cbv
                 refine .g (e := eFinding) h (W_cons aw_ (W_nil' _)) fun l31 h => ?_
                 cbv
                 refine .g h rfl (fun _ => rfl) (by decide) fun out32 h => ?_
                 cbv
                 obtain rfl := oj h
                 refine hKn5 _ _ _ rfl (.nz (.mtE [0, 4] ?_))
                 (cbv; repeat (refine ⟨an_, ?_⟩; cbv))
               · cbv
                 obtain rfl := oj h
                 refine hKn5 _ _ _ rfl (.nz (.mtE [0, 1] ?_))
                 (cbv; repeat (refine ⟨an_, ?_⟩; cbv))
             · cbv
               obtain rfl := oj h
               refine hKn5 _ _ _ rfl (.nz (.mtE [0, 1] ?_))
               (cbv; repeat (refine ⟨an_, ?_⟩; cbv))
           obtain ⟨out26, rfl⟩ : ∃ z, z = t := ⟨_, rfl⟩
           cbv
           obtain rfl := oj h
           refine hKn4 _ _ _ rfl (.nz (.mtE [0, 1] ?_))
           (cbv; repeat (refine ⟨an_, ?_⟩; cbv))
         · cbv
           obtain rfl := oj h
           obtain rfl := hr4 _ rfl
           refine hKn3 _ _ _ rfl (.nz (.mtE [0, 1] ?_))
           (cbv; repeat (refine ⟨an_, ?_⟩; cbv))
       obtain ⟨out23, rfl⟩ : ∃ z, z = t := ⟨_, rfl⟩
       cbv
       obtain rfl := oj h
       refine hKn2 _ _ _ rfl (.nz (.mtE [0, 1] ?_))
       (cbv; repeat (refine ⟨an_, ?_⟩; cbv))
     · cbv
       obtain rfl := oj h
       obtain rfl := hr2 _ rfl
       refine hKn1 _ _ _ rfl (.nz (.mtE [1] ?_))
       (cbv; repeat (refine ⟨an_, ?_⟩; cbv))
   obtain ⟨out20, rfl⟩ : ∃ z, z = t := ⟨_, rfl⟩
   cbv
   obtain rfl := oj h
   exact hK _ _ aw_
end Go.SX.Cl
namespace Go.SX.Cl
open Go Go.SX Go.Proofs
set_option maxRecDepth 100000
def c23r0 : List GOp := [
 gv 6 (.mv (.const (.slice none 0 0)))]
def c23r1 : List GOp := [
 gv 8 (.call 22 []),
 gv 7 (.alloc 54 (.agg #[oz, oz, oz, oz, oz, oz, oz, oz, oz, oz, oz, oz, oz, oz, oz, oz, oz, oz, oz, oz])),
 ⟨none, .store 20 (.tmp 7) (.tmp 8), none⟩]
def c23r2 : List GOp := [
 gv 9 (.mv (.tmp 0)),
 gv 10 (.mv (.tmp 1)),
 gv 11 (.mv (.tmp 2)),
 gv 12 (.build (.agg #[oz, oz]) [((0, 1), (.tmp 10)), ((1, 1), (.tmp 11))]),
 gv 13 (.idxP 10 2 (.tmp 7) (.tmp 9)),
 ⟨none, .store 2 (.tmp 13) (.tmp 12), none⟩]
def c23r3 : List GOp := [
 gv 14 (.load 20 true (.tmp 7)),
 gv 15 (.bslice 54 20 1 (.agg #[oz, oz, oz, oz, oz, oz, oz, oz, oz, oz, oz, oz, oz, oz, oz, oz, oz, oz, oz, oz]) [(0, (.tmp 14))]),
 gv 6 (.mv (.tmp 15))]
def c23 : EFn := ⟨16, .seq (.reg c23r0) (.seq (.reg c23r1) (.join (.reg c23r2) (.seq (.reg c23r3) (.ret)))), [.tmp 6]⟩
theorem c23_ok : compF Try.prog 23 = some c23.er := by kernel_rfl
noncomputable def law16_zone_g (attr : Int) (lo : Int) (hi : Int) : Option ((List (A10 Range))) :=
 Option.bind (resolve_Limits_g) fun v1 =>
 Option.bind (
 Option.bind (pixG 10 attr) fun i3 =>
 some (v1.put i3 (Range.mk lo hi))
 ) fun z2 =>
 Option.bind (some [z2]) fun l4 =>
 some l4
set_option maxHeartbeats 4000000 in
theorem law16_zone_R {P : Program} (hP : P = Try.prog) (attr : Int) (lo : Int) (hi : Int) (r : (List (A10 Range))) (h : law16_zone_g attr lo hi = some r) : Fn1 P 23 [vIi64 attr, vIi64 lo, vIi64 hi] (vLA10Range r) := by
 refine .walkE (hP ▸ c23_ok) fun K hK => ?_
 unfold law16_zone_g at h
 cbv
 refine .g h (fun v hv => resolve_Limits_R hP v hv) aw_ rfl (fun _ => rfl) fun v1 h => ?_
 cbv
 refine .g h (fun (z2 : (A10 Range)) => rp 7 .top ++ [.ptr 0 0] ++ rp 8 .top) (fun (z2 : (A10 Range)) => [.cells [oi z2.a0.Lo, oi z2.a0.Hi, oi z2.a1.Lo, oi z2.a1.Hi, oi z2.a2.Lo, oi z2.a2.Hi, oi z2.a3.Lo, oi z2.a3.Hi, oi z2.a4.Lo, oi z2.a4.Hi, oi z2.a5.Lo, oi z2.a5.Hi, oi z2.a6.Lo, oi z2.a6.Hi, oi z2.a7.Lo, oi z2.a7.Hi, oi z2.a8.Lo, oi z2.a8.Hi, oi z2.a9.Lo, oi z2.a9.Hi] 54]) (fun y hm Kn1 hKn1 => ?_) fun t h => ?_
 · have h := hm
   clear hm
   cbv
   refine .c10 h ?_ ?_ ?_ ?_ ?_ ?_ ?_ ?_ ?_ ?_ <;> (
     intro hni3 h
     cbv
     obtain rfl := oj h
     refine hKn1 _ _ _ rfl (.nz (.mtE [0] ?_))
     (cbv; repeat (refine ⟨an_, ?_⟩; cbv))
     )
 obtain ⟨z2, rfl⟩ : ∃ z, z = t := ⟨_, rfl⟩
 cbv
 refine .g (e := eA10Range) h (W_cons aw_ (W_nil' _)) fun l4 h => ?_
 cbv
 obtain rfl := oj h
 exact hK _ _ aw_
end Go.SX.Cl
