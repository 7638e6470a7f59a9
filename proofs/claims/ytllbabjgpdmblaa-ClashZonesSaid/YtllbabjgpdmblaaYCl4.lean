/- Parts of the proof. -/
import Derived.Test.YtllbabjgpdmblaaYClT
import Derived.Test.YtllbabjgpdmblaaYCl24
import Derived.Test.YtllbabjgpdmblaaYCl12
import Derived.Test.YtllbabjgpdmblaaYCl15
import Derived.Test.YtllbabjgpdmblaaYCl16
import Derived.Test.YtllbabjgpdmblaaYCl18
import Derived.Test.YtllbabjgpdmblaaYClP12
namespace Go.SX.Cl
open Go Go.SX Go.Proofs
set_option maxRecDepth 100000
def c4r0 : List GOp := [
 gv 2 (.box 24 (.tmp 0)),
 gv 3 (.box 32 (.tmp 1)),
 gv 4 (.mv (.const (.bool false)))]
def c4r1 : List GOp := [
 gv 10 (.call 9 []),
 gv 5 (.mv (.tmp 10))]
def c4r2 : List GOp := [
 gv 11 (.load 1 true (.tmp 2)),
 gv 12 (.call 10 [(.tmp 11), (.const (.int .i64 12))]),
 gv 13 (.un .not (.tmp 12)),
 gv 14 (.mv (.tmp 13)),
 gw 15 14 false (.load 10 true (.tmp 3)),
 gw 16 14 false (.call 14 [(.tmp 15)]),
 gw 17 14 false (.un .not (.tmp 16)),
 gv 18 (.pick (.tmp 14) (.const (.bool true)) (.tmp 17))]
def c4r3 : List GOp := [
 gv 19 (.mv (.tmp 5)),
 gv 4 (.mv (.tmp 19))]
def c4r4 : List GOp := [
 gv 20 (.load 1 true (.tmp 2)),
 gv 21 (.call 12 [(.tmp 20)]),
 gv 6 (.mv (.tmp 21))]
def c4r5 : List GOp := [
 gv 7 (.mv (.const (.int .i64 0)))]
def c4r6 : List GOp := [
 gv 22 (.mv (.tmp 7)),
 gv 23 (.mv (.tmp 6)),
 gv 24 (.len false (.tmp 23)),
 gv 25 (.bin .lss (.tmp 22) (.tmp 24))]
def c4r7 : List GOp := [
 gv 28 (.mv (.tmp 6)),
 gv 29 (.mv (.tmp 7)),
 gv 30 (.idxA 13 (.tmp 28) (.tmp 29)),
 gv 31 (.load 13 true (.tmp 30)),
 gv 8 (.alloc 35 (.agg #[oz, oz, oz, oz, oz, oz, oz, oz, oz, oz, oz, oz, oz])),
 ⟨none, .store 13 (.tmp 8) (.tmp 31), none⟩]
def c4r8 : List GOp := [
 gv 32 (.fadd 1 (.tmp 8)),
 gv 33 (.load 1 false (.tmp 32)),
 gv 34 (.bin .lss (.tmp 33) (.const (.int .i64 0))),
 gv 35 (.mv (.tmp 34)),
 gw 36 35 false (.fadd 1 (.tmp 8)),
 gw 37 35 false (.load 1 false (.tmp 36)),
 gw 38 35 false (.fadd 0 (.tmp 2)),
 gw 39 35 false (.load 1 false (.tmp 38)),
 gw 40 35 false (.len false (.tmp 39)),
 gw 41 35 false (.bin .geq (.tmp 37) (.tmp 40)),
 gv 42 (.pick (.tmp 35) (.const (.bool true)) (.tmp 41)),
 gv 43 (.mv (.tmp 42)),
 gw 44 43 false (.fadd 2 (.tmp 8)),
 gw 45 43 false (.load 1 false (.tmp 44)),
 gw 46 43 false (.bin .geq (.tmp 45) (.const (.int .i64 0))),
 gw 47 43 false (.fadd 0 (.tmp 8)),
 gw 48 43 false (.load 1 false (.tmp 47)),
 gw 49 43 false (.bin .eql (.tmp 48) (.const (.int .i64 3))),
 gw 50 43 false (.beq true [] (.tmp 46) (.tmp 49)),
 gv 51 (.pick (.tmp 43) (.const (.bool true)) (.tmp 50)),
 gv 52 (.mv (.tmp 51)),
 gw 53 52 false (.fadd 2 (.tmp 8)),
 gw 54 52 false (.load 1 false (.tmp 53)),
 gw 55 52 false (.fadd 0 (.tmp 2)),
 gw 56 52 false (.load 1 false (.tmp 55)),
 gw 57 52 false (.len false (.tmp 56)),
 gw 58 52 false (.bin .geq (.tmp 54) (.tmp 57)),
 gv 59 (.pick (.tmp 52) (.const (.bool true)) (.tmp 58))]
def c4r9 : List GOp := [
 gv 4 (.mv (.const (.bool false)))]
def c4r10 : List GOp := [
 gv 60 (.fadd 0 (.tmp 8)),
 gv 61 (.load 1 false (.tmp 60)),
 gv 62 (.bin .eql (.tmp 61) (.const (.int .i64 1)))]
def c4r11 : List GOp := [
 gv 63 (.fadd 0 (.tmp 2)),
 gv 64 (.load 1 false (.tmp 63)),
 gv 65 (.fadd 1 (.tmp 8)),
 gv 66 (.load 1 false (.tmp 65)),
 gv 67 (.idxA 8 (.tmp 64) (.tmp 66)),
 gv 68 (.load 8 true (.tmp 67)),
 gv 69 (.load 10 true (.tmp 3)),
 gv 70 (.call 15 [(.tmp 68), (.tmp 69)]),
 gv 71 (.mv (.tmp 70)),
 gw 72 71 false (.fadd 3 (.tmp 8)),
 gw 73 71 false (.load 10 true (.tmp 72)),
 gw 74 71 false (.build (.agg #[oz, oz, oz, oz, oz, oz, oz, oz, oz, oz]) []),
 gw 75 71 false (.beq true [.int, .int, .int, .int, .int, .int, .int, .int, .int, .int] (.tmp 73) (.tmp 74)),
 gv 76 (.pick (.tmp 71) (.const (.bool true)) (.tmp 75))]
def c4r12 : List GOp := [
 gv 4 (.mv (.const (.bool false)))]
def c4r13 : List GOp := [
 gv 77 (.fadd 2 (.tmp 8)),
 gv 78 (.load 1 false (.tmp 77)),
 gv 79 (.fadd 1 (.tmp 8)),
 gv 80 (.load 1 false (.tmp 79)),
 gv 81 (.mm true (.tmp 78) [(.tmp 80)]),
 gv 9 (.mv (.tmp 81))]
def c4r14 : List GOp := [
 gv 82 (.fadd 2 (.tmp 8)),
 gv 83 (.load 1 false (.tmp 82)),
 gv 84 (.bin .geq (.tmp 83) (.const (.int .i64 0)))]
def c4r15 : List GOp := [
 gv 85 (.fadd 2 (.tmp 8)),
 gv 86 (.load 1 false (.tmp 85)),
 gv 9 (.mv (.tmp 86))]
def c4r16 : List GOp := [
 gv 87 (.fadd 0 (.tmp 2)),
 gv 88 (.load 1 false (.tmp 87)),
 gv 89 (.fadd 1 (.tmp 8)),
 gv 90 (.load 1 false (.tmp 89)),
 gv 91 (.idxA 8 (.tmp 88) (.tmp 90)),
 gv 92 (.load 8 true (.tmp 91)),
 gv 93 (.fadd 3 (.tmp 8)),
 gv 94 (.load 10 true (.tmp 93)),
 gv 95 (.call 15 [(.tmp 92), (.tmp 94)]),
 gv 96 (.un .not (.tmp 95)),
 gv 97 (.mv (.tmp 96)),
 gw 98 97 false (.fadd 0 (.tmp 2)),
 gw 99 97 false (.load 1 false (.tmp 98)),
 gw 100 97 false (.mv (.tmp 9)),
 gw 101 97 false (.idxA 8 (.tmp 99) (.tmp 100)),
 gw 102 97 false (.load 8 true (.tmp 101)),
 gw 103 97 false (.fadd 3 (.tmp 8)),
 gw 104 97 false (.load 10 true (.tmp 103)),
 gw 105 97 false (.call 15 [(.tmp 102), (.tmp 104)]),
 gw 106 97 false (.un .not (.tmp 105)),
 gv 107 (.pick (.tmp 97) (.const (.bool true)) (.tmp 106)),
 gv 108 (.mv (.tmp 107)),
 gw 109 108 false (.fadd 3 (.tmp 8)),
 gw 110 108 false (.load 10 true (.tmp 109)),
 gw 111 108 false (.call 14 [(.tmp 110)]),
 gw 112 108 false (.un .not (.tmp 111)),
 gv 113 (.pick (.tmp 108) (.const (.bool true)) (.tmp 112)),
 gv 114 (.mv (.tmp 113)),
 gw 115 114 false (.load 10 true (.tmp 3)),
 gw 116 114 false (.fadd 3 (.tmp 8)),
 gw 117 114 false (.load 10 true (.tmp 116)),
 gw 118 114 false (.call 16 [(.tmp 115), (.tmp 117)]),
 gw 119 114 false (.mv (.tmp 118)),
 gw 120 119 true (.fadd 0 (.tmp 2)),
 gw 121 119 true (.load 1 false (.tmp 120)),
 gw 122 119 true (.fadd 1 (.tmp 8)),
 gw 123 119 true (.load 1 false (.tmp 122)),
 gw 124 119 true (.idxA 8 (.tmp 121) (.tmp 123)),
 gw 125 119 true (.load 8 true (.tmp 124)),
 gw 126 119 true (.load 10 true (.tmp 3)),
 gw 127 119 true (.call 15 [(.tmp 125), (.tmp 126)]),
 gw 128 114 false (.pick (.tmp 119) (.tmp 127) (.const (.bool false))),
 gw 129 114 false (.mv (.tmp 128)),
 gw 130 129 true (.fadd 0 (.tmp 2)),
 gw 131 129 true (.load 1 false (.tmp 130)),
 gw 132 129 true (.mv (.tmp 9)),
 gw 133 129 true (.idxA 8 (.tmp 131) (.tmp 132)),
 gw 134 129 true (.load 8 true (.tmp 133)),
 gw 135 129 true (.load 10 true (.tmp 3)),
 gw 136 129 true (.call 15 [(.tmp 134), (.tmp 135)]),
 gw 137 114 false (.pick (.tmp 129) (.tmp 136) (.const (.bool false))),
 gv 138 (.pick (.tmp 114) (.const (.bool true)) (.tmp 137))]
def c4r17 : List GOp := [
 gv 4 (.mv (.const (.bool false)))]
def c4r18 : List GOp := [
 gv 139 (.fadd 0 (.tmp 8)),
 gv 140 (.load 1 false (.tmp 139)),
 gv 141 (.bin .eql (.tmp 140) (.const (.int .i64 2))),
 gv 142 (.mv (.tmp 141)),
 gw 143 142 true (.load 1 true (.tmp 2)),
 gw 144 142 true (.load 10 true (.tmp 3)),
 gw 145 142 true (.call 18 [(.tmp 143), (.tmp 144)]),
 gw 146 142 true (.load 1 true (.tmp 2)),
 gw 147 142 true (.fadd 1 (.tmp 8)),
 gw 148 142 true (.load 1 false (.tmp 147)),
 gw 149 142 true (.call 19 [(.tmp 146), (.tmp 148)]),
 gw 150 142 true (.load 10 true (.tmp 3)),
 gw 151 142 true (.call 18 [(.tmp 149), (.tmp 150)]),
 gw 152 142 true (.call 17 [(.tmp 145), (.tmp 151)]),
 gw 153 142 true (.un .not (.tmp 152)),
 gv 154 (.pick (.tmp 142) (.tmp 153) (.const (.bool false)))]
def c4r19 : List GOp := [
 gv 4 (.mv (.const (.bool false)))]
def c4r20 : List GOp := [
 gv 26 (.mv (.tmp 7)),
 gv 27 (.bin .add (.tmp 26) (.const (.int .i64 1))),
 gv 7 (.mv (.tmp 27))]
def c4l21 : DE := .seq (.seq (.reg c4r6) (.cond (.tmp 25) (.skip) (.exit 0))) (.join (.block 1 (.seq (.reg c4r7) (.seq (.join (.reg c4r8) (.cond (.tmp 59) (.seq (.reg c4r9) (.ret)) (.skip))) (.seq (.seq (.reg c4r10) (.cond (.tmp 62) (.seq (.join (.par false false false 12 c4r11) (.cond (.tmp 76) (.seq (.reg c4r12) (.ret)) (.skip))) (.exit 1)) (.skip))) (.seq (.reg c4r13) (.join (.seq (.reg c4r14) (.cond (.tmp 84) (.reg c4r15) (.skip))) (.seq (.join (.par false false false 49 c4r16) (.cond (.tmp 138) (.seq (.reg c4r17) (.ret)) (.skip))) (.join (.par false false false 12 c4r18) (.cond (.tmp 154) (.seq (.reg c4r19) (.ret)) (.skip)))))))))) (.reg c4r20))
def c4r22 : List GOp := [
 gv 155 (.mv (.tmp 5)),
 gv 4 (.mv (.tmp 155))]
def c4 : EFn := ⟨156, .seq (.reg c4r0) (.seq (.reg c4r1) (.seq (.join (.reg c4r2) (.cond (.tmp 18) (.seq (.reg c4r3) (.ret)) (.skip))) (.seq (.reg c4r4) (.join (.seq (.reg c4r5) (.block 0 (.loop c4l21))) (.seq (.reg c4r22) (.ret)))))), [.tmp 4]⟩
theorem c4_ok : compF Try.prog 4 = some c4.er := by kernel_rfl
noncomputable def law16_ClashShown_l2 (l5 : (List Finding)) (p : Policy) (f : (A10 Int)) : Int → Option ((Int) ⊕ ((Unit) ⊕ (Bool)))
 | i6 =>
 bif (io.lt i6 (io.len (W eFinding l5))) then (
 orR (
 Option.bind (idxG l5 i6) fun x7 =>
 Option.bind (
 bif (io.lt x7.A 0) then (
 some true
 ) else (
 bif (io.le (io.len (W eRule p.Rules)) x7.A) then (
 some true
 ) else (
 bif (io.beq true (io.le 0 x7.B) (io.eq x7.Kind 3)) then (
 some true
 ) else (
 some (io.le (io.len (W eRule p.Rules)) x7.B)
 )
 )
 )
 ) fun v8 =>
 bif v8 then (
 some (.inr (.inr (.inr false)))
 ) else (
 bif (io.eq x7.Kind 1) then (
 Option.bind (
 Option.bind (idxG p.Rules x7.A) fun x10 =>
 Option.bind (decide_Holds_g x10 f) fun v11 =>
 bif v11 then (
 some true
 ) else (
 some (io.not (qA10Ii64 x7.Example (A10.mk 0 0 0 0 0 0 0 0 0 0)))
 )
 ) fun v9 =>
 bif v9 then (
 some (.inr (.inr (.inr false)))
 ) else (
 some (.inl ())
 )
 ) else (
 Option.bind (
 bif (io.le 0 x7.B) then (
 some x7.B
 ) else (
 some (io.mm true x7.B x7.A)
 )
 ) fun b12 =>
 Option.bind (
 Option.bind (idxG p.Rules x7.A) fun x14 =>
 Option.bind (decide_Holds_g x14 x7.Example) fun v15 =>
 bif (io.not v15) then (
 some true
 ) else (
 Option.bind (idxG p.Rules b12) fun x16 =>
 Option.bind (decide_Holds_g x16 x7.Example) fun v17 =>
 bif (io.not v17) then (
 some true
 ) else (
 Option.bind (law16_within_g x7.Example) fun v18 =>
 bif (io.not v18) then (
 some true
 ) else (
 Option.bind (law16_least_g f x7.Example) fun v19 =>
 bif v19 then (
 Option.bind (idxG p.Rules x7.A) fun x20 =>
 Option.bind (decide_Holds_g x20 f) fun v21 =>
 bif v21 then (
 Option.bind (idxG p.Rules b12) fun x22 =>
 Option.bind (decide_Holds_g x22 f) fun v23 =>
 some v23
 ) else (
 some false
 )
 ) else (
 some false
 )
 )
 )
 )
 ) fun v13 =>
 bif v13 then (
 some (.inr (.inr (.inr false)))
 ) else (
 Option.bind (
 bif (io.eq x7.Kind 2) then (
 Option.bind (decide_Decide_g p f) fun v25 =>
 Option.bind (ref16_Without_g p x7.A) fun v26 =>
 Option.bind (decide_Decide_g v26 f) fun v27 =>
 Option.bind (ref13_Like_g v25 v27) fun v28 =>
 some (io.not v28)
 ) else (
 some false
 )
 ) fun v24 =>
 bif v24 then (
 some (.inr (.inr (.inr false)))
 ) else (
 some (.inl ())
 )
 )
 )
 )
 ) fun _ =>
 some (.inl (io.ar .add .i64 i6 1))
 ) else (
 some (.inr (.inl ()))
 )
noncomputable def law16_ClashShown_g (p : Policy) (f : (A10 Int)) : Option (Bool) :=
 Option.bind (law16_head_g) fun up1 =>
 Option.bind (
 Option.bind (law16_few_g p 12) fun v3 =>
 bif (io.not v3) then (
 some true
 ) else (
 Option.bind (law16_within_g f) fun v4 =>
 some (io.not v4)
 )
 ) fun v2 =>
 bif v2 then (
 some up1
 ) else (
 Option.bind (clash_Findings_g p) fun l5 =>
 orR (
 whileG (law16_ClashShown_l2 l5 p f) 0
 ) fun _ =>
 some up1
 )
set_option maxHeartbeats 4000000 in
theorem law16_ClashShown_R {P : Program} (hP : P = Try.prog) (p : Policy) (f : (A10 Int)) (r : Bool) (h : law16_ClashShown_g p f = some r) : Fn1 P 4 [vPolicy p, vA10Ii64 f] (vB r) := by
 refine .walkE (hP ▸ c4_ok) fun K hK => ?_
 unfold law16_ClashShown_g at h
 cbv
 refine .g h (fun v hv => law16_head_R hP v hv) (by first | rfl | exact W_nil _ | (cbv; simp only [W_nilx])) rfl (fun _ => rfl) fun up1 h => ?_
 cbv
 refine .g h (fun (v2 : Bool) => [.top, .top, .ptr 0 0, .ptr 1 0, .top, ob up1] ++ rp 12 .top ++ [ob v2] ++ rp 137 .top) (fun (v2 : Bool) => [.cells [.d (.sl (W eRule p.Rules))] 24, .cells [oi f.a0, oi f.a1, oi f.a2, oi f.a3, oi f.a4, oi f.a5, oi f.a6, oi f.a7, oi f.a8, oi f.a9] 32]) (fun y hm Kn1 hKn1 => ?_) fun t h => ?_
 · have h := hm
   clear hm
   cbv
   refine .g h (fun v hv => law16_few_R hP _ _ v hv) (by first | rfl | exact W_nil _ | (cbv; simp only [W_nilx])) rfl (fun _ => rfl) fun v3 h => ?_
   cbv
   refine brkG h (fun h => ?_) (fun h => ?_)
   · cbv
     obtain rfl := oj h
     refine hKn1 _ _ _ rfl (.nz (.mtE [0, 1] ?_))
     (cbv; repeat (refine ⟨an_, ?_⟩; cbv))
   · cbv
     refine .g h (fun v hv => law16_within_R hP _ v hv) (by first | rfl | exact W_nil _ | (cbv; simp only [W_nilx])) rfl (fun _ => rfl) fun v4 h => ?_
     cbv
     obtain rfl := oj h
     refine hKn1 _ _ _ rfl (.nz (.mtE [0, 1] ?_))
     (cbv; repeat (refine ⟨an_, ?_⟩; cbv))
 obtain ⟨v2, rfl⟩ : ∃ z, z = t := ⟨_, rfl⟩
 cbv
 refine brkG h (fun h => ?_) (fun h => ?_)
 · cbv
   obtain rfl := oj h
   exact hK _ _ (by first | rfl | exact W_nil _ | (cbv; simp only [W_nilx]))
 · cbv
   refine .g h (fun v hv => clash_Findings_R hP _ v hv) (by first | rfl | exact W_nil _ | (cbv; simp only [W_nilx])) rfl (fun _ => rfl) fun l5 h => ?_
   cbv
   refine .ga h (fun (_ : Unit) => rp 5 .top ++ [ob up1] ++ rp 150 .top) (fun (_ : Unit) => []) (fun y hm hr1 Kn1 hKn1 => ?_) fun t h => ?_
   · have h := hm
     clear hm
     cbv
     refine .g h (fun (i6 : Int) => [.top, .top, .ptr 0 0, .ptr 1 0, .top, ob up1, .d (.sl (W eFinding l5)), oi i6] ++ rp 148 .top) (fun (i6 : Int) => [.cells [.d (.sl (W eRule p.Rules))] 24, .cells [oi f.a0, oi f.a1, oi f.a2, oi f.a3, oi f.a4, oi f.a5, oi f.a6, oi f.a7, oi f.a8, oi f.a9] 32]) (.nz (.mtE [0, 1] ?_)) fun s x h hr2 Kn2 hKn2 => ?_
     · (cbv; repeat (refine ⟨an_, ?_⟩; cbv))
     unfold law16_ClashShown_l2 at h
     obtain ⟨i6, rfl⟩ : ∃ z, z = s := ⟨_, rfl⟩
     cbv
     refine brkG h (fun h => ?_) (fun h => ?_)
     · cbv
       refine .ga h (fun (_ : Unit) => [.top, .top, .ptr 0 0, .ptr 1 0, .top, ob up1, .d (.sl (W eFinding l5)), oi i6] ++ rp 148 .top) (fun (_ : Unit) => [.cells [.d (.sl (W eRule p.Rules))] 24, .cells [oi f.a0, oi f.a1, oi f.a2, oi f.a3, oi f.a4, oi f.a5, oi f.a6, oi f.a7, oi f.a8, oi f.a9] 32]) (fun y hm hr3 Kn3 hKn3 => ?_) fun t h => ?_
       · have h := hm
         clear hm
         cbv
         refine .g h (fun _ => rfl) fun x7 h => ?_
         cbv
         refine .g h (fun (v8 : Bool) => [.top, .top, .ptr 0 0, .ptr 1 0, .top, ob up1, .d (.sl (W eFinding l5)), oi i6, .ptr 2 0] ++ rp 50 .top ++ [ob v8] ++ rp 96 .top) (fun (v8 : Bool) => [.cells [.d (.sl (W eRule p.Rules))] 24, .cells [oi f.a0, oi f.a1, oi f.a2, oi f.a3, oi f.a4, oi f.a5, oi f.a6, oi f.a7, oi f.a8, oi f.a9] 32, .cells [oi x7.Kind, oi x7.A, oi x7.B, oi x7.Example.a0, oi x7.Example.a1, oi x7.Example.a2, oi x7.Example.a3, oi x7.Example.a4, oi x7.Example.a5, oi x7.Example.a6, oi x7.Example.a7, oi x7.Example.a8, oi x7.Example.a9] 35]) (fun y hm Kn4 hKn4 => ?_) fun t h => ?_
         · have h := hm
           clear hm
           cbv
           refine brkG h (fun h => ?_) (fun h => ?_)
           · cbv
             obtain rfl := oj h
             refine hKn4 _ _ _ rfl (.nz (.mtE [0, 1, 2] ?_))
             (cbv; repeat (refine ⟨an_, ?_⟩; cbv))
           · cbv
             refine brkG h (fun h => ?_) (fun h => ?_)
             · cbv
               obtain rfl := oj h
               refine hKn4 _ _ _ rfl (.nz (.mtE [0, 1, 2] ?_))
               (cbv; repeat (refine ⟨an_, ?_⟩; cbv))
             · cbv
               refine brkG h (fun h => ?_) (fun h => ?_)
               · cbv
                 obtain rfl := oj h
                 refine hKn4 _ _ _ rfl (.nz (.mtE [0, 1, 2] ?_))
                 (cbv; repeat (refine ⟨an_, ?_⟩; cbv))
               · cbv
                 obtain rfl := oj h
                 refine hKn4 _ _ _ rfl (.nz (.mtE [0, 1, 2] ?_))
                 (cbv; repeat (refine ⟨an_, ?_⟩; cbv))
         obtain ⟨v8, rfl⟩ : ∃ z, z = t := ⟨_, rfl⟩
         cbv
         refine brkG h (fun h => ?_) (fun h => ?_)
         · cbv
           obtain rfl := oj h
           obtain rfl := hr3 _ rfl
           obtain rfl := hr2 _ rfl
           obtain rfl := hr1 _ rfl
           exact hK _ _ (by first | rfl | exact W_nil _ | (cbv; simp only [W_nilx]))
         · cbv
           refine brkG h (fun h => ?_) (fun h => ?_)
           · cbv
             refine .g h (fun (v9 : Bool) => [.top, .top, .ptr 0 0, .ptr 1 0, .top, ob up1, .d (.sl (W eFinding l5)), oi i6] ++ rp 68 .top ++ [ob v9] ++ rp 79 .top) (fun (v9 : Bool) => [.cells [.d (.sl (W eRule p.Rules))] 24, .cells [oi f.a0, oi f.a1, oi f.a2, oi f.a3, oi f.a4, oi f.a5, oi f.a6, oi f.a7, oi f.a8, oi f.a9] 32]) (fun y hm Kn4 hKn4 => ?_) fun t h => ?_
             · have h := hm
               clear hm
               cbv
               refine .g h (fun _ => rfl) fun x10 h => ?_
               cbv
               refine .g h (fun v hv => decide_Holds_R hP _ _ v hv) (by first | rfl | exact W_nil _ | (cbv; simp only [W_nilx])) rfl (fun _ => rfl) fun v11 h => ?_
               cbv
               refine brkG h (fun h => ?_) (fun h => ?_)
               · cbv
                 obtain rfl := oj h
                 refine hKn4 _ _ _ rfl (.nz (.mtE [0, 1] ?_))
                 (cbv; repeat (refine ⟨an_, ?_⟩; cbv))
               · cbv
                 obtain rfl := oj h
                 refine hKn4 _ _ _ rfl (.nz (.mtE [0, 1] ?_))
                 (cbv; repeat (refine ⟨an_, ?_⟩; cbv))
             obtain ⟨v9, rfl⟩ : ∃ z, z = t := ⟨_, rfl⟩
             cbv
             refine brkG h (fun h => ?_) (fun h => ?_)
             · cbv
               obtain rfl := oj h
               obtain rfl := hr3 _ rfl
               obtain rfl := hr2 _ rfl
               obtain rfl := hr1 _ rfl
               exact hK _ _ (by first | rfl | exact W_nil _ | (cbv; simp only [W_nilx]))
             · cbv
               obtain rfl := oj h
               refine hKn3 _ _ _ rfl (.nz (.mtE [0, 1] ?_))
               (cbv; repeat (refine ⟨an_, ?_⟩; cbv))
           · cbv
             refine .g h (fun (b12 : Int) => [.top, .top, .ptr 0 0, .ptr 1 0, .top, ob up1, .d (.sl (W eFinding l5)), oi i6, .ptr 2 0, oi b12] ++ rp 146 .top) (fun (b12 : Int) => [.cells [.d (.sl (W eRule p.Rules))] 24, .cells [oi f.a0, oi f.a1, oi f.a2, oi f.a3, oi f.a4, oi f.a5, oi f.a6, oi f.a7, oi f.a8, oi f.a9] 32, .cells [oi x7.Kind, oi x7.A, oi x7.B, oi x7.Example.a0, oi x7.Example.a1, oi x7.Example.a2, oi x7.Example.a3, oi x7.Example.a4, oi x7.Example.a5, oi x7.Example.a6, oi x7.Example.a7, oi x7.Example.a8, oi x7.Example.a9] 35]) (fun y hm Kn4 hKn4 => ?_) fun t h => ?_
             · have h := hm
               clear hm
               cbv
               refine brkG h (fun h => ?_) (fun h => ?_)
               · cbv
                 obtain rfl := oj h
                 refine hKn4 _ _ _ rfl (.nz (.mtE [0, 1, 2] ?_))
                 (cbv; repeat (refine ⟨an_, ?_⟩; cbv))
               · cbv
                 obtain rfl := oj h
                 refine hKn4 _ _ _ rfl (.nz (.mtE [0, 1, 2] ?_))
                 (cbv; repeat (refine ⟨an_, ?_⟩; cbv))
             obtain ⟨b12, rfl⟩ : ∃ z, z = t := ⟨_, rfl⟩
             cbv
             refine .g h (fun (v13 : Bool) => [.top, .top, .ptr 0 0, .ptr 1 0, .top, ob up1, .d (.sl (W eFinding l5)), oi i6, .ptr 2 0] ++ rp 129 .top ++ [ob v13] ++ rp 17 .top) (fun (v13 : Bool) => [.cells [.d (.sl (W eRule p.Rules))] 24, .cells [oi f.a0, oi f.a1, oi f.a2, oi f.a3, oi f.a4, oi f.a5, oi f.a6, oi f.a7, oi f.a8, oi f.a9] 32, .cells [oi x7.Kind, oi x7.A, oi x7.B, oi x7.Example.a0, oi x7.Example.a1, oi x7.Example.a2, oi x7.Example.a3, oi x7.Example.a4, oi x7.Example.a5, oi x7.Example.a6, oi x7.Example.a7, oi x7.Example.a8, oi x7.Example.a9] 35]) (fun y hm Kn4 hKn4 => ?_) fun t h => ?_
             · have h := hm
               clear hm
               cbv
               refine .g h (fun _ => rfl) fun x14 h => ?_
               cbv
               refine .g h (fun v hv => decide_Holds_R hP _ _ v hv) (by first | rfl | exact W_nil _ | (cbv; simp only [W_nilx])) rfl (fun _ => rfl) fun v15 h => ?_
               cbv
               refine brkG h (fun h => ?_) (fun h => ?_)
               · cbv
                 obtain rfl := oj h
                 refine hKn4 _ _ _ rfl (.nz (.mtE [0, 1, 2] ?_))
                 (cbv; repeat (refine ⟨an_, ?_⟩; cbv))
               · cbv
                 refine .g h (fun _ => rfl) fun x16 h => ?_
                 cbv
                 refine .g h (fun v hv => decide_Holds_R hP _ _ v hv) (by first | rfl | exact W_nil _ | (cbv; simp only [W_nilx])) rfl (fun _ => rfl) fun v17 h => ?_
                 cbv
                 refine brkG h (fun h => ?_) (fun h => ?_)
                 · cbv
                   obtain rfl := oj h
                   refine hKn4 _ _ _ rfl (.nz (.mtE [0, 1, 2] ?_))
                   (cbv; repeat (refine ⟨an_, ?_⟩; cbv))
                 · cbv
                   refine .g h (fun v hv => law16_within_R hP _ v hv) (by first | rfl | exact W_nil _ | (cbv; simp only [W_nilx])) rfl (fun _ => rfl) fun v18 h => ?_
                   cbv
                   refine brkG h (fun h => ?_) (fun h => ?_)
                   · cbv
                     obtain rfl := oj h
                     refine hKn4 _ _ _ rfl (.nz (.mtE [0, 1, 2] ?_))
                     (cbv; repeat (refine ⟨an_, ?_⟩; cbv))
                   · cbv
                     refine .g h (fun v hv => law16_least_R hP _ _ v hv) (by first | rfl | exact W_nil _ | (cbv; simp only [W_nilx])) rfl (fun _ => rfl) fun v19 h => ?_
                     cbv
                     refine brkG h (fun h => ?_) (fun h => ?_)
                     · cbv
                       refine .g h (fun _ => rfl) fun x20 h => ?_
                       cbv
                       refine .g h (fun v hv => decide_Holds_R hP _ _ v hv) (by first | rfl | exact W_nil _ | (cbv; simp only [W_nilx])) rfl (fun _ => rfl) fun v21 h => ?_
                       cbv
                       refine brkG h (fun h => ?_) (fun h => ?_)
                       · cbv
                         refine .g h (fun _ => rfl) fun x22 h => ?_
                         cbv
                         refine .g h (fun v hv => decide_Holds_R hP _ _ v hv) (by first | rfl | exact W_nil _ | (cbv; simp only [W_nilx])) rfl (fun _ => rfl) fun v23 h => ?_
                         cbv
                         obtain rfl := oj h
                         refine hKn4 _ _ _ rfl (.nz (.mtE [0, 1, 2] ?_))
                         (cbv; repeat (refine ⟨an_, ?_⟩; cbv))
                       · cbv
                         obtain rfl := oj h
                         refine hKn4 _ _ _ rfl (.nz (.mtE [0, 1, 2] ?_))
                         (cbv; repeat (refine ⟨an_, ?_⟩; cbv))
                     · cbv
                       obtain rfl := oj h
                       refine hKn4 _ _ _ rfl (.nz (.mtE [0, 1, 2] ?_))
                       (cbv; repeat (refine ⟨an_, ?_⟩; cbv))
             obtain ⟨v13, rfl⟩ : ∃ z, z = t := ⟨_, rfl⟩
             cbv
             refine brkG h (fun h => ?_) (fun h => ?_)
             · cbv
               obtain rfl := oj h
               obtain rfl := hr3 _ rfl
               obtain rfl := hr2 _ rfl
               obtain rfl := hr1 _ rfl
               exact hK _ _ (by first | rfl | exact W_nil _ | (cbv; simp only [W_nilx]))
             · cbv
               refine .g h (fun (v24 : Bool) => [.top, .top, .ptr 0 0, .ptr 1 0, .top, ob up1, .d (.sl (W eFinding l5)), oi i6] ++ rp 146 .top ++ [ob v24, .top]) (fun (v24 : Bool) => [.cells [.d (.sl (W eRule p.Rules))] 24, .cells [oi f.a0, oi f.a1, oi f.a2, oi f.a3, oi f.a4, oi f.a5, oi f.a6, oi f.a7, oi f.a8, oi f.a9] 32]) (fun y hm Kn4 hKn4 => ?_) fun t h => ?_
               · have h := hm
                 clear hm
                 cbv
                 refine brkG h (fun h => ?_) (fun h => ?_)
                 · cbv
                   refine .g h (fun v hv => decide_Decide_R hP _ _ v hv) (by first | rfl | exact W_nil _ | (cbv; simp only [W_nilx])) rfl (fun _ => rfl) fun v25 h => ?_
                   cbv
                   refine .g h (fun v hv => ref16_Without_R hP _ _ v hv) (by first | rfl | exact W_nil _ | (cbv; simp only [W_nilx])) rfl (fun _ => rfl) fun v26 h => ?_
                   cbv
                   refine .g h (fun v hv => decide_Decide_R hP _ _ v hv) (by first | rfl | exact W_nil _ | (cbv; simp only [W_nilx])) rfl (fun _ => rfl) fun v27 h => ?_
                   cbv
                   refine .g h (fun v hv => ref13_Like_R hP _ _ v hv) (by first | rfl | exact W_nil _ | (cbv; simp only [W_nilx])) rfl (fun _ => rfl) fun v28 h => ?_
                   cbv
                   obtain rfl := oj h
                   refine hKn4 _ _ _ rfl (.nz (.mtE [0, 1] ?_))
                   (cbv; repeat (refine ⟨an_, ?_⟩; cbv))
                 · cbv
                   obtain rfl := oj h
                   refine hKn4 _ _ _ rfl (.nz (.mtE [0, 1] ?_))
                   (cbv; repeat (refine ⟨an_, ?_⟩; cbv))
               obtain ⟨v24, rfl⟩ : ∃ z, z = t := ⟨_, rfl⟩
               cbv
               refine brkG h (fun h => ?_) (fun h => ?_)
               · cbv
                 obtain rfl := oj h
                 obtain rfl := hr3 _ rfl
                 obtain rfl := hr2 _ rfl
                 obtain rfl := hr1 _ rfl
                 exact hK _ _ (by first | rfl | exact W_nil _ | (cbv; simp only [W_nilx]))
               · cbv
                 obtain rfl := oj h
                 refine hKn3 _ _ _ rfl (.nz (.mtE [0, 1] ?_))
                 (cbv; repeat (refine ⟨an_, ?_⟩; cbv))
       cbv
       obtain rfl := oj h
       refine hKn2 _ _ _ rfl (.nz (.mtE [0, 1] ?_))
       (cbv; repeat (refine ⟨an_, ?_⟩; cbv))
     · cbv
       obtain rfl := oj h
       obtain rfl := hr2 _ rfl
       refine hKn1 _ _ _ rfl (.nz (.mtE [] ?_))
       (cbv; repeat (refine ⟨an_, ?_⟩; cbv))
   cbv
   obtain rfl := oj h
   exact hK _ _ (by first | rfl | exact W_nil _ | (cbv; simp only [W_nilx]))
end Go.SX.Cl
