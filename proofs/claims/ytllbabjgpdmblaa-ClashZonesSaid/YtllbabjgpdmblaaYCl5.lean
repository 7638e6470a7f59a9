/- Parts of the proof. -/
import Derived.Test.YtllbabjgpdmblaaYClT
import Derived.Test.YtllbabjgpdmblaaYCl24
import Derived.Test.YtllbabjgpdmblaaYCl12
import Derived.Test.YtllbabjgpdmblaaYCl15
import Derived.Test.YtllbabjgpdmblaaYCl16
import Derived.Test.YtllbabjgpdmblaaYCl18
import Derived.Test.YtllbabjgpdmblaaYCl20
import Derived.Test.YtllbabjgpdmblaaYClP12
namespace Go.SX.Cl
open Go Go.SX Go.Proofs
set_option maxRecDepth 100000
def c5r0 : List GOp := [
 gv 2 (.box 24 (.tmp 0)),
 gv 3 (.box 32 (.tmp 1)),
 gv 4 (.mv (.const (.bool false)))]
def c5r1 : List GOp := [
 gv 10 (.call 9 []),
 gv 5 (.mv (.tmp 10))]
def c5r2 : List GOp := [
 gv 11 (.load 1 true (.tmp 2)),
 gv 12 (.call 10 [(.tmp 11), (.const (.int .i64 12))]),
 gv 13 (.un .not (.tmp 12)),
 gv 14 (.mv (.tmp 13)),
 gw 15 14 false (.load 10 true (.tmp 3)),
 gw 16 14 false (.call 14 [(.tmp 15)]),
 gw 17 14 false (.un .not (.tmp 16)),
 gv 18 (.pick (.tmp 14) (.const (.bool true)) (.tmp 17)),
 gv 19 (.mv (.tmp 18)),
 gw 20 19 false (.load 1 true (.tmp 2)),
 gw 21 19 false (.call 20 [(.tmp 20)]),
 gw 22 19 false (.un .not (.tmp 21)),
 gv 23 (.pick (.tmp 19) (.const (.bool true)) (.tmp 22))]
def c5r3 : List GOp := [
 gv 24 (.mv (.tmp 5)),
 gv 4 (.mv (.tmp 24))]
def c5r4 : List GOp := [
 gv 25 (.load 1 true (.tmp 2)),
 gv 26 (.call 12 [(.tmp 25)]),
 gv 6 (.mv (.tmp 26))]
def c5r5 : List GOp := [
 gv 7 (.mv (.const (.int .i64 0)))]
def c5r6 : List GOp := [
 gv 27 (.mv (.tmp 7)),
 gv 28 (.fadd 0 (.tmp 2)),
 gv 29 (.load 1 false (.tmp 28)),
 gv 30 (.len false (.tmp 29)),
 gv 31 (.bin .lss (.tmp 27) (.tmp 30))]
def c5r7 : List GOp := [
 gv 8 (.mv (.const (.int .i64 0)))]
def c5r8 : List GOp := [
 gv 34 (.mv (.tmp 8)),
 gv 35 (.fadd 0 (.tmp 2)),
 gv 36 (.load 1 false (.tmp 35)),
 gv 37 (.len false (.tmp 36)),
 gv 38 (.bin .lss (.tmp 34) (.tmp 37))]
def c5r9 : List GOp := [
 gv 41 (.fadd 0 (.tmp 2)),
 gv 42 (.load 1 false (.tmp 41)),
 gv 43 (.mv (.tmp 7)),
 gv 44 (.idxA 8 (.tmp 42) (.tmp 43)),
 gv 45 (.fadd 0 (.tmp 44)),
 gv 46 (.load 1 false (.tmp 45)),
 gv 47 (.bin .eql (.tmp 46) (.const (.int .i64 1))),
 gv 48 (.mv (.tmp 47)),
 gw 49 48 true (.fadd 0 (.tmp 2)),
 gw 50 48 true (.load 1 false (.tmp 49)),
 gw 51 48 true (.mv (.tmp 8)),
 gw 52 48 true (.idxA 8 (.tmp 50) (.tmp 51)),
 gw 53 48 true (.fadd 0 (.tmp 52)),
 gw 54 48 true (.load 1 false (.tmp 53)),
 gw 55 48 true (.bin .eql (.tmp 54) (.const (.int .i64 2))),
 gv 56 (.pick (.tmp 48) (.tmp 55) (.const (.bool false))),
 gv 57 (.mv (.tmp 56)),
 gw 58 57 true (.fadd 0 (.tmp 2)),
 gw 59 57 true (.load 1 false (.tmp 58)),
 gw 60 57 true (.mv (.tmp 7)),
 gw 61 57 true (.idxA 8 (.tmp 59) (.tmp 60)),
 gw 62 57 true (.load 8 true (.tmp 61)),
 gw 63 57 true (.load 10 true (.tmp 3)),
 gw 64 57 true (.call 15 [(.tmp 62), (.tmp 63)]),
 gv 65 (.pick (.tmp 57) (.tmp 64) (.const (.bool false))),
 gv 66 (.mv (.tmp 65)),
 gw 67 66 true (.fadd 0 (.tmp 2)),
 gw 68 66 true (.load 1 false (.tmp 67)),
 gw 69 66 true (.mv (.tmp 8)),
 gw 70 66 true (.idxA 8 (.tmp 68) (.tmp 69)),
 gw 71 66 true (.load 8 true (.tmp 70)),
 gw 72 66 true (.load 10 true (.tmp 3)),
 gw 73 66 true (.call 15 [(.tmp 71), (.tmp 72)]),
 gv 74 (.pick (.tmp 66) (.tmp 73) (.const (.bool false))),
 gv 75 (.mv (.tmp 74)),
 gw 76 75 true (.mv (.tmp 6)),
 gw 77 75 true (.mv (.tmp 7)),
 gw 78 75 true (.mv (.tmp 8)),
 gw 79 75 true (.call 21 [(.tmp 76), (.const (.int .i64 3)), (.tmp 77), (.tmp 78)]),
 gw 80 75 true (.un .not (.tmp 79)),
 gv 81 (.pick (.tmp 75) (.tmp 80) (.const (.bool false)))]
def c5r10 : List GOp := [
 gv 4 (.mv (.const (.bool false)))]
def c5r11 : List GOp := [
 gv 39 (.mv (.tmp 8)),
 gv 40 (.bin .add (.tmp 39) (.const (.int .i64 1))),
 gv 8 (.mv (.tmp 40))]
def c5l12 : DE := .seq (.seq (.reg c5r8) (.cond (.tmp 38) (.skip) (.exit 2))) (.seq (.block 3 (.join (.par false false false 38 c5r9) (.cond (.tmp 81) (.seq (.reg c5r10) (.ret)) (.skip)))) (.reg c5r11))
def c5r13 : List GOp := [
 gv 82 (.load 1 true (.tmp 2)),
 gv 83 (.load 10 true (.tmp 3)),
 gv 84 (.call 18 [(.tmp 82), (.tmp 83)]),
 gv 85 (.load 1 true (.tmp 2)),
 gv 86 (.mv (.tmp 7)),
 gv 87 (.call 19 [(.tmp 85), (.tmp 86)]),
 gv 88 (.load 10 true (.tmp 3)),
 gv 89 (.call 18 [(.tmp 87), (.tmp 88)]),
 gv 90 (.call 17 [(.tmp 84), (.tmp 89)]),
 gv 91 (.un .not (.tmp 90)),
 gv 9 (.mv (.tmp 91))]
def c5r14 : List GOp := [
 gv 92 (.mv (.tmp 9)),
 gv 93 (.mv (.tmp 92)),
 gw 94 93 true (.mv (.tmp 6)),
 gw 95 93 true (.mv (.tmp 7)),
 gw 96 93 true (.call 21 [(.tmp 94), (.const (.int .i64 2)), (.tmp 95), (.const (.int .i64 (-1)))]),
 gw 97 93 true (.mv (.tmp 96)),
 gw 98 97 false (.mv (.tmp 6)),
 gw 99 97 false (.mv (.tmp 7)),
 gw 100 97 false (.call 21 [(.tmp 98), (.const (.int .i64 1)), (.tmp 99), (.const (.int .i64 (-1)))]),
 gw 101 93 true (.pick (.tmp 97) (.const (.bool true)) (.tmp 100)),
 gv 102 (.pick (.tmp 93) (.tmp 101) (.const (.bool false)))]
def c5r15 : List GOp := [
 gv 4 (.mv (.const (.bool false)))]
def c5r16 : List GOp := [
 gv 32 (.mv (.tmp 7)),
 gv 33 (.bin .add (.tmp 32) (.const (.int .i64 1))),
 gv 7 (.mv (.tmp 33))]
def c5l17 : DE := .seq (.seq (.reg c5r6) (.cond (.tmp 31) (.skip) (.exit 0))) (.join (.block 1 (.join (.seq (.reg c5r7) (.block 2 (.loop c5l12))) (.seq (.par false false false 7 c5r13) (.join (.reg c5r14) (.cond (.tmp 102) (.seq (.reg c5r15) (.ret)) (.skip)))))) (.reg c5r16))
def c5r18 : List GOp := [
 gv 103 (.mv (.tmp 5)),
 gv 4 (.mv (.tmp 103))]
def c5 : EFn := ⟨104, .seq (.reg c5r0) (.seq (.reg c5r1) (.seq (.join (.reg c5r2) (.cond (.tmp 23) (.seq (.reg c5r3) (.ret)) (.skip))) (.seq (.reg c5r4) (.join (.seq (.reg c5r5) (.block 0 (.loop c5l17))) (.seq (.reg c5r18) (.ret)))))), [.tmp 4]⟩
theorem c5_ok : compF Try.prog 5 = some c5.er := by kernel_rfl
noncomputable def law16_ClashMisses_l26 (p : Policy) (a7 : Int) (f : (A10 Int)) (l6 : (List Finding)) : Int → Option ((Int) ⊕ ((Unit) ⊕ ((Unit) ⊕ ((Int) ⊕ ((Unit) ⊕ (Bool))))))
 | b8 =>
 bif (io.lt b8 (io.len (W eRule p.Rules))) then (
 Option.bind (
 Option.bind (idxG p.Rules a7) fun x10 =>
 bif (io.eq x10.Kind 1) then (
 Option.bind (idxG p.Rules b8) fun x11 =>
 bif (io.eq x11.Kind 2) then (
 Option.bind (idxG p.Rules a7) fun x12 =>
 Option.bind (decide_Holds_g x12 f) fun v13 =>
 bif v13 then (
 Option.bind (idxG p.Rules b8) fun x14 =>
 Option.bind (decide_Holds_g x14 f) fun v15 =>
 bif v15 then (
 Option.bind (law16_about_g l6 3 a7 b8) fun v16 =>
 some (io.not v16)
 ) else (
 some false
 )
 ) else (
 some false
 )
 ) else (
 some false
 )
 ) else (
 some false
 )
 ) fun v9 =>
 bif v9 then (
 some (.inr (.inr (.inr (.inr (.inr false)))))
 ) else (
 some (.inl (io.ar .add .i64 b8 1))
 )
 ) else (
 some (.inr (.inl ()))
 )
noncomputable def law16_ClashMisses_l22 (p : Policy) (f : (A10 Int)) (l6 : (List Finding)) : Int → Option ((Int) ⊕ ((Unit) ⊕ (Bool)))
 | a7 =>
 bif (io.lt a7 (io.len (W eRule p.Rules))) then (
 orR (
 orR (
 whileG (law16_ClashMisses_l26 p a7 f l6) 0
 ) fun _ =>
 Option.bind (decide_Decide_g p f) fun v17 =>
 Option.bind (ref16_Without_g p a7) fun v18 =>
 Option.bind (decide_Decide_g v18 f) fun v19 =>
 Option.bind (ref13_Like_g v17 v19) fun v20 =>
 Option.bind (
 bif (io.not v20) then (
 Option.bind (law16_about_g l6 2 a7 (-1)) fun v22 =>
 bif v22 then (
 some true
 ) else (
 Option.bind (law16_about_g l6 1 a7 (-1)) fun v23 =>
 some v23
 )
 ) else (
 some false
 )
 ) fun v21 =>
 bif v21 then (
 some (.inr (.inr (.inr false)))
 ) else (
 some (.inl ())
 )
 ) fun _ =>
 some (.inl (io.ar .add .i64 a7 1))
 ) else (
 some (.inr (.inl ()))
 )
noncomputable def law16_ClashMisses_g (p : Policy) (f : (A10 Int)) : Option (Bool) :=
 Option.bind (law16_head_g) fun up1 =>
 Option.bind (
 Option.bind (law16_few_g p 12) fun v3 =>
 bif (io.not v3) then (
 some true
 ) else (
 Option.bind (law16_within_g f) fun v4 =>
 bif (io.not v4) then (
 some true
 ) else (
 Option.bind (decide_Valid_g p) fun v5 =>
 some (io.not v5)
 )
 )
 ) fun v2 =>
 bif v2 then (
 some up1
 ) else (
 Option.bind (clash_Findings_g p) fun l6 =>
 orR (
 whileG (law16_ClashMisses_l22 p f l6) 0
 ) fun _ =>
 some up1
 )
set_option maxHeartbeats 4000000 in
theorem law16_ClashMisses_R {P : Program} (hP : P = Try.prog) (p : Policy) (f : (A10 Int)) (r : Bool) (h : law16_ClashMisses_g p f = some r) : Fn1 P 5 [vPolicy p, vA10Ii64 f] (vB r) := by
 refine .walkE (hP ▸ c5_ok) fun K hK => ?_
 unfold law16_ClashMisses_g at h
 cbv
 refine .g h (fun v hv => law16_head_R hP v hv) (by first | rfl | exact W_nil _ | (cbv; simp only [W_nilx])) rfl (fun _ => rfl) fun up1 h => ?_
 cbv
 refine .g h (fun (v2 : Bool) => [.top, .top, .ptr 0 0, .ptr 1 0, .top, ob up1] ++ rp 17 .top ++ [ob v2] ++ rp 80 .top) (fun (v2 : Bool) => [.cells [.d (.sl (W eRule p.Rules))] 24, .cells [oi f.a0, oi f.a1, oi f.a2, oi f.a3, oi f.a4, oi f.a5, oi f.a6, oi f.a7, oi f.a8, oi f.a9] 32]) (fun y hm Kn1 hKn1 => ?_) fun t h => ?_
 · have h := hm
   clear hm
   cbv
   refine .g h (fun v hv => law16_few_R hP _ _ v hv) (by first | rfl | exact W_nil _ | (cbv; simp only [W_nilx])) rfl (fun _ => rfl) fun v3 h => ?_
   cbv
   refine brkG h (fun h => ?_) (fun h => ?_)
   · cbv
     obtain rfl := oj h
     refine hKn1 _ _ _ rfl (.nz (.mtE [0, 1] ?_))
     (cbv; repeat (refine ⟨an_, ?_⟩; cbv))
   · cbv
     refine .g h (fun v hv => law16_within_R hP _ v hv) (by first | rfl | exact W_nil _ | (cbv; simp only [W_nilx])) rfl (fun _ => rfl) fun v4 h => ?_
     cbv
     refine brkG h (fun h => ?_) (fun h => ?_)
     · cbv
       obtain rfl := oj h
       refine hKn1 _ _ _ rfl (.nz (.mtE [0, 1] ?_))
       (cbv; repeat (refine ⟨an_, ?_⟩; cbv))
     · cbv
       refine .g h (fun v hv => decide_Valid_R hP _ v hv) (by first | rfl | exact W_nil _ | (cbv; simp only [W_nilx])) rfl (fun _ => rfl) fun v5 h => ?_
       cbv
       obtain rfl := oj h
       refine hKn1 _ _ _ rfl (.nz (.mtE [0, 1] ?_))
       (cbv; repeat (refine ⟨an_, ?_⟩; cbv))
 obtain ⟨v2, rfl⟩ : ∃ z, z = t := ⟨_, rfl⟩
 cbv
 refine brkG h (fun h => ?_) (fun h => ?_)
 · cbv
   obtain rfl := oj h
   exact hK _ _ (by first | rfl | exact W_nil _ | (cbv; simp only [W_nilx]))
 · cbv
   refine .g h (fun v hv => clash_Findings_R hP _ v hv) (by first | rfl | exact W_nil _ | (cbv; simp only [W_nilx])) rfl (fun _ => rfl) fun l6 h => ?_
   cbv
   refine .ga h (fun (_ : Unit) => rp 5 .top ++ [ob up1] ++ rp 98 .top) (fun (_ : Unit) => []) (fun y hm hr1 Kn1 hKn1 => ?_) fun t h => ?_
   · have h := hm
     clear hm
     cbv
     refine .g h (fun (a7 : Int) => [.top, .top, .ptr 0 0, .ptr 1 0, .top, ob up1, .d (.sl (W eFinding l6)), oi a7] ++ rp 96 .top) (fun (a7 : Int) => [.cells [.d (.sl (W eRule p.Rules))] 24, .cells [oi f.a0, oi f.a1, oi f.a2, oi f.a3, oi f.a4, oi f.a5, oi f.a6, oi f.a7, oi f.a8, oi f.a9] 32]) (.nz (.mtE [0, 1] ?_)) fun s x h hr2 Kn2 hKn2 => ?_
     · (cbv; repeat (refine ⟨an_, ?_⟩; cbv))
     unfold law16_ClashMisses_l22 at h
     obtain ⟨a7, rfl⟩ : ∃ z, z = s := ⟨_, rfl⟩
     cbv
     refine brkG h (fun h => ?_) (fun h => ?_)
     · cbv
       refine .ga h (fun (_ : Unit) => [.top, .top, .ptr 0 0, .ptr 1 0, .top, ob up1, .d (.sl (W eFinding l6)), oi a7] ++ rp 96 .top) (fun (_ : Unit) => [.cells [.d (.sl (W eRule p.Rules))] 24, .cells [oi f.a0, oi f.a1, oi f.a2, oi f.a3, oi f.a4, oi f.a5, oi f.a6, oi f.a7, oi f.a8, oi f.a9] 32]) (fun y hm hr3 Kn3 hKn3 => ?_) fun t h => ?_
       · have h := hm
         clear hm
         cbv
         refine .ga h (fun (_ : Unit) => [.top, .top, .ptr 0 0, .ptr 1 0, .top, ob up1, .d (.sl (W eFinding l6)), oi a7] ++ rp 96 .top) (fun (_ : Unit) => [.cells [.d (.sl (W eRule p.Rules))] 24, .cells [oi f.a0, oi f.a1, oi f.a2, oi f.a3, oi f.a4, oi f.a5, oi f.a6, oi f.a7, oi f.a8, oi f.a9] 32]) (fun y hm hr4 Kn4 hKn4 => ?_) fun t h => ?_
         · have h := hm
           clear hm
           cbv
           refine .g h (fun (b8 : Int) => [.top, .top, .ptr 0 0, .ptr 1 0, .top, ob up1, .d (.sl (W eFinding l6)), oi a7, oi b8] ++ rp 95 .top) (fun (b8 : Int) => [.cells [.d (.sl (W eRule p.Rules))] 24, .cells [oi f.a0, oi f.a1, oi f.a2, oi f.a3, oi f.a4, oi f.a5, oi f.a6, oi f.a7, oi f.a8, oi f.a9] 32]) (.nz (.mtE [0, 1] ?_)) fun s x h hr5 Kn5 hKn5 => ?_
           · (cbv; repeat (refine ⟨an_, ?_⟩; cbv))
           unfold law16_ClashMisses_l26 at h
           obtain ⟨b8, rfl⟩ : ∃ z, z = s := ⟨_, rfl⟩
           cbv
           refine brkG h (fun h => ?_) (fun h => ?_)
           · cbv
             refine .g h (fun (v9 : Bool) => [.top, .top, .ptr 0 0, .ptr 1 0, .top, ob up1, .d (.sl (W eFinding l6)), oi a7, oi b8] ++ rp 72 .top ++ [ob v9] ++ rp 22 .top) (fun (v9 : Bool) => [.cells [.d (.sl (W eRule p.Rules))] 24, .cells [oi f.a0, oi f.a1, oi f.a2, oi f.a3, oi f.a4, oi f.a5, oi f.a6, oi f.a7, oi f.a8, oi f.a9] 32]) (fun y hm Kn6 hKn6 => ?_) fun t h => ?_
             · have h := hm
               clear hm
               cbv
               refine .g h (fun _ => rfl) fun x10 h => ?_
               cbv
               refine brkG h (fun h => ?_) (fun h => ?_)
               · cbv
                 refine .g h (fun _ => rfl) fun x11 h => ?_
                 cbv
                 refine brkG h (fun h => ?_) (fun h => ?_)
                 · cbv
                   refine .g h (fun _ => rfl) fun x12 h => ?_
                   cbv
                   refine .g h (fun v hv => decide_Holds_R hP _ _ v hv) (by first | rfl | exact W_nil _ | (cbv; simp only [W_nilx])) rfl (fun _ => rfl) fun v13 h => ?_
                   cbv
                   refine brkG h (fun h => ?_) (fun h => ?_)
                   · cbv
                     refine .g h (fun _ => rfl) fun x14 h => ?_
                     cbv
                     refine .g h (fun v hv => decide_Holds_R hP _ _ v hv) (by first | rfl | exact W_nil _ | (cbv; simp only [W_nilx])) rfl (fun _ => rfl) fun v15 h => ?_
                     cbv
                     refine brkG h (fun h => ?_) (fun h => ?_)
                     · cbv
                       refine .g h (fun v hv => law16_about_R hP _ _ _ _ v hv) (by first | rfl | exact W_nil _ | (cbv; simp only [W_nilx])) rfl (fun _ => rfl) fun v16 h => ?_
                       cbv
                       obtain rfl := oj h
                       refine hKn6 _ _ _ rfl (.nz (.mtE [0, 1] ?_))
                       (cbv; repeat (refine ⟨an_, ?_⟩; cbv))
                     · cbv
                       obtain rfl := oj h
                       refine hKn6 _ _ _ rfl (.nz (.mtE [0, 1] ?_))
                       (cbv; repeat (refine ⟨an_, ?_⟩; cbv))
                   · cbv
                     obtain rfl := oj h
                     refine hKn6 _ _ _ rfl (.nz (.mtE [0, 1] ?_))
                     (cbv; repeat (refine ⟨an_, ?_⟩; cbv))
                 · cbv
                   obtain rfl := oj h
                   refine hKn6 _ _ _ rfl (.nz (.mtE [0, 1] ?_))
                   (cbv; repeat (refine ⟨an_, ?_⟩; cbv))
               · cbv
                 obtain rfl := oj h
                 refine hKn6 _ _ _ rfl (.nz (.mtE [0, 1] ?_))
                 (cbv; repeat (refine ⟨an_, ?_⟩; cbv))
             obtain ⟨v9, rfl⟩ : ∃ z, z = t := ⟨_, rfl⟩
             cbv
             refine brkG h (fun h => ?_) (fun h => ?_)
             · cbv
               obtain rfl := oj h
               obtain rfl := hr5 _ rfl
               obtain rfl := hr4 _ rfl
               obtain rfl := hr3 _ rfl
               obtain rfl := hr2 _ rfl
               obtain rfl := hr1 _ rfl
               exact hK _ _ (by first | rfl | exact W_nil _ | (cbv; simp only [W_nilx]))
             · cbv
               obtain rfl := oj h
               refine hKn5 _ _ _ rfl (.nz (.mtE [0, 1] ?_))
               (cbv; repeat (refine ⟨an_, ?_⟩; cbv))
           · cbv
             obtain rfl := oj h
             obtain rfl := hr5 _ rfl
             refine hKn4 _ _ _ rfl (.nz (.mtE [0, 1] ?_))
             (cbv; repeat (refine ⟨an_, ?_⟩; cbv))
         cbv
         refine .g h (fun v hv => decide_Decide_R hP _ _ v hv) (by first | rfl | exact W_nil _ | (cbv; simp only [W_nilx])) rfl (fun _ => rfl) fun v17 h => ?_
         cbv
         refine .g h (fun v hv => ref16_Without_R hP _ _ v hv) (by first | rfl | exact W_nil _ | (cbv; simp only [W_nilx])) rfl (fun _ => rfl) fun v18 h => ?_
         cbv
         refine .g h (fun v hv => decide_Decide_R hP _ _ v hv) (by first | rfl | exact W_nil _ | (cbv; simp only [W_nilx])) rfl (fun _ => rfl) fun v19 h => ?_
         cbv
         refine .g h (fun v hv => ref13_Like_R hP _ _ v hv) (by first | rfl | exact W_nil _ | (cbv; simp only [W_nilx])) rfl (fun _ => rfl) fun v20 h => ?_
         cbv
         refine .g h (fun (v21 : Bool) => [.top, .top, .ptr 0 0, .ptr 1 0, .top, ob up1, .d (.sl (W eFinding l6)), oi a7] ++ rp 94 .top ++ [ob v21, .top]) (fun (v21 : Bool) => [.cells [.d (.sl (W eRule p.Rules))] 24, .cells [oi f.a0, oi f.a1, oi f.a2, oi f.a3, oi f.a4, oi f.a5, oi f.a6, oi f.a7, oi f.a8, oi f.a9] 32]) (fun y hm Kn4 hKn4 => ?_) fun t h => ?_
         · have h := hm
           clear hm
           cbv
           refine brkG h (fun h => ?_) (fun h => ?_)
           · cbv
             refine .g h (fun v hv => law16_about_R hP _ _ _ _ v hv) (by first | rfl | exact W_nil _ | (cbv; simp only [W_nilx])) rfl (fun _ => rfl) fun v22 h => ?_
             cbv
             refine brkG h (fun h => ?_) (fun h => ?_)
             · cbv
               obtain rfl := oj h
               refine hKn4 _ _ _ rfl (.nz (.mtE [0, 1] ?_))
               (cbv; repeat (refine ⟨an_, ?_⟩; cbv))
             · cbv
               refine .g h (fun v hv => law16_about_R hP _ _ _ _ v hv) (by first | rfl | exact W_nil _ | (cbv; simp only [W_nilx])) rfl (fun _ => rfl) fun v23 h => ?_
               cbv
               obtain rfl := oj h
               refine hKn4 _ _ _ rfl (.nz (.mtE [0, 1] ?_))
               (cbv; repeat (refine ⟨an_, ?_⟩; cbv))
           · cbv
             obtain rfl := oj h
             refine hKn4 _ _ _ rfl (.nz (.mtE [0, 1] ?_))
             (cbv; repeat (refine ⟨an_, ?_⟩; cbv))
         obtain ⟨v21, rfl⟩ : ∃ z, z = t := ⟨_, rfl⟩
         cbv
         refine brkG h (fun h => ?_) (fun h => ?_)
         · cbv
           obtain rfl := oj h
           obtain rfl := hr3 _ rfl
           obtain rfl := hr2 _ rfl
           obtain rfl := hr1 _ rfl
           exact hK _ _ (by first | rfl | exact W_nil _ | (cbv; simp only [W_nilx]))
         · cbv
           obtain rfl := oj h
           refine hKn3 _ _ _ rfl (.nz (.mtE [0, 1] ?_))
           (cbv; repeat (refine ⟨an_, ?_⟩; cbv))
       cbv
       obtain rfl := oj h
       refine hKn2 _ _ _ rfl (.nz (.mtE [0, 1] ?_))
       (cbv; repeat (refine ⟨an_, ?_⟩; cbv))
     · cbv
       obtain rfl := oj h
       obtain rfl := hr2 _ rfl
       refine hKn1 _ _ _ rfl (.nz (.mtE [] ?_))
       (cbv; repeat (refine ⟨an_, ?_⟩; cbv))
   cbv
   obtain rfl := oj h
   exact hK _ _ (by first | rfl | exact W_nil _ | (cbv; simp only [W_nilx]))
end Go.SX.Cl
namespace Go.SX.Cl
open Go Go.SX Go.Proofs
set_option maxRecDepth 100000
def c8r0 : List GOp := [
 gv 3 (.box 24 (.tmp 0)),
 gv 5 (.box 32 (.tmp 2)),
 gv 6 (.mv (.const (.bool false)))]
def c8r1 : List GOp := [
 gv 12 (.call 9 []),
 gv 7 (.mv (.tmp 12))]
def c8r2 : List GOp := [
 gv 13 (.load 1 true (.tmp 3)),
 gv 14 (.call 10 [(.tmp 13), (.const (.int .i64 10))]),
 gv 15 (.un .not (.tmp 14)),
 gv 16 (.mv (.tmp 15)),
 gw 17 16 false (.load 10 true (.tmp 5)),
 gw 18 16 false (.call 14 [(.tmp 17)]),
 gw 19 16 false (.un .not (.tmp 18)),
 gv 20 (.pick (.tmp 16) (.const (.bool true)) (.tmp 19))]
def c8r3 : List GOp := [
 gv 21 (.mv (.tmp 7)),
 gv 6 (.mv (.tmp 21))]
def c8r4 : List GOp := [
 gv 22 (.load 1 true (.tmp 3)),
 gv 23 (.call 12 [(.tmp 22)]),
 gv 8 (.mv (.tmp 23))]
def c8r5 : List GOp := [
 gv 9 (.mv (.const (.int .i64 0)))]
def c8r6 : List GOp := [
 gv 24 (.mv (.tmp 9)),
 gv 25 (.mv (.tmp 8)),
 gv 26 (.len false (.tmp 25)),
 gv 27 (.bin .lss (.tmp 24) (.tmp 26)),
 gv 28 (.mv (.tmp 27)),
 gw 29 28 true (.mv (.tmp 8)),
 gw 30 28 true (.mv (.tmp 9)),
 gw 31 28 true (.idxA 13 (.tmp 29) (.tmp 30)),
 gw 32 28 true (.fadd 0 (.tmp 31)),
 gw 33 28 true (.load 1 false (.tmp 32)),
 gw 34 28 true (.bin .neq (.tmp 33) (.const (.int .i64 3))),
 gv 35 (.pick (.tmp 28) (.tmp 34) (.const (.bool false)))]
def c8r7 : List GOp := [
 gv 36 (.mv (.tmp 9)),
 gv 37 (.bin .add (.tmp 36) (.const (.int .i64 1))),
 gv 9 (.mv (.tmp 37))]
def c8l8 : DE := .seq (.join (.reg c8r6) (.cond (.tmp 35) (.skip) (.exit 0))) (.block 1 (.reg c8r7))
def c8r9 : List GOp := [
 gv 38 (.mv (.tmp 9)),
 gv 39 (.bin .eql (.tmp 38) (.const (.int .i64 0)))]
def c8r10 : List GOp := [
 gv 40 (.mv (.tmp 7)),
 gv 6 (.mv (.tmp 40))]
def c8r11 : List GOp := [
 gv 41 (.mv (.tmp 8)),
 gv 42 (.mv (.tmp 1)),
 gv 43 (.cvi .i64 (.tmp 42)),
 gv 44 (.mv (.tmp 9)),
 gv 45 (.div .rem (.tmp 43) (.tmp 44)),
 gv 46 (.idxA 13 (.tmp 41) (.tmp 45)),
 gv 47 (.fadd 1 (.tmp 46)),
 gv 48 (.load 1 false (.tmp 47)),
 gv 10 (.mv (.tmp 48))]
def c8r12 : List GOp := [
 gv 49 (.mv (.tmp 10)),
 gv 50 (.bin .lss (.tmp 49) (.const (.int .i64 0))),
 gv 51 (.mv (.tmp 50)),
 gw 52 51 false (.mv (.tmp 10)),
 gw 53 51 false (.fadd 0 (.tmp 3)),
 gw 54 51 false (.load 1 false (.tmp 53)),
 gw 55 51 false (.len false (.tmp 54)),
 gw 56 51 false (.bin .geq (.tmp 52) (.tmp 55)),
 gv 57 (.pick (.tmp 51) (.const (.bool true)) (.tmp 56))]
def c8r13 : List GOp := [
 gv 6 (.mv (.const (.bool false)))]
def c8r14 : List GOp := [
 gv 58 (.load 1 true (.tmp 3)),
 gv 59 (.mv (.tmp 10)),
 gv 60 (.call 19 [(.tmp 58), (.tmp 59)]),
 gv 11 (.alloc 24 (.agg #[(.slice none 0 0)])),
 ⟨none, .store 1 (.tmp 11) (.tmp 60), none⟩]
def c8r15 : List GOp := [
 gv 61 (.mv (.tmp 7)),
 gv 62 (.mv (.tmp 61)),
 gw 63 62 true (.load 1 true (.tmp 11)),
 gw 64 62 true (.call 20 [(.tmp 63)]),
 gv 65 (.pick (.tmp 62) (.tmp 64) (.const (.bool false))),
 gv 66 (.mv (.tmp 65)),
 gw 67 66 true (.load 1 true (.tmp 3)),
 gw 68 66 true (.load 10 true (.tmp 5)),
 gw 69 66 true (.call 18 [(.tmp 67), (.tmp 68)]),
 gw 70 66 true (.load 1 true (.tmp 11)),
 gw 71 66 true (.load 10 true (.tmp 5)),
 gw 72 66 true (.call 18 [(.tmp 70), (.tmp 71)]),
 gw 73 66 true (.call 17 [(.tmp 69), (.tmp 72)]),
 gv 74 (.pick (.tmp 66) (.tmp 73) (.const (.bool false))),
 gv 6 (.mv (.tmp 74))]
def c8 : EFn := ⟨75, .seq (.reg c8r0) (.seq (.reg c8r1) (.seq (.join (.reg c8r2) (.cond (.tmp 20) (.seq (.reg c8r3) (.ret)) (.skip))) (.seq (.reg c8r4) (.seq (.reg c8r5) (.join (.block 0 (.loop c8l8)) (.seq (.seq (.reg c8r9) (.cond (.tmp 39) (.seq (.reg c8r10) (.ret)) (.skip))) (.seq (.reg c8r11) (.seq (.join (.reg c8r12) (.cond (.tmp 57) (.seq (.reg c8r13) (.ret)) (.skip))) (.seq (.reg c8r14) (.seq (.par false false false 11 c8r15) (.ret))))))))))), [.tmp 6]⟩
theorem c8_ok : compF Try.prog 8 = some c8.er := by kernel_rfl
noncomputable def law16_ClashLeaves_l2 (l5 : (List Finding)) : Int → Option ((Int) ⊕ (Int))
 | n7 =>
 Option.bind (
 bif (io.lt n7 (io.len (W eFinding l5))) then (
 Option.bind (idxG l5 n7) fun x9 =>
 some (io.not (io.eq x9.Kind 3))
 ) else (
 some false
 )
 ) fun v8 =>
 bif v8 then (
 some (.inl (io.ar .add .i64 n7 1))
 ) else (
 some (.inr n7)
 )
noncomputable def law16_ClashLeaves_g (p : Policy) (raw : Int) (f : (A10 Int)) : Option (Bool) :=
 Option.bind (law16_head_g) fun up1 =>
 Option.bind (
 Option.bind (law16_few_g p 10) fun v3 =>
 bif (io.not v3) then (
 some true
 ) else (
 Option.bind (law16_within_g f) fun v4 =>
 some (io.not v4)
 )
 ) fun v2 =>
 bif v2 then (
 some up1
 ) else (
 Option.bind (clash_Findings_g p) fun l5 =>
 Option.bind (
 whileG (law16_ClashLeaves_l2 l5) 0
 ) fun n6 =>
 bif (io.eq n6 0) then (
 some up1
 ) else (
 Option.bind (divG n6) fun _ =>
 Option.bind (idxG l5 (io.rem (io.wrap .i64 raw) n6)) fun x10 =>
 Option.bind (
 bif (io.lt x10.A 0) then (
 some true
 ) else (
 some (io.le (io.len (W eRule p.Rules)) x10.A)
 )
 ) fun v11 =>
 bif v11 then (
 some false
 ) else (
 Option.bind (ref16_Without_g p x10.A) fun v12 =>
 bif up1 then (
 Option.bind (decide_Valid_g v12) fun v13 =>
 bif v13 then (
 Option.bind (decide_Decide_g p f) fun v14 =>
 Option.bind (decide_Decide_g v12 f) fun v15 =>
 Option.bind (ref13_Like_g v14 v15) fun v16 =>
 some v16
 ) else (
 some false
 )
 ) else (
 some false
 )
 )
 )
 )
set_option maxHeartbeats 4000000 in
theorem law16_ClashLeaves_R {P : Program} (hP : P = Try.prog) (p : Policy) (raw : Int) (f : (A10 Int)) (r : Bool) (h : law16_ClashLeaves_g p raw f = some r) : Fn1 P 8 [vPolicy p, vIu8 raw, vA10Ii64 f] (vB r) := by
 refine .walkE (hP ▸ c8_ok) fun K hK => ?_
 unfold law16_ClashLeaves_g at h
 cbv
 refine .g h (fun v hv => law16_head_R hP v hv) (by first | rfl | exact W_nil _ | (cbv; simp only [W_nilx])) rfl (fun _ => rfl) fun up1 h => ?_
 cbv
 refine .g h (fun (v2 : Bool) => [.top, .d (.val (.int .u8 raw)), .top, .ptr 0 0, .top, .ptr 1 0, .top, ob up1] ++ rp 12 .top ++ [ob v2] ++ rp 54 .top) (fun (v2 : Bool) => [.cells [.d (.sl (W eRule p.Rules))] 24, .cells [oi f.a0, oi f.a1, oi f.a2, oi f.a3, oi f.a4, oi f.a5, oi f.a6, oi f.a7, oi f.a8, oi f.a9] 32]) (fun y hm Kn1 hKn1 => ?_) fun t h => ?_
 · have h := hm
   clear hm
   cbv
   refine .g h (fun v hv => law16_few_R hP _ _ v hv) (by first | rfl | exact W_nil _ | (cbv; simp only [W_nilx])) rfl (fun _ => rfl) fun v3 h => ?_
   cbv
   refine brkG h (fun h => ?_) (fun h => ?_)
   · cbv
     obtain rfl := oj h
     refine hKn1 _ _ _ rfl (.nz (.mtE [0, 1] ?_))
     (cbv; repeat (refine ⟨an_, ?_⟩; cbv))
   · cbv
     refine .g h (fun v hv => law16_within_R hP _ v hv) (by first | rfl | exact W_nil _ | (cbv; simp only [W_nilx])) rfl (fun _ => rfl) fun v4 h => ?_
     cbv
     obtain rfl := oj h
     refine hKn1 _ _ _ rfl (.nz (.mtE [0, 1] ?_))
     (cbv; repeat (refine ⟨an_, ?_⟩; cbv))
 obtain ⟨v2, rfl⟩ : ∃ z, z = t := ⟨_, rfl⟩
 cbv
 refine brkG h (fun h => ?_) (fun h => ?_)
 · cbv
   obtain rfl := oj h
   exact hK _ _ (by first | rfl | exact W_nil _ | (cbv; simp only [W_nilx]))
 · cbv
   refine .g h (fun v hv => clash_Findings_R hP _ v hv) (by first | rfl | exact W_nil _ | (cbv; simp only [W_nilx])) rfl (fun _ => rfl) fun l5 h => ?_
   cbv
   refine .g h (fun (n6 : Int) => [.top, .d (.val (.int .u8 raw)), .top, .ptr 0 0, .top, .ptr 1 0, .top, ob up1, .d (.sl (W eFinding l5)), oi n6] ++ rp 65 .top) (fun (n6 : Int) => [.cells [.d (.sl (W eRule p.Rules))] 24, .cells [oi f.a0, oi f.a1, oi f.a2, oi f.a3, oi f.a4, oi f.a5, oi f.a6, oi f.a7, oi f.a8, oi f.a9] 32]) (fun y hm Kn1 hKn1 => ?_) fun t h => ?_
   · have h := hm
     clear hm
     cbv
     refine .g h (fun (n7 : Int) => [.top, .d (.val (.int .u8 raw)), .top, .ptr 0 0, .top, .ptr 1 0, .top, ob up1, .d (.sl (W eFinding l5)), oi n7] ++ rp 65 .top) (fun (n7 : Int) => [.cells [.d (.sl (W eRule p.Rules))] 24, .cells [oi f.a0, oi f.a1, oi f.a2, oi f.a3, oi f.a4, oi f.a5, oi f.a6, oi f.a7, oi f.a8, oi f.a9] 32]) (.nz (.mtE [0, 1] ?_)) fun s x h hr2 Kn2 hKn2 => ?_
     · (cbv; repeat (refine ⟨an_, ?_⟩; cbv))
     unfold law16_ClashLeaves_l2 at h
     obtain ⟨n7, rfl⟩ : ∃ z, z = s := ⟨_, rfl⟩
     cbv
     refine .g h (fun (v8 : Bool) => [.top, .d (.val (.int .u8 raw)), .top, .ptr 0 0, .top, .ptr 1 0, .top, ob up1, .d (.sl (W eFinding l5)), oi n7] ++ rp 25 .top ++ [ob v8] ++ rp 39 .top) (fun (v8 : Bool) => [.cells [.d (.sl (W eRule p.Rules))] 24, .cells [oi f.a0, oi f.a1, oi f.a2, oi f.a3, oi f.a4, oi f.a5, oi f.a6, oi f.a7, oi f.a8, oi f.a9] 32]) (fun y hm Kn3 hKn3 => ?_) fun t h => ?_
     · have h := hm
       clear hm
       cbv
       refine brkG h (fun h => ?_) (fun h => ?_)
       · cbv
         refine .g h (fun _ => rfl) fun x9 h => ?_
         cbv
         obtain rfl := oj h
         refine hKn3 _ _ _ rfl (.nz (.mtE [0, 1] ?_))
         (cbv; repeat (refine ⟨an_, ?_⟩; cbv))
       · cbv
         obtain rfl := oj h
         refine hKn3 _ _ _ rfl (.nz (.mtE [0, 1] ?_))
         (cbv; repeat (refine ⟨an_, ?_⟩; cbv))
     obtain ⟨v8, rfl⟩ : ∃ z, z = t := ⟨_, rfl⟩
     cbv
     refine brkG h (fun h => ?_) (fun h => ?_)
     · cbv
       obtain rfl := oj h
       refine hKn2 _ _ _ rfl (.nz (.mtE [0, 1] ?_))
       (cbv; repeat (refine ⟨an_, ?_⟩; cbv))
     · cbv
       obtain rfl := oj h
       obtain rfl := hr2 _ rfl
       refine hKn1 _ _ _ rfl (.nz (.mtE [0, 1] ?_))
       (cbv; repeat (refine ⟨an_, ?_⟩; cbv))
   obtain ⟨n6, rfl⟩ : ∃ z, z = t := ⟨_, rfl⟩
   cbv
   refine brkG h (fun h => ?_) (fun h => ?_)
   · cbv
     obtain rfl := oj h
     exact hK _ _ (by first | rfl | exact W_nil _ | (cbv; simp only [W_nilx]))
   · cbv
     refine .g h fun h => ?_
     cbv
     refine .g h (fun _ => rfl) fun x10 h => ?_
     cbv
     refine .g h (fun (v11 : Bool) => rp 3 .top ++ [.ptr 0 0, .top, .ptr 1 0, .top, ob up1, .top, .top, oi x10.A] ++ rp 46 .top ++ [ob v11] ++ rp 17 .top) (fun (v11 : Bool) => [.cells [.d (.sl (W eRule p.Rules))] 24, .cells [oi f.a0, oi f.a1, oi f.a2, oi f.a3, oi f.a4, oi f.a5, oi f.a6, oi f.a7, oi f.a8, oi f.a9] 32]) (fun y hm Kn1 hKn1 => ?_) fun t h => ?_
     · have h := hm
       clear hm
       cbv
       refine brkG h (fun h => ?_) (fun h => ?_)
       · cbv
         obtain rfl := oj h
         refine hKn1 _ _ _ rfl (.nz (.mtE [0, 1] ?_))
         (cbv; repeat (refine ⟨an_, ?_⟩; cbv))
       · cbv
         obtain rfl := oj h
         refine hKn1 _ _ _ rfl (.nz (.mtE [0, 1] ?_))
         (cbv; repeat (refine ⟨an_, ?_⟩; cbv))
     obtain ⟨v11, rfl⟩ : ∃ z, z = t := ⟨_, rfl⟩
     cbv
     refine brkG h (fun h => ?_) (fun h => ?_)
     · cbv
       obtain rfl := oj h
       exact hK _ _ (by first | rfl | exact W_nil _ | (cbv; simp only [W_nilx]))
     · cbv
       refine .g h (fun v hv => ref16_Without_R hP _ _ v hv) (by first | rfl | exact W_nil _ | (cbv; simp only [W_nilx])) rfl (fun _ => rfl) fun v12 h => ?_
       cbv
       refine brkG h (fun h => ?_) (fun h => ?_)
       · cbv
         refine .g h (fun v hv => decide_Valid_R hP _ v hv) (by first | rfl | exact W_nil _ | (cbv; simp only [W_nilx])) rfl (fun _ => rfl) fun v13 h => ?_
         cbv
         refine brkG h (fun h => ?_) (fun h => ?_)
         · cbv
           refine .g h (fun v hv => decide_Decide_R hP _ _ v hv) (by first | rfl | exact W_nil _ | (cbv; simp only [W_nilx])) rfl (fun _ => rfl) fun v14 h => ?_
           cbv
           refine .g h (fun v hv => decide_Decide_R hP _ _ v hv) (by first | rfl | exact W_nil _ | (cbv; simp only [W_nilx])) rfl (fun _ => rfl) fun v15 h => ?_
           cbv
           refine .g h (fun v hv => ref13_Like_R hP _ _ v hv) (by first | rfl | exact W_nil _ | (cbv; simp only [W_nilx])) rfl (fun _ => rfl) fun v16 h => ?_
           cbv
           obtain rfl := oj h
           exact hK _ _ (by first | rfl | exact W_nil _ | (cbv; simp only [W_nilx]))
         · cbv
           obtain rfl := oj h
           exact hK _ _ (by first | rfl | exact W_nil _ | (cbv; simp only [W_nilx]))
       · cbv
         obtain rfl := oj h
         exact hK _ _ (by first | rfl | exact W_nil _ | (cbv; simp only [W_nilx]))
end Go.SX.Cl
