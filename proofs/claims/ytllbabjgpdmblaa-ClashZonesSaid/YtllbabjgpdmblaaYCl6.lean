/- Parts of the proof. -/
import Derived.Test.YtllbabjgpdmblaaYClT
import Derived.Test.YtllbabjgpdmblaaYCl24
import Derived.Test.YtllbabjgpdmblaaYCl12
import Derived.Test.YtllbabjgpdmblaaYCl20
import Derived.Test.YtllbabjgpdmblaaYCl16
import Derived.Test.YtllbabjgpdmblaaYClP12
namespace Go.SX.Cl
open Go Go.SX Go.Proofs
set_option maxRecDepth 100000
def c6r0 : List GOp := [
 gv 3 (.box 24 (.tmp 0)),
 gv 6 (.mv (.const (.bool false)))]
def c6r1 : List GOp := [
 gv 12 (.call 9 []),
 gv 7 (.mv (.tmp 12))]
def c6r2 : List GOp := [
 gv 13 (.load 1 true (.tmp 3)),
 gv 14 (.call 10 [(.tmp 13), (.const (.int .i64 10))]),
 gv 15 (.un .not (.tmp 14)),
 gv 16 (.mv (.tmp 15)),
 gw 17 16 false (.fadd 0 (.tmp 3)),
 gw 18 16 false (.load 1 false (.tmp 17)),
 gw 19 16 false (.len false (.tmp 18)),
 gw 20 16 false (.bin .eql (.tmp 19) (.const (.int .i64 0))),
 gv 21 (.pick (.tmp 16) (.const (.bool true)) (.tmp 20)),
 gv 22 (.mv (.tmp 21)),
 gw 23 22 false (.mv (.tmp 2)),
 gw 24 22 false (.len true (.tmp 23)),
 gw 25 22 false (.bin .gtr (.tmp 24) (.const (.int .i64 200))),
 gv 26 (.pick (.tmp 22) (.const (.bool true)) (.tmp 25))]
def c6r3 : List GOp := [
 gv 27 (.mv (.tmp 7)),
 gv 6 (.mv (.tmp 27))]
def c6r4 : List GOp := [
 gv 28 (.mv (.tmp 1)),
 gv 29 (.cvi .i64 (.tmp 28)),
 gv 30 (.fadd 0 (.tmp 3)),
 gv 31 (.load 1 false (.tmp 30)),
 gv 32 (.len false (.tmp 31)),
 gv 33 (.div .rem (.tmp 29) (.tmp 32)),
 gv 8 (.mv (.tmp 33))]
def c6r5 : List GOp := [
 gv 34 (.fadd 0 (.tmp 3)),
 gv 35 (.load 1 false (.tmp 34)),
 gv 36 (.mv (.tmp 8)),
 gv 37 (.idxA 8 (.tmp 35) (.tmp 36)),
 gv 38 (.load 8 true (.tmp 37)),
 gv 9 (.alloc 41 (.agg #[oz, (.string ⟨#[]⟩), (.slice none 0 0), oz, oz, oz, oz, oz])),
 ⟨none, .store 8 (.tmp 9) (.tmp 38), none⟩]
def c6r6 : List GOp := [
 gv 39 (.mv (.tmp 2)),
 gv 40 (.fadd 1 (.tmp 9)),
 ⟨none, .store 1 (.tmp 40) (.tmp 39), none⟩]
def c6r7 : List GOp := [
 gv 41 (.bslice 41 8 0 (.agg #[oz, (.string ⟨#[]⟩), (.slice none 0 0), oz, oz, oz, oz, oz]) []),
 gv 42 (.fadd 0 (.tmp 3)),
 gv 43 (.load 1 false (.tmp 42)),
 gv 44 (.mv (.tmp 8)),
 gv 45 (.bin .add (.tmp 44) (.const (.int .i64 1))),
 gv 46 (.slc 8 (.tmp 43) none (some (.tmp 45))),
 gv 47 (.app 41 8 88 (.agg #[oz, (.string ⟨#[]⟩), (.slice none 0 0), oz, oz, oz, oz, oz]) (.tmp 41) (.tmp 46)),
 gv 48 (.load 8 true (.tmp 9)),
 gv 49 (.bslice 41 8 1 (.agg #[oz, (.string ⟨#[]⟩), (.slice none 0 0), oz, oz, oz, oz, oz]) [(0, (.tmp 48))]),
 gv 50 (.app 41 8 88 (.agg #[oz, (.string ⟨#[]⟩), (.slice none 0 0), oz, oz, oz, oz, oz]) (.tmp 47) (.tmp 49)),
 gv 51 (.fadd 0 (.tmp 3)),
 gv 52 (.load 1 false (.tmp 51)),
 gv 53 (.mv (.tmp 8)),
 gv 54 (.bin .add (.tmp 53) (.const (.int .i64 1))),
 gv 55 (.slc 8 (.tmp 52) (some (.tmp 54)) none),
 gv 56 (.app 41 8 88 (.agg #[oz, (.string ⟨#[]⟩), (.slice none 0 0), oz, oz, oz, oz, oz]) (.tmp 50) (.tmp 55)),
 gv 57 (.build (.agg #[(.slice none 0 0)]) [((0, 1), (.tmp 56))]),
 gv 10 (.alloc 24 (.agg #[(.slice none 0 0)])),
 ⟨none, .store 1 (.tmp 10) (.tmp 57), none⟩]
def c6r8 : List GOp := [
 gv 58 (.load 1 true (.tmp 10)),
 gv 59 (.call 20 [(.tmp 58)]),
 gv 60 (.un .not (.tmp 59))]
def c6r9 : List GOp := [
 gv 61 (.mv (.tmp 7)),
 gv 6 (.mv (.tmp 61))]
def c6r10 : List GOp := [
 gv 62 (.load 1 true (.tmp 10)),
 gv 63 (.call 12 [(.tmp 62)]),
 gv 11 (.mv (.tmp 63))]
def c6r11 : List GOp := [
 gv 64 (.mv (.tmp 7)),
 gv 65 (.mv (.tmp 64)),
 gw 66 65 true (.mv (.tmp 11)),
 gw 67 65 true (.mv (.tmp 8)),
 gw 68 65 true (.bin .add (.tmp 67) (.const (.int .i64 1))),
 gw 69 65 true (.call 21 [(.tmp 66), (.const (.int .i64 2)), (.tmp 68), (.const (.int .i64 (-1)))]),
 gw 70 65 true (.mv (.tmp 69)),
 gw 71 70 false (.mv (.tmp 11)),
 gw 72 70 false (.mv (.tmp 8)),
 gw 73 70 false (.bin .add (.tmp 72) (.const (.int .i64 1))),
 gw 74 70 false (.call 21 [(.tmp 71), (.const (.int .i64 1)), (.tmp 73), (.const (.int .i64 (-1)))]),
 gw 75 65 true (.pick (.tmp 70) (.const (.bool true)) (.tmp 74)),
 gv 76 (.pick (.tmp 65) (.tmp 75) (.const (.bool false))),
 gv 77 (.mv (.tmp 76)),
 gw 78 77 true (.fadd 2 (.tmp 9)),
 gw 79 77 true (.load 1 false (.tmp 78)),
 gw 80 77 true (.len false (.tmp 79)),
 gw 81 77 true (.bin .eql (.tmp 80) (.const (.int .i64 0))),
 gw 82 77 true (.mv (.tmp 11)),
 gw 83 77 true (.mv (.tmp 8)),
 gw 84 77 true (.bin .add (.tmp 83) (.const (.int .i64 1))),
 gw 85 77 true (.call 21 [(.tmp 82), (.const (.int .i64 1)), (.tmp 84), (.const (.int .i64 (-1)))]),
 gw 86 77 true (.beq false [] (.tmp 81) (.tmp 85)),
 gv 87 (.pick (.tmp 77) (.tmp 86) (.const (.bool false))),
 gv 6 (.mv (.tmp 87))]
def c6 : EFn := ⟨88, .seq (.reg c6r0) (.seq (.reg c6r1) (.seq (.join (.reg c6r2) (.cond (.tmp 26) (.seq (.reg c6r3) (.ret)) (.skip))) (.seq (.reg c6r4) (.seq (.reg c6r5) (.seq (.reg c6r6) (.seq (.hyb true true 18 c6r7) (.seq (.seq (.reg c6r8) (.cond (.tmp 60) (.seq (.reg c6r9) (.ret)) (.skip))) (.seq (.reg c6r10) (.seq (.par false false false 22 c6r11) (.ret)))))))))), [.tmp 6]⟩
theorem c6_ok : compF Try.prog 6 = some c6.er := by kernel_rfl
noncomputable def law16_ClashCopies_g (p : Policy) (raw : Int) (name : ByteArray) : Option (Bool) :=
 Option.bind (law16_head_g) fun up1 =>
 Option.bind (
 Option.bind (law16_few_g p 10) fun v3 =>
 bif (io.not v3) then (
 some true
 ) else (
 bif (io.eq (io.len (W eRule p.Rules)) 0) then (
 some true
 ) else (
 some (io.lt 200 (io.ssz name))
 )
 )
 ) fun v2 =>
 bif v2 then (
 some up1
 ) else (
 Option.bind (divG (io.len (W eRule p.Rules))) fun _ =>
 Option.bind (idxG p.Rules (io.rem (io.wrap .i64 raw) (io.len (W eRule p.Rules)))) fun x4 =>
 Option.bind (some ([] : List Rule)) fun l5 =>
 Option.bind (subG p.Rules 0 (io.ar .add .i64 (io.rem (io.wrap .i64 raw) (io.len (W eRule p.Rules))) 1)) fun l6 =>
 Option.bind (appG l5 l6) fun l7 =>
 Option.bind (some [(Rule.mk x4.Kind name x4.Zones x4.N x4.R x4.S)]) fun l8 =>
 Option.bind (appG l7 l8) fun l9 =>
 Option.bind (subG p.Rules (io.ar .add .i64 (io.rem (io.wrap .i64 raw) (io.len (W eRule p.Rules))) 1) (io.len (W eRule p.Rules))) fun l10 =>
 Option.bind (appG l9 l10) fun l11 =>
 Option.bind (decide_Valid_g (Policy.mk l11)) fun v12 =>
 bif (io.not v12) then (
 some up1
 ) else (
 Option.bind (clash_Findings_g (Policy.mk l11)) fun l13 =>
 bif up1 then (
 Option.bind (law16_about_g l13 2 (io.ar .add .i64 (io.rem (io.wrap .i64 raw) (io.len (W eRule p.Rules))) 1) (-1)) fun v14 =>
 bif v14 then (
 Option.bind (law16_about_g l13 1 (io.ar .add .i64 (io.rem (io.wrap .i64 raw) (io.len (W eRule p.Rules))) 1) (-1)) fun v15 =>
 some (io.beq false (io.eq (io.len (W eA10Range x4.Zones)) 0) v15)
 ) else (
 Option.bind (law16_about_g l13 1 (io.ar .add .i64 (io.rem (io.wrap .i64 raw) (io.len (W eRule p.Rules))) 1) (-1)) fun v16 =>
 bif v16 then (
 Option.bind (law16_about_g l13 1 (io.ar .add .i64 (io.rem (io.wrap .i64 raw) (io.len (W eRule p.Rules))) 1) (-1)) fun v17 =>
 some (io.beq false (io.eq (io.len (W eA10Range x4.Zones)) 0) v17)
 ) else (
 some false
 )
 )
 ) else (
 some false
 )
 )
 )
set_option maxHeartbeats 4000000 in
theorem law16_ClashCopies_R {P : Program} (hP : P = Try.prog) (p : Policy) (raw : Int) (name : ByteArray) (r : Bool) (h : law16_ClashCopies_g p raw name = some r) : Fn1 P 6 [vPolicy p, vIu8 raw, vS name] (vB r) := by
 refine .walkE (hP ▸ c6_ok) fun K hK => ?_
 unfold law16_ClashCopies_g at h
 cbv
 refine .g h (fun v hv => law16_head_R hP v hv) (by first | rfl | exact W_nil _ | (cbv; simp only [W_nilx])) rfl (fun _ => rfl) fun up1 h => ?_
 cbv
 refine .g h (fun (v2 : Bool) => [.top, .d (.val (.int .u8 raw)), .d (.val (.string name)), .ptr 0 0] ++ rp 3 .top ++ [ob up1] ++ rp 18 .top ++ [ob v2] ++ rp 61 .top) (fun (v2 : Bool) => [.cells [.d (.sl (W eRule p.Rules))] 24]) (fun y hm Kn1 hKn1 => ?_) fun t h => ?_
 · have h := hm
   clear hm
   cbv
   refine .g h (fun v hv => law16_few_R hP _ _ v hv) (by first | rfl | exact W_nil _ | (cbv; simp only [W_nilx])) rfl (fun _ => rfl) fun v3 h => ?_
   cbv
   refine brkG h (fun h => ?_) (fun h => ?_)
   · cbv
     obtain rfl := oj h
     refine hKn1 _ _ _ rfl (.nz (.mtE [0] ?_))
     (cbv; repeat (refine ⟨an_, ?_⟩; cbv))
   · cbv
     refine brkG h (fun h => ?_) (fun h => ?_)
     · cbv
       obtain rfl := oj h
       refine hKn1 _ _ _ rfl (.nz (.mtE [0] ?_))
       (cbv; repeat (refine ⟨an_, ?_⟩; cbv))
     · cbv
       obtain rfl := oj h
       refine hKn1 _ _ _ rfl (.nz (.mtE [0] ?_))
       (cbv; repeat (refine ⟨an_, ?_⟩; cbv))
 obtain ⟨v2, rfl⟩ : ∃ z, z = t := ⟨_, rfl⟩
 cbv
 refine brkG h (fun h => ?_) (fun h => ?_)
 · cbv
   obtain rfl := oj h
   exact hK _ _ (by first | rfl | exact W_nil _ | (cbv; simp only [W_nilx]))
 · cbv
   refine .g h fun h => ?_
   cbv
   refine .g h (fun _ => rfl) fun x4 h => ?_
   cbv
   refine .g (e := eRule) h (W_nil' _) fun l5 h => ?_
   cbv
   refine .g h (fun _ => rfl) fun l6 h => ?_
   cbv
   refine .g h rfl (fun _ => rfl) (by decide) fun l7 h => ?_
   cbv
   refine .g (e := eRule) h (W_cons (by first | rfl | exact W_nil _ | (cbv; simp only [W_nilx])) (W_nil' _)) fun l8 h => ?_
   cbv
   refine .g h rfl (fun _ => rfl) (by decide) fun l9 h => ?_
   cbv
   refine .g h (fun _ => rfl) fun l10 h => ?_
   cbv
   refine .g h rfl (fun _ => rfl) (by decide) fun l11 h => ?_
   cbv
   refine .gl [] h (fun v hv => decide_Valid_R hP _ v hv) (by first | rfl | exact W_nil _ | (cbv; simp only [W_nilx])) rfl fun v12 h => ?_
   cbv
   refine brkG h (fun h => ?_) (fun h => ?_)
   · cbv
     obtain rfl := oj h
     exact hK _ _ (by first | rfl | exact W_nil _ | (cbv; simp only [W_nilx]))
   · cbv
     refine .g h (fun v hv => clash_Findings_R hP _ v hv) (by first | rfl | exact W_nil _ | (cbv; simp only [W_nilx])) rfl (fun _ => rfl) fun l13 h => ?_
     cbv
     refine brkG h (fun h => ?_) (fun h => ?_)
     · cbv
       refine .g h (fun v hv => law16_about_R hP _ _ _ _ v hv) (by first | rfl | exact W_nil _ | (cbv; simp only [W_nilx])) rfl (fun _ => rfl) fun v14 h => ?_
       cbv
       refine brkG h (fun h => ?_) (fun h => ?_)
       · cbv
         refine .g h (fun v hv => law16_about_R hP _ _ _ _ v hv) (by first | rfl | exact W_nil _ | (cbv; simp only [W_nilx])) rfl (fun _ => rfl) fun v15 h => ?_
         cbv
         obtain rfl := oj h
         exact hK _ _ (by first | rfl | exact W_nil _ | (cbv; simp only [W_nilx]))
       · cbv
         refine .g h (fun v hv => law16_about_R hP _ _ _ _ v hv) (by first | rfl | exact W_nil _ | (cbv; simp only [W_nilx])) rfl (fun _ => rfl) fun v16 h => ?_
         cbv
         refine brkG h (fun h => ?_) (fun h => ?_)
         · cbv
           refine .g h (fun v hv => law16_about_R hP _ _ _ _ v hv) (by first | rfl | exact W_nil _ | (cbv; simp only [W_nilx])) rfl (fun _ => rfl) fun v17 h => ?_
           cbv
           obtain rfl := oj h
           exact hK _ _ (by first | rfl | exact W_nil _ | (cbv; simp only [W_nilx]))
         · cbv
           obtain rfl := oj h
           exact hK _ _ (by first | rfl | exact W_nil _ | (cbv; simp only [W_nilx]))
     · cbv
       obtain rfl := oj h
       exact hK _ _ (by first | rfl | exact W_nil _ | (cbv; simp only [W_nilx]))
end Go.SX.Cl
namespace Go.SX.Cl
open Go Go.SX Go.Proofs
set_option maxRecDepth 100000
def c7r0 : List GOp := [
 gv 1 (.box 24 (.tmp 0)),
 gv 2 (.mv (.const (.bool false)))]
def c7r1 : List GOp := [
 gv 8 (.call 9 []),
 gv 3 (.mv (.tmp 8))]
def c7r2 : List GOp := [
 gv 9 (.load 1 true (.tmp 1)),
 gv 10 (.call 10 [(.tmp 9), (.const (.int .i64 10))]),
 gv 11 (.un .not (.tmp 10))]
def c7r3 : List GOp := [
 gv 12 (.mv (.tmp 3)),
 gv 2 (.mv (.tmp 12))]
def c7r4 : List GOp := [
 gv 4 (.alloc 24 (.agg #[(.slice none 0 0)]))]
def c7r5 : List GOp := [
 gv 5 (.mv (.const (.int .i64 0)))]
def c7r6 : List GOp := [
 gv 13 (.mv (.tmp 5)),
 gv 14 (.fadd 0 (.tmp 1)),
 gv 15 (.load 1 false (.tmp 14)),
 gv 16 (.len false (.tmp 15)),
 gv 17 (.bin .lss (.tmp 13) (.tmp 16))]
def c7r7 : List GOp := [
 gv 20 (.fadd 0 (.tmp 1)),
 gv 21 (.load 1 false (.tmp 20)),
 gv 22 (.mv (.tmp 5)),
 gv 23 (.idxA 8 (.tmp 21) (.tmp 22)),
 gv 24 (.load 8 true (.tmp 23)),
 gv 6 (.alloc 41 (.agg #[oz, (.string ⟨#[]⟩), (.slice none 0 0), oz, oz, oz, oz, oz])),
 ⟨none, .store 8 (.tmp 6) (.tmp 24), none⟩]
def c7r8 : List GOp := [
 gv 25 (.fadd 2 (.tmp 6)),
 ⟨none, .store 1 (.tmp 25) (.const (.slice none 0 0)), none⟩]
def c7r9 : List GOp := [
 gv 26 (.fadd 0 (.tmp 1)),
 gv 27 (.load 1 false (.tmp 26)),
 gv 28 (.mv (.tmp 5)),
 gv 29 (.idxA 8 (.tmp 27) (.tmp 28)),
 gv 30 (.fadd 2 (.tmp 29)),
 gv 31 (.load 1 false (.tmp 30)),
 gv 32 (.len false (.tmp 31)),
 gv 33 (.bin .sub (.tmp 32) (.const (.int .i64 1))),
 gv 7 (.mv (.tmp 33))]
def c7r10 : List GOp := [
 gv 34 (.mv (.tmp 7)),
 gv 35 (.bin .geq (.tmp 34) (.const (.int .i64 0)))]
def c7r11 : List GOp := [
 gv 38 (.fadd 2 (.tmp 6)),
 gv 39 (.load 1 false (.tmp 38)),
 gv 40 (.fadd 0 (.tmp 1)),
 gv 41 (.load 1 false (.tmp 40)),
 gv 42 (.mv (.tmp 5)),
 gv 43 (.idxA 8 (.tmp 41) (.tmp 42)),
 gv 44 (.fadd 2 (.tmp 43)),
 gv 45 (.load 1 false (.tmp 44)),
 gv 46 (.mv (.tmp 7)),
 gv 47 (.idxA 20 (.tmp 45) (.tmp 46)),
 gv 48 (.load 20 true (.tmp 47)),
 gv 49 (.fadd 0 (.tmp 1)),
 gv 50 (.load 1 false (.tmp 49)),
 gv 51 (.mv (.tmp 5)),
 gv 52 (.idxA 8 (.tmp 50) (.tmp 51)),
 gv 53 (.fadd 2 (.tmp 52)),
 gv 54 (.load 1 false (.tmp 53)),
 gv 55 (.mv (.tmp 7)),
 gv 56 (.idxA 20 (.tmp 54) (.tmp 55)),
 gv 57 (.load 20 true (.tmp 56)),
 gv 58 (.bslice 54 20 2 (.agg #[oz, oz, oz, oz, oz, oz, oz, oz, oz, oz, oz, oz, oz, oz, oz, oz, oz, oz, oz, oz]) [(0, (.tmp 48)), (1, (.tmp 57))]),
 gv 59 (.app 54 20 160 (.agg #[oz, oz, oz, oz, oz, oz, oz, oz, oz, oz, oz, oz, oz, oz, oz, oz, oz, oz, oz, oz]) (.tmp 39) (.tmp 58)),
 gv 60 (.fadd 2 (.tmp 6))]
def c7r11z : GOp := ⟨none, .store 1 (.tmp 60) (.tmp 59), none⟩
def c7r12 : List GOp := [
 gv 36 (.mv (.tmp 7)),
 gv 37 (.bin .sub (.tmp 36) (.const (.int .i64 1))),
 gv 7 (.mv (.tmp 37))]
def c7l13 : DE := .seq (.seq (.reg c7r10) (.cond (.tmp 35) (.skip) (.exit 2))) (.seq (.block 3 (.hyl true true 21 c7r11 c7r11z)) (.reg c7r12))
def c7r14 : List GOp := [
 gv 61 (.fadd 0 (.tmp 4)),
 gv 62 (.load 1 false (.tmp 61)),
 gv 63 (.load 8 true (.tmp 6)),
 gv 64 (.bslice 41 8 1 (.agg #[oz, (.string ⟨#[]⟩), (.slice none 0 0), oz, oz, oz, oz, oz]) [(0, (.tmp 63))]),
 gv 65 (.app 41 8 88 (.agg #[oz, (.string ⟨#[]⟩), (.slice none 0 0), oz, oz, oz, oz, oz]) (.tmp 62) (.tmp 64)),
 gv 66 (.fadd 0 (.tmp 4)),
 ⟨none, .store 1 (.tmp 66) (.tmp 65), none⟩]
def c7r15 : List GOp := [
 gv 18 (.mv (.tmp 5)),
 gv 19 (.bin .add (.tmp 18) (.const (.int .i64 1))),
 gv 5 (.mv (.tmp 19))]
def c7l16 : DE := .seq (.seq (.reg c7r6) (.cond (.tmp 17) (.skip) (.exit 0))) (.join (.block 1 (.seq (.reg c7r7) (.seq (.reg c7r8) (.join (.seq (.reg c7r9) (.block 2 (.loop c7l13))) (.reg c7r14))))) (.reg c7r15))
def c7r17 : List GOp := [
 gv 67 (.mv (.tmp 3)),
 gv 68 (.mv (.tmp 67)),
 gw 69 68 true (.load 1 true (.tmp 1)),
 gw 70 68 true (.call 12 [(.tmp 69)]),
 gw 71 68 true (.load 1 true (.tmp 4)),
 gw 72 68 true (.call 12 [(.tmp 71)]),
 gw 73 68 true (.call 11 [(.tmp 70), (.tmp 72)]),
 gv 74 (.pick (.tmp 68) (.tmp 73) (.const (.bool false))),
 gv 2 (.mv (.tmp 74))]
def c7 : EFn := ⟨75, .seq (.reg c7r0) (.seq (.reg c7r1) (.seq (.seq (.reg c7r2) (.cond (.tmp 11) (.seq (.reg c7r3) (.ret)) (.skip))) (.seq (.reg c7r4) (.join (.seq (.reg c7r5) (.block 0 (.loop c7l16))) (.seq (.par false false false 5 c7r17) (.ret)))))), [.tmp 2]⟩
theorem c7_ok : compF Try.prog 7 = some c7.er := by kernel_rfl
noncomputable def law16_ClashZones_l26 (p : Policy) (i5 : Int) : ((List (A10 Range)) × Int) → Option (((List (A10 Range)) × Int) ⊕ ((List (A10 Range))))
 | (Zones10, k11) =>
 bif (io.le 0 k11) then (
 Option.bind (idxG p.Rules i5) fun x12 =>
 Option.bind (idxG x12.Zones k11) fun x13 =>
 Option.bind (idxG p.Rules i5) fun x14 =>
 Option.bind (idxG x14.Zones k11) fun x15 =>
 Option.bind (some [x13, x15]) fun l16 =>
 Option.bind (appG Zones10 l16) fun l17 =>
 some (.inl (l17, (io.ar .sub .i64 k11 1)))
 ) else (
 some (.inr Zones10)
 )
noncomputable def law16_ClashZones_l22 (p : Policy) : ((List Rule) × Int) → Option (((List Rule) × Int) ⊕ ((List Rule)))
 | (Rules4, i5) =>
 bif (io.lt i5 (io.len (W eRule p.Rules))) then (
 Option.bind (
 Option.bind (idxG p.Rules i5) fun x7 =>
 Option.bind (
 Option.bind (idxG p.Rules i5) fun x9 =>
 whileG (law16_ClashZones_l26 p i5) ([], (io.ar .sub .i64 (io.len (W eA10Range x9.Zones)) 1))
 ) fun Zones8 =>
 Option.bind (some [(Rule.mk x7.Kind x7.Name Zones8 x7.N x7.R x7.S)]) fun l18 =>
 Option.bind (appG Rules4 l18) fun l19 =>
 some l19
 ) fun Rules6 =>
 some (.inl (Rules6, (io.ar .add .i64 i5 1)))
 ) else (
 some (.inr Rules4)
 )
noncomputable def law16_ClashZones_g (p : Policy) : Option (Bool) :=
 Option.bind (law16_head_g) fun up1 =>
 Option.bind (law16_few_g p 10) fun v2 =>
 bif (io.not v2) then (
 some up1
 ) else (
 Option.bind (
 whileG (law16_ClashZones_l22 p) ([], 0)
 ) fun Rules3 =>
 bif up1 then (
 Option.bind (clash_Findings_g p) fun v20 =>
 Option.bind (clash_Findings_g (Policy.mk Rules3)) fun v21 =>
 Option.bind (ref16_Same_g v20 v21) fun v22 =>
 some v22
 ) else (
 some false
 )
 )
set_option maxHeartbeats 4000000 in
theorem law16_ClashZones_R {P : Program} (hP : P = Try.prog) (p : Policy) (r : Bool) (h : law16_ClashZones_g p = some r) : Fn1 P 7 [vPolicy p] (vB r) := by
 refine .walkE (hP ▸ c7_ok) fun K hK => ?_
 unfold law16_ClashZones_g at h
 cbv
 refine .g h (fun v hv => law16_head_R hP v hv) (by first | rfl | exact W_nil _ | (cbv; simp only [W_nilx])) rfl (fun _ => rfl) fun up1 h => ?_
 cbv
 refine .g h (fun v hv => law16_few_R hP _ _ v hv) (by first | rfl | exact W_nil _ | (cbv; simp only [W_nilx])) rfl (fun _ => rfl) fun v2 h => ?_
 cbv
 refine brkG h (fun h => ?_) (fun h => ?_)
 · cbv
   obtain rfl := oj h
   exact hK _ _ (by first | rfl | exact W_nil _ | (cbv; simp only [W_nilx]))
 · cbv
   refine .g h (fun (Rules3 : (List Rule)) => [.top, .ptr 0 0, .top, ob up1, .ptr 1 0] ++ rp 70 .top) (fun (Rules3 : (List Rule)) => [.cells [.d (.sl (W eRule p.Rules))] 24, .cells [.d (.sl (W eRule Rules3))] 24]) (fun y hm Kn1 hKn1 => ?_) fun t h => ?_
   · have h := hm
     clear hm
     cbv
     refine .g h (fun ((Rules4, i5) : (List Rule) × Int) => [.top, .ptr 0 0, .top, ob up1, .ptr 1 0, oi i5] ++ rp 69 .top) (fun ((Rules4, i5) : (List Rule) × Int) => [.cells [.d (.sl (W eRule p.Rules))] 24, .cells [.hd 2] 24, .row 41 8 (W eRule Rules4)]) (.nilcell 1 0 41 8 _ 24 rfl rfl (.nz (.mtE [0, 1, 2] ?_))) fun s x h hr2 Kn2 hKn2 => ?_
     · (cbv; repeat (refine ⟨an_, ?_⟩; cbv))
     unfold law16_ClashZones_l22 at h
     obtain ⟨Rules4, i5⟩ := s
     cbv
     refine brkG h (fun h => ?_) (fun h => ?_)
     · cbv
       refine .g h (fun (Rules6 : (List Rule)) => [.top, .ptr 0 0, .top, ob up1, .ptr 1 0, oi i5] ++ rp 69 .top) (fun (Rules6 : (List Rule)) => [.cells [.d (.sl (W eRule p.Rules))] 24, .cells [.hd 2] 24, .row 41 8 (W eRule Rules6)]) (fun y hm Kn3 hKn3 => ?_) fun t h => ?_
       · have h := hm
         clear hm
         cbv
         refine .g h (fun _ => rfl) fun x7 h => ?_
         cbv
         refine .g h (fun (Zones8 : (List (A10 Range))) => [.top, .ptr 0 0, .top, ob up1, .ptr 1 0, oi i5, .ptr 3 0] ++ rp 68 .top) (fun (Zones8 : (List (A10 Range))) => [.cells [.d (.sl (W eRule p.Rules))] 24, .cells [.hd 2] 24, .row 41 8 (W eRule Rules4), .cells [oi x7.Kind, .d (.val (.string x7.Name)), .hd 4, oi x7.N, oi x7.R.Num, oi x7.R.Den, oi x7.S.Num, oi x7.S.Den] 41, .row 54 20 (W eA10Range Zones8)]) (fun y hm Kn4 hKn4 => ?_) fun t h => ?_
         · have h := hm
           clear hm
           cbv
           refine .g h (fun _ => rfl) fun x9 h => ?_
           cbv
           refine .g h (fun ((Zones10, k11) : (List (A10 Range)) × Int) => [.top, .ptr 0 0, .top, ob up1, .ptr 1 0, oi i5, .ptr 3 0, oi k11] ++ rp 67 .top) (fun ((Zones10, k11) : (List (A10 Range)) × Int) => [.cells [.d (.sl (W eRule p.Rules))] 24, .cells [.hd 2] 24, .row 41 8 (W eRule Rules4), .cells [oi x7.Kind, .d (.val (.string x7.Name)), .hd 4, oi x7.N, oi x7.R.Num, oi x7.R.Den, oi x7.S.Num, oi x7.S.Den] 41, .row 54 20 (W eA10Range Zones10)]) (.nilcell 3 2 54 20 _ 41 rfl rfl (.nz (.mtE [0, 1, 2, 3, 4] ?_))) fun s x h hr5 Kn5 hKn5 => ?_
           · (cbv; repeat (refine ⟨an_, ?_⟩; cbv))
           unfold law16_ClashZones_l26 at h
           obtain ⟨Zones10, k11⟩ := s
           cbv
           refine brkG h (fun h => ?_) (fun h => ?_)
           · cbv
             refine .g h (fun _ => rfl) fun x12 h => ?_
             cbv
             refine .g h (fun _ => rfl) fun x13 h => ?_
             cbv
             refine .g h (fun _ => rfl) fun x14 h => ?_
             cbv
             refine .g h (fun _ => rfl) fun x15 h => ?_
             cbv
             refine .g (e := eA10Range) h (W_cons (by first | rfl | exact W_nil _ | (cbv; simp only [W_nilx])) (W_cons (by first | rfl | exact W_nil _ | (cbv; simp only [W_nilx])) (W_nil' _))) fun l16 h => ?_
             cbv
             refine .g h rfl (fun _ => rfl) (by decide) fun l17 h => ?_
             cbv
             obtain rfl := oj h
             refine hKn5 _ _ _ rfl (.nz (.mtE [0, 1, 2, 3, 5] ?_))
             (cbv; repeat (refine ⟨an_, ?_⟩; cbv))
           · cbv
             obtain rfl := oj h
             obtain rfl := hr5 _ rfl
             refine hKn4 _ _ _ rfl (.nz (.mtE [0, 1, 2, 3, 4] ?_))
             (cbv; repeat (refine ⟨an_, ?_⟩; cbv))
         obtain ⟨Zones8, rfl⟩ : ∃ z, z = t := ⟨_, rfl⟩
         cbv
         refine .g (e := eRule) h (W_cons (by first | rfl | exact W_nil _ | (cbv; simp only [W_nilx])) (W_nil' _)) fun l18 h => ?_
         cbv
         refine .g h rfl (fun _ => rfl) (by decide) fun l19 h => ?_
         cbv
         obtain rfl := oj h
         refine hKn3 _ _ _ rfl (.nz (.mtE [0, 1, 6] ?_))
         (cbv; repeat (refine ⟨an_, ?_⟩; cbv))
       obtain ⟨Rules6, rfl⟩ : ∃ z, z = t := ⟨_, rfl⟩
       cbv
       obtain rfl := oj h
       refine hKn2 _ _ _ rfl (.nz (.mtE [0, 1, 2] ?_))
       (cbv; repeat (refine ⟨an_, ?_⟩; cbv))
     · cbv
       obtain rfl := oj h
       obtain rfl := hr2 _ rfl
       refine hKn1 _ _ _ rfl (.frz [.hd 2] (.nz (.mtE [0, 1] ?_)))
       (cbv; repeat (refine ⟨an_, ?_⟩; cbv))
   obtain ⟨Rules3, rfl⟩ : ∃ z, z = t := ⟨_, rfl⟩
   cbv
   refine brkG h (fun h => ?_) (fun h => ?_)
   · cbv
     refine .g h (fun v hv => clash_Findings_R hP _ v hv) (by first | rfl | exact W_nil _ | (cbv; simp only [W_nilx])) rfl (fun _ => rfl) fun v20 h => ?_
     cbv
     refine .g h (fun v hv => clash_Findings_R hP _ v hv) (by first | rfl | exact W_nil _ | (cbv; simp only [W_nilx])) rfl (fun _ => rfl) fun v21 h => ?_
     cbv
     refine .g h (fun v hv => ref16_Same_R hP _ _ v hv) (by first | rfl | exact W_nil _ | (cbv; simp only [W_nilx])) rfl (fun _ => rfl) fun v22 h => ?_
     cbv
     obtain rfl := oj h
     exact hK _ _ (by first | rfl | exact W_nil _ | (cbv; simp only [W_nilx]))
   · cbv
     obtain rfl := oj h
     exact hK _ _ (by first | rfl | exact W_nil _ | (cbv; simp only [W_nilx]))
end Go.SX.Cl
