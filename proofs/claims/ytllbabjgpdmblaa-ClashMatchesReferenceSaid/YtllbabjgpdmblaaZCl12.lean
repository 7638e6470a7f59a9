/- Parts of the proof. -/
import Derived.Test.YtllbabjgpdmblaaZClT
import Derived.Test.YtllbabjgpdmblaaZCl46
import Derived.Test.YtllbabjgpdmblaaZCl11
import Derived.Test.YtllbabjgpdmblaaZClDelete
import Derived.Test.YtllbabjgpdmblaaZClLaccept
import Derived.Test.YtllbabjgpdmblaaZClLdiffers
set_option linter.unusedSimpArgs false
set_option linter.unusedVariables false
namespace Go.SX.Cl
open Go Go.SX Go.Proofs
set_option maxRecDepth 100000
def c27r0 : List GOp := [
 gv 2 (.box 59 (.tmp 0)),
 gv 4 (.mv (.const .nilFunc))]
def c27r1 : List GOp := [
 gv 6 (.load 1 false (.tmp 2)),
 gv 7 (.nilck (.tmp 6)),
 gv 8 (.fadd 0 (.tmp 7)),
 gv 9 (.fadd 0 (.tmp 8)),
 gv 10 (.load 1 false (.tmp 9)),
 gv 11 (.call 54 [(.tmp 10)]),
 gv 12 (.mv (.tmp 1)),
 gv 13 (.mv (.tmp 1)),
 gv 14 (.bin .add (.tmp 13) (.const (.int .i64 1))),
 gv 15 (.call 53 [(.tmp 11), (.tmp 12), (.tmp 14)]),
 gv 16 (.build (.agg #[(.slice none 0 0)]) [((0, 1), (.tmp 15))]),
 gv 5 (.alloc 24 (.agg #[(.slice none 0 0)])),
 ⟨none, .store 1 (.tmp 5) (.tmp 16), none⟩]
def c27r2 : List GOp := [
 gv 17 (.mkfn (.func 55) [] [(.tmp 2), (.tmp 5)]),
 gv 4 (.mv (.tmp 17))]
def c27 : EFn := ⟨18, .seq (.reg c27r0) (.join (.reg c27r1) (.seq (.reg c27r2) (.ret))), [.tmp 4]⟩
theorem c27_ok : compF Try.prog 27 = some c27.er := by kernel_rfl
def c12r0 : List GOp := [
 gv 1 (.box 24 (.tmp 0)),
 gv 2 (.mv (.const (.slice none 0 0)))]
def c12r1 : List GOp := [
 gv 21 (.load 1 true (.tmp 1)),
 gv 22 (.call 20 [(.tmp 21)]),
 gv 23 (.un .not (.tmp 22))]
def c12r2 : List GOp := [
 gv 2 (.mv (.const (.slice none 0 0)))]
def c12r3 : List GOp := [
 gv 24 (.load 1 true (.tmp 1)),
 gv 25 (.call 22 [])]
def c12r3z : List GOp := [
 gv 26 (.build (.agg #[(.slice none 0 0), (.slice none 0 0), oz, oz, oz, oz, oz, oz, oz, oz, oz, oz, oz, oz, oz, oz, oz, oz, oz, oz, oz, oz]) [((0, 1), (.tmp 24)), ((2, 20), (.tmp 25))]),
 gv 27 (.box 62 (.tmp 26)),
 gv 3 (.mv (.tmp 27))]
def c12r4 : List GOp := [
 gv 28 (.fadd 0 (.tmp 1)),
 gv 29 (.load 1 false (.tmp 28)),
 gv 30 (.len false (.tmp 29)),
 gv 31 (.mv (.const (.int .i64 0)))]
def c12r5 : List GOp := [
 gv 32 (.bin .lss (.tmp 31) (.tmp 30))]
def c12r6 : List GOp := [
 gv 33 (.mv (.tmp 31)),
 gv 34 (.idxA 8 (.tmp 29) (.tmp 31)),
 gv 35 (.load 8 true (.tmp 34)),
 gv 5 (.alloc 41 (.agg #[oz, (.string ⟨#[]⟩), (.slice none 0 0), oz, oz, oz, oz, oz])),
 gv 4 (.mv (.tmp 33)),
 ⟨none, .store 8 (.tmp 5) (.tmp 35), none⟩]
def c12r7 : List GOp := [
 gv 36 (.fadd 2 (.tmp 5)),
 gv 37 (.load 1 false (.tmp 36)),
 gv 38 (.len false (.tmp 37)),
 gv 39 (.mv (.const (.int .i64 0)))]
def c12r8 : List GOp := [
 gv 40 (.bin .lss (.tmp 39) (.tmp 38))]
def c12r9 : List GOp := [
 gv 41 (.idxA 20 (.tmp 37) (.tmp 39)),
 gv 42 (.load 20 true (.tmp 41)),
 gv 7 (.alloc 54 (.agg #[oz, oz, oz, oz, oz, oz, oz, oz, oz, oz, oz, oz, oz, oz, oz, oz, oz, oz, oz, oz])),
 ⟨none, .store 20 (.tmp 7) (.tmp 42), none⟩]
def c12r10 : List GOp := [
 gv 43 (.mv (.tmp 3)),
 gv 44 (.mv (.tmp 3)),
 gv 45 (.nilck (.tmp 44)),
 gv 46 (.fadd 1 (.tmp 45)),
 gv 47 (.load 1 false (.tmp 46)),
 gv 48 (.mv (.tmp 4)),
 gv 49 (.load 20 true (.tmp 7)),
 gv 50 (.build (.agg #[oz, oz, oz, oz, oz, oz, oz, oz, oz, oz, oz, oz, oz, oz, oz, oz, oz, oz, oz, oz, oz]) [((0, 1), (.tmp 48)), ((1, 20), (.tmp 49))]),
 gv 51 (.bslice 64 21 1 (.agg #[oz, oz, oz, oz, oz, oz, oz, oz, oz, oz, oz, oz, oz, oz, oz, oz, oz, oz, oz, oz, oz]) [(0, (.tmp 50))]),
 gv 52 (.app 64 21 168 (.agg #[oz, oz, oz, oz, oz, oz, oz, oz, oz, oz, oz, oz, oz, oz, oz, oz, oz, oz, oz, oz, oz]) (.tmp 47) (.tmp 51)),
 gv 53 (.nilck (.tmp 43)),
 gv 54 (.fadd 1 (.tmp 53))]
def c12r10z : GOp := ⟨none, .store 1 (.tmp 54) (.tmp 52), none⟩
def c12r11 : List GOp := [
 gv 55 (.bin .add (.tmp 39) (.const (.int .i64 1))),
 gv 39 (.mv (.tmp 55))]
def c12l12 : DE := .seq (.reg c12r8) (.seq (.cond (.tmp 40) (.skip) (.exit 2)) (.seq (.block 3 (.seq (.reg c12r9) (.hyl true true 10 c12r10 c12r10z))) (.reg c12r11)))
def c12r13 : List GOp := [
 gv 56 (.bin .add (.tmp 31) (.const (.int .i64 1))),
 gv 31 (.mv (.tmp 56))]
def c12l14 : DE := .seq (.reg c12r5) (.seq (.cond (.tmp 32) (.skip) (.exit 0)) (.join (.block 1 (.seq (.reg c12r6) (.seq (.reg c12r7) (.block 2 (.loop c12l12))))) (.reg c12r13)))
def c12r15 : List GOp := [
 gv 8 (.mv (.const (.slice none 0 0))),
 gv 9 (.mv (.const (.slice none 0 0))),
 gv 10 (.mv (.const (.slice none 0 0)))]
def c12r16 : List GOp := [
 gv 57 (.fadd 0 (.tmp 1)),
 gv 58 (.load 1 false (.tmp 57)),
 gv 59 (.len false (.tmp 58)),
 gv 60 (.mv (.const (.int .i64 0)))]
def c12r17 : List GOp := [
 gv 61 (.bin .lss (.tmp 60) (.tmp 59))]
def c12r18 : List GOp := [
 gv 62 (.mv (.tmp 60)),
 gv 63 (.idxA 8 (.tmp 58) (.tmp 60)),
 gv 64 (.load 8 true (.tmp 63)),
 gv 12 (.alloc 41 (.agg #[oz, (.string ⟨#[]⟩), (.slice none 0 0), oz, oz, oz, oz, oz])),
 gv 11 (.mv (.tmp 62)),
 ⟨none, .store 8 (.tmp 12) (.tmp 64), none⟩]
def c12r19 : List GOp := [
 gv 65 (.fadd 2 (.tmp 12)),
 gv 66 (.load 1 false (.tmp 65)),
 gv 67 (.len false (.tmp 66)),
 gv 68 (.bin .eql (.tmp 67) (.const (.int .i64 0)))]
def c12r20 : List GOp := [
 gv 69 (.mv (.tmp 8)),
 gv 70 (.mv (.tmp 11)),
 gv 71 (.build (.agg #[oz, oz, oz, oz, oz, oz, oz, oz, oz, oz, oz, oz, oz]) [((0, 1), (.const (.int .i64 1))), ((1, 1), (.tmp 70)), ((2, 1), (.const (.int .i64 (-1))))]),
 gv 72 (.bslice 35 13 1 (.agg #[oz, oz, oz, oz, oz, oz, oz, oz, oz, oz, oz, oz, oz]) [(0, (.tmp 71))]),
 gv 73 (.app 35 13 104 (.agg #[oz, oz, oz, oz, oz, oz, oz, oz, oz, oz, oz, oz, oz]) (.tmp 69) (.tmp 72)),
 gv 8 (.mv (.tmp 73))]
def c12r21 : List GOp := [
 gv 75 (.mv (.tmp 3)),
 gv 76 (.mv (.tmp 11)),
 gv 77 (.bslice 3 1 1 oz [(0, (.tmp 76))]),
 gv 78 (.mv (.tmp 3)),
 gv 79 (.mv (.tmp 11)),
 gv 80 (.call 27 [(.tmp 78), (.tmp 79)]),
 gv 81 (.call 26 [(.tmp 75), (.tmp 77), (.tmp 80)]),
 gv 74 (.mv (.tmp 81)),
 gv 82 (.ext (.tmp 74) 0),
 gv 83 (.ext (.tmp 74) 1),
 gv 13 (.alloc 32 (.agg #[oz, oz, oz, oz, oz, oz, oz, oz, oz, oz])),
 ⟨none, .store 10 (.tmp 13) (.tmp 82), none⟩,
 gv 14 (.mv (.tmp 83))]
def c12r22 : List GOp := [
 gv 84 (.mv (.tmp 14)),
 gv 85 (.un .not (.tmp 84))]
def c12r23 : List GOp := [
 gv 87 (.mv (.tmp 3)),
 gv 88 (.mv (.tmp 11)),
 gv 89 (.bslice 3 1 1 oz [(0, (.tmp 88))]),
 gv 90 (.call 26 [(.tmp 87), (.tmp 89), (.func 28)]),
 gv 86 (.mv (.tmp 90)),
 gv 91 (.ext (.tmp 86) 0),
 gv 92 (.ext (.tmp 86) 1),
 gv 15 (.alloc 32 (.agg #[oz, oz, oz, oz, oz, oz, oz, oz, oz, oz])),
 ⟨none, .store 10 (.tmp 15) (.tmp 91), none⟩,
 gv 16 (.mv (.tmp 92))]
def c12r24 : List GOp := [
 gv 93 (.mv (.tmp 9)),
 gv 94 (.mv (.tmp 11)),
 gv 95 (.load 10 true (.tmp 15)),
 gv 96 (.build (.agg #[oz, oz, oz, oz, oz, oz, oz, oz, oz, oz, oz, oz, oz]) [((0, 1), (.const (.int .i64 2))), ((1, 1), (.tmp 94)), ((2, 1), (.const (.int .i64 (-1)))), ((3, 10), (.tmp 95))]),
 gv 97 (.bslice 35 13 1 (.agg #[oz, oz, oz, oz, oz, oz, oz, oz, oz, oz, oz, oz, oz]) [(0, (.tmp 96))]),
 gv 98 (.app 35 13 104 (.agg #[oz, oz, oz, oz, oz, oz, oz, oz, oz, oz, oz, oz, oz]) (.tmp 93) (.tmp 97)),
 gv 9 (.mv (.tmp 98))]
def c12r25 : List GOp := [
 gv 99 (.fadd 0 (.tmp 1)),
 gv 100 (.load 1 false (.tmp 99)),
 gv 101 (.len false (.tmp 100)),
 gv 102 (.mv (.const (.int .i64 0)))]
def c12r26 : List GOp := [
 gv 103 (.bin .lss (.tmp 102) (.tmp 101))]
def c12r27 : List GOp := [
 gv 104 (.mv (.tmp 102)),
 gv 105 (.idxA 8 (.tmp 100) (.tmp 102)),
 gv 106 (.load 8 true (.tmp 105)),
 gv 18 (.alloc 41 (.agg #[oz, (.string ⟨#[]⟩), (.slice none 0 0), oz, oz, oz, oz, oz])),
 gv 17 (.mv (.tmp 104)),
 ⟨none, .store 8 (.tmp 18) (.tmp 106), none⟩]
def c12r28 : List GOp := [
 gv 107 (.fadd 0 (.tmp 12)),
 gv 108 (.load 1 false (.tmp 107)),
 gv 109 (.bin .neq (.tmp 108) (.const (.int .i64 1))),
 gv 110 (.mv (.tmp 109)),
 gw 111 110 false (.fadd 0 (.tmp 18)),
 gw 112 110 false (.load 1 false (.tmp 111)),
 gw 113 110 false (.bin .neq (.tmp 112) (.const (.int .i64 2))),
 gv 114 (.pick (.tmp 110) (.const (.bool true)) (.tmp 113))]
def c12r29 : List GOp := [
 gv 116 (.mv (.tmp 3)),
 gv 117 (.mv (.tmp 11)),
 gv 118 (.mv (.tmp 17)),
 gv 119 (.bslice 3 1 2 oz [(0, (.tmp 117)), (1, (.tmp 118))]),
 gv 120 (.call 26 [(.tmp 116), (.tmp 119), (.func 28)]),
 gv 115 (.mv (.tmp 120)),
 gv 121 (.ext (.tmp 115) 0),
 gv 122 (.ext (.tmp 115) 1),
 gv 19 (.alloc 32 (.agg #[oz, oz, oz, oz, oz, oz, oz, oz, oz, oz])),
 ⟨none, .store 10 (.tmp 19) (.tmp 121), none⟩,
 gv 20 (.mv (.tmp 122))]
def c12r30 : List GOp := [
 gv 123 (.mv (.tmp 20))]
def c12r31 : List GOp := [
 gv 124 (.mv (.tmp 10)),
 gv 125 (.mv (.tmp 11)),
 gv 126 (.mv (.tmp 17)),
 gv 127 (.load 10 true (.tmp 19)),
 gv 128 (.build (.agg #[oz, oz, oz, oz, oz, oz, oz, oz, oz, oz, oz, oz, oz]) [((0, 1), (.const (.int .i64 3))), ((1, 1), (.tmp 125)), ((2, 1), (.tmp 126)), ((3, 10), (.tmp 127))]),
 gv 129 (.bslice 35 13 1 (.agg #[oz, oz, oz, oz, oz, oz, oz, oz, oz, oz, oz, oz, oz]) [(0, (.tmp 128))]),
 gv 130 (.app 35 13 104 (.agg #[oz, oz, oz, oz, oz, oz, oz, oz, oz, oz, oz, oz, oz]) (.tmp 124) (.tmp 129)),
 gv 10 (.mv (.tmp 130))]
def c12r32 : List GOp := [
 gv 131 (.bin .add (.tmp 102) (.const (.int .i64 1))),
 gv 102 (.mv (.tmp 131))]
def c12l33 : DE := .seq (.reg c12r26) (.seq (.cond (.tmp 103) (.skip) (.exit 6)) (.join (.block 7 (.seq (.reg c12r27) (.seq (.join (.reg c12r28) (.cond (.tmp 114) (.exit 7) (.skip))) (.join (.reg c12r29) (.seq (.reg c12r30) (.cond (.tmp 123) (.reg c12r31) (.skip))))))) (.reg c12r32)))
def c12r34 : List GOp := [
 gv 132 (.bin .add (.tmp 60) (.const (.int .i64 1))),
 gv 60 (.mv (.tmp 132))]
def c12l35 : DE := .seq (.reg c12r17) (.seq (.cond (.tmp 61) (.skip) (.exit 4)) (.join (.block 5 (.seq (.reg c12r18) (.seq (.seq (.reg c12r19) (.cond (.tmp 68) (.seq (.reg c12r20) (.exit 5)) (.skip))) (.join (.join (.reg c12r21) (.seq (.reg c12r22) (.cond (.tmp 85) (.join (.reg c12r23) (.reg c12r24)) (.skip)))) (.seq (.reg c12r25) (.block 6 (.loop c12l33))))))) (.reg c12r34)))
def c12r36 : List GOp := [
 gv 133 (.mv (.tmp 8)),
 gv 134 (.mv (.tmp 9)),
 gv 135 (.mv (.tmp 10)),
 gv 136 (.bslice 28 1 3 (.slice none 0 0) [(0, (.tmp 133)), (1, (.tmp 134)), (2, (.tmp 135))]),
 gv 137 (.call 29 [(.tmp 136)]),
 gv 2 (.mv (.tmp 137))]
def c12 : EFn := ⟨138, .seq (.reg c12r0) (.seq (.seq (.reg c12r1) (.cond (.tmp 23) (.seq (.reg c12r2) (.ret)) (.skip))) (.seq (.sfx false false false c12r3 c12r3z) (.join (.seq (.reg c12r4) (.block 0 (.loop c12l14))) (.seq (.reg c12r15) (.join (.seq (.reg c12r16) (.block 4 (.loop c12l35))) (.seq (.reg c12r36) (.ret))))))), [.tmp 2]⟩
theorem c12_ok : compF Try.prog 12 = some c12.er := by kernel_rfl
noncomputable def clash_Findings_l14 (x7 : Rule) (v5 : Int) : ((List Ranged) × Int) → Option (((List Ranged) × Int) ⊕ ((List Ranged)))
 | (zones8, v9) =>
 bif (io.lt v9 (io.len (W eA10Range x7.Zones))) then (
 Option.bind (idxG x7.Zones v9) fun x10 =>
 Option.bind (some [(Ranged.mk v5 x10)]) fun l11 =>
 Option.bind (appG zones8 l11) fun l12 =>
 some (.inl (l12, (io.ar .add .i64 v9 1)))
 ) else (
 some (.inr zones8)
 )
noncomputable def clash_Findings_l12 (p : Policy) : ((List Ranged) × Int) → Option (((List Ranged) × Int) ⊕ ((List Ranged)))
 | (zones4, v5) =>
 bif (io.lt v5 (io.len (W eRule p.Rules))) then (
 Option.bind (
 Option.bind (idxG p.Rules v5) fun x7 =>
 whileG (clash_Findings_l14 x7 v5) (zones4, 0)
 ) fun zones6 =>
 some (.inl (zones6, (io.ar .add .i64 v5 1)))
 ) else (
 some (.inr zones4)
 )
noncomputable def clash_Findings_l28 (p : Policy) (x23 : Rule) (v19 : Int) (zones3 : (List Ranged)) (v2 : (A10 Range)) (never16 : (List Finding)) (idle26 : (List Finding)) : ((List Finding) × Int) → Option (((List Finding) × Int) ⊕ ((List Finding) × (List Finding) × (List Finding)))
 | (contrary38, v39) =>
 bif (io.lt v39 (io.len (W eRule p.Rules))) then (
 Option.bind (
 Option.bind (idxG p.Rules v39) fun x41 =>
 Option.bind (
 bif (io.not (io.eq x23.Kind 1)) then (
 some true
 ) else (
 some (io.not (io.eq x41.Kind 2))
 )
 ) fun v42 =>
 bif v42 then (
 some contrary38
 ) else (
 Option.bind (
 Option.bind (some [v19, v39]) fun l45 =>
 Option.bind (least_accept_b (Finder.mk p zones3 v2) l45) fun r46 =>
 some (r46.1, r46.2)
 ) fun (f43, ok44) =>
 bif ok44 then (
 Option.bind (some [(Finding.mk 3 v19 v39 f43)]) fun l47 =>
 Option.bind (appG contrary38 l47) fun contrary48 =>
 some contrary48
 ) else (
 some contrary38
 )
 )
 ) fun contrary40 =>
 some (.inl (contrary40, (io.ar .add .i64 v39 1)))
 ) else (
 some (.inr (never16, idle26, contrary38))
 )
noncomputable def clash_Findings_l26 (p : Policy) (zones3 : (List Ranged)) (v2 : (A10 Range)) : ((List Finding) × (List Finding) × (List Finding) × Int) → Option (((List Finding) × (List Finding) × (List Finding) × Int) ⊕ ((List Finding) × (List Finding) × (List Finding)))
 | (never16, idle17, contrary18, v19) =>
 bif (io.lt v19 (io.len (W eRule p.Rules))) then (
 Option.bind (
 Option.bind (idxG p.Rules v19) fun x23 =>
 bif (io.eq (io.len (W eA10Range x23.Zones)) 0) then (
 Option.bind (some [(Finding.mk 1 v19 (-1) (A10.mk 0 0 0 0 0 0 0 0 0 0))]) fun l24 =>
 Option.bind (appG never16 l24) fun never25 =>
 some (never25, idle17, contrary18)
 ) else (
 Option.bind (
 Option.bind (
 Option.bind (some [v19]) fun l28 =>
 Option.bind (
 Option.bind (slices_Clone_g p.Rules) fun l30 =>
 Option.bind (delG l30 v19 (io.ar .add .i64 v19 1)) fun l31 =>
 some l31
 ) fun Rules29 =>
 Option.bind (least_differs_b (Finder.mk p zones3 v2) l28 (Finder.mk p zones3 v2) (Policy.mk Rules29)) fun r32 =>
 some r32.2
 ) fun ok27 =>
 bif (io.not ok27) then (
 Option.bind (
 Option.bind (some [v19]) fun l34 =>
 Option.bind (least_accept_b (Finder.mk p zones3 v2) l34) fun r35 =>
 some r35.1
 ) fun f33 =>
 Option.bind (some [(Finding.mk 2 v19 (-1) f33)]) fun l36 =>
 Option.bind (appG idle17 l36) fun idle37 =>
 some idle37
 ) else (
 some idle17
 )
 ) fun idle26 =>
 whileG (clash_Findings_l28 p x23 v19 zones3 v2 never16 idle26) (contrary18, 0)
 )
 ) fun (never20, idle21, contrary22) =>
 some (.inl (never20, idle21, contrary22, (io.ar .add .i64 v19 1)))
 ) else (
 some (.inr (never16, idle17, contrary18))
 )
noncomputable def clash_Findings_g (p : Policy) : Option ((List Finding)) :=
 Option.bind (decide_Valid_g p) fun v1 =>
 bif (io.not v1) then (
 some []
 ) else (
 Option.bind (resolve_Limits_g) fun v2 =>
 Option.bind (
 whileG (clash_Findings_l12 p) ([], 0)
 ) fun zones3 =>
 Option.bind (
 whileG (clash_Findings_l26 p zones3 v2) ([], [], [], 0)
 ) fun (never13, idle14, contrary15) =>
 Option.bind (some [never13, idle14, contrary15]) fun l49 =>
 Option.bind (slices_Concat_g l49) fun v50 =>
 some v50
 )
set_option maxHeartbeats 4000000 in
theorem clash_Findings_R {P : Program} (hP : P = Try.prog) (p : Policy) (r : (List Finding)) (h : clash_Findings_g p = some r) : Fn1 P 12 [vPolicy p] (vLFinding r) := by
 refine .walkE (hP ▸ c12_ok) fun K hK => ?_
 unfold clash_Findings_g at h
 cbv
 refine .g h (fun v hv => decide_Valid_R hP _ v hv) aw_ rfl (fun _ => rfl) fun v1 h => ?_
 cbv
 refine brkG h ?_ ?_ <;> intro h
 · cbv
   obtain rfl := oj h
   exact hK _ _ aw_
 · cbv
   refine .g h (fun v hv => resolve_Limits_R hP v hv) aw_ rfl (fun _ => rfl) fun v2 h => ?_
   cbv
   refine .g h (fun (zones3 : (List Ranged)) => [.top, .ptr 0 0, .top, .ptr 1 0] ++ rp 134 .top) (fun (zones3 : (List Ranged)) => [.cells [.d (.sl (W eRule p.Rules))] 24, .cells [.d (.sl (W eRule p.Rules)), .hd 2, oi v2.a0.Lo, oi v2.a0.Hi, oi v2.a1.Lo, oi v2.a1.Hi, oi v2.a2.Lo, oi v2.a2.Hi, oi v2.a3.Lo, oi v2.a3.Hi, oi v2.a4.Lo, oi v2.a4.Hi, oi v2.a5.Lo, oi v2.a5.Hi, oi v2.a6.Lo, oi v2.a6.Hi, oi v2.a7.Lo, oi v2.a7.Hi, oi v2.a8.Lo, oi v2.a8.Hi, oi v2.a9.Lo, oi v2.a9.Hi] 62, .row 64 21 (W eRanged zones3)]) (fun y hm Kn1 hKn1 => ?_) fun t h => ?_
   · have h := hm
     clear hm
     cbv
     refine .g h (fun ((zones4, v5) : (List Ranged) × Int) => [.top, .ptr 0 0, .top, .ptr 1 0] ++ rp 25 .top ++ [.d (.sl (W eRule p.Rules)), oi (io.len (W eRule p.Rules)), oi v5] ++ rp 106 .top) (fun ((zones4, v5) : (List Ranged) × Int) => [.cells [.d (.sl (W eRule p.Rules))] 24, .cells [.d (.sl (W eRule p.Rules)), .hd 2, oi v2.a0.Lo, oi v2.a0.Hi, oi v2.a1.Lo, oi v2.a1.Hi, oi v2.a2.Lo, oi v2.a2.Hi, oi v2.a3.Lo, oi v2.a3.Hi, oi v2.a4.Lo, oi v2.a4.Hi, oi v2.a5.Lo, oi v2.a5.Hi, oi v2.a6.Lo, oi v2.a6.Hi, oi v2.a7.Lo, oi v2.a7.Hi, oi v2.a8.Lo, oi v2.a8.Hi, oi v2.a9.Lo, oi v2.a9.Hi] 62, .row 64 21 (W eRanged zones4)]) (.nilcell 1 1 64 21 _ 62 rfl rfl (.nz (.mtE [0, 1, 2] ?_))) fun s x h hr2 Kn2 hKn2 => ?_
     · (cbv; repeat (refine ⟨an_, ?_⟩; cbv))
     unfold clash_Findings_l12 at h
     obtain ⟨zones4, v5⟩ := s
     cbv
     refine brkG h ?_ ?_ <;> intro h
     · cbv
       refine .g h (fun (zones6 : (List Ranged)) => [.top, .ptr 0 0, .top, .ptr 1 0] ++ rp 25 .top ++ [.d (.sl (W eRule p.Rules)), oi (io.len (W eRule p.Rules)), oi v5] ++ rp 106 .top) (fun (zones6 : (List Ranged)) => [.cells [.d (.sl (W eRule p.Rules))] 24, .cells [.d (.sl (W eRule p.Rules)), .hd 2, oi v2.a0.Lo, oi v2.a0.Hi, oi v2.a1.Lo, oi v2.a1.Hi, oi v2.a2.Lo, oi v2.a2.Hi, oi v2.a3.Lo, oi v2.a3.Hi, oi v2.a4.Lo, oi v2.a4.Hi, oi v2.a5.Lo, oi v2.a5.Hi, oi v2.a6.Lo, oi v2.a6.Hi, oi v2.a7.Lo, oi v2.a7.Hi, oi v2.a8.Lo, oi v2.a8.Hi, oi v2.a9.Lo, oi v2.a9.Hi] 62, .row 64 21 (W eRanged zones6)]) (fun y hm Kn3 hKn3 => ?_) fun t h => ?_
       · have h := hm
         clear hm
         cbv
         refine .g h (fun _ => rfl) fun x7 h => ?_
         cbv
         refine .g h (fun ((zones8, v9) : (List Ranged) × Int) => [.top, .ptr 0 0, .top, .ptr 1 0, oi v5] ++ rp 24 .top ++ [.d (.sl (W eRule p.Rules)), oi (io.len (W eRule p.Rules)), oi v5] ++ rp 5 .top ++ [.d (.sl (W eA10Range x7.Zones)), oi (io.len (W eA10Range x7.Zones)), oi v9] ++ rp 98 .top) (fun ((zones8, v9) : (List Ranged) × Int) => [.cells [.d (.sl (W eRule p.Rules))] 24, .cells [.d (.sl (W eRule p.Rules)), .hd 2, oi v2.a0.Lo, oi v2.a0.Hi, oi v2.a1.Lo, oi v2.a1.Hi, oi v2.a2.Lo, oi v2.a2.Hi, oi v2.a3.Lo, oi v2.a3.Hi, oi v2.a4.Lo, oi v2.a4.Hi, oi v2.a5.Lo, oi v2.a5.Hi, oi v2.a6.Lo, oi v2.a6.Hi, oi v2.a7.Lo, oi v2.a7.Hi, oi v2.a8.Lo, oi v2.a8.Hi, oi v2.a9.Lo, oi v2.a9.Hi] 62, .row 64 21 (W eRanged zones8)]) (.nz (.mtE [0, 1, 2] ?_)) fun s x h hr4 Kn4 hKn4 => ?_
         · (cbv; repeat (refine ⟨an_, ?_⟩; cbv))
         unfold clash_Findings_l14 at h
         obtain ⟨zones8, v9⟩ := s
         cbv
         refine brkG h ?_ ?_ <;> intro h
         · cbv
           refine .g h (fun _ => rfl) fun x10 h => ?_
           cbv
           refine .g (e := eRanged) h (W_cons aw_ (W_nil' _)) fun l11 h => ?_
           cbv
           refine .g h rfl (fun _ => rfl) (by decide) fun l12 h => ?_
           cbv
           obtain rfl := oj h
           refine hKn4 _ _ _ rfl (.nz (.mtE [0, 1, 4] ?_))
           (cbv; repeat (refine ⟨an_, ?_⟩; cbv))
         · cbv
           obtain rfl := oj h
           obtain rfl := hr4 _ rfl
           refine hKn3 _ _ _ rfl (.nz (.mtE [0, 1, 2] ?_))
           (cbv; repeat (refine ⟨an_, ?_⟩; cbv))
       obtain ⟨zones6, rfl⟩ : ∃ z, z = t := ⟨_, rfl⟩
       cbv
       obtain rfl := oj h
       refine hKn2 _ _ _ rfl (.nz (.mtE [0, 1, 2] ?_))
       (cbv; repeat (refine ⟨an_, ?_⟩; cbv))
     · cbv
       obtain rfl := oj h
       obtain rfl := hr2 _ rfl
       refine hKn1 _ _ _ rfl (.nz (.mtE [0, 1, 2] ?_))
       (cbv; repeat (refine ⟨an_, ?_⟩; cbv))
   obtain ⟨zones3, rfl⟩ : ∃ z, z = t := ⟨_, rfl⟩
   cbv
   refine .g h (fun ((never13, idle14, contrary15) : (List Finding) × (List Finding) × (List Finding)) => rp 8 .top ++ [.hd 0, .hd 1, .hd 2] ++ rp 127 .top) (fun ((never13, idle14, contrary15) : (List Finding) × (List Finding) × (List Finding)) => [.row 35 13 (W eFinding never13), .row 35 13 (W eFinding idle14), .row 35 13 (W eFinding contrary15)]) (fun y hm Kn1 hKn1 => ?_) fun t h => ?_
   · have h := hm
     clear hm
     cbv
     refine .g h (fun ((never16, idle17, contrary18, v19) : (List Finding) × (List Finding) × (List Finding) × Int) => [.top, .ptr 0 0, .top, .fp (.sl (W eRule p.Rules) :: .sl (W eRanged zones3) :: cl v2)] ++ rp 4 .top ++ [.hd 1, .hd 2, .hd 3] ++ rp 47 .top ++ [.d (.sl (W eRule p.Rules)), oi (io.len (W eRule p.Rules)), oi v19] ++ rp 77 .top) (fun ((never16, idle17, contrary18, v19) : (List Finding) × (List Finding) × (List Finding) × Int) => [.cells [.d (.sl (W eRule p.Rules))] 24, .row 35 13 (W eFinding never16), .row 35 13 (W eFinding idle17), .row 35 13 (W eFinding contrary18)]) (.frzP [1] (.nilr 8 35 13 rfl (.nilr 9 35 13 rfl (.nilr 10 35 13 rfl (.nz (.mtE [0, 3, 4, 5] ?_)))))) fun s x h hr2 Kn2 hKn2 => ?_
     · (cbv; repeat (refine ⟨an_, ?_⟩; cbv))
     unfold clash_Findings_l26 at h
     obtain ⟨never16, idle17, contrary18, v19⟩ := s
     cbv
     refine brkG h ?_ ?_ <;> intro h
     · cbv
       refine .g h (fun ((never20, idle21, contrary22) : (List Finding) × (List Finding) × (List Finding)) => [.top, .ptr 0 0, .top, .fp (.sl (W eRule p.Rules) :: .sl (W eRanged zones3) :: cl v2)] ++ rp 4 .top ++ [.hd 1, .hd 2, .hd 3] ++ rp 47 .top ++ [.d (.sl (W eRule p.Rules)), oi (io.len (W eRule p.Rules)), oi v19] ++ rp 77 .top) (fun ((never20, idle21, contrary22) : (List Finding) × (List Finding) × (List Finding)) => [.cells [.d (.sl (W eRule p.Rules))] 24, .row 35 13 (W eFinding never20), .row 35 13 (W eFinding idle21), .row 35 13 (W eFinding contrary22)]) (fun y hm Kn3 hKn3 => ?_) fun t h => ?_
       · have h := hm
         clear hm
         cbv
         refine .g h (fun _ => rfl) fun x23 h => ?_
         cbv
         refine brkG h ?_ ?_ <;> intro h
         · cbv
           refine .g (e := eFinding) h (W_cons aw_ (W_nil' _)) fun l24 h => ?_
           cbv
           refine .g h rfl (fun _ => rfl) (by decide) fun never25 h => ?_
           cbv
           obtain rfl := oj h
           refine hKn3 _ _ _ rfl (.nz (.mtE [0, 6, 2, 3] ?_))
           (cbv; repeat (refine ⟨an_, ?_⟩; cbv))
         · cbv
           refine .g h (fun (idle26 : (List Finding)) => [.top, .ptr 0 0, .top, .fp (.sl (W eRule p.Rules) :: .sl (W eRanged zones3) :: cl v2)] ++ rp 4 .top ++ [.hd 1, .hd 2, .hd 3, oi v19, .ptr 4 0] ++ rp 45 .top ++ [.d (.sl (W eRule p.Rules)), oi (io.len (W eRule p.Rules)), oi v19] ++ rp 77 .top) (fun (idle26 : (List Finding)) => [.cells [.d (.sl (W eRule p.Rules))] 24, .row 35 13 (W eFinding never16), .row 35 13 (W eFinding idle26), .row 35 13 (W eFinding contrary18), .cells [oi x23.Kind, .d (.val (.string x23.Name)), .d (.sl (W eA10Range x23.Zones)), oi x23.N, oi x23.R.Num, oi x23.R.Den, oi x23.S.Num, oi x23.S.Den] 41]) (fun y hm Kn4 hKn4 => ?_) fun t h => ?_
           · have h := hm
             clear hm
             cbv
             refine .g h (fun (ok27 : Bool) => [.top, .ptr 0 0, .top, .fp (.sl (W eRule p.Rules) :: .sl (W eRanged zones3) :: cl v2)] ++ rp 4 .top ++ [.hd 1, .hd 2, .hd 3, oi v19, .ptr 4 0, .top, ob ok27] ++ rp 43 .top ++ [.d (.sl (W eRule p.Rules)), oi (io.len (W eRule p.Rules)), oi v19] ++ rp 77 .top) (fun (ok27 : Bool) => [.cells [.d (.sl (W eRule p.Rules))] 24, .row 35 13 (W eFinding never16), .row 35 13 (W eFinding idle17), .row 35 13 (W eFinding contrary18), .cells [oi x23.Kind, .d (.val (.string x23.Name)), .d (.sl (W eA10Range x23.Zones)), oi x23.N, oi x23.R.Num, oi x23.R.Den, oi x23.S.Num, oi x23.S.Den] 41]) (fun y hm Kn5 hKn5 => ?_) fun t h => ?_
             · have h := hm
               clear hm
               cbv
               refine .g (e := eIi64) h (W_cons aw_ (W_nil' _)) fun l28 h => ?_
               cbv
               refine .inl (hP ▸ c27_ok) ?_
               cbv
               refine .g h (fun (Rules29 : (List Rule)) => [.top, .top, .ptr 6 0, .top, .top, .ptr 7 0] ++ rp 12 .top) (fun (Rules29 : (List Rule)) => [.cells [.d (.sl (W eRule p.Rules))] 24, .row 35 13 (W eFinding never16), .row 35 13 (W eFinding idle17), .row 35 13 (W eFinding contrary18), .cells [oi x23.Kind, .d (.val (.string x23.Name)), .d (.sl (W eA10Range x23.Zones)), oi x23.N, oi x23.R.Num, oi x23.R.Den, oi x23.S.Num, oi x23.S.Den] 41, .row 3 1 (W eIi64 l28), .cells [.fp (.sl (W eRule p.Rules) :: .sl (W eRanged zones3) :: cl v2)] 59, .cells [.d (.sl (W eRule Rules29))] 24]) (fun y hm Kn6 hKn6 => ?_) fun t h => ?_
               · have h := hm
                 clear hm
                 cbv
                 obtain ⟨l30, hm, h⟩ := Option.bind_eq_some_iff.1 h
                 refine .embL [] (slices_Clone_O hP _ _ hm) (by (cbv; repeat (refine ⟨an_, ?_⟩; cbv))) fun sv0 own0 hq _ => ?_
                 obtain ⟨rfl, rfl⟩ := hq
                 clear hm
                 cbv
                 obtain ⟨l31, hm, h⟩ := Option.bind_eq_some_iff.1 h
                 refine .emb [7] (slices_Delete_R hP _ _ _ _ hm) (by (cbv; repeat (refine ⟨an_, ?_⟩; cbv))) fun sv0 own0 hq _ => ?_
                 obtain ⟨rfl, rfl⟩ := hq
                 clear hm
                 cbv
                 obtain rfl := oj h
                 refine hKn6 _ _ _ rfl (.nz (.mtE [0, 1, 2, 3, 4, 5, 6, 8] ?_))
                 (cbv; repeat (refine ⟨an_, ?_⟩; cbv))
               obtain ⟨Rules29, rfl⟩ : ∃ z, z = t := ⟨_, rfl⟩
               cbv
               obtain ⟨r32, hm, h⟩ := Option.bind_eq_some_iff.1 h
               refine .embL [6, 7] (least_differs_R hP _ _ _ _ _ hm) (by (cbv; repeat (refine ⟨an_, ?_⟩; cbv))) fun sv0 own0 hq _ => ?_
               obtain ⟨rfl, rfl⟩ := hq
               clear hm
               cbv
               obtain rfl := oj h
               refine hKn5 _ _ _ rfl (.nz (.mtE [0, 1, 2, 3, 4] ?_))
               (cbv; repeat (refine ⟨an_, ?_⟩; cbv))
             obtain ⟨ok27, rfl⟩ : ∃ z, z = t := ⟨_, rfl⟩
             cbv
             refine brkG h ?_ ?_ <;> intro h
             · cbv
               refine .g h (fun (f33 : (A10 Int)) => [.top, .ptr 0 0, .top, .fp (.sl (W eRule p.Rules) :: .sl (W eRanged zones3) :: cl v2)] ++ rp 4 .top ++ [.hd 1, .hd 2, .hd 3, oi v19, .ptr 4 0, .top, .top, .ptr 5 0] ++ rp 42 .top ++ [.d (.sl (W eRule p.Rules)), oi (io.len (W eRule p.Rules)), oi v19] ++ rp 77 .top) (fun (f33 : (A10 Int)) => [.cells [.d (.sl (W eRule p.Rules))] 24, .row 35 13 (W eFinding never16), .row 35 13 (W eFinding idle17), .row 35 13 (W eFinding contrary18), .cells [oi x23.Kind, .d (.val (.string x23.Name)), .d (.sl (W eA10Range x23.Zones)), oi x23.N, oi x23.R.Num, oi x23.R.Den, oi x23.S.Num, oi x23.S.Den] 41, .cells (ca f33) 32]) (fun y hm Kn5 hKn5 => ?_) fun t h => ?_
               · have h := hm
                 clear hm
                 cbv
                 refine .g (e := eIi64) h (W_cons aw_ (W_nil' _)) fun l34 h => ?_
                 cbv
                 obtain ⟨r35, hm, h⟩ := Option.bind_eq_some_iff.1 h
                 refine .embL [] (least_accept_R hP _ _ _ hm) (by (cbv; repeat (refine ⟨an_, ?_⟩; cbv))) fun sv0 own0 hq _ => ?_
                 obtain ⟨rfl, rfl⟩ := hq
                 clear hm
                 cbv
                 obtain rfl := oj h
                 refine hKn5 _ _ _ rfl (.nz (.mtE [0, 1, 2, 3, 4, 6] ?_))
                 (cbv; repeat (refine ⟨an_, ?_⟩; cbv))
               obtain ⟨f33, rfl⟩ : ∃ z, z = t := ⟨_, rfl⟩
               cbv
               refine .g (e := eFinding) h (W_cons aw_ (W_nil' _)) fun l36 h => ?_
               cbv
               refine .g h rfl (fun _ => rfl) (by decide) fun idle37 h => ?_
               cbv
               obtain rfl := oj h
               refine hKn4 _ _ _ rfl (.nz (.mtE [0, 1, 7, 3, 4] ?_))
               (cbv; repeat (refine ⟨an_, ?_⟩; cbv))
             · cbv
               obtain rfl := oj h
               refine hKn4 _ _ _ rfl (.nz (.mtE [0, 1, 2, 3, 4] ?_))
               (cbv; repeat (refine ⟨an_, ?_⟩; cbv))
           obtain ⟨idle26, rfl⟩ : ∃ z, z = t := ⟨_, rfl⟩
           cbv
           refine .g h (fun ((contrary38, v39) : (List Finding) × Int) => [.top, .ptr 0 0, .top, .fp (.sl (W eRule p.Rules) :: .sl (W eRanged zones3) :: cl v2)] ++ rp 4 .top ++ [.hd 1, .hd 2, .hd 3, oi v19, .ptr 4 0] ++ rp 45 .top ++ [.d (.sl (W eRule p.Rules)), oi (io.len (W eRule p.Rules)), oi v19] ++ rp 39 .top ++ [.d (.sl (W eRule p.Rules)), oi (io.len (W eRule p.Rules)), oi v39] ++ rp 35 .top) (fun ((contrary38, v39) : (List Finding) × Int) => [.cells [.d (.sl (W eRule p.Rules))] 24, .row 35 13 (W eFinding never16), .row 35 13 (W eFinding idle26), .row 35 13 (W eFinding contrary38), .cells [oi x23.Kind, .d (.val (.string x23.Name)), .d (.sl (W eA10Range x23.Zones)), oi x23.N, oi x23.R.Num, oi x23.R.Den, oi x23.S.Num, oi x23.S.Den] 41]) (.nz (.mtE [0, 1, 2, 3, 4] ?_)) fun s x h hr4 Kn4 hKn4 => ?_
           · (cbv; repeat (refine ⟨an_, ?_⟩; cbv))
           unfold clash_Findings_l28 at h
           obtain ⟨contrary38, v39⟩ := s
           cbv
           refine brkG h ?_ ?_ <;> intro h
           · cbv
             refine .g h (fun (contrary40 : (List Finding)) => [.top, .ptr 0 0, .top, .fp (.sl (W eRule p.Rules) :: .sl (W eRanged zones3) :: cl v2)] ++ rp 4 .top ++ [.hd 1, .hd 2, .hd 3, oi v19, .ptr 4 0] ++ rp 45 .top ++ [.d (.sl (W eRule p.Rules)), oi (io.len (W eRule p.Rules)), oi v19] ++ rp 39 .top ++ [.d (.sl (W eRule p.Rules)), oi (io.len (W eRule p.Rules)), oi v39] ++ rp 35 .top) (fun (contrary40 : (List Finding)) => [.cells [.d (.sl (W eRule p.Rules))] 24, .row 35 13 (W eFinding never16), .row 35 13 (W eFinding idle26), .row 35 13 (W eFinding contrary40), .cells [oi x23.Kind, .d (.val (.string x23.Name)), .d (.sl (W eA10Range x23.Zones)), oi x23.N, oi x23.R.Num, oi x23.R.Den, oi x23.S.Num, oi x23.S.Den] 41]) (fun y hm Kn5 hKn5 => ?_) fun t h => ?_
             · have h := hm
               clear hm
               cbv
               refine .g h (fun _ => rfl) fun x41 h => ?_
               cbv
               refine .g h (fun (v42 : Bool) => [.top, .ptr 0 0, .top, .fp (.sl (W eRule p.Rules) :: .sl (W eRanged zones3) :: cl v2)] ++ rp 4 .top ++ [.hd 1, .hd 2, .hd 3, oi v19, .ptr 4 0] ++ rp 4 .top ++ [oi v39] ++ rp 40 .top ++ [.d (.sl (W eRule p.Rules)), oi (io.len (W eRule p.Rules)), oi v19] ++ rp 39 .top ++ [.d (.sl (W eRule p.Rules)), oi (io.len (W eRule p.Rules)), oi v39] ++ rp 11 .top ++ [ob v42] ++ rp 23 .top) (fun (v42 : Bool) => [.cells [.d (.sl (W eRule p.Rules))] 24, .row 35 13 (W eFinding never16), .row 35 13 (W eFinding idle26), .row 35 13 (W eFinding contrary38), .cells [oi x23.Kind, .d (.val (.string x23.Name)), .d (.sl (W eA10Range x23.Zones)), oi x23.N, oi x23.R.Num, oi x23.R.Den, oi x23.S.Num, oi x23.S.Den] 41]) (fun y hm Kn6 hKn6 => ?_) fun t h => ?_
               · have h := hm
                 clear hm
                 cbv
                 refine brkG h ?_ ?_ <;> intro h
                 · cbv
                   obtain rfl := oj h
                   refine hKn6 _ _ _ rfl (.nz (.mtE [0, 1, 2, 3, 4] ?_))
                   (cbv; repeat (refine ⟨an_, ?_⟩; cbv))
                 · cbv
                   obtain rfl := oj h
                   refine hKn6 _ _ _ rfl (.nz (.mtE [0, 1, 2, 3, 4] ?_))
                   (cbv; repeat (refine ⟨an_, ?_⟩; cbv))
               obtain ⟨v42, rfl⟩ : ∃ z, z = t := ⟨_, rfl⟩
               cbv
               refine brkG h ?_ ?_ <;> intro h
               · cbv
                 obtain rfl := oj h
                 refine hKn5 _ _ _ rfl (.nz (.mtE [0, 1, 2, 3, 4] ?_))
                 (cbv; repeat (refine ⟨an_, ?_⟩; cbv))
               · cbv
                 refine .g h (fun ((f43, ok44) : (A10 Int) × Bool) => [.top, .ptr 0 0, .top, .fp (.sl (W eRule p.Rules) :: .sl (W eRanged zones3) :: cl v2)] ++ rp 4 .top ++ [.hd 1, .hd 2, .hd 3, oi v19, .ptr 4 0] ++ rp 4 .top ++ [oi v39, .top, .ptr 5 0, ob ok44] ++ rp 37 .top ++ [.d (.sl (W eRule p.Rules)), oi (io.len (W eRule p.Rules)), oi v19] ++ rp 39 .top ++ [.d (.sl (W eRule p.Rules)), oi (io.len (W eRule p.Rules)), oi v39] ++ rp 35 .top) (fun ((f43, ok44) : (A10 Int) × Bool) => [.cells [.d (.sl (W eRule p.Rules))] 24, .row 35 13 (W eFinding never16), .row 35 13 (W eFinding idle26), .row 35 13 (W eFinding contrary38), .cells [oi x23.Kind, .d (.val (.string x23.Name)), .d (.sl (W eA10Range x23.Zones)), oi x23.N, oi x23.R.Num, oi x23.R.Den, oi x23.S.Num, oi x23.S.Den] 41, .cells (ca f43) 32]) (fun y hm Kn6 hKn6 => ?_) fun t h => ?_
                 · have h := hm
                   clear hm
                   cbv
                   refine .g (e := eIi64) h (W_cons aw_ (W_cons aw_ (W_nil' _))) fun l45 h => ?_
                   cbv
                   obtain ⟨r46, hm, h⟩ := Option.bind_eq_some_iff.1 h
                   refine .embL [] (least_accept_R hP _ _ _ hm) (by (cbv; repeat (refine ⟨an_, ?_⟩; cbv))) fun sv0 own0 hq _ => ?_
                   obtain ⟨rfl, rfl⟩ := hq
                   clear hm
                   cbv
                   obtain rfl := oj h
                   refine hKn6 _ _ _ rfl (.nz (.mtE [0, 1, 2, 3, 4, 6] ?_))
                   (cbv; repeat (refine ⟨an_, ?_⟩; cbv))
                 obtain ⟨f43, ok44⟩ := t
                 cbv
                 refine brkG h ?_ ?_ <;> intro h
                 · cbv
                   refine .g (e := eFinding) h (W_cons aw_ (W_nil' _)) fun l47 h => ?_
                   cbv
                   refine .g h rfl (fun _ => rfl) (by decide) fun contrary48 h => ?_
                   cbv
                   obtain rfl := oj h
                   refine hKn5 _ _ _ rfl (.nz (.mtE [0, 1, 2, 7, 4] ?_))
                   (cbv; repeat (refine ⟨an_, ?_⟩; cbv))
                 · cbv
                   obtain rfl := oj h
                   refine hKn5 _ _ _ rfl (.nz (.mtE [0, 1, 2, 3, 4] ?_))
                   (cbv; repeat (refine ⟨an_, ?_⟩; cbv))
             obtain ⟨contrary40, rfl⟩ : ∃ z, z = t := ⟨_, rfl⟩
             cbv
             obtain rfl := oj h
             refine hKn4 _ _ _ rfl (.nz (.mtE [0, 1, 2, 3, 4] ?_))
             (cbv; repeat (refine ⟨an_, ?_⟩; cbv))
           · cbv
             obtain rfl := oj h
             obtain rfl := hr4 _ rfl
             refine hKn3 _ _ _ rfl (.nz (.mtE [0, 1, 2, 3] ?_))
             (cbv; repeat (refine ⟨an_, ?_⟩; cbv))
       obtain ⟨never20, idle21, contrary22⟩ := t
       cbv
       obtain rfl := oj h
       refine hKn2 _ _ _ rfl (.nz (.mtE [0, 1, 2, 3] ?_))
       (cbv; repeat (refine ⟨an_, ?_⟩; cbv))
     · cbv
       obtain rfl := oj h
       obtain rfl := hr2 _ rfl
       refine hKn1 _ _ _ rfl (.nz (.mtE [1, 2, 3] ?_))
       (cbv; repeat (refine ⟨an_, ?_⟩; cbv))
   obtain ⟨never13, idle14, contrary15⟩ := t
   cbv
   refine .g (e := eLFinding) h (W_cons aw_ (W_cons aw_ (W_cons aw_ (W_nil' _)))) fun l49 h => ?_
   cbv
   refine .g h (fun v hv => slices_Concat_R hP _ v hv) aw_ rfl (fun _ => rfl) fun v50 h => ?_
   cbv
   obtain rfl := oj h
   exact hK _ _ aw_
end Go.SX.Cl
